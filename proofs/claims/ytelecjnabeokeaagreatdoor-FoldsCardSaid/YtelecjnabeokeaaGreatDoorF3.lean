/- Folds answers true for every script, and the script reads as it did; condition: the package-level variables hold what the program's text lays. Part 3 of 6. -/
import Derived.Test.YtelecjnabeokeaaGreatDoorF2
set_option maxRecDepth 100000
set_option maxHeartbeats 16000000
set_option linter.defProp false
set_option linter.unusedVariables false
set_option linter.unusedSimpArgs false
namespace Go.Proofs.YtelecjnabeokeaaGreatDoor
open Go Go.Conc Go.Conc.Lib Go.RowKit Go.ConcR.Gen
def WaitE (b:Nat) (e:Event):Prop:=e.mute=true∨e=⟨.mark (.write (smC b)),false,true⟩
noncomputable def wL7:Code:=match Tryz.f28.body with | some (.seq _ (.block _ (.loop c)))=>c | _=> .skip
def fw1 (b:Nat) (cs:List Frame) (g:Goroutine):Prop:= ∃ T:Array Value,T.size=84∧T[0]? =some (.pointer (some (stC b)))∧g=G ((base 28).at ⟨T,[]⟩ [.code wL7,.inLoop wL7,.inBlock 0]) cs
def fu5 (b:Nat) (w:World) (cs:List Frame) (g:Goroutine) (w':World) (d:Nat):Prop:=w'=w∧WKE Tryz.prog true (WgLv b) (WaitE b) (fun g d=>d=1∧fw1 b cs g) g d
section
variable {b:Nat} {Shun:Loc→Prop} {St:Nat→Loc→Prop} {S:Nat→Option SeatD} {w:World}
def cz {Ψ:Goroutine→World→Nat→Prop} {g:Goroutine} {d:Nat} (hs:HasS b w) (hsh:Shun (.cell (stC b))∧Shun (.cell (smC b))) (h:WKE Tryz.prog true (WgLv b) (WaitE b) (fun g d=> ∃ n,OM Tryz.prog b Shun St S Ψ n g w d) g d): ∃ n,OM Tryz.prog b Shun St S Ψ n g w d:=by
 refine fu0 hs (fun e he=> ?_) (fun _ h=>h) h fun _ _ h=>h;rcases he with he | rfl
 · obtain ⟨l,wr,sy⟩:=e;cases l with
   | mark m=>
     cases m with
     | disable=>exact ⟨fun x hx=>jn,fun a h=>je,by cases wr <;>cases sy <;>trivial⟩
     | enable=>exact ⟨fun x hx=>jn,fun a h=>je,by cases wr <;>cases sy <;>trivial⟩
     | _=>simp [Event.mute] at he
   | _=>simp [Event.mute] at he
 · refine ⟨fun x hx=> .inl ?_,fun a h=>je,hs.lt⟩;simp [MemAct.ofEvent,MemAct.touch?] at hx;subst hx;exact ⟨hsh.2,by simp⟩
variable {St':Nat→Loc→Prop} {b₀:Frame} {a₀:Act} {k₀:List Item} {cs:List Frame} {ops₀:Array Oper} {i₀:Nat} {rest₀:List Nat} {Φ:Goroutine→World→Nat→Prop}
def ffv {g:Goroutine} (hs:HasS b w) (hsh:Shun (.cell (stC b))∧Shun (.cell (smC b)))
    (hΦ: ∃ n,OM Tryz.prog b Shun St' (fun _=>none) Φ n (G (b₀.at (a₀.put ((ops₀[i₀]?).bind (·.dst)) (.tuple #[])) (.inRegion ops₀ rest₀::k₀)) cs) w 0)
    (hg:fw1 b (b₀.at a₀ (.inRegion ops₀ (i₀::rest₀)::k₀)::cs) g):
    ∃ n,OM Tryz.prog b Shun St S (AtW1 Tryz.prog b Shun St S (fe2 Tryz.prog b Shun St' Φ) (fu5 b w (b₀.at a₀ (.inRegion ops₀ (i₀::rest₀)::k₀)::cs))) n g w 1:=by
 obtain ⟨T,hT,h0,rfl⟩:=hg;obtain ⟨v0,v1,v2,v3,v4,v5,v6,v7,v8,v9,v10,v11,v12,v13,v14,v15,v16,v17,v18,v19,v20,v21,v22,v23,v24,v25,v26,v27,v28,v29,v30,v31,v32,v33,v34,v35,v36,v37,v38,v39,v40,v41,v42,v43,v44,v45,v46,v47,v48,v49,v50,v51,v52,v53,v54,v55,v56,v57,v58,v59,v60,v61,v62,v63,v64,v65,v66,v67,v68,v69,v70,v71,v72,v73,v74,v75,v76,v77,v78,v79,v80,v81,v82,v83,rfl⟩:=array84 T hT;simp only [fy2,fx7,f03] at h0;subst h0;clear hT;unfold wL7;simp only [Tryz.f28];refine cz hs hsh ?_;refine ri rfl (fun _=>f5i) ?_;refine wq ?_;refine wr ?_;simp only [szs];refine wv (.pointer (some (stC b))) ?_;walk_nrm;refine wv (.pointer (some (stC b))) ?_;walk_nrm;refine wv (.pointer (some (stC b))) ?_;walk_nrm;refine i7 rfl rfl gh rfl Tryz.func62 fd rfl ?_;simp only [show Tryz.f62.ntmps=7 from rfl];walk_nrm;refine wq ?_;refine wr ?_;simp only [szs];refine wv (.int .u64 0) ?_;walk_nrm;refine we ?_;refine wq ?_;refine wr ?_;simp only [szs];refine wv (.pointer (some (stC b))) ?_;walk_nrm;refine wv (.pointer (some (stC b))) ?_;walk_nrm;refine wv (.pointer (some (stC b))) ?_;walk_nrm;refine ug ⟨0,rfl,fun v hv=> ?_⟩;rcases Nat.eq_zero_or_pos v with rfl | hvp
 · refine ⟨_,fun t=>stepG_load_atomic rfl rfl gh rfl wgLib.f_loadU64 (x_loadU64_n Lw) (x_loadU64_b Lw) (x_loadU64_x Lw) .u64 (x_loadU64_f Lw) rfl ((wo hs).at t).st,fun _=>cz hs hsh ?_,fun h=>absurd rfl h⟩;rw [show ((0:Nat):Int)*K32=0 from by simp];walk_nrm;refine wv (.int .u64 0) ?_;walk_nrm;refine we ?_;refine ri rfl (fun _=>f1w) ?_;refine vw (t:=2) rfl rfl Tryz.func62 rfl ?_;walk_nrm;refine wv (.int .u64 0) ?_;walk_nrm;refine we ?_;refine wq ?_;refine wr ?_;simp only [szs];refine wv (.int .u64 0) ?_;walk_nrm;refine wu (.int .u64 0) ?_;walk_nrm;refine wu (.int .i32 0) ?_;walk_nrm;refine wv (.int .i32 0) ?_;walk_nrm;refine we ?_;refine wq ?_;refine wr ?_;simp only [szs];refine wv (.int .u64 0) ?_;walk_nrm;refine wu (.int .u64 0) ?_;walk_nrm;refine wu (.int .u32 0) ?_;walk_nrm;refine wv (.int .u32 0) ?_;walk_nrm;refine we ?_;refine wq ?_;refine wq ?_;refine wr ?_;simp only [szs];refine wv (.int .i32 0) ?_;walk_nrm;refine wu (.bool true) ?_;walk_nrm;refine we ?_;refine wt ?_;refine wq ?_;refine wt ?_;refine wq ?_;refine wr ?_;simp only [szs];refine i8 .enable fi (.inl rfl) rfl rfl gh rfl wgLib.f_enable (x_enable_n Lw) (x_enable_b Lw) (x_enable_x Lw) (x_enable_f Lw) ?_;walk_nrm;refine we ?_;refine wr ?_;simp only [szs];refine wv (.pointer (some (stC b))) ?_;walk_nrm;refine faq (p:=stC b) rfl rfl Tryz.underlying128 wgLib.room_tWg (fun u hu=> ?_) rfl rfl gh ?_
   · obtain ⟨x,y,h⟩:=hu;exact ⟨_,h.st⟩
   walk_nrm;refine ug ⟨0,rfl,by first | rfl | simp [deafBehind],_,fun x y t=>f4t .acquire fi rfl rfl gh rfl wgLib.f_acquire (x_acquire_n Lw) (x_acquire_b Lw) (x_acquire_x Lw) (x_acquire_f Lw) (ad:=stC b) jh,cz hs hsh ?_⟩;walk_nrm;refine we ?_;refine wq ?_;refine wq ?_;refine wr ?_;simp only [szs];refine wv (.int .u32 0) ?_;walk_nrm;refine wu (.bool true) ?_;walk_nrm;refine wv (.bool true) ?_;walk_nrm;refine wv (.int .u64 0) ?_;walk_nrm;refine wu (.int .u64 0) ?_;walk_nrm;refine wu (.bool false) ?_;walk_nrm;refine wv (.bool false) ?_;walk_nrm;refine wv (.bool false) ?_;walk_nrm;refine wz ?_;walk_nrm;refine wz ?_;walk_nrm;refine wv (.bool false) ?_;walk_nrm;refine we ?_;refine wf ?_;refine ws ?_;refine ri rfl (fun _=>f1w) ?_;refine yo rfl rfl Tryz.func28 rfl ?_;walk_nrm;exact ug hΦ
 · obtain ⟨S,hS⟩: ∃ S:Int,S=(v:Int)*K32:=⟨_,rfl⟩;have a1:S / 4294967296=(v:Int):=by rw [hS];show (v:Int)*4294967296 / _=_;omega
   have a2:0≤S∧S<9223372036854775808:=by rw [hS];show 0≤(v:Int)*4294967296∧(v:Int)*4294967296<_;omega
   have b1:bits .and .u64 S 2147483648=0:=by rw [hS,show (v:Int)*K32=(v:Int)*4294967296+((0:Nat):Int) from (Int.add_zero _).symm];exact Go.ConcN.st_flag v 0 fe fe
   have b2:bits .and .u64 S 2147483647=0:=by rw [hS,show (v:Int)*K32=(v:Int)*4294967296+((0:Nat):Int) from (Int.add_zero _).symm];exact Go.ConcN.st_waiters v 0 fe fe
   have a3:IntKind.u64.wrap (S+1)=S+1:=by rw [IntKind.wrap_u64];omega
   have hc0: ∀ t,((wgw b w ((v:Int)*K32) 0).at t).cell? (stC b)=some (.int .u64 S):=fun t=>hS▸((wo hs).at t).st;have hc1: ∀ t,((wgw b w ((v:Int)*K32) 0).at t).setCell (stC b) (.int .u64 (S+1))=(wgw b w ((v:Int)*K32+1) 0).at t:=fun t=>by rw [hS,fbn,fbn,fdy (w:=w.at t) hs]
   have hc2: ∀ v':Nat,v'≠v→ ¬ (v':Int)*K32=S:=fun v' h=>by rw [hS];show ¬ (v':Int)*4294967296=(v:Int)*4294967296;omega
   clear hS;refine ⟨_,fun t=>stepG_load_atomic (v:=S) rfl rfl gh rfl wgLib.f_loadU64 (x_loadU64_n Lw) (x_loadU64_b Lw) (x_loadU64_x Lw) .u64 (x_loadU64_f Lw) rfl (hc0 t),fun h=>absurd h fe,fun _=>cz hs hsh ?_⟩;walk_nrm;refine wv (.int .u64 S) ?_;walk_nrm;refine we ?_;refine ri rfl (fun _=>f1w) ?_;refine vw (t:=2) rfl rfl Tryz.func62 rfl ?_;walk_nrm;refine wv (.int .u64 S) ?_;walk_nrm;refine we ?_;refine wq ?_;refine wr ?_;simp only [szs];refine wv (.int .u64 S) ?_;walk_nrm;refine wu (.int .u64 (v:Int)) ?_;walk_nrm;refine wu (.int .i32 (v:Int)) ?_;walk_nrm;refine wv (.int .i32 (v:Int)) ?_;walk_nrm;refine we ?_;refine wq ?_;refine wr ?_;simp only [szs];refine wv (.int .u64 S) ?_;walk_nrm;refine wu (.int .u64 0) ?_;walk_nrm;refine wu (.int .u32 0) ?_;walk_nrm;refine wv (.int .u32 0) ?_;walk_nrm;refine we ?_;refine wq ?_;refine wq ?_;refine wr ?_;simp only [szs];refine wv (.int .i32 (v:Int)) ?_;walk_nrm;refine wu (.bool false) ?_;walk_nrm;refine we ?_;refine wf ?_;refine ws ?_;refine wq ?_;refine wr ?_;simp only [szs];refine wv (.pointer (some (stC b))) ?_;walk_nrm;refine wv (.pointer (some (stC b))) ?_;walk_nrm;refine wv (.pointer (some (stC b))) ?_;walk_nrm;refine wv (.int .u64 S) ?_;walk_nrm;refine wv (.int .u64 S) ?_;walk_nrm;refine wu (.int .u64 (S+1)) ?_;walk_nrm;refine i7 rfl rfl gh rfl Tryz.func66 fd rfl ?_;simp only [show Tryz.f66.ntmps=13 from rfl];walk_nrm;refine wq ?_;refine wr ?_;simp only [szs];refine wv (.bool false) ?_;walk_nrm;refine we ?_;refine wq ?_;refine wr ?_;simp only [szs];refine wv (.pointer (some (stC b))) ?_;walk_nrm;refine wv (.pointer (some (stC b))) ?_;walk_nrm;refine wv (.pointer (some (stC b))) ?_;walk_nrm;refine wv (.int .u64 S) ?_;walk_nrm;refine wv (.int .u64 (S+1)) ?_;walk_nrm;refine ug ⟨0,rfl,⟨_,fun t=>(stepG_cas_hit (v:=S) (n:=S+1) rfl rfl gh rfl wgLib.f_casU64 (x_casU64_n Lw) (x_casU64_b Lw) (x_casU64_x Lw) .u64 (x_casU64_f Lw) rfl rfl rfl (hc0 t) ((wo hs).at t).fst).trans (by rw [hc1 t]),cz hs hsh ?_⟩,fun v' hv' hv2=>⟨_,fun t=>stepG_cas_miss (v:=(v':Int)*K32) (old:=S) (n:=S+1) rfl rfl gh rfl wgLib.f_casU64 (x_casU64_n Lw) (x_casU64_b Lw) (x_casU64_x Lw) .u64 (x_casU64_f Lw) rfl rfl rfl ((wo hs).at t).st ((wo hs).at t).fst (hc2 v' hv'),rfl,?_⟩⟩
   · walk_nrm;refine wv (.bool true) ?_;walk_nrm;refine we ?_;refine ri rfl (fun _=>f1w) ?_;refine vw (t:=6) rfl rfl Tryz.func66 rfl ?_;walk_nrm;refine we ?_;refine wt ?_;refine wq ?_;refine wq ?_;refine wr ?_;simp only [szs];refine wv (.bool true) ?_;walk_nrm;refine wv (.int .u32 0) ?_;walk_nrm;refine wu (.bool true) ?_;walk_nrm;refine wv (.bool true) ?_;walk_nrm;refine we ?_;refine wt ?_;refine wr ?_;simp only [szs];refine wv (.pointer (some (stC b))) ?_;walk_nrm;refine wv (.pointer (some (stC b))) ?_;walk_nrm;refine wv (.pointer (some (smC b))) ?_;walk_nrm;refine faq (p:=smC b) rfl rfl Tryz.underlying136 wgLib.room_tU32 (fun u hu=> ?_) rfl rfl gh ?_
     · obtain ⟨x,y,h⟩:=hu;exact ⟨_,h.sm⟩
     walk_nrm;refine fe4 ⟨.mark (.write (smC b)),false,true⟩ (.inr rfl) rfl (fun u _=>f4t .write fi rfl rfl gh rfl wgLib.f_raceWrite (x_raceWrite_n Lw) (x_raceWrite_b Lw) (x_raceWrite_x Lw) (x_raceWrite_f Lw) (ad:=smC b) jh) ?_;walk_nrm;refine we ?_;refine wq ?_;refine wr ?_;simp only [szs];refine wv (.bool false) ?_;walk_nrm;refine we ?_;refine wq ?_;refine wq ?_;refine wr ?_;simp only [szs];refine wv (.int .u64 S) ?_;walk_nrm;refine wu (.int .u64 0) ?_;walk_nrm;refine wu (.bool false) ?_;walk_nrm;refine wv (.bool false) ?_;walk_nrm;refine wz ?_;walk_nrm;refine wv (.bool false) ?_;walk_nrm;refine we ?_;refine wf ?_;refine ws ?_;refine wq ?_;refine wr ?_;simp only [szs];refine wv (.pointer (some (stC b))) ?_;walk_nrm;refine wv (.pointer (some (stC b))) ?_;walk_nrm;refine wv (.pointer (some (smC b))) ?_;walk_nrm;refine wv (.bool false) ?_;walk_nrm;refine ug ⟨0,rfl,rfl,fun x t=>stepG_semacquire_wait rfl rfl rfl wgLib.f_semacquire (x_semacquire_n Lw) (x_semacquire_b Lw) (x_semacquire_x Lw) (x_semacquire_f Lw) jh ((wo hs).at t).sm,_,fun t=>(stepG_semacquire (n:=1) (ad:=smC b) rfl rfl gh rfl wgLib.f_semacquire (x_semacquire_n Lw) (x_semacquire_b Lw) (x_semacquire_x Lw) (x_semacquire_f Lw) jh ((wo hs).at t).sm fu ((wo hs).at t).fsm).trans (by rw [fbn,fbn,fiy (w:=w.at t) hs,show (1:Int)-1=0 from rfl]),cz hs hsh ?_⟩;walk_nrm;refine we ?_;refine wq ?_;refine wr ?_;simp only [szs];refine wv (.pointer (some (stC b))) ?_;walk_nrm;refine wv (.pointer (some (stC b))) ?_;walk_nrm;refine wv (.pointer (some (stC b))) ?_;walk_nrm;refine i7 rfl rfl gh rfl Tryz.func62 fd rfl ?_;simp only [show Tryz.f62.ntmps=7 from rfl];walk_nrm;refine wq ?_;refine wr ?_;simp only [szs];refine wv (.int .u64 0) ?_;walk_nrm;refine we ?_;refine wq ?_;refine wr ?_;simp only [szs];refine wv (.pointer (some (stC b))) ?_;walk_nrm;refine wv (.pointer (some (stC b))) ?_;walk_nrm;refine wv (.pointer (some (stC b))) ?_;walk_nrm;refine ug ⟨0,rfl,_,fun t=>stepG_load_atomic (v:=0) rfl rfl gh rfl wgLib.f_loadU64 (x_loadU64_n Lw) (x_loadU64_b Lw) (x_loadU64_x Lw) .u64 (x_loadU64_f Lw) rfl ((wo hs).at t).st,cz hs hsh ?_⟩;walk_nrm;refine wv (.int .u64 0) ?_;walk_nrm;refine we ?_;refine ri rfl (fun _=>f1w) ?_;refine vw (t:=2) rfl rfl Tryz.func62 rfl ?_;walk_nrm;refine wv (.bool false) ?_;walk_nrm;refine wv (.bool false) ?_;walk_nrm;refine we ?_;refine wq ?_;refine wt ?_;refine wq ?_;refine wr ?_;simp only [szs];refine i8 .enable fi (.inl rfl) rfl rfl gh rfl wgLib.f_enable (x_enable_n Lw) (x_enable_b Lw) (x_enable_x Lw) (x_enable_f Lw) ?_;walk_nrm;refine we ?_;refine wr ?_;simp only [szs];refine wv (.pointer (some (stC b))) ?_;walk_nrm;refine faq (p:=stC b) rfl rfl Tryz.underlying128 wgLib.room_tWg (fun u hu=> ?_) rfl rfl gh ?_
     · obtain ⟨x,y,h⟩:=hu;exact ⟨_,h.st⟩
     walk_nrm;refine ug ⟨0,rfl,by first | rfl | simp [deafBehind],_,fun x y t=>f4t .acquire fi rfl rfl gh rfl wgLib.f_acquire (x_acquire_n Lw) (x_acquire_b Lw) (x_acquire_x Lw) (x_acquire_f Lw) (ad:=stC b) jh,cz hs hsh ?_⟩;walk_nrm;refine we ?_;refine wq ?_;refine wq ?_;refine wr ?_;simp only [szs];refine wv (.bool false) ?_;walk_nrm;refine we ?_;refine wf ?_;refine ws ?_;refine ri rfl (fun _=>f1w) ?_;refine yo rfl rfl Tryz.func28 rfl ?_;walk_nrm;exact ug hΦ
   · walk_nrm;refine wv (.bool false) ?_;walk_nrm;refine we ?_;refine ri rfl (fun _=>f1w) ?_;refine vw (t:=6) rfl rfl Tryz.func66 rfl ?_;walk_nrm;refine we ?_;refine wf ?_;refine ws ?_;refine ri rfl (fun _=>stepG_inBlock) ?_;refine ri rfl (fun _=>stepG_inLoop) ?_;exact ug ⟨rfl,_,rfl,rfl,rfl⟩
def fob {T:Array Value} (hs:HasS b w) (hsh:Shun (.cell (stC b))∧Shun (.cell (smC b))) (hT:T.size=84) (h0:T[0]? =some (.pointer (some (stC b))))
    (hΦ: ∃ n,OM Tryz.prog b Shun St' (fun _=>none) Φ n (G (b₀.at (a₀.put ((ops₀[i₀]?).bind (·.dst)) (.tuple #[])) (.inRegion ops₀ rest₀::k₀)) cs) w 0) {c:Code} (hc:Tryz.f28.body=some c):
    (∃ n,OM Tryz.prog b Shun St S (AtW1 Tryz.prog b Shun St S (fe2 Tryz.prog b Shun St' Φ) (fu5 b w (b₀.at a₀ (.inRegion ops₀ (i₀::rest₀)::k₀)::cs))) n (G ((base 28).at ⟨T,[]⟩ [.code c]) (b₀.at a₀ (.inRegion ops₀ (i₀::rest₀)::k₀)::cs)) w 0)∧
    ∀ g w' d,fu5 b w (b₀.at a₀ (.inRegion ops₀ (i₀::rest₀)::k₀)::cs) g w' d→ ∃ n,OM Tryz.prog b Shun St S (AtW1 Tryz.prog b Shun St S (fe2 Tryz.prog b Shun St' Φ) (fu5 b w (b₀.at a₀ (.inRegion ops₀ (i₀::rest₀)::k₀)::cs))) n g w' d:=by
 refine ⟨?_,?_⟩
 · refine cz hs hsh ?_;obtain ⟨v0,v1,v2,v3,v4,v5,v6,v7,v8,v9,v10,v11,v12,v13,v14,v15,v16,v17,v18,v19,v20,v21,v22,v23,v24,v25,v26,v27,v28,v29,v30,v31,v32,v33,v34,v35,v36,v37,v38,v39,v40,v41,v42,v43,v44,v45,v46,v47,v48,v49,v50,v51,v52,v53,v54,v55,v56,v57,v58,v59,v60,v61,v62,v63,v64,v65,v66,v67,v68,v69,v70,v71,v72,v73,v74,v75,v76,v77,v78,v79,v80,v81,v82,v83,rfl⟩:=array84 T hT;obtain rfl:_=c:=fy7 hc;simp only [fy2,fx7,f03] at h0;subst h0;have hd:deafBehind 0 #[⟨.mark .disable,false,true⟩]=1:=by decide
   refine wq ?_;refine wt ?_;refine wr ?_;simp only [szs];refine i8 .disable fi (.inl rfl) rfl rfl gh rfl wgLib.f_disable (x_disable_n Lw) (x_disable_b Lw) (x_disable_x Lw) (x_disable_f Lw) ?_;walk_nrm;refine we ?_;refine ri rfl (fun _=>f5i) ?_;refine ri rfl (fun _=>stepG_loop) ?_;rw [hd];exact ug (ffv hs hsh hΦ ⟨_,rfl,rfl,rfl⟩)
 · rintro g w' d ⟨rfl,h⟩;exact cz hs hsh (h.mono fun g d ⟨h1,h2⟩=>ug (by subst h1;exact ffv hs hsh hΦ h2))
end
section
variable {P:Program} {main:Bool} {K:World→Prop} {E:Event→Prop} {Φ:Goroutine→Nat→Prop} {d:Nat} {b:Frame} {a:Act} {k:List Item} {cs:List Frame} {ops:Array Oper} {i:Nat} {rest:List Nat} {o:Oper}
def fav (v:Value) (es:Array Event) (ho:ops[i]? =some o) (hw:Region.wanted o (yielded ops a.tmps)=true) (hk:b.kind≠ .early) (hr: ∀ u,K u→(execOp a.eval o).run P u= .ok (.value v) u) (he: ∀ u,K u→(execOp a.eval o).events P u #[]=es) (hE: ∀ e∈es,E e∧vl e)
    (hq:WKE P main K E Φ (G (b.at (a.put o.dst v) (.inRegion ops rest::k)) cs) d):WKE P main K E Φ (G (b.at a (.inRegion ops (i::rest)::k)) cs) d:=by
 obtain ⟨n,hq⟩:=hq;refine ⟨n+1,.inr ⟨rfl,G (b.at (a.put o.dst v) (.inRegion ops rest::k)) cs,seen P b.fn es,fun e he=>(hE e (f3e he)).1,fun u hu=> ?_,?_⟩⟩
 · rw [stepG_value ho hw hk (hr u hu)];unfold listed;rw [he u hu]
 · rw [dj (fun e he=>(hE e (f3e he)).2) d];exact hq
def faa {fn:Func} {c:Frame} {todo:List Item} (hk:b.kind= .normal∨b.kind= .deferred) (hd:a.defers=[]) (hf:P.funcs[b.fn]? =some fn) {x:Value} (hr:ResultsC P fn a.tmps x) (hq:WKE P main K E Φ (G (ur b.kind x c) cs) d):
    WKE P main K E Φ (G { b.at a todo with mode:= .returning } (c::cs)) d:=by
 refine ri rfl (fun w=> ?_) hq;obtain ⟨h1,h2⟩:=hr w
 have hT:(results fn a.tmps).runT P w #[]=(.ok x w,#[]):=by
    refine f2v ?_ h2;rw [f0d];exact h1
 have e1:stepG P main (G { b.at a todo with mode:= .returning } (c::cs)) w=GStep.after (seen P b.fn #[]) (doReturn P main { b.at a todo with mode:= .returning } (c::cs) none x w):=by
    simp [-Sem.runT_eq,G,stepG,unwind,Frame.at,hd,hf,hT]
 rw [e1,wn (by simpa [Frame.at] using hk)];have:seen P b.fn #[]= #[]:=seen_none P b.fn;rw [this];simp only [c9,ur,Frame.at,LRes.plug,GStep.after,f1t];rfl
end
section
variable {P:Program} {b:Nat} {Shun:Loc→Prop} {St:Nat→Loc→Prop} {S:Nat→Option SeatD} {w w':World} {Ψ:Goroutine→World→Nat→Prop} {g g':Goroutine} {d:Nat} {E:Event→Prop}
def KW (b:Nat) (w u:World):Prop:= ∃ x y t,u=(wgw b w x y).at t
def fl9 (hE: ∀ e,E e→EvM Shun St w.heap.size e) (h:WKE P true (KW b w) E (fun g d=> ∃ n,OM P b Shun St S Ψ n g w d) g d): ∃ n,OM P b Shun St S Ψ n g w d:=by
 obtain ⟨n,h⟩:=h
 induction n generalizing g d with
 | zero=>exact h
 | succ n ih=>
   rcases h with h | ⟨h1,g',es,h2,h3,h4⟩
   · exact h
   · obtain ⟨m,hm⟩:=ih h4;exact ⟨m+1,.inr ⟨h1,g',w,es,fun x y t=>h3 _ ⟨x,y,t,rfl⟩,w9 w,fun e he=>hE e (h2 e he),hm⟩⟩
def om_step {es:Array Event} (hr:g.status= .running) (hst: ∀ x y t,stepG P true g ((wgw b w x y).at t)= .go g' ((wgw b w' x y).at t) es) (hw:StepM b S w w') (hes: ∀ e∈es,EvM Shun St w'.heap.size e) (h: ∃ n,OM P b Shun St S Ψ n g' w' (deafBehind d es)): ∃ n,OM P b Shun St S Ψ n g w d:=by
 obtain ⟨n,h⟩:=h;exact ⟨n+1,.inr ⟨hr,g',w',es,hst,hw,hes,h⟩⟩
def fu6 {p:Addr} {x y:Int} (h:p.block≠b∨(p.off≠6∧p.off≠7)) (hv:p.spot=none):(wgw b w x y).cell? p=w.cell? p:=by
 by_cases e:p.block=b
 · rcases h with h | ⟨h6,h7⟩
   · exact absurd e h
   · unfold World.cell?;rw [e];unfold wgw;simp only [fy6,f0e];cases hb:w.heap[b]? with
     | none=>rfl
     | some o=>cases o <;>simp [hv,fy1,f3w h6,f3w h7]
 · unfold World.cell?;rw [yz e]
def foc {p:Addr} {x y:Int}:(wgw b w x y).frozen? p=w.frozen? p:=by
 unfold World.frozen?;by_cases e:p.block=b
 · rw [e];unfold wgw;simp only [fy6,f0e];cases hb:w.heap[b]? with
   | none=>rfl
   | some o=>cases o <;>simp
 · rw [yz e]
def fla {p:Addr} {x y:Int} {v:Value} (h:p.block≠b∨(p.off≠6∧p.off≠7)) (hv:p.spot=none):(wgw b w x y).setCell p v=wgw b (w.setCell p v) x y:=by
 unfold World.setCell wgw;simp only [f5a,f2i,true_and];apply f0v;intro i;simp only [fy6];by_cases e:b=i
 · subst e;by_cases e':p.block=b
   · rcases h with h | ⟨h6,h7⟩
     · exact absurd e' h
     · simp only [e',f0e];cases hb:w.heap[b]? with
       | none=>rfl
       | some o=>
         cases o <;>simp [hv];apply f0v;intro j;simp only [fy1,f00];by_cases e1:7=j
         · subst e1;simp [h7]
         · by_cases e2:6=j
           · subst e2;simp [h6]
           · simp [e1,e2]
   · simp only [f0e,fx9 e']
 · simp only [fx9 e]
end
section
variable {b:Nat} {Shun:Loc→Prop} {St:Nat→Loc→Prop} {S:Nat→Option SeatD} {w w':World} {Ψ:Goroutine→World→Nat→Prop} {d:Nat} {c:Frame} {cs:List Frame}
def EvU (p:Addr) (e:Event):Prop:=e.mute=true∨e=⟨.cell p,false,false⟩∨e=⟨.mark (.releaseMerge p),false,true⟩
def fu7 {n:Nat} {e:Event} (he:e.mute=true):EvM Shun St n e:=by
 obtain ⟨l,wr,sy⟩:=e;cases l with
 | mark m=>
   cases m with
   | disable=>exact ⟨fun x hx=>jn,fun a h=>je,by cases wr <;>cases sy <;>trivial⟩
   | enable=>exact ⟨fun x hx=>jn,fun a h=>je,by cases wr <;>cases sy <;>trivial⟩
   | _=>simp [Event.mute] at he
 | _=>simp [Event.mute] at he
def fu8 {n:Nat} {p:Addr} (hst: ∀ g,¬ St g (.cell p)) (hns: ¬ Shun (.cell p)) (hp:p.block<n) (wr sy:Bool):EvM Shun St n ⟨.cell p,wr,sy⟩:=by
 refine ⟨fun x hx=> .inr ?_,fun a h=>je,by cases wr <;>cases sy <;>exact hp⟩;cases wr <;>cases sy <;>(simp [MemAct.ofEvent,MemAct.touch?] at hx;subst hx;exact ⟨fun g h=>absurd h (hst g),hns⟩)
def fw2 {n:Nat} {p:Addr} (hns: ¬ Shun (.cell p)) (hp:p.block<n) (sy:Bool):EvM Shun St n ⟨.cell p,false,sy⟩:=by
 refine ⟨fun x hx=> .inr ?_,fun a h=>je,by cases sy <;>exact hp⟩;cases sy <;>(simp [MemAct.ofEvent,MemAct.touch?] at hx;subst hx;exact ⟨fun g h=>rfl,hns⟩)
def fr3 {n:Nat} {p:Addr} (hns: ¬ Shun (.cell p)) (hp:p.block<n) {e:Event} (h:EvU p e):EvM Shun St n e:=by
 rcases h with h | rfl | rfl
 · exact fu7 h
 · exact fw2 hns hp false
 · exact ⟨fun x hx=>pl,fun a h=>je,hp⟩
def fjc {p:Addr} {v:Value} (hp:p.spot=none) (h:HasS b w):HasS b (w.setCell p v):=by
 obtain ⟨c,e,h,hc⟩:=h;by_cases e':p.block=b
 · exact ⟨c.setIfInBounds p.off v,e,by simp [World.setCell,fy6,e',h,hp],by simpa using hc⟩
 · exact ⟨c,e,by simp [World.setCell,fy6,e',h],hc⟩
def fh2 {p:Addr} {v:Value} (hp:p.spot=none) (hS: ∀ i s,S i=some s→s.c≠p.block∧s.D p.block=none):StepM b S w (w.setCell p v):=by
 refine ⟨by simp [World.setCell],fun i s h=>⟨?_,fun c o hc=> ?_⟩,fjc hp⟩
 · have:p.block≠s.c:=fun e=>(hS i s h).1 e.symm;simp [World.setCell,fy6,this]
 · have:p.block≠c:=by rintro rfl;rw [(hS i s h).2] at hc;cases hc
   simp [World.setCell,fy6,this]
def faw {p:Addr} {u:World} (hp:p.block≠b∨(p.off≠6∧p.off≠7)) (hv:p.spot=none) (hu:KW b w u):u.cell? p=w.cell? p:=by
 obtain ⟨x,y,t,rfl⟩:=hu;exact fu6 hp hv
def fjd {u:World} {p:Addr} {v:Value} (h:u.cell? p=some v):p.spot=none:=by
 unfold World.cell? at h;split at h
 · split at h
   · cases h
   · rename_i h1;simpa using h1
 · cases h
def fr4 {p:Addr} {args:Array Value} {kind:CallKind} (hk:kind= .normal∨kind= .deferred) (hp:args.getD 0 undef= .pointer (some p)) (hpb:p.block≠b∨(p.off≠6∧p.off≠7)) (hc:w.cell? p=some (.int .i32 1)) (hz:w.frozen? p=false)
    (hst: ∀ g,¬ St g (.cell p)) (hns: ¬ Shun (.cell p)) (hS: ∀ i s,S i=some s→s.c≠p.block∧s.D p.block=none)
    (h: ∃ n,OM Tryz.prog b Shun St S Ψ n (G (ur kind (.tuple #[]) c) cs) (w.setCell p (.int .i32 0)) d): ∃ n,OM Tryz.prog b Shun St S Ψ n (G (Frame.enter Tryz.prog 58 args kind) (c::cs)) w d:=by
 have hk':kind≠ .early:=by rcases hk with rfl | rfl <;>simp
 have hlt:p.block<w.heap.size:=zq hc;have hv:p.spot=none:=fjd hc;rw [enter_at Tryz.func58 rfl];obtain ⟨L,hlen,hL,h0⟩:=fa5 args Tryz.f58.ntmps;rw [hL];have hlen:21≤L.length:=hlen;rcases L with _ | ⟨x0,_ | ⟨x1,_ | ⟨x2,_ | ⟨x3,_ | ⟨x4,_ | ⟨x5,_ | ⟨x6,_ | ⟨x7,_ | ⟨x8,_ | ⟨x9,_ | ⟨x10,_ | ⟨x11,_ | ⟨x12,_ | ⟨x13,_ | ⟨x14,_ | ⟨x15,_ | ⟨x16,_ | ⟨x17,_ | ⟨x18,_ | ⟨x19,_ | ⟨x20,tl⟩⟩⟩⟩⟩⟩⟩⟩⟩⟩⟩⟩⟩⟩⟩⟩⟩⟩⟩⟩⟩ <;>first | (simp at hlen;done) | skip
 have hx0:=(h0 0).trans hp;simp only [f1y] at hx0;subst hx0;have hcu: ∀ u,KW b w u→u.cell? p=some (.int .i32 1):=fun u hu=>(faw hpb hv hu).trans hc;refine fl9 (E:=EvU p) (fun e he=>fr3 hns hlt he) ?_;refine ri rfl (fun _=>f4d) (ri rfl (fun _=>stepG_cond (t:=true) rfl) (ri rfl (fun _=>f4d) (ri rfl (fun _=>f2o) ?_)));refine ww (.pointer (some p)) rfl rfl hk' (fun _ _=>by go_simp) (fun _ _=>by simp [go_sem]) ?_;refine ww (.pointer (some p)) rfl rfl hk' (fun _ _=>by go_simp) (fun _ _=>by simp [go_sem]) ?_;refine ww (.pointer (some p)) rfl rfl hk' (fun _ _=>by go_simp) (fun _ _=>by simp [go_sem]) ?_;refine fav (.int .i32 1) #[⟨.cell p,false,false⟩] rfl rfl hk' (fun u hu=>by have:=hcu u hu;go_simp) (fun u hu=>by have:=hcu u hu;simp [go_sem,this]) (fun e he=>by simp at he;subst he;exact ⟨.inr (.inl rfl),by simp [vl]⟩) ?_;walk_nrm;refine ri rfl (fun _=>f1o) (ri rfl (fun _=>f4d) (ri rfl (fun _=>f2o) ?_));refine ww (.pointer (some p)) rfl rfl hk' (fun _ _=>by go_simp) (fun _ _=>by simp [go_sem]) ?_;refine faq (p:=p) rfl rfl Tryz.underlying172 Tryz.room62 (fun u hu=>⟨_,hcu u hu⟩) rfl rfl hk' ?_;refine fe4 ⟨.mark (.releaseMerge p),false,true⟩ (.inr (.inr rfl)) rfl (fun u _=>f4t .releaseMerge fi rfl rfl hk' rfl Tryz.func97 fd fd fd fd (by simp [Act.put,Act.eval])) ?_;walk_nrm;refine ri rfl (fun _=>f1o) (ri rfl (fun _=>f2o) ?_);refine i8 .disable fi (.inl rfl) rfl rfl hk' rfl Tryz.func61 fd fd fd fd ?_;walk_nrm;refine ri rfl (fun _=>f1o) (ri rfl (fun _=>f4d) (ri rfl (fun _=>f2o) ?_));refine ww (.pointer (some p)) rfl rfl hk' (fun _ _=>by go_simp) (fun _ _=>by simp [go_sem]) ?_;refine ww (.pointer (some p)) rfl rfl hk' (fun _ _=>by go_simp) (fun _ _=>by simp [go_sem]) ?_;refine ww (.pointer (some p)) rfl rfl hk' (fun _ _=>by go_simp) (fun _ _=>by simp [go_sem]) ?_;have e0:IntKind.i32.wrap (1+ -1)=0:=by decide
 have hzx: ∀ x y t,((wgw b w x y).at t).frozen? p=false:=fun x y t=>by
    have:((wgw b w x y).at t).frozen? p=(wgw b w x y).frozen? p:=rfl;rw [this,foc];exact hz
 refine ug (om_step (w':=w.setCell p (.int .i32 0)) (es:= #[⟨.cell p,false,true⟩,⟨.cell p,true,true⟩]) rfl (fun x y t=>(stepG_add_atomic (v:=1) (d:= -1) rfl rfl hk' rfl Tryz.func98 fd fd fd .i32 fd rfl rfl (hcu _ ⟨x,y,t,rfl⟩) (hzx x y t)).trans (by
  rw [e0,fbn,fbn,fla (w:=w.at t) hpb hv];rfl))
    (fh2 hv hS) (fun e he=>by simp at he;rcases he with rfl | rfl <;>exact fu8 hst hns jy _ _) ?_)
 walk_nrm;refine fl9 (E:=EvU p) (fun e he=>fr3 hns jy he) ?_;refine ww (.int .i32 0) rfl rfl hk' (fun _ _=>by go_simp) (fun _ _=>by simp [go_sem]) ?_;walk_nrm;refine ri rfl (fun _=>f1o) (ri rfl (fun _=>f4d) (ri rfl (fun _=>f4d) (ri rfl (fun _=>f2o) ?_)));refine ww (.int .i32 0) rfl rfl hk' (fun _ _=>by go_simp) (fun _ _=>by simp [go_sem]) ?_;refine ww (.bool false) rfl rfl hk' (fun _ _=>by go_simp) (fun _ _=>by simp [go_sem]) ?_;walk_nrm;refine ri rfl (fun _=>f1o) (ri rfl (fun _=>stepG_cond (t:=false) rfl) (ri rfl (fun _=>stepG_skip) (ri rfl (fun _=>f2o) ?_)));refine i8 .enable fi (.inl rfl) rfl rfl hk' rfl Tryz.func63 fd fd fd fd ?_;walk_nrm;refine ri rfl (fun _=>f1o) (ri rfl (fun _=>f4e) (faa hk rfl Tryz.func58 (f2z Tryz.results58 _) (ug ?_)));exact h
end
end Go.Proofs.YtelecjnabeokeaaGreatDoor
namespace Go.Proofs.YtelecjnabeokeaaGreatDoor
open Go Go.Conc
open Go.ConcN (sumTo upd sumTo_upd upd_ne upd_same RelBy le_sumTo)
def fax (b:Nat) (Shun:Loc→Prop):Loc→Prop:=fun l=>Shun l∨l= .cell (stC b)∨l= .cell (smC b)
open Classical in
noncomputable def RB (S:Nat→Option SeatD):Nat→Nat:=fun i=>if S i=none then (if i=0 then 0 else 1) else 8
section
variable {P:Program} {b:Nat} {Shun:Loc→Prop} {St:Nat→Loc→Prop} {S:Nat→Option SeatD} {q:Nat→Nat} {a:Goroutine} {T:Trace} {gs:Array Goroutine} {w:World}
def RB_le (S:Nat→Option SeatD) (i:Nat):RB S i≤1∨RB S i=8:=by
 unfold RB;split
 · split <;>simp
 · simp
def fr5 (C:Hold P St Shun u5 S 0 a T gs w q) (hs:HasS b w) (hap: ∀ i s,S i=some s→s.D b=none∧s.c≠b) (hst: ∀ g,¬ St g (.cell (stC b))∧ ¬ St g (.cell (smC b)))
    (hafter: ∀ i s,S i=some s→ ∀ g2,s.home g2→ ∃ m,WB P (WgLv b) (AtRel P b) m (Go.Conc.served g2 (recvd s.ok s.z false)) 0):
    Bye P b (fax b Shun) St (fun i=>S i≠none) T.size S (RB S) q a T gs w:=by
 refine ⟨fun i g hi hg=> ?_,C.here,?_,C.crew.rows,C.crew.keeps,hap,C.crew.inj,C.crew.low,C.crew.above,hs,⟨.inr (.inl rfl),.inr (.inr rfl)⟩,fun k hk e=> ?_,fx8 _,hafter,C.none,?_⟩
 · have hid:=C.crew.idle i g hi hg;cases e:S i with
   | none=>
     rw [e] at hid;have:RB S i=1:=by unfold RB;rw [f02 e,fx9 hi]
     rw [this];exact .out (fun h=>absurd e h) hid.2
   | some s=>
     rw [e] at hid;have:RB S i=8:=by unfold RB;rw [fx9 pb]
     rw [this];obtain ⟨k,hk⟩:=C.crew.chans i s e;have hi0:(i==0)=false:=by simp [hi]
     have hid:Sits P (i==0) (Keeps s.D) (St i) s.B s.seat (q i) g:=hid;rw [hi0] at hid;exact .sit hid hk (C.crew.hear i s e)
 · refine ⟨C.past.clean,fun i t ht hm=> ?_,C.past.wrote,fun g l hs=> ?_,C.past.hears,C.past.seen⟩
   · rcases C.past.known i t ht hm with h | h | ⟨h1,h2⟩
     · exact .inl h
     · exact .inr (.inl h)
     · exact .inr (.inr ⟨.inl h1,h2⟩)
   · rintro (h | rfl | rfl)
     · exact C.past.apart g l hs h
     · exact (hst g).1 hs
     · exact (hst g).2 hs
 · have:=lt_of_act? e;omega
 · unfold RB;rw [f02 C.none];simp
def VC_row {n j0 m:Nat} (h: ∀ i,i<n→(S i≠none↔j0≤i∧i<j0+m)) (hn:j0+m≤n):VC n (RB S)=m:=by
 have hc: ∀ i,i<n→cntR (RB S i)=if j0≤i∧i<j0+m then 1 else 0:=fun i hi=>by
    unfold cntR RB;by_cases e:S i=none
    · rw [f02 e,fx9 (fun hh=>(h i hi).2 hh e)];by_cases e0:i=0
      · rw [f02 e0];simp
      · rw [fx9 e0];simp
    · rw [fx9 e,f02 ((h i hi).1 e)];simp
 have key: ∀ k,k≤n→sumTo k (fun i=>cntR (RB S i))=min (k-j0) m:=by
    intro k
    induction k with
    | zero=>intro _;simp [sumTo]
    | succ k ih=>
      intro hk;show sumTo k (fun i=>cntR (RB S i))+cntR (RB S k)=_;rw [ih fe,hc k fe];split <;>omega
 show sumTo n (fun i=>cntR (RB S i))=m;rw [key n (fx8 _)];omega
end
end Go.Proofs.YtelecjnabeokeaaGreatDoor
namespace Go.Proofs.YtelecjnabeokeaaGreatDoor
open Go Go.Conc Go.RowKit
noncomputable def ffb:Code:=match Tryz.f12.body with | some (.seq _ (.seq _ (.seq _ (.seq _ c))))=>c | _=> .skip
section
variable {main:Bool} {H:Hide} {Shun:Loc→Prop} {Φ:Goroutine→World→Nat→Prop} {w w1:World} {n:Nat} {X:Frame} {cs:List Frame} {k:List Item} {a:Act} {ops:Array Oper} {i:Nat} {rest:List Nat} {o:Oper}
def flb {fr:Frame} {f:FuncId} {fn:Func} {c:Code} {args:Array Operand} {ats:Array TypeId} (ho:ops[i]? =some o) (hw:Region.wanted o (yielded ops a.tmps)=true) (hk:fr.kind≠ .early) (hop:o.op= .call { callee:= .value (.func f),args:=args,argTypes:=ats })
    (hf:Tryz.prog.funcs[f]? =some fn) (hname:(fn.name== "runtime.NumGoroutine")=false) (hb:fn.body=some c) (h:OG Tryz.prog main H Shun Φ (G (Frame.enter Tryz.prog f (args.map a.eval) .normal) (fr.at a (.inRegion ops (i::rest)::k)::cs)) w n):
    OG Tryz.prog main H Shun Φ (G (fr.at a (.inRegion ops (i::rest)::k)) cs) w n:=io rfl (fun u=>by
 have hb':fn.body.isNone=false:=by rw [hb];rfl
 rw [stepG_enter ho hw hk (run_call_body hop hf hname hb')];have:listed Tryz.prog fr.fn a o u= #[]:=by unfold listed;rw [events_call_body hop hf hname hb'];exact seen_none Tryz.prog _
 rw [this]) h
def fu9 {b:Nat} {c:Array Value} {e:TypeId} (hH:H b=none) (hb:w.heap[b]? =some (.cells c e (0,0))) (h0:c[0]? =some (.int .i32 0)) (h5:c[5]? =some (.bool false))
    (h: ∀ T:Array Value,T.size=43→T[0]? =some (.pointer (some ⟨b,0,none⟩))→OG Tryz.prog main H Shun Φ (G ((base 12).at ⟨T,[dcall 26 #[.pointer (some ⟨b,0,none⟩)]]⟩ [.code ffb]) (X::cs)) ((w.setCell ⟨b,0,none⟩ (.int .i32 1)).setCell ⟨b,5,none⟩ (.bool true)) n):
    OG Tryz.prog main H Shun Φ (G (Frame.enter Tryz.prog 12 #[.pointer (some ⟨b,0,none⟩)] .normal) (X::cs)) w n:=by
 have hlt:b<w.heap.size:=(fx5.1 hb).1;have hc0:w.cell? ⟨b,0,none⟩=some (.int .i32 0):=by simp [World.cell?,hb,h0]
 have hz: ∀ o,w.frozen? ⟨b,o,none⟩=false:=fun o=>by simp [World.frozen?,hb]
 rw [enter_at Tryz.func12 rfl];simp only [show Tryz.f12.ntmps=43 from rfl];walk_nrm;refine uv (rm ?_);simp only [szs];refine ov (.pointer (some ⟨b,0,none⟩)) w ?_;walk_nrm;refine ov (.pointer (some ⟨b,0,none⟩)) w ?_;walk_nrm;refine ov (.pointer (some ⟨b,0,none⟩)) w ?_;walk_nrm;refine flb rfl rfl gh rfl Tryz.func25 fd rfl ?_;rw [enter_at Tryz.func25 rfl];simp only [show Tryz.f25.ntmps=6 from rfl];walk_nrm;refine rm ?_;simp only [szs];refine ov (.pointer (some ⟨b,0,none⟩)) w ?_;walk_nrm;refine ov (.pointer (some ⟨b,0,none⟩)) w ?_;walk_nrm;refine ov (.pointer (some ⟨b,0,none⟩)) w ?_;walk_nrm;refine flb rfl rfl gh rfl Tryz.func57 fd rfl ?_;refine fqr (p:=⟨b,0,none⟩) (.inl rfl) jh hH hc0 (hz 0) ?_;obtain ⟨w2,hw2⟩: ∃ w2,w2=w.setCell ⟨b,0,none⟩ (.int .i32 1):=⟨_,rfl⟩;rw [← hw2] at h ⊢;have hb2:w2.heap[b]? =some (.cells (c.setIfInBounds 0 (.int .i32 1)) e (0,0)):=by rw [hw2];simp [World.setCell,fy6,hb]
 have hlt2:b<w2.heap.size:=(fx5.1 hb2).1;have hc5:w2.cell? ⟨b,5,none⟩=some (.bool false):=by simp [World.cell?,hb2,h5,fy1]
 have hz2: ∀ o,w2.frozen? ⟨b,o,none⟩=false:=fun o=>by simp [World.frozen?,hb2]
 clear hw2;simp only [ur,Touch.on,f0e,f0i];walk_nrm;refine u7 (fiu (ze (.inl rfl) rfl Tryz.func25 (f2z Tryz.results25 _) ?_));simp only [ur,Touch.on,f0e,f0i];walk_nrm;refine u7 (uv (rm ?_));simp only [szs];refine ov (.pointer (some ⟨b,0,none⟩)) w2 ?_;walk_nrm;refine ov (.pointer (some ⟨b,0,none⟩)) w2 ?_;walk_nrm;refine ov (.pointer (some ⟨b,0,none⟩)) w2 ?_;walk_nrm;refine io rfl (fun _=>stepG_defer rfl rfl gh rfl) ?_;walk_nrm;refine u7 (uv (uv (rm ?_)));simp only [szs];refine ov (.pointer (some ⟨b,0,none⟩)) w2 ?_;walk_nrm;refine ov (.pointer (some ⟨b,0,none⟩)) w2 ?_;walk_nrm;refine ov (.pointer (some ⟨b,5,none⟩)) w2 ?_;walk_nrm;have hcd: ∀ d,(w2.at d).cell? ⟨b,5,none⟩=some (.bool false):=fun d=>hc5;refine qz (x:= .bool false) (w1:=w2) rfl rfl gh (fun d=>by have:=hcd d;go_simp) (fx8 _) (fun _ _=>rfl) (fun d e he=>by simp [go_sem,hcd] at he;subst he;exact ⟨xh hH hlt2 _ _,by simp [vl]⟩) ?_;walk_nrm;refine u7 (xl (t:=false) rfl (oa (uv (rm ?_))));simp only [szs];refine ov (.pointer (some ⟨b,0,none⟩)) w2 ?_;walk_nrm;refine ov (.pointer (some ⟨b,0,none⟩)) w2 ?_;walk_nrm;refine ov (.pointer (some ⟨b,5,none⟩)) w2 ?_;walk_nrm;obtain ⟨s1,s2⟩:=ai (w:=w2) (p:=⟨b,5,none⟩) hH (.bool true);have hzd: ∀ d,(w2.at d).frozen? ⟨b,5,none⟩=false:=fun d=>hz2 5
 refine fl5 (w1:=w2.setCell ⟨b,5,none⟩ (.bool true)) rfl rfl gh (fun d=>by have:=hcd d;have:=hzd d;clear h;go_simp;rfl) s1 s2 (fun d e he=>by
    simp [go_sem,hzd,hcd] at he;rw [events_store Tryz.prog (w2.at d) #[] ⟨b,5,none⟩ (.bool true) .plain rfl] at he;simp [storedEv,hzd,hcd] at he;subst he;exact ⟨xh hH (by simpa [World.setCell] using hlt2) _ _,by simp [vl]⟩) ?_
 walk_nrm;refine u7 ?_;exact h _ rfl rfl
end
open Go.Conc.Lib Go.ConcR.Gen
def fe9 (T:Array Value) (h:T.size=43): ∃ v0 v1 v2 v3 v4 v5 v6 v7 v8 v9 v10 v11 v12 v13 v14 v15 v16 v17 v18 v19 v20 v21 v22 v23 v24 v25 v26 v27 v28 v29 v30 v31 v32 v33 v34 v35 v36 v37 v38 v39 v40 v41 v42:Value,T= #[v0,v1,v2,v3,v4,v5,v6,v7,v8,v9,v10,v11,v12,v13,v14,v15,v16,v17,v18,v19,v20,v21,v22,v23,v24,v25,v26,v27,v28,v29,v30,v31,v32,v33,v34,v35,v36,v37,v38,v39,v40,v41,v42]:=by
 obtain ⟨l⟩:=T;simp only [f3s] at h;rcases l with _ | ⟨v0,l⟩
 · simp at h
 rcases l with _ | ⟨v1,l⟩
 · simp at h
 rcases l with _ | ⟨v2,l⟩
 · simp at h
 rcases l with _ | ⟨v3,l⟩
 · simp at h
 rcases l with _ | ⟨v4,l⟩
 · simp at h
 rcases l with _ | ⟨v5,l⟩
 · simp at h
 rcases l with _ | ⟨v6,l⟩
 · simp at h
 rcases l with _ | ⟨v7,l⟩
 · simp at h
 rcases l with _ | ⟨v8,l⟩
 · simp at h
 rcases l with _ | ⟨v9,l⟩
 · simp at h
 rcases l with _ | ⟨v10,l⟩
 · simp at h
 rcases l with _ | ⟨v11,l⟩
 · simp at h
 rcases l with _ | ⟨v12,l⟩
 · simp at h
 rcases l with _ | ⟨v13,l⟩
 · simp at h
 rcases l with _ | ⟨v14,l⟩
 · simp at h
 rcases l with _ | ⟨v15,l⟩
 · simp at h
 rcases l with _ | ⟨v16,l⟩
 · simp at h
 rcases l with _ | ⟨v17,l⟩
 · simp at h
 rcases l with _ | ⟨v18,l⟩
 · simp at h
 rcases l with _ | ⟨v19,l⟩
 · simp at h
 rcases l with _ | ⟨v20,l⟩
 · simp at h
 rcases l with _ | ⟨v21,l⟩
 · simp at h
 rcases l with _ | ⟨v22,l⟩
 · simp at h
 rcases l with _ | ⟨v23,l⟩
 · simp at h
 rcases l with _ | ⟨v24,l⟩
 · simp at h
 rcases l with _ | ⟨v25,l⟩
 · simp at h
 rcases l with _ | ⟨v26,l⟩
 · simp at h
 rcases l with _ | ⟨v27,l⟩
 · simp at h
 rcases l with _ | ⟨v28,l⟩
 · simp at h
 rcases l with _ | ⟨v29,l⟩
 · simp at h
 rcases l with _ | ⟨v30,l⟩
 · simp at h
 rcases l with _ | ⟨v31,l⟩
 · simp at h
 rcases l with _ | ⟨v32,l⟩
 · simp at h
 rcases l with _ | ⟨v33,l⟩
 · simp at h
 rcases l with _ | ⟨v34,l⟩
 · simp at h
 rcases l with _ | ⟨v35,l⟩
 · simp at h
 rcases l with _ | ⟨v36,l⟩
 · simp at h
 rcases l with _ | ⟨v37,l⟩
 · simp at h
 rcases l with _ | ⟨v38,l⟩
 · simp at h
 rcases l with _ | ⟨v39,l⟩
 · simp at h
 rcases l with _ | ⟨v40,l⟩
 · simp at h
 rcases l with _ | ⟨v41,l⟩
 · simp at h
 rcases l with _ | ⟨v42,l⟩
 · simp at h
 obtain rfl:l=[]:=f1a qv;exact ⟨v0,v1,v2,v3,v4,v5,v6,v7,v8,v9,v10,v11,v12,v13,v14,v15,v16,v17,v18,v19,v20,v21,v22,v23,v24,v25,v26,v27,v28,v29,v30,v31,v32,v33,v34,v35,v36,v37,v38,v39,v40,v41,v42,rfl⟩
structure StopW (b sb ab n cp c0:Nat) (kb ch:Nat→Nat) (w:World):Prop where
 ses: ∃ c e,w.heap[b]? =some (.cells c e (0,0))∧c.size=8∧c[0]? =some (.int .i32 1)∧c[2]? =some (.slice (some ⟨ab,0,none⟩) n cp)∧c[3]? =some (.pointer (some ⟨sb,0,none⟩))
 srv:w.cell? ⟨sb,5,none⟩=some (.chan (some c0))
 cl: ∀ i,i<n→w.cell? ⟨ab,i,none⟩=some (.pointer (some ⟨kb i,0,none⟩))∧w.cell? ⟨kb i,10,none⟩=some (.chan (some (ch i)))
 apart:sb≠b∧ab≠b∧ ∀ i,i<n→kb i≠b
 small:n<4611686018427387904
def fea (b:Nat) (w:World) (c:Nat) (Next:Goroutine→Prop) (g:Goroutine) (w':World) (d:Nat):Prop:=
 w'=w∧d=0∧g.status= .running∧mayWake Tryz.prog g=true∧ ∃ g',(∀ k,w.heap[c]? =some (.chan 0 #[] false k k false)→ ∀ x y t,stepG Tryz.prog true g ((wgw b w x y).at t)= .go g' ((wgw b (vv w c k) x y).at t) (closeEvents c))∧
    g'.status= .running∧Next g'
abbrev ffw (b:Nat):List Deferred:=[dcall 26 #[.pointer (some ⟨b,0,none⟩)]]
noncomputable def flc:Code:=match ffb with | .seq _ c=>c | _=> .skip
noncomputable def z0a:Code:=match flc with | .seq (.seq _ (.block _ (.loop c))) _=>c | _=> .skip
noncomputable def fr6:Code:=match flc with | .seq _ c=>c | _=> .skip
noncomputable def stop9:Code:=match z0a with | .seq _ (.seq _ (.seq _ c))=>c | _=> .skip
def fh3 (b:Nat) (cs:List Frame) (g:Goroutine):Prop:= ∃ (T:Array Value) (ops:Array Oper),g=G ((base 12).at ⟨T,ffw b⟩ [.inRegion ops [],.code flc]) cs∧T.size=43∧T[0]? =some (.pointer (some ⟨b,0,none⟩))
def fab (b ab n cp i:Nat) (cs:List Frame) (g:Goroutine):Prop:= ∃ T:Array Value,g=G ((base 12).at ⟨T,ffw b⟩ [.code z0a,.inLoop z0a,.inBlock 0,.code fr6]) cs∧
 T.size=43∧T[0]? =some (.pointer (some ⟨b,0,none⟩))∧T[28]? =some (.slice (some ⟨ab,0,none⟩) n cp)∧T[29]? =some (.int .i64 n)∧T[30]? =some (.int .i64 i)
def fh4 (b ab n cp i:Nat) (cs:List Frame) (g:Goroutine):Prop:= ∃ (T:Array Value) (ops:Array Oper),g=G ((base 12).at ⟨T,ffw b⟩ [.inRegion ops [],.inBlock 1,.code stop9,.inLoop z0a,.inBlock 0,.code fr6]) cs∧
 T.size=43∧T[0]? =some (.pointer (some ⟨b,0,none⟩))∧T[28]? =some (.slice (some ⟨ab,0,none⟩) n cp)∧T[29]? =some (.int .i64 n)∧T[30]? =some (.int .i64 i)
def EvR (Shun:Loc→Prop) (w:World) (e:Event):Prop:= ∃ p:Addr,e=⟨.cell p,false,false⟩∧ ¬ Shun (.cell p)∧p.block<w.heap.size
section
variable {b sb ab n cp c0:Nat} {kb ch:Nat→Nat} {Shun:Loc→Prop} {St:Nat→Loc→Prop} {S:Nat→Option SeatD} {w:World} {cs:List Frame} {Ψ:Goroutine→World→Nat→Prop}
def fje {p:Addr} {v:Value} (h:((wgw b w 0 0).at 0).cell? p=some v):p.block<w.heap.size:=by
 have:=zq h;rwa [show ((wgw b w 0 0).at 0).heap.size=w.heap.size from fgx] at this
def fua {e:Event} (h:EvR Shun w e):EvM Shun St w.heap.size e:=by
 obtain ⟨p,rfl,h1,h2⟩:=h;exact fw2 h1 h2 false
def fle {c k:Nat} {x y:Int} {t:Nat} (h:c≠b):((wgw b w x y).at t).setChan c 0 #[] true k k false=(wgw b (vv w c k) x y).at t:=by
 rw [fbn,fbn];unfold World.setChan wgw vv;simp only [f5a,f2i,true_and,World.at];apply f0v;intro i;simp only [fy6,fy1,f5u];by_cases e:c=i
 · subst e;simp only [f0e,fx9 (f3w h)]
 · simp only [fx9 e]
def StopW.at2 (Z:StopW b sb ab n cp c0 kb ch w): ∀ u,KW b w u→u.cell? ⟨b,2,none⟩=some (.slice (some ⟨ab,0,none⟩) n cp):=fun u hu=>by
 obtain ⟨c,e,h,_,_,h2,_⟩:=Z.ses;rw [faw (.inr ⟨by simp,by simp⟩) rfl hu];simp [World.cell?,h,h2]
def StopW.at3 (Z:StopW b sb ab n cp c0 kb ch w): ∀ u,KW b w u→u.cell? ⟨b,3,none⟩=some (.pointer (some ⟨sb,0,none⟩)):=fun u hu=>by
 obtain ⟨c,e,h,_,_,_,h3⟩:=Z.ses;rw [faw (.inr ⟨by simp,by simp⟩) rfl hu];simp [World.cell?,h,h3]
def StopW.atS (Z:StopW b sb ab n cp c0 kb ch w): ∀ u,KW b w u→u.cell? ⟨sb,5,none⟩=some (.chan (some c0)):=fun u hu=>by
 rw [faw (.inl Z.apart.1) rfl hu];exact Z.srv
def StopW.atA (Z:StopW b sb ab n cp c0 kb ch w) {i:Nat} (hi:i<n): ∀ u,KW b w u→u.cell? ⟨ab,i,none⟩=some (.pointer (some ⟨kb i,0,none⟩)):=fun u hu=>by
 rw [faw (.inl Z.apart.2.1) rfl hu];exact (Z.cl i hi).1
def StopW.atK (Z:StopW b sb ab n cp c0 kb ch w) {i:Nat} (hi:i<n): ∀ u,KW b w u→u.cell? ⟨kb i,10,none⟩=some (.chan (some (ch i))):=fun u hu=>by
 rw [faw (.inl (Z.apart.2.2 i hi)) rfl hu];exact (Z.cl i hi).2
def fh5:(Tryz.prog.funcs[12]?).any (·.norace)=false:=by rw [Tryz.func12];rfl
def ffx {ops:Array Oper} {i:Nat} {rest:List Nat} {o:Oper} {a:Act} {kk:List Item} {c k t:Nat} {x y:Int} {z:Operand} {ats:Array TypeId} (ho:ops[i]? =some o) (hw:Region.wanted o (yielded ops a.tmps)=true) (hop:o.op= .call { callee:= .builtin .close,args:= #[z],argTypes:=ats }) (hx:a.eval z= .chan (some c))
    (hne:c≠b) (hk:w.heap[c]? =some (.chan 0 #[] false k k false)):stepG Tryz.prog true (G ((base 12).at a (.inRegion ops (i::rest)::kk)) cs) ((wgw b w x y).at t)= .go (G ((base 12).at (a.put o.dst (.tuple #[])) (.inRegion ops rest::kk)) cs) ((wgw b (vv w c k) x y).at t) (closeEvents c):=by
 have hk':((wgw b w x y).at t).heap[c]? =some (.chan 0 #[] false k k false):=by
    show (wgw b w x y).heap[c]? =_;rw [yz hne];exact hk
 rw [stepG_close ho hw gh hop hx hk' fh5,fle hne]
def om_st4 (Z:StopW b sb ab n cp c0 kb ch w) (hN: ∀ p:Addr,(p.block=b∧p.off<6)∨p.block=sb∨p.block=ab∨(∃ i,i<n∧p.block=kb i)→ ¬ Shun (.cell p)) (hc:c0≠b) {T:Array Value} (hT:T.size=43) (h0:T[0]? =some (.pointer (some ⟨b,0,none⟩))):
    ∃ m,OM Tryz.prog b Shun St S (fea b w c0 (fh3 b cs)) m (G ((base 12).at ⟨T,ffw b⟩ [.code ffb]) cs) w 0:=by
 obtain ⟨v0,v1,v2,v3,v4,v5,v6,v7,v8,v9,v10,v11,v12,v13,v14,v15,v16,v17,v18,v19,v20,v21,v22,v23,v24,v25,v26,v27,v28,v29,v30,v31,v32,v33,v34,v35,v36,v37,v38,v39,v40,v41,v42,rfl⟩:=fe9 T hT;simp only [fy2,fx7,f03] at h0;subst h0;unfold ffb;simp only [Tryz.f12];refine fl9 (E:=EvR Shun w) (fun e he=>fua he) ?_;refine wq ?_;refine wr ?_;simp only [szs];refine wv (.pointer (some ⟨b,0,none⟩)) ?_;walk_nrm;refine wv (.pointer (some ⟨b,0,none⟩)) ?_;walk_nrm;refine wv (.pointer (some ⟨b,3,none⟩)) ?_;walk_nrm;refine fav (.pointer (some ⟨sb,0,none⟩)) #[⟨.cell ⟨b,3,none⟩,false,false⟩] rfl rfl gh (fun u hu=>by have:=Z.at3 u hu;go_simp) (fun u hu=>by have:=Z.at3 u hu;simp [go_sem,this]) (fun e he=>by simp at he;subst he;exact ⟨⟨_,rfl,hN _ jf,fje (Z.at3 _ ⟨0,0,0,rfl⟩)⟩,by simp [vl]⟩) ?_;walk_nrm;refine wv (.pointer (some ⟨sb,0,none⟩)) ?_;walk_nrm;refine wv (.pointer (some ⟨sb,5,none⟩)) ?_;walk_nrm;refine fav (.chan (some c0)) #[⟨.cell ⟨sb,5,none⟩,false,false⟩] rfl rfl gh (fun u hu=>by have:=Z.atS u hu;go_simp) (fun u hu=>by have:=Z.atS u hu;simp [go_sem,this]) (fun e he=>by simp at he;subst he;exact ⟨⟨_,rfl,hN _ jf,fje (Z.atS _ ⟨0,0,0,rfl⟩)⟩,by simp [vl]⟩) ?_;walk_nrm;refine ug ⟨0,rfl,rfl,rfl,rfl,_,fun k hk x y t=>ffx rfl rfl rfl rfl hc hk,rfl,⟨_,_,rfl,rfl,rfl⟩⟩
def om_st5 {g:Goroutine} (Z:StopW b sb ab n cp c0 kb ch w) (hN: ∀ p:Addr,(p.block=b∧p.off<6)∨p.block=sb∨p.block=ab∨(∃ i,i<n∧p.block=kb i)→ ¬ Shun (.cell p)) (hg:fh3 b cs g):
    WKE Tryz.prog true (KW b w) (EvR Shun w) (fun g d=>d=0∧fab b ab n cp 0 cs g) g 0:=by
 obtain ⟨T,ops,rfl,hT,h0⟩:=hg;obtain ⟨v0,v1,v2,v3,v4,v5,v6,v7,v8,v9,v10,v11,v12,v13,v14,v15,v16,v17,v18,v19,v20,v21,v22,v23,v24,v25,v26,v27,v28,v29,v30,v31,v32,v33,v34,v35,v36,v37,v38,v39,v40,v41,v42,rfl⟩:=fe9 T hT;simp only [fy2,fx7,f03] at h0;subst h0;unfold flc ffb;simp only [Tryz.f12];refine we ?_;refine wq ?_;refine wq ?_;refine wr ?_;simp only [szs];refine wv (.pointer (some ⟨b,0,none⟩)) ?_;walk_nrm;refine wv (.pointer (some ⟨b,0,none⟩)) ?_;walk_nrm;refine wv (.pointer (some ⟨b,2,none⟩)) ?_;walk_nrm;refine fav (.slice (some ⟨ab,0,none⟩) n cp) #[⟨.cell ⟨b,2,none⟩,false,false⟩] rfl rfl gh (fun u hu=>by have:=Z.at2 u hu;go_simp) (fun u hu=>by have:=Z.at2 u hu;simp [go_sem,this]) (fun e he=>by simp at he;subst he;exact ⟨⟨_,rfl,hN _ jf,fje (Z.at2 _ ⟨0,0,0,rfl⟩)⟩,by simp [vl]⟩) ?_;walk_nrm;refine wv (.int .i64 n) ?_;walk_nrm;refine wv (.int .i64 0) ?_;walk_nrm;refine we ?_;refine ri rfl (fun _=>f5i) ?_;refine ri rfl (fun _=>stepG_loop) ?_;exact ug ⟨rfl,_,rfl,rfl,rfl,rfl,rfl,rfl⟩
def om_head {i:Nat} {g:Goroutine} (Z:StopW b sb ab n cp c0 kb ch w) (hN: ∀ p:Addr,(p.block=b∧p.off<6)∨p.block=sb∨p.block=ab∨(∃ i,i<n∧p.block=kb i)→ ¬ Shun (.cell p)) (hi:i<n) (hc:ch i≠b) (hg:fab b ab n cp i cs g):
    ∃ m,OM Tryz.prog b Shun St S (fea b w (ch i) (fh4 b ab n cp i cs)) m g w 0:=by
 obtain ⟨T,rfl,hT,h0,h28,h29,h30⟩:=hg;obtain ⟨v0,v1,v2,v3,v4,v5,v6,v7,v8,v9,v10,v11,v12,v13,v14,v15,v16,v17,v18,v19,v20,v21,v22,v23,v24,v25,v26,v27,v28,v29,v30,v31,v32,v33,v34,v35,v36,v37,v38,v39,v40,v41,v42,rfl⟩:=fe9 T hT;simp only [fy2,fx7,fy0,f03] at h0 h28 h29 h30;subst h0;subst h28;subst h29;subst h30;unfold z0a flc ffb;simp only [Tryz.f12];refine fl9 (E:=EvR Shun w) (fun e he=>fua he) ?_;refine wq ?_;refine wr ?_;simp only [szs];refine ww (.bool true) rfl rfl gh (fun _ _=>by go_simp;try omega) (fun _ _=>by simp [go_sem];try omega) ?_;walk_nrm;refine we ?_;refine wq ?_;refine wt ?_;refine ws ?_;refine wq ?_;refine ri rfl (fun _=>f5i) ?_;refine wq ?_;refine wr ?_;simp only [szs];refine ww (.pointer (some ⟨ab,i,none⟩)) rfl rfl gh (fun _ _=>by go_simp;try (simp [Addr.add];omega)) (fun u _=>by simp [go_sem];exact events_indexAt_slice (P:=Tryz.prog) (w:=u) (es:= #[]) 65 ⟨ab,0,none⟩ n cp .i64 i fd ⟨by omega,by omega⟩) ?_;walk_nrm;refine fav (.pointer (some ⟨kb i,0,none⟩)) #[⟨.cell ⟨ab,i,none⟩,false,false⟩] rfl rfl gh (fun u hu=>by have:=(Z.atA hi) u hu;go_simp) (fun u hu=>by have:=(Z.atA hi) u hu;simp [go_sem,this]) (fun e he=>by simp at he;subst he;exact ⟨⟨_,rfl,hN _ jf,fje ((Z.atA hi) _ ⟨0,0,0,rfl⟩)⟩,by simp [vl]⟩) ?_;walk_nrm;refine wv (.pointer (some ⟨kb i,0,none⟩)) ?_;walk_nrm;refine we ?_;refine wr ?_;simp only [szs];refine wv (.pointer (some ⟨kb i,0,none⟩)) ?_;walk_nrm;refine wv (.pointer (some ⟨kb i,0,none⟩)) ?_;walk_nrm;refine wv (.pointer (some ⟨kb i,10,none⟩)) ?_;walk_nrm;refine fav (.chan (some (ch i))) #[⟨.cell ⟨kb i,10,none⟩,false,false⟩] rfl rfl gh (fun u hu=>by have:=(Z.atK hi) u hu;go_simp) (fun u hu=>by have:=(Z.atK hi) u hu;simp [go_sem,this]) (fun e he=>by simp at he;subst he;exact ⟨⟨_,rfl,hN _ jf,fje ((Z.atK hi) _ ⟨0,0,0,rfl⟩)⟩,by simp [vl]⟩) ?_;walk_nrm;refine ug ⟨0,rfl,rfl,rfl,rfl,_,fun k hk x y t=>ffx rfl rfl rfl rfl hc hk,rfl,⟨_,_,rfl,rfl,rfl,rfl,rfl,rfl⟩⟩
def fub {i:Nat} {g:Goroutine} (Z:StopW b sb ab n cp c0 kb ch w) (hi:i<n) (hg:fh4 b ab n cp i cs g):
    WKE Tryz.prog true (KW b w) (EvR Shun w) (fun g d=>d=0∧fab b ab n cp (i+1) cs g) g 0:=by
 obtain ⟨T,ops,rfl,hT,h0,h28,h29,h30⟩:=hg;obtain ⟨v0,v1,v2,v3,v4,v5,v6,v7,v8,v9,v10,v11,v12,v13,v14,v15,v16,v17,v18,v19,v20,v21,v22,v23,v24,v25,v26,v27,v28,v29,v30,v31,v32,v33,v34,v35,v36,v37,v38,v39,v40,v41,v42,rfl⟩:=fe9 T hT;simp only [fy2,fx7,fy0,f03] at h0 h28 h29 h30;subst h0;subst h28;subst h29;subst h30;unfold stop9 z0a flc ffb;simp only [Tryz.f12];refine we ?_;refine ri rfl (fun _=>stepG_inBlock) ?_;refine wr ?_;simp only [szs];refine ww (.int .i64 (i+1:Nat)) rfl rfl gh (fun _ _=>by go_simp;try (have:=hi;have:=Z.small;simp [f3h];omega)) (fun _ _=>by simp [go_sem];try (have:=hi;have:=Z.small;simp [f3h];omega)) ?_;walk_nrm;refine wv (.int .i64 (i+1:Nat)) ?_;walk_nrm;refine we ?_;refine ri rfl (fun _=>stepG_inLoop) ?_;exact ug ⟨rfl,_,rfl,rfl,rfl,rfl,rfl,rfl⟩
end
section
variable {b sb ab n cp c0:Nat} {kb ch:Nat→Nat} {Shun:Loc→Prop} {St St':Nat→Loc→Prop} {S:Nat→Option SeatD} {w:World} {X:Frame} {cs:List Frame}
def fmp {main:Bool} {K:World→Prop} {E:Event→Prop} {Φ:Goroutine→Nat→Prop} {d:Nat} {fr:Frame} {a:Act} {k:List Item} {ops:Array Oper} {i:Nat} {rest:List Nat} {o:Oper} {f:FuncId} {fn:Func} {c:Code} {args:Array Operand} {ats:Array TypeId} (ho:ops[i]? =some o) (hw:Region.wanted o (yielded ops a.tmps)=true) (hk:fr.kind≠ .early) (hop:o.op= .call { callee:= .value (.func f),args:=args,argTypes:=ats })
    (hf:Tryz.prog.funcs[f]? =some fn) (hname:(fn.name== "runtime.NumGoroutine")=false) (hb:fn.body=some c) (h:WKE Tryz.prog main K E Φ (G (Frame.enter Tryz.prog f (args.map a.eval) .normal) (fr.at a (.inRegion ops (i::rest)::k)::cs)) d):
    WKE Tryz.prog main K E Φ (G (fr.at a (.inRegion ops (i::rest)::k)) cs) d:=ri rfl (fun u=>by
 have hb':fn.body.isNone=false:=by rw [hb];rfl
 rw [stepG_enter ho hw hk (run_call_body hop hf hname hb')];have:listed Tryz.prog fr.fn a o u= #[]:=by unfold listed;rw [events_call_body hop hf hname hb'];exact seen_none Tryz.prog _
 rw [this]) h
def flf (b:Nat) (X:Frame) (cs:List Frame) (w:World) (g:Goroutine) (w':World) (d:Nat):Prop:=g=G (ur .normal (.tuple #[]) X) cs∧w'=w.setCell ⟨b,0,none⟩ (.int .i32 0)∧d=0
def fh6 (b:Nat) (Shun:Loc→Prop) (St St':Nat→Loc→Prop) (S:Nat→Option SeatD) (Φ:Goroutine→World→Nat→Prop) (w:World) (g:Goroutine) (d:Nat):Prop:=
 ∃ Anch:Goroutine→World→Nat→Prop,(∃ m,OM Tryz.prog b Shun St S (AtW1 Tryz.prog b Shun St S (fe2 Tryz.prog b Shun St' Φ) Anch) m g w d)∧
  ∀ g w' d,Anch g w' d→ ∃ m,OM Tryz.prog b Shun St S (AtW1 Tryz.prog b Shun St S (fe2 Tryz.prog b Shun St' Φ) Anch) m g w' d
def ffy {Φ:Goroutine→World→Nat→Prop} {E:Event→Prop} {g:Goroutine} {d:Nat} (hE: ∀ e,E e→EvM Shun St w.heap.size e) (h:WKE Tryz.prog true (KW b w) E (fh6 b Shun St St' S Φ w) g d):fh6 b Shun St St' S Φ w g d:=by
 obtain ⟨n,h⟩:=h
 induction n generalizing g d with
 | zero=>exact h
 | succ n ih=>
   rcases h with h | ⟨h1,g',es,h2,h3,h4⟩
   · exact h
   · obtain ⟨Anch,⟨m,hm⟩,hA⟩:=ih h4;exact ⟨Anch,⟨m+1,.inr ⟨h1,g',w,es,fun x y t=>h3 _ ⟨x,y,t,rfl⟩,w9 w,fun e he=>hE e (h2 e he),hm⟩⟩,hA⟩
def om_wait {g:Goroutine} (Z:StopW b sb ab n cp c0 kb ch w) (hsh:Shun (.cell (stC b))∧Shun (.cell (smC b))) (hns: ¬ Shun (.cell ⟨b,0,none⟩)) (hst: ∀ g,¬ St' g (.cell ⟨b,0,none⟩)) (hg:fab b ab n cp n (X::cs) g):
    fh6 b Shun St St' S (flf b X cs w) w g 0:=by
 obtain ⟨cc,e,hb,hsz,h00,_,_⟩:=Z.ses;have hs:HasS b w:=⟨cc,e,hb,hsz⟩;have hc0:w.cell? ⟨b,0,none⟩=some (.int .i32 1):=by simp [World.cell?,hb,h00]
 have hz:w.frozen? ⟨b,0,none⟩=false:=by simp [World.frozen?,hb]
 obtain ⟨T,rfl,hT,h0,h28,h29,h30⟩:=hg;obtain ⟨v0,v1,v2,v3,v4,v5,v6,v7,v8,v9,v10,v11,v12,v13,v14,v15,v16,v17,v18,v19,v20,v21,v22,v23,v24,v25,v26,v27,v28,v29,v30,v31,v32,v33,v34,v35,v36,v37,v38,v39,v40,v41,v42,rfl⟩:=fe9 T hT;simp only [fy2,fx7,fy0,f03] at h0 h28 h29 h30;subst h0;subst h28;subst h29;subst h30;unfold fr6 z0a flc ffb;simp only [Tryz.f12];refine ffy (E:=fun _=>False) (fun e he=>he.elim) ?_;refine wq ?_;refine wr ?_;simp only [szs];refine wv (.bool false) ?_;walk_nrm;refine we ?_;refine wq ?_;refine wf ?_;refine ri rfl (fun _=>stepG_exit rfl) ?_;refine wr ?_;simp only [szs];refine wv (.pointer (some ⟨b,0,none⟩)) ?_;walk_nrm;refine wv (.pointer (some ⟨b,0,none⟩)) ?_;walk_nrm;refine wv (.pointer (some (stC b))) ?_;walk_nrm;refine i7 rfl rfl gh rfl Tryz.func28 fd rfl ?_;simp only [show Tryz.f28.ntmps=84 from rfl];walk_nrm;refine ug ⟨_,fob hs hsh rfl rfl ?_ rfl⟩;walk_nrm;refine fl9 (E:=fun _=>False) (fun e he=>he.elim) ?_;refine we ?_;refine ri rfl (fun _=>f4e) ?_;refine ffs (f:=26) rfl Tryz.func26 fd rfl ?_;simp only [show Tryz.f26.ntmps=6 from rfl];walk_nrm;refine wr ?_;simp only [szs];refine wv (.pointer (some ⟨b,0,none⟩)) ?_;walk_nrm;refine wv (.pointer (some ⟨b,0,none⟩)) ?_;walk_nrm;refine wv (.pointer (some ⟨b,0,none⟩)) ?_;walk_nrm;refine fmp rfl rfl gh rfl Tryz.func58 fd rfl ?_;refine ug (fr4 (p:=⟨b,0,none⟩) (.inl rfl) jh (.inr ⟨by simp,by simp⟩) hc0 hz hst hns (fun _ _ e=>by cases e) ?_);simp only [ur,Touch.on,f0e,f0i];walk_nrm;refine fl9 (E:=fun _=>False) (fun e he=>he.elim) ?_;refine we ?_;refine ri rfl (fun _=>f4e) ?_;refine faa (.inr rfl) rfl Tryz.func26 (f2z Tryz.results26 _) ?_;have e1: ∀ (fr:Frame),fr.mode= .returning→ur .deferred (.tuple #[]) fr=fr:=fun fr h=>by simp [ur,Touch.on,h]
 have e2:(baseD 26).kind= .deferred:=rfl;rw [e2,e1 _ rfl];refine faa (.inl rfl) rfl Tryz.func12 (f2z Tryz.results12 _) ?_;exact ug ⟨0,rfl,rfl,rfl⟩
end
end Go.Proofs.YtelecjnabeokeaaGreatDoor
namespace Go.Proofs.YtelecjnabeokeaaGreatDoor
open Go Go.Conc Go.Conc.Lib Go.RowKit
open Go.ConcN (sumTo upd sumTo_upd upd_ne upd_same RelBy le_sumTo)
structure Clo (C:Nat→Prop) (w w1:World):Prop where
 size:w1.heap.size=w.heap.size
 os:w1.os=w.os
 output:w1.output=w.output
 same: ∀ x,¬ C x→w1.heap[x]? =w.heap[x]?
 muted: ∀ x,C x→ ∃ k,w1.heap[x]? =some (.chan 0 #[] true k k false)
section
variable {b sb ab n cp c0:Nat} {kb ch:Nat→Nat} {Shun:Loc→Prop} {St:Nat→Loc→Prop} {S:Nat→Option SeatD} {w:World} {X:Frame} {cs:List Frame}
def fbs {c k k0 x:Nat} {cc:Array Value} {e:TypeId} {f:Nat×Nat} (hc:w.heap[c]? =some (.chan 0 #[] false k0 k0 false)) (h:w.heap[x]? =some (.cells cc e f)):(vv w c k).heap[x]? =some (.cells cc e f):=by
 rw [zl (fun e=>by subst e;rw [hc] at h;cases h)];exact h
def ob {c k k0:Nat} {p:Addr} {v:Value} (hc:w.heap[c]? =some (.chan 0 #[] false k0 k0 false)) (h:w.cell? p=some v):(vv w c k).cell? p=some v:=by
 unfold World.cell? at h ⊢;split at h
 · rename_i cc e f hh;rw [fbs hc hh];exact h
 · cases h
def StopW.close {c k k0:Nat} (Z:StopW b sb ab n cp c0 kb ch w) (hc:w.heap[c]? =some (.chan 0 #[] false k0 k0 false)):StopW b sb ab n cp c0 kb ch (vv w c k):=by
 obtain ⟨⟨cc,e,h1,h2⟩,h3,h4,h5,h6⟩:=Z;exact ⟨⟨cc,e,fbs hc h1,h2⟩,ob hc h3,fun i hi=>⟨ob hc (h4 i hi).1,ob hc (h4 i hi).2⟩,h5,h6⟩
def fr7 (b:Nat) (Shun:Loc→Prop) (St St':Nat→Loc→Prop) (ab n cp:Nat) (ch:Nat→Nat) (X:Frame) (cs:List Frame) (i:Nat) (a:Goroutine) (w:World):Prop:=
 ∀ S:Nat→Option SeatD,(i<n→ ∃ m,OM Tryz.prog b Shun St S (fea b w (ch i) (fh4 b ab n cp i (X::cs))) m a w 0)∧(i=n→fh6 b Shun St St' S (flf b X cs w) w a 0)
def fmq {St':Nat→Loc→Prop} {i:Nat} {g:Goroutine} (Z:StopW b sb ab n cp c0 kb ch w) (hN: ∀ p:Addr,(p.block=b∧p.off<6)∨p.block=sb∨p.block=ab∨(∃ i,i<n∧p.block=kb i)→ ¬ Shun (.cell p))
    (hsh:Shun (.cell (stC b))∧Shun (.cell (smC b))) (hst: ∀ g,¬ St' g (.cell ⟨b,0,none⟩)) (hc: ∀ i,i<n→ch i≠b)
    (hg:WKE Tryz.prog true (KW b w) (EvR Shun w) (fun g d=>d=0∧fab b ab n cp i (X::cs) g) g 0):fr7 b Shun St St' ab n cp ch X cs i g w:=by
 refine fun S=>⟨fun hi=>fl9 (E:=EvR Shun w) (fun e he=>fua he) (hg.mono fun g d ⟨hd,h⟩=>ug ?_),fun hi=>ffy (E:=EvR Shun w) (fun e he=>fua he) (hg.mono fun g d ⟨hd,h⟩=>ug ?_)⟩
 · subst hd;exact om_head Z hN hi (hc i hi) h
 · subst hd;subst hi;exact om_wait Z hsh (hN _ (.inl ⟨rfl,by simp⟩)) hst h
variable {Wk:Nat→Prop} {k0:Nat}
def flg (b:Nat) (Shun:Loc→Prop) (St:Nat→Loc→Prop) (Wk:Nat→Prop) (X:Frame) (cs:List Frame) (n:Nat) (C:Nat→Prop) (w:World) (gs':Array Goroutine) (u:World) (T':Trace):Prop:=
 ∃ w1,Clo C w w1∧Gone Tryz.prog b Shun (StL St Wk) n (flf b X cs w1) gs' u T'
def fmr {jc:Nat→Nat} {sc:Nat→SeatD} (hN: ∀ p:Addr,(p.block=b∧p.off<6)∨p.block=sb∨p.block=ab∨(∃ i,i<n∧p.block=kb i)→ ¬ Shun (.cell p)) (hsc: ∀ l,Shun l→ ∃ p,l= .cell p)
    (hsh:Shun (.cell (stC b))∧Shun (.cell (smC b))) (hst: ∀ g,¬ StL St Wk g (.cell ⟨b,0,none⟩)) (hc: ∀ i,i<n→ch i≠b) (hscc: ∀ i,i<n→(sc i).c=ch i) (hinj: ∀ i i',i<n→i'<n→jc i=jc i'→i=i'):
    ∀ (r i:Nat),i+r=n→ ∀ {S:Nat→Option SeatD} {R q:Nat→Nat} {a:Goroutine} {T:Trace} {gs:Array Goroutine} {w:World} {x y:Int} {d:Nat},
      (∀ i,Wk i→i≠0∧i<gs.size)→Bye Tryz.prog b Shun St Wk k0 S R q a T gs w→Md gs.size R false x y→VC gs.size R<2147483647→Deaf T 0=0→StopW b sb ab n cp c0 kb ch w→(∀ i',i≤i'→i'<n→S (jc i')=some (sc i')∧R (jc i')=8∧jc i'<gs.size)→(∀ k,(∀ i',i≤i'→i'<n→k≠jc i')→R k≤7)→
      fr7 b Shun St (StL St Wk) ab n cp ch X cs i a w→Leads Tryz.prog (flg b Shun St Wk X cs gs.size (fun x=> ∃ i',i≤i'∧i'<n∧x=ch i') w) gs ((wgw b w x y).at d) T
 | 0,i,hir,S,R,q,a,T,gs,w,x,y,d,hwk,C,M,hb,hD,Z,hse,hrk,hp=>by
   obtain ⟨Anch,⟨m,hm⟩,hA⟩:=(hp S).2 fe;refine (bye_all hA (fun _ _ h=>h) hwk C (fun k=>hrk k fun i' h1 h2=>by omega) M hb pa).mono fun gs' u T' h=>⟨w,⟨rfl,rfl,rfl,fun _ _=>rfl,fun x ⟨i',h1,h2,_⟩=>by omega⟩,h⟩
 | r + 1,i,hir,S,R,q,a,T,gs,w,x,y,d,hwk,C,M,hb,hD,Z,hse,hrk,hp=>by
   have hi:i<n:=by omega
   obtain ⟨m,hm⟩:=(hp S).1 hi;refine (fe0 (Φ:=fea b w (ch i) (fh4 b ab n cp i (X::cs))) (S0:=S) (d:=d) m (fun _ _ h=>h) C M hb pa).trans fun gs1 u1 T1 ⟨S1,R1,q1,a1,w1,x1,y1,d1,e1,e2,e3,e4,e5,e6,e7⟩=> ?_;obtain ⟨rfl,hd1,hrun,hmw,g',hst',hrun',hnext⟩:=e6;subst e1;obtain ⟨h1,h2,h3⟩:=hse i (fx8 _) hi;have h4:=e7.2.1 _ h2;have hS1:S1 (jc i)=some (sc i):=h4.2.trans h1;refine (fj0 (a':=g') (d:=d1) e3 pq (by rw [e2];exact e5) hrun hrun' h4.1 (by rw [e2];exact h3) hS1 hsc hmw hd1 (fun k hk=> ?_)).trans fun gs2 u2 T2 ⟨S2,R2,q2,x2,y2,d2,k,f1,f2,f3,f4,f5,f6,f7,f8,f9,f10,f11⟩=> ?_
   · rw [hscc i hi] at hk ⊢;exact hst' k hk
   subst f1;rw [hscc i hi] at f3 f4 ⊢;have Z2:StopW b sb ab n cp c0 kb ch (vv w1 (ch i) k):=Z.close f3;have hsz:gs2.size=gs.size:=by omega
   have:=fmr (S:=S2) hN hsc hsh hst hc hscc hinj r (i+1) fe (d:=d2) (by rw [hsz];exact hwk) f4 (by rw [f2];exact f5) (by rw [f2];exact f6) f7 Z2 (fun i' h5 h6=> ?_) (fun k' hk'=> ?_)
     (fmq Z2 hN hsh hst hc (fub Z2 hi hnext))
   · rw [hsz] at this;refine this.mono fun gs3 u3 T3 ⟨w3,hclo,hg⟩=>⟨w3,⟨hclo.size.trans bf,hclo.os,hclo.output,fun z hz=> ?_,fun z hz=> ?_⟩,hg⟩
     · rw [hclo.same z fun ⟨i',a1,a2,a3⟩=>hz ⟨i',by omega,a2,a3⟩,zl fun e=>hz ⟨i,fx8 _,hi,e⟩]
     · by_cases e: ∃ i',i+1≤i'∧i'<n∧z=ch i'
       · exact hclo.muted z e
       · obtain ⟨i',a1,a2,rfl⟩:=hz;have:i'=i:=f1e fun h=>e ⟨i',by omega,a2,rfl⟩;subst this;refine ⟨k,?_⟩;rw [hclo.same _ e];unfold vv;exact fy5 (fx5.1 f3).1
   · obtain ⟨b1,b2,b3⟩:=hse i' fe h6;have c1:=e7.2.1 _ b2;have hne:jc i'≠jc i:=fun e=>by have:=hinj i' i h6 hi e;omega
     have c2:=f9 _ hne c1.1;exact ⟨c2.2.trans (c1.2.trans b1),c2.1,by omega⟩
   · by_cases e:k'=jc i
     · subst e;exact f11
     · have:=hrk k' fun i' a1 a2=> ?_
       · have a3:=e7.2.2 k';have a4:=f10 k';omega
       · by_cases e2:i'=i
         · subst e2;exact e
         · exact hk' i' fe a2
end
structure fw3 (b j0 n c0:Nat) (ch:Nat→Nat) (S:Nat→Option SeatD) (N:Nat):Prop where
 pos:1≤j0
 fits:j0+(n+1)≤N
 srv: ∃ s,S j0=some s∧s.c=c0
 cl: ∀ i,i<n→ ∃ s,S (j0+1+i)=some s∧s.c=ch i
 no: ∀ k,S k≠none→j0≤k∧k<j0+(n+1)
 home: ∀ j s,S j=some s→s.ok=true∧s.z= .nilFunc∧ ∀ g2,s.home g2→fbr [dcall 79 #[.pointer (some (stC b))]] [fau] s.c g2
section
variable {b sb ab n cp c0 j0:Nat} {kb ch:Nat→Nat} {H:Hide} {Shun:Loc→Prop} {St:Nat→Loc→Prop} {S:Nat→Option SeatD} {w:World} {X:Frame} {cs:List Frame} {gs:Array Goroutine} {q:Nat→Nat} {T:Trace}
def fr8 {T0:Array Value} (hT0:T0.size=43) (h00:T0[0]? =some (.pointer (some ⟨b,0,none⟩))) (I:Prot H S St Shun) (hH:H b=none∧H sb=none∧H ab=none∧ ∀ i,i<n→H (kb i)=none)
    (hcb:c0≠b∧ ∀ i,i<n→ch i≠b) (hce:(∀ i,i<n→ch i≠c0)) (W:fw3 b j0 n c0 ch S gs.size) (Z:StopW b sb ab n cp c0 kb ch w) (hca:CellsAt b w ((n+1:Nat)*K32) 0) (hsm:n<1000)
    (C:Hold Tryz.prog St Shun u5 S 0 (G ((base 12).at ⟨T0,ffw b⟩ [.code ffb]) (X::cs)) T gs w q) (hD:Deaf T 0=0):
    Leads Tryz.prog (flg b (fax b Shun) St (fun i=>S i≠none) X cs gs.size (fun x=>x=c0∨ ∃ i,i<n∧x=ch i) w) gs w T:=by
 obtain ⟨cc,e,hbl,hsz,_,_,_⟩:=Z.ses;have hs:HasS b w:=⟨cc,e,hbl,hsz⟩
 have hnb: ∀ p:Addr,H p.block=none→ ¬ Shun (.cell p)∧ ∀ g,¬ St g (.cell p):=fun p hp=>by
    refine ⟨fun h=> ?_,fun g h=> ?_⟩
    · obtain ⟨a,ha,hh⟩:=I.shun _ h;cases ha;exact hh hp
    · obtain ⟨a,ha,hh⟩:=I.still _ _ h;cases ha;exact hh hp
 have hN: ∀ p:Addr,(p.block=b∧p.off<6)∨p.block=sb∨p.block=ab∨(∃ i,i<n∧p.block=kb i)→ ¬ fax b Shun (.cell p):=fun p hp=>by
    have h1:H p.block=none:=by
     rcases hp with ⟨h,_⟩ | h | h | ⟨i,hi,h⟩
     · rw [h];exact hH.1
     · rw [h];exact hH.2.1
     · rw [h];exact hH.2.2.1
     · rw [h];exact hH.2.2.2 i hi
    have h2:p.block≠b∨p.off<6:=by
     rcases hp with ⟨_,h⟩ | h | h | ⟨i,hi,h⟩
     · exact .inr h
     · exact .inl (h▸Z.apart.1)
     · exact .inl (h▸Z.apart.2.1)
     · exact .inl (h▸Z.apart.2.2 i hi)
    rintro (h | h | h)
    · exact (hnb p h1).1 h
    · cases h;rcases h2 with h2 | h2
      · exact h2 rfl
      · simp at h2
    · cases h;rcases h2 with h2 | h2
      · exact h2 rfl
      · simp at h2
 have hsc: ∀ l,fax b Shun l→ ∃ p,l= .cell p:=fun l hl=>by
    rcases hl with h | rfl | rfl
    · obtain ⟨a,ha,_⟩:=I.shun _ h;exact ⟨a,ha⟩
    · exact ⟨_,rfl⟩
    · exact ⟨_,rfl⟩
 have hsh:fax b Shun (.cell (stC b))∧fax b Shun (.cell (smC b)):=⟨.inr (.inl rfl),.inr (.inr rfl)⟩
 have hsnone: ∀ k,k<gs.size→(S k≠none↔j0≤k∧k<j0+(n+1)):=fun k hk=>by
    refine ⟨W.no k,fun ⟨h1,h2⟩=> ?_⟩;by_cases e:k=j0
    · subst e;obtain ⟨s,hs,_⟩:=W.srv;rw [hs];simp
    · obtain ⟨s,hs,_⟩:=W.cl (k-j0-1) fe;rw [show j0+1+(k-j0-1)=k from by omega] at hs;rw [hs];simp
 have C0:=fr5 (b:=b) C hs (fun i s h=>by
  obtain ⟨h1,h2⟩:=I.seats i s h;refine ⟨?_,fun e=>h1 (e▸hH.1)⟩;cases hb:s.D b with
  | none=>rfl
  | some o=>exact absurd hH.1 (h2 b o hb)) (fun g=>⟨(hnb (stC b) hH.1).2 g,(hnb (smC b) hH.1).2 g⟩) (fun i s h g2 hg2=>by
  obtain ⟨h1,h2,h3⟩:=W.home i s h;rw [h1,h2];exact fu4 (h3 g2 hg2))
 have hvc:VC gs.size (RB S)=n+1:=VC_row hsnone W.fits
 have hM:Md gs.size (RB S) false ((n+1:Nat)*K32) 0:=by
    have:=Md.opn (n:=gs.size) (R:=RB S) fun j _=>(RB_le S j).imp id (fun h=>by omega);rwa [hvc] at this
 obtain ⟨s0,hs0,hsc0⟩:=W.srv;have hR8: ∀ j,S j≠none→RB S j=8:=fun j h=>by unfold RB;rw [fx9 h]
 obtain ⟨m,hm⟩:=om_st4 (St:=St) (S:=S) (cs:=X::cs) Z hN hcb.1 hT0 h00;have e0:(wgw b w ((n+1:Nat)*K32) 0).at w.drawn=w:=by rw [ftu hs hca];rfl
 suffices hgo:Leads Tryz.prog (flg b (fax b Shun) St (fun i=>S i≠none) X cs gs.size (fun x=>x=c0∨ ∃ i,i<n∧x=ch i) w) gs ((wgw b w ((n+1:Nat)*K32) 0).at w.drawn) T by rwa [e0] at hgo
 refine (fe0 (Φ:=fea b w c0 (fh3 b (X::cs))) (S0:=S) (d:=w.drawn) m (fun _ _ h=>h) C0 hM (by rw [hvc];omega) pa).trans fun gs1 u1 T1 ⟨S1,R1,q1,a1,w1,x1,y1,d1,e1,e2,e3,e4,e5,e6,e7⟩=> ?_;obtain ⟨rfl,hd1,hrun,hmw,g',hst',hrun',hnext⟩:=e6;subst e1;have hj0lt:j0<gs.size:=by have:=W.fits;omega
 have h4:=e7.2.1 j0 (hR8 j0 (by rw [hs0];simp));refine (fj0 (a':=g') (d:=d1) (j:=j0) (s:=s0) e3 pq (by rw [e2];exact e5) hrun hrun' h4.1 (by rw [e2];exact hj0lt) (h4.2.trans hs0) hsc hmw hd1 (fun k hk=> ?_)).trans fun gs2 u2 T2 ⟨S2,R2,q2,x2,y2,d2,k,f1,f2,f3,f4,f5,f6,f7,f8,f9,f10,f11⟩=> ?_
 · rw [hsc0] at hk ⊢;exact hst' k hk
 subst f1;rw [hsc0] at f3 f4 ⊢;have Z2:StopW b sb ab n cp c0 kb ch (vv w1 c0 k):=Z.close f3;have hsz2:gs2.size=gs.size:=by omega
 obtain ⟨sc,hscs⟩:=f1v (r:=fun (i:Nat) (s:SeatD)=>i<n→S (j0+1+i)=some s∧s.c=ch i) fun i=>by
    by_cases h:i<n
    · obtain ⟨s,h1,h2⟩:=W.cl i h;exact ⟨s,fun _=>⟨h1,h2⟩⟩
    · exact ⟨s0,fun h'=>absurd h' h⟩
 have hstl: ∀ g,¬ StL St (fun i=>S i≠none) g (.cell ⟨b,0,none⟩):=fun g h=>(hnb ⟨b,0,none⟩ hH.1).2 g h.1
 have:=fmr (S:=S2) (jc:=fun i=>j0+1+i) (sc:=sc) (b:=b) (sb:=sb) (ab:=ab) (n:=n) (cp:=cp) (c0:=c0) (kb:=kb) (ch:=ch) (X:=X) (cs:=cs) (d:=d2) hN hsc hsh hstl hcb.2 (fun i hi=>(hscs i hi).2) (fun i i' _ _ h=>by have:j0+1+i=j0+1+i':=h;omega) n 0 fe
    (fun k hk=> ?_) f4 (by rw [f2];exact f5) (by rw [f2];exact f6) f7 Z2 (fun i _ hi=> ?_) (fun k' hk'=> ?_) (fmq Z2 hN hsh hstl hcb.2 (om_st5 Z2 hN hnext))
 · rw [hsz2] at this;refine this.mono fun gs3 u3 T3 ⟨w3,hclo,hg⟩=>⟨w3,⟨hclo.size.trans bf,hclo.os,hclo.output,fun z hz=> ?_,fun z hz=> ?_⟩,hg⟩
   · rw [hclo.same z fun ⟨i',_,a2,a3⟩=>hz (.inr ⟨i',a2,a3⟩),zl fun e=>hz (.inl e)]
   · rcases hz with rfl | ⟨i,hi,rfl⟩
     · refine ⟨k,?_⟩;rw [hclo.same z fun ⟨i',_,a2,a3⟩=>hce i' a2 a3.symm];unfold vv;exact fy5 (fx5.1 f3).1
     · exact hclo.muted _ ⟨i,f1n _,hi,rfl⟩
 · have hk0:k≠0:=fun e=>by subst e;exact hk C.none
   refine ⟨hk0,?_⟩;rw [hsz2];have:=W.no k hk;have:=W.fits;omega
 · obtain ⟨a1,a2⟩:=hscs i hi;have b1:=e7.2.1 (j0+1+i) (hR8 _ (by rw [a1];simp));have b2:=f9 (j0+1+i) fe b1.1;have hfit:=W.fits;refine ⟨b2.2.trans (b1.2.trans a1),b2.1,?_⟩;show j0+1+i<gs2.size;omega
 · by_cases e:k'=j0
   · subst e;exact f11
   · have a3:=e7.2.2 k';have a4:=f10 k'
     have:RB S k'≤1:=by
        refine (RB_le S k').resolve_right fun h8=> ?_;have hne:S k'≠none:=fun h=>by
         unfold RB at h8;rw [f02 h] at h8;split at h8 <;>omega
        have:=W.no k' hne;exact hk' (k'-j0-1) (f1n _) fe (by show k'=j0+1+(k'-j0-1);omega)
     omega
end
end Go.Proofs.YtelecjnabeokeaaGreatDoor
namespace Go.Proofs.YtelecjnabeokeaaGreatDoor
open Go Go.Conc Go.RowKit
def zn (op:BinOp) (t:TypeId) (x y:Operand) (a:Value) (p:Option Nat):eqGuard op t x y a (.chan p)=Pure.pure ():=by
 cases op <;>cases a <;>rfl
attribute [local go_sem] z3 xz zn
def feb {α:Type} {s:Sem α} {v:World} (hs:Sim Tryz.prog rg (fun _=>False) s) (ho:ut v):(∃ h v',s.run PV v= .halt h v'∧((∃ y,h= .panic y)∨hard h=true))∨ ∃ x v',s.run PV v= .ok x v'∧ut v':=by
 rcases ym hs (Rel.refl ho) with ⟨h,v1,e,hh⟩ | ⟨R,⟨x,rfl⟩ | ⟨x,rfl⟩,v1,k,e,h1,_⟩
 · exact .inl ⟨h,v1,e,.inr hh⟩
 · exact .inr ⟨x,v1,e,h1⟩
 · exact .inl ⟨_,v1,e,.inl ⟨x,rfl⟩⟩
def Still0 {α:Type} (P:Program) (s:Sem α):Prop:= ∀ v x v',s.run P v= .ok x v'→v'=v
def yh {α:Type} {P:Program} (x:α):Still0 P (Pure.pure x:Sem α):=fun v y v' h=>by
 simp [Pure.pure] at h;exact h.2.symm
def yi {α β:Type} {P:Program} {s:Sem β} {f:β→Sem α} (h:Still0 P s) (h': ∀ x,Still0 P (f x)):Still0 P (s >>= f):=fun v y v' e=>by
 cases hs:s.run P v with
 | ok x u=>
   obtain rfl:=h _ _ _ hs;exact h' x _ _ _ ((qw hs).symm.trans e)
 | halt x u=>have:=(f2r (f:=f) hs).symm.trans e;cases this
def ffz {P:Program} (a:Addr) (m:Mode):Still0 P (Go.load a m):=fun v x v' e=>by
 unfold Go.load at e;simp only [Sem.run] at e;split at e
 · cases e;rfl
 · split at e
   · cases e;rfl
   · cases e
def lm {P:Program} (a:Addr): ∀ (n i:Nat) (acc:Array Value),Still0 P (loadCellsFrom a i n acc)
 | 0,i,acc=>by unfold loadCellsFrom;exact yh _
 | n+1,i,acc=>by unfold loadCellsFrom;exact yi (ffz _ _) fun _=>lm a n _ _
def fc4 {P:Program} (t:TypeId):Still0 P (underlying t):=fun v x v' e=>by
 simp only [underlying,Go.program,Bind.bind,Sem.bind,Sem.run] at e;cases h:P.underlying t <;>rw [h] at e <;>simp [Pure.pure,Go.stuck] at e;exact e.2.symm
def nu {P:Program} (t:TypeId):Still0 P (typeInfo t):=fun v x v' e=>by
 simp only [typeInfo,Go.program,Bind.bind,Sem.bind,Sem.run] at e;cases h:P.info? t <;>rw [h] at e <;>simp [Pure.pure,Go.stuck] at e;exact e.2.symm
def fjf {P:Program} (t:TypeId) (x:Value):Still0 P (Instr.loadAt t x):=by
 unfold Instr.loadAt;refine yi ?_ fun a=> ?_
 · intro v y v' e;unfold Instr.sureAddr at e;split at e
   · exact yh _ _ _ _ e
   · cases e
 · unfold loadVar;refine yi ?_ fun b=> ?_
   · unfold isAgg;refine yi (fc4 _) fun d=> ?_;cases d <;>exact yh _
   · split
     · refine yi (yi (nu _) fun _=>yh _) fun n=>yi (lm _ _ _ _) fun _=>yh _
     · exact ffz _ _
def fec {α:Type} (s:Sem α):Prop:= ∀ v,ut v→ ∀ x v',s.run PV v= .ok x v'→v'.drawn=v.drawn
def Still0.noDraw {α:Type} {s:Sem α} (h:Still0 PV s):fec s:=fun v _ x v' e=>by rw [h v x v' e]
def oc {α β:Type} {s:Sem β} {f:β→Sem α} (hs:Sim Tryz.prog rg (fun _=>False) s) (h:fec s) (h': ∀ x,fec (f x)):fec (s >>= f):=fun v ho y v' e=>by
 rcases feb hs ho with ⟨x,u,h1,_⟩ | ⟨x,u,h1,h2⟩
 · have:=(f2r (f:=f) h1).symm.trans e;cases this
 · rw [← h v ho x u h1];exact h' x u h2 y v' ((qw h1).symm.trans e)
def fjg (a:Addr) (x:Value) (m:Mode):fec (Go.store a x m):=fun v ho y v' e=>by
 by_cases hv:x.oneCell'=true
 · rw [run_store _ _ _ _ _ hv] at e;split at e
   · split at e
     · cases e
     · cases e;rfl
   · split at e
     · rename_i hf;cases e;obtain ⟨_,_,_,_,_,h,_⟩:=(Rel.refl ho).farStore (P:=V Tryz.prog rg) hf;exact h
     · cases e
 · exfalso;cases x <;>first | (simp [Value.oneCell'] at hv;done) | (cases e;done)
def fod (a:Addr) (x:Value):Sim Tryz.prog rg (fun _=>False) (Go.store a x):=Sim.store' _ _ _
def dp (a:Addr): ∀ (l:List Value) (i:Nat),fec (storeCells a l i)
 | [],i=>by unfold storeCells;exact (yh _).noDraw
 | x::l,i=>by unfold storeCells;exact oc (fod _ _) (fjg _ _ _) fun _=>dp a l _
def ffc (t:TypeId) (x y:Value):fec (Instr.storeAt t x y):=by
 unfold Instr.storeAt;refine oc ?_ ?_ fun a=> ?_
 · unfold Instr.sureAddr;split
   · exact Sim.pure' _
   · exact Sim.stuck' _
 · refine Still0.noDraw fun v y v' e=> ?_;unfold Instr.sureAddr at e;split at e
   · exact yh _ _ _ _ e
   · cases e
 · unfold storeVar;refine oc (Sim.sizeOf' _) (Still0.noDraw (yi (nu _) fun _=>yh _)) fun n=> ?_;split
   · exact fun v ho u v' e=>by cases e
   · exact dp _ _ _
section
variable {Stop:Frame→List Frame→World→Prop} {a:Act} {v:World}
def fjh (x:Value) (v:World):(∃ h v',(binOp .eql 147 x (.pointer none)).run PV v= .halt h v'∧hard h=true)∨ ∃ b,(binOp .eql 147 x (.pointer none)).run PV v= .ok (.bool b) v∧(b=true→x= .pointer none)∧(b=false→ ∃ p,x= .pointer (some p)):=by
 have hu: ∀ w,(underlying 147).run PV w= .ok (.pointer 110) w:=fun w=>by rw [ua];exact Tryz.runUnderlying147 w
 have heq: ∀ y,(Op.equal 147 y (.pointer none)).run PV v=(Op.equalIn (9999+1) 147 y (.pointer none)).run PV v:=fun y=>by simp only [Op.equal,Op.maxDepth]
 have hbin: ∀ y,(binOp .eql 147 y (.pointer none)=(Op.equal 147 y (.pointer none) >>= fun b=>Pure.pure (.bool b):Sem Value))→ ∀ r,(Op.equalIn (9999+1) 147 y (.pointer none)).run PV v=r→(binOp .eql 147 y (.pointer none)).run PV v=r.andThen fun b w=> .ok (.bool b) w:=by
    intro y e r hr;rw [e];cases r with
    | ok b w=>exact (qw ((heq y).trans hr)).trans fx2
    | halt h w=>exact f2r ((heq y).trans hr)
 generalize 9999=D at hbin
 have hdef:(∀ p,x≠ .pointer p)→ ∃ h,hard h=true∧(Op.equalIn (D+1) 147 x (.pointer none)).run PV v= .halt h v:=by
    intro hx;cases x <;>first | exact absurd rfl (hx _) | (simp [Op.equalIn,fz9,hu,Result.andThen,Go.stuck,Go.unsupported,Sem.run,hard];done) | (simp [Op.equalIn,fz9,hu,Result.andThen,Go.stuck,Go.unsupported,Sem.run,hard];rfl)
 have hform:binOp .eql 147 x (.pointer none)=(Op.equal 147 x (.pointer none) >>= fun b=>Pure.pure (.bool b):Sem Value):=by cases x <;>rfl
 cases x with
 | pointer p=>
   cases p with
   | none=>exact .inr ⟨true,by rw [hbin _ hform (.ok true v) j3];rfl,fun _=>rfl,fun h=>by cases h⟩
   | some p=>exact .inr ⟨false,by rw [hbin _ hform (.ok false v) j3];rfl,(fun h=>by cases h),fun _=>⟨p,rfl⟩⟩
 | _=>
   obtain ⟨h,h1,h2⟩:=hdef (fun p h=>by cases h);exact .inl ⟨h,v,by rw [hbin _ hform _ h2];rfl,h1⟩
def foe (x:Value) (v:World):(∃ h v',(binOp .eql 146 x (.chan none)).run PV v= .halt h v'∧hard h=true)∨ ∃ b,(binOp .eql 146 x (.chan none)).run PV v= .ok (.bool b) v∧(b=false→ ∃ k,x= .chan (some k)):=by
 obtain ⟨e,d,hd⟩: ∃ d e,Tryz.prog.underlying 146=some (.chan d e):=⟨_,_,Tryz.underlying146⟩;have hu: ∀ w,(underlying 146).run PV w= .ok (.chan e d) w:=fun w=>by rw [ua];exact f0u hd w
 have heq: ∀ y,(Op.equal 146 y (.chan none)).run PV v=(Op.equalIn (9999+1) 146 y (.chan none)).run PV v:=fun y=>by simp only [Op.equal,Op.maxDepth]
 have hbin: ∀ y,(binOp .eql 146 y (.chan none)=(Op.equal 146 y (.chan none) >>= fun b=>Pure.pure (.bool b):Sem Value))→ ∀ r,(Op.equalIn (9999+1) 146 y (.chan none)).run PV v=r→(binOp .eql 146 y (.chan none)).run PV v=r.andThen fun b w=> .ok (.bool b) w:=by
    intro y e r hr;rw [e];cases r with
    | ok b w=>exact (qw ((heq y).trans hr)).trans fx2
    | halt h w=>exact f2r ((heq y).trans hr)
 generalize 9999=D at hbin
 have hdef:(∀ p,x≠ .chan p)→ ∃ h,hard h=true∧(Op.equalIn (D+1) 146 x (.chan none)).run PV v= .halt h v:=by
    intro hx;cases x <;>first | exact absurd rfl (hx _) | (simp [Op.equalIn,fz9,hu,Result.andThen,Go.stuck,Go.unsupported,Sem.run,hard];done) | (simp [Op.equalIn,fz9,hu,Result.andThen,Go.stuck,Go.unsupported,Sem.run,hard];rfl)
 have hform:binOp .eql 146 x (.chan none)=(Op.equal 146 x (.chan none) >>= fun b=>Pure.pure (.bool b):Sem Value):=by cases x <;>rfl
 cases x with
 | chan p=>
   cases p with
   | none=>exact .inr ⟨true,by rw [hbin _ hform (.ok true v) j3];rfl,fun h=>by cases h⟩
   | some p=>exact .inr ⟨false,by rw [hbin _ hform (.ok false v) j3];rfl,fun _=>⟨p,rfl⟩⟩
 | _=>
   obtain ⟨h,h1,h2⟩:=hdef (fun p h=>by cases h);exact .inl ⟨h,v,by rw [hbin _ hform _ h2];rfl,h1⟩
def fg0 {P:Program} {α:Type} (k:Nat) (f:Obj→Sem α) (v:World):(∃ h v',(Go.getObj k >>= f).run P v= .halt h v'∧hard h=true)∨ ∃ o,v.heap[k]? =some o∧(Go.getObj k >>= f).run P v=(f o).run P v:=by
 cases ho:v.heap[k]? with
 | none=>exact .inl ⟨_,v,by simp [Go.getObj,Bind.bind,Sem.bind,Sem.run,ho];rfl,rfl⟩
 | some o=>
   cases o with
   | cells c e f=>exact .inl ⟨_,v,by simp [Go.getObj,Bind.bind,Sem.bind,Sem.run,ho];rfl,rfl⟩
   | _=>exact .inr ⟨_,rfl,by simp [Go.getObj,Bind.bind,Sem.bind,Sem.run,ho]⟩
def fji (k:Nat) (v:World):(∃ h v',(Builtin.cap_ #[146] 3 #[.chan (some k)]).run PV v= .halt h v'∧hard h=true)∨ ∃ cap buf cl s r tm,v.heap[k]? =some (.chan cap buf cl s r tm)∧(Builtin.cap_ #[146] 3 #[.chan (some k)]).run PV v= .ok (goInt (if tm then 0 else cap)) v:=by
 obtain ⟨e,d,hd⟩: ∃ d e,Tryz.prog.underlying 146=some (.chan d e):=⟨_,_,Tryz.underlying146⟩;have hu:(underlying 146).run PV v= .ok (.chan e d) v:=by rw [ua];exact f0u hd v
 have hst:(Builtin.cap_ #[146] 3 #[.chan (some k)]).run PV v=(Go.getObj k >>= fun o=>match o with
    | .chan n _ _ _ _ timer=>Pure.pure (goInt (if timer then 0 else n))
    | _=>Go.stuck "cap: channel expected" :Sem Value).run PV v:=by
    simp [Builtin.cap_,fz9,hu,Result.andThen];rfl
 rw [hst]
 rcases fg0 (P:=PV) k (fun o=>match o with
    | .chan n _ _ _ _ timer=>Pure.pure (goInt (if timer then 0 else n))
    | _=>Go.stuck "cap: channel expected" :Obj→Sem Value) v with h | ⟨o,ho,h⟩
 · exact .inl h
 · rw [h];cases o with
   | chan cap buf cl s r tm=>exact .inr ⟨cap,buf,cl,s,r,tm,ho,rfl⟩
   | _=>exact .inl ⟨_,v,rfl,rfl⟩
def len_run {k cap s r:Nat} {buf:Array Value} {cl tm:Bool} {v:World} (hk:v.heap[k]? =some (.chan cap buf cl s r tm)):(Builtin.len_ #[146] 3 #[.chan (some k)]).run PV v= .ok (goInt (if tm then 0 else buf.size)) v:=by
 obtain ⟨e,d,hd⟩: ∃ d e,Tryz.prog.underlying 146=some (.chan d e):=⟨_,_,Tryz.underlying146⟩;have hu:(underlying 146).run PV v= .ok (.chan e d) v:=by rw [ua];exact f0u hd v
 have hst:(Builtin.len_ #[146] 3 #[.chan (some k)]).run PV v=(Go.getObj k >>= fun o=>match o with
    | .chan _ buf _ _ _ timer=>Pure.pure (goInt (if timer then 0 else buf.size))
    | _=>Go.stuck "len: channel expected" :Sem Value).run PV v:=by
    simp [Builtin.len_,fz9,hu,Result.andThen];rfl
 rw [hst];simp [Go.getObj,Sem.run,Bind.bind,Sem.bind,hk,Pure.pure]
def wi (A:VS Tryz.prog rg Stop) {ops:Array Oper} {i:Nat} {rest:List Nat} {K:Act→World→Prop} {o:Oper} {r:Result Next} (ho:ops[i]? =some o) (hw: ∀ ys,Region.wanted o ys=true) (hr:(execOp a.eval o).run PV v=r)
    (h:fit o a (VO Tryz.prog rg Stop ops rest K) r):VO Tryz.prog rg Stop ops (i::rest) K a v:=uf A ho hw (hr▸h)
section
variable {ops:Array Oper} {i:Nat} {rest:List Nat} {o:Oper} {K:Act→World→Prop} {t:TypeId} {y z:Operand}
def od (A:VS Tryz.prog rg Stop) (ho:ops[i]? =some o) (hop:o.op= .load t y) (hw: ∀ ys,Region.wanted o ys=true)
    (h: ∀ x,(Instr.loadAt t (a.eval y)).run PV v= .ok x v→VO Tryz.prog rg Stop ops rest K (a.put o.dst x) v):VO Tryz.prog rg Stop ops (i::rest) K a v:=fe6 fun hob=>by
 have e:execOp a.eval o=(Instr.loadAt t (a.eval y) >>= fun x=>Pure.pure (.value x):Sem Next):=by unfold execOp;rw [hop]
 rcases feb (fah t (a.eval y)) hob with ⟨hh,v',e1,e2⟩ | ⟨x,v',e1,_⟩
 · exact wi A ho hw (r:= .halt hh v') (by rw [e];exact f2r e1) e2
 · obtain rfl:=fjf _ _ _ _ _ e1;exact wi A ho hw (r:= .ok (.value x) v') (by rw [e];exact qw e1) (h x e1)
def fmt (A:VS Tryz.prog rg Stop) (ho:ops[i]? =some o) (hop:o.op= .store t y z) (hw: ∀ ys,Region.wanted o ys=true)
    (h: ∀ v',(Instr.storeAt t (a.eval y) (a.eval z)).run PV v= .ok () v'→VO Tryz.prog rg Stop ops rest K (a.put o.dst undef) v'):VO Tryz.prog rg Stop ops (i::rest) K a v:=fe6 fun hob=>by
 have e:execOp a.eval o=(Instr.storeAt t (a.eval y) (a.eval z) >>= fun _=>Pure.pure .skip:Sem Next):=by unfold execOp;rw [hop]
 rcases feb (ny t (a.eval y) (a.eval z)) hob with ⟨hh,v',e1,e2⟩ | ⟨x,v',e1,_⟩
 · exact wi A ho hw (r:= .halt hh v') (by rw [e];exact f2r e1) e2
 · exact wi A ho hw (r:= .ok .skip v') (by rw [e];exact qw e1) (h v' e1)
end
def SendR (p:Addr) (x3:Value) (v v':World):Prop:= ∃ k cap buf s r f,(Instr.loadAt 146 (.pointer (some p))).run PV v= .ok (.chan (some k)) v∧v.heap[k]? =some (.chan cap buf false s r false)∧cap≠0∧buf.size<cap∧
 (Instr.loadAt 110 x3).run PV v= .ok f v∧v'=v.setChan k cap (buf.push f) false (s+1) r false
def PutTR (x0 x3 x6:Value) (v v':World) (res:Value):Prop:=(x6= .bool true∧v'=v∧res= .bool false)∨(x6= .bool false∧res= .bool true∧ ∃ p,x0= .pointer (some p)∧SendR p x3 v v')
def v_putT (A : VS Tryz.prog rg Stop) (x0 x1 x2 x3 x4 x5 x6 x7 x8 x9 x10 x11 x12 x13 x14 x15:Value) (tl:List Value):
    VW Tryz.prog rg Stop putT (fun e a' v'=>e= .ret∧a'.defers=[]∧PutTR x0 x3 x6 v v' (a'.tmps.getD 4 undef)) { tmps:=(x0::x1::x2::x3::x4::x5::x6::x7::x8::x9::x10::x11::x12::x13::x14::x15::tl).toArray,defers:=[] } v:=by
 unfold putT;refine yy A fun t ht=> ?_;have ht:x6= .bool t:=ht;subst ht;cases t with
 | true=>
   refine xk A (ue A (uf A rfl (fun _=>rfl) ?_));go_simp;exact vi A (nr A ⟨rfl,rfl,.inl ⟨rfl,rfl,rfl⟩⟩)
 | false =>
   refine xk A (ue A (uf A rfl (fun _=>rfl) ?_));cases x0 with
   | pointer p =>
     cases p with
     | none=>go_simp;exact u0 rfl
     | some p=>
       go_simp;refine od A rfl rfl (fun _=>rfl) fun c hc=> ?_;have hc:(Instr.loadAt 146 (.pointer (some p))).run PV v= .ok c v:=hc;go_simp;refine uf A rfl (fun _=>rfl) ?_;have hq:=foe c v;go_simp;rcases hq with ⟨h,v',e,hh⟩ | ⟨b,e,hb⟩
       · rw [e];exact u0 hh
       rw [e];refine vi A (yy A fun t ht=> ?_);cases b with
       | true=>
         obtain rfl:t=true:=by simpa [Act.eval,Act.put] using ht.symm
         exact zi A _
       | false =>
         obtain rfl:t=false:=by simpa [Act.eval,Act.put] using ht.symm
         obtain ⟨k,rfl⟩:=hb rfl;clear e hb ht;refine xk A (ue A (uf A rfl (fun _=>rfl) ?_));have hq:=fji k v;go_simp;rcases hq with ⟨h,v',e,hh⟩ | ⟨cap,buf,cl,s,r,tm,hk,e⟩
         · rw [e];exact u0 hh
         rw [e];refine uf A rfl (fun _=>rfl) ?_;go_simp;refine vi A (yy A fun t ht=> ?_);cases t with
         | true=>exact zi A _
         | false=>
           have hcap:tm=false∧cap≠0:=by
             cases tm with
             | true=>simp [Act.eval,Act.put] at ht
             | false=>exact ⟨rfl,by simpa [Act.eval,Act.put] using ht⟩
           obtain ⟨rfl,hcap⟩:=hcap;clear ht e;go_simp;refine xk A (ue A (od A rfl rfl (fun _=>rfl) fun f hf=> ?_));have hf:(Instr.loadAt 110 x3).run PV v= .ok f v:=hf;go_simp;refine wi A rfl (fun _=>rfl) (r:= .ok (.comm #[⟨.chan (some k),some f,undef⟩] true .send) v) rfl ?_;refine ⟨⟨.chan (some k),some f,undef⟩,rfl,⟨trivial,.inr ⟨rfl,rfl,_,_,_,rfl⟩⟩,fun val v2 hco=> ?_⟩;simp only [uk,hk] at hco;cases cl with
           | true=>simp at hco
           | false=>
             simp only at hco;split at hco
             · rename_i hroom;cases hco;exact wi A rfl (fun _=>rfl) rfl (vi A (nr A ⟨rfl,rfl,.inr ⟨rfl,rfl,p,rfl,k,cap,buf,s,r,f,hc,hk,hcap,hroom,hf,rfl⟩⟩))
             · cases hco
   | _=>go_simp;exact u0 rfl
def fjj (x:Value) (v:World):(∃ h v',(Builtin.cap_ #[146] 3 #[x]).run PV v= .halt h v'∧hard h=true)∨(x= .chan none∧(Builtin.cap_ #[146] 3 #[x]).run PV v= .ok (goInt 0) v)∨
    ∃ k cap buf cl s r tm,x= .chan (some k)∧v.heap[k]? =some (.chan cap buf cl s r tm)∧(Builtin.cap_ #[146] 3 #[x]).run PV v= .ok (goInt (if tm then 0 else cap)) v:=by
 obtain ⟨e,d,hd⟩: ∃ d e,Tryz.prog.underlying 146=some (.chan d e):=⟨_,_,Tryz.underlying146⟩;have hu:(underlying 146).run PV v= .ok (.chan e d) v:=by rw [ua];exact f0u hd v
 cases x with
 | chan k=>
   cases k with
   | none=>exact .inr (.inl ⟨rfl,by simp [Builtin.cap_,fz9,hu,Result.andThen,Pure.pure,Sem.run]⟩)
   | some k=>
     rcases fji k v with h | ⟨cap,buf,cl,s,r,tm,hk,e⟩
     · exact .inl h
     · exact .inr (.inr ⟨k,cap,buf,cl,s,r,tm,rfl,hk,e⟩)
 | _=>exact .inl ⟨_,v,by simp [Builtin.cap_,fz9,hu,Result.andThen,Go.stuck,Sem.run];rfl,rfl⟩
noncomputable abbrev zero110:Array Value:= #[.int .i64 0,.int .i64 0,.int .i32 0,.int .i64 0,.int .i64 0,.int .i64 0,.int .i64 0,.int .i64 0,.int .i64 0]
inductive PeekR (p:Addr) (v:World):World→Value→Prop
 | has (q:Addr):(Instr.loadAt 147 (.pointer (some (p.add 1)))).run PV v= .ok (.pointer (some q)) v→PeekR p v v (.pointer (some q))
 | empty (k cap s r:Nat):(Instr.loadAt 147 (.pointer (some (p.add 1)))).run PV v= .ok (.pointer none) v→(Instr.loadAt 146 (.pointer (some p))).run PV v= .ok (.chan (some k)) v→
    v.heap[k]? =some (.chan cap #[] false s r false)→cap≠0→PeekR p v v (.pointer none)
 | gets (k cap s r:Nat) (buf:Array Value) (cl:Bool) (y:Value) (ok:Bool) (v1 v3 v':World) (res:Value):(Instr.loadAt 147 (.pointer (some (p.add 1)))).run PV v= .ok (.pointer none) v→(Instr.loadAt 146 (.pointer (some p))).run PV v= .ok (.chan (some k)) v→
    v.heap[k]? =some (.chan cap buf cl s r false)→cap≠0→((0<buf.size∧ok=true∧y=buf.getD 0 undef∧v1=v.setChan k cap (buf.extract 1 buf.size) cl s (r+1) false)∨(buf= #[]∧cl=true∧ok=false∧y= .agg zero110∧v1=v))→
    (Instr.storeAt 110 (.pointer (some ⟨v1.heap.size,0,none⟩)) y).run PV (v1.alloc (.cells zero110 110))= .ok () v3→(Instr.storeAt 147 (.pointer (some (p.add 1))) (.pointer (some ⟨v1.heap.size,0,none⟩))).run PV v3= .ok () v'→
    (Instr.loadAt 147 (.pointer (some (p.add 1)))).run PV v'= .ok res v'→PeekR p v v' res
def v_peekB (A:VS Tryz.prog rg Stop) (x0 x1 x2 x3 x4 x5 x6 x7 x8 x9 x10 x11 x12 x13 x14 x15 x16:Value) (tl:List Value):
    VW Tryz.prog rg Stop fo6 (fun e a' v'=>e= .ret∧a'.defers=[]∧ ∃ p,x0= .pointer (some p)∧PeekR p v v' (a'.tmps.getD 2 undef)) { tmps:=(x0::x1::x2::x3::x4::x5::x6::x7::x8::x9::x10::x11::x12::x13::x14::x15::x16::tl).toArray,defers:=[] } v:=by
 unfold fo6;cases x0 with
 | pointer p =>
   cases p with
   | none=>refine xk A (ue A (uf A rfl (fun _=>rfl) ?_));go_simp;exact u0 rfl
   | some p=>
     have hf1:(Instr.fieldAt 149 (.pointer (some p)) 1).run PV v= .ok (.pointer (some (p.add 1))) v:=by go_simp
     have hf0:(Instr.fieldAt 149 (.pointer (some p)) 0).run PV v= .ok (.pointer (some p)) v:=by go_simp
     generalize hp1:p.add 1=p1 at hf1;refine xk A (ue A (wi A rfl (fun _=>rfl) (r:= .ok (.value (.pointer (some p1))) v) (qw hf1) (od A rfl rfl (fun _=>rfl) fun hd hhd=> ?_)));have hhd:(Instr.loadAt 147 (.pointer (some p1))).run PV v= .ok hd v:=hhd;refine uf A rfl (fun _=>rfl) ?_;have hq:=fjh hd v;clear hf1;go_simp;rcases hq with ⟨h,v',e,hh⟩ | ⟨b,e,hb1,hb2⟩
     · rw [e];exact u0 hh
     rw [e];refine vi A (xk A (yy A fun t ht=> ?_));cases b with
     | false=>
       obtain rfl:t=false:=by simpa [Act.eval,Act.put] using ht.symm
       obtain ⟨q,rfl⟩:=hb2 rfl;clear ht e hb1 hb2;refine fqc A ?_;refine xk A (ue A (od A rfl rfl (fun _=>rfl) fun res hres=> ?_));have hres:(Instr.loadAt 147 (.pointer (some p1))).run PV v= .ok res v:=hres;rw [hhd] at hres;cases hres;refine vi A (nr A ⟨rfl,rfl,?_⟩);exact .has q (by rw [hp1];exact hhd)
     | true=>
       obtain rfl:t=true:=by simpa [Act.eval,Act.put] using ht.symm
       obtain rfl:=hb1 rfl;clear ht e hb1 hb2;refine xk A (ue A (wi A rfl (fun _=>rfl) (r:= .ok (.value (.pointer (some p))) v) (qw hf0) (od A rfl rfl (fun _=>rfl) fun ch hch=> ?_)));have hch:(Instr.loadAt 146 (.pointer (some p))).run PV v= .ok ch v:=hch;refine uf A rfl (fun _=>rfl) ?_;have hq:=fjj ch v;clear hf0;go_simp;rcases hq with ⟨h,v',e,hh⟩ | ⟨rfl,e⟩ | ⟨k,cap,buf,cl,s,r,tm,rfl,hk,e⟩
       · rw [e];exact u0 hh
       · rw [e];refine uf A rfl (fun _=>rfl) ?_;go_simp;refine vi A (yy A fun t ht=> ?_);cases t with
         | true=>exact zi A _
         | false=>simp [Act.eval,Act.put] at ht
       · rw [e];refine uf A rfl (fun _=>rfl) ?_;go_simp;refine vi A (yy A fun t ht=> ?_);cases t with
         | true=>exact zi A _
         | false =>
           have hcap:tm=false∧cap≠0:=by
             cases tm with
             | true=>simp [Act.eval,Act.put] at ht
             | false=>exact ⟨rfl,by simpa [Act.eval,Act.put] using ht⟩
           obtain ⟨rfl,hcap⟩:=hcap;clear ht e;go_simp;refine xk A (ue A (uf A rfl (fun _=>rfl) ?_));go_simp;refine ⟨_,rfl,⟨trivial,.inl ⟨rfl,rfl,_,_,rfl⟩⟩,fun val v2 hco=> ?_⟩;simp only [uk,hk] at hco;have hval:(∃ y ok,val= .tuple #[goInt 0,.bool ok,y]∧((0<buf.size∧ok=true∧y=buf.getD 0 undef∧v2=v.setChan k cap (buf.extract 1 buf.size) cl s (r+1) false)∨(buf= #[]∧cl=true∧ok=false∧y= .agg zero110∧v2=v)))∨
            (∃ z,val= .tuple #[goInt (-1),.bool false,z]∧v2=v∧buf= #[]∧cl=false):=by
             by_cases hb:0<buf.size
             · rw [f02 hb] at hco;cases hco;exact .inl ⟨_,true,rfl,.inl ⟨hb,rfl,rfl,rfl⟩⟩
             · have hb0:buf= #[]:=by
                 apply f4y;omega
               rw [fx9 hb] at hco;cases cl with
               | true=>
                 rw [f02 rfl] at hco;cases hco;exact .inl ⟨_,false,rfl,.inr ⟨hb0,rfl,rfl,rfl,rfl⟩⟩
               | false=>
                 rw [fx9 fi] at hco;cases hco;exact .inr ⟨_,rfl,rfl,hb0,rfl⟩
           clear hco;rcases hval with ⟨y,ok,rfl,hcond⟩ | ⟨z,rfl,rfl,rfl,rfl⟩
           · refine uf A rfl (fun _=>rfl) ?_;go_simp;refine uf A rfl (fun _=>rfl) ?_;go_simp;refine vi A (yy A fun t ht=> ?_);obtain rfl:t=true:=by simpa [Act.eval,Act.put] using ht.symm
             clear ht;refine ue A (uf A rfl (fun _=>rfl) ?_);go_simp;refine wi A rfl (fun _=>rfl) (r:= .ok (.value (.pointer (some ⟨v2.heap.size,0,none⟩))) (v2.alloc (.cells zero110 110))) gw ?_;refine fmt A rfl rfl (fun _=>rfl) fun v3 hs3=> ?_;have hs3:(Instr.storeAt 110 (.pointer (some ⟨v2.heap.size,0,none⟩)) y).run PV (v2.alloc (.cells zero110 110))= .ok () v3:=hs3;refine fmt A rfl rfl (fun _=>rfl) fun v4 hs4=> ?_;have hs4:(Instr.storeAt 147 (.pointer (some p1)) (.pointer (some ⟨v2.heap.size,0,none⟩))).run PV v3= .ok () v4:=hs4;refine vi A ?_;refine xk A (ue A (od A rfl rfl (fun _=>rfl) fun res hres=> ?_));have hres:(Instr.loadAt 147 (.pointer (some p1))).run PV v4= .ok res v4:=hres;refine vi A (nr A ⟨rfl,rfl,?_⟩);subst hp1;exact .gets k cap s r buf cl y ok v2 v3 v4 res hhd hch hk hcap hcond hs3 hs4 hres
           · refine uf A rfl (fun _=>rfl) ?_;go_simp;refine uf A rfl (fun _=>rfl) ?_;go_simp;refine vi A (yy A fun t ht=> ?_);obtain rfl:t=false:=by simpa [Act.eval,Act.put] using ht.symm
             clear ht;refine fqc A ?_;refine xk A (ue A (od A rfl rfl (fun _=>rfl) fun res hres=> ?_));have hres:(Instr.loadAt 147 (.pointer (some p1))).run PV v2= .ok res v2:=hres;rw [hhd] at hres;cases hres;refine vi A (nr A ⟨rfl,rfl,?_⟩);subst hp1;exact .empty k cap s r hhd hch hk hcap
 | _=>refine xk A (ue A (uf A rfl (fun _=>rfl) ?_));go_simp;exact u0 rfl
end
end Go.Proofs.YtelecjnabeokeaaGreatDoor
namespace Go.Proofs.YtelecjnabeokeaaGreatDoor
open Go Go.Conc Go.RowKit
attribute [local go_sem] z3 xz zn
section
variable {Stop:Frame→List Frame→World→Prop} {a:Act} {v:World}
def VX (Stop:Frame→List Frame→World→Prop) (c c':Code) (Q:Act→World→Prop) (a:Act) (v:World):Prop:=
 ∀ (b:Frame) (k:List Item) (l:List Frame),l≠[]→Lv Tryz.prog rg Stop (b.at a (.code c::k),l,v)→ ∃ a' v',Q a' v'∧Desc PV Stop (b.at a (.code c::k),l,v) (b.at a' (.code c'::k),l,v')
def fr9 {c:Code} {Q:Act→World→Prop} (h:Q a v):VX Stop c c Q a v:=fun b k l _ _=>⟨a,v,h,.refl _⟩
def fg1 (A:VS Tryz.prog rg Stop) {x y c':Code} {Q:Act→World→Prop} (h:VW Tryz.prog rg Stop x (fun e a' v'=>e= .normal∧VX Stop y c' Q a' v') a v):VX Stop (.seq x y) c' Q a v:=fun b k l hl L=>by
 obtain ⟨l1,e,L',ha⟩:=cy A L hl f4d;obtain rfl:=fz2 e;obtain ⟨e,a',v',fr',⟨rfl,hq⟩,harr,hb⟩:=h b (.code y::k) l hl L';obtain rfl:=harr;obtain ⟨a2,v2,h2,hd⟩:=hq b k l hl (vn A L' hb);exact ⟨a2,v2,h2,ha.to_desc.trans (hb.to_desc.trans hd)⟩
def d9 (A:VS Tryz.prog rg Stop) {c:Operand} {x y c':Code} {Q:Act→World→Prop} (h: ∀ t,a.eval c= .bool t→VX Stop (if t then x else y) c' Q a v):VX Stop (.cond c x y) c' Q a v:=fun b k l hl L=>by
 by_cases hb: ∃ t,a.eval c= .bool t
 · obtain ⟨t,hb⟩:=hb;obtain ⟨l1,e,L',ha⟩:=cy A L hl (stepG_cond hb);obtain rfl:=fz2 e;obtain ⟨a2,v2,h2,hd⟩:=h t hb b k l hl L';exact ⟨a2,v2,h2,ha.to_desc.trans hd⟩
 · exfalso;obtain ⟨_,_,_,_,hq,_⟩:=yy (Q:=fun _ _ _=>False) A (c:=c) (x:=x) (y:=y) (fun t ht=>absurd ⟨t,ht⟩ hb) b k l hl L;exact hq
def ln (A:VS Tryz.prog rg Stop) {why:String} {c':Code} {Q:Act→World→Prop}:VX Stop (.refuse why) c' Q a v:=fun b k l hl L=>by
 obtain ⟨_,_,_,_,hq,_⟩:=zi (Q:=fun _ _ _=>False) A why b k l hl L;exact hq.elim
def flh (x:Value) (v:World):(∃ h v',(Builtin.cap_ #[78] 3 #[x]).run PV v= .halt h v'∧hard h=true)∨(x= .chan none∧(Builtin.cap_ #[78] 3 #[x]).run PV v= .ok (goInt 0) v)∨
    ∃ k cap buf cl s r tm,x= .chan (some k)∧v.heap[k]? =some (.chan cap buf cl s r tm)∧(Builtin.cap_ #[78] 3 #[x]).run PV v= .ok (goInt (if tm then 0 else cap)) v:=by
 obtain ⟨e,d,hd⟩: ∃ d e,Tryz.prog.underlying 78=some (.chan d e):=⟨_,_,Tryz.underlying78⟩;have hu:(underlying 78).run PV v= .ok (.chan e d) v:=by rw [ua];exact f0u hd v
 cases x with
 | chan k=>
   cases k with
   | none=>exact .inr (.inl ⟨rfl,by simp [Builtin.cap_,fz9,hu,Result.andThen,Pure.pure,Sem.run]⟩)
   | some k=>
     have hst:(Builtin.cap_ #[78] 3 #[.chan (some k)]).run PV v=(Go.getObj k >>= fun o=>match o with
        | .chan n _ _ _ _ timer=>Pure.pure (goInt (if timer then 0 else n))
        | _=>Go.stuck "cap: channel expected" :Sem Value).run PV v:=by
        simp [Builtin.cap_,fz9,hu,Result.andThen];rfl
     rw [hst]
     rcases fg0 (P:=PV) k (fun o=>match o with
        | .chan n _ _ _ _ timer=>Pure.pure (goInt (if timer then 0 else n))
        | _=>Go.stuck "cap: channel expected" :Obj→Sem Value) v with h | ⟨o,ho,h⟩
     · exact .inl h
     · rw [h];cases o with
       | chan cap buf cl s r tm=>exact .inr (.inr ⟨k,cap,buf,cl,s,r,tm,rfl,ho,rfl⟩)
       | _=>exact .inl ⟨_,v,rfl,rfl⟩
 | _=>exact .inl ⟨_,v,by simp [Builtin.cap_,fz9,hu,Result.andThen,Go.stuck,Sem.run];rfl,rfl⟩
abbrev oe:Array Oper:= #[oper (some 4) (.call { callee:= .value (.tmp 1),args:= #[],argTypes:= #[] }) 49]
abbrev zx:Code:= .seq (.region 104 #[oper none (.send (.tmp 0) (.const (.bool true))) 0] false) .ret
abbrev doCall:Code:= .seq (.region 103 oe false) zx
def DoR (x0 x1:Value) (v:World) (a':Act) (v':World):Prop:= ∃ k cap buf cl s r tm,x0= .chan (some k)∧v.heap[k]? =some (.chan cap buf cl s r tm)∧(tm=true∨cap=0)∧0<buf.size∧
 v'=(((v.setChan k cap (buf.extract 1 buf.size) cl s (r+1) tm).alloc (.cells x1.cells 116)).alloc (.chan 0 #[] false 0 0 false)).alloc (.cells #[] 163)∧a'.defers=[]∧a'.tmps.getD 0 undef=x0∧a'.tmps.getD 1 undef=x1∧11≤a'.tmps.size
def v_do1 (A:VS Tryz.prog rg Stop) (x0 x1 x2 x3 x4 x5 x6 x7 x8 x9 x10:Value) (tl:List Value): ∃ c,doV.body=some c∧VX Stop c doCall (DoR x0 x1 v) { tmps:=(x0::x1::x2::x3::x4::x5::x6::x7::x8::x9::x10::tl).toArray,defers:=[] } v:=by
 refine ⟨_,rfl,?_⟩;refine fg1 A (ue A (uf A rfl (fun _=>rfl) ?_));have hq:=flh x0 v;go_simp;rcases hq with ⟨h,v',e,hh⟩ | ⟨rfl,e⟩ | ⟨k,cap,buf,cl,s,r,tm,rfl,hk,e⟩
 · rw [e];exact u0 hh
 · rw [e];refine uf A rfl (fun _=>rfl) ?_;go_simp;refine vi A ?_
   first | refine ⟨rfl,d9 A fun t ht=> ?_⟩ | refine d9 A fun t ht=> ?_
   cases t with
   | false=>exact ln A
   | true=>
     refine fg1 A (ue A (uf A rfl (fun _=>rfl) ?_));go_simp;refine ⟨_,rfl,⟨trivial,.inl ⟨rfl,rfl,_,_,rfl⟩⟩,fun val v2 hco=> ?_⟩;simp only [uk,f03,f2e] at hco;obtain ⟨rfl,rfl⟩:=hco;refine uf A rfl (fun _=>rfl) ?_;go_simp;refine vi A ?_
     first | refine ⟨rfl,d9 A fun t ht=> ?_⟩ | refine d9 A fun t ht=> ?_
     cases t with
     | false=>exact ln A
     | true=>simp [Act.eval,Act.put] at ht
 · rw [e];refine uf A rfl (fun _=>rfl) ?_;go_simp;refine vi A ?_
   first | refine ⟨rfl,d9 A fun t ht=> ?_⟩ | refine d9 A fun t ht=> ?_
   cases t with
   | false=>exact ln A
   | true=>
     have hcap:tm=true∨cap=0:=by
       cases tm with
       | true=>exact .inl rfl
       | false=>right;simpa [Act.eval,Act.put] using ht
     clear ht e;go_simp;refine fg1 A (ue A (uf A rfl (fun _=>rfl) ?_));go_simp;refine ⟨_,rfl,⟨trivial,.inl ⟨rfl,rfl,_,_,rfl⟩⟩,fun val v2 hco=> ?_⟩;simp only [uk,hk] at hco;by_cases hb:0<buf.size
     · simp only [hb,f0e,f03,f2e] at hco;obtain ⟨rfl,rfl⟩:=hco;refine uf A rfl (fun _=>rfl) ?_;go_simp;refine vi A ?_
       first | refine ⟨rfl,d9 A fun t ht=> ?_⟩ | refine d9 A fun t ht=> ?_
       cases t with
       | false=>exact ln A
       | true=>
         clear ht;refine fg1 A (ue A (wi A rfl (fun _=>rfl) (r:= .ok (.value _) _) rfl (wi A rfl (fun _=>rfl) (r:= .ok (.value _) _) rfl (wi A rfl (fun _=>rfl) (r:= .ok (.value _) _) rfl (vi A ⟨rfl,fr9 ?_⟩)))));exact ⟨k,cap,buf,cl,s,r,tm,rfl,hk,hcap,hb,rfl,rfl,rfl,rfl,by simp [Act.put,oper]⟩
     · simp only [hb,f0s] at hco
       have hv2:val= .tuple #[goInt 0,.bool false,undef]∨ ∃ z i,val= .tuple #[goInt i,.bool false,z]:=by
          split at hco
          · simp only [f03,f2e] at hco;exact .inr ⟨_,_,hco.1.symm⟩
          · simp only [f03,f2e] at hco;exact .inr ⟨_,_,hco.1.symm⟩
       have hv2: ∃ z i,val= .tuple #[goInt i,.bool false,z]:=hv2.elim (fun h=>⟨_,_,h⟩) id;obtain ⟨z,i,rfl⟩:=hv2;refine uf A rfl (fun _=>rfl) ?_;go_simp;refine vi A ?_
       first | refine ⟨rfl,d9 A fun t ht=> ?_⟩ | refine d9 A fun t ht=> ?_
       cases t with
       | false=>exact ln A
       | true=>simp [Act.eval,Act.put] at ht
end
end Go.Proofs.YtelecjnabeokeaaGreatDoor
namespace Go.Proofs.YtelecjnabeokeaaGreatDoor
open Go Go.Conc Go.RowKit
section
variable {P:Program} {F:Array Func} {Stop:Frame→List Frame→World→Prop} {a:Act} {v v1 w:World} {b g:Frame} {l:List Frame} {H:Hide}
def fmu (A:VS P F Stop) {fn:Func} {todo:List Item} {x:Value} (hf:F[b.fn]? =some fn) (hk:b.kind= .normal∨b.kind= .deferred) (hd:a.defers=[]) (hr:(results fn a.tmps).run (V P F) v= .ok x v)
    (L:Lv P F Stop ({ b.at a todo with mode:= .returning },g::l,v)):Ahead (V P F) Stop ({ b.at a todo with mode:= .returning },g::l,v) (ur b.kind x g,l,v):=by
 have hf':(V P F).funcs[b.fn]? =some fn:=hf;obtain ⟨es,hT⟩:=uu hr
 have hst:stepG (V P F) true (G { b.at a todo with mode:= .returning } (g::(l++[botF]))) v= .go (G (ur b.kind x g) (l++[botF])) v (seen (V P F) b.fn es):=by
    have e1:stepG (V P F) true (G { b.at a todo with mode:= .returning } (g::(l++[botF]))) v=GStep.after (seen (V P F) b.fn es) (doReturn (V P F) true { b.at a todo with mode:= .returning } (g::(l++[botF])) none x v):=by
     simp [-Sem.runT_eq,G,stepG,unwind,Frame.at,hd,hf',hT]
    rw [e1,wn (by simpa [Frame.at] using hk)];simp only [c9,ur,Frame.at,LRes.plug,GStep.after,f1t];rfl
 obtain ⟨l1,e1,_,ha'⟩:=cy A L fi (by simpa using hst);obtain rfl:=fz2 e1;exact ha'
def fra:rg[46]? =some doV:=by rw [wy,Tryz.func46];rfl
def v_do2 {Stop:Frame→List Frame→World→Prop} (A:VS Tryz.prog rg Stop) {k:Nat} {x:Value} {cap s r:Nat} {buf:Array Value} {cl tm:Bool} {ks:List Item} (hb:b.fn=46) (hk:b.kind= .normal∨b.kind= .deferred) (hd:a.defers=[]) (h0:a.tmps.getD 0 undef= .chan (some k)) (h4:a.tmps.getD 4 undef=x)
    (ho:v.heap[k]? =some (.chan cap buf cl s r tm)) (L:Lv Tryz.prog rg Stop (b.at a (.inRegion oe []:: .code zx::ks),g::l,v)):
    Ahead PV Stop (b.at a (.inRegion oe []:: .code zx::ks),g::l,v) (ur b.kind x g,l,v.setChan k cap (buf.push (.bool true)) false (s+1) r tm):=by
 obtain ⟨l1,e,L1,h1⟩:=cy A L fi f1o;obtain rfl:=fz2 e
 have hsend:VW Tryz.prog rg Stop zx (fun e a' v'=>e= .ret∧a'.defers=[]∧a'.tmps.getD 4 undef=x∧v'=v.setChan k cap (buf.push (.bool true)) false (s+1) r tm) a v:=by
    refine xk A (ue A (wi A rfl (fun _=>rfl) (r:= .ok (.comm #[⟨a.eval (.tmp 0),some (.bool true),undef⟩] true .send) v) rfl ?_));refine ⟨_,rfl,⟨trivial,.inr ⟨rfl,rfl,_,_,_,rfl⟩⟩,fun val v2 hco=> ?_⟩;have h0':a.eval (.tmp 0)= .chan (some k):=h0;simp only [uk,h0',ho] at hco;cases cl with
    | true=>simp at hco
    | false=>
      simp only at hco;split at hco
      · cases hco;exact vi A (nr A ⟨rfl,hd,h4,rfl⟩)
      · cases hco
 obtain ⟨e,a',v',fr',⟨rfl,hd',h4',rfl⟩,⟨todo,rfl⟩,h2⟩:=hsend b ks (g::l) fi L1;have L2:=vn A L1 h2;have h3:=fmu (fn:=doV) (x:=x) A (by rw [hb];exact fra) hk hd' (by rw [f0x rfl];rw [h4']) L2;exact h1.desc (h2.desc h3.to_desc).to_desc
def Rel.remark (rel:Rel H v w) {k:Nat} {o o':Obj} (hk:H k=some o) (ho:mw o' w.heap[k]?) (hok:okSt o'=true):
    Rel ⟨fun b=>if b=k then some o' else H b,H.real,H.on⟩ { v with heap:=v.heap.setIfInBounds k o' } w:=by
 have hlt:k<v.heap.size:=by
    obtain ⟨h1,_⟩:=rel.laid k o hk;exact (fx5.1 h1).1
 have hg: ∀ b:Nat,(v.heap.setIfInBounds k o')[b]? =if b=k then some o' else v.heap[b]? :=fun b=>by
    rw [fy1];by_cases e:k=b
    · subst e;simp [hlt]
    · rw [fx9 e,fx9 fun e'=>e e'.symm]
 refine ⟨by simp [rel.size],fun b hb=> ?_,fun b x hb=> ?_,rel.os,rel.output,fun b x hb=> ?_,fun b x hb=> ?_,fun hon b x hb hx=> ?_⟩
 · simp only at hb;split at hb
   · cases hb
   · rename_i hne;show (v.heap.setIfInBounds k o')[b]? =_;rw [hg,fx9 hne];exact rel.same b hb
 · simp only at hb;show (v.heap.setIfInBounds k o')[b]? =_∧_;rw [hg];split at hb
   · rename_i e;subst e;cases hb;exact ⟨by simp,ho⟩
   · rename_i hne;rw [fx9 hne];exact rel.laid b x hb
 · replace hb:(v.heap.setIfInBounds k o')[b]? =some x:=hb;rw [hg] at hb;split at hb
   · cases hb;exact hok
   · exact rel.objs b x hb
 · simp only at hb;split at hb
   · rename_i e;subst e;exact rel.kept b o hk
   · exact rel.kept b x hb
 · replace hx:(v.heap.setIfInBounds k o')[b]? =some x:=hx;simp only at hb;split at hb
   · cases hb
   · rename_i hne;rw [hg,fx9 hne] at hx;exact rel.chans hon b x hb hx
def Rel.pushHid (rel:Rel H v w) {o o':Obj} (ho:mw o (some o')) (hok:okSt o=true):
    Rel ⟨fun b=>if b=v.heap.size then some o else H b,fun b=>if b=v.heap.size then some o' else H.real b,H.on⟩ { v with heap:=v.heap.push o } { w with heap:=w.heap.push o' }:=by
 have hg: ∀ (b:Nat),(v.heap.push o)[b]? =if b=v.heap.size then some o else v.heap[b]? :=fun b=>by rw [f05]
 have hg': ∀ (b:Nat),(w.heap.push o')[b]? =if b=v.heap.size then some o' else w.heap[b]? :=fun b=>by rw [f05,rel.size]
 refine ⟨by simp [rel.size],fun b hb=> ?_,fun b x hb=> ?_,rel.os,rel.output,fun b x hb=> ?_,fun b x hb=> ?_,fun hon b x hb hx=> ?_⟩
 · simp only at hb;split at hb
   · cases hb
   · rename_i hne;show (v.heap.push o)[b]? =(w.heap.push o')[b]?;rw [hg,hg',fx9 hne,fx9 hne];exact rel.same b hb
 · simp only at hb;show (v.heap.push o)[b]? =_∧mw x (w.heap.push o')[b]?;rw [hg,hg'];split at hb
   · rename_i e;rw [f02 e,f02 e];cases hb;exact ⟨rfl,ho⟩
   · rename_i hne;rw [fx9 hne,fx9 hne];exact rel.laid b x hb
 · replace hb:(v.heap.push o)[b]? =some x:=hb;rw [hg] at hb;split at hb
   · cases hb;exact hok
   · exact rel.objs b x hb
 · show (w.heap.push o')[b]? =_;rw [hg'];simp only at hb ⊢;split at hb
   · rename_i e;rw [f02 e,f02 e]
   · rename_i hne;rw [fx9 hne,fx9 hne];exact rel.kept b x hb
 · replace hx:(v.heap.push o)[b]? =some x:=hx;simp only at hb;split at hb
   · cases hb
   · rename_i hne;rw [hg,fx9 hne] at hx;exact rel.chans hon b x hb hx
def Rel.reReal (rel:Rel H v w) {k:Nat} {o o':Obj} (hk:H k=some o) (ho:mw o (some o')) (hlt:k<w.heap.size):
    Rel ⟨H.at_,fun b=>if b=k then some o' else H.real b,H.on⟩ v { w with heap:=w.heap.setIfInBounds k o' }:=by
 have hg: ∀ b:Nat,(w.heap.setIfInBounds k o')[b]? =if b=k then some o' else w.heap[b]? :=fun b=>by
    rw [fy1];by_cases e:k=b
    · subst e;simp [hlt]
    · rw [fx9 e,fx9 fun e'=>e e'.symm]
 refine ⟨by simp [rel.size],fun b hb=> ?_,fun b x hb=> ?_,rel.os,rel.output,rel.objs,fun b x hb=> ?_,rel.chans⟩
 · have hne:b≠k:=by rintro rfl;simp only at hb;rw [hk] at hb;cases hb
   show _=(w.heap.setIfInBounds k o')[b]?;rw [hg,fx9 hne];exact rel.same b hb
 · show _∧mw x (w.heap.setIfInBounds k o')[b]?;rw [hg];split
   · rename_i e;subst e;simp only at hb;rw [hk] at hb;cases hb;exact ⟨(rel.laid b o hk).1,ho⟩
   · exact rel.laid b x hb
 · show (w.heap.setIfInBounds k o')[b]? =_;rw [hg];simp only;split
   · rfl
   · exact rel.kept b x hb
end
def virt57:rg[57]? =some lockV:=by rw [wy,Tryz.func57];rfl
def virt58:rg[58]? =some unlockV:=by rw [wy,Tryz.func58];rfl
section
variable {Stop:Frame→List Frame→World→Prop} {g:Frame} {l:List Frame} {v:World} {args:Array Value} {kind:CallKind}
def mh {args:Array Value} {L:List Value} (h: ∀ i,L.getD i undef=args.getD i undef) {x0:Value} {tl:List Value} (e:L=x0::tl):args.getD 0 undef=x0:=by
 subst e;exact (h 0).symm
def v_lock (A:VS Tryz.prog rg Stop) (L:Lv Tryz.prog rg Stop (Frame.enter PV 57 args kind,g::l,v)):
    ∃ d v',fo8 0 1 (args.getD 0 undef) (reW v v.tape d) v'∧Ahead PV Stop (Frame.enter PV 57 args kind,g::l,v) (ur kind (.tuple #[]) g,l,v'):=by
 obtain ⟨x,v',⟨rfl,d,hR⟩,ha⟩:=fgw (R:=fun x v'=>x= .tuple #[]∧ ∃ d,fo8 0 1 (args.getD 0 undef) (reW v v.tape d) v') A virt57 rfl L (by
    obtain ⟨Ls,hlen,hL,h0⟩:=fa5 args 3;show VW Tryz.prog rg Stop (.seq chkR fql) _ { tmps:=args++Array.replicate (3-args.size) undef,defers:=[] } v;rw [hL];rcases Ls with _ | ⟨x0,_ | ⟨x1,_ | ⟨x2,tl⟩⟩⟩ <;>first | (simp at hlen;done) | skip
    refine fmm A fun d hv=> ?_;have h:=v_lockB A x0 x1 x2 tl (v:=reW v v.tape d) (fun p hp=>hv p hp);intro b k l hl L;obtain ⟨e,a',v',fr',⟨rfl,hd,hR⟩,harr,ha⟩:=h b k l hl L;refine ⟨_,a',v',fr',⟨.inr rfl,hd,.tuple #[],f2g rfl _ _ _,rfl,d,?_⟩,harr,ha⟩;rw [mh h0 rfl];exact hR)
 exact ⟨d,v',hR,ha⟩
def fuc (A:VS Tryz.prog rg Stop) (L:Lv Tryz.prog rg Stop (Frame.enter PV 58 args kind,g::l,v)):
    ∃ d v',fo8 1 0 (args.getD 0 undef) (reW v v.tape d) v'∧Ahead PV Stop (Frame.enter PV 58 args kind,g::l,v) (ur kind (.tuple #[]) g,l,v'):=by
 obtain ⟨x,v',⟨rfl,d,hR⟩,ha⟩:=fgw (R:=fun x v'=>x= .tuple #[]∧ ∃ d,fo8 1 0 (args.getD 0 undef) (reW v v.tape d) v') A virt58 rfl L (by
    obtain ⟨Ls,hlen,hL,h0⟩:=fa5 args 3;show VW Tryz.prog rg Stop (.seq chkR fe5) _ { tmps:=args++Array.replicate (3-args.size) undef,defers:=[] } v;rw [hL];rcases Ls with _ | ⟨x0,_ | ⟨x1,_ | ⟨x2,tl⟩⟩⟩ <;>first | (simp at hlen;done) | skip
    refine fmm A fun d hv=> ?_;have h:=fqp A x0 x1 x2 tl (v:=reW v v.tape d) (fun p hp=>hv p hp);intro b k l hl L;obtain ⟨e,a',v',fr',⟨rfl,hd,hR⟩,harr,ha⟩:=h b k l hl L;refine ⟨_,a',v',fr',⟨.inr rfl,hd,.tuple #[],f2g rfl _ _ _,rfl,d,?_⟩,harr,ha⟩;rw [mh h0 rfl];exact hR)
 exact ⟨d,v',hR,ha⟩
end
def spec_lock:SpecOk Tryz.prog rg 57:=by
 intro Stop WS Shun Φ args kind g l v A hR Fx Sx H S St h X cs gs w T q hk hlt L I C hD hcont;obtain ⟨d,v',⟨p,hp,hc,hz,rfl⟩,ha⟩:=v_lock A L;have hc:v.cell? p=some (.int .i32 0):=hc;have hz:v.frozen? p=false:=hz;have hH:=I.rel.hidden_cell hc;have hcw:=I.rel.cell hc;have hzw:=(I.rel.frozen hH).trans hz;have hog:=fqr (main:=h==0) (H:=H) (Shun:=Shun) (w:=w) (n:=0) (c:=X) (cs:=cs) (Φ:=fun a w' k=>a=G (ur kind (.tuple #[]) X) cs∧(∃ d,w'=(w.setCell p (.int .i32 1)).at d)∧k=0) hk hp hH hcw hzw (.now fun d=>⟨rfl,⟨d,rfl⟩,rfl⟩);refine (C.og I.prot hog hD).trans fun gs' w' T' hh=> ?_;obtain ⟨a',q',⟨rfl,⟨d',rfl⟩,hD'⟩,hsz,C'⟩:=hh;have rel':Rel H ((reW v v.tape d).setCell p (.int .i32 1)) ((w.setCell p (.int .i32 1)).at d'):=(((I.rel.re' v.tape d).setCell hH _).re _ _);exact hcont _ _ _ _ _ _ _ _ _ ha (I.step rel') hsz C' hD'
def spec_unlock:SpecOk Tryz.prog rg 58:=by
 intro Stop WS Shun Φ args kind g l v A hR Fx Sx H S St h X cs gs w T q hk hlt L I C hD hcont;obtain ⟨d,v',⟨p,hp,hc,hz,rfl⟩,ha⟩:=fuc A L;have hc:v.cell? p=some (.int .i32 1):=hc;have hz:v.frozen? p=false:=hz;have hH:=I.rel.hidden_cell hc;have hcw:=I.rel.cell hc;have hzw:=(I.rel.frozen hH).trans hz;have hog:=fqs (main:=h==0) (H:=H) (Shun:=Shun) (w:=w) (n:=0) (c:=X) (cs:=cs) (Φ:=fun a w' k=>a=G (ur kind (.tuple #[]) X) cs∧(∃ d,w'=(w.setCell p (.int .i32 0)).at d)∧k=0) hk hp hH hcw hzw (.now fun d=>⟨rfl,⟨d,rfl⟩,rfl⟩);refine (C.og I.prot hog hD).trans fun gs' w' T' hh=> ?_;obtain ⟨a',q',⟨rfl,⟨d',rfl⟩,hD'⟩,hsz,C'⟩:=hh;have rel':Rel H ((reW v v.tape d).setCell p (.int .i32 0)) ((w.setCell p (.int .i32 0)).at d'):=(((I.rel.re' v.tape d).setCell hH _).re _ _);exact hcont _ _ _ _ _ _ _ _ _ ha (I.step rel') hsz C' hD'
end Go.Proofs.YtelecjnabeokeaaGreatDoor
namespace Go.Proofs.YtelecjnabeokeaaGreatDoor
open Go Go.Conc
open Go.ConcN (sumTo upd sumTo_upd upd_ne upd_same)
section
variable {P:Program} {Φ:Array Goroutine→World→Trace→Prop} {St:Nat→Loc→Prop} {Shun:Loc→Prop} {Hear:Nat→Prop} {S:Nat→Option SeatD} {h:Nat} {a a' a₂:Goroutine} {T:Trace} {gs gs':Array Goroutine} {w w':World} {q:Nat→Nat}
def Hold.quiet {ops:Array MemOp} (C:Hold P St Shun Hear S h a T gs w q) (hsz:gs'.size=gs.size) (hh:gs'[h]? =some a') (ho: ∀ x,x≠h→gs'[x]? =gs[x]?) (h1:w.heap.size≤w'.heap.size)
    (h2: ∀ i s,S i=some s→w'.heap[s.c]? =w.heap[s.c]? ∧Keeps s.D w') (hops: ∀ op∈ops,op.g=h) (hmute: ∀ op∈ops,op.act.touch? =Option.none) (hq: ∀ g,∀ op∈ops,∀ d,deafStep g d op=d) (hl: ∀ op∈ops,op.act.low w'.heap.size):
    Hold P St Shun Hear S h a' (T++ops) gs' w' q∧Deaf (T++ops) h=Deaf T h:=by
 have hD: ∀ g,Deaf (T++ops) g=Deaf T g:=fun g=>Deaf_quiet (hq g);refine ⟨⟨⟨fun x y hx hy=> ?_,fun i s e=> ?_,C.crew.rows,fun i s e=>(h2 i s e).2,C.crew.inj,fun i s e=> ?_,fun i s e=> ?_,fun j hj=> ?_⟩,hh,?_,C.hears,C.none⟩,hD h⟩
 · rw [ho x hx] at hy;have hi:=C.crew.idle x y hx hy;cases es:S x with
   | none=>rw [es] at hi;exact ⟨hi.1,by rw [hD];exact hi.2⟩
   | some s=>rw [es] at hi;exact hi
 · obtain ⟨k,hk⟩:=C.crew.chans i s e;exact ⟨k,by rw [(h2 i s e).1];exact hk⟩
 · exact ⟨f08 (C.crew.low i s e).1 h1,f0f (C.crew.low i s e).2 h1⟩
 · rw [hD];exact C.crew.hear i s e
 · rw [hD];exact C.crew.above j fe
 · exact (C.past.mono h1).appMute hops hmute (fun hh=>by rw [hD];exact C.past.hears h hh) hl
def Hold.lone_recv (C:Hold P St Shun Hear S h a T gs w q) {c:Nat} (hno: ∀ i s,S i=some s→s.c≠c):partners (gs.setIfInBounds h ph) c false=[]:=by
 refine partners_nil fun x y hy=> ?_;rcases th hy with rfl | ⟨hx,hy'⟩
 · exact offersAt_ph _ _
 · exact C.crew.noRecv hx hy' c fun s hs=>hno x s hs
def Hold.lone_send (C:Hold P St Shun Hear S h a T gs w q) (c:Nat):partners (gs.setIfInBounds h ph) c true=[]:=by
 refine partners_nil fun x y hy=> ?_;rcases th hy with rfl | ⟨hx,hy'⟩
 · exact offersAt_ph _ _
 · exact C.crew.noSend hx hy' c
def Hold.till (C:Hold P St Shun Hear S h a T gs w q) (hrun:a.status= .running) (hD:Deaf T h=0)
    (own: ∀ gs1 T q d sl,gs1.size=gs.size→Deaf T h=0→Hold P St Shun Hear S h a T gs1 (w.at d) q→ ∃ gs' w' ops,runT P (crowd gs1 (w.at d) sl) h=(.next (crowd gs' w' sl),ops)∧Φ gs' w' (T++ops)) (hNo: ∀ g,¬ Hear g):Leads P Φ gs w T:=by
 have key: ∀ (μ:Nat) (gs1:Array Goroutine) (T:Trace) (q:Nat→Nat) (d:Nat),sumTo gs1.size q=μ→gs1.size=gs.size→Deaf T h=0→Hold P St Shun Hear S h a T gs1 (w.at d) q→Leads P Φ gs1 (w.at d) T:=by
    intro μ
    induction μ using Nat.strongRecOn with
    | _ μ ih2=>
      intro gs1 T q d hμ hsz hk C
      have hSp: ∀ x gx,x=h→gs1[x]? =some gx→gx=a:=fun x gx hx hgx=>by
        subst hx;rw [C.here] at hgx;exact (fy7 hgx).symm
      refine Leads.pick (C.crew.awake fun x gx hx hgx=> .inl kp) ⟨h,a,C.here,hrun⟩ fun i y d' sl hi hy=> ?_;have C':Hold P St Shun Hear S h a T gs1 (w.at d') q:=by have:=C.at d';exact this
      by_cases e:i=h
      · subst e;obtain ⟨gs',w',ops,e1,e2⟩:=own gs1 T q d' sl hsz hk C';exact ⟨gs',w',ops,e1,.done e2⟩
      · obtain ⟨gs',ops,q',s1,s2,s3,s4,s5,s6,s7,_,s8⟩:=C'.crew.by_step (sl:=sl) hi e hy (fun x gx hx hgx=>by rw [hSp x gx hx hgx];exact yf hrun _)
          (fun s g₂ hs _ x gx hx hgx=>f0l kq _ _)
        refine ⟨gs',w.at d',ops,s1,ih2 (sumTo gs'.size q') (by rw [s2];omega) gs' (T++ops) q' d' rfl (by rw [s2,hsz]) pz ⟨s5,?_,?_,C'.hears,C'.none⟩⟩
        · rw [s3 h (fun e'=>e e'.symm)];exact C'.here
        · exact s8 Shun Hear h (fun hh=>(hNo i hh).elim) C'.past
 exact key _ gs T q w.drawn rfl rfl hD (C.at _)
def Hold.send_room {c cap s r:Nat} {buf:Array Value} {tm:Bool} {x z:Value} {bl:Bool} {sh:CommShape} (C:Hold P St Shun u5 S h a T gs w q) (hrun:a.status= .running) (hD:Deaf T h=0)
    (hst: ∀ d,stepG P (h==0) a (w.at d)= .comm a₂ #[scase c x z] bl sh (w.at d) #[]) (hc:w.heap[c]? =some (.chan cap buf false s r tm)) (hroom:buf.size<cap) (hno: ∀ i s,S i=some s→s.c≠c∧s.D c=Option.none):
    Leads P (fun gs' w' T'=> ∃ q' d,w'=(w.at d).setChan c cap (buf.push x) false (s+1) r tm∧gs'.size=gs.size∧Deaf T' h=0∧Hold P St Shun u5 S h (a₂.finishComm P #[scase c x z] sh 0 undef false) T' gs' w' q') gs w T:=by
 have hlt:c<w.heap.size:=(fx5.1 hc).1;refine C.till hrun hD (fun gs1 T q d sl hsz hk C1=> ?_) (fun g hg=>hg);have hr:=crowd_send_room (sl:=sl) C1.here (hst d) hc hroom (C1.lone_recv fun i s1 hs=>(hno i s1 hs).1);refine ⟨_,_,_,hr,q,d,rfl,by simpa using hsz,?_⟩;have hlt2:h<gs1.size:=(fx5.1 C1.here).1
 obtain ⟨C2,e⟩:=C1.quiet (gs':=gs1.setIfInBounds h (a₂.finishComm P #[scase c x z] sh 0 undef false)) (a':=a₂.finishComm P #[scase c x z] sh 0 undef false) (w':=(w.at d).setChan c cap (buf.push x) false (s+1) r tm)
    (ops:=MemOp.ofEvents h a.frame.fn a.frame.place #[]++ #[{ g:=h,fn:=a₂.frame.fn,pos:=a₂.frame.place,act:= .send c s },{ g:=h,fn:=a₂.frame.fn,pos:=a₂.frame.place,act:= .sendDone c s }])
    fi (fy5 hlt2) (fun x hx=>fy4 (fun e=>hx e.symm)) (by simp [World.setChan])
    (fun i s1 hs=>⟨w8 (hno i s1 hs).1 _ _ _ _ _ _,fun b o hb=>by
      have hne:b≠c:=by rintro rfl;rw [(hno i s1 hs).2] at hb;cases hb
      rw [w8 hne];exact C1.crew.keeps i s1 hs b o hb⟩)
    (fun op hop=>by simp [MemOp.ofEvents] at hop;rcases hop with rfl | rfl <;>rfl) (fun op hop=>by simp [MemOp.ofEvents] at hop;rcases hop with rfl | rfl <;>rfl)
    (fun g op hop d=>by simp [MemOp.ofEvents] at hop;rcases hop with rfl | rfl <;>rfl) (fun op hop=>by simp [MemOp.ofEvents] at hop;rcases hop with rfl | rfl <;>(show c<_;simp only [World.setChan,f00];exact hlt))
 exact ⟨by rw [e];exact hk,C2⟩
def Hold.recv_buf {c cap s r:Nat} {buf:Array Value} {cl tm:Bool} {z:Value} {bl:Bool} {sh:CommShape} (C:Hold P St Shun u5 S h a T gs w q) (hrun:a.status= .running) (hD:Deaf T h=0)
    (hst: ∀ d,stepG P (h==0) a (w.at d)= .comm a₂ #[rcase c z] bl sh (w.at d) #[]) (hc:w.heap[c]? =some (.chan cap buf cl s r tm)) (hsome:0<buf.size) (hno: ∀ i s,S i=some s→s.c≠c∧s.D c=Option.none):
    Leads P (fun gs' w' T'=> ∃ q' d,w'=(w.at d).setChan c cap (buf.extract 1 buf.size) cl s (r+1) tm∧gs'.size=gs.size∧Deaf T' h=0∧Hold P St Shun u5 S h (a₂.finishComm P #[rcase c z] sh 0 (buf.getD 0 undef) true) T' gs' w' q') gs w T:=by
 have hlt:c<w.heap.size:=(fx5.1 hc).1;refine C.till hrun hD (fun gs1 T q d sl hsz hk C1=> ?_) (fun g hg=>hg);have hr:=crowd_recv_buf (sl:=sl) C1.here (hst d) hc hsome (C1.lone_send c);refine ⟨_,_,_,hr,q,d,rfl,by simpa using hsz,?_⟩;have hlt2:h<gs1.size:=(fx5.1 C1.here).1
 obtain ⟨C2,e⟩:=C1.quiet (gs':=gs1.setIfInBounds h (a₂.finishComm P #[rcase c z] sh 0 (buf.getD 0 undef) true)) (a':=a₂.finishComm P #[rcase c z] sh 0 (buf.getD 0 undef) true) (w':=(w.at d).setChan c cap (buf.extract 1 buf.size) cl s (r+1) tm)
    (ops:=MemOp.ofEvents h a.frame.fn a.frame.place #[]++ #[{ g:=h,fn:=a₂.frame.fn,pos:=a₂.frame.place,act:= .recv c r cap },{ g:=h,fn:=a₂.frame.fn,pos:=a₂.frame.place,act:= .recvDone c r }])
    fi (fy5 hlt2) (fun x hx=>fy4 (fun e=>hx e.symm)) (by simp [World.setChan])
    (fun i s1 hs=>⟨w8 (hno i s1 hs).1 _ _ _ _ _ _,fun b o hb=>by
      have hne:b≠c:=by rintro rfl;rw [(hno i s1 hs).2] at hb;cases hb
      rw [w8 hne];exact C1.crew.keeps i s1 hs b o hb⟩)
    (fun op hop=>by simp [MemOp.ofEvents] at hop;rcases hop with rfl | rfl <;>rfl) (fun op hop=>by simp [MemOp.ofEvents] at hop;rcases hop with rfl | rfl <;>rfl)
    (fun g op hop d=>by simp [MemOp.ofEvents] at hop;rcases hop with rfl | rfl <;>rfl) (fun op hop=>by simp [MemOp.ofEvents] at hop;rcases hop with rfl | rfl <;>(show c<_;simp only [World.setChan,f00];exact hlt))
 exact ⟨by rw [e];exact hk,C2⟩
def Hold.recv_closed {c cap s r:Nat} {tm:Bool} {z:Value} {bl:Bool} {sh:CommShape} (C:Hold P St Shun u5 S h a T gs w q) (hrun:a.status= .running) (hD:Deaf T h=0)
    (hst: ∀ d,stepG P (h==0) a (w.at d)= .comm a₂ #[rcase c z] bl sh (w.at d) #[]) (hc:w.heap[c]? =some (.chan cap #[] true s r tm)):
    Leads P (fun gs' w' T'=> ∃ q' d,w'=w.at d∧gs'.size=gs.size∧Deaf T' h=0∧Hold P St Shun u5 S h (a₂.finishComm P #[rcase c z] sh 0 z false) T' gs' w' q') gs w T:=by
 have hlt:c<w.heap.size:=(fx5.1 hc).1;refine C.till hrun hD (fun gs1 T q d sl hsz hk C1=> ?_) (fun g hg=>hg);have hr:=crowd_recv_closed (sl:=sl) C1.here (hst d) hc (C1.lone_send c);refine ⟨_,_,_,hr,q,d,rfl,by simpa using hsz,?_⟩;have hlt2:h<gs1.size:=(fx5.1 C1.here).1
 obtain ⟨C2,e⟩:=C1.quiet (gs':=gs1.setIfInBounds h (a₂.finishComm P #[rcase c z] sh 0 z false)) (a':=a₂.finishComm P #[rcase c z] sh 0 z false) (w':=w.at d)
    (ops:=MemOp.ofEvents h a.frame.fn a.frame.place #[]++ #[{ g:=h,fn:=a₂.frame.fn,pos:=a₂.frame.place,act:= .recvClosed c }])
    fi (fy5 hlt2) (fun x hx=>fy4 (fun e=>hx e.symm)) (fx8 _)
    (fun i s1 hs=>⟨rfl,C1.crew.keeps i s1 hs⟩)
    (fun op hop=>by simp [MemOp.ofEvents] at hop;rcases hop with rfl;rfl) (fun op hop=>by simp [MemOp.ofEvents] at hop;rcases hop with rfl;rfl)
    (fun g op hop d=>by simp [MemOp.ofEvents] at hop;rcases hop with rfl;rfl) (fun op hop=>by simp [MemOp.ofEvents] at hop;rcases hop with rfl;exact hlt)
 exact ⟨by rw [e];exact hk,C2⟩
def Hold.recv_default {c cap s r:Nat} {tm:Bool} {z:Value} {sh:CommShape} (C:Hold P St Shun u5 S h a T gs w q) (hrun:a.status= .running) (hD:Deaf T h=0)
    (hst: ∀ d,stepG P (h==0) a (w.at d)= .comm a₂ #[rcase c z] false sh (w.at d) #[]) (hc:w.heap[c]? =some (.chan cap #[] false s r tm)):
    Leads P (fun gs' w' T'=> ∃ q' d,w'=w.at d∧gs'.size=gs.size∧Deaf T' h=0∧Hold P St Shun u5 S h (a₂.finishComm P #[rcase c z] sh (-1) undef false) T' gs' w' q') gs w T:=by
 refine C.till hrun hD (fun gs1 T q d sl hsz hk C1=> ?_) (fun g hg=>hg)
 have hr:=crowd_default (sl:=sl) C1.here (hst d) (fun cc hcc=>by
    obtain rfl:cc=rcase c z:=by simpa using hcc
    exact ways_recv_none (w₁:=w.at d) hc (C1.lone_send c))
 refine ⟨_,_,_,hr,q,d,rfl,by simpa using hsz,?_⟩;have hlt2:h<gs1.size:=(fx5.1 C1.here).1
 obtain ⟨C2,e⟩:=C1.quiet (gs':=gs1.setIfInBounds h (a₂.finishComm P #[rcase c z] sh (-1) undef false)) (a':=a₂.finishComm P #[rcase c z] sh (-1) undef false) (w':=w.at d)
    (ops:=MemOp.ofEvents h a.frame.fn a.frame.place #[])
    fi (fy5 hlt2) (fun x hx=>fy4 (fun e=>hx e.symm)) (fx8 _)
    (fun i s1 hs=>⟨rfl,C1.crew.keeps i s1 hs⟩)
    (fun op hop=>by simp [MemOp.ofEvents] at hop) (fun op hop=>by simp [MemOp.ofEvents] at hop)
    (fun g op hop d=>by simp [MemOp.ofEvents] at hop) (fun op hop=>by simp [MemOp.ofEvents] at hop)
 exact ⟨by rw [e];exact hk,C2⟩
end
end Go.Proofs.YtelecjnabeokeaaGreatDoor
namespace Go.Proofs.YtelecjnabeokeaaGreatDoor
open Go Go.Conc Go.RowKit
attribute [local go_sem] z3 xz zn
def cT:Code→Code
 | .cond _ x _=>x
 | _=> .skip
def opr_ld {P:Program} {ρ:Operand→Value} {o:Oper} {t:TypeId} {y:Operand} {x:Value} {u u':World} (ho:o.op= .load t y) (h:(Instr.loadAt t (ρ y)).run P u= .ok x u'):(execOp ρ o).run P u= .ok (.value x) u':=by
 unfold execOp;rw [ho];exact qw h
def opr_st {P:Program} {ρ:Operand→Value} {o:Oper} {t:TypeId} {y z:Operand} {u u':World} (ho:o.op= .store t y z) (h:(Instr.storeAt t (ρ y) (ρ z)).run P u= .ok () u'):(execOp ρ o).run P u= .ok .skip u':=by
 unfold execOp;rw [ho];exact qw h
def fg2 {P:Program} {ρ:Operand→Value} {o:Oper} {e:TypeId} {y:Operand} {z:Value} {w:World} (ho:o.op= .select #[{ chan:=y,send:=none,elem:=e }] false) (hz:(zeroValue e).runT P w #[]=(.ok z w,#[])):
    (execOp ρ o).runT P w #[]=(.ok (.comm #[{ chan:=ρ y,send:=none,zero:=z }] false .select) w,#[]):=by
 unfold execOp;rw [ho];have h1:(zeroValue e).run P w= .ok z w:=by rw [← f0d _ _ _ #[],hz]
 have h2:(zeroValue e).events P w #[]= #[]:=by rw [show (zeroValue e).events P w #[]=((zeroValue e).runT P w #[]).2 from rfl,hz]
 dsimp only;rw [f3y];simp only [List.mapM_cons,List.mapM_nil];refine f2v ?_ ?_
 · rw [f0d];simp [go_sem,h1]
 · show Sem.events P _ w #[]= #[];simp [go_sem,h1,h2]
def Tryz.zero110 (w:World):(zeroValue 110).runT Tryz.prog w #[]=(.ok (.agg zero110) w,#[]):=by
 refine f2v ?_ ?_
 · rw [f0d];go_simp
 · show Sem.events Tryz.prog _ w #[]= #[];simp [go_sem]
section
variable {main:Bool} {H:Hide} {Shun:Loc→Prop} {Φ:Goroutine→World→Nat→Prop} {v v' w:World} {n:Nat} {X:Frame} {cs:List Frame} {b:Frame} {a:Act} {k:List Item} {ops:Array Oper} {i:Nat} {rest:List Nat} {o:Oper} {x:Value} {t:TypeId} {y z:Operand}
def fg3 {P:Program} {id:Nat} (h:OG P main H Shun Φ (G (b.at a k) cs) w n):OG P main H Shun Φ (G (b.at a (.inBlock id::k)) cs) w n:=io rfl (fun _=>stepG_inBlock) h
def frb (rel:Rel H v w) (ho:ops[i]? =some o) (hop:o.op= .load t y) (hw:Region.wanted o (yielded ops a.tmps)=true) (hk:b.kind≠ .early) (hv:(Instr.loadAt t (a.eval y)).run PV v= .ok x v)
    (h: ∀ w1,Rel H v w1→OG Tryz.prog main H Shun Φ (G (b.at (a.put o.dst x) (.inRegion ops rest::k)) cs) w1 n):OG Tryz.prog main H Shun Φ (G (b.at a (.inRegion ops (i::rest)::k)) cs) w n:=
 fqd (F:=rg) rel ho hw hk (af md _ (by simp [okOp,hop])) (opr_ld hop hv) rfl h
def og_st (rel:Rel H v w) (ho:ops[i]? =some o) (hop:o.op= .store t y z) (hw:Region.wanted o (yielded ops a.tmps)=true) (hk:b.kind≠ .early) (hv:(Instr.storeAt t (a.eval y) (a.eval z)).run PV v= .ok () v')
    (h: ∀ w1,Rel H v' w1→OG Tryz.prog main H Shun Φ (G (b.at (a.put o.dst undef) (.inRegion ops rest::k)) cs) w1 n):OG Tryz.prog main H Shun Φ (G (b.at a (.inRegion ops (i::rest)::k)) cs) w n:=
 fky (F:=rg) rel ho hw hk (af md _ (by simp [okOp,hop])) (opr_st hop hv) (ffc _ _ _ v rel.objs _ _ hv) h
end
noncomputable abbrev pkC:Code:=zw Tryz.f116
noncomputable abbrev fay:Code:=cR (cR pkC)
noncomputable abbrev pkA:Code:=cT (cR (cL (cR pkC)))
noncomputable abbrev ir:Array Oper:=cOps (cL (cR pkA))
noncomputable abbrev fc5:Code:=cR (cR pkA)
abbrev pB (kind:CallKind):Frame:={ (default:Frame) with fn:=116,kind:=kind }
section
variable {main:Bool} {H:Hide} {Shun:Loc→Prop} {Φ:Goroutine→World→Nat→Prop} {v v' w:World} {n:Nat} {X:Frame} {cs:List Frame}
def fh7 {kind:CallKind} {p:Addr} {res:Value} {a:Act} (hk:kind= .normal∨kind= .deferred) (rel:Rel H v w) (h0:a.eval (.tmp 0)= .pointer (some p)) (hd:a.defers=[]) (hsz:24≤a.tmps.size) (hl:(Instr.loadAt 147 (.pointer (some (p.add 1)))).run PV v= .ok res v)
    (h: ∀ w1,Rel H v w1→OG Tryz.prog main H Shun Φ (G (ur kind res X) cs) w1 n):OG Tryz.prog main H Shun Φ (G ((pB kind).at a [.code fay]) (X::cs)) w n:=by
 have hk':kind≠ .early:=by rcases hk with rfl | rfl <;>simp
 obtain ⟨L,ds0,hlen,rfl⟩:=wb a hsz;rcases L with _ | ⟨x0,_ | ⟨x1,_ | ⟨x2,_ | ⟨x3,_ | ⟨x4,_ | ⟨x5,_ | ⟨x6,_ | ⟨x7,_ | ⟨x8,_ | ⟨x9,_ | ⟨x10,_ | ⟨x11,_ | ⟨x12,_ | ⟨x13,_ | ⟨x14,_ | ⟨x15,_ | ⟨x16,_ | ⟨x17,_ | ⟨x18,_ | ⟨x19,_ | ⟨x20,_ | ⟨x21,_ | ⟨x22,_ | ⟨x23,tl⟩⟩⟩⟩⟩⟩⟩⟩⟩⟩⟩⟩⟩⟩⟩⟩⟩⟩⟩⟩⟩⟩⟩⟩ <;>first | (simp at hlen;done) | skip
 have h0:x0= .pointer (some p):=h0;have hd:ds0=[]:=hd;subst h0;subst hd;refine uv (rm ?_);refine ov (.pointer (some p)) w ?_;refine ov (.pointer (some p)) w ?_;refine ov (.pointer (some (p.add 1))) w ?_;walk_nrm;refine frb (t:=147) (y:= .tmp 22) rel rfl rfl rfl hk' hl fun w1 rel1=> ?_;walk_nrm;refine ox res w1 ?_;walk_nrm;refine u7 (fiv (ze hk rfl Tryz.func116 (x:=res) ?_ (h w1 rel1)));exact resultsC_tmp (t:=2) (show Tryz.f116.results= #[.tmp 2] from rfl) _
def frc (p:Addr) (k:Nat) (a:Act):Prop:=a.eval (.tmp 0)= .pointer (some p)∧a.eval (.tmp 12)= .chan (some k)∧a.defers=[]∧24≤a.tmps.size
def frd {kind:CallKind} {p:Addr} {hd:Option Addr} {args:Array Value} (hk:kind= .normal∨kind= .deferred) (rel:Rel H v w) (hp:args.getD 0 undef= .pointer (some p)) (hl:(Instr.loadAt 147 (.pointer (some (p.add 1)))).run PV v= .ok (.pointer hd) v)
    (h1: ∀ q,hd=some q→ ∀ w1,Rel H v w1→OG Tryz.prog main H Shun Φ (G (ur kind (.pointer (some q)) X) cs) w1 n)
    (h2:hd=none→ ∃ k,(Instr.loadAt 146 (.pointer (some p))).run PV v= .ok (.chan (some k)) v∧ ∀ a w1,Rel H v w1→frc p k a→OG Tryz.prog main H Shun Φ (G ((pB kind).at a [.inRegion ir [0,1,2],.code fc5,.code fay]) (X::cs)) w1 n):
    OG Tryz.prog main H Shun Φ (G (Frame.enter Tryz.prog 116 args kind) (X::cs)) w n:=by
 have hk':kind≠ .early:=by rcases hk with rfl | rfl <;>simp
 rw [enter_at Tryz.func116 rfl];obtain ⟨L,hlen,hL,hg⟩:=fa5 args Tryz.f116.ntmps;rw [hL];have hlen:24≤L.length:=hlen;rcases L with _ | ⟨x0,_ | ⟨x1,_ | ⟨x2,_ | ⟨x3,_ | ⟨x4,_ | ⟨x5,_ | ⟨x6,_ | ⟨x7,_ | ⟨x8,_ | ⟨x9,_ | ⟨x10,_ | ⟨x11,_ | ⟨x12,_ | ⟨x13,_ | ⟨x14,_ | ⟨x15,_ | ⟨x16,_ | ⟨x17,_ | ⟨x18,_ | ⟨x19,_ | ⟨x20,_ | ⟨x21,_ | ⟨x22,_ | ⟨x23,tl⟩⟩⟩⟩⟩⟩⟩⟩⟩⟩⟩⟩⟩⟩⟩⟩⟩⟩⟩⟩⟩⟩⟩⟩ <;>first | (simp at hlen;done) | skip
 have hx0:=(hg 0).trans hp;simp only [f1y] at hx0;subst hx0;refine uv (rm ?_);refine ov (.pointer none) w ?_;walk_nrm;refine u7 (uv (uv (rm ?_)));refine ov (.pointer (some p)) w ?_;refine ov (.pointer (some p)) w ?_;refine ov (.pointer (some (p.add 1))) w ?_;walk_nrm;refine frb (t:=147) (y:= .tmp 6) rel rfl rfl rfl hk' hl fun w1 rel1=> ?_;walk_nrm;cases hd with
 | some q=>
   refine ov (.bool false) w1 ?_;walk_nrm;refine u7 (xl (t:=false) rfl (oa ?_));exact fh7 hk rel1 rfl rfl fi hl fun w2 rel2=>h1 q rfl w2 rel2
 | none=>
   obtain ⟨k,hch,h2⟩:=h2 rfl;refine ov (.bool true) w1 ?_;walk_nrm;refine u7 (xl (t:=true) rfl (uv (rm ?_)));refine ov (.pointer (some p)) w1 ?_;refine ov (.pointer (some p)) w1 ?_;refine ov (.pointer (some p)) w1 ?_;walk_nrm;refine frb (t:=146) (y:= .tmp 11) rel1 rfl rfl rfl hk' hch fun w2 rel2=> ?_;walk_nrm;refine u7 (uv (rm ?_));exact h2 _ w2 rel2 ⟨rfl,rfl,rfl,by simp⟩
end
end Go.Proofs.YtelecjnabeokeaaGreatDoor
namespace Go.Proofs.YtelecjnabeokeaaGreatDoor
open Go Go.Conc Go.RowKit
attribute [local go_sem] z3 xz zn
section
variable {main:Bool} {H:Hide} {Shun:Loc→Prop} {Φ:Goroutine→World→Nat→Prop} {v v' w:World} {n:Nat} {X:Frame} {cs:List Frame}
def fw4 {kind:CallKind} {p:Addr} {k:Nat} {y res:Value} {ok:Bool} {a:Act} {v3:World} (hk:kind= .normal∨kind= .deferred) (rel:Rel H v w) (ha:frc p k a)
    (hs3:(Instr.storeAt 110 (.pointer (some ⟨v.heap.size,0,none⟩)) y).run PV (v.alloc (.cells zero110 110))= .ok () v3) (hs4:(Instr.storeAt 147 (.pointer (some (p.add 1))) (.pointer (some ⟨v.heap.size,0,none⟩))).run PV v3= .ok () v') (hl:(Instr.loadAt 147 (.pointer (some (p.add 1)))).run PV v'= .ok res v')
    (h: ∀ w1,Rel H v' w1→OG Tryz.prog main H Shun Φ (G (ur kind res X) cs) w1 n):
    OG Tryz.prog main H Shun Φ (G ((pB kind).at (a.put (some 13) (.tuple #[goInt 0,.bool ok,y])) [.inRegion ir [1,2],.code fc5,.code fay]) (X::cs)) w n:=by
 have hk':kind≠ .early:=by rcases hk with rfl | rfl <;>simp
 obtain ⟨h0,h12,hd,hsz⟩:=ha;obtain ⟨L,ds0,hlen,rfl⟩:=wb a hsz;rcases L with _ | ⟨x0,_ | ⟨x1,_ | ⟨x2,_ | ⟨x3,_ | ⟨x4,_ | ⟨x5,_ | ⟨x6,_ | ⟨x7,_ | ⟨x8,_ | ⟨x9,_ | ⟨x10,_ | ⟨x11,_ | ⟨x12,_ | ⟨x13,_ | ⟨x14,_ | ⟨x15,_ | ⟨x16,_ | ⟨x17,_ | ⟨x18,_ | ⟨x19,_ | ⟨x20,_ | ⟨x21,_ | ⟨x22,_ | ⟨x23,tl⟩⟩⟩⟩⟩⟩⟩⟩⟩⟩⟩⟩⟩⟩⟩⟩⟩⟩⟩⟩⟩⟩⟩⟩ <;>first | (simp at hlen;done) | skip
 have h0:x0= .pointer (some p):=h0;have hd:ds0=[]:=hd;subst h0;subst hd;dsimp only [ir,pkA,pkC,zw,cOps,cL,cR,cT,Tryz.f116];walk_nrm;refine ox (goInt 0) w ?_;refine ov (.bool true) w ?_;walk_nrm;refine u7 (fcf (xl (t:=true) rfl (uv (rm ?_))));refine ox y w ?_;walk_nrm;refine fqd (F:=rg) (v1:=v.alloc (.cells zero110 110)) (x:= .pointer (some ⟨v.heap.size,0,none⟩)) rel rfl rfl hk' (af md _ rfl) gw rfl fun w1 rel1=> ?_;walk_nrm;refine og_st (t:=110) (y:= .tmp 3) (z:= .tmp 16) rel1 rfl rfl rfl hk' hs3 fun w2 rel2=> ?_;walk_nrm;refine u7 (rm ?_);refine ov (.pointer (some p)) w2 ?_;refine ov (.pointer (some p)) w2 ?_;refine ov (.pointer (some (p.add 1))) w2 ?_;walk_nrm;refine og_st (t:=147) (y:= .tmp 19) (z:= .tmp 3) rel2 rfl rfl rfl hk' hs4 fun w3 rel3=> ?_;walk_nrm;refine u7 (fg3 ?_);exact fh7 hk rel3 rfl rfl fi hl h
def og_pk3 {kind:CallKind} {p:Addr} {k:Nat} {res z:Value} {a:Act} (hk:kind= .normal∨kind= .deferred) (rel:Rel H v w) (ha:frc p k a) (hl:(Instr.loadAt 147 (.pointer (some (p.add 1)))).run PV v= .ok res v)
    (h: ∀ w1,Rel H v w1→OG Tryz.prog main H Shun Φ (G (ur kind res X) cs) w1 n):
    OG Tryz.prog main H Shun Φ (G ((pB kind).at (a.put (some 13) (.tuple #[goInt (-1),.bool false,z])) [.inRegion ir [1,2],.code fc5,.code fay]) (X::cs)) w n:=by
 have hk':kind≠ .early:=by rcases hk with rfl | rfl <;>simp
 obtain ⟨h0,h12,hd,hsz⟩:=ha;obtain ⟨L,ds0,hlen,rfl⟩:=wb a hsz;rcases L with _ | ⟨x0,_ | ⟨x1,_ | ⟨x2,_ | ⟨x3,_ | ⟨x4,_ | ⟨x5,_ | ⟨x6,_ | ⟨x7,_ | ⟨x8,_ | ⟨x9,_ | ⟨x10,_ | ⟨x11,_ | ⟨x12,_ | ⟨x13,_ | ⟨x14,_ | ⟨x15,_ | ⟨x16,_ | ⟨x17,_ | ⟨x18,_ | ⟨x19,_ | ⟨x20,_ | ⟨x21,_ | ⟨x22,_ | ⟨x23,tl⟩⟩⟩⟩⟩⟩⟩⟩⟩⟩⟩⟩⟩⟩⟩⟩⟩⟩⟩⟩⟩⟩⟩⟩ <;>first | (simp at hlen;done) | skip
 have h0:x0= .pointer (some p):=h0;have hd:ds0=[]:=hd;subst h0;subst hd;dsimp only [ir,pkA,pkC,zw,cOps,cL,cR,cT,Tryz.f116];walk_nrm;refine ox (goInt (-1)) w ?_;refine ov (.bool false) w ?_;walk_nrm;refine u7 (fcf (xl (t:=false) rfl (oa (fg3 ?_))));exact fh7 hk rel rfl rfl fi hl h
end
end Go.Proofs.YtelecjnabeokeaaGreatDoor
namespace Go.Proofs.YtelecjnabeokeaaGreatDoor
open Go Go.Conc Go.RowKit
def fh8 {H:Hide} {v w:World} (rel:Rel H v w) {k cap s r:Nat} {buf:Array Value} {cl:Bool} (hk:v.heap[k]? =some (.chan cap buf cl s r false)) (hcap:cap≠0):H k=none:=by
 cases e:H k with
 | none=>rfl
 | some o=>
   obtain ⟨h1,h2⟩:=rel.laid k o e;rw [hk] at h1;cases h1;rcases h2 with ⟨_,_,h,_⟩ | ⟨h,_⟩ | ⟨x,j,h,_⟩
   · cases h
   · cases h
   · injection h with h1 h2 h3 h4 h5 h6
     rcases x.ok with ⟨h,_⟩ | ⟨_,h,_⟩
     · exact absurd (h1.trans h) hcap
     · rw [h] at h6;cases h6
def virt116:rg[116]? =some peekV:=by rw [wy,Tryz.func116];rfl
section
variable {Stop:Frame→List Frame→World→Prop} {g:Frame} {l:List Frame} {v:World} {args:Array Value} {kind:CallKind}
def v_peek (A:VS Tryz.prog rg Stop) (L:Lv Tryz.prog rg Stop (Frame.enter PV 116 args kind,g::l,v)):
    ∃ x v',(∃ d p,args.getD 0 undef= .pointer (some p)∧PeekR p (reW v v.tape d) v' x)∧Ahead PV Stop (Frame.enter PV 116 args kind,g::l,v) (ur kind x g,l,v'):=by
 obtain ⟨x,v',⟨d,p,h1,h2⟩,ha⟩:=fgw (R:=fun x v'=> ∃ d p,args.getD 0 undef= .pointer (some p)∧PeekR p (reW v v.tape d) v' x) A virt116 rfl L (by
    obtain ⟨Ls,hlen,hL,h0⟩:=fa5 args 24;show VW Tryz.prog rg Stop (.seq chkR fo6) _ { tmps:=args++Array.replicate (24-args.size) undef,defers:=[] } v;rw [hL];rcases Ls with _ | ⟨x0,_ | ⟨x1,_ | ⟨x2,_ | ⟨x3,_ | ⟨x4,_ | ⟨x5,_ | ⟨x6,_ | ⟨x7,_ | ⟨x8,_ | ⟨x9,_ | ⟨x10,_ | ⟨x11,_ | ⟨x12,_ | ⟨x13,_ | ⟨x14,_ | ⟨x15,_ | ⟨x16,tl⟩⟩⟩⟩⟩⟩⟩⟩⟩⟩⟩⟩⟩⟩⟩⟩⟩ <;>first | (simp at hlen;done) | skip
    refine fmm A fun d hv=> ?_;have h:=v_peekB A x0 x1 x2 x3 x4 x5 x6 x7 x8 x9 x10 x11 x12 x13 x14 x15 x16 tl (v:=reW v v.tape d);intro b k l hl L;obtain ⟨e,a',v',fr',⟨rfl,hd,p,hp,hR⟩,harr,ha⟩:=h b k l hl L;refine ⟨_,a',v',fr',⟨.inr rfl,hd,_,f0x (t:=2) (show peekV.results= #[.tmp 2] from rfl) _ _ _,d,p,?_,hR⟩,harr,ha⟩;rw [mh h0 rfl];exact hp)
 exact ⟨x,v',⟨d,p,h1,h2⟩,ha⟩
end
def fed (k:Nat) (z y:Value) (ok:Bool):commResult #[rcase k z] .select 0 y ok= .tuple #[goInt 0,.bool ok,y]:=by simp [commResult,rcase]
def fjk (k:Nat) (z y:Value) (ok:Bool):commResult #[rcase k z] .select (-1) y ok= .tuple #[goInt (-1),.bool ok,z]:=by simp [commResult,rcase]
def fli {P:Program} {kind:CallKind} {a:Act} {k:Nat} {z y:Value} {ok:Bool} {cs:List Frame} {j:Int}:(G ((pB kind).at a [.inRegion ir [0,1,2],.code fc5,.code fay]) cs).finishComm P #[rcase k z] .select j y ok=
    G ((pB kind).at (a.put (some 13) (commResult #[rcase k z] .select j y ok)) [.inRegion ir [1,2],.code fc5,.code fay]) cs:=by
 unfold Goroutine.finishComm;generalize commResult #[rcase k z] .select j y ok=x;show G (((pB kind).at a [.inRegion ir [0,1,2],.code fc5,.code fay]).finish x) cs=_;rw [f0i];rfl
def spec_peek:SpecOk Tryz.prog rg 116:=by
 intro Stop WS Shun Φ args kind g l v A hR Fx Sx H S St h X cs gs w T q hk hlt L I C hD hcont;obtain ⟨x,v',⟨d,p,hp,hcase⟩,ha⟩:=v_peek A L;have relu:Rel H (reW v v.tape d) w:=I.rel.re' v.tape d;generalize reW v v.tape d=u at hcase relu;have hk':kind≠ .early:=by rcases hk with rfl | rfl <;>simp
 have fin: ∀ {x:Value} {v' w':World} {gs':Array Goroutine} {T':Trace} {q':Nat→Nat} {g':Goroutine},Ahead PV Stop (Frame.enter PV 116 args kind,g::l,v) (ur kind x g,l,v')→(OG Tryz.prog (h==0) H Shun (fun a w' k=>a=G (ur kind x X) cs∧Rel H v' w'∧k=0) g' w' 0)→gs'.size=gs.size→Deaf T' h=0→Hold Tryz.prog St Shun u5 S h g' T' gs' w' q'→
  Leads Tryz.prog Φ gs' w' T':=fun {x v' w' gs' T' q' g'} ha hog hsz hD C=>by
    refine (C.og I.prot hog hD).trans fun gs' w' T' hh=> ?_;obtain ⟨a',q',⟨rfl,rel',hD'⟩,hsz2,C'⟩:=hh;exact hcont _ _ _ _ _ _ _ _ _ ha (I.step rel') (hsz2.trans hsz) C' hD'
 cases hcase with
 | has q0 hl=>
   refine fin ha (frd hk relu hp hl (fun q1 e w1 rel1=> ?_) (fun e=>by cases e)) rfl hD C;cases e;exact .now fun d=>⟨rfl,rel1.re _ _,rfl⟩
 | empty k cap s r hl hch hkk hcap=>
   have hog:=frd (main:=h==0) (Shun:=Shun) (X:=X) (cs:=cs) (n:=0) (Φ:=fun a w' n=>(∃ a0,a=G ((pB kind).at a0 [.inRegion ir [0,1,2],.code fc5,.code fay]) (X::cs)∧frc p k a0)∧Rel H v' w'∧n=0) hk relu hp hl (fun q1 e=>by cases e)
    (fun _=>⟨k,hch,fun a w1 rel1 hat=> .now fun d=>⟨⟨a,rfl,hat⟩,rel1.re _ _,rfl⟩⟩)
   refine (C.og I.prot hog hD).trans fun gs1 w1 T1 hh=> ?_;obtain ⟨g1,q1,⟨⟨a0,rfl,hat⟩,rel1,hD1⟩,hsz1,C1⟩:=hh;have hHk:=fh8 rel1 hkk hcap;have hc:w1.heap[k]? =some (.chan cap #[] false s r false):=by rw [← rel1.same _ hHk];exact hkk
   have hst: ∀ d,stepG Tryz.prog (h==0) (G ((pB kind).at a0 [.inRegion ir [0,1,2],.code fc5,.code fay]) (X::cs)) (w1.at d)= .comm (G ((pB kind).at a0 [.inRegion ir [0,1,2],.code fc5,.code fay]) (X::cs)) #[rcase k (.agg zero110)] false .select (w1.at d) #[]:=fun d=>by
    have hr:=fg2 (P:=Tryz.prog) (ρ:=a0.eval) (o:=ir[0]) (e:=110) (y:= .tmp 12) (w:=w1.at d) rfl (Tryz.zero110 _);rw [hat.2.1] at hr;rw [stepG_comm (o:=ir[0]) rfl rfl hk' qa,listed_none pu];rfl
   refine (C1.recv_default rfl hD1 hst hc).trans fun gs2 w2 T2 hh=> ?_;obtain ⟨q2,d2,rfl,hsz2,hD2,C2⟩:=hh;rw [fli,fjk] at C2;exact fin ha (og_pk3 hk (rel1.re w1.tape d2) hat hl fun w3 rel3=> .now fun d=>⟨rfl,rel3.re _ _,rfl⟩) (hsz2.trans hsz1) hD2 C2
 | gets k cap s r buf cl y ok v1 v3 v' res hl hch hkk hcap hcond hs3 hs4 hres=>
   have hog:=frd (main:=h==0) (Shun:=Shun) (X:=X) (cs:=cs) (n:=0) (Φ:=fun a w' n=>(∃ a0,a=G ((pB kind).at a0 [.inRegion ir [0,1,2],.code fc5,.code fay]) (X::cs)∧frc p k a0)∧Rel H u w'∧n=0) hk relu hp hl (fun q1 e=>by cases e)
    (fun _=>⟨k,hch,fun a w1 rel1 hat=> .now fun d=>⟨⟨a,rfl,hat⟩,rel1.re _ _,rfl⟩⟩)
   refine (C.og I.prot hog hD).trans fun gs1 w1 T1 hh=> ?_;obtain ⟨g1,q1,⟨⟨a0,rfl,hat⟩,rel1,hD1⟩,hsz1,C1⟩:=hh;have hHk:=fh8 rel1 hkk hcap;have hc:w1.heap[k]? =some (.chan cap buf cl s r false):=by rw [← rel1.same _ hHk];exact hkk
   have hst: ∀ d,stepG Tryz.prog (h==0) (G ((pB kind).at a0 [.inRegion ir [0,1,2],.code fc5,.code fay]) (X::cs)) (w1.at d)= .comm (G ((pB kind).at a0 [.inRegion ir [0,1,2],.code fc5,.code fay]) (X::cs)) #[rcase k (.agg zero110)] false .select (w1.at d) #[]:=fun d=>by
    have hr:=fg2 (P:=Tryz.prog) (ρ:=a0.eval) (o:=ir[0]) (e:=110) (y:= .tmp 12) (w:=w1.at d) rfl (Tryz.zero110 _);rw [hat.2.1] at hr;rw [stepG_comm (o:=ir[0]) rfl rfl hk' qa,listed_none pu];rfl
   rcases hcond with ⟨hb,rfl,rfl,rfl⟩ | ⟨rfl,rfl,rfl,rfl,rfl⟩
   · refine (C1.recv_buf rfl hD1 hst hc hb (fun i s hs=>⟨fun e=>(I.prot.seats i s hs).1 (by rw [e];exact hHk),?_⟩)).trans fun gs2 w2 T2 hh=> ?_
     · cases e:s.D k with
       | none=>rfl
       | some o=>exact absurd hHk ((I.prot.seats i s hs).2 k o e)
     obtain ⟨q2,d2,rfl,hsz2,hD2,C2⟩:=hh;have hbs:sg (.chan cap buf cl s r false)=true:=rel1.chans I.on k _ hHk hkk;have rel2:Rel H (u.setChan k cap (buf.extract 1 buf.size) cl s (r+1) false) ((w1.at d2).setChan k cap (buf.extract 1 buf.size) cl s (r+1) false):=
      (rel1.re w1.tape d2).setBlock hHk rfl fun _=>by
        simp [sg] at hbs ⊢;omega
     rw [fli,fed] at C2;exact fin ha (fw4 (ok:=true) hk rel2 hat hs3 hs4 hres fun w3 rel3=> .now fun d=>⟨rfl,rel3.re _ _,rfl⟩) (hsz2.trans hsz1) hD2 C2
   · refine (C1.recv_closed rfl hD1 hst hc).trans fun gs2 w2 T2 hh=> ?_;obtain ⟨q2,d2,rfl,hsz2,hD2,C2⟩:=hh;rw [fli,fed] at C2;exact fin ha (fw4 (ok:=false) hk (rel1.re w1.tape d2) hat hs3 hs4 hres fun w3 rel3=> .now fun d=>⟨rfl,rel3.re _ _,rfl⟩) (hsz2.trans hsz1) hD2 C2
attribute [local go_sem] z3 xz zn
def fjl {P:Program} {ρ:Operand→Value} {o:Oper} {f:FuncId} {fn:Func} {y:Operand} {ts:Array TypeId} (ho:o.op= .call { callee:= .value (.func f),args:= #[y],argTypes:=ts }) (hf:P.funcs[f]? =some fn) (hn:(fn.name== "runtime.NumGoroutine")=false) (hb:fn.body.isNone=false) (hρ:ρ (.func f)= .func (.func f) #[] #[]) (w:World):
    (execOp ρ o).runT P w #[]=(.ok (.enter f #[ρ y]) w,#[]):=by
 have e:execOp ρ o=callFunc f #[ρ y]:=by
    unfold execOp;rw [ho];show (Deferred.ofValue (ρ (.func f)) (#[y].map ρ) >>= fun d=>invoke d.target d.args)=_;rw [hρ];show callFunc f (#[]++ #[y].map ρ++ #[])=_;simp
 rw [e]
 have e1 : (callFunc f #[ρ y]).runT P w #[]=(match P.funcs[f]? with
        | none=>Go.stuck "call: no such function"
        | some fn=>if fn.name== "runtime.NumGoroutine" then Pure.pure Next.numGoroutine else if fn.body.isNone then (do
           mark (.extern f)
           if let some e:=Extern.findNext fn then return ← e #[ρ y]
           match Extern.find fn with
           | some e=>Pure.pure (.value (← e #[ρ y]))
           | none=>if fn.name.endsWith ".init" && !fn.name.startsWith "(" && !fn.name.startsWith "gosem." then Pure.pure (.value (.tuple #[])) else unsupported (.extern fn.name)) else Pure.pure (.enter f #[ρ y]):Sem Next).runT P w #[]:=rfl
 rw [e1,hf];simp only [hn,hb,f0g,f0s];rfl
def flj {P:Program} {ρ:Operand→Value} {o:Oper} {e:TypeId} {y x:Operand} {z:Value} {w:World} (ho:o.op= .select #[{ chan:=y,send:=some x,elem:=e }] false) (hz:(zeroValue e).runT P w #[]=(.ok z w,#[])):
    (execOp ρ o).runT P w #[]=(.ok (.comm #[{ chan:=ρ y,send:=some (ρ x),zero:=z }] false .select) w,#[]):=by
 unfold execOp;rw [ho];have h1:(zeroValue e).run P w= .ok z w:=by rw [← f0d _ _ _ #[],hz]
 have h2:(zeroValue e).events P w #[]= #[]:=by rw [show (zeroValue e).events P w #[]=((zeroValue e).runT P w #[]).2 from rfl,hz]
 dsimp only;rw [f3y];simp only [List.mapM_cons,List.mapM_nil];refine f2v ?_ ?_
 · rw [f0d];simp [go_sem,h1]
 · show Sem.events P _ w #[]= #[];simp [go_sem,h1,h2]
noncomputable abbrev ptC:Code:=zw Tryz.f90
noncomputable abbrev ptR1:Array Oper:=cOps (cL (cL (cR ptC)))
noncomputable abbrev fee:Code:=cR (cL (cR ptC))
noncomputable abbrev ip:Code:=cR (cR ptC)
noncomputable abbrev fwl:Code:=cR ip
noncomputable abbrev fef:Array Oper:=cOps (cL fwl)
noncomputable abbrev fjm:Code:=cR fwl
abbrev tB (kind:CallKind):Frame:={ (default:Frame) with fn:=90,kind:=kind }
def fmv (x0 q:Value) (a:Act):Prop:=a.eval (.tmp 0)=x0∧a.eval (.tmp 3)=q∧a.defers=[]∧15≤a.tmps.size
def fre (k:Nat) (f:Value) (a:Act):Prop:=a.eval (.tmp 10)= .chan (some k)∧a.eval (.tmp 11)=f∧a.defers=[]∧15≤a.tmps.size
section
variable {main:Bool} {H:Hide} {Shun:Loc→Prop} {Φ:Goroutine→World→Nat→Prop} {v v' w:World} {n:Nat} {X:Frame} {cs:List Frame}
def og_pt1 {kind:CallKind} {args:Array Value} {x0 x1:Value} (hk:kind= .normal∨kind= .deferred) (rel:Rel H v w) (h0:args.getD 0 undef=x0) (h1:args.getD 1 undef=x1)
    (h: ∀ a w1,Rel H (v.alloc (.cells x1.cells 110)) w1→fmv x0 (.pointer (some ⟨v.heap.size,0,none⟩)) a→OG Tryz.prog main H Shun Φ (G (Frame.enter Tryz.prog 87 #[x0] .normal) ((tB kind).at a [.inRegion ptR1 [1],.code fee,.code ip]::X::cs)) w1 n):
    OG Tryz.prog main H Shun Φ (G (Frame.enter Tryz.prog 90 args kind) (X::cs)) w n:=by
 have hk':kind≠ .early:=by rcases hk with rfl | rfl <;>simp
 rw [enter_at Tryz.func90 rfl];obtain ⟨L,hlen,hL,hg⟩:=fa5 args Tryz.f90.ntmps;rw [hL];have hlen:15≤L.length:=hlen;rcases L with _ | ⟨x0,_ | ⟨x1,_ | ⟨x2,_ | ⟨x3,_ | ⟨x4,_ | ⟨x5,_ | ⟨x6,_ | ⟨x7,_ | ⟨x8,_ | ⟨x9,_ | ⟨x10,_ | ⟨x11,_ | ⟨x12,_ | ⟨x13,_ | ⟨x14,tl⟩⟩⟩⟩⟩⟩⟩⟩⟩⟩⟩⟩⟩⟩⟩ <;>first | (simp at hlen;done) | skip
 have hx0:=(hg 0).trans h0;have hx1:=(hg 1).trans h1;simp only [f1y,List.getD_cons_succ] at hx0 hx1;subst hx0;subst hx1;refine uv (rm ?_);refine fqd (F:=rg) (v1:=v.alloc (.cells x1.cells 110)) (x:= .pointer (some ⟨v.heap.size,0,none⟩)) rel rfl rfl hk' (af md _ rfl) rfl rfl fun w1 rel1=> ?_;walk_nrm;refine ox (.bool false) w1 ?_;walk_nrm;refine u7 (uv (uv (rm ?_)));refine ox x0 w1 ?_;walk_nrm;have hc: ∀ d,_:=fun d=>fjl (P:=Tryz.prog) (ρ:=Act.eval { tmps:=(x0::x1::x2:: .pointer (some ⟨v.heap.size,0,none⟩):: .bool false::x0::x6::x7::x8::x9::x10::x11::x12::x13::x14::tl).toArray,defers:=[] }) (o:=ptR1[1]) (y:= .tmp 5) rfl Tryz.func87 fd fd rfl (w1.at d);refine fmn (o:=ptR1[1]) rfl rfl hk' (fun d=>by rw [← f0d _ _ _ #[]];exact f3q Prod.fst (hc d)) (fun d e he=> ?_) (h _ _ rel1 ⟨rfl,rfl,rfl,by simp⟩);rw [show (execOp _ ptR1[1]).events Tryz.prog (w1.at d) #[]=_ from f3q Prod.snd (hc d)] at he;simp at he
def fw5 {kind:CallKind} {a:Act} {x:Value}:((tB kind).at a [.inRegion ptR1 [1],.code fee,.code ip]).finish x=(tB kind).at (a.put (some 6) x) [.inRegion ptR1 [],.code fee,.code ip]:=by rw [f0i];rfl
def og_pt2 {kind:CallKind} {x0 q:Value} {a:Act} (hk:kind= .normal∨kind= .deferred) (ha:fmv x0 q a) (h:OG Tryz.prog main H Shun Φ (G (ur kind (.bool false) X) cs) w n):
    OG Tryz.prog main H Shun Φ (G (((tB kind).at a [.inRegion ptR1 [1],.code fee,.code ip]).finish (.bool true)) (X::cs)) w n:=by
 have hk':kind≠ .early:=by rcases hk with rfl | rfl <;>simp
 obtain ⟨h0a,h3a,hda,hsza⟩:=ha;obtain ⟨L,ds0,hlen,rfl⟩:=wb a hsza;rcases L with _ | ⟨x0,_ | ⟨x1,_ | ⟨x2,_ | ⟨x3,_ | ⟨x4,_ | ⟨x5,_ | ⟨x6,_ | ⟨x7,_ | ⟨x8,_ | ⟨x9,_ | ⟨x10,_ | ⟨x11,_ | ⟨x12,_ | ⟨x13,_ | ⟨x14,tl⟩⟩⟩⟩⟩⟩⟩⟩⟩⟩⟩⟩⟩⟩⟩ <;>first | (simp at hlen;done) | skip
 have hd:ds0=[]:=hda;subst hd;rw [fw5];walk_nrm;refine u7 (xl (t:=true) rfl (uv (rm ?_)));refine ox (.bool false) w ?_;walk_nrm;refine u7 (fiv (ze hk rfl Tryz.func90 (x:= .bool false) ?_ h));exact resultsC_tmp (t:=4) (show Tryz.f90.results= #[.tmp 4] from rfl) _
def og_pt3 {kind:CallKind} {p:Addr} {q f:Value} {k:Nat} {a:Act} (hk:kind= .normal∨kind= .deferred) (rel:Rel H v w) (ha:fmv (.pointer (some p)) q a) (hch:(Instr.loadAt 146 (.pointer (some p))).run PV v= .ok (.chan (some k)) v) (hf:(Instr.loadAt 110 q).run PV v= .ok f v)
    (h: ∀ a w1,Rel H v w1→fre k f a→OG Tryz.prog main H Shun Φ (G ((tB kind).at a [.inRegion fef [0,1,2],.code fjm]) (X::cs)) w1 n):
    OG Tryz.prog main H Shun Φ (G (((tB kind).at a [.inRegion ptR1 [1],.code fee,.code ip]).finish (.bool false)) (X::cs)) w n:=by
 have hk':kind≠ .early:=by rcases hk with rfl | rfl <;>simp
 obtain ⟨h0a,h3a,hda,hsza⟩:=ha;obtain ⟨L,ds0,hlen,rfl⟩:=wb a hsza;rcases L with _ | ⟨x0,_ | ⟨x1,_ | ⟨x2,_ | ⟨x3,_ | ⟨x4,_ | ⟨x5,_ | ⟨x6,_ | ⟨x7,_ | ⟨x8,_ | ⟨x9,_ | ⟨x10,_ | ⟨x11,_ | ⟨x12,_ | ⟨x13,_ | ⟨x14,tl⟩⟩⟩⟩⟩⟩⟩⟩⟩⟩⟩⟩⟩⟩⟩ <;>first | (simp at hlen;done) | skip
 have hd:ds0=[]:=hda;have h0:x0= .pointer (some p):=h0a;have h3:x3=q:=h3a;subst hd;subst h0;subst h3;rw [fw5];have hR:ip=ip:=rfl
 conv at hR=>lhs;dsimp only [ip,ptC,zw,cOps,cL,cR,Tryz.f90]
 rw [← hR];clear hR;walk_nrm;refine u7 (xl (t:=false) rfl (oa (uv (uv (rm ?_)))));refine qz (x:= .pointer (some p)) (w1:=w) rfl rfl hk' (fun d=>by clear h0a h3a hch hf h hlen;go_simp) (fx8 _) (fun _ _=>rfl) (fun d e he=>by first | (simp [go_sem] at he;done) | (have he:e∈(#[]:Array Event):=he;simp at he)) ?_;refine qz (x:= .pointer (some p)) (w1:=w) rfl rfl hk' (fun d=>by clear h0a h3a hch hf h hlen;go_simp) (fx8 _) (fun _ _=>rfl) (fun d e he=>by first | (simp [go_sem] at he;done) | (have he:e∈(#[]:Array Event):=he;simp at he)) ?_;refine qz (x:= .pointer (some p)) (w1:=w) rfl rfl hk' (fun d=>by clear h0a h3a hch hf h hlen;go_simp) (fx8 _) (fun _ _=>rfl) (fun d e he=>by first | (simp [go_sem] at he;done) | (have he:e∈(#[]:Array Event):=he;simp at he)) ?_;walk_nrm;refine frb (t:=146) (y:= .tmp 9) rel rfl rfl rfl hk' hch fun w1 rel1=> ?_;walk_nrm;refine u7 (rm ?_);refine frb (t:=110) (y:= .tmp 3) rel1 rfl rfl rfl hk' hf fun w2 rel2=> ?_;walk_nrm;refine u7 (uv (rm ?_));exact h _ w2 rel2 ⟨rfl,rfl,rfl,by simp⟩
def og_pt4 {kind:CallKind} {k:Nat} {f:Value} {a:Act} {bb:Value} (hk:kind= .normal∨kind= .deferred) (ha:fre k f a) (h:OG Tryz.prog main H Shun Φ (G (ur kind (.bool true) X) cs) w n):
    OG Tryz.prog main H Shun Φ (G ((tB kind).at (a.put (some 12) (.tuple #[goInt 0,bb])) [.inRegion fef [1,2],.code fjm]) (X::cs)) w n:=by
 have hk':kind≠ .early:=by rcases hk with rfl | rfl <;>simp
 obtain ⟨h0a,h3a,hda,hsza⟩:=ha;obtain ⟨L,ds0,hlen,rfl⟩:=wb a hsza;rcases L with _ | ⟨x0,_ | ⟨x1,_ | ⟨x2,_ | ⟨x3,_ | ⟨x4,_ | ⟨x5,_ | ⟨x6,_ | ⟨x7,_ | ⟨x8,_ | ⟨x9,_ | ⟨x10,_ | ⟨x11,_ | ⟨x12,_ | ⟨x13,_ | ⟨x14,tl⟩⟩⟩⟩⟩⟩⟩⟩⟩⟩⟩⟩⟩⟩⟩ <;>first | (simp at hlen;done) | skip
 have hd:ds0=[]:=hda;subst hd;dsimp only [fef,fwl,ip,ptC,zw,cOps,cL,cR,Tryz.f90];walk_nrm;refine ox (goInt 0) w ?_;refine ov (.bool true) w ?_;walk_nrm;refine u7 (fcf (xl (t:=true) rfl (uv (rm ?_))));refine ox (.bool true) w ?_;walk_nrm;refine u7 (fiv (ze hk rfl Tryz.func90 (x:= .bool true) ?_ h));exact resultsC_tmp (t:=4) (show Tryz.f90.results= #[.tmp 4] from rfl) _
def pt_comm {P:Program} {kind:CallKind} {a:Act} {k:Nat} {z f y:Value} {ok:Bool} {cs:List Frame} {j:Int}:(G ((tB kind).at a [.inRegion fef [0,1,2],.code fjm]) cs).finishComm P #[scase k f z] .select j y ok=
    G ((tB kind).at (a.put (some 12) (commResult #[scase k f z] .select j y ok)) [.inRegion fef [1,2],.code fjm]) cs:=by
 unfold Goroutine.finishComm;generalize commResult #[scase k f z] .select j y ok=x;show G (((tB kind).at a [.inRegion fef [0,1,2],.code fjm]).finish x) cs=_;rw [f0i];rfl
def flk (k:Nat) (z y f:Value) (ok:Bool):commResult #[scase k f z] .select 0 y ok= .tuple #[goInt 0,.bool ok]:=by simp [commResult,scase]
end
end Go.Proofs.YtelecjnabeokeaaGreatDoor
namespace Go.Proofs.YtelecjnabeokeaaGreatDoor
open Go Go.Conc Go.RowKit
structure WsOk (WS:Nat→Option SeatD) (Shun:Loc→Prop):Prop where
 ok: ∀ j s,WS j=some s→s.ok=true∧s.z= .nilFunc∧ ∃ ds c0,c0≠[]∧ ∀ g,s.home g↔fbr ds c0 s.c g
 inj: ∀ i j s s',WS i=some s→WS j=some s'→s.c=s'.c→i=j
section
variable {P:Program} {main:Bool} {K:World→Prop} {Still Still':Loc→Prop} {B:Nat} {n:Nat} {g:Goroutine} {s:Seat}
def fjn (h: ∀ l,Still l→Still' l) {e:Event} (he:EvC Still B e):EvC Still' B e:=by
 obtain ⟨a,rfl,h1,h2⟩:=he;exact ⟨a,rfl,h _ h1,h2⟩
def faz (h: ∀ l,Still l→Still' l) {g2:Goroutine} (ha:AtIn P main K Still B s g g2):AtIn P main K Still' B s g g2:=by
 obtain ⟨h1,h2,h3,h4,h5,es,h6,h7⟩:=ha;exact ⟨h1,h2,h3,h4,h5,es,fun e he=>fjn h (h6 e he),h7⟩
def fof (h: ∀ l,Still l→Still' l) {k:Nat} {w:World} (hg:Goes P main (RK K) (DS Still B) (fun g _=> ∃ g₂,AtIn P main K Still B s g g₂) k g w):Goes P main (RK K) (DS Still' B) (fun g _=> ∃ g₂,AtIn P main K Still' B s g g₂) k g w:=by
 induction k generalizing g w with
 | zero=>exact fun w1 h1=>(hg w1 h1).imp fun _=>faz h
 | succ k ih=>
   rcases hg with hs | ⟨hr,hs⟩
   · exact .inl fun w1 h1=>(hs w1 h1).imp fun _=>faz h
   · refine .inr ⟨hr,fun w1 h1=> ?_⟩;have hs:=hs w1 h1;cases hgo:stepG P main g w1 with
     | go g' w' es=>
       rw [hgo,goes_go] at hs;rw [goes_go];exact ⟨⟨hs.1.1,fun e he=>fjn h (hs.1.2 e he)⟩,ih hs.2⟩
     | _=>rw [hgo] at hs;exact hs.elim
def fb0 (h: ∀ l,Still l→Still' l) (hs:Sits P main K Still B s n g):Sits P main K Still' B s n g:=by
 rcases hs with ⟨k,w,hn,hg⟩ | ⟨hn,g0,g2,hg,ha⟩
 · exact .inl ⟨k,w,hn,fof h hg⟩
 · exact .inr ⟨hn,g0,g2,hg,faz h ha⟩
end
section
variable {P:Program} {St:Nat→Loc→Prop} {Shun:Loc→Prop} {S:Nat→Option SeatD} {h:Nat} {a:Goroutine} {T:Trace} {gs:Array Goroutine} {w:World} {q:Nat→Nat}
def Hold.grow {Hear:Nat→Prop} (C:Hold P St Shun Hear S h a T gs w q) {p:Addr} (hn: ¬ Shun (.cell p)):Hold P (fun g' l'=>St g' l'∨(g'=h∧l'= .cell p)) Shun Hear S h a T gs w q:=by
 refine ⟨⟨fun i g hi hg=> ?_,C.crew.chans,C.crew.rows,C.crew.keeps,C.crew.inj,C.crew.low,C.crew.hear,C.crew.above⟩,C.here,C.past.grow (fun i a ha hw e=> ?_) hn,C.hears,C.none⟩
 · have:=C.crew.idle i g hi hg;cases e:S i with
   | none=>rw [e] at this;exact this
   | some s=>rw [e] at this;exact fb0 (fun l hl=> .inl hl) this
 · rcases C.past.known i a ha qe with h1 | ⟨h1,_⟩ | ⟨h1,_⟩
   · exact h1
   · rw [h1] at hw;cases hw
   · rw [e] at h1;exact absurd h1 hn
def Hold.drop {Hear:Nat→Prop} (C:Hold P St Shun Hear S h a T gs w q) (K:Prop):Hold P (fun g l=>St g l∧(g=h→K)) Shun Hear S h a T gs w q:=by
 refine ⟨⟨fun i g hi hg=> ?_,C.crew.chans,C.crew.rows,C.crew.keeps,C.crew.inj,C.crew.low,C.crew.hear,C.crew.above⟩,C.here,⟨C.past.clean,fun i a ha hm=> ?_,fun i a ha hw g hs=>C.past.wrote i a ha hw g hs.1,fun g l hs=>C.past.apart g l hs.1,C.past.hears,C.past.seen⟩,C.hears,C.none⟩
 · have:=C.crew.idle i g hi hg;cases e:S i with
   | none=>rw [e] at this;exact this
   | some s=>rw [e] at this;exact fb0 (fun l hl=>⟨hl,fun e=>absurd e hi⟩) this
 · rcases C.past.known i a ha hm with h1 | ⟨h1,g,h2,h3,h4⟩ | h1
   · exact .inl h1
   · by_cases e:g=h
     · subst e;obtain ⟨x,hx,hxg⟩:=fy8.1 h2;exact .inl (hxg▸knows_own hx)
     · exact .inr (.inl ⟨h1,g,h2,⟨h3,fun e'=>absurd e' e⟩,h4⟩)
   · exact .inr (.inr h1)
end
def fg4 {P:Program} {main:Bool} {b:Frame} {a:Act} {k:List Item} {cs:List Frame} {w:World} {ops:Array Oper} {i c:Nat} {rest:List Nat} {o:Oper} {y z:Operand} {x:Value} (ho:ops[i]? =some o) (hop:o.op= .send y z) (hw:Region.wanted o (yielded ops a.tmps)=true) (hk:b.kind≠ .early)
    (hy:a.eval y= .chan (some c)) (hz:a.eval z=x):stepG P main (G (b.at a (.inRegion ops (i::rest)::k)) cs) w= .comm (G (b.at a (.inRegion ops (i::rest)::k)) cs) #[scase c x (.tuple #[])] true .send w #[]:=by
 have e:execOp a.eval o=(Pure.pure (.comm #[scase c x (.tuple #[])] true .send):Sem Next):=by
    unfold execOp;rw [hop];show (Pure.pure (.comm #[{ chan:=a.eval y,send:=some (a.eval z),zero:= .tuple #[] }] true .send):Sem Next)=_;rw [hy,hz];rfl
 rw [stepG_comm ho hw hk qe,listed_none qe]
abbrev mkC (buf:Array Value) (s q:Nat):HidC:={ cap:=1,buf,s,q,tm:=true,rt:=false,ok:= .inr ⟨rfl,rfl,rfl⟩ }
abbrev mkD:HidC:={ cap:=0,buf:= #[],s:=0,q:=0,tm:=false,rt:=false,ok:= .inl ⟨rfl,rfl,rfl,rfl,rfl⟩ }
abbrev fac (Sx:Nat→Option SeatD) (h:Nat) (s:SeatD):Nat→Option SeatD:=fun i=>if i=h then some s else Sx i
def do_back {Stop:Frame→List Frame→World→Prop} {WS Sx:Nat→Option SeatD} {Shun:Loc→Prop} {Φ:Array Goroutine→World→Trace→Prop} {Fx Fx':Nat→Option (Obj×Option Obj)} {s0:St} {h j n k s r kc sz:Nat} {kind:CallKind} {X g:Frame} {cs l:List Frame} {sj:SeatD} {a' a2 a3:Act} {rest:List Nat} {x1:Value}
    {ds:List Deferred} {c0:List Frame} {rk:Option Obj}
    (A:VS Tryz.prog rg Stop) (hW:WsOk WS Shun) (hk:kind= .normal∨kind= .deferred) (hh:h<sz) (hj:WS j=some sj) (hjc:sj.c=k) (hjh:j≠h) (hSxj:Sx j=none) (hSxh:Sx h=none) (hxs: ∀ i s,Sx i=some s→s.c≠k)
    (hhome: ∀ g,sj.home g↔fbr ds c0 sj.c g) (hF: ∀ b x,Fx b=some x→Fx' b=some x∧b≠k∧b≠n+1) (hFxk:Fx k=none) (hkn:k≠n+1)
    (hFk:Fx' k=some (.chan 1 #[] false s r true,some (.chan 0 #[] false kc kc false))) (hFd:Fx' (n+1)=some (.chan 0 #[] false 0 0 false,rk)) (hFc:Fx' (n+2)=some (.cells #[] 163,some (.cells #[.chan (some (n+1))] 163)))
    (hFD: ∀ b o,sj.D b=some o→ ∃ o',Fx' b=some (o',some o)) (hrow: ∀ b o,sj.D b=some o→ ∃ c e f,o= .cells c e f) (hB:sj.B≤n+2) (hsh: ¬ Shun (.cell ⟨n+2,0,none⟩))
    (hd':a'.defers=[]) (h0':a'.tmps.getD 0 undef= .chan (some k)) (hsz':11≤a'.tmps.size) (hd2:a2.defers=ds) (h62:a2.tmps.getD 6 undef= .chan (some k)) (hsz2:a2.tmps.size=12) (hAt:fmo ⟨n+2,0,none⟩ (n+1) x1 rest a3)
    (L0:Lv Tryz.prog rg Stop s0) (hcont:fl0 Tryz.prog rg Stop WS Shun Φ Fx Sx h sz s0 (fun x=>ur kind x g) l (fun x=>ur kind x X) cs):
    fl0 Tryz.prog rg Stop WS Shun Φ Fx' (fac Sx h (uw kind X cs n)) j sz s0 ((mB kind).at a' [.inRegion oe [0],.code zx]).finish (g::l) (dB.at a3 [.inRegion dOps (2::rest)]).finish (wB.at a2 callK::c0):=by
 intro x v' w' H' S' St' gs' T' q' ha I' hsz C' hD'
 have hreal: ∀ b o ro,Fx' b=some (o,ro)→v'.heap[b]? =some o∧w'.heap[b]? =ro∧H' b=some o:=fun b o ro e=>by
    obtain ⟨e1,e2⟩:=I'.fix b _ e;exact ⟨(I'.rel.laid b o e1).1,by rw [I'.rel.kept b o e1];exact e2,e1⟩
 have hc2:w'.cell? ⟨n+2,0,none⟩=some (.chan (some (n+1))):=by
    have:=(hreal _ _ _ hFc).2.1;simp [World.cell?,this]
 have hog:=og_back (main:=j==0) (H:=H') (Shun:=Shun) (w:=w') (n:=0) (cs:=wB.at a2 callK::c0) (x:=x) hc2 (.inr hsh) hAt
    (Φ:=fun a w1 k1=> ∃ a4:Act,a=G (dB.at a4 [.inRegion dOps [3]]) (wB.at a2 callK::c0)∧a4.eval (.tmp 2)= .chan (some (n+1))∧a4.eval (.tmp 4)=x∧a4.defers=[]∧(∃ d,w1=w'.at d)∧k1=0)
    (fun a4 e2 e4 ed=> .now fun d=>⟨a4,rfl,e2,e4,ed,⟨d,rfl⟩,rfl⟩)
 refine (C'.og I'.prot hog hD').trans fun gs1 w1 T1 hh1=> ?_;obtain ⟨_,q1,⟨a4,rfl,e2,e4,ed,⟨d1,rfl⟩,hD1⟩,hsz1,C1⟩:=hh1;have hSh:S' h=some (uw kind X cs n):=I'.sus h _ fi;have hSj:S' j=none:=C1.none;obtain ⟨hok,hzz,_⟩:=hW.ok j sj hj;have hkw:w'.heap[k]? =some (.chan 0 #[] false kc kc false):=(hreal _ _ _ hFk).2.1
 have hN :o8 Tryz.prog St' S' j (w'.at d1) sj:=by
    refine ⟨⟨kc,by rw [hjc];exact hkw⟩,hrow,fun b o hb=> ?_,fun i s1 hs1 e=> ?_,?_⟩
    · obtain ⟨o',e⟩:=hFD b o hb;exact (hreal _ _ _ e).2.1
    · rcases I'.only i s1 hs1 with h1 | h1
      · have:=hW.inj i j s1 sj h1 hj e;subst this;rw [hSj] at hs1;cases hs1
      · simp only [fac] at h1;split at h1
        · cases h1;exact hkn (by rw [← hjc,← e];rfl)
        · exact hxs i s1 h1 (e.trans hjc)
    · have h1:n+2<w'.heap.size:=by
       have:=(hreal _ _ _ hFc).2.1;exact (fx5.1 this).1
      have h2:k<w'.heap.size:=(fx5.1 hkw).1;refine ⟨?_,?_⟩
      · show sj.B≤w'.heap.size;omega
      · show sj.c<w'.heap.size;rw [hjc];exact h2
 have hafter:Sits Tryz.prog (j==0) (Keeps sj.D) (St' j) sj.B sj.seat 10 (Go.Conc.served (G (dB.at a4 [.inRegion dOps [3]]) (wB.at a2 callK::c0)) undef):=
    fqz hok hzz (fun g hg=>(hhome g).2 hg) ed hd2 (by rw [hjc];exact h62) hsz2
 refine (fio (s':=sj) (v:=x) (z':= .tuple #[]) C1 rfl hSh (by rw [hsz1,hsz];exact hh) (fun d=> ?_) hD1 hN hafter).trans fun gs2 w2 T2 hh2=> ?_
 · exact fg4 rfl rfl rfl fu e2 e4
 obtain ⟨g2,q2,kd,d2,hhome2,hkd,rfl,hsz2',hD2,C2⟩:=hh2;have hkd:w'.heap[n+1]? =some (.chan 0 #[] false kd kd false):=hkd;have hn1:n+1<w'.heap.size:=(fx5.1 hkd).1;obtain ⟨hvd,_,hHd⟩:=hreal _ _ _ hFd;obtain ⟨hvk,_,hHk⟩:=hreal _ _ _ hFk
 have rel2:Rel ⟨H'.at_,fun b=>if b=n+1 then some (.chan 0 #[] false (kd+1) (kd+1) false) else H'.real b,H'.on⟩ v' (((w'.at d1).at d2).setChan (n+1) 0 #[] false (kd+1) (kd+1) false):=
    (((I'.rel.re w'.tape d1).re w'.tape d2).reReal (o':= .chan 0 #[] false (kd+1) (kd+1) false) hHd (.inr (.inr ⟨mkD,kd+1,rfl,rfl⟩)) hn1:Rel _ v' _)
 generalize hH2:(⟨H'.at_,fun b=>if b=n+1 then some (.chan 0 #[] false (kd+1) (kd+1) false) else H'.real b,H'.on⟩:Hide)=H2 at rel2;have hat2: ∀ b,H2 b=H' b:=fun b=>by subst hH2;rfl
 have hreal2: ∀ b,b≠n+1→H2.real b=H'.real b:=fun b hb=>by subst hH2;simp [hb]
 have hon2:H2.on=true:=by subst hH2;exact I'.on
 have hS2: ∀ i s1,az S' j h sj i=some s1→(i=j∧s1=sj)∨(i≠j∧i≠h∧S' i=some s1):=by
    intro i s1 e;unfold az at e;split at e
    · rename_i e1;cases e;exact .inl ⟨e1,rfl⟩
    · split at e
      · cases e
      · exact .inr ⟨by assumption,by assumption,e⟩
 have prot2:Prot H2 (az S' j h sj) St' Shun:=by
    refine ⟨fun i s1 e=> ?_,fun g l hl=> ?_,fun l hl=> ?_⟩
    · rcases hS2 i s1 e with ⟨rfl,rfl⟩ | ⟨_,_,e1⟩
      · refine ⟨by rw [hat2,hjc,hHk];simp,fun b o hb=> ?_⟩;obtain ⟨o',e'⟩:=hFD b o hb;rw [hat2,(hreal _ _ _ e').2.2];simp
      · obtain ⟨p1,p2⟩:=I'.prot.seats i s1 e1;exact ⟨by rw [hat2];exact p1,fun b o hb=>by rw [hat2];exact p2 b o hb⟩
    · obtain ⟨a,e,h1⟩:=I'.prot.still g l hl;exact ⟨a,e,by rw [hat2];exact h1⟩
    · obtain ⟨a,e,h1⟩:=I'.prot.shun l hl;exact ⟨a,e,by rw [hat2];exact h1⟩
 rw [show (uw kind X cs n).c=n+1 from rfl] at C2 ⊢;have hw2k:(((w'.at d1).at d2).setChan (n+1) 0 #[] false (kd+1) (kd+1) false).heap[k]? =w'.heap[k]? :=w8 hkn _ _ _ _ _ _;generalize ((w'.at d1).at d2).setChan (n+1) 0 #[] false (kd+1) (kd+1) false=w2 at C2 rel2 hw2k ⊢
 have hog2:=og_done (main:=h==0) (H:=H2) (Shun:=Shun) (w:=w2) (n:=0) (x:=x) hk hhome2
    (Φ:=fun a w1 k1=>a=G (ur kind x X) cs∧(∃ d,w1=w2.at d)∧k1=0) (.now fun d=>⟨rfl,⟨d,rfl⟩,rfl⟩)
 refine (C2.og prot2 hog2 hD2).trans fun gs3 w3 T3 hh3=> ?_;obtain ⟨_,q3,⟨rfl,⟨d3,rfl⟩,hD3⟩,hsz3,C3⟩:=hh3;have efin:((mB kind).at a' [.inRegion oe [0],.code zx]).finish x=(mB kind).at (a'.put (some 4) x) [.inRegion oe [],.code zx]:=by rw [f0i];rfl
 rw [efin] at ha
 have hput:(a'.put (some 4) x).defers=[]∧(a'.put (some 4) x).tmps.getD 0 undef= .chan (some k)∧(a'.put (some 4) x).tmps.getD 4 undef=x:=by
    obtain ⟨L,ds0,hlen,rfl⟩:=wb a' hsz';rcases L with _ | ⟨y0,_ | ⟨y1,_ | ⟨y2,_ | ⟨y3,_ | ⟨y4,tl⟩⟩⟩⟩⟩ <;>first | (simp at hlen;done) | skip
    exact ⟨hd',h0',rfl⟩
 have ha2:=v_do2 (Stop:=Stop) (a:=a'.put (some 4) x) (v:=v') (b:=mB kind) (g:=g) (l:=l) A (k:=k) (x:=x) (cap:=1) (s:=s) (r:=r) (buf:= #[]) (cl:=false) (tm:=true) (ks:=[]) rfl hk hput.1 hput.2.1 hput.2.2 hvk (vn A L0 ha)
 have rel3:Rel ⟨fun b=>if b=k then some (.chan 1 #[.bool true] false (s+1) r true) else H2 b,H2.real,H2.on⟩ (v'.setChan k 1 #[.bool true] false (s+1) r true) (w2.at d3):=
    ((rel2.re w2.tape d3).remark (k:=k) (o:= .chan 1 #[] false s r true) (o':= .chan 1 #[.bool true] false (s+1) r true) (by rw [hat2];exact hHk) (.inr (.inr ⟨mkC #[.bool true] (s+1) r,kc,rfl,?_⟩)) rfl:Rel _ _ _)
 · refine hcont x (v'.setChan k 1 #[.bool true] false (s+1) r true) (w2.at d3) _ _ _ gs3 T3 q3 (ha.desc ha2.to_desc) ⟨rel3,?_,hon2,fun b y hb=> ?_,fun i s1 hi=> ?_,fun i s1 hi=> ?_,fun b cap buf cl s1 q1 hb hbuf=> ?_,fun g l hl=> ?_⟩ (by rw [hsz3,hsz2',hsz1,hsz]) (C3.drop (h=0∨WS h≠none)) hD3
   · refine ⟨fun i s1 e=> ?_,fun g l hl=> ?_,fun l hl=> ?_⟩
     · obtain ⟨p1,p2⟩:=prot2.seats i s1 e
       exact ⟨by simp only; split <;> simp_all, fun b o hb => by simp only;split;· simp
                                                                 · exact p2 b o hb⟩
     · obtain ⟨a,e,h1⟩:=prot2.still g l hl.1
       exact ⟨a, e, by simp only;split;· simp
                       · exact h1⟩
     · obtain ⟨a,e,h1⟩:=prot2.shun l hl
       exact ⟨a, e, by simp only;split;· simp
                       · exact h1⟩
   · obtain ⟨h1,h2,h3⟩:=hF b y hb;obtain ⟨e1,e2⟩:=I'.fix b y h1;exact ⟨by simp only;rw [fx9 h2,hat2];exact e1,by show H2.real b=_;rw [hreal2 b h3];exact e2⟩
   · have hih:i≠h:=by rintro rfl;rw [hSxh] at hi;cases hi
     have hij:i≠j:=by rintro rfl;rw [hSxj] at hi;cases hi
     have:=I'.sus i s1 (by simp only [fac,fx9 hih];exact hi);simp only [az,fx9 hih,fx9 hij];exact this
   · rcases hS2 i s1 hi with ⟨rfl,rfl⟩ | ⟨h1,h2,e1⟩
     · exact .inl hj
     · rcases I'.only i s1 e1 with h3 | h3
       · exact .inl h3
       · simp only [fac,fx9 h2] at h3;exact .inr h3
   · simp only at hb;split at hb
     · rename_i e;subst e;cases hb;exact ⟨rfl,j,sj,hj,hjc,by simp [az],hSxj,hFxk⟩
     · rw [hat2] at hb;obtain ⟨e1,j2,s2,h1,h2,h3,h4,h5⟩:=I'.marks b cap buf cl s1 q1 hb hbuf;have hjh2:j2≠h:=by rintro rfl;simp [fac] at h4
       have hjj:j2≠j:=by rintro rfl;rw [hSj] at h3;cases h3
       refine ⟨e1,j2,s2,h1,h2,by simp only [az,fx9 hjj,fx9 hjh2];exact h3,by simpa [fac,hjh2] using h4,?_⟩;cases e:Fx b with
       | none=>rfl
       | some y=>rw [(hF b y e).1] at h5;cases h5
   · by_cases e:g=h
     · subst e;exact (hl.2 rfl).imp id .inl
     · rcases I'.who g l hl.1 with h1 | h1 | h1
       · exact .inl h1
       · exact .inr (.inl h1)
       · simp only [fac,fx9 e] at h1;exact .inr (.inr h1)
 · show w2.heap[k]? =_;rw [hw2k];exact hkw
def fud {i:Nat} {fn:Func} (hi:i∈rowsKept) (h:Tryz.prog.funcs[i]? =some fn):fn.body=none:=by
 have hb: ∀ {f:Func},f.body.isNone=true→f.body=none:=fun h=>by simpa using h
 simp only [rowsKept,fy3,fz8,f0z] at hi;rcases hi with rfl | rfl | rfl | rfl | rfl | rfl | rfl | rfl | rfl | rfl | rfl | rfl
 · rw [Tryz.func80] at h;cases h;exact hb fd
 · rw [Tryz.func81] at h;cases h;exact hb fd
 · rw [Tryz.func82] at h;cases h;exact hb fd
 · rw [Tryz.func84] at h;cases h;exact hb fd
 · rw [Tryz.func113] at h;cases h;exact hb fd
 · rw [Tryz.func114] at h;cases h;exact hb fd
 · rw [Tryz.func130] at h;cases h;exact hb fd
 · rw [Tryz.func146] at h;cases h;exact hb fd
 · rw [Tryz.func157] at h;cases h;exact hb fd
 · rw [Tryz.func158] at h;cases h;exact hb fd
 · rw [Tryz.func159] at h;cases h;exact hb fd
 · rw [Tryz.func160] at h;cases h;exact hb fd
def fg5 {f:FuncId} (h: ∀ fn,rg[f]? =some fn→fn.body=none) (args:Array Value) (kind:CallKind) (v:World):Dead PV (Frame.enter PV f args kind) v:=by
 intro main c cs
 have e:(Frame.enter PV f args kind).todo=[.code (.refuse "unsupported: a function without a Go body is entered")]:=by
    have e0:PV.funcs[f]? =rg[f]? :=rfl;unfold Frame.enter;rw [e0];cases hf:rg[f]? with
    | none=>rfl
    | some fn=>simp [h fn hf]
 have em:(Frame.enter PV f args kind).mode= .run:=rfl;refine ⟨.unsupported (.elab "unsupported: a function without a Go body is entered") ((Frame.enter PV f args kind).pos PV),v,#[],?_⟩;simp [G,stepG,em,stepG.exec,e]
def feg (f:Nat) (hs:f∉specials):(Tryz.prog.funcs[f]? =rg[f]? ∧ ∀ fn c,rg[f]? =some fn→fn.body=some c→yb c=true)∨ ∀ args kind v,Dead PV (Frame.enter PV f args kind) v:=by
 rcases far f with hn | ⟨fn,h,⟨hs',_⟩ | hg | ⟨hg,h1,h2⟩⟩
 · exact .inr (fg5 fun fn e=>by rw [hn] at e;cases e)
 · exact absurd hs' hs
 · exact .inr (fg5 fun fn e=>by rw [hg] at e;cases e;rfl)
 · refine .inl ⟨by rw [h,hg],fun fn' c e hb=> ?_⟩;rw [hg] at e;cases e;rcases h2 with h2 | ⟨c',h2,_,h3⟩
   · rw [fud h2 h] at hb;cases hb
   · rw [h2] at hb;cases hb;exact h3
def virt_nc:Nc Tryz.prog rg:=by
 intro e;have h:Tryz.prog.funcs[46]? =rg[46]? :=by rw [e]
 rw [fra,Tryz.func46] at h;have h1:=fy7 h;have h2:(Tryz.f46.name==doV.name)=false:=by kernel_rfl
 rw [h1] at h2;simp at h2
def do_call {Stop:Frame→List Frame→World→Prop} {WS Sx S:Nat→Option SeatD} {Sl:Nat→Loc→Prop} {Shun:Loc→Prop} {Φ:Array Goroutine→World→Trace→Prop} {Fx:Nat→Option (Obj×Option Obj)} {H:Hide} {s0:St} {j:Nat} {kind:CallKind} {cX g:Frame} {cs l:List Frame} {a' a3:Act} {rest:List Nat} {x1:Value}
    {v w:World} {gs:Array Goroutine} {T:Trace} {q:Nat→Nat}
    (A:VS Tryz.prog rg Stop) (ih: ∀ s',Ahead PV Stop s0 s'→fme Tryz.prog rg Stop WS Shun Φ s'∧tu Tryz.prog rg (· ∈specials) Stop WS Shun Φ s') (hk:kind= .normal∨kind= .deferred)
    (ha0:Ahead PV Stop s0 ((mB kind).at a' [.inRegion oe [0],.code zx],g::l,v)) (L:Lv Tryz.prog rg Stop ((mB kind).at a' [.inRegion oe [0],.code zx],g::l,v)) (hx:a'.eval (.tmp 1)=x1) (hx3:a3.eval (.tmp 3)=x1)
    (hlt: ∀ j s,WS j=some s→j<gs.size) (I:Inv WS Fx Sx H S Sl Shun v w) (C:Hold Tryz.prog Sl Shun u5 S j (G (dB.at a3 [.inRegion dOps (2::rest)]) (cX::cs)) T gs w q) (hD:Deaf T j=0)
    (hcont:fl0 Tryz.prog rg Stop WS Shun Φ Fx Sx j gs.size s0 ((mB kind).at a' [.inRegion oe [0],.code zx]).finish (g::l) (dB.at a3 [.inRegion dOps (2::rest)]).finish (cX::cs)):Leads Tryz.prog Φ gs w T:=by
 refine C.lead' hD rfl fun gs1 T1 q1 d sl hsz hD C1=> ?_;obtain ⟨x,v1,w1,es,hc,hv,hsize,hls,htp,rel1,hes⟩:=fqu (b:=mB kind) (a:=a') (k:=[.code zx]) (b':=dB) (a':=a3) (k':=[]) (ops:=oe) (ops':=dOps) (i:=0) (rest:=[]) (i':=2) (rest':=rest) A md I.rel d rfl rfl hx rfl rfl rfl hx3 rfl (.inl rfl) fi fd L
 have hn: ∀ a b c d,zr (dB.at a3 [.inRegion dOps (2::rest)]) x≠ .comm a b c d:=by
    rcases hc with ⟨y,rfl⟩ | ⟨f,xs,rfl⟩ | ⟨lo,f,ts,ca,cb,rfl,_⟩ <;>intro a b c d e <;>cases e
 obtain ⟨gs',ops,e1,e2,C2,e3⟩:=C1.ord (sl:=sl) I.prot (I.rel.re w.tape d) rel1 hsize hls hn hes;refine ⟨gs',w1,ops,e1,?_⟩;have I1:Inv WS Fx Sx H S Sl Shun v1 w1:=I.step rel1;have hD1:Deaf (T1++ops) j=0:=by rw [e3];exact hD
 have hsz1:gs'.size=gs.size:=e2.trans hsz;have hlt1: ∀ j s,WS j=some s→j<gs'.size:=by rw [hsz1];exact hlt
 rcases hc with ⟨y,rfl⟩ | ⟨f,xs,rfl⟩ | ⟨lo,f,ts,ca,cb,rfl,hok⟩
 · exact hcont y v1 w1 H S Sl gs' (T1++ops) q1 (ha0.desc hv.to_desc) I1 hsz1 C2 hD1
 · have ha1:=ha0.desc (hv:Ahead _ _ _ _).to_desc;have L1:=vn A L (hv:Ahead _ _ _ _);by_cases hsp:f∈specials
   · refine (ih _ ha1).2 f xs .normal _ (g::l) hsp rfl rfl Fx Sx H S Sl j (dB.at a3 [.inRegion dOps (2::rest)]) (cX::cs) gs' w1 (T1++ops) q1 (.inl rfl) hlt1 L1 I1 C2 hD1 ?_;rw [hsz1];exact bd ha1 hcont
   · rcases feg f hsp with ⟨hsame,hnc⟩ | hdead
     · have henter:Frame.enter Tryz.prog f xs .normal=Frame.enter PV f xs .normal:=by
        show Frame.enter Tryz.prog f xs .normal=Frame.enter (V Tryz.prog rg) f xs .normal;unfold Frame.enter;rw [hsame]
       have C3:Hold Tryz.prog Sl Shun u5 S j (G (Frame.enter PV f xs .normal) (tq [] (cX::cs) (some ((mB kind).at a' [.inRegion oe [0],.code zx],g::l,dB.at a3 [.inRegion dOps (2::rest)])))) (T1++ops) gs' w1 q1:=by
        rw [← henter];exact C2
       have oke:FrOk Tryz.prog rg (Frame.enter PV f xs .normal):=by
        rw [← henter];exact t9 A.code hsame xs (.inl rfl) fun _=>hnc
       refine (ih _ ha1).1 Fx Sx H S Sl j [] _ (cX::cs) gs' w1 (T1++ops) q1 rfl oke fi (fun y hy=>by simp at hy;subst hy;rfl) hlt1 L1 I1 C3 hD1 ?_;rw [hsz1];exact bd ha1 hcont
     · exfalso;obtain ⟨c',cs',hcs'⟩:=fc9 ((mB kind).at a' [.inRegion oe [0],.code zx]::g::l);obtain ⟨o,u,es',he⟩:=hdead xs .normal v1 true c' cs';exact mc A L1 fi ⟨o,u,es',by rw [hcs'];exact he⟩
 · have ha1:=ha0.desc (hv:Ahead _ _ _ _).to_desc;have L1:=vn A L (hv:Ahead _ _ _ _);refine (ih _ ha1).1 Fx Sx H S Sl j [] (some ((mB kind).at a' [.inRegion oe [0],.code zx],g::l,dB.at a3 [.inRegion dOps (2::rest)])) (cX::cs) gs' w1 (T1++ops) q1 rfl (fgr lo f ts hok (.inl rfl)) fi (fun y hy=>by simp at hy;subst hy;rfl) hlt1 L1 I1 C2 hD1 ?_;rw [hsz1];exact bd ha1 hcont
section
variable {WS Sx S:Nat→Option SeatD} {Sl:Nat→Loc→Prop} {Shun:Loc→Prop} {Fx:Nat→Option (Obj×Option Obj)} {H:Hide} {v w:World} {k cap s r:Nat} {buf:Array Value} {cl tm:Bool}
def frf (I:Inv WS Fx Sx H S Sl Shun v w) (hk:v.heap[k]? =some (.chan cap buf cl s r tm)) (h1:tm=true∨cap=0) (h2:0<buf.size):
    cap=1∧cl=false∧tm=true∧H k=some (.chan 1 buf false s r true)∧(∃ k',w.heap[k]? =some (.chan 0 #[] false k' k' false))∧buf.size=1∧ ∃ j sj,WS j=some sj∧sj.c=k∧S j=some sj∧Sx j=none∧Fx k=none:=by
 cases hH:H k with
 | none=>
   have:=I.rel.chans I.on k _ hH hk;simp only [sg,f04,f2y,f1r] at this;rcases h1 with rfl | rfl
   · cases this.1
   · omega
 | some o=>
   obtain ⟨e1,e2⟩:=I.rel.laid k o hH;rw [hk] at e1;obtain rfl:=(fy7 e1).symm;rcases e2 with ⟨e,c,h,_⟩ | ⟨h,_⟩ | ⟨x,k',h,e3⟩
   · cases h
   · cases h
   · obtain ⟨xc,xb,xs,xq,xt,xr,xok⟩:=x;simp only [Obj.chan.injEq] at h;obtain ⟨rfl,rfl,rfl,rfl,rfl,rfl⟩:=h;rcases xok with ⟨_,rfl,_⟩ | ⟨rfl,rfl,rfl⟩
     · simp at h2
     · obtain ⟨f1,f2⟩:=I.marks k 1 buf false s r hH h2;exact ⟨rfl,rfl,rfl,rfl,⟨k',e3⟩,f1,f2⟩
end
section
variable {H:Hide} {v w:World} {k s r:Nat} {buf:Array Value} {x1:Value}
def fue (w:World) (x1:Value):(doW w x1).heap.size=w.heap.size+3:=by
 unfold doW;rw [xd,xd,xd]
def fh9 (w:World) (x1:Value) (b:Nat):(doW w x1).heap[b]? =if b=w.heap.size+2 then some (.cells #[.chan (some (w.heap.size+1))] 163) else if b=w.heap.size+1 then some (.chan 0 #[] false 0 0 false) else if b=w.heap.size then some (.cells x1.cells 116) else w.heap[b]? :=by
 show (((w.heap.push (.cells x1.cells 116)).push (.chan 0 #[] false 0 0 false)).push (.cells #[.chan (some (w.heap.size+1))] 163))[b]? =_;rw [f05,f05,f05];simp only [f2a]
def do_rel (rel:Rel H v w) (hk:H k=some (.chan 1 buf false s r true)) (hw: ∃ k',w.heap[k]? =some (.chan 0 #[] false k' k' false)):
    ∃ HD:Hide,Rel HD ((((v.setChan k 1 #[] false s (r+1) true).alloc (.cells x1.cells 116)).alloc (.chan 0 #[] false 0 0 false)).alloc (.cells #[] 163)) (doW w x1)∧HD.on=H.on∧
      (∀ b,HD b=if b=w.heap.size+2 then some (.cells #[] 163) else if b=w.heap.size+1 then some (.chan 0 #[] false 0 0 false) else if b=k then some (.chan 1 #[] false s (r+1) true) else H b)∧
      ∀ b,HD.real b=if b=w.heap.size+2 then some (.cells #[.chan (some (w.heap.size+1))] 163) else if b=w.heap.size+1 then some (.chan 0 #[] false 0 0 false) else H.real b:=by
 obtain ⟨k',hw⟩:=hw;have relA:=rel.remark (o':= .chan 1 #[] false s (r+1) true) hk (.inr (.inr ⟨mkC #[] s (r+1),k',rfl,hw⟩)) rfl;have relB:=relA.push (o:= .cells x1.cells 116) rfl (relA.above (fx8 _));have relC:=relB.pushHid (o:= .chan 0 #[] false 0 0 false) (o':= .chan 0 #[] false 0 0 false) (.inr (.inr ⟨mkD,0,rfl,rfl⟩)) rfl;have relD:=relC.pushHid (o:= .cells #[] 163) (o':= .cells #[.chan (some (w.heap.size+1))] 163) (.inl ⟨163,_,rfl,rfl⟩) rfl;refine ⟨_,relD,rfl,fun b=> ?_,fun b=> ?_⟩
 · simp only [f2a,f00,rel.size]
 · simp only [f2a,f00,rel.size]
end
noncomputable def fixH (H:Hide) (p:Nat→Prop):Nat→Option (Obj×Option Obj):=fun b=>by
 classical exact if p b then (H b).map fun o=>(o,H.real b) else none
def fixH_some {H:Hide} {p:Nat→Prop} {b:Nat} {x:Obj×Option Obj}:fixH H p b=some x↔p b∧H b=some x.1∧H.real b=x.2:=by
 unfold fixH;split
 · rename_i hp;constructor
   · intro h;obtain ⟨o,ho,rfl⟩:=fy8.1 h;exact ⟨hp,ho,rfl⟩
   · rintro ⟨_,h1,h2⟩;rw [h1,h2];rfl
 · rename_i hp;exact ⟨fun h=>je,fun h=>absurd h.1 hp⟩
def spec_do : fmf Tryz.prog rg (· ∈specials) WsOk 46:=by
 intro Stop WS Shun Φ args kind g l v A hR hW ih Fx Sx H S Sl h X cs gs w T q hk hlt L I C hD hcont;have hent:Frame.enter (V Tryz.prog rg) 46 args kind=(mB kind).at { tmps:=args++Array.replicate (doV.ntmps-args.size) undef,defers:=[] } [.code (zw doV)]:=enter_at (P:=PV) fra rfl;have hstart:=L;obtain ⟨Ls,hlen,hL,hg⟩:=fa5 args doV.ntmps;rw [hL] at hent;have hlen:11≤Ls.length:=hlen;rcases Ls with _ | ⟨x0,_ | ⟨x1,_ | ⟨x2,_ | ⟨x3,_ | ⟨x4,_ | ⟨x5,_ | ⟨x6,_ | ⟨x7,_ | ⟨x8,_ | ⟨x9,_ | ⟨x10,tl⟩⟩⟩⟩⟩⟩⟩⟩⟩⟩⟩ <;>first | (simp at hlen;done) | skip
 have hx0:args.getD 0 undef=x0:=(hg 0).symm;have hx1:args.getD 1 undef=x1:=(hg 1).symm;obtain ⟨c,hc,hvx⟩:=v_do1 (v:=v) A x0 x1 x2 x3 x4 x5 x6 x7 x8 x9 x10 tl;have hcc:zw doV=c:=by unfold zw;rw [hc];rfl
 rw [hcc] at hent;rw [hent] at L hcont ih hstart;obtain ⟨a',v1,hdo,hdesc⟩:=hvx (mB kind) [] (g::l) fi L;generalize hfr0:(mB kind).at { tmps:=(x0::x1::x2::x3::x4::x5::x6::x7::x8::x9::x10::tl).toArray,defers:=[] } [.code c]=fr0 at*;obtain ⟨k,cap,buf,cl,s,r,tm,rfl,hkv,hct,hbuf,hv1,hd',h0',h1',hsz'⟩:=hdo;obtain ⟨rfl,rfl,rfl,hHk,⟨kr,hkw⟩,hb1,j,sj,hj,hjc,hSj,hSxj,hFxk⟩:=frf I hkv hct hbuf
 have hbuf0:buf.extract 1 buf.size= #[]:=by
    apply f4y;simp [hb1]
 rw [hbuf0] at hv1;have Ld:=fkx A hdesc L;obtain ⟨l1,e1,L1,ha1⟩:=cy A Ld fi f4d;obtain rfl:=fz2 e1;obtain ⟨l2,e2,L2,ha2⟩:=cy A L1 fi f2o;obtain rfl:=fz2 e2;have haD:Ahead PV Stop (fr0,g::l,v) ((mB kind).at a' [.inRegion oe [0],.code zx],g::l,v1):=hdesc.ahead (ha1.desc ha2.to_desc);have hx1':a'.eval (.tmp 1)=x1:=h1';obtain ⟨fv,f1,f2,hfv⟩:=fjb (b:=mB kind) (a:=a') (k:=[.code zx]) (ops:=oe) (i:=0) (rest:=[]) A rfl rfl rfl L2;rw [hx1'] at hfv;subst hfv
 have hHlt: ∀ b,H b≠none→b<w.heap.size:=fun b hb=>by
    by_cases e:b<w.heap.size
    · exact e
    · exact absurd (I.rel.above (by rw [I.rel.size];omega)) hb
 obtain ⟨HD,relD,hDon,hDat,hDreal⟩:=do_rel (x1:= .func fv f1 f2) I.rel hHk ⟨kr,hkw⟩;rw [← hv1] at relD
 have hsh: ¬ Shun (.cell ⟨w.heap.size+2,0,none⟩):=fun hs=>by
    obtain ⟨a,e,ha⟩:=I.prot.shun _ hs;cases e;have:w.heap.size+2<w.heap.size:=hHlt _ ha;omega
 have hog:=og_do (main:=h==0) (H:=H) (Shun:=Shun) (w:=w) (n:=0) (c:=X) (cs:=cs) hk hx0 hx1 hHlt
    (Φ:=fun a w' k'=> ∃ aa:Act,a=G ((mB kind).at aa [.inRegion R2 [2],.code C3]) (X::cs)∧aa.defers=[]∧aa.tmps.getD 5 undef= .pointer (some ⟨w.heap.size+2,0,none⟩)∧11≤aa.tmps.size∧aa.eval (.tmp 7)= .chan (some k)∧aa.eval (.tmp 8)=fu1 w.heap.size∧(∃ d,w'=(doW w (.func fv f1 f2)).at d)∧k'=0)
    (fun aa e1 e2 e3 e4 e5=> .now fun d=>⟨aa,rfl,e1,e2,e3,e4,e5,⟨d,rfl⟩,rfl⟩)
 refine (C.og I.prot hog hD).trans fun gs1 w1 T1 hh1=> ?_;obtain ⟨_,q1,⟨aa,rfl,b1,b2,b3,b4,b5,⟨d1,rfl⟩,hD1⟩,hsz1,C1⟩:=hh1;have C2:=C1.grow hsh;subst hjc;have hjh:j≠h:=fun e=>by subst e;rw [C.none] at hSj;cases hSj
 obtain ⟨hok,hzz,ds,c0,hc0,hhome⟩:=hW.ok j sj hj;have hclt:sj.c<w.heap.size:=(fx5.1 hkw).1
 have hN:o8 Tryz.prog (fun g' l'=>Sl g' l'∨(g'=h∧l'= .cell ⟨w.heap.size+2,0,none⟩)) S h ((doW w (.func fv f1 f2)).at d1) (uw kind X cs w.heap.size):=by
    refine ⟨⟨0,?_⟩,fun b o hb=> ?_,fun b o hb=> ?_,fun i s1 hs1 e=> ?_,?_⟩
    · show (doW w (.func fv f1 f2)).heap[w.heap.size+1]? =_;rw [fh9,fx9 fe,f02 rfl]
    · simp only [uw] at hb;split at hb
      · cases hb;exact ⟨_,_,_,rfl⟩
      · cases hb
    · simp only [uw] at hb;split at hb
      · rename_i e;cases hb;subst e;show (doW w (.func fv f1 f2)).heap[w.heap.size+2]? =_;rw [fh9,f02 rfl]
      · cases hb
    · have:=(C.crew.low i s1 hs1).2;rw [e] at this;simp [uw] at this;omega
    · show w.heap.size+3≤(doW w (.func fv f1 f2)).heap.size∧w.heap.size+1<(doW w (.func fv f1 f2)).heap.size;rw [fue];omega
 have hafter:=fqx (main:=h==0) (X:=X) (cs:=cs) (m:=w.heap.size) (a:=aa) (Still:=fun l'=>Sl h l'∨(h=h∧l'= .cell ⟨w.heap.size+2,0,none⟩)) hk (.inr ⟨rfl,rfl⟩) b2 b1 b3;refine (fio (s':=uw kind X cs w.heap.size) (v:=fu1 w.heap.size) (z':= .tuple #[]) C2 rfl hSj (by rw [hsz1];exact hlt j sj hj) (fun d=> ?_) hD1 hN hafter).trans fun gs2 w2 T2 hh2=> ?_
 · exact fg4 rfl rfl rfl (by rcases hk with rfl | rfl <;>simp) b4 b5
 obtain ⟨g2,q2,kd,d2,hhome2,hkd,rfl,hsz2',hD2,C3⟩:=hh2;generalize hn:w.heap.size=n at*;have hkd:(doW w (.func fv f1 f2)).heap[sj.c]? =some (.chan 0 #[] false kd kd false):=hkd;have hDk:HD sj.c=some (.chan 1 #[] false s (r+1) true):=by rw [hDat,fx9 fe,fx9 fe,f02 rfl]
 have rel3:Rel ⟨HD.at_,fun b=>if b=sj.c then some (.chan 0 #[] false (kd+1) (kd+1) false) else HD.real b,HD.on⟩ v1 ((((doW w (.func fv f1 f2)).at d1).at d2).setChan sj.c 0 #[] false (kd+1) (kd+1) false):=
    (((relD.re w.tape d1).re w.tape d2).reReal (o':= .chan 0 #[] false (kd+1) (kd+1) false) hDk (.inr (.inr ⟨mkC #[] s (r+1),kd+1,rfl,rfl⟩)) (fx5.1 hkd).1:Rel _ v1 _)
 generalize hH3:(⟨HD.at_,fun b=>if b=sj.c then some (.chan 0 #[] false (kd+1) (kd+1) false) else HD.real b,HD.on⟩:Hide)=H3 at rel3;have hat3: ∀ b,H3 b=if b=n+2 then some (.cells #[] 163) else if b=n+1 then some (.chan 0 #[] false 0 0 false) else if b=sj.c then some (.chan 1 #[] false s (r+1) true) else H b:=fun b=>by subst hH3;exact hDat b
 have hreal3: ∀ b,H3.real b=if b=sj.c then some (.chan 0 #[] false (kd+1) (kd+1) false) else if b=n+2 then some (.cells #[.chan (some (n+1))] 163) else if b=n+1 then some (.chan 0 #[] false 0 0 false) else H.real b:=fun b=>by
    subst hH3;show (if b=sj.c then _ else HD.real b)=_;rw [hDreal]
 have hon3:H3.on=true:=by subst hH3;exact hDon.trans I.on
 have hmono: ∀ b,H b≠none→H3 b≠none:=fun b hb=>by
    rw [hat3];split
    · simp
    · split
      · simp
      · split
        · simp
        · exact hb
 have hold3: ∀ b,b<n→b≠sj.c→H3 b=H b∧H3.real b=H.real b:=fun b h1 h2=>by
    rw [hat3,hreal3,fx9 fe,fx9 fe,fx9 h2,fx9 h2,fx9 fe,fx9 fe];exact ⟨rfl,rfl⟩
 have hFxb: ∀ b x,Fx b=some x→b<n∧b≠sj.c:=fun b x e=>by
    refine ⟨hHlt b (by rw [(I.fix b x e).1];simp),?_⟩;rintro rfl;rw [hFxk] at e;cases e
 have hDb: ∀ b o,sj.D b=some o→b<n∧b≠sj.c∧w.heap[b]? =some o∧ ∃ o',H b=some o':=fun b o e=>by
    have h1:=(I.prot.seats j sj hSj).2 b o e;have h2:=C.crew.keeps j sj hSj b o e;obtain ⟨c',e',f',rfl⟩:=C.crew.rows j sj b o hSj e;exact ⟨hHlt b h1,fkv hkw h2 ⟨_,_,_,rfl⟩,h2,Option.ne_none_iff_exists'.1 h1⟩
 let p:Nat→Prop:=fun b=>b=sj.c∨b=n+1∨b=n+2∨Fx b≠none∨sj.D b≠none
 have hSxh:Sx h=none:=by
    cases e:Sx h with
    | none=>rfl
    | some y=>have:=I.sus h y e;rw [C.none] at this;cases this
 have hxs: ∀ i s,Sx i=some s→s.c≠sj.c:=fun i s1 e e2=>by
    have:=C.crew.inj i j s1 sj (I.sus i s1 e) hSj e2;subst this;rw [hSxj] at e;cases e
 have hF: ∀ b x,Fx b=some x→fixH H3 p b=some x∧b≠sj.c∧b≠n+1:=fun b x e=>by
    obtain ⟨h1,h2⟩:=hFxb b x e;obtain ⟨h3,h4⟩:=hold3 b h1 h2;exact ⟨fixH_some.2 ⟨.inr (.inr (.inr (.inl pb))),by rw [h3];exact (I.fix b x e).1,by rw [h4];exact (I.fix b x e).2⟩,h2,by omega⟩
 have hFk:fixH H3 p sj.c=some (.chan 1 #[] false s (r+1) true,some (.chan 0 #[] false (kd+1) (kd+1) false)):=
    fixH_some.2 ⟨.inl rfl,by rw [hat3,fx9 fe,fx9 fe,f02 rfl],by rw [hreal3,f02 rfl]⟩
 have hFd:fixH H3 p (n+1)=some (.chan 0 #[] false 0 0 false,some (.chan 0 #[] false 0 0 false)):=
    fixH_some.2 ⟨.inr (.inl rfl),by rw [hat3,fx9 fe,f02 rfl],by rw [hreal3,fx9 fe,fx9 fe,f02 rfl]⟩
 have hFc:fixH H3 p (n+2)=some (.cells #[] 163,some (.cells #[.chan (some (n+1))] 163)):=
    fixH_some.2 ⟨.inr (.inr (.inl rfl)),by rw [hat3,f02 rfl],by rw [hreal3,fx9 fe,f02 rfl]⟩
 have hFD: ∀ b o,sj.D b=some o→ ∃ o',fixH H3 p b=some (o',some o):=fun b o e=>by
    obtain ⟨h1,h2,h5,o',h6⟩:=hDb b o e;obtain ⟨h3,h4⟩:=hold3 b h1 h2;exact ⟨o',fixH_some.2 ⟨.inr (.inr (.inr (.inr pb))),by rw [h3];exact h6,by rw [h4,← I.rel.kept b o' h6];exact h5⟩⟩
 have hS3: ∀ i s1,az S h j (uw kind X cs n) i=some s1→(i=h∧s1=uw kind X cs n)∨(i≠h∧i≠j∧S i=some s1):=by
    intro i s1 e;unfold az at e;split at e
    · rename_i e1;cases e;exact .inl ⟨e1,rfl⟩
    · split at e
      · cases e
      · exact .inr ⟨by assumption,by assumption,e⟩
 have hw3: ∀ b,b≠sj.c→((((doW w (.func fv f1 f2)).at d1).at d2).setChan sj.c 0 #[] false (kd+1) (kd+1) false).heap[b]? =(doW w (.func fv f1 f2)).heap[b]? :=fun b hb=>w8 hb _ _ _ _ _ _;generalize (((doW w (.func fv f1 f2)).at d1).at d2).setChan sj.c 0 #[] false (kd+1) (kd+1) false=w3 at C3 rel3 hw3 ⊢
 have I3 : Inv WS (fixH H3 p) (fac Sx h (uw kind X cs n)) H3 (az S h j (uw kind X cs n)) (fun g' l'=>Sl g' l'∨(g'=h∧l'= .cell ⟨n+2,0,none⟩)) Shun v1 w3:=by
    refine ⟨rel3,⟨fun i s1 e=> ?_,fun g l hl=> ?_,fun l hl=> ?_⟩,hon3,fun b x hb=>⟨(fixH_some.1 hb).2.1,(fixH_some.1 hb).2.2⟩,fun i s1 hi=> ?_,fun i s1 hi=> ?_,fun b cap buf cl s1 q1 hb hbuf=> ?_,fun g l hl=> ?_⟩
    · rcases hS3 i s1 e with ⟨rfl,rfl⟩ | ⟨_,_,e1⟩
      · refine ⟨?_,fun b o hb=> ?_⟩
        · show H3 (n+1)≠none;rw [hat3,fx9 fe,f02 rfl];simp
        · simp only [uw] at hb;split at hb
          · rename_i e;subst e;rw [hat3,f02 rfl];simp
          · cases hb
      · obtain ⟨p1,p2⟩:=I.prot.seats i s1 e1;exact ⟨hmono _ p1,fun b o hb=>hmono _ (p2 b o hb)⟩
    · rcases hl with hl | ⟨rfl,rfl⟩
      · obtain ⟨a,e,h1⟩:=I.prot.still g l hl;exact ⟨a,e,hmono _ h1⟩
      · exact ⟨_,rfl,by show H3 (n+2)≠none;rw [hat3,f02 rfl];simp⟩
    · obtain ⟨a,e,h1⟩:=I.prot.shun l hl;exact ⟨a,e,hmono _ h1⟩
    · simp only [fac] at hi;split at hi
      · rename_i e;simp only [az,f02 e];exact hi
      · rename_i e;have hij:i≠j:=by rintro rfl;rw [hSxj] at hi;cases hi
        simp only [az,fx9 e,fx9 hij];exact I.sus i s1 hi
    · rcases hS3 i s1 hi with ⟨rfl,rfl⟩ | ⟨h1,h2,e1⟩
      · exact .inr (by simp [fac])
      · rcases I.only i s1 e1 with h3 | h3
        · exact .inl h3
        · exact .inr (by simp only [fac,fx9 h1];exact h3)
    · rw [hat3] at hb;split at hb
      · cases hb
      · split at hb
        · cases hb
        · split at hb
          · cases hb;exact absurd hbuf fi
          · rename_i hb2 hb1 hbk;obtain ⟨f1,j2,s2,h1,h2,h3,h4,h5⟩:=I.marks b cap buf cl s1 q1 hb hbuf;have hj2h:j2≠h:=by rintro rfl;rw [C.none] at h3;cases h3
            have hj2j:j2≠j:=by
              rintro rfl;rw [hSj] at h3;cases h3;exact hbk h2.symm
            refine ⟨f1,j2,s2,h1,h2,by simp only [az,fx9 hj2h,fx9 hj2j];exact h3,by simp only [fac,fx9 hj2h];exact h4,?_⟩;cases e:fixH H3 p b with
            | none=>rfl
            | some y=>
              exfalso;obtain ⟨hp,_⟩:=fixH_some.1 e;rcases hp with hp | hp | hp | hp | hp
              · exact hbk hp
              · exact hb1 hp
              · exact hb2 hp
              · exact hp h5
              · obtain ⟨o,ho⟩:=Option.ne_none_iff_exists'.1 hp;obtain ⟨_,_,h6,_⟩:=hDb b o ho;obtain ⟨c',e',f',rfl⟩:=C.crew.rows j sj b o hSj ho;obtain ⟨_,h7⟩:=I.rel.laid b _ hb;rw [h6] at h7;rcases h7 with ⟨_,_,h8,_⟩ | ⟨h8,_⟩ | ⟨_,_,_,h8⟩ <;>cases h8
    · rcases hl with hl | ⟨rfl,_⟩
      · rcases I.who g l hl with h1 | h1 | h1
        · exact .inl h1
        · exact .inr (.inl h1)
        · refine .inr (.inr ?_);unfold fac;split
          · simp
          · exact h1
      · exact .inr (.inr (by simp [fac]))
 have hc2:w3.cell? ⟨n+2,0,none⟩=some (.chan (some (n+1))):=by
    have:w3.heap[n+2]? =some (.cells #[.chan (some (n+1))] 163):=by rw [hw3 _ fe,fh9,hn,f02 rfl]
    simp [World.cell?,this]
 have hc1:w3.cell? ⟨n,0,none⟩=some (.func fv f1 f2):=by
    have:w3.heap[n]? =some (.cells #[.func fv f1 f2] 116):=by rw [hw3 _ fe,fh9,hn,fx9 fe,fx9 fe,f02 rfl];rfl
    simp [World.cell?,this]
 have hHn:H n=none:=by
    cases e:H n with
    | none=>rfl
    | some o=>have:=hHlt n pb;omega
 rw [hok] at C3
 have hog3:=fu3 (main:=j==0) (H:=H3) (Shun:=Shun) (w:=w3) (n:=0) (ds:=ds) (c0:=c0) (k:=sj.c) (g:=g2) (cap:= #[.pointer (some ⟨n+2,0,none⟩),.pointer (some ⟨n,0,none⟩)]) ((hhome g2).1 hhome2)
    (Φ:=fun a w' k'=> ∃ (a2 a3:Act) (rest:List Nat),a=G (dB.at a3 [.inRegion dOps (2::rest)]) (wB.at a2 callK::c0)∧a2.defers=ds∧a2.tmps.getD 6 undef= .chan (some sj.c)∧a2.tmps.size=12∧fmo ⟨n+2,0,none⟩ (n+1) (.func fv f1 f2) rest a3∧(∃ d,w'=w3.at d)∧k'=0)
    (fun a2 e1 e2 e3=>og_do1 (c1:=⟨n,0,none⟩) (c2:=⟨n+2,0,none⟩) (dc:=n+1) hc2 hc1 (.inr hsh) (.inl (by show H3 n=none;rw [hat3,fx9 fe,fx9 fe,fx9 fe];exact hHn))
      (fun a3 rest hAt=> .now fun d=>⟨a2,a3,rest,rfl,e1,e2,e3,hAt,⟨d,rfl⟩,rfl⟩))
 refine (C3.og I3.prot hog3 hD2).trans fun gs4 w4 T4 hh4=> ?_;obtain ⟨_,q4,⟨a2,a3,rest,rfl,m1,m2,m3,hAt,⟨d4,rfl⟩,hD4⟩,hsz4,C4⟩:=hh4;have hsz5:gs4.size=gs.size:=by rw [hsz4,hsz2',hsz1]
 refine do_call (x1:= .func fv f1 f2) (rest:=rest) A ih hk haD L2 hx1' hAt.1 (by rw [hsz5];exact hlt) (I3.step (rel3.re w3.tape d4)) C4 hD4 ?_;rw [hsz5];exact do_back (n:=n) (kc:=kd+1) A hW hk (fx5.1 C.here).1 hj rfl hjh hSxj hSxh hxs hhome hF hFxk fe hFk hFd hFc hFD (fun b o e=>C.crew.rows j sj b o hSj e) (by have:=(C.crew.low j sj hSj).1;omega) hsh hd' h0' hsz' m1 m2 m3 hAt L hcont
def fw6:rg[90]? =some putV:=by rw [wy,Tryz.func90];rfl
def pv87:PV.funcs[87]? =some Tryz.f87:=rd 87 Tryz.f87 (zw Tryz.f87) Tryz.func87 fu fu rfl fd
def AtV (x0 q:Value) (a:Act):Prop:=a.tmps.getD 0 undef=x0∧a.tmps.getD 3 undef=q∧a.defers=[]∧16≤a.tmps.size
abbrev putCall:Code:= .seq (.region 1 zm false) putT
section
variable {Stop:Frame→List Frame→World→Prop} {g:Frame} {l:List Frame} {v:World} {args:Array Value} {kind:CallKind}
def v_put1 (A:VS Tryz.prog rg Stop) (x0 x1 x2 x3 x4 x5 x6 x7 x8 x9 x10 x11 x12 x13 x14 x15:Value) (tl:List Value):
    VX Stop (.seq chkR putB) putCall (fun a' v'=>(∃ d,v'=(reW v v.tape d).alloc (.cells x1.cells 110))∧AtV x0 (.pointer (some ⟨v.heap.size,0,none⟩)) a')
     { tmps:=(x0::x1::x2::x3::x4::x5::x6::x7::x8::x9::x10::x11::x12::x13::x14::x15::tl).toArray,defers:=[] } v:=by
 refine fg1 A (ue A (fml A rfl fun d h1=>fml A rfl fun d' h2=>vi A ⟨rfl,?_⟩));refine fg1 A (ue A (wi A rfl (fun _=>rfl) (r:= .ok (.value (.pointer (some ⟨v.heap.size,0,none⟩))) ((reW v v.tape d').alloc (.cells x1.cells 110))) rfl (vi A ⟨rfl,fr9 ⟨⟨d',rfl⟩,rfl,rfl,rfl,?_⟩⟩)));simp [Act.put,oper]
def v_put2 (A:VS Tryz.prog rg Stop) {a:Act} {x0 q x:Value} (hk:kind= .normal∨kind= .deferred) (ha:AtV x0 q a) (L:Lv Tryz.prog rg Stop (((tB kind).at a [.inRegion zm [0],.code putT]).finish x,g::l,v)):
    ∃ res v',PutTR x0 q x v v' res∧Ahead PV Stop (((tB kind).at a [.inRegion zm [0],.code putT]).finish x,g::l,v) (ur kind res g,l,v'):=by
 obtain ⟨h0,h3,hd,hsz⟩:=ha;have efin:((tB kind).at a [.inRegion zm [0],.code putT]).finish x=(tB kind).at (a.put (some 6) x) [.inRegion zm [],.code putT]:=by rw [f0i];rfl
 rw [efin] at L ⊢;obtain ⟨l1,e,L1,h1⟩:=cy A L fi f1o;obtain rfl:=fz2 e;obtain ⟨Ls,ds0,hlen,rfl⟩:=wb a hsz;rcases Ls with _ | ⟨x0,_ | ⟨x1,_ | ⟨x2,_ | ⟨x3,_ | ⟨x4,_ | ⟨x5,_ | ⟨x6,_ | ⟨x7,_ | ⟨x8,_ | ⟨x9,_ | ⟨x10,_ | ⟨x11,_ | ⟨x12,_ | ⟨x13,_ | ⟨x14,_ | ⟨x15,tl⟩⟩⟩⟩⟩⟩⟩⟩⟩⟩⟩⟩⟩⟩⟩⟩ <;>first | (simp at hlen;done) | skip
 have hd:ds0=[]:=hd;have h0:x0=_:=h0;have h3:x3=_:=h3;subst hd;subst h0;subst h3;have hv:=v_putT (v:=v) A x0 x1 x2 x3 x4 x5 x x7 x8 x9 x10 x11 x12 x13 x14 x15 tl;obtain ⟨e,a',v',fr',⟨rfl,hd',hR⟩,⟨todo,rfl⟩,h2⟩:=hv (tB kind) [] (g::l) fi L1;have L2:=vn A L1 h2;have h3:=fmu (fn:=putV) (x:=a'.tmps.getD 4 undef) A fw6 hk hd' (by rw [f0x rfl]) L2;exact ⟨_,v',hR,h1.desc (h2.desc h3.to_desc).to_desc⟩
end
def fuf : fmf Tryz.prog rg (· ∈specials) WsOk 90:=by
 intro Stop WS Shun Φ args kind g l v A hR hW ih Fx Sx H S Sl h X cs gs w T q hk hlt L I C hD hcont;have hk':kind≠ .early:=by rcases hk with rfl | rfl <;>simp
 have hent:Frame.enter (V Tryz.prog rg) 90 args kind=(tB kind).at { tmps:=args++Array.replicate (putV.ntmps-args.size) undef,defers:=[] } [.code (.seq chkR putB)]:=enter_at (P:=PV) fw6 rfl;obtain ⟨Ls,hlen,hL,hg⟩:=fa5 args putV.ntmps;rw [hL] at hent;have hlen:16≤Ls.length:=hlen;rcases Ls with _ | ⟨x0,_ | ⟨x1,_ | ⟨x2,_ | ⟨x3,_ | ⟨x4,_ | ⟨x5,_ | ⟨x6,_ | ⟨x7,_ | ⟨x8,_ | ⟨x9,_ | ⟨x10,_ | ⟨x11,_ | ⟨x12,_ | ⟨x13,_ | ⟨x14,_ | ⟨x15,tl⟩⟩⟩⟩⟩⟩⟩⟩⟩⟩⟩⟩⟩⟩⟩⟩ <;>first | (simp at hlen;done) | skip
 have hx0:args.getD 0 undef=x0:=(hg 0).symm;have hx1:args.getD 1 undef=x1:=(hg 1).symm;rw [hent] at L hcont ih;obtain ⟨a',v1,⟨⟨d,rfl⟩,hat'⟩,hdesc⟩:=v_put1 (v:=v) A x0 x1 x2 x3 x4 x5 x6 x7 x8 x9 x10 x11 x12 x13 x14 x15 tl (tB kind) [] (g::l) fi L;generalize hfr0:(tB kind).at { tmps:=(x0::x1::x2::x3::x4::x5::x6::x7::x8::x9::x10::x11::x12::x13::x14::x15::tl).toArray,defers:=[] } [.code (.seq chkR putB)]=fr0 at*;have Ld:=fkx A hdesc L;obtain ⟨l1,e1,L1,ha1⟩:=cy A Ld fi f4d;obtain rfl:=fz2 e1;obtain ⟨l2,e2,L2,ha2⟩:=cy A L1 fi f2o;obtain rfl:=fz2 e2;have L2:Lv Tryz.prog rg Stop ((tB kind).at a' [.inRegion zm [0],.code putT],g::l,(reW v v.tape d).alloc (.cells x1.cells 110)):=L2;have hx0':a'.eval (.tmp 0)=x0:=hat'.1;have hcall:=fjl (P:=PV) (ρ:=a'.eval) (o:=zm[0]) (y:= .tmp 0) (ts:= #[87]) rfl pv87 fd fd rfl ((reW v v.tape d).alloc (.cells x1.cells 110));rw [hx0'] at hcall;have hstE:=stepG_enter (P:=PV) (main:=true) (b:=tB kind) (a:=a') (k:=[.code putT]) (cs:=(g::l)++[botF]) (ops:=zm) (i:=0) (rest:=[]) (o:=zm[0]) (w:=(reW v v.tape d).alloc (.cells x1.cells 110)) rfl rfl hk' (by rw [← f0d _ _ _ #[],hcall]);obtain ⟨l3,e3,L3,ha3⟩:=cy (fr:=(tB kind).at a' [.inRegion zm [0],.code putT]) A L2 fi hstE;rw [show (tB kind).at a' [.inRegion zm [0],.code putT]::(g::l++[botF])=((tB kind).at a' [.inRegion zm [0],.code putT]::g::l)++[botF] from rfl] at e3;obtain rfl:=fz2 e3
 have haD:Ahead PV Stop (fr0,g::l,v) (Frame.enter PV 87 #[x0] .normal,(tB kind).at a' [.inRegion zm [0],.code putT]::g::l,(reW v v.tape d).alloc (.cells x1.cells 110)):=
    hdesc.ahead (ha1.desc (ha2.desc ha3.to_desc).to_desc)
 have relu:Rel H (reW v v.tape d) w:=I.rel.re' v.tape d
 have hog:=og_pt1 (main:=h==0) (H:=H) (Shun:=Shun) (w:=w) (v:=reW v v.tape d) (n:=0) (X:=X) (cs:=cs) hk relu hx0 hx1
    (Φ:=fun aa w' k'=>(∃ a3,aa=G (Frame.enter Tryz.prog 87 #[x0] .normal) ((tB kind).at a3 [.inRegion ptR1 [1],.code fee,.code ip]::X::cs)∧fmv x0 (.pointer (some ⟨v.heap.size,0,none⟩)) a3)∧Rel H ((reW v v.tape d).alloc (.cells x1.cells 110)) w'∧k'=0)
    (fun a3 w1 rel1 hat=> .now fun d=>⟨⟨a3,rfl,hat⟩,rel1.re _ _,rfl⟩)
 refine (C.og I.prot hog hD).trans fun gs1 w1 T1 hh1=> ?_;obtain ⟨_,q1,⟨⟨a3,rfl,hat3⟩,rel1,hD1⟩,hsz1,C1⟩:=hh1;have I1:Inv WS Fx Sx H S Sl Shun ((reW v v.tape d).alloc (.cells x1.cells 110)) w1:=I.step rel1;rcases feg 87 fu with ⟨hsame,hnc⟩ | hdead
 · have henter:Frame.enter Tryz.prog 87 #[x0] .normal=Frame.enter PV 87 #[x0] .normal:=by
    show Frame.enter Tryz.prog 87 #[x0] .normal=Frame.enter (V Tryz.prog rg) 87 #[x0] .normal;unfold Frame.enter;rw [hsame]
   have C3:Hold Tryz.prog Sl Shun u5 S h (G (Frame.enter PV 87 #[x0] .normal) (tq [] (X::cs) (some ((tB kind).at a' [.inRegion zm [0],.code putT],g::l,(tB kind).at a3 [.inRegion ptR1 [1],.code fee,.code ip])))) T1 gs1 w1 q1:=by
    rw [← henter];exact C1
   have oke:FrOk Tryz.prog rg (Frame.enter PV 87 #[x0] .normal):=by
    rw [← henter];exact t9 A.code hsame _ (.inl rfl) fun _=>hnc
   refine (ih _ haD).1 Fx Sx H S Sl h [] _ (X::cs) gs1 w1 T1 q1 rfl oke fi (fun y hy=>by simp at hy;subst hy;rfl) pw L3 I1 C3 hD1 ?_;rw [hsz1];intro x v' w' H' S' St' gs' T' q' ha I' hsz C' hD';have haf:=haD.desc (ha:Ahead _ _ _ _).to_desc;obtain ⟨res,v2,hput,ha2⟩:=v_put2 A hk hat' (vn A L3 ha);have hafin:=haf.desc ha2.to_desc;rcases hput with ⟨rfl,rfl,rfl⟩ | ⟨rfl,rfl,p,rfl,k,cap,buf,s,r,f,hch,hkk,hcap,hroom,hf,rfl⟩
   · have hog2:=og_pt2 (main:=h==0) (H:=H') (Shun:=Shun) (w:=w') (n:=0) (X:=X) (cs:=cs) hk hat3 (Φ:=fun a w1 k1=>a=G (ur kind (.bool false) X) cs∧(∃ d,w1=w'.at d)∧k1=0) (.now fun d=>⟨rfl,⟨d,rfl⟩,rfl⟩);refine (C'.og I'.prot hog2 hD').trans fun gs2 w2 T2 hh2=> ?_;obtain ⟨_,q2,⟨rfl,⟨d2,rfl⟩,hD2⟩,hsz2,C2⟩:=hh2;exact hcont _ _ _ _ _ _ _ _ _ hafin (I'.step (I'.rel.re _ _)) (hsz2.trans hsz) C2 hD2
   · have hog2:=og_pt3 (main:=h==0) (H:=H') (Shun:=Shun) (w:=w') (v:=v') (n:=0) (X:=X) (cs:=cs) hk I'.rel hat3 hch hf
        (Φ:=fun aa w1 k1=>(∃ a4,aa=G ((tB kind).at a4 [.inRegion fef [0,1,2],.code fjm]) (X::cs)∧fre k f a4)∧Rel H' v' w1∧k1=0) (fun a4 w4 rel4 hat4=> .now fun d=>⟨⟨a4,rfl,hat4⟩,rel4.re _ _,rfl⟩)
     refine (C'.og I'.prot hog2 hD').trans fun gs2 w2 T2 hh2=> ?_;obtain ⟨_,q2,⟨⟨a4,rfl,hat4⟩,rel2,hD2⟩,hsz2,C2⟩:=hh2;have hHk:=fh8 rel2 hkk hcap;have hc:w2.heap[k]? =some (.chan cap buf false s r false):=by rw [← rel2.same _ hHk];exact hkk
     have hst: ∀ d,stepG Tryz.prog (h==0) (G ((tB kind).at a4 [.inRegion fef [0,1,2],.code fjm]) (X::cs)) (w2.at d)= .comm (G ((tB kind).at a4 [.inRegion fef [0,1,2],.code fjm]) (X::cs)) #[scase k f (.agg zero110)] false .select (w2.at d) #[]:=fun d=>by
        have hr:=flj (P:=Tryz.prog) (ρ:=a4.eval) (o:=fef[0]) (e:=110) (y:= .tmp 10) (x:= .tmp 11) (w:=w2.at d) rfl (Tryz.zero110 _);rw [hat4.1,hat4.2.1] at hr;rw [stepG_comm (o:=fef[0]) rfl rfl hk' qa,listed_none pu];rfl
     refine (C2.send_room rfl hD2 hst hc hroom (fun i s hs=>⟨fun e=>(I'.prot.seats i s hs).1 (by rw [e];exact hHk),?_⟩)).trans fun gs3 w3 T3 hh3=> ?_
     · cases e:s.D k with
       | none=>rfl
       | some o=>exact absurd hHk ((I'.prot.seats i s hs).2 k o e)
     obtain ⟨q3,d3,rfl,hsz3,hD3,C3⟩:=hh3;rw [pt_comm,flk] at C3
     have rel3:Rel H' (v'.setChan k cap (buf.push f) false (s+1) r false) ((w2.at d3).setChan k cap (buf.push f) false (s+1) r false):=
        (rel2.re w2.tape d3).setBlock hHk rfl fun _=>by
          simp [sg];omega
     generalize (w2.at d3).setChan k cap (buf.push f) false (s+1) r false=w3 at C3 rel3 ⊢;have hog4:=og_pt4 (main:=h==0) (H:=H') (Shun:=Shun) (w:=w3) (n:=0) (X:=X) (cs:=cs) (bb:= .bool false) hk hat4 (Φ:=fun a w1 k1=>a=G (ur kind (.bool true) X) cs∧(∃ d,w1=w3.at d)∧k1=0) (.now fun d=>⟨rfl,⟨d,rfl⟩,rfl⟩);refine (C3.og I'.prot hog4 hD3).trans fun gs4 w4 T4 hh4=> ?_;obtain ⟨_,q4,⟨rfl,⟨d4,rfl⟩,hD4⟩,hsz4,C4⟩:=hh4;exact hcont _ _ _ _ _ _ _ _ _ hafin (I'.step (rel3.re _ _)) (by rw [hsz4,hsz3,hsz2,hsz]) C4 hD4
 · exfalso;obtain ⟨c',cs',hcs'⟩:=fc9 ((tB kind).at a' [.inRegion zm [0],.code putT]::g::l);obtain ⟨o,u,es',he⟩:=hdead #[x0] .normal ((reW v v.tape d).alloc (.cells x1.cells 110)) true c' cs';exact mc A L3 fi ⟨o,u,es',by rw [hcs'];exact he⟩
attribute [local go_sem] xz
def Tryz.room102:(Tryz.prog.info? 102).map (fun i=>decide (i.size=0))=some false:=by kernel_rfl
def fmw {w:World} {p:Addr} {x:Value} (hc:w.cell? p=some x) (hl:fo9 w p):(convert 132 99 (.pointer (some p))).runT Tryz.prog w #[]=(.ok (.pointer (some p)) w,#[]):=by
 obtain ⟨e,n,hsh,hb⟩:=hl
 have hva:(variablesAt p 102 1).run Tryz.prog w= .ok true w:=by
    have:(Go.shape p.block:Sem _).run Tryz.prog w= .ok (some (e,n)) w:=by simp [Go.shape,Sem.run,hsh]
    show ((Go.program >>= fun p'=>Go.shape p.block >>= fun s=>(match s with
     | some (e,cells)=>Pure.pure (liesAt p' p'.depth e (cells / p'.cellsOf e) p.off 102 1)
     | none=>Pure.pure false):Sem Bool)).run Tryz.prog w=_
    simp [Go.program,fz9,this,Result.andThen,Sem.run,Pure.pure,hb]
 have hvae: ∀ es,(variablesAt p 102 1).events Tryz.prog w es=es:=fun es=>by
    show Sem.events Tryz.prog (match w.shape? p.block with
     | some (e,cells)=>Pure.pure (liesAt Tryz.prog Tryz.prog.depth e (cells / Tryz.prog.cellsOf e) p.off 102 1)
     | none=>Pure.pure false:Sem Bool) w es=es
    rw [hsh];rfl
 have hsa:(Conv.seenAt p).run Tryz.prog w= .ok p w:=by
    have:(Go.shape p.block:Sem _).run Tryz.prog w= .ok (some (e,n)) w:=by simp [Go.shape,Sem.run,hsh]
    simp [Conv.seenAt,viewAt,fz9,this,Result.andThen,Pure.pure,Sem.run]
 have hsae: ∀ es,(Conv.seenAt p).events Tryz.prog w es=es:=fun es=>by
    have:(Go.shape p.block:Sem _).run Tryz.prog w= .ok (some (e,n)) w:=by simp [Go.shape,Sem.run,hsh]
    simp [go_sem,Conv.seenAt,viewAt,this]
 have hsz:=Tryz.sizeOf102 w;refine f2v ?_ ?_
 · rw [f0d];simp [convert,Conv.unsafePointer,fz9,f0u Tryz.underlying132,f0u Tryz.underlying99,Result.andThen,hsa,hsz,hva,Pure.pure,Sem.run]
 · show Sem.events Tryz.prog _ w #[]= #[];simp [go_sem,convert,Conv.unsafePointer,f0u Tryz.underlying132,f0u Tryz.underlying99,hsa,hsae,hsz,hva,hvae]
section
variable {main:Bool} {H:Hide} {Shun:Loc→Prop} {Φ:Goroutine→World→Nat→Prop} {w:World} {n:Nat} {c:Frame} {cs:List Frame}
def og_cc {p:Addr} {args:Array Value} {kind:CallKind} (hk:kind= .normal∨kind= .deferred) (hp:args.getD 0 undef= .pointer (some p)) (hH:H p.block=none) (hc:w.cell? p=some (.pointer none)) (hz:w.frozen? p=false) (hl:fo9 w p)
    (h:OG Tryz.prog main H Shun Φ (G (ur kind (.tuple #[]) c) cs) (w.setCell p (.pointer (some p))) n):OG Tryz.prog main H Shun Φ (G (Frame.enter Tryz.prog 75 args kind) (c::cs)) w n:=by
 have hk':kind≠ .early:=by rcases hk with rfl | rfl <;>simp
 have hlt:p.block<w.heap.size:=zq hc;rw [enter_at Tryz.func75 rfl];obtain ⟨L,hlen,hL,h0⟩:=fa5 args Tryz.f75.ntmps;rw [hL];have hlen:20≤L.length:=hlen;rcases L with _ | ⟨x0,_ | ⟨x1,_ | ⟨x2,_ | ⟨x3,_ | ⟨x4,_ | ⟨x5,_ | ⟨x6,_ | ⟨x7,_ | ⟨x8,_ | ⟨x9,_ | ⟨x10,_ | ⟨x11,_ | ⟨x12,_ | ⟨x13,tl⟩⟩⟩⟩⟩⟩⟩⟩⟩⟩⟩⟩⟩⟩ <;>first | (simp at hlen;done) | skip
 have hx0:=(h0 0).trans hp;simp only [f1y] at hx0;subst hx0;have hcd: ∀ d,(w.at d).cell? p=some (.pointer none):=fun d=>hc;have hzd: ∀ d,(w.at d).frozen? p=false:=fun d=>hz;refine uv (rm ?_);refine ov (.pointer (some p)) w ?_;refine ov (.pointer (some p)) w ?_;refine ov (.pointer (some p)) w ?_;refine qz (x:= .pointer none) (w1:=w) rfl rfl hk' (fun d=>by have:=hcd d;go_simp) (fx8 _) (fun _ _=>rfl) (fun d e he=>by simp [go_sem,hcd] at he;subst he;exact ⟨xh hH hlt _ _,by simp [vl]⟩) ?_;refine ov (.bool true) w ?_;walk_nrm;refine u7 (xl (t:=true) rfl (rm ?_));refine ov (.pointer (some p)) w ?_;refine ov (.pointer (some p)) w ?_;have hcv:=fun d=>f3v (P:=Tryz.prog) (src:=99) (dst:=132) (w:=w.at d) Tryz.underlying99 Tryz.underlying132 Tryz.room102 hc;have hce:=fun d es=>f4u (P:=Tryz.prog) (src:=99) (dst:=132) (w:=w.at d) Tryz.underlying99 Tryz.underlying132 Tryz.room102 hc es;refine qz (x:= .pointer (some p)) (w1:=w) rfl rfl hk' (fun d=>by have:=hcv d;go_simp) (fx8 _) (fun _ _=>rfl) (fun d e he=>by simp [go_sem,hcv,hce] at he) ?_;walk_nrm;refine ll (w1:=w) (es:= #[]) rfl (fun d=>stepG_entry (v:= .pointer (some p)) (evs:= #[]) rfl rfl hk' rfl Tryz.func104 fd fd fd (e:=Extern.AbiNoEscape.same) fd jz jz fi) ⟨fx8 _,fun _ _=>rfl,by simp⟩ ?_;have hb: ∀ d,(convert 132 99 (.pointer (some p))).run Tryz.prog (w.at d)= .ok (.pointer (some p)) (w.at d):=fun d=>by rw [← f0d _ _ _ #[],fmw (w:=w.at d) hc hl]
 have hbe: ∀ d,(convert 132 99 (.pointer (some p))).events Tryz.prog (w.at d) #[]= #[]:=fun d=>by show (Sem.runT _ _ _ _).2=_;rw [fmw (w:=w.at d) hc hl]
 refine qz (x:= .pointer (some p)) (w1:=w) rfl rfl hk' (fun d=>by have:=hb d;go_simp) (fx8 _) (fun _ _=>rfl) (fun d e he=>by simp [go_sem,hb,hbe] at he) ?_;walk_nrm;refine ov (.pointer (some p)) w ?_;refine ov (.pointer (some p)) w ?_;walk_nrm;obtain ⟨s1,s2⟩:=ai (w:=w) hH (.pointer (some p))
 refine fl5 (w1:=w.setCell p (.pointer (some p))) rfl rfl hk' (fun d=>by have:=hzd d;have:=hcd d;clear h;go_simp;rfl) s1 s2 (fun d e he=>by
    simp [go_sem,hzd,hcd] at he;rw [events_store Tryz.prog (w.at d) #[] p (.pointer (some p)) .plain rfl] at he;simp [storedEv,hzd,hcd] at he;subst he;exact ⟨xh hH jy _ _,by simp [vl]⟩) ?_
 walk_nrm;refine u7 (fiu (ze hk rfl Tryz.func75 (f2z rfl _) ?_));exact h
def feh (p:Addr) (w:World):(binOp .neq 99 (.pointer (some p)) (.pointer (some p))).runT Tryz.prog w #[]=(.ok (.bool false) w,#[]):=by
 have hu: ∀ w,(underlying 99).run Tryz.prog w= .ok (.pointer 102) w:=Tryz.runUnderlying99;have hform:binOp .neq 99 (.pointer (some p)) (.pointer (some p))=(Op.equal 99 (.pointer (some p)) (.pointer (some p)) >>= fun b=>Pure.pure (.bool (!b)):Sem Value):=rfl;have heq:Op.equal 99 (.pointer (some p)) (.pointer (some p))=Op.equalIn (9999+1) 99 (.pointer (some p)) (.pointer (some p)):=by simp only [Op.equal,Op.maxDepth]
 have hin: ∀ D,(Op.equalIn (D+1) 99 (.pointer (some p)) (.pointer (some p))).run Tryz.prog w= .ok true w:=fun D=>by
    simp [Op.equalIn,fz9,hu,Result.andThen,samePointer,sameAddr,Pure.pure,Sem.run]
 have hine: ∀ D,(Op.equalIn (D+1) 99 (.pointer (some p)) (.pointer (some p))).events Tryz.prog w #[]= #[]:=fun D=>by
    simp [go_sem,Op.equalIn,hu,samePointer,sameAddr]
 have h1:=hin 9999;have h2:=hine 9999;rw [hform,heq];generalize 9999=D at h1 h2 ⊢;refine f2v ?_ ?_
 · rw [f0d];exact (qw h1).trans rfl
 · show Sem.events Tryz.prog _ w #[]= #[];simp [go_sem,h1,h2]
def og_cc2 {p:Addr} {args:Array Value} {kind:CallKind} (hk:kind= .normal∨kind= .deferred) (hp:args.getD 0 undef= .pointer (some p)) (hH:H p.block=none) (hc:w.cell? p=some (.pointer (some p)))
    (h:OG Tryz.prog main H Shun Φ (G (ur kind (.tuple #[]) c) cs) w n):OG Tryz.prog main H Shun Φ (G (Frame.enter Tryz.prog 75 args kind) (c::cs)) w n:=by
 have hk':kind≠ .early:=by rcases hk with rfl | rfl <;>simp
 have hlt:p.block<w.heap.size:=zq hc;rw [enter_at Tryz.func75 rfl];obtain ⟨L,hlen,hL,h0⟩:=fa5 args Tryz.f75.ntmps;rw [hL];have hlen:20≤L.length:=hlen;rcases L with _ | ⟨x0,_ | ⟨x1,_ | ⟨x2,_ | ⟨x3,_ | ⟨x4,_ | ⟨x5,_ | ⟨x6,_ | ⟨x7,_ | ⟨x8,_ | ⟨x9,_ | ⟨x10,_ | ⟨x11,_ | ⟨x12,_ | ⟨x13,_ | ⟨x14,_ | ⟨x15,_ | ⟨x16,_ | ⟨x17,_ | ⟨x18,_ | ⟨x19,tl⟩⟩⟩⟩⟩⟩⟩⟩⟩⟩⟩⟩⟩⟩⟩⟩⟩⟩⟩⟩ <;>first | (simp at hlen;done) | skip
 have hx0:=(h0 0).trans hp;simp only [f1y] at hx0;subst hx0;have hcd: ∀ d,(w.at d).cell? p=some (.pointer (some p)):=fun d=>hc;refine uv (rm ?_);refine ov (.pointer (some p)) w ?_;refine ov (.pointer (some p)) w ?_;refine ov (.pointer (some p)) w ?_;refine qz (x:= .pointer (some p)) (w1:=w) rfl rfl hk' (fun d=>by have:=hcd d;go_simp) (fx8 _) (fun _ _=>rfl) (fun d e he=>by simp [go_sem,hcd] at he;subst he;exact ⟨xh hH hlt _ _,by simp [vl]⟩) ?_;refine ov (.bool false) w ?_;walk_nrm;refine u7 (xl (t:=false) rfl (uv (rm ?_)));refine ov (.pointer (some p)) w ?_;refine ov (.pointer (some p)) w ?_;refine ov (.pointer (some p)) w ?_;refine qz (x:= .pointer (some p)) (w1:=w) rfl rfl hk' (fun d=>by have:=hcd d;go_simp) (fx8 _) (fun _ _=>rfl) (fun d e he=>by simp [go_sem,hcd] at he;subst he;exact ⟨xh hH hlt _ _,by simp [vl]⟩) ?_;refine ov (.pointer (some p)) w ?_;walk_nrm;have hq: ∀ d,(binOp .neq 99 (.pointer (some p)) (.pointer (some p))).run Tryz.prog (w.at d)= .ok (.bool false) (w.at d):=fun d=>by rw [← f0d _ _ _ #[],feh]
 have hqe: ∀ d,(binOp .neq 99 (.pointer (some p)) (.pointer (some p))).events Tryz.prog (w.at d) #[]= #[]:=fun d=>by show (Sem.runT _ _ _ _).2=_;rw [feh]
 refine qz (x:= .bool false) (w1:=w) rfl rfl hk' (fun d=>by have:=hq d;go_simp) (fx8 _) (fun _ _=>rfl) (fun d e he=>by simp [go_sem,hq,hqe] at he) ?_;walk_nrm;refine u7 (xl (t:=false) rfl (oa (fiu (ze hk rfl Tryz.func75 (f2z rfl _) ?_))));exact h
end
def virt75:rg[75]? =some ccV:=by rw [wy,Tryz.func75];rfl
section
variable {Stop:Frame→List Frame→World→Prop} {g:Frame} {l:List Frame} {v:World} {args:Array Value} {kind:CallKind}
def v_cc (A:VS Tryz.prog rg Stop) (hR: ∀ fr l v t d,Stop fr l v→Stop fr l (reW v t d)) (L:Lv Tryz.prog rg Stop (Frame.enter PV 75 args kind,g::l,v)):
    ∃ d v',CcR (args.getD 0 undef) (reW v v.tape d) v'∧Ahead PV Stop (Frame.enter PV 75 args kind,g::l,v) (ur kind (.tuple #[]) g,l,v'):=by
 obtain ⟨x,v',⟨rfl,d,hR⟩,ha⟩:=fgw (R:=fun x v'=>x= .tuple #[]∧ ∃ d,CcR (args.getD 0 undef) (reW v v.tape d) v') A virt75 rfl L (by
    obtain ⟨Ls,hlen,hL,h0⟩:=fa5 args 5;show VW Tryz.prog rg Stop (.seq chkR ccB) _ { tmps:=args++Array.replicate (5-args.size) undef,defers:=[] } v;rw [hL];rcases Ls with _ | ⟨x0,_ | ⟨x1,_ | ⟨x2,_ | ⟨x3,_ | ⟨x4,tl⟩⟩⟩⟩⟩ <;>first | (simp at hlen;done) | skip
    refine fmm A fun d hv=> ?_;have h:=v_ccB A hR x0 x1 x2 x3 x4 tl (v:=reW v v.tape d) (fun p hp=>hv p hp);intro b k l hl L;obtain ⟨e,a',v',fr',⟨rfl,hd,hR⟩,harr,ha⟩:=h b k l hl L;refine ⟨_,a',v',fr',⟨.inr rfl,hd,.tuple #[],f2g rfl _ _ _,rfl,d,?_⟩,harr,ha⟩;rw [mh h0 rfl];exact hR)
 exact ⟨d,v',hR,ha⟩
end
def spec_cc:SpecOk Tryz.prog rg 75:=by
 intro Stop WS Shun Φ args kind g l v A hR Fx Sx H S St h X cs gs w T q hk hlt L I C hD hcont;obtain ⟨d,v',⟨p,hp,hcase⟩,ha⟩:=v_cc A hR L;rcases hcase with ⟨hc,hz,hl,rfl⟩ | ⟨hc,t,d2,rfl⟩
 · have hc:v.cell? p=some (.pointer none):=hc;have hz:v.frozen? p=false:=hz;have hl:fo9 v p:=hl;have hH:=I.rel.hidden_cell hc;have hcw:=I.rel.cell hc;have hzw:=(I.rel.frozen hH).trans hz;have hlw:fo9 w p:=by
    obtain ⟨e,n,h1,h2⟩:=hl;refine ⟨e,n,?_,h2⟩;rw [← h1];unfold World.shape?;rw [I.rel.same _ hH]
   have hog:=og_cc (main:=h==0) (H:=H) (Shun:=Shun) (w:=w) (n:=0) (c:=X) (cs:=cs) (Φ:=fun a w' k=>a=G (ur kind (.tuple #[]) X) cs∧(∃ d,w'=(w.setCell p (.pointer (some p))).at d)∧k=0) hk hp hH hcw hzw hlw (.now fun d=>⟨rfl,⟨d,rfl⟩,rfl⟩);refine (C.og I.prot hog hD).trans fun gs' w' T' hh=> ?_;obtain ⟨a',q',⟨rfl,⟨d',rfl⟩,hD'⟩,hsz,C'⟩:=hh;have rel':Rel H ((reW v v.tape d).setCell p (.pointer (some p))) ((w.setCell p (.pointer (some p))).at d'):=(((I.rel.re' v.tape d).setCell hH _).re _ _);exact hcont _ _ _ _ _ _ _ _ _ ha (I.step rel') hsz C' hD'
 · have hc:v.cell? p=some (.pointer (some p)):=hc;have hH:=I.rel.hidden_cell hc;have hcw:=I.rel.cell hc;have hog:=og_cc2 (main:=h==0) (H:=H) (Shun:=Shun) (w:=w) (n:=0) (c:=X) (cs:=cs) (Φ:=fun a w' k=>a=G (ur kind (.tuple #[]) X) cs∧(∃ d,w'=w.at d)∧k=0) hk hp hH hcw (.now fun d=>⟨rfl,⟨d,rfl⟩,rfl⟩);refine (C.og I.prot hog hD).trans fun gs' w' T' hh=> ?_;obtain ⟨a',q',⟨rfl,⟨d',rfl⟩,hD'⟩,hsz,C'⟩:=hh;have rel':Rel H (reW (reW v v.tape d) t d2) (w.at d'):=(((I.rel.re' v.tape d).re' t d2).re _ _);exact hcont _ _ _ _ _ _ _ _ _ ha (I.step rel') hsz C' hD'
end Go.Proofs.YtelecjnabeokeaaGreatDoor
namespace Go.Proofs.YtelecjnabeokeaaGreatDoor
open Go Go.Conc Go.RowKit
def lp:LP Tryz.prog rg (· ∈specials) WsOk where
 fok:=md
 nc:=virt_nc
 same:=feg
 spec:=fun f hf=>by
    simp only [specials,fy3,fz8,f0z] at hf;rcases hf with rfl | rfl | rfl | rfl | rfl | rfl
    · exact spec_do
    · exact spec_lock.ofDo _ _
    · exact spec_unlock.ofDo _ _
    · exact spec_cc.ofDo _ _
    · exact fuf
    · exact spec_peek.ofDo _ _
def vs {Stop:Frame→List Frame→World→Prop} (h1: ∀ fr l v,Stop fr l v→l=[]) (h2: ∀ fr l v,Stop fr l v→ ¬ PanS (fr::l)):VS Tryz.prog rg Stop:=⟨fqo,fqm,h1,h2⟩
open Go.Conc.Lib
def MarkAt (v:World) (c:Nat):Prop:= ∃ x s r,v.heap[c]? =some (.chan 1 #[x] false s r true)
structure SesV (b sb ab n cp c0:Nat) (kb ch:Nat→Nat) (v:World):Prop where
 ses: ∃ c e,v.heap[b]? =some (.cells c e (0,0))∧c.size=8∧c[0]? =some (.int .i32 0)∧c[2]? =some (.slice (some ⟨ab,0,none⟩) n cp)∧c[3]? =some (.pointer (some ⟨sb,0,none⟩))∧c[5]? =some (.bool false)∧c[6]? =some (.int .u64 ((n+1:Nat)*K32))∧c[7]? =some (.int .u32 0)
 srv:v.cell? ⟨sb,5,none⟩=some (.chan (some c0))
 cl: ∀ i,i<n→v.cell? ⟨ab,i,none⟩=some (.pointer (some ⟨kb i,0,none⟩))∧v.cell? ⟨kb i,10,none⟩=some (.chan (some (ch i)))
 apart:sb≠b∧ab≠b∧ ∀ i,i<n→kb i≠b
 small:n<1000
 one:1≤n
 m0:MarkAt v c0
 ms: ∀ i,i<n→MarkAt v (ch i)
 ne: ∀ i,i<n→ch i≠c0
structure SesW (b j0 n c0:Nat) (ch:Nat→Nat) (WS:Nat→Option SeatD) (N:Nat):Prop where
 pos:1≤j0
 fits:j0+(n+1)≤N
 srv: ∃ s,WS j0=some s∧s.c=c0
 cl: ∀ i,i<n→ ∃ s,WS (j0+1+i)=some s∧s.c=ch i
 no: ∀ k,WS k≠none→j0≤k∧k<j0+(n+1)
 home: ∀ j s,WS j=some s→s.ok=true∧s.z= .nilFunc∧ ∀ g,s.home g↔fbr [dcall 79 #[.pointer (some (stC b))]] [fau] s.c g
 inj: ∀ i j s s',WS i=some s→WS j=some s'→s.c=s'.c→i=j
def SesW.ok {b j0 n c0:Nat} {ch:Nat→Nat} {WS:Nat→Option SeatD} {N:Nat} {Shun:Loc→Prop} (W:SesW b j0 n c0 ch WS N):WsOk WS Shun:=
 ⟨fun j s h=>⟨(W.home j s h).1,(W.home j s h).2.1,_,_,by simp,(W.home j s h).2.2⟩,W.inj⟩
structure fll (C:Nat→Prop) (v v':World):Prop where
 size:v'.heap.size=v.heap.size
 same: ∀ x,¬ C x→v'.heap[x]? =v.heap[x]?
 os:v'.os=v.os
 output:v'.output=v.output
abbrev vb:Nat→Option SeatD:=fun _=>none
def fug (Fx:Nat→Option (Obj×Option Obj)):Prop:= ∀ b x,Fx b=some x→ ∀ cap buf cl s q tm,x.1≠ .chan cap buf cl s q tm
section
variable {b sb ab n cp c0 j0:Nat} {kb ch:Nat→Nat} {WS:Nat→Option SeatD} {H:Hide} {Shun:Loc→Prop} {St:Nat→Loc→Prop} {S:Nat→Option SeatD} {v w:World} {X:Frame} {cs:List Frame} {gs:Array Goroutine} {q:Nat→Nat} {T:Trace}
 {Φ:Array Goroutine→World→Trace→Prop} {Fx:Nat→Option (Obj×Option Obj)}
def fei {c:Nat} (I:Inv WS Fx vb H S St Shun v w) (hm:MarkAt v c): ∃ o,H c=some o:=by
 obtain ⟨x,s,r,h⟩:=hm;cases e:H c with
 | some o=>exact ⟨o,rfl⟩
 | none=>
   have:=I.rel.chans I.on c _ e h;simp [sg] at this
def fjp {c:Nat} (I:Inv WS Fx vb H S St Shun v w) (hm:MarkAt v c): ∃ j s,WS j=some s∧s.c=c∧S j=some s:=by
 obtain ⟨o,ho⟩:=fei I hm;obtain ⟨x,s,r,h⟩:=hm;obtain ⟨h1,_⟩:=I.rel.laid c o ho;rw [h] at h1;obtain rfl:=fy7 h1;obtain ⟨_,j,s,h1,h2,h3,_⟩:=I.marks c _ _ _ _ _ ho fi;exact ⟨j,s,h1,h2,h3⟩
def frg (W:SesW b j0 n c0 ch WS gs.size) (V:SesV b sb ab n cp c0 kb ch v) (I:Inv WS Fx vb H S St Shun v w):fw3 b j0 n c0 ch S gs.size:=by
 have hSW: ∀ j s,S j=some s→WS j=some s:=fun j s h=>(I.only j s h).resolve_right fi;refine ⟨W.pos,W.fits,?_,fun i hi=> ?_,fun k hk=> ?_,fun j s h=> ?_⟩
 · obtain ⟨s,h1,h2⟩:=W.srv;obtain ⟨j,s',h3,h4,h5⟩:=fjp I V.m0;have:=W.inj _ _ _ _ h3 h1 (h4.trans h2.symm);subst this;exact ⟨s',h5,h4⟩
 · obtain ⟨s,h1,h2⟩:=W.cl i hi;obtain ⟨j,s',h3,h4,h5⟩:=fjp I (V.ms i hi);have:=W.inj _ _ _ _ h3 h1 (h4.trans h2.symm);subst this;exact ⟨s',h5,h4⟩
 · cases e:S k with
   | none=>exact absurd e hk
   | some s=>exact W.no k (by rw [hSW k s e];simp)
 · obtain ⟨h1,h2,h3⟩:=W.home j s (hSW j s h);exact ⟨h1,h2,fun g hg=>(h3 g).1 hg⟩
open Classical in
noncomputable def ci (b:Nat) (e:TypeId) (C:Nat→Prop) (v:World):World:={ v with heap:=v.heap.mapIdx fun i o=>if i=b then .cells #[] e (0,0) else if C i then hidO else o }
open Classical in
noncomputable def xy (b:Nat) (e:TypeId) (C:Nat→Prop) (H:Hide) (w:World):Hide:=⟨fun i=>if i=b then some (.cells #[] e (0,0)) else if C i then some hidO else H i,fun i=>w.heap[i]?,H.on⟩
open Classical in
def flm {e:TypeId} {C:Nat→Prop} {w':World} (rel:Rel H v w) (hb: ∃ c,w'.heap[b]? =some (.cells c e (0,0))) (hC: ∀ x,C x→ ∃ k,w'.heap[x]? =some (.chan 0 #[] true k k false)) (hsame: ∀ x,x≠b→ ¬ C x→w'.heap[x]? =w.heap[x]?)
    (hsz:w'.heap.size=w.heap.size) (hos:w'.os=w.os) (hou:w'.output=w.output):Rel (xy b e C H w') (ci b e C v) w':=by
 have hlt: ∀ {x:Nat} {o:Obj},w'.heap[x]? =some o→x<v.heap.size:=fun h=>by
    rw [rel.size,← hsz];exact (fx5.1 h).1
 have hv: ∀ x,(ci b e C v).heap[x]? =(v.heap[x]?).map fun o=>if x=b then Obj.cells #[] e (0,0) else if C x then hidO else o:=fun x=>by simp [ci,f4x]
 refine ⟨by simp [ci,rel.size,hsz],fun x hx=> ?_,fun x o hx=> ?_,by rw [hos];exact rel.os,by rw [hou];exact rel.output,fun x o hx=> ?_,fun x o hx=>rfl,fun hon x o hx ho=> ?_⟩
 · simp only [xy] at hx;split at hx
   · cases hx
   · rename_i h1;split at hx
     · cases hx
     · rename_i h2;rw [hv,hsame x h1 h2,← rel.same x hx];cases v.heap[x]? <;>simp [h1,h2]
 · simp only [xy] at hx;split at hx
   · rename_i h1;subst h1;obtain ⟨c,hc⟩:=hb;obtain rfl:=fy7 hx;have:=hlt hc;exact ⟨by rw [hv,fz1 this];simp,.inl ⟨e,c,rfl,hc⟩⟩
   · rename_i h1;split at hx
     · rename_i h2;obtain ⟨k,hk⟩:=hC x h2;obtain rfl:=fy7 hx;have:=hlt hk;exact ⟨by rw [hv,fz1 this];simp [h1,h2],.inr (.inl ⟨rfl,_,rfl,hk⟩)⟩
     · rename_i h2;obtain ⟨h3,h4⟩:=rel.laid x o hx;exact ⟨by rw [hv,h3];simp [h1,h2],by rw [hsame x h1 h2];exact h4⟩
 · rw [hv] at hx;obtain ⟨o',ho',rfl⟩:=fy8.1 hx;split
   · rfl
   · split
     · rfl
     · exact rel.objs x o' ho'
 · simp only [xy] at hx;rw [hv] at ho;obtain ⟨o',ho',rfl⟩:=fy8.1 ho;split at hx
   · cases hx
   · rename_i h1;split at hx
     · cases hx
     · rename_i h2;simp only [h1,h2,f0s];exact rel.chans hon x o' hx ho'
def stop_co (hFx:fug Fx) (W:SesW b j0 n c0 ch WS gs.size) (V:SesV b sb ab n cp c0 kb ch v) (I:Inv WS Fx vb H S St Shun v w) (C:Hold Tryz.prog St Shun u5 S 0 (G (Frame.enter Tryz.prog 12 #[.pointer (some ⟨b,0,none⟩)] .normal) (X::cs)) T gs w q) (hD:Deaf T 0=0)
    (hcont: ∀ v' w' H' St' gs' T' q',fll (fun x=>x=b∨x=c0∨ ∃ i,i<n∧x=ch i) v v'→Inv vb Fx vb H' vb St' (fax b Shun) v' w'→gs'.size=gs.size→Hold Tryz.prog St' (fax b Shun) u5 vb 0 (G (ur .normal (.tuple #[]) X) cs) T' gs' w' q'→Deaf T' 0=0→Leads Tryz.prog Φ gs' w' T'):
    Leads Tryz.prog Φ gs w T:=by
 obtain ⟨cc,e,hb,hsz,h0,h2,h3,h5,h6,h7⟩:=V.ses;have hcell: ∀ o x,cc[o]? =some x→v.cell? ⟨b,o,none⟩=some x:=fun o x h=>by simp [World.cell?,hb,h]
 have hHb:H b=none:=I.rel.hidden_cell (hcell 0 _ h0);have hbw:w.heap[b]? =some (.cells cc e (0,0)):=by rw [← I.rel.same b hHb];exact hb
 have hHs:H sb=none:=I.rel.hidden_cell V.srv;have hHk: ∀ i,i<n→H ab=none∧H (kb i)=none:=fun i hi=>⟨I.rel.hidden_cell (V.cl i hi).1,I.rel.hidden_cell (V.cl i hi).2⟩
 have hHc: ∀ x,MarkAt v x→x≠b:=fun x hx e'=>by
    obtain ⟨o,ho⟩:=fei I hx;subst e';rw [hHb] at ho;cases ho
 have hCr:=frg W V I;obtain ⟨w0,hw0⟩: ∃ w0,w0=(w.setCell ⟨b,0,none⟩ (.int .i32 1)).setCell ⟨b,5,none⟩ (.bool true):=⟨_,rfl⟩;have hb0:w0.heap[b]? =some (.cells ((cc.setIfInBounds 0 (.int .i32 1)).setIfInBounds 5 (.bool true)) e (0,0)):=by rw [hw0];simp [World.setCell,fy6,hbw]
 have hne0: ∀ x,x≠b→w0.heap[x]? =w.heap[x]? :=fun x hx=>by rw [hw0];simp [World.setCell,fy6,f3w hx]
 have hsz0:w0.heap.size=w.heap.size:=by rw [hw0];simp [World.setCell]
 have hos0:w0.os=w.os∧w0.output=w.output:=by rw [hw0];exact ⟨rfl,rfl⟩
 have hce0: ∀ (p:Addr) (x:Value),p.block≠b→v.cell? p=some x→w0.cell? p=some x:=fun p x hp h=>by
    rw [← I.rel.cell h];unfold World.cell?;rw [hne0 _ hp]
 have hcc: ∀ o x,cc[o]? =some x→o≠0→o≠5→((cc.setIfInBounds 0 (.int .i32 1)).setIfInBounds 5 (.bool true))[o]? =some x:=fun o x h h1 h2=>by
    simp [fy1,f3w h1,f3w h2,h]
 have hc1:((cc.setIfInBounds 0 (.int .i32 1)).setIfInBounds 5 (.bool true))[0]? =some (.int .i32 1):=by simp [fy1,hsz]
 have Z: ∀ d,StopW b sb ab n cp c0 kb ch (w0.at d):=fun d=>⟨⟨_,e,hb0,by simp [hsz],hc1,hcc 2 _ h2 fi fi,hcc 3 _ h3 fi fi⟩,hce0 _ _ V.apart.1 V.srv,fun i hi=>⟨hce0 _ _ V.apart.2.1 (V.cl i hi).1,hce0 _ _ (V.apart.2.2 i hi) (V.cl i hi).2⟩,V.apart,by have:=V.small;omega⟩
 have hca: ∀ d,CellsAt b (w0.at d) ((n+1:Nat)*K32) 0:=fun d=>by
    have h6':=hcc 6 _ h6 fi fi;have h7':=hcc 7 _ h7 fi fi;refine ⟨?_,?_,?_,?_⟩
    · show w0.cell? (stC b)=_;simp only [World.cell?,hb0];simpa using h6'
    · show w0.cell? (smC b)=_;simp only [World.cell?,hb0];simpa using h7'
    · show w0.frozen? (stC b)=_;simp [World.frozen?,hb0]
    · show w0.frozen? (smC b)=_;simp [World.frozen?,hb0]
 refine (C.og I.prot (fu9 (Φ:=fun g w' d=> ∃ T0:Array Value,T0.size=43∧T0[0]? =some (.pointer (some ⟨b,0,none⟩))∧g=G ((base 12).at ⟨T0,ffw b⟩ [.code ffb]) (X::cs)∧(∃ d',w'=w0.at d')∧d=0) hHb hbw h0 h5 (n:=0) fun T hT h0=> .now fun d=>⟨T,hT,h0,rfl,⟨d,by rw [hw0]⟩,rfl⟩) hD).trans fun gs1 w1 T1 hh=> ?_;obtain ⟨a',q',⟨T0,hT0,h00,rfl,⟨d',rfl⟩,hd'⟩,hsz1,C1⟩:=hh;refine (fr8 hT0 h00 I.prot ⟨hHb,hHs,(hHk 0 V.one).1,fun i hi=>(hHk i hi).2⟩ ⟨hHc _ V.m0,fun i hi=>hHc _ (V.ms i hi)⟩ V.ne (by rw [hsz1];exact hCr) (Z d') (hca d') V.small C1 hd').trans fun gs2 u2 T2 hh=> ?_;obtain ⟨w1,hclo,a2,w2,q2,d2,rfl,hsz2,hs2,C2,rfl,rfl,hd2⟩:=hh
 have hCb: ¬ (b=c0∨ ∃ i,i<n∧b=ch i):=by
    rintro (h | ⟨i,hi,h⟩)
    · exact hHc _ V.m0 h.symm
    · exact hHc _ (V.ms i hi) h.symm
 have hb1:w1.heap[b]? =some (.cells ((cc.setIfInBounds 0 (.int .i32 1)).setIfInBounds 5 (.bool true)) e (0,0)):=(hclo.same b hCb).trans hb0;have hb2: ∃ c,(w1.setCell ⟨b,0,none⟩ (.int .i32 0)).heap[b]? =some (.cells c e (0,0)):=⟨_,by simp [World.setCell,fy6,hb1];rfl⟩
 have hne2: ∀ x,x≠b→((wgw b (w1.setCell ⟨b,0,none⟩ (.int .i32 0)) 0 0).at d2).heap[x]? =w1.heap[x]? :=fun x hx=>by
    show (wgw b (w1.setCell ⟨b,0,none⟩ (.int .i32 0)) 0 0).heap[x]? =_;rw [yz hx];simp [World.setCell,fy6,f3w hx]
 have hrel:Rel (xy b e (fun x=>x=c0∨ ∃ i,i<n∧x=ch i) H ((wgw b (w1.setCell ⟨b,0,none⟩ (.int .i32 0)) 0 0).at d2)) (ci b e (fun x=>x=c0∨ ∃ i,i<n∧x=ch i) v) ((wgw b (w1.setCell ⟨b,0,none⟩ (.int .i32 0)) 0 0).at d2):=by
    refine flm I.rel ?_ (fun x hx=> ?_) (fun x h1 h2=> ?_) ?_ ?_ ?_
    · obtain ⟨c,hc⟩:=hb2;exact ⟨_,fqh hc⟩
    · obtain ⟨k,hk⟩:=hclo.muted x hx;exact ⟨k,by rw [hne2 x fun e=>hCb (e▸hx)];exact hk⟩
    · rw [hne2 x h1,hclo.same x h2];exact hne0 x h1
    · show (wgw b (w1.setCell ⟨b,0,none⟩ (.int .i32 0)) 0 0).heap.size=_;rw [fgx];simp only [World.setCell,f5u];rw [hclo.size];exact hsz0
    · show w1.os=_;rw [hclo.os];exact hos0.1
    · show w1.output=_;rw [hclo.output];exact hos0.2
 refine hcont (ci b e (fun x=>x=c0∨ ∃ i,i<n∧x=ch i) v) _ (xy b e (fun x=>x=c0∨ ∃ i,i<n∧x=ch i) H ((wgw b (w1.setCell ⟨b,0,none⟩ (.int .i32 0)) 0 0).at d2)) _ _ _ _ ⟨by simp [ci],fun x hx=> ?_,rfl,rfl⟩ ⟨hrel,⟨fun i s h=>je,fun g l hl=> ?_,fun l hl=> ?_⟩,I.on,fun x y hx=> ?_,fun _ _ h=>je,fun _ _ h=>je,fun x cap buf cl s q hx hbuf=> ?_,fun g l hl=> ?_⟩ fe C2 hd2
 · have h1:x≠b:=fun h=>hx (.inl h);have h2: ¬ (x=c0∨ ∃ i,i<n∧x=ch i):=fun h=>hx (.inr h);simp only [ci,f4x,h1,h2,f0s];cases v.heap[x]? <;>rfl
 · obtain ⟨a,ha,hh⟩:=I.prot.still g l hl.1;refine ⟨a,ha,?_⟩;simp only [xy];split
   · simp
   · split
     · simp
     · exact hh
 · rcases hl with hl | rfl | rfl
   · obtain ⟨a,ha,hh⟩:=I.prot.shun l hl;refine ⟨a,ha,?_⟩;simp only [xy];split
     · simp
     · split
       · simp
       · exact hh
   · exact ⟨_,rfl,by simp [xy]⟩
   · exact ⟨_,rfl,by simp [xy]⟩
 · obtain ⟨e1,e2⟩:=I.fix x y hx;have h1:x≠b:=fun h=>by rw [h,hHb] at e1;cases e1
   have hv:=(I.rel.laid x _ e1).1;have h2: ¬ (x=c0∨ ∃ i,i<n∧x=ch i):=by
    have hm: ¬ MarkAt v x:=by
     rintro ⟨_,_,_,h⟩;rw [hv] at h;exact hFx x y hx _ _ _ _ _ _ (fy7 h)
    rintro (rfl | ⟨i,hi,rfl⟩)
    · exact hm V.m0
    · exact hm (V.ms i hi)
   refine ⟨by simp only [xy];rw [fx9 h1,fx9 h2];exact e1,?_⟩;show ((wgw b (w1.setCell ⟨b,0,none⟩ (.int .i32 0)) 0 0).at d2).heap[x]? =_;rw [hne2 x h1,hclo.same x h2];exact (hne0 x h1).trans ((I.rel.kept x _ e1).trans e2)
 · simp only [xy] at hx;split at hx
   · cases hx
   · split at hx
     · cases hx
     · rename_i h1 h2;obtain ⟨_,j,s',h3,h4,h5,_⟩:=I.marks x cap buf cl s q hx hbuf;exfalso;apply h2;have hjr:=W.no j (by rw [h3];simp);by_cases e:j=j0
       · subst e;obtain ⟨s1,h6,h7⟩:=W.srv;rw [h3] at h6;cases h6;exact .inl (h4.symm.trans h7)
       · obtain ⟨s1,h6,h7⟩:=W.cl (j-j0-1) fe;rw [show j0+1+(j-j0-1)=j from by omega,h3] at h6;cases h6;exact .inr ⟨j-j0-1,by omega,h4.symm.trans h7⟩
 · rcases I.who g l hl.1 with h1 | h1 | h1
   · exact .inl h1
   · exfalso;apply hl.2;have hjr:=W.no g h1;by_cases e:g=j0
     · subst e;obtain ⟨s1,h2,_⟩:=hCr.srv;rw [h2];simp
     · obtain ⟨s1,h2,_⟩:=hCr.cl (g-j0-1) fe;rw [show j0+1+(g-j0-1)=g from by omega] at h2;rw [h2];simp
   · exact absurd rfl h1
end
open Go.ConcR.Gen
section
variable {main:Bool} {H:Hide} {Shun:Loc→Prop} {Φ:Goroutine→World→Nat→Prop} {w:World}
def fwm {P:Program} {K:World→Prop} {E:Event→Prop} {g:Goroutine} {d:Nat} (hK: ∀ t,K (w.at t)) (hE: ∀ e,E e→EvP H Shun w.heap.size e) (h:WKE P main K E (fun g d=>OG P main H Shun Φ g w d) g d):OG P main H Shun Φ g w d:=by
 obtain ⟨n,h⟩:=h
 induction n generalizing g d with
 | zero=>exact h
 | succ n ih=>
   rcases h with h | ⟨h1,g',es,h2,h3,h4⟩
   · exact h
   · exact ll h1 (fun t=>h3 _ (hK t)) ⟨fx8 _,fun _ _=>rfl,fun e he=>hE e (h2 e he)⟩ (ih h4)
def fuh {n:Nat} {e:Event} (he:e.mute=true):EvP H Shun n e:=by
 obtain ⟨l,wr,sy⟩:=e;cases l with
 | mark m=>
   cases m with
   | disable=>exact ⟨fun t ht a ha=>pg,by cases wr <;>cases sy <;>trivial⟩
   | enable=>exact ⟨fun t ht a ha=>pg,by cases wr <;>cases sy <;>trivial⟩
   | _=>simp [Event.mute] at he
 | _=>simp [Event.mute] at he
variable {b:Nat} {b₀:Frame} {a₀:Act} {k₀:List Item} {cs:List Frame} {ops₀:Array Oper} {i₀:Nat} {rest₀:List Nat}
def AddE (b:Nat) (e:Event):Prop:=e.mute=true∨e=⟨.mark (.read (smC b)),false,true⟩
def og_add1 {c:Array Value} {e:TypeId} {m:Nat} {y:Int} {cd:Code} (hH:H b=none) (hb:w.heap[b]? =some (.cells c e (0,0))) (hsz:c.size=8) (h6:c[6]? =some (.int .u64 ((m:Nat)*K32))) (h7:c[7]? =some (.int .u32 y)) (hm:m<1000) (hcd:Tryz.f77.body=some cd)
    (h:OG Tryz.prog main H Shun Φ (G (b₀.at (a₀.put ((ops₀[i₀]?).bind (·.dst)) (.tuple #[])) (.inRegion ops₀ rest₀::k₀)) cs) (w.setCell (stC b) (.int .u64 ((m+1:Nat)*K32))) 0):
    OG Tryz.prog main H Shun Φ (G ((base 77).at ⟨#[.pointer (some (stC b)),.int .i64 1]++Array.replicate 115 undef,[]⟩ [.code cd]) (b₀.at a₀ (.inRegion ops₀ (i₀::rest₀)::k₀)::cs)) w 0:=by
 obtain rfl:_=cd:=fy7 hcd;have hlt:b<w.heap.size:=(fx5.1 hb).1;have hst:w.cell? (stC b)=some (.int .u64 ((m:Nat)*K32)):=by simp only [World.cell?,hb];simpa using h6
 have hz:w.frozen? (stC b)=false:=by simp [World.frozen?,hb]
 have eS:IntKind.u64.wrap ((m:Nat)*K32+4294967296)=((m+1:Nat):Int)*K32:=by rw [IntKind.wrap_u64];show (((m:Nat):Int)*4294967296+4294967296)%18446744073709551616=((m+1:Nat):Int)*4294967296;omega
 have hsm1:(w.setCell (stC b) (.int .u64 ((m+1:Nat)*K32))).cell? (smC b)=some (.int .u32 y):=by
    simp [World.setCell,World.cell?,fy6,hb,fy1,h7]
 have hE: ∀ (w:World),b<w.heap.size→ ∀ e,AddE b e→EvP H Shun w.heap.size e:=fun w hlt e he=>by
    rcases he with he | rfl
    · exact fuh he
    · exact ⟨fun t ht a ha=>(by simp [MemAct.ofEvent,MemAct.touch?] at ht;subst ht;cases ha;exact .inl hH),hlt⟩
 obtain ⟨s1,s2⟩:=ai (w:=w) (p:=stC b) hH (.int .u64 ((m+1:Nat)*K32));have hlt2:b<(w.setCell (stC b) (.int .u64 ((m+1:Nat)*K32))).heap.size:=f0f hlt s1;walk_nrm;refine fwm (K:=fun u=> ∃ t,u=w.at t) (E:=AddE b) (fun t=>⟨t,rfl⟩) (hE w hlt) ?_;refine wq ?_;refine wt ?_;refine wq ?_;refine wq ?_;refine wr ?_;simp only [szs];refine wv (.int .i64 1) ?_;walk_nrm;refine wv (.bool false) ?_;walk_nrm;refine we ?_;refine wf ?_;refine ws ?_;refine wq ?_;refine wr ?_;simp only [szs];refine i8 .disable fi (.inl rfl) rfl rfl gh rfl wgLib.f_disable (x_disable_n Lw) (x_disable_b Lw) (x_disable_x Lw) (x_disable_f Lw) ?_;walk_nrm;refine we ?_;refine wr ?_;simp only [szs];refine fmj rfl rfl gh rfl ?_;walk_nrm;refine we ?_;refine wq ?_;refine wr ?_;simp only [szs];refine wv (.bool false) ?_;walk_nrm;refine we ?_;refine wq ?_;refine wq ?_;refine wr ?_;simp only [szs];refine fqk (.bool false) rfl rfl gh rfl wgLib.f_inBubble (x_inBubble_n Lw) (x_inBubble_b Lw) (x_inBubble_x Lw) (x_inBubble_f Lw) ?_;walk_nrm;refine we ?_;refine wf ?_;refine ws ?_;refine wq ?_;refine wr ?_;simp only [szs];refine wv (.pointer (some (stC b))) ?_;walk_nrm;refine wv (.pointer (some (stC b))) ?_;walk_nrm;refine wv (.pointer (some (stC b))) ?_;walk_nrm;refine wv (.int .i64 1) ?_;walk_nrm;refine ww (.int .u64 1) rfl rfl gh (fun _ _=>by go_simp;try decide) (fun _ _=>by simp [go_sem]) ?_;walk_nrm;refine ww (.int .u64 4294967296) rfl rfl gh (fun _ _=>by go_simp;try decide) (fun _ _=>by simp [go_sem]) ?_;walk_nrm;refine i7 rfl rfl gh rfl Tryz.func109 fd rfl ?_;simp only [show Tryz.f109.ntmps=10 from rfl];walk_nrm;refine wq ?_;refine wr ?_;simp only [szs];refine wv (.int .u64 0) ?_;walk_nrm;refine we ?_;refine wq ?_;refine wr ?_;simp only [szs];refine wv (.pointer (some (stC b))) ?_;walk_nrm;refine wv (.pointer (some (stC b))) ?_;walk_nrm;refine wv (.pointer (some (stC b))) ?_;walk_nrm;refine wv (.int .u64 4294967296) ?_;walk_nrm;obtain ⟨S,hS⟩: ∃ S:Int,S=((m+1:Nat):Int)*K32:=⟨_,rfl⟩;rw [← hS] at eS h hsm1 hlt2 s1 s2;refine ug ?_;show OG Tryz.prog main H Shun Φ _ _ _
 refine ll (w1:=w.setCell (stC b) (.int .u64 S)) (es:= #[rdE (stC b),wrE (stC b)]) rfl (fun t=>(stepG_add_atomic (w:=w.at t) (v:=(m:Nat)*K32) (d:=4294967296) rfl rfl gh rfl wgLib.f_addU64 (x_addU64_n Lw) (x_addU64_b Lw) (x_addU64_x Lw) .u64 (x_addU64_f Lw) rfl rfl (show (w.at t).cell? (stC b)=_ from hst) (show (w.at t).frozen? (stC b)=false from hz)).trans (by rw [eS];rfl))
    ⟨s1,s2,fun e he=>(by simp at he;rcases he with rfl | rfl <;>exact xh hH hlt2 _ _)⟩ ?_
 have a1:S / 4294967296=((m+1:Nat):Int):=by rw [hS];show ((m+1:Nat):Int)*4294967296 / _=_;omega
 have a2:0≤S∧S<9223372036854775808:=by rw [hS];show 0≤((m+1:Nat):Int)*4294967296∧((m+1:Nat):Int)*4294967296<_;omega
 have b1:bits .and .u64 S 2147483648=0:=by rw [hS,show ((m+1:Nat):Int)*K32=((m+1:Nat):Int)*4294967296+((0:Nat):Int) from (Int.add_zero _).symm];exact Go.ConcN.st_flag (m+1) 0 fe fe
 have b2:bits .and .u64 S 2147483647=0:=by rw [hS,show ((m+1:Nat):Int)*K32=((m+1:Nat):Int)*4294967296+((0:Nat):Int) from (Int.add_zero _).symm];exact Go.ConcN.st_waiters (m+1) 0 fe fe
 clear eS hst;refine fwm (K:=fun u=> ∃ t,u=(w.setCell (stC b) (.int .u64 S)).at t) (E:=AddE b) (fun t=>⟨t,rfl⟩) (hE _ hlt2) ?_;rcases Nat.eq_zero_or_pos m with rfl | hmp
 · obtain rfl:S=4294967296:=by rw [hS];decide
   clear hS a1 a2 b1 b2;walk_nrm;refine wv (.int .u64 4294967296) ?_;walk_nrm;refine we ?_;refine ri rfl (fun _=>f1w) ?_;refine vw (t:=4) rfl rfl Tryz.func109 rfl ?_;walk_nrm;refine wv (.int .u64 4294967296) ?_;walk_nrm;refine we ?_;refine wq ?_;refine wq ?_;refine wr ?_;simp only [szs];refine wv (.int .u64 4294967296) ?_;walk_nrm;refine wu (.int .u64 0) ?_;walk_nrm;refine wu (.bool false) ?_;walk_nrm;refine wv (.bool false) ?_;walk_nrm;refine wz ?_;walk_nrm;refine wz ?_;walk_nrm;refine wv (.bool false) ?_;walk_nrm;refine we ?_;refine wf ?_;refine ws ?_;refine wq ?_;refine wr ?_;simp only [szs];refine wv (.int .u64 4294967296) ?_;walk_nrm;refine wu (.int .u64 1) ?_;walk_nrm;refine wu (.int .i32 1) ?_;walk_nrm;refine wv (.int .i32 1) ?_;walk_nrm;refine we ?_;refine wq ?_;refine wr ?_;simp only [szs];refine wv (.int .u64 4294967296) ?_;walk_nrm;refine wu (.int .u64 0) ?_;walk_nrm;refine wu (.int .u32 0) ?_;walk_nrm;refine wv (.int .u32 0) ?_;walk_nrm;refine we ?_;refine wq ?_;refine wq ?_;refine wr ?_;simp only [szs];refine wv (.bool true) ?_;walk_nrm;refine wv (.int .i64 1) ?_;walk_nrm;refine wv (.bool true) ?_;walk_nrm;refine wv (.bool true) ?_;walk_nrm;refine wv (.bool true) ?_;walk_nrm;refine wv (.int .i32 1) ?_;walk_nrm;refine wv (.int .i64 1) ?_;walk_nrm;refine ww (.int .i32 1) rfl rfl gh (fun _ _=>by go_simp;try decide) (fun _ _=>by simp [go_sem]) ?_;walk_nrm;refine wu (.bool true) ?_;walk_nrm;refine wv (.bool true) ?_;walk_nrm;refine we ?_;refine wt ?_;refine wr ?_;simp only [szs];refine wv (.pointer (some (stC b))) ?_;walk_nrm;refine wv (.pointer (some (stC b))) ?_;walk_nrm;refine wv (.pointer (some (smC b))) ?_;walk_nrm;refine faq (p:=smC b) rfl rfl Tryz.underlying136 wgLib.room_tU32 (fun u hu=> ?_) rfl rfl gh ?_
   · obtain ⟨t,rfl⟩:=hu;exact ⟨_,hsm1⟩
   walk_nrm;refine fe4 ⟨.mark (.read (smC b)),false,true⟩ (.inr rfl) rfl (fun u _=>f4t .read fi rfl rfl gh rfl wgLib.f_raceRead (x_raceRead_n Lw) (x_raceRead_b Lw) (x_raceRead_x Lw) (x_raceRead_f Lw) (ad:=smC b) jh) ?_;walk_nrm;refine we ?_;refine wq ?_;refine wq ?_;refine wr ?_;simp only [szs];refine wv (.int .i32 1) ?_;walk_nrm;refine wu (.bool false) ?_;walk_nrm;refine we ?_;refine wf ?_;refine ws ?_;refine wq ?_;refine wq ?_;refine wr ?_;simp only [szs];refine wv (.int .u32 0) ?_;walk_nrm;refine wv (.bool false) ?_;walk_nrm;refine wv (.bool false) ?_;walk_nrm;refine wz ?_;walk_nrm;refine wz ?_;walk_nrm;refine wv (.bool false) ?_;walk_nrm;refine wv (.bool false) ?_;walk_nrm;refine wz ?_;walk_nrm;refine wz ?_;walk_nrm;refine wz ?_;walk_nrm;refine wz ?_;walk_nrm;refine wv (.bool false) ?_;walk_nrm;refine we ?_;refine wf ?_;refine ws ?_;refine wq ?_;refine wq ?_;refine wr ?_;simp only [szs];refine wv (.int .i32 1) ?_;walk_nrm;refine wu (.bool true) ?_;walk_nrm;refine wv (.bool true) ?_;walk_nrm;refine wz ?_;walk_nrm;refine wz ?_;walk_nrm;refine wv (.bool true) ?_;walk_nrm;refine we ?_;refine wt ?_;refine ri rfl (fun _=>f1w) ?_;refine dm .enable (.inl rfl) fi rfl wgLib.f_enable (x_enable_n Lw) (x_enable_b Lw) (x_enable_x Lw) (x_enable_f Lw) ?_;refine yo rfl rfl Tryz.func77 rfl ?_;walk_nrm;exact ug h
 · clear hS;obtain ⟨V,hV⟩: ∃ V:Int,V=((m+1:Nat):Int):=⟨_,rfl⟩;rw [← hV] at a1;have hV2:2≤V∧V<2000:=by omega
   clear hV;walk_nrm;refine wv (.int .u64 S) ?_;walk_nrm;refine we ?_;refine ri rfl (fun _=>f1w) ?_;refine vw (t:=4) rfl rfl Tryz.func109 rfl ?_;walk_nrm;refine wv (.int .u64 S) ?_;walk_nrm;refine we ?_;refine wq ?_;refine wq ?_;refine wr ?_;simp only [szs];refine wv (.int .u64 S) ?_;walk_nrm;refine wu (.int .u64 0) ?_;walk_nrm;refine wu (.bool false) ?_;walk_nrm;refine wv (.bool false) ?_;walk_nrm;refine wz ?_;walk_nrm;refine wz ?_;walk_nrm;refine wv (.bool false) ?_;walk_nrm;refine we ?_;refine wf ?_;refine ws ?_;refine wq ?_;refine wr ?_;simp only [szs];refine wv (.int .u64 S) ?_;walk_nrm;refine wu (.int .u64 V) ?_;walk_nrm;refine wu (.int .i32 V) ?_;walk_nrm;refine wv (.int .i32 V) ?_;walk_nrm;refine we ?_;refine wq ?_;refine wr ?_;simp only [szs];refine wv (.int .u64 S) ?_;walk_nrm;refine wu (.int .u64 0) ?_;walk_nrm;refine wu (.int .u32 0) ?_;walk_nrm;refine wv (.int .u32 0) ?_;walk_nrm;refine we ?_;refine wq ?_;refine wq ?_;refine wr ?_;simp only [szs];refine wv (.bool true) ?_;walk_nrm;refine wv (.int .i64 1) ?_;walk_nrm;refine wv (.bool true) ?_;walk_nrm;refine wv (.bool true) ?_;walk_nrm;refine wv (.bool true) ?_;walk_nrm;refine wv (.int .i32 V) ?_;walk_nrm;refine wv (.int .i64 1) ?_;walk_nrm;refine ww (.int .i32 1) rfl rfl gh (fun _ _=>by go_simp;try decide) (fun _ _=>by simp [go_sem]) ?_;walk_nrm;refine wu (.bool false) ?_;walk_nrm;refine wv (.bool false) ?_;walk_nrm;refine we ?_;refine wf ?_;refine ws ?_;refine wq ?_;refine wq ?_;refine wr ?_;simp only [szs];refine wv (.int .i32 V) ?_;walk_nrm;refine wu (.bool false) ?_;walk_nrm;refine we ?_;refine wf ?_;refine ws ?_;refine wq ?_;refine wq ?_;refine wr ?_;simp only [szs];refine wv (.int .u32 0) ?_;walk_nrm;refine wv (.bool false) ?_;walk_nrm;refine wv (.bool false) ?_;walk_nrm;refine wz ?_;walk_nrm;refine wz ?_;walk_nrm;refine wv (.bool false) ?_;walk_nrm;refine wv (.bool false) ?_;walk_nrm;refine wz ?_;walk_nrm;refine wz ?_;walk_nrm;refine wz ?_;walk_nrm;refine wz ?_;walk_nrm;refine wv (.bool false) ?_;walk_nrm;refine we ?_;refine wf ?_;refine ws ?_;refine wq ?_;refine wq ?_;refine wr ?_;simp only [szs];refine wv (.int .i32 V) ?_;walk_nrm;refine wu (.bool true) ?_;walk_nrm;refine wv (.bool true) ?_;walk_nrm;refine wz ?_;walk_nrm;refine wz ?_;walk_nrm;refine wv (.bool true) ?_;walk_nrm;refine we ?_;refine wt ?_;refine ri rfl (fun _=>f1w) ?_;refine dm .enable (.inl rfl) fi rfl wgLib.f_enable (x_enable_n Lw) (x_enable_b Lw) (x_enable_x Lw) (x_enable_f Lw) ?_;refine yo rfl rfl Tryz.func77 rfl ?_;walk_nrm;exact ug h
end
end Go.Proofs.YtelecjnabeokeaaGreatDoor
namespace Go.Proofs.YtelecjnabeokeaaGreatDoor
open Go Go.Conc
open Go.ConcN (sumTo upd sumTo_upd upd_ne upd_same)
section
variable {P:Program} {Φ:Array Goroutine→World→Trace→Prop} {St:Nat→Loc→Prop} {Shun:Loc→Prop} {S:Nat→Option SeatD} {a a' child:Goroutine} {T:Trace} {gs:Array Goroutine} {w:World} {q:Nat→Nat}
abbrev StN (St:Nat→Loc→Prop) (c:Nat) (L:Loc→Prop):Nat→Loc→Prop:=fun g l=>St g l∨(g=c∧L l)
def Hold.hire {s:SeatD} {L:Loc→Prop} {k n:Nat} (C:Hold P St Shun u5 S 0 a T gs w q) (hD:Deaf T 0=0) (hrun:a.status= .running) (hst: ∀ d,stepG P true a (w.at d)= .spawn a' child (w.at d) #[])
    (hc:w.heap[s.c]? =some (.chan 0 #[] false k k false)) (hrow: ∀ b o,s.D b=some o→ ∃ c e f,o= .cells c e f) (hkeep:Keeps s.D w) (hinj: ∀ i s',S i=some s'→s'.c≠s.c) (hB:s.B≤w.heap.size)
    (hL: ∀ l,L l→ ¬ Shun l∧l.isMemory=true) (hsit:Sits P false (Keeps s.D) (StN St gs.size L gs.size) s.B s.seat n child)
    (hcont: ∀ gs' T' q' d,gs'.size=gs.size+1→Hold P (StN St gs.size L) Shun u5 (upd S gs.size (some s)) 0 a' T' gs' (w.at d) q'→Deaf T' 0=0→Leads P Φ gs' (w.at d) T'):Leads P Φ gs w T:=by
 refine C.lead' hD hrun fun gs1 T1 q1 d sl hsz hD1 C1=> ?_;have hlt:0<gs1.size:=(fx5.1 C1.here).1;have hr:=runT_crowd_spawn (sl:=sl) C1.here (show stepG P (0==0) a (w.at d)=_ from hst d);have e0:((MemOp.ofEvents 0 a.frame.fn a.frame.place #[]).push { g:=0,fn:=a.frame.fn,pos:=a.frame.place,act:= .go gs1.size }).push { g:=gs1.size,fn:=child.frame.fn,pos:=a.frame.place,act:= .start }=
  #[{ g:=0,fn:=a.frame.fn,pos:=a.frame.place,act:= .go gs1.size },{ g:=gs1.size,fn:=child.frame.fn,pos:=a.frame.place,act:= .start }]:=by simp [MemOp.ofEvents]
 rw [e0] at hr;refine ⟨_,_,_,hr,?_⟩;generalize hu:(#[{ g:=0,fn:=a.frame.fn,pos:=a.frame.place,act:= .go gs1.size },{ g:=gs1.size,fn:=child.frame.fn,pos:=a.frame.place,act:= .start }]:Trace)=u
 have hq: ∀ g,∀ op∈u,∀ d,deafStep g d op=d:=by
    intro g op hop d;subst hu;simp only [f4b,fy3,fz8,f0z] at hop;rcases hop with rfl | rfl <;>rfl
 have hDq: ∀ g,Deaf (T1++u) g=Deaf T1 g:=fun g=>Deaf_quiet (hq g)
 have hpast:PastS (StN St gs.size L) Shun u5 (w.at d).heap.size 0 (T1++u):=by
    have:=PastS.hire (c:=gs1.size) (L:=L) C1.past hD1 (C1.crew.above _ (fx8 _)) (fun i t ht hw hl=> ?_) (fun l hl=>(hL l hl).1) a.frame.fn a.frame.place child.frame.fn
    · rw [hu,hsz] at this;exact this.fewer fun g h=>h.elim
    · rcases C1.past.known i t ht (hL _ hl).2 with h | ⟨h,_⟩ | ⟨h,_⟩
      · exact h
      · rw [h] at hw;cases hw
      · exact absurd h (hL _ hl).1
 have hS: ∀ i s',upd S gs.size (some s) i=some s'→(i=gs.size∧s'=s)∨(i≠gs.size∧S i=some s'):=fun i s' h=>by
    by_cases e:i=gs.size
    · subst e;rw [f0b] at h;exact .inl ⟨rfl,(fy7 h).symm⟩
    · rw [f0p S _ e] at h;exact .inr ⟨e,h⟩
 refine hcont _ _ (upd q1 gs.size n) d (by simp [hsz]) ⟨⟨fun x y hx hy=> ?_,fun i s' h=> ?_,fun i s' b o h=> ?_,fun i s' h=> ?_,fun i i' s1 s2 h1 h2 he=> ?_,fun i s' h=> ?_,fun i s' h=> ?_,fun j hj=> ?_⟩,?_,hpast,fun i h=>h.elim,?_⟩ (by rw [hDq];exact hD1)
 · by_cases e:x=gs.size
   · subst e;rw [f05,f02 (by simp [hsz])] at hy;obtain rfl:=fy7 hy;rw [f0b,f0b];have hx0:(gs.size==0)=false:=by simp only [beq_eq_false_iff_ne,ne_eq];exact hx
     show Sits P (gs.size==0) _ _ _ _ _ _;rw [hx0];exact hsit
   · rw [f05,fx9 (by simp [hsz,e]),fy4 (fun z=>hx z.symm)] at hy;have hi:=C1.crew.idle x y hx hy;rw [f0p S _ e,f0p q1 _ e];cases es:S x with
     | none=>rw [es] at hi;exact ⟨hi.1,by rw [hDq];exact hi.2⟩
     | some s'=>rw [es] at hi;exact fb0 (fun l hl=> .inl hl) hi
 · rcases hS i s' h with ⟨_,rfl⟩ | ⟨_,h⟩
   · exact ⟨k,hc⟩
   · exact C1.crew.chans i s' h
 · intro ho;rcases hS i s' h with ⟨_,rfl⟩ | ⟨_,h⟩
   · exact hrow b o ho
   · exact C1.crew.rows i s' b o h ho
 · rcases hS i s' h with ⟨_,rfl⟩ | ⟨_,h⟩
   · exact hkeep
   · exact C1.crew.keeps i s' h
 · rcases hS i s1 h1 with ⟨e1,e2⟩ | ⟨e1,h3⟩
   · rcases hS i' s2 h2 with ⟨e3,_⟩ | ⟨_,h4⟩
     · omega
     · rw [e2] at he;exact absurd he.symm (hinj i' s2 h4)
   · rcases hS i' s2 h2 with ⟨_,e4⟩ | ⟨_,h4⟩
     · rw [e4] at he;exact absurd he (hinj i s1 h3)
     · exact C1.crew.inj i i' s1 s2 h3 h4 he
 · rcases hS i s' h with ⟨_,rfl⟩ | ⟨_,h⟩
   · exact ⟨hB,(fx5.1 hc).1⟩
   · exact C1.crew.low i s' h
 · rw [hDq];rcases hS i s' h with ⟨rfl,rfl⟩ | ⟨_,h⟩
   · exact C1.crew.above _ fe
   · exact C1.crew.hear i s' h
 · rw [hDq];simp only [f2a,f00] at hj;exact C1.crew.above j fe
 · rw [f05,fx9 ja];exact fy5 hlt
 · rw [f0p S _ fe];exact C1.none
end
end Go.Proofs.YtelecjnabeokeaaGreatDoor
namespace Go.Proofs.YtelecjnabeokeaaGreatDoor
open Go Go.Conc Go.RowKit
abbrev fmx (n:Nat):Deferred:={ target:= .fn (.func 78) #[.pointer (some ⟨n,0,none⟩),.pointer (some ⟨n+1,0,none⟩)],args:= #[] }
abbrev fci (n:Nat):Array Value:= #[.pointer (some ⟨n,0,none⟩),.pointer (some ⟨n+1,0,none⟩)]
def boxD (n b c:Nat):Nat→Option Obj:=fun x=>if x=n then some (.cells #[.pointer (some ⟨b,0,none⟩)] 26 (0,0)) else if x=n+1 then some (.cells #[.chan (some c)] 78 (0,0)) else none
def boxL (n:Nat) (l:Loc):Prop:=l= .cell ⟨n,0,none⟩∨l= .cell ⟨n+1,0,none⟩
noncomputable def vc (n b c:Nat):SeatD:={ c:=c,z:= .nilFunc,ok:=true,D:=boxD n b c,B:=n+2,home:=fbr [dcall 79 #[.pointer (some (stC b))]] [fau] c }
def fog (n:Nat) (main:Bool) (w:World):stepG Tryz.prog main (born Tryz.prog (fmx n)) w= .go (G (Frame.enter Tryz.prog 78 (fci n) .deferred) [fau]) w #[]:=by
 have h1: ¬ Tryz.f78.name= "runtime.NumGoroutine" :=by decide
 obtain ⟨c,h2⟩: ∃ c,Tryz.f78.body=some c:=⟨_,rfl⟩;simp [born,stepG,unwind,callDeferred,invoke,callFunc,Tryz.func78,h1,h2,GStep.after,seen_none,G,fau]
section
variable {Still:Loc→Prop} {n b c B:Nat}
def fmy {w:World} (h:Keeps (boxD n b c) w):w.cell? ⟨n,0,none⟩=some (.pointer (some ⟨b,0,none⟩)):=by
 have:=h n _ (by simp [boxD];rfl);simp [World.cell?,this]
def fmz {w:World} (h:Keeps (boxD n b c) w):w.cell? ⟨n+1,0,none⟩=some (.chan (some c)):=by
 have:=h (n+1) _ (by simp [boxD];rfl);simp [World.cell?,this]
def frh {p:Addr} (hS:Still (.cell p)) (hB:p.block<B):EvC Still B ⟨.cell p,false,false⟩:=⟨p,rfl,hS,hB⟩
def fri (hS: ∀ l,boxL n l→Still l):Sits Tryz.prog false (Keeps (vc n b c).D) Still (vc n b c).B (vc n b c).seat 17 (born Tryz.prog (fmx n)):=by
 refine .inl ⟨16,default,rfl,?_⟩;refine fe8 rfl (fun w=>fog n false w) ?_;rw [enter_at Tryz.func78 rfl];simp only [show Tryz.f78.ntmps=12 from rfl];walk_nrm;refine fqv (fa8 ?_);simp only [szs];refine fj9 (x:= .pointer (some ⟨b,0,none⟩)) rfl rfl gh (fun w hw=>by have:=fmy hw;go_simp) (fun w hw e he=>by have:=fmy hw;simp [go_sem,this] at he;subst he;exact frh (hS _ (.inl rfl)) (by show n<n+2;omega)) ?_;walk_nrm;refine fj9 (x:= .pointer (some ⟨b,0,none⟩)) rfl rfl gh (fun w hw=>by go_simp) (fun w hw e he=>by simp [go_sem] at he) ?_;walk_nrm;refine fj9 (x:= .pointer (some (stC b))) rfl rfl gh (fun w hw=>by go_simp) (fun w hw e he=>by simp [go_sem] at he) ?_;walk_nrm;refine fe8 rfl (fun w=>stepG_defer rfl rfl gh rfl) ?_;walk_nrm;refine fj8 (fqv (fa8 ?_));simp only [szs];refine fj9 (x:= .chan (some c)) rfl rfl gh (fun w hw=>by have:=fmz hw;go_simp) (fun w hw e he=>by have:=fmz hw;simp [go_sem,this] at he;subst he;exact frh (hS _ (.inr rfl)) (by show n+1<n+2;omega)) ?_;walk_nrm;refine fj8 (fe8 rfl (fun _=>f5i) (fe8 rfl (fun _=>stepG_loop) ?_));refine fqv (fa8 (Goes.stop fun w h=>⟨_,atIn_of (s:=(vc n b c).seat) (i:=0) (rest:=[1]) rfl rfl fu (fun w=> ?_) (fun w=> ?_) ⟨_,rfl,rfl,rfl,rfl⟩⟩))
 · rw [← f0d _ _ _ #[],mg (t:=78) (y:= .tmp 6) (ok:=true) rfl Tryz.underlying78 (Tryz.zero1 w)];rfl
 · show (Sem.runT _ _ w #[]).2=_;rw [mg (t:=78) (y:= .tmp 6) (ok:=true) rfl Tryz.underlying78 (Tryz.zero1 w)]
end
def ve (w:World) (b k m:Nat):World:=((w.alloc (.cells #[.pointer (some ⟨b,0,none⟩)] 26)).alloc (.cells #[.chan (some k)] 78)).setCell (stC b) (.int .u64 ((m+1:Nat)*K32))
noncomputable abbrev goOps:Array Oper:=cOps (cR (cR (zw Tryz.f37)))
noncomputable def fej (b k n:Nat) (rest:List Nat):Frame:=(base 37).at ⟨#[.pointer (some ⟨b,0,none⟩),.chan (some k),.pointer (some ⟨n,0,none⟩),.pointer (some ⟨n+1,0,none⟩),.pointer (some ⟨b,0,none⟩),.pointer (some ⟨b,0,none⟩),.pointer (some (stC b)),.tuple #[],.func (.func 78) #[] (fci n)],[]⟩ [.inRegion goOps rest]
section
variable {main:Bool} {H:Hide} {Shun:Loc→Prop} {Φ:Goroutine→World→Nat→Prop} {w:World} {X:Frame} {cs:List Frame} {b k m:Nat}
def foh {c:Array Value} {e:TypeId} (hb:w.heap[b]? =some (.cells c e (0,0))):(ve w b k m).heap[b]? =some (.cells (c.setIfInBounds 6 (.int .u64 ((m+1:Nat)*K32))) e (0,0)):=by
 have hlt:b<w.heap.size:=(fx5.1 hb).1;unfold ve;simp only [World.setCell,World.alloc,fy6,f05,f0e,f2a];rw [fx9 fe,fx9 fe,hb];rfl
def dq {x:Nat} (hx:x≠b) (hlt:x<w.heap.size):(ve w b k m).heap[x]? =w.heap[x]? :=by
 unfold ve;simp only [World.setCell,World.alloc,fy6,f05,f2a];rw [fx9 (f3w hx),fx9 fe,fx9 fe]
def fg6 (hb:b<w.heap.size):Keeps (boxD w.heap.size b k) (ve w b k m):=by
 intro x o hx;unfold boxD at hx;unfold ve;simp only [World.setCell,World.alloc,fy6,f05,f2a];split at hx
 · rename_i e;subst e;cases hx;rw [fx9 fe,fx9 fe,f02 rfl]
 · split at hx
   · rename_i e1 e;subst e;cases hx;rw [fx9 fe,f02 rfl]
   · cases hx
def oh:(ve w b k m).heap.size=w.heap.size+2:=by
 unfold ve;simp only [World.setCell,World.alloc,f5u,f2a]
def fui {b₀:Frame} {a₀:Act} {k₀:List Item} {ops₀:Array Oper} {i₀:Nat} {rest₀:List Nat} {args:Array Value} {c:Array Value} {e:TypeId} {y:Int} (ha:args= #[.pointer (some (stC b)),.int .i64 1]) (hH:H b=none) (hb:w.heap[b]? =some (.cells c e (0,0))) (hsz:c.size=8) (h6:c[6]? =some (.int .u64 ((m:Nat)*K32))) (h7:c[7]? =some (.int .u32 y)) (hm:m<1000)
    (h:OG Tryz.prog main H Shun Φ (G (b₀.at (a₀.put ((ops₀[i₀]?).bind (·.dst)) (.tuple #[])) (.inRegion ops₀ rest₀::k₀)) cs) (w.setCell (stC b) (.int .u64 ((m+1:Nat)*K32))) 0):
    OG Tryz.prog main H Shun Φ (G (Frame.enter Tryz.prog 77 args .normal) (b₀.at a₀ (.inRegion ops₀ (i₀::rest₀)::k₀)::cs)) w 0:=by
 subst ha;rw [enter_at Tryz.func77 rfl,show Tryz.f77.ntmps-(#[Value.pointer (some (stC b)),Value.int .i64 1]).size=115 from rfl];exact og_add1 hH hb hsz h6 h7 hm rfl h
def fuj {c:Array Value} {e:TypeId} {y:Int} (hH:H b=none) (hHlt: ∀ x,H x≠none→x<w.heap.size) (hb:w.heap[b]? =some (.cells c e (0,0))) (hsz:c.size=8) (h6:c[6]? =some (.int .u64 ((m:Nat)*K32))) (h7:c[7]? =some (.int .u32 y)) (hm:m<1000)
    (h:OG Tryz.prog main H Shun Φ (G (fej b k w.heap.size [1]) (X::cs)) (ve w b k m) 0):OG Tryz.prog main H Shun Φ (G (Frame.enter Tryz.prog 37 #[.pointer (some ⟨b,0,none⟩),.chan (some k)] .normal) (X::cs)) w 0:=by
 have hlt:b<w.heap.size:=(fx5.1 hb).1;rw [enter_at Tryz.func37 rfl];simp only [show Tryz.f37.ntmps=9 from rfl];walk_nrm;refine uv (rm ?_);simp only [szs];obtain ⟨s1,s2,s3⟩:=fa6 hHlt (.cells #[.pointer (some ⟨b,0,none⟩)] 26);refine qz (x:= .pointer (some ⟨w.heap.size,0,none⟩)) (w1:=w.alloc (.cells #[.pointer (some ⟨b,0,none⟩)] 26)) rfl rfl gh (fun d=>by clear h;go_simp;rfl) s1 s2 (fun d e he=>by simp [go_sem] at he) ?_;walk_nrm;have e1:=xd w (.cells #[.pointer (some ⟨b,0,none⟩)] 26);obtain ⟨u,hu⟩: ∃ u,u=w.alloc (.cells #[.pointer (some ⟨b,0,none⟩)] 26):=⟨_,rfl⟩;have hW:ve w b k m=(u.alloc (.cells #[.chan (some k)] 78)).setCell (stC b) (.int .u64 ((m+1:Nat)*K32)):=by rw [hu];rfl
 rw [hW] at h;rw [← hu] at e1 s3 ⊢;have hbu:u.heap[b]? =some (.cells c e (0,0)):=by rw [hu];simp only [World.alloc,f05];rw [fx9 fe];exact hb
 have hn0:u.heap[w.heap.size]? =some (.cells #[.pointer (some ⟨b,0,none⟩)] 26 (0,0)):=by rw [hu];simp only [World.alloc,f05,f0e]
 have hHn:H w.heap.size=none:=by
    cases e:H w.heap.size with
    | none=>rfl
    | some o=>have:=hHlt w.heap.size pb;omega
 clear hu hW s1 s2;obtain ⟨t1,t2,t3⟩:=fa6 s3 (.cells #[.chan (some k)] 78);refine qz (x:= .pointer (some ⟨u.heap.size,0,none⟩)) (w1:=u.alloc (.cells #[.chan (some k)] 78)) rfl rfl gh (fun d=>by clear h;go_simp;rfl) t1 t2 (fun d e he=>by simp [go_sem] at he) ?_;rw [e1];walk_nrm;have e2:=xd u (.cells #[.chan (some k)] 78);have hbu2:(u.alloc (.cells #[.chan (some k)] 78)).heap[b]? =some (.cells c e (0,0)):=by simp only [World.alloc,f05];rw [fx9 fe];exact hbu
 have hn02:(u.alloc (.cells #[.chan (some k)] 78)).heap[w.heap.size]? =some (.cells #[.pointer (some ⟨b,0,none⟩)] 26 (0,0)):=by simp only [World.alloc,f05];rw [fx9 fe];exact hn0
 generalize u.alloc (.cells #[.chan (some k)] 78)=u2 at*;have hcd: ∀ d,(u2.at d).cell? ⟨w.heap.size,0,none⟩=some (.pointer (some ⟨b,0,none⟩)):=fun d=>by show u2.cell? _=_;simp [World.cell?,hn02]
 clear t1 t2;refine u7 (uv (rm ?_));simp only [szs];refine qz (x:= .pointer (some ⟨b,0,none⟩)) (w1:=u2) rfl rfl gh (fun d=>by have:=hcd d;clear h;go_simp) (fx8 _) (fun _ _=>rfl) (fun d e he=>by simp [go_sem,hcd] at he;subst he;exact ⟨xh hHn (by show w.heap.size<u2.heap.size;omega) _ _,by simp [vl]⟩) ?_;walk_nrm;refine qz (x:= .pointer (some ⟨b,0,none⟩)) (w1:=u2) rfl rfl gh (fun d=>by clear h;go_simp) (fx8 _) (fun _ _=>rfl) (fun d e he=>by simp [go_sem] at he) ?_;walk_nrm;refine qz (x:= .pointer (some (stC b))) (w1:=u2) rfl rfl gh (fun d=>by clear h;go_simp) (fx8 _) (fun _ _=>rfl) (fun d e he=>by simp [go_sem] at he) ?_;walk_nrm;refine flb rfl rfl gh rfl Tryz.func77 fd rfl ?_;refine fui jh hH hbu2 hsz h6 h7 hm ?_;walk_nrm;refine u7 (rm ?_);simp only [szs];refine qz (x:= .func (.func 78) #[] (fci w.heap.size)) (w1:=u2.setCell (stC b) (.int .u64 ((m+1:Nat)*K32))) rfl rfl gh (fun d=>by clear h;go_simp) (fx8 _) (fun _ _=>rfl) (fun d e he=>by have he:e∈(#[]:Array Event):=he;simp at he) ?_;walk_nrm;exact h
end
open Go.ConcN (sumTo upd sumTo_upd upd_ne upd_same)
structure StartV (b k m:Nat) (v v':World):Prop where
 size:v'.heap.size=v.heap.size+2
 ses: ∀ c e,v.heap[b]? =some (.cells c e (0,0))→v'.heap[b]? =some (.cells (c.setIfInBounds 6 (.int .u64 ((m+1:Nat)*K32))) e (0,0))
 mark:v'.heap[k]? =some (.chan 1 #[.bool true] false 0 0 true)
 same: ∀ x,x<v.heap.size→x≠b→x≠k→v'.heap[x]? =v.heap[x]?
 os:v'.os=v.os
 output:v'.output=v.output
section
variable {b k m:Nat} {WS:Nat→Option SeatD} {H:Hide} {Shun:Loc→Prop} {St:Nat→Loc→Prop} {S:Nat→Option SeatD} {v w:World} {X:Frame} {cs:List Frame} {gs:Array Goroutine} {q:Nat→Nat} {T:Trace}
 {Φ:Array Goroutine→World→Trace→Prop}
def fw7 (m:Nat):Obj→Obj
 | .cells c e f=> .cells (c.setIfInBounds 6 (.int .u64 ((m+1:Nat)*K32))) e f
 | o=>o
def dt (v:World) (b k m:Nat):World:={ v with heap:=(((v.heap.push (.cells #[] 26)).push (.cells #[] 78)).modify b (fw7 m)).setIfInBounds k (.chan 1 #[.bool true] false 0 0 true) }
noncomputable abbrev goOp:Oper:={ dst:=none,op:= .go { callee:= .value (.tmp 8),args:= #[],argTypes:= #[] },type:=0,pos:= "coedit.go:96",after:= #[{ on:=0,ground:= .data }],guard:=none }
def cn (H:Hide) (n k:Nat) (u:World):Hide:=⟨fun x=>if x=n then some (.cells #[] 26) else if x=n+1 then some (.cells #[] 78) else if x=k then some (.chan 1 #[.bool true] false 0 0 true) else H x,fun x=>u.heap[x]?,H.on⟩
def z4 {x:Nat} (hk:k<v.heap.size):(dt v b k m).heap[x]? =if x=k then some (Obj.chan 1 #[.bool true] false 0 0 true) else if x=b then (((v.heap.push (.cells #[] 26)).push (.cells #[] 78))[x]?).map (fw7 m) else ((v.heap.push (.cells #[] 26)).push (.cells #[] 78))[x]? :=by
 unfold dt;simp only [fy1,f5u,f2a,fy6];by_cases e:k=x
 · subst e;simp only [f0e];rw [f02 fe]
 · simp only [fx9 e,fx9 (f3w e)];by_cases e2:b=x
   · subst e2;simp only [f0e]
   · simp only [fx9 e2,fx9 (f3w e2)]
def dw {x:Nat} {a:Array Obj} {o o':Obj}:((a.push o).push o')[x]? =if x=a.size+1 then some o' else if x=a.size then some o else a[x]? :=by
 simp only [f05,f2a]
def mi {x:Nat} (hk:k<v.heap.size) (hx:x<v.heap.size) (hb:x≠b) (hxk:x≠k):(dt v b k m).heap[x]? =v.heap[x]? :=by
 rw [z4 hk,fx9 hxk,fx9 hb,dw,fx9 fe,fx9 fe]
def fb2 {c:Array Value} {e:TypeId} (hk:k<v.heap.size) (hkb:k≠b) (hb:v.heap[b]? =some (.cells c e (0,0))):(dt v b k m).heap[b]? =some (.cells (c.setIfInBounds 6 (.int .u64 ((m+1:Nat)*K32))) e (0,0)):=by
 have hlt:b<v.heap.size:=(fx5.1 hb).1;rw [z4 hk,fx9 (f3w hkb),f02 rfl,dw,fx9 fe,fx9 fe,hb];rfl
def frj (hk:k<v.heap.size) (hkb:k≠b):StartV b k m v (dt v b k m) where
 size:=by simp [dt]
 ses:=fun c e h=>fb2 hk hkb h
 mark:=by rw [z4 hk,f02 rfl]
 same:=fun x hx h1 h2=>mi hk hx h1 h2
 os:=rfl
 output:=rfl
def frk {c:Array Value} {e:TypeId} {kk d:Nat} (rel:Rel H v w) (hHb:H b=none) (hb:v.heap[b]? =some (.cells c e (0,0))) (hk:k<v.heap.size) (hkb:k≠b) (hkw:w.heap[k]? =some (.chan 0 #[] false kk kk false)):
    Rel (cn H v.heap.size k ((ve w b k m).at d)) (dt v b k m) ((ve w b k m).at d):=by
 have hltb:b<v.heap.size:=(fx5.1 hb).1;have hbw:w.heap[b]? =some (.cells c e (0,0)):=by rw [← rel.same b hHb];exact hb
 have hu: ∀ x:Nat,((ve w b k m).at d).heap[x]? =(ve w b k m).heap[x]? :=fun x=>rfl;have hbox:=fg6 (w:=w) (b:=b) (k:=k) (m:=m) (by rw [← rel.size];exact hltb);have hn0:(ve w b k m).heap[v.heap.size]? =some (.cells #[.pointer (some ⟨b,0,none⟩)] 26 (0,0)):=hbox _ _ (by rw [rel.size];simp [boxD]);have hn1:(ve w b k m).heap[v.heap.size+1]? =some (.cells #[.chan (some k)] 78 (0,0)):=hbox _ _ (by rw [rel.size];simp [boxD]);refine ⟨?_,fun x hx=> ?_,fun x o hx=> ?_,rel.os,rel.output,fun x o hx=> ?_,fun x o hx=>rfl,fun hon x o hx ho=> ?_⟩
 · show (dt v b k m).heap.size=(ve w b k m).heap.size;rw [oh,← rel.size];simp [dt]
 · simp only [cn] at hx;split at hx
   · cases hx
   · rename_i h1;split at hx
     · cases hx
     · rename_i h2;split at hx
       · cases hx
       · rename_i h3;rw [hu];by_cases h4:x=b
         · subst h4;rw [fb2 hk hkb hb,foh hbw]
         · rcases f01 x v.heap.size with h5 | h5
           · rw [mi hk h5 h4 h3,dq h4 (by rw [← rel.size];exact h5)];exact rel.same x hx
           · rw [f09 (by simp [dt];omega),f09 (by rw [oh,← rel.size];omega)]
 · simp only [cn] at hx;rw [hu];split at hx
   · rename_i h1;subst h1;cases hx;refine ⟨?_,.inl ⟨26,_,rfl,hn0⟩⟩;rw [z4 hk,fx9 fe,fx9 fe,dw,fx9 fe,f02 rfl]
   · rename_i h1;split at hx
     · rename_i h2;subst h2;cases hx;refine ⟨?_,.inl ⟨78,_,rfl,hn1⟩⟩;rw [z4 hk,fx9 fe,fx9 fe,dw,f02 rfl]
     · rename_i h2;split at hx
       · rename_i h3;subst h3;cases hx;refine ⟨by rw [z4 hk,f02 rfl],.inr (.inr ⟨mkC #[.bool true] 0 0,kk,rfl,?_⟩)⟩;rw [dq hkb (by rw [← rel.size];exact hk)];exact hkw
       · rename_i h3;obtain ⟨h5,h6⟩:=rel.laid x o hx;have hx5:x<v.heap.size:=(fx5.1 h5).1;have h4:x≠b:=fun e=>by subst e;rw [hHb] at hx;cases hx
         rw [mi hk hx5 h4 h3,dq h4 (by rw [← rel.size];exact hx5)];exact ⟨h5,h6⟩
 · rw [z4 hk] at hx;split at hx
   · cases hx;rfl
   · split at hx
     · rename_i h2;subst h2;rw [dw,fx9 fe,fx9 fe,hb] at hx;cases hx;rfl
     · rw [dw] at hx;split at hx
       · cases hx;rfl
       · split at hx
         · cases hx;rfl
         · exact rel.objs x o hx
 · simp only [cn] at hx;split at hx
   · cases hx
   · rename_i h1;split at hx
     · cases hx
     · rename_i h2;split at hx
       · cases hx
       · rename_i h3;by_cases h4:x=b
         · subst h4;rw [fb2 hk hkb hb] at ho;cases ho;rfl
         · rcases f01 x v.heap.size with h5 | h5
           · rw [mi hk h5 h4 h3] at ho;exact rel.chans hon x o hx ho
           · rw [f09 (by simp [dt];omega)] at ho;cases ho
def foi (rel:Rel H v w) (hk:v.heap[k]? =some (.chan 0 #[] false 0 0 false)): ∃ kk,w.heap[k]? =some (.chan 0 #[] false kk kk false):=by
 cases e:H k with
 | none=>exact ⟨0,by rw [← rel.same k e];exact hk⟩
 | some o=>
   obtain ⟨h1,h2⟩:=rel.laid k o e;rw [hk] at h1;obtain rfl:=fy7 h1;rcases h2 with ⟨e,c,h,_⟩ | ⟨h,_⟩ | ⟨x,kk,h,h3⟩
   · cases h
   · cases h
   · refine ⟨kk,?_⟩;have htm:x.tm=false:=by injection h with _ _ _ _ _ h6;exact h6.symm
     rcases x.ok with ⟨_,_,_,_,h7⟩ | ⟨_,h7,_⟩
     · rw [h3,← h7,htm]
     · rw [htm] at h7;cases h7
def fuk {Fx : Nat→Option (Obj×Option Obj)} (hFx:fug Fx) {c:Array Value} {e:TypeId} (hlt: ∀ j s,WS j=some s→j<gs.size) (hb:v.heap[b]? =some (.cells c e (0,0))) (hsz:c.size=8) (h6:c[6]? =some (.int .u64 ((m:Nat)*K32))) (h7:c[7]? =some (.int .u32 0)) (hm:m<1000) (hk:v.heap[k]? =some (.chan 0 #[] false 0 0 false))
    (hmk: ∀ j s,WS j=some s→s.c≠k) (I:Inv WS Fx vb H S St Shun v w) (C:Hold Tryz.prog St Shun u5 S 0 (G (Frame.enter Tryz.prog 37 #[.pointer (some ⟨b,0,none⟩),.chan (some k)] .normal) (X::cs)) T gs w q) (hD:Deaf T 0=0)
    (hcont: ∀ v' w' H' S' St' gs' T' q',StartV b k m v v'→Inv (upd WS gs.size (some (vc v.heap.size b k))) Fx vb H' S' St' Shun v' w'→gs'.size=gs.size+1→Hold Tryz.prog St' Shun u5 S' 0 (G (ur .normal (.tuple #[]) X) cs) T' gs' w' q'→Deaf T' 0=0→Leads Tryz.prog Φ gs' w' T'):
    Leads Tryz.prog Φ gs w T:=by
 have hHb:H b=none:=I.rel.hidden_cell (a:=⟨b,6,none⟩) (x:= .int .u64 ((m:Nat)*K32)) (by simp only [World.cell?,hb];simpa using h6);have hbw:w.heap[b]? =some (.cells c e (0,0)):=by rw [← I.rel.same b hHb];exact hb
 have hklt:k<v.heap.size:=(fx5.1 hk).1;have hkb:k≠b:=fun e=>by subst e;rw [hb] at hk;cases hk
 obtain ⟨kk,hkw⟩:=foi I.rel hk
 have hHlt: ∀ x,H x≠none→x<w.heap.size:=fun x hx=>by
    cases e:H x with
    | none=>exact absurd e hx
    | some o=>rw [← I.rel.size];exact (fx5.1 (I.rel.laid x o e).1).1
 have hSW: ∀ j s,S j=some s→WS j=some s:=fun j s h=>(I.only j s h).resolve_right fi
 have hFk: ∀ x y,Fx x=some y→x≠k:=fun x y hx e=>by
    subst e;have hv:=(I.rel.laid x _ (I.fix x y hx).1).1;rw [hk] at hv;exact hFx x y hx _ _ _ _ _ _ (fy7 hv).symm
 refine (C.og I.prot (fuj (k:=k) (m:=m) (Φ:=fun g w' d=>g=G (fej b k w.heap.size [1]) (X::cs)∧(∃ d',w'=(ve w b k m).at d')∧d=0) hHb hHlt hbw hsz h6 h7 hm (.now fun d=>⟨rfl,⟨d,rfl⟩,rfl⟩)) hD).trans fun gs1 w1 T1 hh=> ?_;obtain ⟨a',q',⟨rfl,⟨d',rfl⟩,hd'⟩,hsz1,C1⟩:=hh;have hbox:=fg6 (w:=w) (b:=b) (k:=k) (m:=m) (by rw [← I.rel.size];exact (fx5.1 hb).1);have hkw1:(ve w b k m).heap[k]? =some (.chan 0 #[] false kk kk false):=by rw [dq hkb (by rw [← I.rel.size];exact hklt)];exact hkw
 have hlast: ∀ l,boxL w.heap.size l→ ¬ Shun l∧l.isMemory=true:=fun l hl=>by
    have: ∀ a:Addr,l= .cell a→w.heap.size≤a.block→ ¬ Shun l:=fun a ha hge hs=>by
     obtain ⟨a2,ha2,hh⟩:=I.prot.shun l hs;rw [ha] at ha2;cases ha2;have:=hHlt _ hh;omega
    rcases hl with rfl | rfl
    · exact ⟨this _ rfl fi,rfl⟩
    · exact ⟨this _ rfl fi,rfl⟩
 refine Hold.hire (s:=vc w.heap.size b k) (L:=boxL w.heap.size) (k:=kk) (n:=17) (a':=G (fej b k w.heap.size []) (X::cs)) (child:=born Tryz.prog (fmx w.heap.size)) C1 hd' rfl (fun d=> ?_) hkw1 (fun x o ho=> ?_) (fun x o ho=>hbox x o ho) (fun i s' h=>hmk i s' (hSW i s' h)) (by show w.heap.size+2≤((ve w b k m).at d').heap.size;rw [show ((ve w b k m).at d').heap.size=(ve w b k m).heap.size from rfl,oh];exact fx8 _) hlast (fri fun l hl=> .inr ⟨rfl,hl⟩) ?_
 · unfold fej;rw [stepG_spawn (o:=goOp) (f:= .func 78) (c:=fci w.heap.size) (d:=fmx w.heap.size) rfl rfl gh (w':=((ve w b k m).at d').at d) gw rfl,listed_none jg];rfl
 · change boxD w.heap.size b k x=some o at ho;unfold boxD at ho;split at ho
   · cases ho;exact ⟨_,_,_,rfl⟩
   · split at ho
     · cases ho;exact ⟨_,_,_,rfl⟩
     · cases ho
 · intro gs2 T2 q2 d2 hsz2 C2 hD2;rw [hsz1] at hsz2 C2;have hrel:=frk (m:=m) (d:=d2) I.rel hHb hb hklt hkb hkw;have hH': ∀ x,H x≠none→cn H v.heap.size k ((ve w b k m).at d2) x≠none:=fun x hx=>by
    simp only [cn];split
    · simp
    · split
      · simp
      · split
        · simp
        · exact hx
   have I' : Inv (upd WS gs.size (some (vc v.heap.size b k))) Fx vb (cn H v.heap.size k ((ve w b k m).at d2)) (upd S gs.size (some (vc w.heap.size b k))) (StN St gs.size (boxL w.heap.size)) Shun (dt v b k m) ((ve w b k m).at d2):=by
    refine ⟨hrel,⟨fun i s h=> ?_,fun g l hl=> ?_,fun l hl=> ?_⟩,I.on,fun x y hx=> ?_,fun _ _ h=>je,fun i s h=> ?_,fun x cap buf cl s q hx hbuf=> ?_,fun g l hl=> ?_⟩
    · by_cases e:i=gs.size
      · subst e;rw [f0b] at h;cases h;refine ⟨by simp only [cn,vc];split <;>(try split) <;>simp,fun x o ho=> ?_⟩;change boxD w.heap.size b k x=some o at ho;unfold boxD at ho;rw [← I.rel.size] at ho;simp only [cn];split at ho
        · rename_i h1;rw [f02 h1];simp
        · rename_i h1;split at ho
          · rename_i h2;rw [fx9 h1,f02 h2];simp
          · cases ho
      · rw [f0p S _ e] at h;obtain ⟨h1,h2⟩:=I.prot.seats i s h;exact ⟨hH' _ h1,fun x o ho=>hH' _ (h2 x o ho)⟩
    · rcases hl with hl | ⟨_,hl⟩
      · obtain ⟨a,ha,hh⟩:=I.prot.still g l hl;exact ⟨a,ha,hH' _ hh⟩
      · rcases hl with rfl | rfl
        · exact ⟨_,rfl,by simp [cn,I.rel.size]⟩
        · exact ⟨_,rfl,by simp [cn,I.rel.size]⟩
    · obtain ⟨a,ha,hh⟩:=I.prot.shun l hl;exact ⟨a,ha,hH' _ hh⟩
    · obtain ⟨e1,e2⟩:=I.fix x y hx;have hlt':x<v.heap.size:=by rw [I.rel.size];exact hHlt x (by rw [e1];simp)
      have hxk:x≠k:=fun h=>hFk x y hx h;have hxb:x≠b:=fun h=>by rw [h,hHb] at e1;cases e1
      refine ⟨by simp only [cn];rw [fx9 fe,fx9 fe,fx9 hxk];exact e1,?_⟩;show ((ve w b k m).at d2).heap[x]? =_;rw [show ((ve w b k m).at d2).heap=(ve w b k m).heap from rfl,dq hxb (by rw [← I.rel.size];exact hlt'),I.rel.kept x _ e1];exact e2
    · by_cases e:i=gs.size
      · subst e;rw [f0b] at h;rw [f0b,I.rel.size];exact .inl h
      · rw [f0p S _ e] at h;rw [f0p WS _ e];exact .inl (hSW i s h)
    · simp only [cn] at hx;split at hx
      · cases hx
      · split at hx
        · cases hx
        · split at hx
          · rename_i h3;subst h3;cases hx
            exact ⟨rfl,gs.size,_,f0b _ _ _,rfl,by rw [f0b,I.rel.size],rfl,(by cases e:Fx x with
              | none=>rfl
              | some y=>exact absurd rfl (hFk x y e))⟩
          · obtain ⟨h1,j,s',h3,h4,h5,h8,h9⟩:=I.marks x cap buf cl s q hx hbuf;have hj:j≠gs.size:=fun e=>by have:=hlt j s' h3;omega
            exact ⟨h1,j,s',by rw [f0p WS _ hj];exact h3,h4,by rw [f0p S _ hj];exact h5,h8,h9⟩
    · rcases hl with hl | ⟨rfl,_⟩
      · by_cases e:g=gs.size
        · subst e;exact .inr (.inl (by rw [f0b];simp))
        · rcases I.who g l hl with h1 | h1 | h1
          · exact .inl h1
          · exact .inr (.inl (by rw [f0p WS _ e];exact h1))
          · exact absurd rfl h1
      · exact .inr (.inl (by rw [f0b];simp))
   refine (C2.og I'.prot (Φ:=fun g w' d=>g=G (ur .normal (.tuple #[]) X) cs∧(∃ d',w'=(ve w b k m).at d')∧d=0) (k:=0) ?_ hD2).trans fun gs3 w3 T3 hh=> ?_
   · unfold fej;exact u7 (fiu (ze (.inl rfl) rfl Tryz.func37 (f2z Tryz.results37 _) (.now fun d=>⟨rfl,⟨d,rfl⟩,rfl⟩)))
   · obtain ⟨a3,q3,⟨rfl,⟨d3,rfl⟩,hd3⟩,hsz3,C3⟩:=hh;have I3:Inv (upd WS gs.size (some (vc v.heap.size b k))) Fx vb (cn H v.heap.size k ((ve w b k m).at d2)) (upd S gs.size (some (vc w.heap.size b k))) (StN St gs.size (boxL w.heap.size)) Shun (dt v b k m) ((ve w b k m).at d3):=I'.step (I'.rel.re _ _);exact hcont _ _ _ _ _ _ _ _ (frj hklt hkb) I3 fe C3 hd3
end
structure Goal where
 at_:Array Goroutine→World→Trace→Prop
 fx:Nat→Option (Obj×Option Obj)
 ok:fug fx
def fha (Fx:Nat→Option (Obj×Option Obj)) (WS:Nat→Option SeatD) (Shun:Loc→Prop) (v:World) (g:Goroutine) (gs:Array Goroutine) (w:World) (T:Trace):Prop:=
 ∃ H S St q,(∀ j s,WS j=some s→j<gs.size)∧Inv WS Fx vb H S St Shun v w∧Hold Tryz.prog St Shun u5 S 0 g T gs w q∧Deaf T 0=0
def Co (Φ:Goal) (WS:Nat→Option SeatD) (Shun:Loc→Prop) (v:World) (N:Nat) (g:Goroutine):Prop:=
 ∀ gs w T,gs.size=N→fha Φ.fx WS Shun v g gs w T→Leads Tryz.prog Φ.at_ gs w T
def KV (v u:World):Prop:= ∀ p x,v.cell? p=some x→u.cell? p=some x
def EvV (v:World) (e:Event):Prop:= ∃ p x,e=⟨.cell p,false,false⟩∧v.cell? p=some x
section
variable {Φ:Goal} {WS:Nat→Option SeatD} {Shun:Loc→Prop} {v:World} {N:Nat} {g:Goroutine} {cs:List Frame} {X:Frame}
def co_wk (h:WKE Tryz.prog true (KV v) (EvV v) (fun g d=>d=0∧Co Φ WS Shun v N g) g 0):Co Φ WS Shun v N g:=by
 rintro gs w T hN ⟨H,S,St,q,hlt,I,C,hD⟩
 have hog:OG Tryz.prog (0==0) H Shun (fun g w' d=>d=0∧(∃ d',w'=w.at d')∧Co Φ WS Shun v N g) g w 0:=by
    refine fwm (K:=KV v) (E:=EvV v) (fun t p x hp=>I.rel.cell hp) (fun e he=> ?_) (h.mono fun g d hh=>ug (.now fun d'=>⟨hh.1,⟨d',rfl⟩,hh.2⟩));obtain ⟨p,x,rfl,hp⟩:=he;exact xh (I.rel.hidden_cell hp) (zq (I.rel.cell hp)) _ _
 refine (C.og I.prot hog hD).trans fun gs1 w1 T1 hh=> ?_;obtain ⟨a',q',⟨hd,⟨d',rfl⟩,hco⟩,hsz,C1⟩:=hh;exact hco gs1 _ T1 (hsz.trans hN) ⟨H,S,St,q',fun j s hj=>by rw [hsz];exact hlt j s hj,I.step (I.rel.re _ _),C1,hd⟩
def frl {b sb ab n cp c0 j0:Nat} {kb ch:Nat→Nat} (W:SesW b j0 n c0 ch WS N) (V:SesV b sb ab n cp c0 kb ch v) (hcont: ∀ v',fll (fun x=>x=b∨x=c0∨ ∃ i,i<n∧x=ch i) v v'→Co Φ vb (fax b Shun) v' N (G (ur .normal (.tuple #[]) X) cs)):
    Co Φ WS Shun v N (G (Frame.enter Tryz.prog 12 #[.pointer (some ⟨b,0,none⟩)] .normal) (X::cs)):=by
 rintro gs w T hN ⟨H,S,St,q,hlt,I,C,hD⟩;refine stop_co Φ.ok (by rw [hN];exact W) V I C hD fun v' w' H' St' gs' T' q' hv I' hsz C' hD'=> ?_;exact hcont v' hv gs' w' T' (hsz.trans hN) ⟨H',vb,St',q',fun j s hj=>(by cases hj),I',C',hD'⟩
def fn1 {b k m:Nat} {c:Array Value} {e:TypeId} (hb:v.heap[b]? =some (.cells c e (0,0))) (hsz:c.size=8) (h6:c[6]? =some (.int .u64 ((m:Nat)*K32))) (h7:c[7]? =some (.int .u32 0)) (hm:m<1000) (hk:v.heap[k]? =some (.chan 0 #[] false 0 0 false))
    (hmk: ∀ j s,WS j=some s→s.c≠k) (hcont: ∀ v',StartV b k m v v'→Co Φ (upd WS N (some (vc v.heap.size b k))) Shun v' (N+1) (G (ur .normal (.tuple #[]) X) cs)):
    Co Φ WS Shun v N (G (Frame.enter Tryz.prog 37 #[.pointer (some ⟨b,0,none⟩),.chan (some k)] .normal) (X::cs)):=by
 rintro gs w T hN ⟨H,S,St,q,hlt,I,C,hD⟩;refine fuk Φ.ok hlt hb hsz h6 h7 hm hk hmk I C hD fun v' w' H' S' St' gs' T' q' hv I' hsz' C' hD'=> ?_;rw [hN] at I' hsz';refine hcont v' hv gs' w' T' hsz' ⟨H',S',St',q',fun j s hj=> ?_,I',C',hD'⟩;by_cases e:j=N
 · omega
 · rw [f0p WS _ e] at hj;have:=hlt j s hj;omega
structure SesN (b j0 n:Nat) (ch:Nat→Nat) (WS:Nat→Option SeatD):Prop where
 at_: ∀ i,i<n→ ∃ m,WS (j0+i)=some (vc m b (ch i))
 no: ∀ k,WS k≠none→j0≤k∧k<j0+n
 inj: ∀ i i',i<n→i'<n→ch i=ch i'→i=i'
def SesN.none {b j0:Nat} {ch:Nat→Nat}:SesN b j0 0 ch vb:=⟨fun i hi=>by omega,fun k h=>absurd rfl h,fun i i' hi=>by omega⟩
def SesN.more {b j0 n m:Nat} {ch:Nat→Nat} {WS:Nat→Option SeatD} (W:SesN b j0 n ch WS) (hne: ∀ i,i<n→ch i≠ch n):SesN b j0 (n+1) ch (upd WS (j0+n) (some (vc m b (ch n)))):=by
 refine ⟨fun i hi=> ?_,fun k hk=> ?_,fun i i' hi hi' h=> ?_⟩
 · by_cases e:i=n
   · subst e;exact ⟨m,f0b _ _ _⟩
   · obtain ⟨m',hm'⟩:=W.at_ i fe;exact ⟨m',by rw [f0p WS _ fe];exact hm'⟩
 · by_cases e:k=j0+n
   · omega
   · rw [f0p WS _ e] at hk;have:=W.no k hk;omega
 · by_cases e:i=n
   · by_cases e':i'=n
     · omega
     · subst e;exact absurd h.symm (hne i' fe)
   · by_cases e':i'=n
     · subst e';exact absurd h (hne i fe)
     · exact W.inj i i' fe fe h
def SesN.seat {b j0 n:Nat} {ch:Nat→Nat} {WS:Nat→Option SeatD} (W:SesN b j0 n ch WS) {j:Nat} {s:SeatD} (h:WS j=some s): ∃ i m,i<n∧j=j0+i∧s=vc m b (ch i):=by
 have hr:=W.no j (by rw [h];simp);obtain ⟨m,hm⟩:=W.at_ (j-j0) fe;rw [show j0+(j-j0)=j from by omega,h] at hm;exact ⟨j-j0,m,by omega,by omega,fy7 hm⟩
def SesN.ok {b j0 n:Nat} {ch:Nat→Nat} {WS:Nat→Option SeatD} {Shun:Loc→Prop} (W:SesN b j0 n ch WS):WsOk WS Shun:=by
 refine ⟨fun j s h=> ?_,fun i j s s' h h' hc=> ?_⟩
 · obtain ⟨i,m,_,_,rfl⟩:=W.seat h;exact ⟨rfl,rfl,_,[fau],by simp,fun g=>Iff.rfl⟩
 · obtain ⟨i1,m1,h1,rfl,rfl⟩:=W.seat h;obtain ⟨i2,m2,h2,rfl,rfl⟩:=W.seat h';have:=W.inj i1 i2 h1 h2 hc;omega
def bg {Shun:Loc→Prop}:WsOk vb Shun:=⟨fun _ _ h=>je,fun _ _ _ _ h=>je⟩
def SesN.all {b j0 n:Nat} {ch:Nat→Nat} {WS:Nat→Option SeatD} (W:SesN b j0 (n+1) ch WS) (hp:1≤j0) (hN:j0+(n+1)≤N):SesW b j0 n (ch 0) (fun i=>ch (i+1)) WS N:=by
 refine ⟨hp,hN,?_,fun i hi=> ?_,fun k hk=>W.no k hk,fun j s h=> ?_,(SesN.ok (Shun:=fun _=>False) W).inj⟩
 · obtain ⟨m,hm⟩:=W.at_ 0 fe;exact ⟨_,hm,rfl⟩
 · obtain ⟨m,hm⟩:=W.at_ (i+1) fe;exact ⟨_,by rw [show j0+1+i=j0+(i+1) from by omega];exact hm,rfl⟩
 · obtain ⟨i,m,_,_,rfl⟩:=W.seat h;exact ⟨rfl,rfl,fun g=>Iff.rfl⟩
end
end Go.Proofs.YtelecjnabeokeaaGreatDoor
namespace Go.Proofs.YtelecjnabeokeaaGreatDoor
open Go Go.RowKit
def ra {i:Nat} {fn:Func} {c:Code} (hf:PV.funcs[i]? =some fn) (hn:(fn.name== "runtime.NumGoroutine")=false) (hb:fn.body=some c) (args:Array Value) (w:World):(callFunc i args).run PV w= .ok (.enter i args) w:=by
 have h2:fn.body.isNone=false:=by rw [hb];rfl
 unfold callFunc;simp only [Go.program,Bind.bind,Sem.bind,Sem.run,hf,hn,h2,f0g,f0s,Pure.pure]
def wg (i:Nat) (fn fn':Func) (h:Tryz.prog.funcs[i]? =some fn) (hv:nt i fn=fn'):PV.funcs[i]? =some fn':=by
 rw [fl2,wy,h];exact f3q some hv
def pf {i:Nat} {fn:Func} {c:Code} (h:Tryz.prog.funcs[i]? =some fn) (hs:specials.contains i=false:=by kernel_rfl) (hr:rowsKept.contains i=false:=by kernel_rfl) (hb:fn.body=some c:=by rfl) (hc:(va c&&yb c&&fn.name != "runtime.NumGoroutine")=true:=by kernel_rfl):PV.funcs[i]? =some fn:=rd i fn c h hs hr hb hc
def pc {i:Nat} {fn:Func} {c:Code} (hf:PV.funcs[i]? =some fn) (args:Array Value) (w:World) (hn:(fn.name== "runtime.NumGoroutine")=false:=by kernel_rfl) (hb:fn.body=some c:=by rfl):(callFunc i args).run PV w= .ok (.enter i args) w:=ra hf hn hb args w
def PV.func7:PV.funcs[7]? =some Tryz.f7:=pf Tryz.func7
@[go_sem] def PV.call7:=fun x w=>pc PV.func7 x w
def PV.func9:PV.funcs[9]? =some Tryz.f9:=pf Tryz.func9
@[go_sem] def PV.call9:=fun x w=>pc PV.func9 x w
def PV.func10:PV.funcs[10]? =some Tryz.f10:=pf Tryz.func10
@[go_sem] def PV.call10:=fun x w=>pc PV.func10 x w
def PV.func11:PV.funcs[11]? =some Tryz.f11:=pf Tryz.func11
@[go_sem] def PV.call11:=fun x w=>pc PV.func11 x w
def PV.func13:PV.funcs[13]? =some Tryz.f13:=pf Tryz.func13
@[go_sem] def PV.call13:=fun x w=>pc PV.func13 x w
def PV.func16:PV.funcs[16]? =some Tryz.f16:=pf Tryz.func16
@[go_sem] def PV.call16:=fun x w=>pc PV.func16 x w
def PV.func17:PV.funcs[17]? =some Tryz.f17:=pf Tryz.func17
@[go_sem] def PV.call17:=fun x w=>pc PV.func17 x w
def PV.func19:PV.funcs[19]? =some Tryz.f19:=pf Tryz.func19
@[go_sem] def PV.call19:=fun x w=>pc PV.func19 x w
def PV.func20:PV.funcs[20]? =some Tryz.f20:=pf Tryz.func20
@[go_sem] def PV.call20:=fun x w=>pc PV.func20 x w
def PV.func21:PV.funcs[21]? =some Tryz.f21:=pf Tryz.func21
@[go_sem] def PV.call21:=fun x w=>pc PV.func21 x w
def PV.func22:PV.funcs[22]? =some Tryz.f22:=pf Tryz.func22
@[go_sem] def PV.call22:=fun x w=>pc PV.func22 x w
def PV.func23:PV.funcs[23]? =some Tryz.f23:=pf Tryz.func23
@[go_sem] def PV.call23:=fun x w=>pc PV.func23 x w
def PV.func24:PV.funcs[24]? =some Tryz.f24:=pf Tryz.func24
@[go_sem] def PV.call24:=fun x w=>pc PV.func24 x w
def PV.func25:PV.funcs[25]? =some Tryz.f25:=pf Tryz.func25
@[go_sem] def PV.call25:=fun x w=>pc PV.func25 x w
def PV.func26:PV.funcs[26]? =some Tryz.f26:=pf Tryz.func26
@[go_sem] def PV.call26:=fun x w=>pc PV.func26 x w
def PV.func27:PV.funcs[27]? =some Tryz.f27:=pf Tryz.func27
@[go_sem] def PV.call27:=fun x w=>pc PV.func27 x w
def PV.func34:PV.funcs[34]? =some Tryz.f34:=pf Tryz.func34
@[go_sem] def PV.call34:=fun x w=>pc PV.func34 x w
def PV.func35:PV.funcs[35]? =some Tryz.f35:=pf Tryz.func35
@[go_sem] def PV.call35:=fun x w=>pc PV.func35 x w
def PV.func36:PV.funcs[36]? =some Tryz.f36:=pf Tryz.func36
@[go_sem] def PV.call36:=fun x w=>pc PV.func36 x w
def PV.func38:PV.funcs[38]? =some Tryz.f38:=pf Tryz.func38
@[go_sem] def PV.call38:=fun x w=>pc PV.func38 x w
def PV.func39:PV.funcs[39]? =some Tryz.f39:=pf Tryz.func39
@[go_sem] def PV.call39:=fun x w=>pc PV.func39 x w
def PV.func40:PV.funcs[40]? =some Tryz.f40:=pf Tryz.func40
@[go_sem] def PV.call40:=fun x w=>pc PV.func40 x w
def PV.func41:PV.funcs[41]? =some Tryz.f41:=pf Tryz.func41
@[go_sem] def PV.call41:=fun x w=>pc PV.func41 x w
def PV.func42:PV.funcs[42]? =some Tryz.f42:=pf Tryz.func42
@[go_sem] def PV.call42:=fun x w=>pc PV.func42 x w
def PV.func43:PV.funcs[43]? =some Tryz.f43:=pf Tryz.func43
@[go_sem] def PV.call43:=fun x w=>pc PV.func43 x w
def PV.func44:PV.funcs[44]? =some Tryz.f44:=pf Tryz.func44
@[go_sem] def PV.call44:=fun x w=>pc PV.func44 x w
def PV.func45:PV.funcs[45]? =some Tryz.f45:=pf Tryz.func45
@[go_sem] def PV.call45:=fun x w=>pc PV.func45 x w
def PV.func47:PV.funcs[47]? =some Tryz.f47:=pf Tryz.func47
def PV.func48:PV.funcs[48]? =some Tryz.f48:=pf Tryz.func48
@[go_sem] def PV.call48:=fun x w=>pc PV.func48 x w
def PV.func49:PV.funcs[49]? =some Tryz.f49:=pf Tryz.func49
@[go_sem] def PV.call49:=fun x w=>pc PV.func49 x w
def PV.func50:PV.funcs[50]? =some Tryz.f50:=pf Tryz.func50
def PV.func51:PV.funcs[51]? =some Tryz.f51:=pf Tryz.func51
@[go_sem] def PV.call51:=fun x w=>pc PV.func51 x w
def PV.func52:PV.funcs[52]? =some Tryz.f52:=pf Tryz.func52
def PV.func53:PV.funcs[53]? =some Tryz.f53:=pf Tryz.func53
@[go_sem] def PV.call53:=fun x w=>pc PV.func53 x w
def PV.func54:PV.funcs[54]? =some Tryz.f54:=pf Tryz.func54
def PV.func55:PV.funcs[55]? =some Tryz.f55:=pf Tryz.func55
@[go_sem] def PV.call55:=fun x w=>pc PV.func55 x w
def PV.func56:PV.funcs[56]? =some Tryz.f56:=pf Tryz.func56
def PV.func59:PV.funcs[59]? =some Tryz.f59:=pf Tryz.func59
@[go_sem] def PV.call59:=fun x w=>pc PV.func59 x w
def PV.func60:PV.funcs[60]? =some Tryz.f60:=pf Tryz.func60
@[go_sem] def PV.call60:=fun x w=>pc PV.func60 x w
def PV.func76:PV.funcs[76]? =some Tryz.f76:=pf Tryz.func76
@[go_sem] def PV.call76:=fun x w=>pc PV.func76 x w
def PV.func83:PV.funcs[83]? =some Tryz.f83:=pf Tryz.func83
@[go_sem] def PV.call83:=fun x w=>pc PV.func83 x w
def PV.func85:PV.funcs[85]? =some Tryz.f85:=pf Tryz.func85
@[go_sem] def PV.call85:=fun x w=>pc PV.func85 x w
def PV.func87:PV.funcs[87]? =some Tryz.f87:=pf Tryz.func87
@[go_sem] def PV.call87:=fun x w=>pc PV.func87 x w
def PV.func88:PV.funcs[88]? =some Tryz.f88:=pf Tryz.func88
@[go_sem] def PV.call88:=fun x w=>pc PV.func88 x w
def PV.func89:PV.funcs[89]? =some Tryz.f89:=pf Tryz.func89
@[go_sem] def PV.call89:=fun x w=>pc PV.func89 x w
def PV.func91:PV.funcs[91]? =some Tryz.f91:=pf Tryz.func91
@[go_sem] def PV.call91:=fun x w=>pc PV.func91 x w
def PV.func92:PV.funcs[92]? =some Tryz.f92:=pf Tryz.func92
@[go_sem] def PV.call92:=fun x w=>pc PV.func92 x w
def PV.func93:PV.funcs[93]? =some Tryz.f93:=pf Tryz.func93
@[go_sem] def PV.call93:=fun x w=>pc PV.func93 x w
def PV.func94:PV.funcs[94]? =some Tryz.f94:=pf Tryz.func94
@[go_sem] def PV.call94:=fun x w=>pc PV.func94 x w
def PV.func115:PV.funcs[115]? =some Tryz.f115:=pf Tryz.func115
@[go_sem] def PV.call115:=fun x w=>pc PV.func115 x w
def PV.func117:PV.funcs[117]? =some Tryz.f117:=pf Tryz.func117
@[go_sem] def PV.call117:=fun x w=>pc PV.func117 x w
def PV.func129:PV.funcs[129]? =some Tryz.f129:=pf Tryz.func129
@[go_sem] def PV.call129:=fun x w=>pc PV.func129 x w
def PV.func131:PV.funcs[131]? =some Tryz.f131:=pf Tryz.func131
@[go_sem] def PV.call131:=fun x w=>pc PV.func131 x w
def PV.func167:PV.funcs[167]? =some Tryz.f167:=pf Tryz.func167
@[go_sem] def PV.call167:=fun x w=>pc PV.func167 x w
def PV.func170:PV.funcs[170]? =some Tryz.f170:=pf Tryz.func170
@[go_sem] def PV.call170:=fun x w=>pc PV.func170 x w
def PV.func171:PV.funcs[171]? =some Tryz.f171:=pf Tryz.func171
@[go_sem] def PV.call171:=fun x w=>pc PV.func171 x w
def PV.func172:PV.funcs[172]? =some Tryz.f172:=pf Tryz.func172
@[go_sem] def PV.call172:=fun x w=>pc PV.func172 x w
def PV.func175:PV.funcs[175]? =some Tryz.f175:=pf Tryz.func175
@[go_sem] def PV.call175:=fun x w=>pc PV.func175 x w
def PV.func176:PV.funcs[176]? =some Tryz.f176:=pf Tryz.func176
@[go_sem] def PV.call176:=fun x w=>pc PV.func176 x w
def PV.func177:PV.funcs[177]? =some Tryz.f177:=pf Tryz.func177
@[go_sem] def PV.call177:=fun x w=>pc PV.func177 x w
def PV.func180:PV.funcs[180]? =some Tryz.f180:=pf Tryz.func180
@[go_sem] def PV.call180:=fun x w=>pc PV.func180 x w
def PV.func181:PV.funcs[181]? =some Tryz.f181:=pf Tryz.func181
@[go_sem] def PV.call181:=fun x w=>pc PV.func181 x w
def PV.func46:PV.funcs[46]? =some doV:=wg 46 _ _ Tryz.func46 rfl
@[go_sem] def PV.call46:=fun x w=>pc PV.func46 x w
def PV.func57:PV.funcs[57]? =some lockV:=wg 57 _ _ Tryz.func57 rfl
@[go_sem] def PV.call57:=fun x w=>pc PV.func57 x w
def PV.func58:PV.funcs[58]? =some unlockV:=wg 58 _ _ Tryz.func58 rfl
@[go_sem] def PV.call58:=fun x w=>pc PV.func58 x w
def PV.func75:PV.funcs[75]? =some ccV:=wg 75 _ _ Tryz.func75 rfl
@[go_sem] def PV.call75:=fun x w=>pc PV.func75 x w
def PV.func90:PV.funcs[90]? =some putV:=wg 90 _ _ Tryz.func90 rfl
@[go_sem] def PV.call90:=fun x w=>pc PV.func90 x w
def PV.func116:PV.funcs[116]? =some peekV:=wg 116 _ _ Tryz.func116 rfl
@[go_sem] def PV.call116:=fun x w=>pc PV.func116 x w
def PV.func80:PV.funcs[80]? =some Tryz.f80:=wg 80 _ _ Tryz.func80 rfl
def PV.func81:PV.funcs[81]? =some Tryz.f81:=wg 81 _ _ Tryz.func81 rfl
def PV.func82:PV.funcs[82]? =some Tryz.f82:=wg 82 _ _ Tryz.func82 rfl
def PV.func84:PV.funcs[84]? =some Tryz.f84:=wg 84 _ _ Tryz.func84 rfl
def PV.func113:PV.funcs[113]? =some Tryz.f113:=wg 113 _ _ Tryz.func113 rfl
def PV.func114:PV.funcs[114]? =some Tryz.f114:=wg 114 _ _ Tryz.func114 rfl
def PV.func130:PV.funcs[130]? =some Tryz.f130:=wg 130 _ _ Tryz.func130 rfl
def PV.func146:PV.funcs[146]? =some Tryz.f146:=wg 146 _ _ Tryz.func146 rfl
def PV.func157:PV.funcs[157]? =some Tryz.f157:=wg 157 _ _ Tryz.func157 rfl
def PV.func158:PV.funcs[158]? =some Tryz.f158:=wg 158 _ _ Tryz.func158 rfl
def PV.func159:PV.funcs[159]? =some Tryz.f159:=wg 159 _ _ Tryz.func159 rfl
def PV.func160:PV.funcs[160]? =some Tryz.f160:=wg 160 _ _ Tryz.func160 rfl
end Go.Proofs.YtelecjnabeokeaaGreatDoor
namespace Go.Proofs.YtelecjnabeokeaaGreatDoor
namespace Plain
structure El where
 r:Int
 c:Int
 n:Int
deriving DecidableEq
def El.zero:El:=⟨0,0,0⟩
structure Chg where
 kind:Int
 pos:Int
 e:El
 cl:Int
deriving DecidableEq
structure Frm where
 chg:Chg
 mine:Int
 other:Int
 cur:Int
structure Sent where
 chg:Chg
 mine:Int
structure EndS where
 mine:Int
 other:Int
 acked:Int
 row:List Sent
def insPast (k m:Int) (b:Chg):Int:=
 if b.kind=1 then (if k>b.pos∨k=b.pos∧m≥b.cl then k+1 else k)
 else if b.kind=2 then (if k>b.pos then k-1 else k) else k
def past (a b:Chg):Chg:=
 if a.kind=1 then ⟨1,insPast a.pos a.cl b,a.e,a.cl⟩
 else if a.kind=2 then
    if b.kind=1 then ⟨2,if a.pos≥b.pos then a.pos+1 else a.pos,.zero,a.cl⟩
    else if b.kind=2 then if a.pos=b.pos then ⟨3,0,.zero,a.cl⟩ else ⟨2,if a.pos>b.pos then a.pos-1 else a.pos,.zero,a.cl⟩
    else ⟨2,a.pos,.zero,a.cl⟩
 else ⟨3,0,.zero,a.cl⟩
def index (a:Chg) (k:Int):Int:=
 if a.kind=1 then (if a.pos≤k then k+1 else k) else if a.kind=2 then (if a.pos<k then k-1 else k) else k
def apply (a:Chg) (t:List El):List El:=
 if a.kind=1 then t.take a.pos.toNat++a.e::t.drop a.pos.toNat
 else if a.kind=2 then t.take a.pos.toNat++t.drop (a.pos.toNat+1) else t
def Fits (a:Chg) (n:Nat):Prop:=(a.kind=1→0≤a.pos∧a.pos≤n)∧(a.kind=2→0≤a.pos∧a.pos<n)
structure Norm (a:Chg):Prop where
 kind:a.kind=1∨a.kind=2∨a.kind=3
 del:a.kind=2→a.e= .zero
 non:a.kind=3→a.pos=0∧a.e= .zero
def past_cl (a b:Chg):(past a b).cl=a.cl:=by unfold past;repeat' split <;>try rfl
def past_norm (a b:Chg):Norm (past a b):=by
 unfold past;repeat' split
 all_goals exact ⟨by simp,by simp,by simp⟩
def grow (a:Chg) (n:Nat):Nat:=if a.kind=1 then n+1 else if a.kind=2 then n-1 else n
def apply_length {a:Chg} {t:List El} (h:Fits a t.length):(apply a t).length=grow a t.length:=by
 unfold apply grow;split
 · rename_i h1;have:=h.1 h1;simp only [f0a,f2d,fz6,f2p];omega
 · split
   · rename_i h1;have:=h.2 h1;simp only [f0a,f2d,f2p];omega
   · rfl
def fad {a:Chg} {t:List El} (h:Fits a t.length) (i:Nat):(apply a t)[i]? =
    if a.kind=1 then (if (i:Int)<a.pos then t[i]? else if (i:Int)=a.pos then some a.e else t[i-1]?)
    else if a.kind=2 then (if (i:Int)<a.pos then t[i]? else t[i+1]?) else t[i]? :=by
 unfold apply;split
 · rename_i h1;have:=h.1 h1;by_cases h2:(i:Int)<a.pos
   · rw [f02 h2,f1d ja,f5r,f02 fe]
   · rw [fx9 h2,f0y ja];simp only [f2d];by_cases h3:(i:Int)=a.pos
     · rw [f02 h3,show i-min a.pos.toNat t.length=0 from by omega];rfl
     · rw [fx9 h3,show i-min a.pos.toNat t.length=(i-1-a.pos.toNat)+1 from by omega,fy0,List.getElem?_drop,show a.pos.toNat+(i-1-a.pos.toNat)=i-1 from by omega]
 · split
   · rename_i h1;have:=h.2 h1;by_cases h2:(i:Int)<a.pos
     · rw [f02 h2,f1d ja,f5r,f02 fe]
     · rw [fx9 h2,f0y ja,List.getElem?_drop];simp only [f2d];rw [show a.pos.toNat+1+(i-min a.pos.toNat t.length)=i+1 from by omega]
   · rfl
def lq {a b:Chg} {n:Nat} (ha:Fits a n) (hb:Fits b n):Fits (past a b) (grow b n):=by
 unfold Fits at*;unfold past insPast grow;repeat' split
 all_goals (simp only [] at*;try omega)
def fw8 {a b:Chg} {t:List El} (ha:Fits a t.length) (hb:Fits b t.length) (hc:a.cl≠b.cl):apply (past b a) (apply a t)=apply (past a b) (apply b t):=by
 have fa:=lq hb ha;have fb:=lq ha hb;rw [← apply_length ha] at fa;rw [← apply_length hb] at fb;refine List.ext_getElem? fun i=> ?_;rw [fad fa,fad fb];simp only [fad ha,fad hb];unfold Fits at ha hb;rcases a with ⟨ak,ap,ae,ac⟩;rcases b with ⟨bk,bp,be,bc⟩;obtain ⟨ha1,ha2⟩:=ha;obtain ⟨hb1,hb2⟩:=hb;clear fa fb;simp only [] at*;by_cases a1:ak=1
 · subst a1;obtain ⟨A,A'⟩:=ha1 rfl;clear ha1 ha2;by_cases b1:bk=1
   · subst b1;obtain ⟨B,B'⟩:=hb1 rfl;clear hb1 hb2;simp only [past,insPast,f0e];simp only [ge_iff_le,f0e] at*;repeat' split
     all_goals first | rfl | omega | (exact f3q (fun k=>t[k]?) fe) | skip
   · by_cases b2:bk=2
     · subst b2;obtain ⟨B,B'⟩:=hb2 rfl;clear hb1 hb2;simp only [past,insPast,f0e];simp at*;repeat' split
       all_goals first | rfl | omega | (exact f3q (fun k=>t[k]?) fe) | skip
     · simp only [past,insPast,b1,b2,f0e,f0s];simp at*
 · by_cases a2:ak=2
   · subst a2;obtain ⟨A,A'⟩:=ha2 rfl;clear ha1 ha2;by_cases b1:bk=1
     · subst b1;obtain ⟨B,B'⟩:=hb1 rfl;clear hb1 hb2;simp only [past,insPast,f0e];simp at*;repeat' split
       all_goals first | rfl | omega | (exact f3q (fun k=>t[k]?) fe) | skip
     · by_cases b2:bk=2
       · subst b2;obtain ⟨B,B'⟩:=hb2 rfl;clear hb1 hb2;simp only [past,insPast,f0e];simp at*;by_cases e:ap=bp
         · subst e;simp
         · simp [e,f3w e];repeat' split
           all_goals first | rfl | omega | (exact f3q (fun k=>t[k]?) fe) | skip
       · simp only [past,insPast,b1,b2,f0e,f0s];simp at*
   · by_cases b1:bk=1
     · subst b1;simp [past,insPast,a1,a2]
     · by_cases b2:bk=2
       · subst b2;simp [past,insPast,a1,a2]
       · simp [past,insPast,a1,a2,b1,b2]
end Plain
open Go Go.RowKit
abbrev i64 (n:Int):Value:= .int .i64 n
abbrev elV (e:Plain.El):Value:= .agg #[.int .i32 e.r,.int .i64 e.c,.int .i64 e.n]
abbrev chgV (a:Plain.Chg):Value:= .agg #[.int .i64 a.kind,.int .i64 a.pos,.int .i32 a.e.r,.int .i64 a.e.c,.int .i64 a.e.n,.int .i64 a.cl]
abbrev insV (a:Plain.Chg):Value:= .agg #[.int .i64 a.pos,.int .i32 a.e.r,.int .i64 a.e.c,.int .i64 a.e.n]
abbrev delV (a:Plain.Chg):Value:= .agg #[.int .i64 a.pos]
def opV (a:Plain.Chg):Value:=if a.kind=1 then .iface 219 (insV a) else if a.kind=2 then .iface 221 (delV a) else .iface 222 (.agg #[])
def opV1 {a:Plain.Chg} (h:a.kind=1):opV a= .iface 219 (insV a):=f02 h
def opV2 {a:Plain.Chg} (h:a.kind=2):opV a= .iface 221 (delV a):=by unfold opV;rw [fx9 fe,f02 h]
def opV3 {a:Plain.Chg} (h:a.kind≠1) (h':a.kind≠2):opV a= .iface 222 (.agg #[]):=by unfold opV;rw [fx9 h,fx9 h']
@[go_sem] def mk219 (v:Value) (w:World):(Instr.makeInterface 219 v).run PV w= .ok (.iface 219 v) w:=by kernel_rfl
@[go_sem] def mk221 (v:Value) (w:World):(Instr.makeInterface 221 v).run PV w= .ok (.iface 221 v) w:=by kernel_rfl
@[go_sem] def mk222 (v:Value) (w:World):(Instr.makeInterface 222 v).run PV w= .ok (.iface 222 v) w:=by kernel_rfl
def frm (p r c n k:Int) (w:World) (h1: -1000000≤k) (h2:k≤1000000):Calls PV 170 #[.agg #[.int .i64 p,.int .i32 r,.int .i64 c,.int .i64 n],.int .i64 k] w fun x w'=>x= .returned (.int .i64 (if p≤k then k+1 else k))∧Below w.heap.size w w':=by
 go_enter PV.func170,Tryz.ntmps170;go_wp2;all_goals (go_ret;exact ⟨rfl,(Below.refl _ _).alloc (fx8 _) _⟩)
def frn (p k:Int) (w:World) (h1: -1000000≤k) (h2:k≤1000000):Calls PV 175 #[.agg #[.int .i64 p],.int .i64 k] w fun x w'=>x= .returned (.int .i64 (if p<k then k-1 else k))∧Below w.heap.size w w':=by
 go_enter PV.func175,Tryz.ntmps175;go_wp2;all_goals (go_ret;exact ⟨rfl,(Below.refl _ _).alloc (fx8 _) _⟩)
def fro (k:Int) (w:World):Calls PV 180 #[.agg #[],.int .i64 k] w fun x w'=>x= .returned (.int .i64 k)∧Below w.heap.size w w':=by
 go_enter PV.func180,Tryz.ntmps180;go_wp2;all_goals (go_ret;exact ⟨rfl,(Below.refl _ _).alloc (fx8 _) _⟩)
def fn2 (pos r c n cl:Int) (w:World):Calls PV 115 #[.agg #[.int .i64 1,.int .i64 pos,.int .i32 r,.int .i64 c,.int .i64 n,.int .i64 cl]] w fun x w'=>x= .returned (.iface 219 (.agg #[.int .i64 pos,.int .i32 r,.int .i64 c,.int .i64 n]))∧Below w.heap.size w w':=by
 go_enter PV.func115,Tryz.ntmps115;go_wp2;go_ret;exact ⟨rfl,(Below.refl _ _).alloc (fx8 _) _⟩
def fn3 (pos r c n cl:Int) (w:World):Calls PV 115 #[.agg #[.int .i64 2,.int .i64 pos,.int .i32 r,.int .i64 c,.int .i64 n,.int .i64 cl]] w fun x w'=>x= .returned (.iface 221 (.agg #[.int .i64 pos]))∧Below w.heap.size w w':=by
 go_enter PV.func115,Tryz.ntmps115;go_wp2;go_ret;exact ⟨rfl,(Below.refl _ _).alloc (fx8 _) _⟩
def fn4 (k pos r c n cl:Int) (h1:(k==1)=false) (h2:(k==2)=false) (w:World):Calls PV 115 #[.agg #[.int .i64 k,.int .i64 pos,.int .i32 r,.int .i64 c,.int .i64 n,.int .i64 cl]] w fun x w'=>x= .returned (.iface 222 (.agg #[]))∧Below w.heap.size w w':=by
 go_enter PV.func115,Tryz.ntmps115;go_wp2;go_ret;exact ⟨rfl,(Below.refl _ _).alloc (fx8 _) _⟩
def frp (a:Plain.Chg) (w:World):Calls PV 115 #[chgV a] w fun x w'=>x= .returned (opV a)∧Below w.heap.size w w':=by
 rcases a with ⟨kind,pos,e,cl⟩;by_cases h1:kind=1
 · subst h1;rw [opV1 rfl];exact fn2 _ _ _ _ _ _
 · by_cases h2:kind=2
   · subst h2;rw [opV2 rfl];exact fn3 _ _ _ _ _ _
   · rw [opV3 h1 h2];exact fn4 _ _ _ _ _ _ (by simpa using h1) (by simpa using h2) _
@[go_sem] def me219_apply (v:Value) (w:World):(method 358 219 v "coedit/ot.apply").run PV w= .ok (167,v) w:=by kernel_rfl
@[go_sem] def me219_index (v:Value) (w:World):(method 358 219 v "coedit/ot.index").run PV w= .ok (170,v) w:=by kernel_rfl
@[go_sem] def me219_past (v:Value) (w:World):(method 358 219 v "coedit/ot.past").run PV w= .ok (171,v) w:=by kernel_rfl
@[go_sem] def na219_past (v:Value) (w:World):(nilAhead 358 219 v "coedit/ot.past").run PV w= .ok (some false) w:=by kernel_rfl
@[go_sem] def me221_apply (v:Value) (w:World):(method 358 221 v "coedit/ot.apply").run PV w= .ok (172,v) w:=by kernel_rfl
@[go_sem] def me221_index (v:Value) (w:World):(method 358 221 v "coedit/ot.index").run PV w= .ok (175,v) w:=by kernel_rfl
@[go_sem] def me221_past (v:Value) (w:World):(method 358 221 v "coedit/ot.past").run PV w= .ok (176,v) w:=by kernel_rfl
@[go_sem] def na221_past (v:Value) (w:World):(nilAhead 358 221 v "coedit/ot.past").run PV w= .ok (some false) w:=by kernel_rfl
@[go_sem] def me222_apply (v:Value) (w:World):(method 358 222 v "coedit/ot.apply").run PV w= .ok (177,v) w:=by kernel_rfl
@[go_sem] def me222_index (v:Value) (w:World):(method 358 222 v "coedit/ot.index").run PV w= .ok (180,v) w:=by kernel_rfl
@[go_sem] def me222_past (v:Value) (w:World):(method 358 222 v "coedit/ot.past").run PV w= .ok (181,v) w:=by kernel_rfl
@[go_sem] def na222_past (v:Value) (w:World):(nilAhead 358 222 v "coedit/ot.past").run PV w= .ok (some false) w:=by kernel_rfl
abbrev Bl (w w':World):Prop:=Below w.heap.size w w'
def Bl.al {w w1:World} (h:Bl w w1) (o:Obj):Bl w (w1.alloc o):=Below.alloc h h.size o
def Bl.dr {w w1:World} (h:Bl w w1):Bl w w1.drew:=Below.drew h
def Bl.st {w w1:World} (h:Bl w w1) {p:Addr} (hp:w.heap.size≤p.block) (u:Value):Bl w (w1.setCell p u):=Below.setCell h hp u
def Bl.cl {w w1 w2:World} (h:Bl w w1) (h2:Bl w1 w2):Bl w w2:=Below.trans h (Below.mono h2 h.size)
def Bl.rf (w:World):Bl w w:=Below.refl _ _
def Bl.gr {w w1 w2:World} (h:Bl w w1) {row:Option Nat} (hg:w1.grownBy w2 row) (hr: ∀ k,row=some k→w.heap.size≤k):Bl w w2:=Below.grown h hg h.size hr
def bh (a:Plain.Chg) (k:Int) (w:World) (h1: -1000000≤k) (h2:k≤1000000):Calls PV 89 #[chgV a,i64 k] w fun x w'=>x= .returned (i64 (Plain.index a k))∧Bl w w':=by
 rcases a with ⟨kind,pos,e,cl⟩;by_cases k1:kind=1
 · subst k1;go_enter PV.func89,Tryz.ntmps89;go_wp2_with (first | (go_at_call 115;refine (fn2 _ _ _ _ _ _).mono ?_;rintro e w1 ⟨rfl,hb1⟩) | (go_at_call 170;refine (frm _ _ _ _ _ _ h1 h2).mono ?_;rintro e w2 ⟨rfl,hb2⟩));all_goals (go_ret;exact ⟨by simp [Plain.index, *];try omega,(((Bl.rf _).al _).cl hb1).cl hb2⟩)
 · by_cases k2:kind=2
   · subst k2;go_enter PV.func89,Tryz.ntmps89;go_wp2_with (first | (go_at_call 115;refine (fn3 _ _ _ _ _ _).mono ?_;rintro e w1 ⟨rfl,hb1⟩) | (go_at_call 175;refine (frn _ _ _ h1 h2).mono ?_;rintro e w2 ⟨rfl,hb2⟩));all_goals (go_ret;exact ⟨by simp [Plain.index, *];try omega,(((Bl.rf _).al _).cl hb1).cl hb2⟩)
   · have e1:(kind==1)=false:=by simpa using k1
     have e2:(kind==2)=false:=by simpa using k2
     go_enter PV.func89,Tryz.ntmps89;go_wp2_with (first | (go_at_call 115;refine (fn4 _ _ _ _ _ _ e1 e2 _).mono ?_;rintro e w1 ⟨rfl,hb1⟩) | (go_at_call 180;refine (fro _ _).mono ?_;rintro e w2 ⟨rfl,hb2⟩));go_ret;exact ⟨by simp [Plain.index,k1,k2],(((Bl.rf _).al _).cl hb1).cl hb2⟩
end Go.Proofs.YtelecjnabeokeaaGreatDoor
