/- Meets answers true for every script, and the script reads as it did; condition: the package-level variables hold what the program's text lays. Part 6 of 6. -/
import Derived.Test.YtelecjnabeokeaaGreatDoorM5
import Derived.Test.YtelecjnabeokeaaGreatDoorRows
import Derived.Test.YtelecjnabeokeaaGreatDoorCards
import Derived.Test.YtelecjnabeokeaaGreatDoorTie
set_option maxRecDepth 100000
set_option maxHeartbeats 16000000
set_option linter.defProp false
set_option linter.unusedVariables false
set_option linter.unusedSimpArgs false
namespace Go.Proofs.YtelecjnabeokeaaGreatDoor
open Go Go.Conc Go.RowKit
open Go.ConcN (sumTo upd sumTo_upd upd_ne upd_same)
section
variable {P:Program} {St:Nat→Loc→Prop} {Shun:Loc→Prop} {a:Goroutine} {T:Trace} {gs:Array Goroutine} {w:World} {q:Nat→Nat}
def past_of (C:Hold P St Shun u5 vb 0 a T gs w q) (hst: ∀ g l,St g l→g=0) (hD:Deaf T 0=0):Past Shun w.heap.size T:=by
 refine ⟨C.past.clean,fun i a ha hm=> ?_,fun i g hg hne hc=> ?_,hD,C.past.seen⟩
 · rcases C.past.known i a ha hm with h | ⟨_,g,hg,hs,_⟩ | ⟨h1,h2,_⟩
   · exact .inl h
   · obtain rfl:=hst g _ hs;obtain ⟨x,hx,hxg⟩:=fy8.1 hg;exact .inl (hxg▸knows_own hx)
   · exact .inr ⟨h1,h2⟩
 · obtain ⟨x,hx,hm,hk⟩:=hc;rcases C.past.known i x hx hm with ⟨j,z,hj,hzg,hb⟩ | ⟨_,g',hg',hs,_⟩ | ⟨_,h2,h3⟩
   · rcases hb with rfl | hb
     · simp [Trace.g?,hj,hzg] at hg;exact absurd hg.symm hne
     · exact ⟨j,by simp [Trace.g?,hj,hzg],hb⟩
   · rw [hg] at hg';cases hg';exact absurd (hst _ _ hs) hne
   · exact (hk.elim (fun h=>h h2) h3).elim
def fnq (P:Program) (g:Goroutine) (x:Value):Prop:=g.status= .running∧ ∀ w,stepG P true g w= .ended (.done x) w #[]
def ftf {x:Value} {Post:Value→World→Prop} (C:Hold P St Shun u5 vb 0 a T gs w q) (hst: ∀ g l,St g l→g=0) (hD:Deaf T 0=0) (he:fnq P a x) (hp: ∀ d,Post x (w.at d)) (sl:Option (Nat×Nat)):
    ∃ N last o w' t',runNT P (N+1) (crowd gs w sl) T=(.ended o w',t')∧runN P N (crowd gs w sl)= .next last∧step P last= .ended o w'∧Go.Conc.Good P Post last o w' t':=by
 refine beside_ends (D:=fun _ _ _=>False) (n:=0) (fun w w' es h=>h.elim) C.here ⟨fun i g hi hg=>(C.crew.idle i g fe hg).2,C.crew.above⟩ (past_of C hst hD) ?_;rintro w1 ⟨d,rfl⟩;exact ⟨he.1,x,#[],he.2 _,fun e h=>by simp at h,hp d⟩
end
noncomputable def fx0 (W:World) (b:Nat):Option (Obj×Option Obj):=match W.heap[b]? with
 | some (.cells c e f)=>if c= #[]∧f=(0,0) then some (.cells #[] e (0,0),some (.cells #[] e (0,0))) else none
 | some o=>if mute o=true then some (hidO,some o) else none
 | none=>none
noncomputable def hide0 (W:World):Hide:=⟨fun b=>(fx0 W b).map (·.1),fun b=>W.heap[b]?,true⟩
noncomputable def xj (W:World):World:={ W with heap:=W.heap.mapIdx fun b o=>((fx0 W b).map (·.1)).getD o }
def fwf (W:World):fug (fx0 W):=by
 intro b x hx cap buf cl s q tm;unfold fx0 at hx;split at hx
 · split at hx <;>cases hx;simp
 · split at hx <;>cases hx;simp
 · cases hx
def eh (W:World) (b:Nat):(xj W).heap[b]? =(W.heap[b]?).map fun o=>((fx0 W b).map (·.1)).getD o:=by
 simp [xj,f4x]
def fhu {W:World} {b:Nat} {x:Obj×Option Obj} (h:fx0 W b=some x):W.heap[b]? =x.2∧mw x.1 W.heap[b]? :=by
 unfold fx0 at h;split at h
 · rename_i c e f hb;split at h
   · rename_i hc;obtain ⟨rfl,rfl⟩:=hc;cases h;exact ⟨hb,.inl ⟨e,#[],rfl,hb⟩⟩
   · cases h
 · rename_i o _ hb;split at h
   · rename_i hm;cases h;exact ⟨hb,.inr (.inl ⟨rfl,o,hm,hb⟩)⟩
   · cases h
 · cases h
def fhv {W:World} {b:Nat} {o:Obj} (hb:W.heap[b]? =some o) (h:fx0 W b=none):mute o=false∧ ∀ e,o≠ .cells #[] e (0,0):=by
 unfold fx0 at h;rw [hb] at h;cases o with
 | cells c e f=>
   simp only at h;split at h
   · cases h
   · rename_i hc;refine ⟨rfl,fun e' he=> ?_⟩;cases he;exact hc ⟨rfl,rfl⟩
 | _ =>
   simp only at h;split at h
   · cases h
   · rename_i hc;exact ⟨by simpa using hc,fun e' he=>by cases he⟩
def ftg (W:World):Rel (hide0 W) (xj W) W:=by
 refine ⟨by simp [xj],fun b hb=> ?_,fun b o hb=> ?_,rfl,rfl,fun b o hb=> ?_,fun b o hb=>rfl,fun _ b o hH hb=> ?_⟩
 · have hb:(fx0 W b).map (·.1)=none:=hb;rw [eh,hb];simp
 · have hb:(fx0 W b).map (·.1)=some o:=hb;obtain ⟨x,hx,rfl⟩:=fy8.1 hb;obtain ⟨h1,h2⟩:=fhu hx;refine ⟨?_,h2⟩;rw [eh,hb];cases e:W.heap[b]? with
   | none=>
     unfold fx0 at hx;rw [e] at hx;cases hx
   | some o'=>simp
 · rw [eh] at hb;obtain ⟨o',ho',rfl⟩:=fy8.1 hb;cases e:fx0 W b with
   | none=>
     have:=fhv ho' e;simp only [Option.map_none,Option.getD_none];cases o' <;>first | rfl | (exact absurd this.1 (by simp [mute]))
   | some x=>
     simp only [fz3,Option.getD_some];unfold fx0 at e;rw [ho'] at e;split at e
     · split at e <;>cases e;rfl
     · split at e <;>cases e;rfl
     · cases e
 · have hH:(fx0 W b).map (·.1)=none:=hH;rw [eh,hH] at hb;have hb:W.heap[b]? =some o:=by simpa using hb
   have:=fhv hb (by simpa using hH);cases o <;>first | rfl | (exact absurd this.1 (by simp [mute]))
def fpb {W v w:World} {H:Hide} {n:Nat} (hn:n≤W.heap.size) (rel:Rel H v w) (hfix: ∀ b x,fx0 W b=some x→H b=some x.1∧H.real b=x.2) (hO: ∀ x,x<n→v.heap[x]? =(xj W).heap[x]?): ∀ x,x<n→w.heap[x]? =W.heap[x]? :=by
 intro x hx;cases e:fx0 W x with
 | some y=>
   obtain ⟨h1,h2⟩:=hfix x y e;rw [rel.kept x _ h1,h2,(fhu e).1]
 | none=>
   have hv:v.heap[x]? =W.heap[x]? :=by
    rw [hO x hx,eh,e];simp
   cases hH:H x with
   | none=>rw [← rel.same x hH];exact hv
   | some o=>
     exfalso;obtain ⟨h1,h2⟩:=rel.laid x o hH;rw [hv] at h1;obtain ⟨h3,h4⟩:=fhv h1 e;rcases h2 with ⟨e',c,rfl,_⟩ | ⟨rfl,_⟩ | ⟨y,k,rfl,_⟩
     · exact h4 e' rfl
     · cases h3
     · cases h3
def bv {W:World} {b:Nat} {c:Array Value} {e:TypeId} {f:Nat×Nat} (h:W.heap[b]? =some (.cells c e f)):(xj W).heap[b]? =some (.cells c e f):=by
 rw [eh,h];unfold fx0;rw [h];simp only [fz3];split
 · rename_i hc;obtain ⟨rfl,rfl⟩:=hc;rfl
 · rfl
def ei {W:World} {p:Addr} {x:Value} (h:W.cell? p=some x):(xj W).cell? p=some x:=by
 rw [← h];unfold World.cell? at h ⊢;cases e:W.heap[p.block]? with
 | none=>rw [e] at h;cases h
 | some o=>
   rw [e] at h;cases o with
   | cells c t f=>rw [bv e]
   | _=>cases h
noncomputable def endG (W:World) (x:Value):Goal:=⟨fun gs w T=> ∃ Shun v g,fha (fx0 W) vb Shun v g gs w T∧fnq Tryz.prog g x∧Old W.heap.size (xj W) v,fx0 W,fwf W⟩
def co_done {W:World} {x:Value} {Shun:Loc→Prop} {v:World} {N:Nat} {g:Goroutine} (he:fnq Tryz.prog g x) (hO:Old W.heap.size (xj W) v):Co (endG W x) vb Shun v N g:=
 fun _ _ _ _ hS=> .done ⟨Shun,v,g,hS,he,hO⟩
def the_end {W:World} {x:Value} {fr:Frame} (h:Co (endG W x) vb (fun _=>False) (xj W) 1 (G fr [])):
    ∃ M last o w' t',runNT Tryz.prog (M+1) (solo (G fr []) W) #[]=(.ended o w',t')∧runN Tryz.prog M (solo (G fr []) W)= .next last∧step Tryz.prog last= .ended o w'∧
      Go.Conc.Good Tryz.prog (fun y w'=>y=x∧Go.RowKit.Below W.heap.size W { w' with tape:=W.tape }) last o w' t':=by
 have hfirst:fha (fx0 W) vb (fun _=>False) (xj W) (G fr []) #[G fr []] W #[]:=by
    refine ⟨hide0 W,vb,fun _ _=>False,fun _=>0,fun j s h=>je,⟨ftg W,⟨fun i s h=>je,fun g l h=>h.elim,fun l h=>h.elim⟩,rfl,fun b y hb=> ?_,fun i s h=>je,fun i s h=>je,fun b cap buf cl s q hb hbuf=> ?_,fun g l h=>h.elim⟩,⟨⟨?_,?_,?_,?_,?_,?_,?_,?_⟩,rfl,?_,fun i h=>h.elim,rfl⟩,rfl⟩
    · refine ⟨?_,(fhu hb).1⟩;show (fx0 W b).map (·.1)=_;rw [hb];rfl
    · have hb:(fx0 W b).map (·.1)=_:=hb;obtain ⟨y,hy,e⟩:=fy8.1 hb;exact absurd e (fwf W b y hy _ _ _ _ _ _)
    · intro i g hi hg;exfalso;have:i<1:=by simpa using (fx5.1 hg).1
      omega
    · intro i s h;cases h
    · intro i s b o h;cases h
    · intro i s h;cases h
    · intro i i' s s' h;cases h
    · intro i s h;cases h
    · intro i s h;cases h
    · intro j hj;rfl
    · exact ⟨past_nil.clean,fun i a ha=>by simp [touchAt,Trace.act?] at ha,fun i a ha=>by simp [touchAt,Trace.act?] at ha,fun g l h=>h.elim,fun g h=>h.elim,by simp⟩
 obtain ⟨N,gs',w',sl',T',h1,Shun,v,g,⟨H,S,St,q,_,I,C,hD⟩,he,hO⟩:=h #[G fr []] W #[] rfl hfirst none
 have hS:S=vb:=by
    funext i
    cases e:S i with
    | none=>rfl
    | some s=>rcases I.only i s e with h | h <;>cases h
 subst hS
 have hst: ∀ g l,St g l→g=0:=fun g l hl=>by
    rcases I.who g l hl with h | h | h
    · exact h
    · exact absurd rfl h
    · exact absurd rfl h
 have hpost: ∀ d,x=x∧Go.RowKit.Below W.heap.size W { w'.at d with tape:=W.tape }:=fun d=>by
    refine ⟨rfl,I.rel.os.symm.trans hO.os,rfl,I.rel.output.symm.trans hO.output,?_,fun k hk=> ?_⟩
    · show W.heap.size≤w'.heap.size;rw [← I.rel.size];exact f08 hO.le hO.size
    · exact fpb (fx8 _) I.rel I.fix (fun x hx=>hO.block x hx) k hk
 obtain ⟨M,last,o,w2,t2,e1,e2,e3,e4⟩:=ftf (Post:=fun y w2=>y=x∧Go.RowKit.Below W.heap.size W { w2 with tape:=W.tape }) C hst hD he hpost sl';refine ⟨N+M,last,o,w2,t2,?_,?_,e3,e4⟩
 · rw [f3r];exact fim N h1 e1
 · have h1':runN Tryz.prog N (solo (G fr []) W)= .next (crowd gs' w' sl'):=by rw [← runNT_fst _ _ _ #[]];exact f3q Prod.fst h1
   rw [runN_add,h1'];exact e2
end Go.Proofs.YtelecjnabeokeaaGreatDoor
namespace Go.Proofs.YtelecjnabeokeaaGreatDoor
open Go Go.Conc Go.RowKit
attribute [local go_sem] f5q
structure NR where
 n:Nat
 r:Nat
def fvv {f:FuncId} {fn:Func} {T:Array Value} {todo:List Item} {x:Value} (hf:Tryz.prog.funcs[f]? =some fn) (hf2: ¬ 2=f) (hr:ResultsC Tryz.prog fn T x):fnq Tryz.prog (G { (base f).at ⟨T,[]⟩ todo with mode:= .returning } []) x:=by
 refine ⟨rfl,fun w=> ?_⟩;obtain ⟨h1,h2⟩:=hr w
 have hT:(results fn T).runT Tryz.prog w #[]=(.ok x w,#[]):=by
    refine f2v ?_ h2;rw [f0d];exact h1
 have:seen Tryz.prog f #[]= #[]:=seen_none Tryz.prog f;simp [-Sem.runT_eq,G,stepG,unwind,doReturn,Frame.at,base,hf,hT,this,hf2,GStep.after]
def fwg {Z:Frame→World→Prop} {b:Frame} {T0:Array Value} {k:List Item} {w:World} (h: ∀ T,T=T0→RunTo Z (b.at ⟨T,[]⟩ k) w):RunTo Z (b.at ⟨T0,[]⟩ k) w:=h T0 rfl
structure SessX (n N n0:Nat) (L:Lay) (E:Nat→Value) (A:Nat→Addr) (WS:Nat→Option SeatD) (v0 w:World):Prop where
 out: ∃ S ow',Sess n N n0 L E A S ow' WS w∧Old n0 v0 w
def pv15:PV.funcs[15]? =some Tryz.f15:=rd 15 _ _ Tryz.func15 fd fd rfl fd
structure MeT (se:Value) (T:Array Value):Prop where
 out: ∃ U:Nat→Value,T= #[U 0,U 1,U 2,U 3,U 4,U 5,U 6,se,U 8,U 9,U 10,.bool true,.bool true,U 13,U 14,U 15,U 16,U 17,U 18,U 19,U 20,U 21,U 22,U 23,U 24,U 25,U 26,U 27,U 28,U 29,U 30,U 31,U 32,U 33,U 34,U 35,U 36,U 37,U 38,U 39,U 40,U 41,U 42,U 43,U 44,U 45,U 46,U 47,U 48,U 49,U 50,U 51,U 52,U 53,U 54,U 55,U 56,U 57,U 58,U 59,U 60,U 61,U 62,U 63,U 64,U 65,U 66,U 67,U 68,U 69,U 70,U 71,U 72,U 73,U 74,U 75,se,U 77,U 78,U 79,U 80,U 81]
section
variable {v0:World} {E:Nat→Value} {A:Nat→Addr} {p:Option Addr} {n cap N:Nat} {f:Nat→Nat→Int} {s:Nat→ByteArray} {Shun:Loc→Prop}
structure MeC (n N n0:Nat) (L:Lay) (E:Nat→Value) (A:Nat→Addr) (WS:Nat→Option SeatD) (v0:World) (T:Array Value) (w:World):Prop where
 out: ∃ S ow,MeT (.pointer (some ⟨L.b,0,none⟩)) T∧Sess n N n0 L E A S ow WS w∧Old n0 v0 w
def MeetR (n0:Nat) (v0:World) (x:Value) (WS':Nat→Option SeatD) (_:Loc→Prop) (v':World) (_:Nat):Prop:=
 x= .bool true∧WS'=vb∧Old n0 v0 v'
def meet_fc (hN : 1 ≤N) (hB:Base v0) (hE:EV E A v0) (hA: ∀ i,i<12→i≠2→(A i).block<v0.heap.size) (hS:Scr v0 p n cap f s) (turn:Int) (ht0: -9223372036854775808≤turn) (ht1:turn≤9223372036854775807):
    Fc vb Shun v0 N 15 #[.slice p n cap,.int .i64 turn] (MeetR v0.heap.size v0):=by
 have h12:=hE.size;refine ⟨fun Φ X cs hc=> ?_⟩;rw [ea Tryz.func15 rfl];simp only [show Tryz.f15.ntmps=82 from rfl];walk_nrm;refine flz (ι:=NR) (P:=fun x w=>(1≤x.n∧x.n≤6∧1≤x.r∧x.r≤16)∧Old v0.heap.size v0 w) bg (zu Tryz.func15 pv15 fd rfl) rfl ?_;apply Exists.intro
 case' h => refine And.intro ?ha (And.intro ?hp ?hc)
 case ha=>
    intro t d;have hSz:=fx6 (fvq (hS.keep (w':=reW v0 t d) (fx8 _) (fun _ _=>rfl)));refine rl (rj ?_);go_wp2;refine rl (rj ?_);go_wp2_with (first | (go_at_call 7;refine hSz.out.mono ?_;rintro e w1 ⟨⟨nn,room,g1,g2,g3,g4,rfl⟩,gb⟩;obtain ⟨x,rfl,rfl⟩: ∃ x:NR,x.n=nn∧x.r=room:=⟨⟨nn,room⟩,rfl,rfl⟩));refine rl (yt ?_);simp only [szs];refine uy rfl rfl (u:= .int .i64 (x.n:Int)) (v1:=w1) gw ?_;walk_nrm;refine uy rfl rfl (u:= .int .i64 (x.r:Int)) (v1:=w1) gw ?_;walk_nrm;exact zt ⟨x,⟨⟨g1,g2,g3,g4⟩,(Old.bl (v:=reW v0 t d) (fx8 _) gb).re'⟩,rfl⟩
 case hp => intro x;rfl
 case hc =>
    rintro x w2 ⟨⟨g1,g2,g3,g4⟩,hO2⟩;have hB2:Base w2:=hB.old hO2 fe;have hE2:EV E A w2:=hE.old hO2 h12 hA;have hS2:=hS.old hO2 (fx8 _);have hA2: ∀ i,i<12→i≠2→(A i).block<w2.heap.size:=fun i hi h2=>f0f (hA i hi h2) hO2.ge2;refine fba (feu (n:=x.n) (room:=x.r) (N:=N) g1 g2 g3 g4 hB2 hE2 hA2) jh rfl rfl gh rfl Tryz.func8 fd rfl ?_;rintro y WS' Shun' v3 N' ⟨rfl,rfl,L,ow,rfl,hSs,hO3⟩;walk_nrm;refine flz (ι:=Array Value) (P:=fun T w=>MeC x.n N w2.heap.size L E A WS' w2 T w) hSs.seats.ok (zu Tryz.func15 pv15 fd rfl) rfl ?_;apply Exists.intro
    case' h => refine And.intro ?ha (And.intro ?hp ?hc)
    case ha =>
     intro t d;refine uy rfl rfl (u:= .tuple #[.pointer (some ⟨L.b,0,none⟩),.int .i64 0]) (v1:=reW v3 t d) gw ?_;walk_nrm;refine uy rfl rfl (u:= .pointer (some ⟨L.b,0,none⟩)) (v1:=reW v3 t d) gw ?_;walk_nrm;refine uy rfl rfl (u:= .int .i64 0) (v1:=reW v3 t d) gw ?_;walk_nrm;refine uy rfl rfl (u:= .pointer (some ⟨L.b,0,none⟩)) (v1:=reW v3 t d) gw ?_;walk_nrm;refine uy rfl rfl (u:= .int .i64 0) (v1:=reW v3 t d) gw ?_;walk_nrm;have gX0:SessX x.n N w2.heap.size L E A WS' w2 (reW v3 t d):=⟨_,_,hSs.re t d,hO3.re t d⟩;generalize reW v3 t d=w0 at gX0 ⊢;refine ie (rl (rj ?_));go_wp2;refine rl (rj ?_);go_wp2_with fail
     go_loopw [9] (fun iv wr=> ∃ i:Nat,i≤n∧iv= .int .i64 (i:Int)∧SessX x.n N w2.heap.size L E A WS' w2 wr) (fun iv _=>n-(intOf iv).toNat)
     case atStart => exact ⟨0,f1n _,rfl,gX0⟩
     case round=>
      obtain ⟨i,hi,rfl,gX⟩:=hrel;go_upto_region 6 with fail
      go_cut [37] from 30 to 38 (fun t44 wx=> ∃ b:Bool,t44= .bool b∧(b=true↔(i<n∧i<1152921504606846976))∧wx=wr)
      case first=>
         by_cases h1:i<n
         · have hin:(i:Int)<(n:Int):=by omega
           by_cases h2:i<1152921504606846976
           · have hin2:(i:Int)<1152921504606846976:=by omega
             go_wp2_with fail
             go_meet
             case rel => exact ⟨true,rfl,by simp [h1,h2],rfl⟩
           · have hin2: ¬ (i:Int)<1152921504606846976:=by omega
             go_wp2_with fail
             go_meet
             case rel => exact ⟨false,rfl,by simp [h2],rfl⟩
         · have hin: ¬ (i:Int)<(n:Int):=by omega
           go_wp2_with fail
           go_meet
           case rel => exact ⟨false,rfl,by simp [h1],rfl⟩
      case rest =>
         obtain ⟨b,rfl,hb,rfl⟩:=hcut;cases b with
         | true=>
           obtain ⟨hlt,hmx⟩:=hb.1 rfl;have hw1:IntKind.i64.wrap ((i:Int)+1)=(i:Int)+1:=f0t _ fe;obtain ⟨S,ow',gS,gO⟩:=gX.out;have hSr:=hS2.old gO (fx8 _);obtain ⟨bq,oq,hpq,hbq,hcq⟩:=hSr.at_ fe;have hix: ∀ u:World,(Instr.indexAt 22 (.slice p n cap) (.int .i64 (i:Int))).run PV u= .ok (.pointer (some ⟨bq,oq+i*7,none⟩)) u:=fun u=>by
            have hin:(i:Int)<(n:Int):=by omega
            rw [hpq];go_simp
           obtain ⟨hc6,q6⟩:=hcq i hlt;have q0:=hc6 0 fe;have q1:=hc6 1 fe;have q2:=hc6 2 fe;have q3:=hc6 3 fe;have q4:=hc6 4 fe;have q5:=hc6 5 fe;simp only [f5p] at q0;replace gS:=fx6 gS;replace gO:=fx6 gO;clear hpq hc6 hcq hSr gX hb;go_upto_region 9 with fail
           refine vy (F:=fun Wn=>Bl wc Wn∧Bk Wn wc.heap.size 30 #[.int .i64 (f i 0),.int .i64 (f i 1),.int .i64 (f i 2),.int .i64 (f i 3),.int .i64 (f i 4),.int .i64 (f i 5),.string (s i)]) ⟨(Bl.rf _).al _,Bk.nw rfl⟩ ?_;generalize wc.heap.size=xq;rintro Wn ⟨gB1,gK⟩;obtain ⟨cO,dO⟩:=gK.ceF;clear q0 q1 q2 q3 q4 q5 q6 hix gK
           go_cut [56] from 43 to 57 (fun t63 wx=> ∃ b2:Bool,t63= .bool b2∧(b2=true↔(f i 0=2∧1≤f i 2∧f i 2≤5))∧wx=Wn)
           case first=>
            by_cases h1:f i 0=2
            · by_cases h2:1≤f i 2
              · have h2': ¬ f i 2<1:=by omega
                by_cases h3:f i 2≤5
                · have h3': ¬ 5<f i 2:=by omega
                  go_wp2_with fail
                  go_meet
                  case rel => exact ⟨true,rfl,⟨fun _=>⟨h1,h2,h3⟩,fun _=>rfl⟩,rfl⟩
                · have h3':5<f i 2:=by omega
                  go_wp2_with fail
                  go_meet
                  case rel => exact ⟨false,rfl,⟨fun h=>je,fun h=>absurd h.2.2 fe⟩,rfl⟩
              · have h2':f i 2<1:=by omega
                go_wp2_with fail
                go_meet
                case rel => exact ⟨false,rfl,⟨fun h=>je,fun h=>absurd h.2.1 fe⟩,rfl⟩
            · go_wp2_with fail
              go_meet
              case rel => exact ⟨false,rfl,⟨fun h=>je,fun h=>absurd h.1 fe⟩,rfl⟩
           case rest=>
            obtain ⟨b2,rfl,hb2,rfl⟩:=hcut;cases b2 with
            | true=>
              obtain ⟨_,hk1,hk5⟩:=hb2.1 rfl;go_wp2_with (first | (go_at_call 9;refine (fte (gS.out.bl gB1) (f08 gO.out.ge2 gB1.size) _ _ _ _ hk1 hk5).mono ?_;rintro e w4 ⟨rfl,ow4,gS4,gO4,gE4⟩))
              go_roundw
              case rel => exact ⟨i+1,by omega,by simp,⟨_,_,gS4,(gO.out.tr (Old.bl gO.out.ge2 gB1)).tr gO4⟩⟩
              case measure => simp [intOf];omega
            | false=>
              go_wp2_with fail
              go_roundw
              case rel => exact ⟨i+1,by omega,by simp,⟨_,_,gS.out.bl gB1,gO.out.tr (Old.bl gO.out.ge2 gB1)⟩⟩
              case measure => simp [intOf];omega
         | false=>
           clear hb hi;go_wp2_with fail;obtain ⟨S,ow',gS,gO⟩:=gX.out;replace gS:=fx6 gS;replace gO:=fx6 gO;clear gX;refine rl (rj ?_);go_wp2_with (first | (go_at_call 32;refine (f5x gS.out gO.out.ge2 g1 g2 turn ht0 ht1).mono ?_;rintro e w5 ⟨rfl,S5,ow5,⟨gu,gd⟩,gS5,gO5⟩));refine rl (rj ?_);go_wp2_with (first | (go_at_call 33;refine (f6a gS5 gO5.ge2 g1 g2 gu gd).mono ?_;rintro e w6 ⟨rfl,gB6⟩));refine rl (yt ?_);simp only [szs];refine uy rfl rfl (u:= .pointer (some ⟨L.b,0,none⟩)) (v1:=w6) gw ?_;walk_nrm;refine fwg fun T hT=> ?_;exact zt ⟨T,⟨S5,ow5,⟨fun i=>T.getD i undef,by subst hT;rfl⟩,gS5.bl gB6,(gO.out.tr gO5).tr (Old.bl gO5.ge2 gB6)⟩,rfl⟩
    case hp => intro x;rfl
    case hc=>
     rintro T w4 ⟨S,ow4,⟨U,rfl⟩,hS4,hO4⟩;refine fba (f6d (N':=N+(x.n+1)) hS4 g1 g2 hN (fx8 _) hO4.ge2) jh rfl rfl gh rfl Tryz.func12 fd rfl ?_;rintro y WS3 Shun3 v5 N3 ⟨rfl,rfl,rfl,rfl,hO5⟩;walk_nrm;refine fet bg (zu Tryz.func15 pv15 fd rfl) rfl ?_;apply Exists.intro
     case' h => refine And.intro ?ha (And.intro ?hp ?hc)
     case ha=>
      intro t d;refine ie (rl (rj ?_));go_wp2;exact fnj (zt ⟨rfl,t,d,rfl⟩)
     case hp => rfl
     case hc=>
      intro t d;refine fhp (fn:=Tryz.f15) rfl rfl Tryz.func15 (resultsC_tmp (t:=4) rfl _) ?_;exact hc _ _ _ _ _ ⟨rfl,rfl,(hO2.tr ((hO4.tr hO5).mo hO2.ge2)).re _ _⟩
end
end Go.Proofs.YtelecjnabeokeaaGreatDoor
namespace Go.Proofs.YtelecjnabeokeaaGreatDoor
open Go Go.Conc Go.RowKit
def pv5:PV.funcs[5]? =some Tryz.f5:=rd 5 _ _ Tryz.func5 fd fd rfl fd
structure MfT (sc tv:Value) (T:Array Value):Prop where
 out: ∃ U:Nat→Value,T= #[U 0,U 1,U 2,U 3,U 4,U 5,U 6,U 7,U 8,U 9,U 10,U 11,U 12,U 13,U 14,sc,tv,U 17]
section
variable {W:World} {E:Nat→Value} {A:Nat→Addr} {p:Option Addr} {n cap:Nat} {f:Nat→Nat→Int} {s:Nat→ByteArray}
def f6j (hB:Base (xj W)) (hE:EV E A (xj W)) (hA: ∀ i,i<12→i≠2→(A i).block<(xj W).heap.size) (hS:Scr (xj W) p n cap f s):
    Co (endG W (.bool true)) vb (fun _=>False) (xj W) 1 (G (Frame.enter Tryz.prog 5 #[.slice p n cap] .normal) []):=by
 have h12:=hE.size;have hvs:(xj W).heap.size=W.heap.size:=by simp [xj]
 rw [ea Tryz.func5 rfl];simp only [show Tryz.f5.ntmps=18 from rfl];walk_nrm;refine fet bg (zu Tryz.func5 pv5 fd rfl) rfl ?_;apply Exists.intro
 case' h => refine And.intro ?ha (And.intro ?hp ?hc)
 case ha=>
    intro t d;refine rl (rj ?_);go_wp2;refine rl (yt ?_);simp only [szs];exact zt ⟨rfl,t,d,rfl⟩
 case hp => rfl
 case hc =>
    intro t d;refine fba (fvu (N:=1) fe (hB.re t d) (hE.re t d) hA) jh rfl rfl gh rfl Tryz.func6 fd rfl ?_;rintro x WS' Shun1 v1 N' ⟨rfl,rfl,rfl,b1,rfl,hb1,hO1⟩;replace hO1:Old (xj W).heap.size (xj W) v1:=hO1.re';have hB1:Base v1:=hB.old hO1 fe;have hE1:EV E A v1:=hE.old hO1 h12 hA;have hS1:=hS.old hO1 (fx8 _);have hA1: ∀ i,i<12→i≠2→(A i).block<v1.heap.size:=fun i hi h2=>f0f (hA i hi h2) hO1.ge2;walk_nrm;refine flz (ι:=Array Value) (P:=fun T w=> ∃ turn,(-9223372036854775808≤turn∧turn≤9223372036854775807)∧MfT (.slice p n cap) (.int .i64 turn) T∧Old v1.heap.size v1 w) bg (zu Tryz.func5 pv5 fd rfl) rfl ?_;apply Exists.intro
    case' h => refine And.intro ?ha (And.intro ?hp ?hc)
    case ha=>
     intro t d;have hcm:n≤9223372036854775807:=by have h1:=hS1.le;have h2:=hS1.capm;simp only [maxLen] at h2;omega
     have hS6:=hS1.keep (w':=reW v1 t d) (fx8 _) (fun _ _=>rfl);have hOr:Old v1.heap.size v1 (reW v1 t d):=(Old.rf (fx8 _)).re t d;refine uy rfl rfl (u:= .bool true) (v1:=reW v1 t d) gw ?_;walk_nrm;refine ie (rl (rj ?_));go_wp2;generalize reW v1 t d=w1 at hS6 hOr ⊢;refine rl (rj ?_);go_wp2;refine rl (rj ?_);by_cases h0:0<n
     · have hin:(0:Int)<(n:Int):=by omega
       obtain ⟨bq,oq,hpq,hbq,hcq⟩:=hS6.at_ h0;have q5:=(hcq 0 h0).1 5 fe;have hw:=hS6.wf 0 5 h0 fe
       have hix: ∀ u:World,(Instr.indexAt 22 (.slice p n cap) (.int .i64 0)).run PV u= .ok (.pointer (some ⟨bq,oq,none⟩)) u:=fun u=>by
         rw [hpq];go_simp
       simp only [Nat.zero_mul,f5p] at q5;clear hpq hcq;go_wp2_with fail;refine rl (yt ?_);simp only [szs];refine uy rfl rfl (u:= .slice p n cap) (v1:=w1) gw ?_;walk_nrm;refine uy rfl rfl (u:= .int .i64 (f 0 5)) (v1:=w1) gw ?_;walk_nrm;refine fwg fun T hT=> ?_;exact zt ⟨T,⟨_,hw,⟨fun i=>T.getD i undef,by subst hT;rfl⟩,hOr⟩,rfl⟩
     · have hin: ¬ (0:Int)<(n:Int):=by omega
       go_wp2_with fail;refine rl (yt ?_);simp only [szs];refine uy rfl rfl (u:= .slice p n cap) (v1:=w1) gw ?_;walk_nrm;refine uy rfl rfl (u:= .int .i64 0) (v1:=w1) gw ?_;walk_nrm;refine fwg fun T hT=> ?_;exact zt ⟨T,⟨0,by omega,⟨fun i=>T.getD i undef,by subst hT;rfl⟩,hOr⟩,rfl⟩
    case hp => intro x;rfl
    case hc=>
     rintro T w2 ⟨turn,⟨g1,g2⟩,⟨U,rfl⟩,hO2⟩;have hB2:Base w2:=hB1.old hO2 (by have:=hO1.ge2;omega);have hE2:EV E A w2:=hE1.old hO2 (by have:=hO1.ge2;omega) hA1;have hS2:=hS1.old hO2 (fx8 _);have hA2: ∀ i,i<12→i≠2→(A i).block<w2.heap.size:=fun i hi h2=>f0f (hA1 i hi h2) hO2.ge2;have hO20:Old (xj W).heap.size (xj W) w2:=hO1.tr (hO2.mo hO1.ge2);refine fba (meet_fc (N:=4) fe hB2 hE2 hA2 hS2 turn g1 g2) jh rfl rfl gh rfl Tryz.func15 fd rfl ?_;rintro y WS3 Shun3 v5 N3 ⟨rfl,rfl,hO5⟩;walk_nrm;refine fet bg (zu Tryz.func5 pv5 fd rfl) rfl ?_;apply Exists.intro
     case' h => refine And.intro ?ha (And.intro ?hp ?hc)
     case ha=>
        intro t d;refine uy rfl rfl (u:= .bool true) (v1:=reW v5 t d) gw ?_;walk_nrm;exact ie (fnj (zt ⟨rfl,t,d,rfl⟩))
     case hp => rfl
     case hc=>
        intro t d;exact co_done (fvv Tryz.func5 fu (resultsC_tmp (P:=Tryz.prog) (fn:=Tryz.f5) (t:=2) rfl _)) (hvs▸(hO20.tr (hO5.mo hO20.ge2)).re t d)
end
open Go.ConcM Go.ChangeShapes Go.WideShapes Go.Deep
def Tryz.own:ownKnob Tryz.prog.godebug=none:=by kernel_rfl
def Tryz.star: "*" ++ "errors.errorString" = "*errors.errorString" :=by decide
def Tryz.row227 (u:TypeId) (h:Tryz.prog.typeName? 3 u=some "*errors.errorString"):u=227:=
 typeName_ptr_named (nm:= "errors.errorString") (by rw [Tryz.star];kernel_rfl) fd fu u (by rw [Tryz.star];exact h)
def Tryz.cells246:Tryz.prog.cellsOf 246=1:=by kernel_rfl
def Tryz.cells9:Tryz.prog.cellsOf 9=1:=by kernel_rfl
def Tryz.rt:(Tryz.prog.cutTypes.find? (·.1== "internal/reflectlite.rtype")).map (·.2)=some 192:=by kernel_rfl
def Tryz.tsize:Tryz.prog.types.size=258:=by kernel_rfl
def Tryz.oneRow:((List.range 258).filter fun t=>Tryz.prog.rowNamed t [101,114,114,111,114])=[49]:=by kernel_rfl
def sent {H:Type} (s:List UInt8):DataW H:= .iface "*errors.errorString" (.ptr (.agg [.lit (.string s)]))
structure Holds1 (W:World) (g:Nat) (s:List UInt8) (a:Addr):Prop where
 var:W.cell? ⟨g,0,none⟩=some (ev a)
 cell: ∃ b:ByteArray,W.cell? a=some (.string b)∧b.data.toList=s
 row: ∃ c t,W.heap[a.block]? =some (.cells c t (0,0))
 own: ∃ c t,W.heap[g]? =some (.cells c t (0,0))
def vh {W:World} {n:String} {s:List UInt8} {r:List (String×DataW Unit)} {ps:List MemPlace} {g:Nat} (hg:Tryz.prog.globalNamed n=some g) (ht:(Tryz.prog.globals[g]?).map (·.type)=some 49)
    (h:DataW.LaidVars Tryz.prog W ((n,sent s)::r) ps)
    (hrows: ∀ b off,MemPlace.cell b off∈ps→(∃ c t,W.heap[b]? =some (.cells c t (0,0)))∧ ∀ u v,W.cell? ⟨b,off,none⟩=some (.iface u v)→Value.okWide Tryz.prog W .any 0 u v):
    (∃ a,Holds1 W g s a)∧ ∃ q,DataW.LaidVars Tryz.prog W r q∧ ∀ b off,MemPlace.cell b off∈q→(∃ c t,W.heap[b]? =some (.cells c t (0,0)))∧ ∀ u v,W.cell? ⟨b,off,none⟩=some (.iface u v)→Value.okWide Tryz.prog W .any 0 u v:=by
 obtain ⟨g0,t0,cs0,f0,p0,q0,hg0,ht0,hv0,hd0,hq,e0⟩:=h;obtain rfl:=fy7 (hg.symm.trans hg0);obtain rfl:=fy7 (ht.symm.trans ht0);subst e0;obtain ⟨l0⟩:=cs0
 have ok0: ∀ u v,l0=[.iface u v]→Value.okWide Tryz.prog W .any 0 u v:=fun u v e=>by
    subst e;exact (hrows g 0 (by simp [MemPlace.row])).2 u v (by simpa using World.var?_cell hg hv0 0)
 obtain ⟨a0,s0,rfl,hc0,hs0,_,rfl⟩:=errorString_of_trod Tryz.underlying49 Tryz.row227 Tryz.underlying227 Tryz.underlying246 rfl rfl Tryz.underlying9 Tryz.cells246 Tryz.cells9 hd0 ok0;refine ⟨⟨a0,by simpa using World.var?_cell hg hv0 0,⟨s0,hc0,hs0⟩,(hrows a0.block a0.off (by simp [MemPlace.row])).1,(hrows g 0 (by simp [MemPlace.row])).1⟩,q0,hq,fun b off hb=>hrows b off (by simp [hb])⟩
def Holds1.ne {W:World} {g g':Nat} {s s':List UInt8} {a a':Addr} (h:Holds1 W g s a) (h':Holds1 W g' s' a') (hs:s≠s'):a≠a':=by
 rintro rfl;obtain ⟨b,h1,h2⟩:=h.cell;obtain ⟨b',h1',h2'⟩:=h'.cell;rw [h1] at h1';obtain rfl:b=b':=by injection h1' with e;injection e
 exact hs (h2.symm.trans h2')
def txt:Nat→List UInt8
 | 0=>[110,111,32,115,117,99,104,32,115,101,115,115,105,111,110]
 | 3=>[110,111,32,115,117,99,104,32,99,108,105,101,110,116]
 | 1=>[110,111,32,114,117,110,101]
 | 4=>[111,117,116,32,111,102,32,114,97,110,103,101]
 | 5=>[97,32,108,105,110,107,32,105,115,32,102,117,108,108]
 | 6=>[116,111,111,32,109,97,110,121,32,99,104,97,110,103,101,115]
 | 7=>[97,32,108,105,110,107,32,105,115,32,101,109,112,116,121]
 | 8=>[110,111,32,102,114,97,109,101]
 | 9=>[97,32,102,114,97,109,101,32,111,117,116,32,111,102,32,111,114,100,101,114]
 | 10=>[97,32,102,114,97,109,101,32,116,104,97,116,32,116,101,108,108,115,32,111,102,32,119,104,97,116,32,119,97,115,32,110,111,116,32,115,101,110,116]
 | 11=>[116,104,101,32,115,101,115,115,105,111,110,32,104,97,115,32,98,101,101,110,32,115,116,111,112,112,101,100]
 | _=>[]
def txt_all:((List.range 12).all fun i=>(List.range 12).all fun j=>i==2||j==2||i==j||txt i !=txt j)=true:=by decide+kernel
def txt_ne (i j:Nat) (hi:i<12) (hj:j<12) (h2:i≠2) (h3:j≠2) (h:i≠j):txt i≠txt j:=by
 have:=f1x.1 (f1x.1 txt_all i (f2s.2 hi)) j (f2s.2 hj);simpa [h2,h3,h] using this
def laidL:List (String×DataW Unit):=Rows.foldsRow.laid
def ffg {W:World} (h:laidMetH Tryz.prog laidL W):W.cell? ⟨2,0,none⟩=some (.iface 192 (.agg #[.pointer (some ⟨13,49,none⟩)])):=by
 have h':laidMet Tryz.prog (laidL.drop 1) W∧handlesMet Tryz.prog (laidL.take 1) W:=h;obtain ⟨name,u,ty,e1,e2,e3,e4,e5⟩:=h'.2 _ (f3k.2 rfl);have en:name=[101,114,114,111,114]:=(fy7 e1).symm;subst en;obtain rfl:=fy7 (Tryz.rt.symm.trans e2);have hm:ty∈(List.range 258).filter fun t=>Tryz.prog.rowNamed t [101,114,114,111,114]:=List.mem_filter.2 ⟨f2s.2 (by rw [← Tryz.tsize];exact e3),e4⟩;rw [Tryz.oneRow] at hm;obtain rfl:=f3k.1 hm;have hh:typeHandle Tryz.prog 49= .pointer (some ⟨13,49,none⟩):=by kernel_rfl
 rw [hh] at e5;simpa using World.var?_cell (show Tryz.prog.globalNamed "errors.errorType" =some 2 by kernel_rfl) e5 0
def Tryz.g0:Tryz.prog.globalNamed "coedit/coedit.ErrShape" =some 0:=by kernel_rfl
def Tryz.gt0:(Tryz.prog.globals[0]?).map (·.type)=some 49:=by kernel_rfl
def Tryz.g3:Tryz.prog.globalNamed "coedit/coedit.ErrClient" =some 3:=by kernel_rfl
def Tryz.gt3:(Tryz.prog.globals[3]?).map (·.type)=some 49:=by kernel_rfl
def Tryz.g1:Tryz.prog.globalNamed "coedit/coedit.ErrRune" =some 1:=by kernel_rfl
def Tryz.gt1:(Tryz.prog.globals[1]?).map (·.type)=some 49:=by kernel_rfl
def Tryz.g4:Tryz.prog.globalNamed "coedit/coedit.ErrRange" =some 4:=by kernel_rfl
def Tryz.gt4:(Tryz.prog.globals[4]?).map (·.type)=some 49:=by kernel_rfl
def Tryz.g5:Tryz.prog.globalNamed "coedit/coedit.ErrFull" =some 5:=by kernel_rfl
def Tryz.gt5:(Tryz.prog.globals[5]?).map (·.type)=some 49:=by kernel_rfl
def Tryz.g6:Tryz.prog.globalNamed "coedit/coedit.ErrMany" =some 6:=by kernel_rfl
def Tryz.gt6:(Tryz.prog.globals[6]?).map (·.type)=some 49:=by kernel_rfl
def Tryz.g7:Tryz.prog.globalNamed "coedit/coedit.ErrEmpty" =some 7:=by kernel_rfl
def Tryz.gt7:(Tryz.prog.globals[7]?).map (·.type)=some 49:=by kernel_rfl
def Tryz.g8:Tryz.prog.globalNamed "coedit/coedit.ErrFrame" =some 8:=by kernel_rfl
def Tryz.gt8:(Tryz.prog.globals[8]?).map (·.type)=some 49:=by kernel_rfl
def Tryz.g9:Tryz.prog.globalNamed "coedit/coedit.ErrOrder" =some 9:=by kernel_rfl
def Tryz.gt9:(Tryz.prog.globals[9]?).map (·.type)=some 49:=by kernel_rfl
def Tryz.g10:Tryz.prog.globalNamed "coedit/coedit.ErrAck" =some 10:=by kernel_rfl
def Tryz.gt10:(Tryz.prog.globals[10]?).map (·.type)=some 49:=by kernel_rfl
def Tryz.g11:Tryz.prog.globalNamed "coedit/coedit.ErrStopped" =some 11:=by kernel_rfl
def Tryz.gt11:(Tryz.prog.globals[11]?).map (·.type)=some 49:=by kernel_rfl
def fev {W:World} (h:laidMetH Tryz.prog laidL W): ∃ A:Nat→Addr,∀ k,k<12→k≠2→Holds1 W k (txt k) (A k):=by
 have h':laidMet Tryz.prog (laidL.drop 1) W∧handlesMet Tryz.prog (laidL.take 1) W:=h;obtain ⟨ps,h0,_,r0⟩:=h'.1;obtain ⟨⟨a0,k0⟩,q1,h1,r1⟩:=vh (s:=txt 0) Tryz.g0 Tryz.gt0 h0 r0;obtain ⟨⟨a3,k3⟩,q2,h2,r2⟩:=vh (s:=txt 3) Tryz.g3 Tryz.gt3 h1 r1;obtain ⟨⟨a1,k1⟩,q3,h3,r3⟩:=vh (s:=txt 1) Tryz.g1 Tryz.gt1 h2 r2;obtain ⟨⟨a4,k4⟩,q4,h4,r4⟩:=vh (s:=txt 4) Tryz.g4 Tryz.gt4 h3 r3;obtain ⟨⟨a5,k5⟩,q5,h5,r5⟩:=vh (s:=txt 5) Tryz.g5 Tryz.gt5 h4 r4;obtain ⟨⟨a6,k6⟩,q6,h6,r6⟩:=vh (s:=txt 6) Tryz.g6 Tryz.gt6 h5 r5;obtain ⟨⟨a7,k7⟩,q7,h7,r7⟩:=vh (s:=txt 7) Tryz.g7 Tryz.gt7 h6 r6;obtain ⟨⟨a8,k8⟩,q8,h8,r8⟩:=vh (s:=txt 8) Tryz.g8 Tryz.gt8 h7 r7;obtain ⟨⟨a9,k9⟩,q9,h9,r9⟩:=vh (s:=txt 9) Tryz.g9 Tryz.gt9 h8 r8;obtain ⟨⟨a10,k10⟩,q10,h10,r10⟩:=vh (s:=txt 10) Tryz.g10 Tryz.gt10 h9 r9;obtain ⟨⟨a11,k11⟩,q11,h11,r11⟩:=vh (s:=txt 11) Tryz.g11 Tryz.gt11 h10 r10;refine ⟨fun k=>match k with | 0=>a0 | 1=>a1 | 3=>a3 | 4=>a4 | 5=>a5 | 6=>a6 | 7=>a7 | 8=>a8 | 9=>a9 | 10=>a10 | 11=>a11 | _=>a0,fun k hk h2=> ?_⟩
 match k,hk,h2 with
 | 0,_,_=>exact k0
 | 1,_,_=>exact k1
 | 3,_,_=>exact k3
 | 4,_,_=>exact k4
 | 5,_,_=>exact k5
 | 6,_,_=>exact k6
 | 7,_,_=>exact k7
 | 8,_,_=>exact k8
 | 9,_,_=>exact k9
 | 10,_,_=>exact k10
 | 11,_,_=>exact k11
 | 2,_,h2=>exact absurd rfl h2
 | k+12,hk,_=>omega
def fkc {W:World} (h:laidMetH Tryz.prog laidL W):Base (xj W):=by
 obtain ⟨A,hA⟩:=fev h;obtain ⟨c0,t0,h0⟩:=(hA 0 fe fe).own;obtain ⟨c1,t1,h1⟩:=(hA 1 fe fe).own;exact ⟨⟨_,_,⟨bv h0⟩⟩,⟨_,_,⟨bv h1⟩⟩⟩
def fpc {W:World} (h:laidMetH Tryz.prog laidL W): ∃ (E:Nat→Value) (A:Nat→Addr),EV E A (xj W)∧ ∀ i,i<12→i≠2→(A i).block<(xj W).heap.size:=by
 obtain ⟨A,hA⟩:=fev h;have h2:=ffg h;refine ⟨fun i=>if i=2 then .iface 192 (.agg #[.pointer (some ⟨13,49,none⟩)]) else ev (A i),A,⟨fun i hi=> ?_,fun i hi hne=>fx9 hne,fun i j hi hj hi2 hj2 hij=>(hA i hi hi2).ne (hA j hj hj2) (txt_ne i j hi hj hi2 hj2 hij),fun i hi hne=> ?_,f02 rfl⟩,fun i hi hne=> ?_⟩
 · by_cases e:i=2
   · subst e;rw [f02 rfl];exact ei h2
   · rw [fx9 e];exact ei (hA i hi e).var
 · obtain ⟨c,t,hr⟩:=(hA i hi hne).row;exact ⟨c,t,bv hr⟩
 · obtain ⟨c,t,hr⟩:=(hA i hi hne).row;have:=bv hr;exact (fx5.1 this).1
def Tryz.cells30:Tryz.prog.cellsOf 30=7:=by kernel_rfl
noncomputable def flds30:Array Field:=(match Tryz.prog.underlying 30 with | some (.struct fs)=>fs | _=> #[])
def Tryz.und30:Tryz.prog.underlying 30=some (.struct flds30):=by kernel_rfl
def one30:oneCellFields Tryz.prog flds30=true:=by kernel_rfl
def fth:flds30.toList.map (·.type)=[3,3,3,3,3,3,9]:=by kernel_rfl
def type30 {j:Nat} {t:TypeId} (h:[3,3,3,3,3,3,9][j]? =some t): ∃ fl,flds30[j]? =some fl∧fl.type=t:=by
 rw [← fth,f1s] at h;obtain ⟨fl,h1,h2⟩:=fy8.1 h;exact ⟨fl,by rw [← Array.getElem?_toList];exact h1,h2⟩
def scr_of {H:Type} {enc:TypeId×Value→H} {W:World} {v0:Value} {d0:DataW H} {p0:List MemPlace} {b0:Nat} (hv:Value.okWide Tryz.prog W .any b0 22 v0) (h0:DataW.Trod enc Tryz.prog W 0 (fun _=>true) true 22 v0 d0 p0):
    ∃ p n cap f s,v0= .slice p n cap∧Scr (xj W) p n cap f s:=by
 obtain ⟨p,n,cap,rfl⟩:=okWide_slice Tryz.underlying22 hv;obtain ⟨fuel,hf⟩:=h0;rcases open_slice Tryz.underlying22 hf with ⟨hcs,_⟩ | ⟨a,len,cap',m,k,D,Pl,hcs,hb,hl,hm,hmm,hx,hi⟩
 · have e:(Value.slice p n cap)= .slice none 0 0:=by simpa [Value.cells] using hcs
   cases e;exact ⟨none,0,0,fun _ _=>0,fun _=>default,rfl,⟨fx8 _,f1n _,fun i j hi=>by omega,fun h=>by omega⟩⟩
 · have e:(Value.slice p n cap)= .slice (some a) len cap':=by simpa [Value.cells] using hcs
   cases e;have hmc:m=cap:=by rw [hmm];simp
   have key: ∀ i,i<n→(∀ j,j<6→ ∃ z,W.cell? (a.add (i*7+j))=some (.int .i64 z)∧(Lit.int .i64 z).wf=true)∧ ∃ t,W.cell? (a.add (i*7+6))=some (.string t):=by
    intro i hin;obtain ⟨cs',hc,ht⟩:=hi i fe;rw [Tryz.cells30] at hc;obtain ⟨ys,n',hn',hy,hlen,hyl,hfd⟩:=DataW.trod_struct Tryz.und30 ht;obtain ⟨_,hcl,hat⟩:=World.cells?_some hc;have cell: ∀ j t,[3,3,3,3,3,3,9][j]? =some t→ ∃ v x,W.cell? (a.add (i*7+j))=some v∧DataW.trod enc Tryz.prog W 0 (fun _=>true) true n' t [v]=some x:=by
     intro j t hj;have hj7:j<7:=by
      have:=(f1c.1 hj).1;simpa using this
     obtain ⟨fl,h1,h2⟩:=type30 hj;obtain ⟨ho,hk⟩:=hone_of one30 j fl h1;have h3:=hfd j fl h1;rw [ho,hk,h2] at h3;have hone:(cs'.drop j).take 1=[cs'[j]'(by omega)]:=by
      rw [List.drop_eq_getElem_cons fe];rfl
     rw [hone] at h3;have hys:ys[j]? =some (ys[j]'(by rw [hyl];exact (fx5.1 h1).1)):=f0r _;refine ⟨_,_,?_,h3.trans hys⟩;have h4:=hat j hj7;rw [Go.Addr.add_add] at h4;rw [h4];exact f0r _
    refine ⟨fun j hj=> ?_,?_⟩
    · obtain ⟨v,x,h1,h2⟩:=cell j 3 (by
       rcases (by omega:j=0∨j=1∨j=2∨j=3∨j=4∨j=5) with rfl | rfl | rfl | rfl | rfl | rfl <;>rfl)
      obtain ⟨z,h3,_,h4⟩:=DataW.trod_int Tryz.underlying3 h2;obtain rfl:v= .int .i64 z:=by simpa using h3
      exact ⟨z,h1,h4⟩
    · obtain ⟨v,x,h1,h2⟩:=cell 6 9 rfl;obtain ⟨t,h3,_⟩:=DataW.trod_string Tryz.underlying9 h2;obtain rfl:v= .string t:=by simpa using h3
      exact ⟨t,h1⟩
   have hz: ∀ i j,∃ z,i<n→j<6→W.cell? (a.add (i*7+j))=some (.int .i64 z)∧(Lit.int .i64 z).wf=true:=fun i j=>by
    by_cases h:i<n∧j<6
    · obtain ⟨z,h1,h2⟩:=(key i h.1).1 j h.2;exact ⟨z,fun _ _=>⟨h1,h2⟩⟩
    · exact ⟨0,fun h1 h2=>absurd ⟨h1,h2⟩ h⟩
   have ht: ∀ i,∃ t,i<n→W.cell? (a.add (i*7+6))=some (.string t):=fun i=>by
    by_cases h:i<n
    · obtain ⟨t,h1⟩:=(key i h).2;exact ⟨t,fun _=>h1⟩
    · exact ⟨default,fun h1=>absurd h1 h⟩
   obtain ⟨f,hf⟩:=f1v (fun i=>f1v (hz i));obtain ⟨s,hs⟩:=f1v ht;refine ⟨some a,n,cap,f,s,rfl,⟨hl,hm,fun i j hin hj=> ?_,fun hn=> ?_⟩⟩
   · have:=(hf i j hin hj).2;simp only [Lit.wf,IntKind.min,IntKind.max,IntKind.signed,IntKind.bits,f04,f1r] at this;simp at this;omega
   · have c0:=(hf 0 0 hn fe).1;have hsp:=World.cell?_spot c0;obtain ⟨blk,off,spot⟩:=a;have hsp:spot=none:=by simpa [Addr.add] using hsp
     subst hsp;refine ⟨blk,off,rfl,?_,fun i hin=>⟨fun j hj=> ?_,?_⟩⟩
     · have h1:=ei c0;rw [f2u] at h1;rcases f01 blk (xj W).heap.size with h | h
       · exact h
       · simp [World.cell?,f09 h] at h1
     · have h1:=ei (hf i j hin hj).1;rw [f2u] at h1;rw [f3r];exact h1
     · have h1:=ei (hs i hin);rw [f2u] at h1;rw [f3r];exact h1
noncomputable def low:Nat:=(World.holding Tryz.prog default ⟨#[],#[],[]⟩).heap.size
noncomputable def bw (os:Os):World:=
 let w0:=World.holding Tryz.prog os ⟨#[.cells #[.string ⟨(txt 0).toArray⟩] 246,.cells #[.string ⟨(txt 3).toArray⟩] 246,.cells #[.string ⟨(txt 1).toArray⟩] 246,.cells #[.string ⟨(txt 4).toArray⟩] 246,.cells #[.string ⟨(txt 5).toArray⟩] 246,.cells #[.string ⟨(txt 6).toArray⟩] 246,.cells #[.string ⟨(txt 7).toArray⟩] 246,.cells #[.string ⟨(txt 8).toArray⟩] 246,.cells #[.string ⟨(txt 9).toArray⟩] 246,.cells #[.string ⟨(txt 10).toArray⟩] 246,.cells #[.string ⟨(txt 11).toArray⟩] 246],#[],[]⟩
 { w0 with heap:=((List.range 11).foldl (fun h k=>h.modify ([0,3,1,4,5,6,7,8,9,10,11].getD k 0) fun
  | .cells _ t frozen=> .cells #[ev ⟨low+k,0,none⟩] t frozen
  | o=>o) w0.heap).modify 2 fun
  | .cells _ t frozen=> .cells #[.iface 192 (.agg #[.pointer (some ⟨13,49,none⟩)])] t frozen
  | o=>o }
def fhw (os:Os) (args:Array Value):laidMetH Tryz.prog laidL ((bw os).forCall (fun _ _=>0) ⟨#[],args,[]⟩).memory:=
 laidMetH_of_parts (laidMet_of_run (ps:=[.cell 0 0,.cell (low+0) 0,.cell 3 0,.cell (low+1) 0,.cell 1 0,.cell (low+2) 0,.cell 4 0,.cell (low+3) 0,.cell 5 0,.cell (low+4) 0,.cell 6 0,.cell (low+5) 0,.cell 7 0,.cell (low+6) 0,.cell 8 0,.cell (low+7) 0,.cell 9 0,.cell (low+8) 0,.cell 10 0,.cell (low+9) 0,.cell 11 0,.cell (low+10) 0]) 8 fd fd fd) fd
def kids22:Kids Tryz.prog (fun t=>t=22∨t=30∨t=3∨t=9):=by
 refine ⟨fun h hu=> ?_,fun h hu=> ?_,fun h hu=> ?_,fun h hu=> ?_,fun h hu=> ?_⟩
 · rcases h with rfl | rfl | rfl | rfl
   · rw [Tryz.underlying22] at hu;cases hu
   · rw [Tryz.und30] at hu;cases hu
   · rw [Tryz.underlying3] at hu;cases hu
   · rw [Tryz.underlying9] at hu;cases hu
 · rcases h with rfl | rfl | rfl | rfl
   · rw [Tryz.underlying22] at hu;cases hu;exact .inr (.inl rfl)
   · rw [Tryz.und30] at hu;cases hu
   · rw [Tryz.underlying3] at hu;cases hu
   · rw [Tryz.underlying9] at hu;cases hu
 · rcases h with rfl | rfl | rfl | rfl
   · rw [Tryz.underlying22] at hu;cases hu
   · rw [Tryz.und30] at hu;cases hu
   · rw [Tryz.underlying3] at hu;cases hu
   · rw [Tryz.underlying9] at hu;cases hu
 · rcases h with rfl | rfl | rfl | rfl
   · rw [Tryz.underlying22] at hu;cases hu
   · rw [Tryz.und30] at hu;cases hu;refine ⟨fun f hf=> ?_,?_,fun j f hj=> ?_⟩
     · have:f.type∈flds30.toList.map (·.type):=f4f hf;rw [fth] at this;simp at this;rcases this with h | h
       · exact .inr (.inr (.inl h))
       · exact .inr (.inr (.inr h))
     · kernel_rfl
     · have hlt:j<7:=by
         have h1:=(f1c.1 hj).1;have h2:flds30.toList.length=7:=by kernel_rfl
         omega
       have hz:(List.range 7).map (fun j=>(flds30.toList[j]?).map fun f=>decide (f.offset=((flds30.toList.take j).map fun f=>Tryz.prog.cellsOf f.type).sum))=List.replicate 7 (some true):=by kernel_rfl
       have h1:=f3q (fun l=>l[j]?) hz;simp only [f1s,f5k hlt,fz3,hj,List.getElem?_replicate,f02 hlt,f03,f1r] at h1;exact h1
   · rw [Tryz.underlying3] at hu;cases hu
   · rw [Tryz.underlying9] at hu;cases hu
 · rcases h with rfl | rfl | rfl | rfl
   · rw [Tryz.underlying22] at hu;cases hu
   · rw [Tryz.und30] at hu;cases hu
   · rw [Tryz.underlying3] at hu;cases hu
   · rw [Tryz.underlying9] at hu;cases hu
def few (Lk:Looks) {p:Pinned} {s:OpenSpec} {c:OpenClaim} (kinds:List LaidKind) (tests:Bool) (har:Bool×String) (lk:Bool) (hc:c.holds p s) (hw:c.wfByText s=true) (htie:c.laidByTextAt Lk p kinds tests)
    (hst:c.start= .entering) (hnb:c.noBlocks=false∧c.again=false) (hm:p.checked.prog.mainIs=some (har.1,har.2.toList)) (hn:(!har.1&&har.2.isEmpty&& !lk)=false)
    (hl: ∀ f fn,p.checked.prog.funcNamed c.func=some f→p.checked.prog.funcs[f]? =some fn→lk=p.checked.prog.looks []∧ ∀ (j:Nat) t,fn.params[j]? =some t→p.checked.prog.wantsStandIn t=false)
    (hg:true=c.goesBy p.checked.prog):
    Claim7.holds p (.plain s) { stood:={ row:=c,standIns:=[],harness:=har,looks:=lk },kinds:=[],alts:=[],goes:=true,laidByText:=true,laidKinds:=kinds,laidTests:=tests,laidLooks:=Lk }:=by
 have h6: ∀ r:OpenClaim,Claim7.isSixth { stood:={ row:=r,standIns:=[],harness:=har,looks:=lk },kinds:=[] }=false:=fun r=>by simpa [Claim7.isSixth] using hn
 have h1:Claim7.holdsOne p (.plain s) { stood:={ row:=c,standIns:=[],harness:=har,looks:=lk },kinds:=[],alts:=[],laidByText:=true,laidKinds:=kinds,laidTests:=tests,laidLooks:=Lk }:=Claim7.tied_new_at Lk kinds tests (Claim7.new_of_sixth hc har lk hst hnb hm (h6 c) hl) hw;exact ⟨h1,fun D hD=>(by cases hD),htie,fun h=>je,hg⟩
section
variable {H:Type} {enc:TypeId×Value→H}
def fpd {f:FuncId} {fn:Func} {s:ChangeSpec} {os:Os} {F:Stop.Interp} (started:os.Started) (hfn:Tryz.prog.funcs[f]? =some fn) (hp:fn.params= #[22]) (hr:fn.resultTypes= #[4]) (hvars:s.vars=[])
    (hs: ∀ d:DataW H,s.fn H [d]={ results:=[.lit (.bool true)],args:=[d] })
    (witness: ∃ (w:World) (tape:Tape) (i:Input),w.os=os∧(w.forCall tape i).Shaped Tryz.prog∧i.vars=[]∧Input.okWide Tryz.prog (w.forCall tape i) .any w.heap.size f i∧
      ((s.pre enc Tryz.prog fn [] false (w.forCall tape i).memory i.args∧laidMetH Tryz.prog laidL (w.forCall tape i).memory)∧sizedMet enc Tryz.prog fn (OpenSpec.ofChange s) false (w.forCall tape i).memory i.args)∧({ calm:=true }:Assume).holds Tryz.prog (lone (Frame.enter Tryz.prog f i.args .normal) [] (w.forCall tape i)))
    (hco: ∀ (W:World) (p:Option Addr) (n cap:Nat) (fs:Nat→Nat→Int) (ss:Nat→ByteArray) (E:Nat→Value) (A:Nat→Addr),Base (xj W)→EV E A (xj W)→(∀ i,i<12→i≠2→(A i).block<(xj W).heap.size)→Scr (xj W) p n cap fs ss→
      Co (endG W (.bool true)) vb (fun _=>False) (xj W) 1 (G (Frame.enter Tryz.prog f #[.slice p n cap] .normal) [])):
    ReturnsInLeavingWide { calm:=true } Tryz.checked os f .any (fun w args=>(s.pre enc Tryz.prog fn [] false w args∧laidMetH Tryz.prog laidL w)∧sizedMet enc Tryz.prog fn (OpenSpec.ofChange s) false w args)
     ((OpenSpec.ofChange s).postWith enc Tryz.prog fn F (outsideKept [.timePasses]) false true false):=by
 refine returnsInLeavingWide_of_good (C:=Tryz.checked) Tryz.own started witness ?_;intro w tape i _ _ _ hok hpre hholds;obtain ⟨_,_,_,fn',hfn',_,_,_,_,hval⟩:=hok;have e:fn'=fn:=fy7 (hfn'.symm.trans hfn);subst e;obtain ⟨⟨⟨ds,gs,before,hw,hc⟩,hx⟩,hz⟩:=hpre;have hw':=DataW.Whole.of_heap (w':=w.forCall tape i) (by rfl) hw;have hL:laidMetH Tryz.prog laidL (w.forCall tape i):=laidMetH.of_heap (by rfl) hx;generalize w.forCall tape i=W at*;have hval: ∀ (j:Nat) t v,fn'.params[j]? =some t→i.args[j]? =some v→Value.okWide Tryz.prog W .any w.heap.size t v:=hval;have hW':=hw';obtain ⟨p,q,hA0,hV0,rfl,hfz,hnd⟩:=hw';rw [hp] at hA0 hval;rw [hvars] at hV0;obtain ⟨rfl,rfl⟩:=trodVars_none hV0;obtain ⟨v0,d0,hargs,rfl,h0⟩:=trodAll_one hA0;rw [hargs] at hval hholds ⊢;have hok0:=hval 0 22 v0 rfl rfl;obtain ⟨sp,n,cap,fs,ss,rfl,hS⟩:=scr_of hok0 h0;obtain ⟨E,A,hE,hAb⟩:=fpc hL;obtain ⟨M,last,o,w',t',r1,r2,r3,v,e,hpst,k1,k2,k3,k4⟩:=the_end (hco W sp n cap fs ss E A (fkc hL) hE hAb hS);refine ⟨M,last,o,w',t',r1,r2,r3,v,e,postWith_blind (postWith_of_post ?_ ?_),k1,k2,k3,k4⟩
 · obtain ⟨rfl,hB⟩:=hpst;have hsame: ∀ q∈p++[],W.sameAt w' q:=fun q hq=>by
    have hlt:=hW'.lt q hq;cases q with
    | cell b o=>exact f0h (a:=⟨b,o,none⟩) (hB.block b hlt)
    | map b=>exact hB.block b hlt
   have hk: ∀ may,W.keptBut { w' with os:=W.os } may:=fun may=>⟨rfl,(hB.frame may).2.1,(hB.frame may).2.2⟩;obtain ⟨fuel,hf⟩:=h0;refine ⟨[d0],[],p++[],[],p,[],by rw [← hargs];exact hW',?_,?_,?_,hk _,fun h=>by cases h⟩
   · rw [hr,f4m,hs];exact trodAll_mk1 (shut_bool Tryz.underlying4 true)
   · rw [hp,f4m,hs];refine trodAll_mk1 ⟨fuel,DataW.trod_stays kids22 (fun ht hu=> ?_) (fun h=>by cases h) (.inl rfl) hf (fun q hq=>hsame q (by simpa using hq)) (fun q hq=>by simpa using hW'.lt q (by simpa using hq))⟩;rcases ht with rfl | rfl | rfl | rfl
     · rw [Tryz.underlying22] at hu;cases hu;rw [Tryz.cells30];omega
     · rw [Tryz.und30] at hu;cases hu
     · rw [Tryz.underlying3] at hu;cases hu
     · rw [Tryz.underlying9] at hu;cases hu
   · rw [hvars,f4m,hs];rfl
 · rw [show w'.os=W.os from hpst.2.os];exact .refl _
end
end Go.Proofs.YtelecjnabeokeaaGreatDoor
namespace Go.Proofs.YtelecjnabeokeaaGreatDoor
open Go Go.Conc Go.ConcM Go.ChangeShapes Go.WideShapes Go.RowKit
def f5c {H:Type} (enc:TypeId×Value→H) (os:Os): ∃ (w:World) (tape:Tape) (i:Input),w.os=os∧(w.forCall tape i).Shaped Tryz.prog∧i.vars=[]∧Input.okWide Tryz.prog (w.forCall tape i) .any w.heap.size 5 i∧
 ((Rows.meetsSpec.pre enc Tryz.prog Tryz.f5 [] false (w.forCall tape i).memory i.args∧laidMetH Tryz.prog laidL (w.forCall tape i).memory)∧sizedMet enc Tryz.prog Tryz.f5 (OpenSpec.ofChange Rows.meetsSpec) false (w.forCall tape i).memory i.args)∧({ calm:=true }:Assume).holds Tryz.prog (lone (Frame.enter Tryz.prog 5 i.args .normal) [] (w.forCall tape i)):=by
 have hv:((bw os).forCall (fun _ _=>0) ⟨#[],#[.slice none 0 0],[]⟩).variablesB Tryz.prog=true:=by kernel_rfl
 have hr:(((bw os).forCall (fun _ _=>0) ⟨#[],#[.slice none 0 0],[]⟩).heap.toList.drop Tryz.prog.globals.size).take ((begin Tryz.prog (fun _ _=>0) default).world.heap.size-Tryz.prog.globals.size)=(begin Tryz.prog (fun _ _=>0) default).world.heap.toList.drop Tryz.prog.globals.size:=by kernel_rfl
 have hok:Input.okWideB Tryz.prog ((bw os).forCall (fun _ _=>0) ⟨#[],#[.slice none 0 0],[]⟩) 5 ⟨#[],#[.slice none 0 0],[]⟩=true:=by kernel_rfl
 have hpre:Rows.meetsSpec.preB enc Tryz.prog Tryz.f5 [] false ((bw os).forCall (fun _ _=>0) ⟨#[],#[.slice none 0 0],[]⟩).memory #[.slice none 0 0] 8=true:=by kernel_rfl
 have hsz:Rows.meetsSpec.sizedB enc Tryz.prog Tryz.f5 false ((bw os).forCall (fun _ _=>0) ⟨#[],#[.slice none 0 0],[]⟩).memory #[.slice none 0 0] 8=true:=by kernel_rfl
 exact ⟨bw os,fun _ _=>0,⟨#[],#[.slice none 0 0],[]⟩,rfl,World.shaped_of_B hv hr,(Input.okWide_of_okWideB (base:=0) hok).1,(Input.okWide_of_okWideB hok).2,⟨⟨ChangeSpec.pre_of_preB hpre,fhw os _⟩,sizedMet_of_sizedB hsz⟩,by
    simp only [Assume.holds];exact ⟨by simp,fun _ _ _ _=>rfl,by simp,by simp,by simp⟩⟩
def f61:Rows.MeetsSaid:=
 OpenClaim.holds_of_wide_leaving_time 5 Tryz.f5 rfl rfl rfl rfl rfl rfl rfl ⟨rfl,rfl,rfl,rfl,rfl⟩ rfl rfl rfl rfl rfl fd Tryz.func5 fd
    (of_decide_eq_true fd) (by unfold Func.isWrapper;rw [fx9 (of_decide_eq_false fd)];exact ⟨rfl,rfl⟩)
    (fun os started H enc _ F=>fpd (fn:=Tryz.f5) (s:=Rows.meetsSpec) started Tryz.func5 Tryz.params5 fd rfl (fun d=>rfl) (f5c enc os) (fun W p n cap fs ss E A hB hE hA hS=>f6j hB hE hA hS))
theorem meets_card:Rows.MeetsCardSaid:=
 few .later [.handle,.sentinel,.sentinel,.sentinel,.sentinel,.sentinel,.sentinel,.sentinel,.wider,.sentinel,.sentinel,.sentinel] true (true, "8c5abe41b93dd14ae8e6a00164918cde08a37410e3389aedc40f367685b32515") true
  f61 fd meets_row_tie rfl ⟨rfl,rfl⟩ fd rfl
  (fun f fn hf hfn=>by
     obtain rfl:f=5:=fy7 ((show Tryz.prog.funcNamed "coedit/coeditlaw.Meets" =some 5 by kernel_rfl).symm.trans hf) |>.symm;obtain rfl:fn=Tryz.f5:=(fy7 (Tryz.func5.symm.trans hfn)).symm
     exact ⟨by kernel_rfl,fun j t ht=>by
        rw [Tryz.params5] at ht;have h3:t=22:=by
         rcases j with _ | j
         · simpa using ht.symm
         · simp at ht
        subst h3;exact (show Tryz.prog.wantsStandIn 22=false by kernel_rfl)⟩)
  fd
#print axioms meets_card
end Go.Proofs.YtelecjnabeokeaaGreatDoor
