/- Orders. Part 6 of 6. -/
import Derived.Test.YtelecjnabeokeaaGreatDoorO5
import Derived.Test.YtelecjnabeokeaaGreatDoorRows
import Derived.Test.YtelecjnabeokeaaGreatDoorCards
import Derived.Test.YtelecjnabeokeaaGreatDoorTie
set_option maxRecDepth 100000
set_option maxHeartbeats 16000000
set_option linter.defProp false
set_option linter.unusedVariables false
set_option linter.unusedSimpArgs false
namespace Go.Proofs.YtelecjnabeokeaaGreatDoor
open Go Go.Conc Go.RowKit
def lse0:Plain.Ses:=Plain.new 2 4
def lse1:Plain.Ses:=(Plain.call lse0 1 0 0 (IntKind.i32.wrap 97)).2
def lsd1:(Plain.call lse0 1 0 0 (IntKind.i32.wrap 97)).1=0:=by kernel_rfl
def lse2:Plain.Ses:=(Plain.call lse1 1 1 0 (IntKind.i32.wrap 98)).2
def lsd2:(Plain.call lse1 1 1 0 (IntKind.i32.wrap 98)).1=0:=by kernel_rfl
def lse3:Plain.Ses:=(Plain.call lse2 4 0 0 (IntKind.i32.wrap 0)).2
def lsd3:(Plain.call lse2 4 0 0 (IntKind.i32.wrap 0)).1=0:=by kernel_rfl
def lse4:Plain.Ses:=(Plain.call lse3 4 1 0 (IntKind.i32.wrap 0)).2
def lsd4:(Plain.call lse3 4 1 0 (IntKind.i32.wrap 0)).1=0:=by kernel_rfl
def lse5:Plain.Ses:=(Plain.call lse4 5 0 0 (IntKind.i32.wrap 0)).2
def lsd5:(Plain.call lse4 5 0 0 (IntKind.i32.wrap 0)).1=0:=by kernel_rfl
def lse6:Plain.Ses:=(Plain.call lse5 5 1 0 (IntKind.i32.wrap 0)).2
def lsd6:(Plain.call lse5 5 1 0 (IntKind.i32.wrap 0)).1=0:=by kernel_rfl
structure TxOk (t:List Plain.El):Prop where
 len:t.length<3000
 ne:t≠[]
 asc:Asc t
def lx0E:Plain.textOf lse2 0=[⟨97,0,1⟩]:=by kernel_rfl
def lx0:TxOk (Plain.textOf lse2 0):=⟨by rw[lx0E];simp,by rw[lx0E];simp,by rw[lx0E];simp[Asc]⟩
def lx1E:Plain.textOf lse2 1=[⟨98,1,1⟩]:=by kernel_rfl
def lx1:TxOk (Plain.textOf lse2 1):=⟨by rw[lx1E];simp,by rw[lx1E];simp,by rw[lx1E];simp[Asc]⟩
def ly0E:Plain.textOf lse6 0=[⟨97,0,1⟩,⟨98,1,1⟩]:=by kernel_rfl
def ly0:TxOk (Plain.textOf lse6 0):=⟨by rw[ly0E];simp,by rw[ly0E];simp,by rw[ly0E];simp[Asc]⟩
def ly1E:Plain.textOf lse6 1=[⟨97,0,1⟩,⟨98,1,1⟩]:=by kernel_rfl
def ly1:TxOk (Plain.textOf lse6 1):=⟨by rw[ly1E];simp,by rw[ly1E];simp,by rw[ly1E];simp[Asc]⟩
def lySE:Plain.textOf lse6 (-1)=[⟨97,0,1⟩,⟨98,1,1⟩]:=by kernel_rfl
def lyS:TxOk (Plain.textOf lse6 (-1)):=⟨by rw[lySE];simp,by rw[lySE];simp,by rw[lySE];simp[Asc]⟩
def lt0:bstr (vq (Plain.textOf lse2 0))=⟨#[97]⟩:=by kernel_rfl
def lt1:bstr (vq (Plain.textOf lse2 1))=⟨#[98]⟩:=by kernel_rfl
def lu0:bstr (vq (Plain.textOf lse6 0))=⟨#[97,98]⟩:=by kernel_rfl
def lu1:bstr (vq (Plain.textOf lse6 1))=⟨#[97,98]⟩:=by kernel_rfl
def luS:bstr (vq (Plain.textOf lse6 (-1)))=⟨#[97,98]⟩:=by kernel_rfl
def pv6:PV.funcs[6]? =some Tryz.f6:=rd 6 _ _ Tryz.func6 fd fd rfl fd
def LivesR (N n0:Nat) (Shun:Loc->Prop) (v0:World) (x:Value) (m:Nat->Option SeatD) (j:Loc->Prop) (v':World) (N':Nat):Prop:=
 x=.bool true/\m=vb/\N'=N+3/\ ∃b,j=fax b Shun/\n0<=b/\Old n0 v0 v'
section
variable {WS:Nat->Option SeatD} {Shun:Loc->Prop} {v0:World} {N:Nat} {E:Nat->Value} {A:Nat->Addr}
structure SessM (n N n0:Nat) (L:Lay) (E:Nat->Value) (A:Nat->Addr) (S:Plain.Ses) (WS:Nat->Option SeatD) (v0 w:World):Prop where
 out: ∃ow',Sess n N n0 L E A S ow' WS w/\Old n0 v0 w
def co_runX {Φ:Goal} {v:World} {cs:List Frame} {P:World->Prop} {fr:Frame} (hW:WsOk WS Shun) (j:FrOk Tryz.prog rg fr) (hk:fr.kind=.normal) (h: ∃F:Nat->Frame,(∀t d,RunTo (λfr w=>P w/\ ∃x,fr=F x) fr (reW v t d))/\(∀x,vt (F x)=false)/\ ∀x w,P w->Co Φ WS Shun w N (G (F x) cs)):Co Φ WS Shun v N (G fr cs):=by
 obtain⟨F,h1,h2,h3⟩:=h;exact fge (Z:=λfr w=>P w/\ ∃x,fr=F x) hW (λfr v h=>by obtain⟨_,x,rfl⟩:=h;exact h2 x) j hk h1 (by rintro _ _ ⟨h,x,rfl⟩;exact h3 x _ h)
def fvu (hN:1<=N) (hB:Base v0) (hE:EV E A v0) (hA: ∀i,i<12->i≠2->(A i).block<v0.heap.size):
    Fc vb Shun v0 N 6 #[] (LivesR N v0.heap.size Shun v0):=by
 refine⟨λΦ X cs hc=>?_⟩;rw[ea Tryz.func6 rfl];simp only[show Tryz.f6.ntmps=103 from rfl];walk_nrm;refine fet bg (zu Tryz.func6 pv6 fd rfl) rfl ?_;apply Exists.intro
 case' h => refine And.intro ?ha (And.intro ?hp ?hc)
 case ha=>
    intro t d;refine rl (rj ?_);go_wp2;refine rl (yt ?_);simp only[szs];exact zt ⟨rfl,t,d,rfl⟩
 case hp => rfl
 case hc=>
    intro t d;refine fba (feu (n:=2) (room:=4) (N:=N) fe fe fe fe (hB.re t d) (hE.re t d) hA) jh rfl rfl gh rfl Tryz.func8 fd rfl ?_;rintro x J R v1 N' ⟨rfl,rfl,L,ow,rfl,C,D⟩;replace D:Old v0.heap.size v0 v1:=D.re';replace C:Sess 2 N v0.heap.size L E A lse0 ow J v1:=C;walk_nrm;refine co_runX (P:=λw=>SessM 2 N v0.heap.size L E A lse6 J v0 w) C.seats.ok (zu Tryz.func6 pv6 fd rfl) rfl ?_;apply Exists.intro
    case' h => refine And.intro ?ha (And.intro ?hp ?hc)
    case ha=>
     intro t d;refine uy rfl rfl (u:=.tuple #[.pointer (some ⟨L.b,0,none⟩),.int .i64 0]) (v1:=reW v1 t d) gw ?_;walk_nrm;refine uy rfl rfl (u:=.pointer (some ⟨L.b,0,none⟩)) (v1:=reW v1 t d) gw ?_;walk_nrm;refine uy rfl rfl (u:=.int .i64 0) (v1:=reW v1 t d) gw ?_;walk_nrm;refine uy rfl rfl (u:=.pointer (some ⟨L.b,0,none⟩)) (v1:=reW v1 t d) gw ?_;walk_nrm;refine uy rfl rfl (u:=.int .i64 0) (v1:=reW v1 t d) gw ?_;walk_nrm;have hS:=fx6 (C.re t d);have hO:=fx6 (D.re t d);generalize reW v1 t d=w0 at hS hO ⊢;refine ie (rl (rj ?_));go_wp2;refine rl (rj ?_);go_wp2_with (first|(go_at_call 9;refine(mr hS.out hO.out.ge2 1 0 0 97 fe fe (S':=lse1) (f2v lsd1 rfl)).mono ?_;rintro e w1 ⟨rfl,B,gS,gO,gE⟩;replace hO:=fx6 (hO.out.tr gO);replace hS:=fx6 gS;clear gS gO gE));refine rl (rj ?_);go_wp2_with (first|(go_at_call 9;refine(mr hS.out hO.out.ge2 1 1 0 98 fe fe (S':=lse2) (f2v lsd2 rfl)).mono ?_;rintro e w1 ⟨rfl,B,gS,gO,gE⟩;replace hO:=fx6 (hO.out.tr gO);replace hS:=fx6 gS;clear gS gO gE));refine rl (rj ?_);go_wp2_with (first|(go_at_call 16;refine(m6 hS.out hO.out.ge2 fe fe (0) ⟨#[97]⟩ lt0 lx0.len lx0.ne lx0.asc).mono ?_;rintro e w1 ⟨rfl,gS,gO,gB⟩;replace hO:=fx6 (hO.out.tr gO);replace hS:=fx6 gS;clear gS gO gB));refine rl (rj ?_);go_wp2_with (first|(go_at_call 16;refine(m6 hS.out hO.out.ge2 fe fe (1) ⟨#[98]⟩ lt1 lx1.len lx1.ne lx1.asc).mono ?_;rintro e w1 ⟨rfl,gS,gO,gB⟩;replace hO:=fx6 (hO.out.tr gO);replace hS:=fx6 gS;clear gS gO gB));refine rl (rj ?_);go_wp2;refine rl (rl (rj ?_));go_wp2;obtain⟨VV,M⟩:=hS.out.live.mem;have m:B w1.heap.size=0:=M.fresh _ (fx8 _);clear M VV;have j:=fx6 (Bk.nw (w:=w1) (t:=3) (cs:=#[.int .i64 4,.int .i64 5]) rfl);replace hS:=fx6 (hS.out.bl ((Bl.rf _).al (.cells #[.int .i64 4,.int .i64 5] 3)));replace hO:=fx6 (hO.out.tr (Old.bl hO.out.ge2 ((Bl.rf _).al (.cells #[.int .i64 4,.int .i64 5] 3))));generalize w1.alloc (.cells #[.int .i64 4,.int .i64 5] 3)=w2 at hS hO j ⊢;generalize w1.heap.size=xq at m j ⊢;obtain⟨cB,dB⟩:=j.out.ceF;refine yv (fhm ?_);refine rl (rj ?_);go_wp2;refine rl (ya (t:=true) rfl (bo (rl (yv (rl (rj ?_))))));go_wp2;refine rl (rj ?_);go_wp2;refine yv (fhm ?_);refine rl (rl (rj ?_));go_wp2;refine ya (t:=true) rfl (bo (rl (yv (rl (rj ?_)))));go_wp2_with (first|(go_at_call 9;refine(mr hS.out hO.out.ge2 4 0 0 0 fe fe (S':=lse3) (f2v lsd3 rfl)).mono ?_;rintro e w1 ⟨rfl,B,gS,gO,gE⟩;replace hO:=fx6 (hO.out.tr gO);replace hS:=fx6 gS;have gB:=j.out.ch gE.ch (λh=>h m);have q:=(gE.own _ j.out.lt).trans m;replace j:=fx6 gB;replace m:=q;clear gB q;obtain⟨cB,dB⟩:=j.out.ceF;clear gS gO gE));refine rl (rj ?_);go_wp2;refine ya (t:=false) rfl (bo (zb (rj ?_)));go_wp2;refine bt ?_;refine rl (rl (rj ?_));go_wp2;refine ya (t:=true) rfl (bo (rl (yv (rl (rj ?_)))));go_wp2_with (first|(go_at_call 9;refine(mr hS.out hO.out.ge2 4 1 0 0 fe fe (S':=lse4) (f2v lsd4 rfl)).mono ?_;rintro e w1 ⟨rfl,B,gS,gO,gE⟩;replace hO:=fx6 (hO.out.tr gO);replace hS:=fx6 gS;have gB:=j.out.ch gE.ch (λh=>h m);have q:=(gE.own _ j.out.lt).trans m;replace j:=fx6 gB;replace m:=q;clear gB q;obtain⟨cB,dB⟩:=j.out.ceF;clear gS gO gE));refine rl (rj ?_);go_wp2;refine ya (t:=false) rfl (bo (zb (rj ?_)));go_wp2;refine bt ?_;refine rl (rl (rj ?_));go_wp2;refine ya (t:=false) rfl (fhn rfl ?_);refine zb (rj ?_);go_wp2;refine bt ?_;refine rl (rj ?_);go_wp2;refine rl (ya (t:=true) rfl (bo (rl (yv (rl (rj ?_))))));go_wp2;refine rl (rj ?_);go_wp2;refine yv (fhm ?_);refine rl (rl (rj ?_));go_wp2;refine ya (t:=true) rfl (bo (rl (yv (rl (rj ?_)))));go_wp2_with (first|(go_at_call 9;refine(mr hS.out hO.out.ge2 5 0 0 0 fe fe (S':=lse5) (f2v lsd5 rfl)).mono ?_;rintro e w1 ⟨rfl,B,gS,gO,gE⟩;replace hO:=fx6 (hO.out.tr gO);replace hS:=fx6 gS;have gB:=j.out.ch gE.ch (λh=>h m);have q:=(gE.own _ j.out.lt).trans m;replace j:=fx6 gB;replace m:=q;clear gB q;obtain⟨cB,dB⟩:=j.out.ceF;clear gS gO gE));refine rl (rj ?_);go_wp2;refine ya (t:=false) rfl (bo (zb (rj ?_)));go_wp2;refine bt ?_;refine rl (rl (rj ?_));go_wp2;refine ya (t:=true) rfl (bo (rl (yv (rl (rj ?_)))));go_wp2_with (first|(go_at_call 9;refine(mr hS.out hO.out.ge2 5 1 0 0 fe fe (S':=lse6) (f2v lsd6 rfl)).mono ?_;rintro e w1 ⟨rfl,B,gS,gO,gE⟩;replace hO:=fx6 (hO.out.tr gO);replace hS:=fx6 gS;have gB:=j.out.ch gE.ch (λh=>h m);have q:=(gE.own _ j.out.lt).trans m;replace j:=fx6 gB;replace m:=q;clear gB q;obtain⟨cB,dB⟩:=j.out.ceF;clear gS gO gE));refine rl (rj ?_);go_wp2;refine ya (t:=false) rfl (bo (zb (rj ?_)));go_wp2;refine bt ?_;refine rl (rl (rj ?_));go_wp2;refine ya (t:=false) rfl (fhn rfl ?_);refine zb (rj ?_);go_wp2;refine bt ?_;refine rl (rj ?_);go_wp2;refine rl (ya (t:=false) rfl (fhn rfl ?_));refine rl (rj ?_);go_wp2_with (first|(go_at_call 16;refine(m6 hS.out hO.out.ge2 fe fe (0) ⟨#[97,98]⟩ lu0 ly0.len ly0.ne ly0.asc).mono ?_;rintro e w1 ⟨rfl,gS,gO,gB⟩;replace hO:=fx6 (hO.out.tr gO);replace hS:=fx6 gS;clear gS gO gB));refine rl (rj ?_);go_wp2_with (first|(go_at_call 16;refine(m6 hS.out hO.out.ge2 fe fe (1) ⟨#[97,98]⟩ lu1 ly1.len ly1.ne ly1.asc).mono ?_;rintro e w1 ⟨rfl,gS,gO,gB⟩;replace hO:=fx6 (hO.out.tr gO);replace hS:=fx6 gS;clear gS gO gB));refine rl (rj ?_);go_wp2_with (first|(go_at_call 16;refine(m6 hS.out hO.out.ge2 fe fe (-1) ⟨#[97,98]⟩ luS lyS.len lyS.ne lyS.asc).mono ?_;rintro e w1 ⟨rfl,gS,gO,gB⟩;replace hO:=fx6 (hO.out.tr gO);replace hS:=fx6 gS;clear gS gO gB));refine rl (yt ?_);simp only[szs];refine uy rfl rfl (u:=.pointer (some ⟨L.b,0,none⟩)) (v1:=w1) gw ?_;walk_nrm;exact zt (And.intro ⟨B,hS.out,hO.out⟩ (Exists.intro xq rfl))
    case hp => intro x;rfl
    case hc=>
     rintro xq w2 ⟨ow2,I,O⟩;refine fba (f6d (N':=N+(2+1)) I fe fe hN fe O.ge2) jh rfl rfl gh rfl Tryz.func12 fd rfl ?_;rintro x Y U v3 N3 ⟨rfl,rfl,rfl,rfl,W⟩;walk_nrm;refine fet bg (zu Tryz.func6 pv6 fd rfl) rfl ?_;apply Exists.intro
     case' h => refine And.intro ?ha (And.intro ?hp ?hc)
     case ha=>
        intro t d;refine ie (rl (rj ?_));go_wp2;exact fnj (zt ⟨rfl,t,d,rfl⟩)
     case hp => rfl
     case hc=>
        intro t d;refine fhp (fn:=Tryz.f6) rfl rfl Tryz.func6 (resultsC_tmp (t:=0) rfl _) ?_;refine hc _ _ _ _ _ ⟨rfl,rfl,rfl,L.b,rfl,?_,(O.tr W).re _ _⟩;obtain⟨V,hM⟩:=I.live.mem;rcases f01 L.b v0.heap.size with h|h
        ·have h1:=I.low _ h;have h2:=hM.tag.b;omega
        ·exact h
end
open Go.ConcN (sumTo upd sumTo_upd upd_ne upd_same)
section
variable {P:Program} {St:Nat->Loc->Prop} {Shun:Loc->Prop} {a:Goroutine} {T:Trace} {gs:Array Goroutine} {w:World} {q:Nat->Nat}
def past_of (C:Hold P St Shun u5 vb 0 a T gs w q) (B: ∀g l,St g l->g=0) (hD:Deaf T 0=0):Past Shun w.heap.size T:=by
 refine⟨C.past.clean,λi a ha hm=>?_,λi g hg A hc=>?_,hD,C.past.seen⟩
 ·rcases C.past.known i a ha hm with h|⟨_,g,hg,hs,_⟩|⟨h1,h2,_⟩
  ·exact .inl h
  ·obtain rfl:=B g _ hs;obtain⟨x,hx,I⟩:=fy8.1 hg;exact .inl (I▸knows_own hx)
  ·exact .inr ⟨h1,h2⟩
 ·obtain⟨x,hx,hm,hk⟩:=hc;rcases C.past.known i x hx hm with⟨j,z,hj,D,hb⟩|⟨_,g',m,hs,_⟩|⟨_,h2,h3⟩
  ·rcases hb with rfl|hb
   ·simp[Trace.g?,hj,D] at hg;exact absurd hg.symm A
   ·exact⟨j,by simp[Trace.g?,hj,D],hb⟩
  ·rw[hg] at m;cases m;exact absurd (B _ _ hs) A
  ·exact(hk.elim (λh=>h h2) h3).elim
def fnq (P:Program) (g:Goroutine) (x:Value):Prop:=g.status=.running/\ ∀w,stepG P true g w=.ended (.done x) w #[]
def ftf {x:Value} {Post:Value->World->Prop} (C:Hold P St Shun u5 vb 0 a T gs w q) (j: ∀g l,St g l->g=0) (hD:Deaf T 0=0) (he:fnq P a x) (hp: ∀d,Post x (w.at d)) (sl:Option (Nat×Nat)):
    ∃N last o w' t',runNT P (N+1) (crowd gs w sl) T=(.ended o w',t')/\runN P N (crowd gs w sl)=.next last/\step P last=.ended o w'/\Go.Conc.Good P Post last o w' t':=by
 refine beside_ends (D:=λ_ _ _=>False) (n:=0) (λw w' es h=>h.elim) C.here ⟨λi g hi hg=>(C.crew.idle i g fe hg).2,C.crew.above⟩ (past_of C j hD) ?_;rintro w1 ⟨d,rfl⟩;exact⟨he.1,x,#[],he.2 _,λe h=>by simp at h,hp d⟩
end
noncomputable def fx0 (W:World) (b:Nat):Option (Obj×Option Obj):=match W.heap[b]? with
 | some (.cells c e f)=>if c=#[]/\f=(0,0) then some (.cells #[] e (0,0),some (.cells #[] e (0,0))) else none
 | some o=>if mute o=true then some (hidO,some o) else none
 | none=>none
noncomputable def hide0 (W:World):Hide:=⟨λb=>(fx0 W b).map (·.1),λb=>W.heap[b]?,true⟩
noncomputable def xj (W:World):World:={ W with heap:=W.heap.mapIdx λb o=>((fx0 W b).map (·.1)).getD o }
def fwf (W:World):fug (fx0 W):=by
 intro b x hx cap buf cl s q tm;unfold fx0 at hx;split at hx
 ·split at hx <;>cases hx;simp
 ·split at hx <;>cases hx;simp
 ·cases hx
def eh (W:World) (b:Nat):(xj W).heap[b]? =(W.heap[b]?).map λo=>((fx0 W b).map (·.1)).getD o:=by
 simp[xj,f4x]
def fhu {W:World} {b:Nat} {x:Obj×Option Obj} (h:fx0 W b=some x):W.heap[b]? =x.2/\mw x.1 W.heap[b]? :=by
 unfold fx0 at h;split at h
 ·rename_i c e f hb;split at h
  ·rename_i hc;obtain⟨rfl,rfl⟩:=hc;cases h;exact⟨hb,.inl ⟨e,#[],rfl,hb⟩⟩
  ·cases h
 ·rename_i o _ hb;split at h
  ·rename_i hm;cases h;exact⟨hb,.inr (.inl ⟨rfl,o,hm,hb⟩)⟩
  ·cases h
 ·cases h
def fhv {W:World} {b:Nat} {o:Obj} (hb:W.heap[b]? =some o) (h:fx0 W b=none):mute o=false/\ ∀e,o≠ .cells #[] e (0,0):=by
 unfold fx0 at h;rw[hb] at h;cases o with
 | cells c e f=>
   simp only at h;split at h
   ·cases h
   ·rename_i hc;refine⟨rfl,λe' he=>?_⟩;cases he;exact hc ⟨rfl,rfl⟩
 | _ =>
   simp only at h;split at h
   ·cases h
   ·rename_i hc;exact⟨by simpa using hc,λe' he=>by cases he⟩
def ftg (W:World):Rel (hide0 W) (xj W) W:=by
 refine⟨by simp[xj],λb hb=>?_,λb o hb=>?_,rfl,rfl,λb o hb=>?_,λb o hb=>rfl,λ_ b o hH hb=>?_⟩
 ·have hb:(fx0 W b).map (·.1)=none:=hb;rw[eh,hb];simp
 ·have hb:(fx0 W b).map (·.1)=some o:=hb;obtain⟨x,hx,rfl⟩:=fy8.1 hb;obtain⟨h1,h2⟩:=fhu hx;refine⟨?_,h2⟩;rw[eh,hb];cases e:W.heap[b]? with
  | none=>
    unfold fx0 at hx;rw[e] at hx;cases hx
  | some o'=>simp
 ·rw [eh] at hb;obtain⟨o',j,rfl⟩:=fy8.1 hb;cases e:fx0 W b with
  | none=>
    have:=fhv j e;simp only[Option.map_none,Option.getD_none];cases o' <;>first|rfl|(exact absurd this.1 (by simp[mute]))
  | some x=>
    simp only[fz3,Option.getD_some];unfold fx0 at e;rw[j] at e;split at e
    ·split at e <;>cases e;rfl
    ·split at e <;>cases e;rfl
    ·cases e
 ·have hH:(fx0 W b).map (·.1)=none:=hH;rw[eh,hH] at hb;have hb:W.heap[b]? =some o:=by simpa using hb
  have:=fhv hb (by simpa using hH);cases o <;>first|rfl|(exact absurd this.1 (by simp[mute]))
def fpb {W v w:World} {H:Hide} {n:Nat} (hn:n<=W.heap.size) (rel:Rel H v w) (j: ∀b x,fx0 W b=some x->H b=some x.1/\H.real b=x.2) (hO: ∀x,x<n->v.heap[x]? =(xj W).heap[x]?): ∀x,x<n->w.heap[x]? =W.heap[x]? :=by
 intro x hx;cases e:fx0 W x with
 | some y=>
   obtain⟨h1,h2⟩:=j x y e;rw[rel.kept x _ h1,h2,(fhu e).1]
 | none=>
   have hv:v.heap[x]? =W.heap[x]? :=by
    rw[hO x hx,eh,e];simp
   cases hH:H x with
   | none=>rw[<- rel.same x hH];exact hv
   | some o=>
     exfalso;obtain⟨h1,h2⟩:=rel.laid x o hH;rw[hv] at h1;obtain⟨h3,h4⟩:=fhv h1 e;rcases h2 with⟨e',c,rfl,_⟩|⟨rfl,_⟩|⟨y,k,rfl,_⟩
     ·exact h4 e' rfl
     ·cases h3
     ·cases h3
def bv {W:World} {b:Nat} {c:Array Value} {e:TypeId} {f:Nat×Nat} (h:W.heap[b]? =some (.cells c e f)):(xj W).heap[b]? =some (.cells c e f):=by
 rw[eh,h];unfold fx0;rw[h];simp only[fz3];split
 ·rename_i hc;obtain⟨rfl,rfl⟩:=hc;rfl
 ·rfl
def f6v {W:World} {p:Addr} {x:Value} (h:W.cell? p=some x):(xj W).cell? p=some x:=by
 rw[<- h];unfold World.cell? at h ⊢;cases e:W.heap[p.block]? with
 | none=>rw[e] at h;cases h
 | some o=>
   rw[e] at h;cases o with
   | cells c t f=>rw[bv e]
   | _=>cases h
noncomputable def endG (W:World) (x:Value):Goal:=⟨λgs w T=> ∃Shun v g,fha (fx0 W) vb Shun v g gs w T/\fnq Tryz.prog g x/\Old W.heap.size (xj W) v,fx0 W,fwf W⟩
def co_done {W:World} {x:Value} {Shun:Loc->Prop} {v:World} {N:Nat} {g:Goroutine} (he:fnq Tryz.prog g x) (hO:Old W.heap.size (xj W) v):Co (endG W x) vb Shun v N g:=
 λ_ _ _ _ hS=>.done ⟨Shun,v,g,hS,he,hO⟩
def the_end {W:World} {x:Value} {fr:Frame} (h:Co (endG W x) vb (λ_=>False) (xj W) 1 (G fr [])):
    ∃ M last o w' t',runNT Tryz.prog (M+1) (solo (G fr []) W) #[]=(.ended o w',t')/\runN Tryz.prog M (solo (G fr []) W)=.next last/\step Tryz.prog last=.ended o w'/\
      Go.Conc.Good Tryz.prog (λy w'=>y=x/\Go.RowKit.Below W.heap.size W { w' with tape:=W.tape }) last o w' t':=by
 have m:fha (fx0 W) vb (λ_=>False) (xj W) (G fr []) #[G fr []] W #[]:=by
    refine⟨hide0 W,vb,λ_ _=>False,λ_=>0,λj s h=>je,⟨ftg W,⟨λi s h=>je,λg l h=>h.elim,λl h=>h.elim⟩,rfl,λb y hb=>?_,λi s h=>je,λi s h=>je,λb cap buf cl s q hb O=>?_,λg l h=>h.elim⟩,⟨⟨?_,?_,?_,?_,?_,?_,?_,?_⟩,rfl,?_,λi h=>h.elim,rfl⟩,rfl⟩
    ·refine⟨?_,(fhu hb).1⟩;show(fx0 W b).map (·.1)=_;rw[hb];rfl
    ·have hb:(fx0 W b).map (·.1)=_:=hb;obtain⟨y,hy,e⟩:=fy8.1 hb;exact absurd e (fwf W b y hy _ _ _ _ _ _)
    ·intro i g hi hg;exfalso;have:i<1:=by simpa using (fx5.1 hg).1
     omega
    ·intro i s h;cases h
    ·intro i s b o h;cases h
    ·intro i s h;cases h
    ·intro i i' s s' h;cases h
    ·intro i s h;cases h
    ·intro i s h;cases h
    ·intro j hj;rfl
    ·exact⟨past_nil.clean,λi a ha=>by simp[touchAt,Trace.act?] at ha,λi a ha=>by simp[touchAt,Trace.act?] at ha,λg l h=>h.elim,λg h=>h.elim,by simp⟩
 obtain⟨N,gs',w',B,T',h1,Shun,v,g,⟨H,S,St,q,_,I,C,hD⟩,he,hO⟩:=h #[G fr []] W #[] rfl m none
 have hS:S=vb:=by
    funext i
    cases e:S i with
    | none=>rfl
    | some s=>rcases I.only i s e with h|h <;>cases h
 subst hS
 have J: ∀g l,St g l->g=0:=λg l hl=>by
    rcases I.who g l hl with h|h|h
    ·exact h
    ·exact absurd rfl h
    ·exact absurd rfl h
 have A: ∀d,x=x/\Go.RowKit.Below W.heap.size W { w'.at d with tape:=W.tape }:=λd=>by
    refine⟨rfl,I.rel.os.symm.trans hO.os,rfl,I.rel.output.symm.trans hO.output,?_,λk hk=>?_⟩
    ·show W.heap.size<=w'.heap.size;rw[<- I.rel.size];exact f08 hO.le hO.size
    ·exact fpb (fx8 _) I.rel I.fix (λx hx=>hO.block x hx) k hk
 obtain⟨M,last,o,w2,t2,e1,e2,e3,e4⟩:=ftf (Post:=λy w2=>y=x/\Go.RowKit.Below W.heap.size W { w2 with tape:=W.tape }) C J hD he A B;refine⟨N+M,last,o,w2,t2,?_,?_,e3,e4⟩
 ·rw[f3r];exact fim N h1 e1
 ·have D:runN Tryz.prog N (solo (G fr []) W)=.next (crowd gs' w' B):=by rw[<- runNT_fst _ _ _ #[]];exact f3q Prod.fst h1
  rw[runN_add,D];exact e2
end Go.Proofs.YtelecjnabeokeaaGreatDoor
namespace Go.Proofs.YtelecjnabeokeaaGreatDoor
open Go Go.Conc Go.RowKit
attribute [local go_sem] f5q
structure NR where
 n:Nat
 r:Nat
def fvv {f:FuncId} {fn:Func} {T:Array Value} {todo:List Item} {x:Value} (hf:Tryz.prog.funcs[f]? =some fn) (j: ¬2=f) (hr:ResultsC Tryz.prog fn T x):fnq Tryz.prog (G { (base f).at ⟨T,[]⟩ todo with mode:=.returning } []) x:=by
 refine⟨rfl,λw=>?_⟩;obtain⟨h1,h2⟩:=hr w
 have hT:(results fn T).runT Tryz.prog w #[]=(.ok x w,#[]):=by
    refine f2v ?_ h2;rw[f0d];exact h1
 have:seen Tryz.prog f #[]=#[]:=seen_none Tryz.prog f;simp[-Sem.runT_eq,G,stepG,unwind,doReturn,Frame.at,base,hf,hT,this,j,GStep.after]
def fwg {Z:Frame->World->Prop} {b:Frame} {T0:Array Value} {k:List Item} {w:World} (h: ∀T,T=T0->RunTo Z (b.at ⟨T,[]⟩ k) w):RunTo Z (b.at ⟨T0,[]⟩ k) w:=h T0 rfl
structure SessX (n N n0:Nat) (L:Lay) (E:Nat->Value) (A:Nat->Addr) (WS:Nat->Option SeatD) (v0 w:World):Prop where
 out: ∃S ow',Sess n N n0 L E A S ow' WS w/\Old n0 v0 w
structure MeT (se:Value) (T:Array Value):Prop where
 out: ∃U:Nat->Value,T=#[U 0,U 1,U 2,U 3,U 4,U 5,U 6,se,U 8,U 9,U 10,.bool true,.bool true,U 13,U 14,U 15,U 16,U 17,U 18,U 19,U 20,U 21,U 22,U 23,U 24,U 25,U 26,U 27,U 28,U 29,U 30,U 31,U 32,U 33,U 34,U 35,U 36,U 37,U 38,U 39,U 40,U 41,U 42,U 43,U 44,U 45,U 46,U 47,U 48,U 49,U 50,U 51,U 52,U 53,U 54,U 55,U 56,U 57,U 58,U 59,U 60,U 61,U 62,U 63,U 64,U 65,U 66,U 67,U 68,U 69,U 70,U 71,U 72,U 73,U 74,U 75,se,U 77,U 78,U 79,U 80,U 81]
section
variable {v0:World} {E:Nat->Value} {A:Nat->Addr} {p:Option Addr} {n cap N:Nat} {f:Nat->Nat->Int} {s:Nat->ByteArray} {Shun:Loc->Prop}
structure MeC (n N n0:Nat) (L:Lay) (E:Nat->Value) (A:Nat->Addr) (WS:Nat->Option SeatD) (v0:World) (T:Array Value) (w:World):Prop where
 out: ∃S ow,MeT (.pointer (some ⟨L.b,0,none⟩)) T/\Sess n N n0 L E A S ow WS w/\Old n0 v0 w
def MeetR (n0:Nat) (v0:World) (x:Value) (j:Nat->Option SeatD) (_:Loc->Prop) (v':World) (_:Nat):Prop:=
 x=.bool true/\j=vb/\Old n0 v0 v'
end
end Go.Proofs.YtelecjnabeokeaaGreatDoor
namespace Go.Proofs.YtelecjnabeokeaaGreatDoor
open Go Go.Conc Go.RowKit
attribute [local go_sem] f5q
structure OrX (n N n0 ob:Nat) (L:Lay) (E:Nat->Value) (A:Nat->Addr) (WS:Nat->Option SeatD) (v0 w:World):Prop where
 out: ∃S R oo ow,Wat n N n0 L E A WS ob S R oo ow v0 w
def pv14:PV.funcs[14]? =some Tryz.f14:=rd 14 _ _ Tryz.func14 fd fd rfl fd
structure OrT (se:Value) (T:Array Value):Prop where
 out: ∃U:Nat->Value,T=#[U 0,U 1,U 2,U 3,U 4,se,U 6,U 7,.bool true,U 9,U 10,U 11,U 12,U 13,U 14,U 15,U 16,U 17,U 18,U 19,U 20,U 21,U 22,U 23,U 24,U 25,U 26,U 27,U 28,U 29,U 30,U 31,U 32,U 33,U 34,U 35,U 36,U 37,U 38,U 39,U 40,U 41,U 42,U 43,U 44,U 45,U 46,U 47,U 48,U 49,U 50,U 51,U 52,U 53,U 54,U 55,U 56,U 57,U 58,U 59,U 60,U 61,U 62,U 63,U 64,U 65,U 66,U 67,U 68,U 69,U 70,U 71,U 72,U 73,U 74,U 75,U 76,U 77,U 78,U 79,U 80,U 81,U 82,U 83,U 84,U 85,U 86,U 87,U 88,U 89,U 90,U 91,U 92,U 93,U 94,U 95,U 96,U 97,U 98,U 99,U 100,U 101,U 102,U 103,U 104,U 105,U 106,U 107,U 108,U 109,U 110,U 111,U 112,U 113,U 114,U 115,U 116,U 117,U 118,U 119,U 120,U 121,U 122,U 123,U 124,U 125,U 126,U 127,U 128,U 129,U 130,U 131,U 132,U 133,U 134,U 135,U 136,U 137,U 138,U 139,U 140,U 141,U 142,U 143,se,U 145,U 146]
section
variable {v0:World} {E:Nat->Value} {A:Nat->Addr} {p:Option Addr} {n cap N:Nat} {f:Nat->Nat->Int} {s:Nat->ByteArray} {Shun:Loc->Prop}
structure OrC (n N n0:Nat) (L:Lay) (E:Nat->Value) (A:Nat->Addr) (WS:Nat->Option SeatD) (v0:World) (T:Array Value) (w:World):Prop where
 out: ∃ob S R oo ow,OrT (.pointer (some ⟨L.b,0,none⟩)) T/\Wat n N n0 L E A WS ob S R oo ow v0 w
def f8v (hN : 1 <=N) (hB:Base v0) (hE:EV E A v0) (hA: ∀i,i<12->i≠2->(A i).block<v0.heap.size) (hS:Scr v0 p n cap f s):
    Fc vb Shun v0 N 14 #[.slice p n cap] (MeetR v0.heap.size v0):=by
 have bb:=hE.size;refine⟨λΦ X cs hc=>?_⟩;rw[ea Tryz.func14 rfl];simp only[show Tryz.f14.ntmps=147 from rfl];walk_nrm;refine flz (ι:=NR) (P:=λx w=>(1<=x.n/\x.n<=6/\1<=x.r/\x.r<=16)/\Old v0.heap.size v0 w) bg (zu Tryz.func14 pv14 fd rfl) rfl ?_;apply Exists.intro
 case' h => refine And.intro ?ha (And.intro ?hp ?hc)
 case ha=>
    intro t d;have bK:=fx6 (fvq (hS.keep (w':=reW v0 t d) (fx8 _) (λ_ _=>rfl)));refine rl (rj ?_);go_wp2;refine rl (rj ?_);go_wp2_with (first|(go_at_call 7;refine bK.out.mono ?_;rintro e w1 ⟨⟨nn,room,g1,g2,g3,g4,rfl⟩,gb⟩;obtain⟨x,rfl,rfl⟩: ∃x:NR,x.n=nn/\x.r=room:=⟨⟨nn,room⟩,rfl,rfl⟩));refine rl (yt ?_);simp only[szs];refine uy rfl rfl (u:=.int .i64 (x.n:Int)) (v1:=w1) gw ?_;walk_nrm;refine uy rfl rfl (u:=.int .i64 (x.r:Int)) (v1:=w1) gw ?_;walk_nrm;exact zt ⟨x,⟨⟨g1,g2,g3,g4⟩,(Old.bl (v:=reW v0 t d) (fx8 _) gb).re'⟩,rfl⟩
 case hp => intro x;rfl
 case hc =>
    rintro x w2 ⟨⟨g1,g2,g3,g4⟩,q⟩;have bF:Base w2:=hB.old q fe;have bG:EV E A w2:=hE.old q bb hA;have bJ:=hS.old q (fx8 _);have aD: ∀i,i<12->i≠2->(A i).block<w2.heap.size:=λi hi h2=>f0f (hA i hi h2) q.ge2;have ac:12<=w2.heap.size:=f08 bb q.ge2;refine fba (feu (n:=x.n) (room:=x.r) (N:=N) g1 g2 g3 g4 bF bG aD) jh rfl rfl gh rfl Tryz.func8 fd rfl ?_;rintro y aP bA v3 N' ⟨rfl,rfl,L,ow,rfl,be,bH⟩;walk_nrm;refine flz (ι:=Array Value) (P:=λT w=>OrC x.n N w2.heap.size L E A aP w2 T w) be.seats.ok (zu Tryz.func14 pv14 fd rfl) rfl ?_;apply Exists.intro
    case' h => refine And.intro ?ha (And.intro ?hp ?hc)
    case ha =>
     intro t d;refine uy rfl rfl (u:=.tuple #[.pointer (some ⟨L.b,0,none⟩),.int .i64 0]) (v1:=reW v3 t d) gw ?_;walk_nrm;refine uy rfl rfl (u:=.pointer (some ⟨L.b,0,none⟩)) (v1:=reW v3 t d) gw ?_;walk_nrm;refine uy rfl rfl (u:=.int .i64 0) (v1:=reW v3 t d) gw ?_;walk_nrm;refine uy rfl rfl (u:=.pointer (some ⟨L.b,0,none⟩)) (v1:=reW v3 t d) gw ?_;walk_nrm;refine uy rfl rfl (u:=.int .i64 0) (v1:=reW v3 t d) gw ?_;walk_nrm;obtain⟨oo,aT⟩:=Wat.start (be.re t d) ac aD (bH.re t d);generalize reW v3 t d=w0 at aT ⊢;have aC:OrX x.n N w2.heap.size w0.heap.size L E A aP w2 (w0.alloc (.cells #[.slice none 0 0,.slice none 0 0] 93)):=⟨_,_,_,_,aT⟩;clear aT;refine ie (rl (rj ?_));go_wp2;refine rl (rj ?_);go_wp2_with fail;generalize w0.heap.size=ob at aC ⊢;generalize w0.alloc (.cells #[.slice none 0 0,.slice none 0 0] 93)=w0' at aC ⊢;refine rl (rj ?_);go_wp2_with fail;refine rl (rj ?_);go_wp2_with fail
     go_loopw [8,9] (λqv iv wr=> ∃i:Nat,i<=n/\qv=.bool true/\iv=.int .i64 (i:Int)/\OrX x.n N w2.heap.size ob L E A aP w2 wr) (λ_ iv _=>n-(intOf iv).toNat)
     case atStart => exact⟨0,f1n _,rfl,rfl,aC⟩
     case round=>
        obtain⟨i,hi,rfl,rfl,gX⟩:=hrel;clear aC;go_upto_region 8 with fail
        go_cut [51] from 41 to 52 (λbR wx=> ∃b:Bool,bR=.bool b/\(b=true↔(i<n/\i<1152921504606846976))/\wx=wr)
        case first=>
         by_cases h1:i<n
         ·have bm:(i:Int)<(n:Int):=by omega
          by_cases h2:i<1152921504606846976
          ·have bp:(i:Int)<1152921504606846976:=by omega
           go_wp2_with fail
           go_meet
           case rel => exact⟨true,rfl,by simp[h1,h2],rfl⟩
          ·have bp: ¬(i:Int)<1152921504606846976:=by omega
           go_wp2_with fail
           go_meet
           case rel => exact⟨false,rfl,by simp[h2],rfl⟩
         ·have bm: ¬(i:Int)<(n:Int):=by omega
          go_wp2_with fail
          go_meet
          case rel => exact⟨false,rfl,by simp[h1],rfl⟩
        case rest=>
         obtain⟨b,rfl,hb,rfl⟩:=hcut;cases b with
         | true=>
           obtain⟨hlt,bX⟩:=hb.1 rfl;have bY:IntKind.i64.wrap ((i:Int)+1)=(i:Int)+1:=f0t _ fe;obtain⟨S,R,oo,ow,gW⟩:=gX.out;have bc:=bJ.old gW.old (fx8 _);obtain⟨bq,oq,bu,bT,bk⟩:=bc.at_ fe
           have bN: ∀u:World,(Instr.indexAt 22 (.slice p n cap) (.int .i64 (i:Int))).run PV u=.ok (.pointer (some ⟨bq,oq+i*7,none⟩)) u:=λu=>by
              have bm:(i:Int)<(n:Int):=by omega
              rw[bu];go_simp
           obtain⟨B,q6⟩:=bk i hlt;have q0:=B 0 fe;have q1:=B 1 fe;have q2:=B 2 fe;have q3:=B 3 fe;have q4:=B 4 fe;have q5:=B 5 fe;simp only[f5p] at q0;have aE:=gW.fresh (fx8 _);replace aE:=fx6 aE;replace gW:=fx6 gW;clear bu B bk bc gX hb;go_upto_region 11 with fail
           refine vy (F:=λWn=>Bl wc Wn/\Bk Wn wc.heap.size 30 #[.int .i64 (f i 0),.int .i64 (f i 1),.int .i64 (f i 2),.int .i64 (f i 3),.int .i64 (f i 4),.int .i64 (f i 5),.string (s i)]/\ow wc.heap.size=0/\oo wc.heap.size=0) ⟨(Bl.rf _).al _,Bk.nw rfl,aE.out⟩ ?_;clear aE;generalize wc.heap.size=xq;rintro Wn ⟨a0,gK,bQ,br⟩;obtain⟨cO,dO⟩:=gK.ceF;clear q0 q1 q2 q3 q4 q5 q6 bN;rcases(by omega: ¬f i 0=2\/f i 0=2/\f i 2<1\/f i 0=2/\ ¬f i 2<1/\5<f i 2\/f i 0=2/\ ¬f i 2<1/\ ¬5<f i 2/\f i 3<0\/f i 0=2/\ ¬f i 2<1/\ ¬5<f i 2/\ ¬f i 3<0/\(x.n:Int)<=f i 3\/f i 0=2/\ ¬f i 2<1/\ ¬5<f i 2/\ ¬f i 3<0/\ ¬(x.n:Int)<=f i 3) with h0|⟨h0,h1⟩|⟨h0,h1,h2⟩|⟨h0,h1,h2,h3⟩|⟨h0,h1,h2,h3,h4⟩|⟨h0,h1,h2,h3,h4⟩
           iterate 5
              ·go_wp2_with fail
               go_roundw
               case rel => exact⟨i+1,by omega,rfl,by simp,⟨_,_,_,_,gW.out.bl a0⟩⟩
               case measure => simp[intOf];omega
           go_upto_region 12 with fail
           have bO:1<=f i 2:=by omega
           have bP:f i 2<=5:=by omega
           have bM:f i 3<x.n:=by omega
           obtain⟨c,bL⟩: ∃c:Nat,f i 3=(c:Int):=⟨(f i 3).toNat,by omega⟩;rw[bL] at gK bM;have D:c<x.n:=by omega
           clear h1 h2 h3 h4 cO dO;obtain⟨cO,dO⟩:=gK.ceF;have Y:=fx6 (gW.out.bl a0);go_upto_region 13 with(first|(go_at_call 11;refine(Y.out.elems g1 g2 (c:Int)).mono ?_;rintro e w1 ⟨v1,rfl,an,M,a1⟩))
           have a2:=gK.bl a1;have aU:=fx6 (Y.out.bl a1);clear cO dO;obtain⟨cO,dO⟩:=a2.ceF;replace an:=fx6 an;replace M:=fx6 M;go_upto_region 14 with(first|(go_at_call 29;refine(aU.out.cursor g1 g2 D).mono ?_;rintro e w2 ⟨rfl,aQ⟩))
           have a3:=a2.bl aQ;have a8:=fx6 (aU.out.bl aQ);clear cO dO;obtain⟨cO,dO⟩:=a3.ceF;go_upto_region 15 with(first|(go_at_call 9;refine(a8.out.do_ _ _ _ _ bO bP).mono ?_;rintro e w3 ⟨y,rfl,S',R',ow',m,gE,aY⟩))
           have a4:=a3.ey gE bQ;have aJ:=fx6 (show Txt w3 v1 (Plain.textOf S (c:Int)) from qx gE.ch (an.out.bl aQ) (λz hz hn=>hn (Y.out.fresh (M.out z hz)).1));replace aY:=fx6 λh3=>aY h3 c rfl D;replace m:=fx6 m;clear cO dO an;obtain⟨cO,dO⟩:=a4.ceF;go_upto_region 16 with(first|(go_at_call 11;refine(m.out.elems g1 g2 (c:Int)).mono ?_;rintro e w4 ⟨v2,rfl,ap,ak,aR⟩))
           have a5:=a4.bl aR;have aV:=fx6 (m.out.bl aR);clear cO dO;obtain⟨cO,dO⟩:=a5.ceF;replace ap:=fx6 ap;replace ak:=fx6 ak;go_upto_region 17 with(first|(go_at_call 29;refine(aV.out.cursor g1 g2 D).mono ?_;rintro e w5 ⟨rfl,ad⟩))
           have aA:=fx6 (aV.out.bl ad);clear cO dO;go_upto_region 18 with(first|(go_at_call 11;refine(aA.out.elems g1 g2 (-1)).mono ?_;rintro e w6 ⟨v3,rfl,W,a7,ae⟩))
           have a6:=(a5.bl ad).bl ae;have a9:=fx6 (aA.out.bl ae);have bU:=gW.out.ss.live.good.texts (c:Int);have bV:=m.out.ss.live.good.texts (c:Int);have bW:=m.out.ss.live.good.texts (-1);have O:=fx6 (((aJ.out.bl aR).bl ad).bl ae);have C:=fx6 ((ap.out.bl ad).bl ae);have aa: ∀z,v1.ownBlock=some z->oo z=0:=λz hz=>(Y.out.fresh (M.out z hz)).2;have J: ∀z,v2.ownBlock=some z->oo z=0:=λz hz=>(m.out.fresh (ak.out z hz)).2;have ab: ∀z,v3.ownBlock=some z->oo z=0:=λz hz=>(aA.out.fresh (a7 z hz)).2;have I:=(a9.out.text D).2;replace aa:=fx6 aa;replace J:=fx6 J;replace ab:=fx6 ab;replace I:=fx6 I;replace W:=fx6 W;clear aJ ap M ak a7 Y aU a8 aV aA;go_upto_region 19 with(first|(go_at_call 30;refine(a9.out.see ac aD C.out J.out I.out.1.1 I.out.2.1 fe).mono ?_;rintro e w7 ⟨rfl,aI,aW,ah,j⟩))
           have bD:=a6.ch ah (λhn=>hn br);have aK:=fx6 (show Txt w7 v1 (Plain.textOf S (c:Int)) from qx ah O.out (λz hz hn=>hn (aa.out z hz)));have aM:=fx6 (show Txt w7 v2 (Plain.textOf S' (c:Int)) from qx ah C.out (λz hz hn=>hn (J.out z hz)));have aO:=fx6 (show Txt w7 v3 (Plain.textOf S' (-1)) from qx ah W.out (λz hz hn=>hn (ab.out z hz)));have aF: ∀z,v1.ownBlock=some z->aI z=0:=λz hz=>(j z (lr O.out z hz)).trans (aa.out z hz);have aG: ∀z,v2.ownBlock=some z->aI z=0:=λz hz=>(j z (lr C.out z hz)).trans (J.out z hz);have aH: ∀z,v3.ownBlock=some z->aI z=0:=λz hz=>(j z (lr W.out z hz)).trans (ab.out z hz);have bs:aI xq=0:=(j xq a6.lt).trans br;replace aF:=fx6 aF;replace aG:=fx6 aG;replace aH:=fx6 aH;replace aW:=fx6 aW;clear aa J ab O C W j;go_upto_region 20 with(first|(go_at_call 30;refine(aW.out.see ac aD aO.out aH.out I.out.1.2 I.out.2.2 fe).mono ?_;rintro e w8 ⟨rfl,bZ,aB,aS,ba⟩))
           have bE:=bD.ch aS (λhn=>hn bs);have aL:Txt w8 v1 (Plain.textOf S (c:Int)):=qx aS aK.out (λz hz hn=>hn (aF.out z hz));have aN:Txt w8 v2 (Plain.textOf S' (c:Int)):=qx aS aM.out (λz hz hn=>hn (aG.out z hz));have aZ:=fx6 (λh3=>f98 aL aN fe fe (aY.out h3));replace aB:=fx6 aB;clear aK aM aO aL aN aF aG aH ba;obtain⟨cO,dO⟩:=bE.ceF;by_cases h3:f i 2=3
           ·go_wp2_with fail
            go_roundw
            case rel => exact⟨i+1,by omega,rfl,by simp,⟨_,_,_,_,aB.out⟩⟩
            case measure => simp[intOf];omega
           ·replace aZ:=fx6 (aZ.out h3);go_wp2_with (first|(go_at_call 31;refine aZ.out.mono ?_;rintro e w9 ⟨rfl,bC⟩))
            go_roundw
            case rel => exact⟨i+1,by omega,rfl,by simp,⟨_,_,_,_,aB.out.bl bC⟩⟩
            case measure => simp[intOf];omega
         | false=>
           clear hb hi;go_wp2_with fail;obtain⟨S,R,oo,ow',gW⟩:=gX.out;clear gX;refine rl (yt ?_);simp only[szs];refine uy rfl rfl (u:=.pointer (some ⟨L.b,0,none⟩)) (v1:=wc) gw ?_;walk_nrm;refine fwg λT hT=>?_;exact zt ⟨T,⟨ob,S,R,oo,ow',⟨λi=>T.getD i undef,by subst hT;rfl⟩,gW⟩,rfl⟩
    case hp => intro x;rfl
    case hc=>
     rintro T w4 ⟨ob,S,R,oo,b0,⟨U,rfl⟩,aX⟩;refine fba (f6d (N':=N+(x.n+1)) aX.ss g1 g2 hN (fx8 _) aX.old.ge2) jh rfl rfl gh rfl Tryz.func12 fd rfl ?_;rintro y bS bB v5 N3 ⟨rfl,rfl,rfl,rfl,bI⟩;walk_nrm;refine fet bg (zu Tryz.func14 pv14 fd rfl) rfl ?_;apply Exists.intro
     case' h => refine And.intro ?ha (And.intro ?hp ?hc)
     case ha=>
        intro t d;refine ie (rl (rj ?_));go_wp2;exact fnj (zt ⟨rfl,t,d,rfl⟩)
     case hp => rfl
     case hc=>
        intro t d;refine fhp (fn:=Tryz.f14) rfl rfl Tryz.func14 (resultsC_tmp (t:=2) rfl _) ?_;exact hc _ _ _ _ _ ⟨rfl,rfl,(q.tr ((aX.old.tr bI).mo q.ge2)).re _ _⟩
end
end Go.Proofs.YtelecjnabeokeaaGreatDoor
namespace Go.Proofs.YtelecjnabeokeaaGreatDoor
open Go Go.Conc Go.RowKit
def pv4:PV.funcs[4]? =some Tryz.f4:=rd 4 _ _ Tryz.func4 fd fd rfl fd
def rt_valw {Z:Frame->World->Prop} {b:Frame} {a:Act} {k:List Item} {ops:Array Oper} {i:Nat} {rest:List Nat} {o:Oper} {v v1:World} {u:Value} (ho:ops[i]? =some o) (hw:Region.wanted o (yielded ops a.tmps)=true) (hr:(execOp a.eval o).run PV v=.ok (.value u) v1) (h:RunTo Z (b.at (a.put o.dst u) (.inRegion ops rest::k)) v1):RunTo Z (b.at a (.inRegion ops (i::rest)::k)) v:=by
 have hg:=stepG_op (P:=PV) (b:=b) (k:=k) (cs:=[botF]) (w:=v) (rest:=rest) ho hw
 have j: ∀v,(b.at a (.inRegion ops (i::rest)::k)).finish v=b.at (a.put o.dst v) (.inRegion ops rest::k):=by
    intro v;rw[f0i,ho];rfl
 refine za (f3t ?_) h;rw[hg,<- j];simp[stepG.apply,hr]
def f9e {Φ:Goal} {WS:Nat->Option SeatD} {Shun:Loc->Prop} {v:World} {N:Nat} {cs:List Frame} {f:FuncId} {args:Array Value} {R:Value->(Nat->Option SeatD)->(Loc->Prop)->World->Nat->Prop} (h:Fc WS Shun v N f args R) {b:Frame} {a:Act} {k:List Item} {ops:Array Oper} {i:Nat} {rest:List Nat} {o:Oper} {fn:Func} {c:Code} {A:Array Operand} {B:Array TypeId}
    (hx:A.map a.eval=args) (ho:ops[i]? =some o) (hw:Region.wanted o (yielded ops a.tmps)=true) (hk:b.kind≠ .early) (C:o.op=.call { callee:=.value (.func f),args:=A,argTypes:=B })
    (hf:Tryz.prog.funcs[f]? =some fn) (q:(fn.name== "runtime.NumGoroutine")=false) (hb:fn.body=some c)
    (hc: ∀x m j v' N',R x m j v' N'->Co Φ m j v' N' (G (b.at (a.put o.dst x) (.inRegion ops rest::k)) cs)):
    Co Φ WS Shun v N (G (b.at a (.inRegion ops (i::rest)::k)) cs):=by
 refine f8w ho hw hk C hf q hb ?_;rw[hx];refine h.out Φ _ cs λx m j v' N' hr=>?_;rw[fho ho];exact hc x m j v' N' hr
section
variable {W:World} {E:Nat->Value} {A:Nat->Addr} {p:Option Addr} {n cap:Nat} {f:Nat->Nat->Int} {s:Nat->ByteArray}
def f99 (hB:Base (xj W)) (hE:EV E A (xj W)) (hA: ∀i,i<12->i≠2->(A i).block<(xj W).heap.size) (hS:Scr (xj W) p n cap f s):
    Co (endG W (.bool true)) vb (λ_=>False) (xj W) 1 (G (Frame.enter Tryz.prog 4 #[.slice p n cap] .normal) []):=by
 have C:=hE.size;have U:(xj W).heap.size=W.heap.size:=by simp[xj]
 rw[ea Tryz.func4 rfl];simp only[show Tryz.f4.ntmps=10 from rfl];walk_nrm;refine fet bg (zu Tryz.func4 pv4 fd rfl) rfl ?_;apply Exists.intro
 case' h => refine And.intro ?ha (And.intro ?hp ?hc)
 case ha=>
    intro t d;refine rl (rj ?_);go_wp2;refine rl (yt ?_);simp only[szs];exact zt ⟨rfl,t,d,rfl⟩
 case hp => rfl
 case hc=>
    intro t d;refine fba (fvu (N:=1) fe (hB.re t d) (hE.re t d) hA) jh rfl rfl gh rfl Tryz.func6 fd rfl ?_;rintro x X q v1 N' ⟨rfl,rfl,rfl,b1,rfl,aa,j⟩;replace j:Old (xj W).heap.size (xj W) v1:=j.re';have hB1:Base v1:=hB.old j fe;have J:EV E A v1:=hE.old j C hA;have R:=hS.old j (fx8 _);have D: ∀i,i<12->i≠2->(A i).block<v1.heap.size:=λi hi h2=>f0f (hA i hi h2) j.ge2;walk_nrm;refine fet bg (zu Tryz.func4 pv4 fd rfl) rfl ?_;apply Exists.intro
    case' h => refine And.intro ?ha (And.intro ?hp ?hc)
    case ha=>
     intro t d;refine uy rfl rfl (u:=.bool true) (v1:=reW v1 t d) gw ?_;walk_nrm;refine ie (rl (yt ?_));simp only[szs];refine uy rfl rfl (u:=.bool true) (v1:=reW v1 t d) gw ?_;walk_nrm;refine uy rfl rfl (u:=.bool true) (v1:=reW v1 t d) gw ?_;walk_nrm;refine rt_valw rfl rfl (u:=.slice p n cap) (v1:=reW v1 t d) gw ?_;walk_nrm;exact zt ⟨rfl,t,d,rfl⟩
    case hp => rfl
    case hc=>
     intro t d;have O:Old v1.heap.size v1 (reW v1 t d):=(Old.rf (fx8 _)).re t d;have I: ∀i,i<12->i≠2->(A i).block<(reW v1 t d).heap.size:=D;refine f9e (f8v (N:=4) fe (hB1.re t d) (J.re t d) I (R.old O (fx8 _))) jh rfl rfl gh rfl Tryz.func14 fd rfl ?_;rintro y Y B v5 N3 ⟨rfl,rfl,M⟩;have m:Old (xj W).heap.size (xj W) (reW v1 t d):=j.re t d;walk_nrm;refine fet bg (zu Tryz.func4 pv4 fd rfl) rfl ?_;apply Exists.intro
     case' h => refine And.intro ?ha (And.intro ?hp ?hc)
     case ha=>
        intro t d;refine uy rfl rfl (u:=.bool true) (v1:=reW v5 t d) gw ?_;walk_nrm;refine uy rfl rfl (u:=.bool true) (v1:=reW v5 t d) gw ?_;walk_nrm;exact ie (fnj (zt ⟨rfl,t,d,rfl⟩))
     case hp => rfl
     case hc=>
        intro t d;exact co_done (fvv Tryz.func4 fu (resultsC_tmp (P:=Tryz.prog) (fn:=Tryz.f4) (t:=2) rfl _)) (U▸(m.tr (M.mo m.ge2)).re t d)
end
open Go.ConcM Go.ChangeShapes Go.WideShapes Go.Deep
def Tryz.own:ownKnob Tryz.prog.godebug=none:=by kernel_rfl
def Tryz.star: "*" ++ "errors.errorString" = "*errors.errorString" :=by decide
def Tryz.row227 (u:TypeId) (h:Tryz.prog.typeName? 3 u=some "*errors.errorString"):u=227:=
 typeName_ptr_named (nm:= "errors.errorString") (by rw[Tryz.star];kernel_rfl) fd fu u (by rw[Tryz.star];exact h)
def Tryz.cells246:Tryz.prog.cellsOf 246=1:=by kernel_rfl
def Tryz.cells9:Tryz.prog.cellsOf 9=1:=by kernel_rfl
def Tryz.rt:(Tryz.prog.cutTypes.find? (·.1== "internal/reflectlite.rtype")).map (·.2)=some 192:=by kernel_rfl
def Tryz.tsize:Tryz.prog.types.size=258:=by kernel_rfl
def Tryz.oneRow:((List.range 258).filter λt=>Tryz.prog.rowNamed t [101,114,114,111,114])=[49]:=by kernel_rfl
def sent {H:Type} (s:List UInt8):DataW H:=.iface "*errors.errorString" (.ptr (.agg [.lit (.string s)]))
structure Holds1 (W:World) (g:Nat) (s:List UInt8) (a:Addr):Prop where
 var:W.cell? ⟨g,0,none⟩=some (ev a)
 cell: ∃b:ByteArray,W.cell? a=some (.string b)/\b.data.toList=s
 row: ∃c t,W.heap[a.block]? =some (.cells c t (0,0))
 own: ∃c t,W.heap[g]? =some (.cells c t (0,0))
def vh {W:World} {n:String} {s:List UInt8} {r:List (String×DataW Unit)} {ps:List MemPlace} {g:Nat} (hg:Tryz.prog.globalNamed n=some g) (ht:(Tryz.prog.globals[g]?).map (·.type)=some 49)
    (h:DataW.LaidVars Tryz.prog W ((n,sent s)::r) ps)
    (j: ∀b off,MemPlace.cell b off∈ps->(∃c t,W.heap[b]? =some (.cells c t (0,0)))/\ ∀u v,W.cell? ⟨b,off,none⟩=some (.iface u v)->Value.okWide Tryz.prog W .any 0 u v):
    (∃a,Holds1 W g s a)/\ ∃q,DataW.LaidVars Tryz.prog W r q/\ ∀b off,MemPlace.cell b off∈q->(∃c t,W.heap[b]? =some (.cells c t (0,0)))/\ ∀u v,W.cell? ⟨b,off,none⟩=some (.iface u v)->Value.okWide Tryz.prog W .any 0 u v:=by
 obtain⟨g0,t0,A,f0,p0,q0,D,ht0,m,C,hq,e0⟩:=h;obtain rfl:=fy7 (hg.symm.trans D);obtain rfl:=fy7 (ht.symm.trans ht0);subst e0;obtain⟨l0⟩:=A
 have J: ∀u v,l0=[.iface u v]->Value.okWide Tryz.prog W .any 0 u v:=λu v e=>by
    subst e;exact(j g 0 (by simp[MemPlace.row])).2 u v (by simpa using World.var?_cell hg m 0)
 obtain⟨a0,s0,rfl,B,I,_,rfl⟩:=errorString_of_trod Tryz.underlying49 Tryz.row227 Tryz.underlying227 Tryz.underlying246 rfl rfl Tryz.underlying9 Tryz.cells246 Tryz.cells9 C J;refine⟨⟨a0,by simpa using World.var?_cell hg m 0,⟨s0,B,I⟩,(j a0.block a0.off (by simp[MemPlace.row])).1,(j g 0 (by simp[MemPlace.row])).1⟩,q0,hq,λb off hb=>j b off (by simp[hb])⟩
def Holds1.ne {W:World} {g g':Nat} {s s':List UInt8} {a a':Addr} (h:Holds1 W g s a) (h':Holds1 W g' s' a') (hs:s≠s'):a≠a':=by
 rintro rfl;obtain⟨b,h1,h2⟩:=h.cell;obtain⟨b',j,m⟩:=h'.cell;rw[h1] at j;obtain rfl:b=b':=by injection j with e;injection e
 exact hs (h2.symm.trans m)
def txt:Nat->List UInt8
 | 0=>[110,111,32,115,117,99,104,32,115,101,115,115,105,111,110]
 | 3=>[110,111,32,115,117,99,104,32,99,108,105,101,110,116]
 | 1=>[110,111,32,114,117,110,101]
 | 4=>[111,117,116,32,111,102,32,114,97,110,103,101]
 | 5=>[97,32,108,105,110,107,32,105,115,32,102,117,108,108]
 | 6=>[116,111,111,32,109,97,110,121,32,99,104,97,110,103,101,115]
 | 7=>[97,32,108,105,110,107,32,105,115,32,101,109,112,116,121]
 | 8=>[110,111,32,102,114,97,109,101]
 | 9=>[97,32,102,114,97,109,101,32,111,117,116,32,111,102,32,111,114,100,101,114]
 | 10=>[97,32,102,114,97,109,101,32,116,104,97,116,32,116,101,108,108,115,32,111,102,32,119,104,97,116,32,119,97,115,32,110,111,116,32,115,101,110,116]
 | 11=>[116,104,101,32,115,101,115,115,105,111,110,32,104,97,115,32,98,101,101,110,32,115,116,111,112,112,101,100]
 | _=>[]
def txt_all:((List.range 12).all λi=>(List.range 12).all λj=>i==2||j==2||i==j||txt i !=txt j)=true:=by decide+kernel
def txt_ne (i j:Nat) (hi:i<12) (hj:j<12) (h2:i≠2) (h3:j≠2) (h:i≠j):txt i≠txt j:=by
 have:=f1x.1 (f1x.1 txt_all i (f2s.2 hi)) j (f2s.2 hj);simpa[h2,h3,h] using this
def laidL:List (String×DataW Unit):=Rows.foldsRow.laid
def ffg {W:World} (h:laidMetH Tryz.prog laidL W):W.cell? ⟨2,0,none⟩=some (.iface 192 (.agg #[.pointer (some ⟨13,49,none⟩)])):=by
 have h':laidMet Tryz.prog (laidL.drop 1) W/\handlesMet Tryz.prog (laidL.take 1) W:=h;obtain⟨name,u,ty,e1,e2,e3,e4,e5⟩:=h'.2 _ (f3k.2 rfl);have en:name=[101,114,114,111,114]:=(fy7 e1).symm;subst en;obtain rfl:=fy7 (Tryz.rt.symm.trans e2);have hm:ty∈(List.range 258).filter λt=>Tryz.prog.rowNamed t [101,114,114,111,114]:=List.mem_filter.2 ⟨f2s.2 (by rw[<- Tryz.tsize];exact e3),e4⟩;rw[Tryz.oneRow] at hm;obtain rfl:=f3k.1 hm;have hh:typeHandle Tryz.prog 49=.pointer (some ⟨13,49,none⟩):=by kernel_rfl
 rw[hh] at e5;simpa using World.var?_cell (show Tryz.prog.globalNamed "errors.errorType" =some 2 by kernel_rfl) e5 0
def Tryz.g0:Tryz.prog.globalNamed "coedit/coedit.ErrShape" =some 0:=by kernel_rfl
def Tryz.gt0:(Tryz.prog.globals[0]?).map (·.type)=some 49:=by kernel_rfl
def Tryz.g3:Tryz.prog.globalNamed "coedit/coedit.ErrClient" =some 3:=by kernel_rfl
def Tryz.gt3:(Tryz.prog.globals[3]?).map (·.type)=some 49:=by kernel_rfl
def Tryz.g1:Tryz.prog.globalNamed "coedit/coedit.ErrRune" =some 1:=by kernel_rfl
def Tryz.gt1:(Tryz.prog.globals[1]?).map (·.type)=some 49:=by kernel_rfl
def Tryz.g4:Tryz.prog.globalNamed "coedit/coedit.ErrRange" =some 4:=by kernel_rfl
def Tryz.gt4:(Tryz.prog.globals[4]?).map (·.type)=some 49:=by kernel_rfl
def Tryz.g5:Tryz.prog.globalNamed "coedit/coedit.ErrFull" =some 5:=by kernel_rfl
def Tryz.gt5:(Tryz.prog.globals[5]?).map (·.type)=some 49:=by kernel_rfl
def Tryz.g6:Tryz.prog.globalNamed "coedit/coedit.ErrMany" =some 6:=by kernel_rfl
def Tryz.gt6:(Tryz.prog.globals[6]?).map (·.type)=some 49:=by kernel_rfl
def Tryz.g7:Tryz.prog.globalNamed "coedit/coedit.ErrEmpty" =some 7:=by kernel_rfl
def Tryz.gt7:(Tryz.prog.globals[7]?).map (·.type)=some 49:=by kernel_rfl
def Tryz.g8:Tryz.prog.globalNamed "coedit/coedit.ErrFrame" =some 8:=by kernel_rfl
def Tryz.gt8:(Tryz.prog.globals[8]?).map (·.type)=some 49:=by kernel_rfl
def Tryz.g9:Tryz.prog.globalNamed "coedit/coedit.ErrOrder" =some 9:=by kernel_rfl
def Tryz.gt9:(Tryz.prog.globals[9]?).map (·.type)=some 49:=by kernel_rfl
def Tryz.g10:Tryz.prog.globalNamed "coedit/coedit.ErrAck" =some 10:=by kernel_rfl
def Tryz.gt10:(Tryz.prog.globals[10]?).map (·.type)=some 49:=by kernel_rfl
def Tryz.g11:Tryz.prog.globalNamed "coedit/coedit.ErrStopped" =some 11:=by kernel_rfl
def Tryz.gt11:(Tryz.prog.globals[11]?).map (·.type)=some 49:=by kernel_rfl
def fev {W:World} (h:laidMetH Tryz.prog laidL W): ∃A:Nat->Addr,∀k,k<12->k≠2->Holds1 W k (txt k) (A k):=by
 have h':laidMet Tryz.prog (laidL.drop 1) W/\handlesMet Tryz.prog (laidL.take 1) W:=h;obtain⟨ps,h0,_,r0⟩:=h'.1;obtain⟨⟨a0,k0⟩,q1,h1,r1⟩:=vh (s:=txt 0) Tryz.g0 Tryz.gt0 h0 r0;obtain⟨⟨a3,k3⟩,q2,h2,r2⟩:=vh (s:=txt 3) Tryz.g3 Tryz.gt3 h1 r1;obtain⟨⟨a1,k1⟩,q3,h3,r3⟩:=vh (s:=txt 1) Tryz.g1 Tryz.gt1 h2 r2;obtain⟨⟨a4,k4⟩,q4,h4,r4⟩:=vh (s:=txt 4) Tryz.g4 Tryz.gt4 h3 r3;obtain⟨⟨a5,k5⟩,q5,h5,r5⟩:=vh (s:=txt 5) Tryz.g5 Tryz.gt5 h4 r4;obtain⟨⟨a6,k6⟩,q6,h6,r6⟩:=vh (s:=txt 6) Tryz.g6 Tryz.gt6 h5 r5;obtain⟨⟨a7,k7⟩,q7,h7,r7⟩:=vh (s:=txt 7) Tryz.g7 Tryz.gt7 h6 r6;obtain⟨⟨a8,k8⟩,q8,h8,r8⟩:=vh (s:=txt 8) Tryz.g8 Tryz.gt8 h7 r7;obtain⟨⟨a9,k9⟩,q9,h9,r9⟩:=vh (s:=txt 9) Tryz.g9 Tryz.gt9 h8 r8;obtain⟨⟨j,B⟩,J,q,D⟩:=vh (s:=txt 10) Tryz.g10 Tryz.gt10 h9 r9;obtain⟨⟨m,C⟩,M,I,O⟩:=vh (s:=txt 11) Tryz.g11 Tryz.gt11 q D;refine⟨λk=>match k with|0=>a0|1=>a1|3=>a3|4=>a4|5=>a5|6=>a6|7=>a7|8=>a8|9=>a9|10=>j|11=>m|_=>a0,λk hk h2=>?_⟩
 match k,hk,h2 with
 | 0,_,_=>exact k0
 | 1,_,_=>exact k1
 | 3,_,_=>exact k3
 | 4,_,_=>exact k4
 | 5,_,_=>exact k5
 | 6,_,_=>exact k6
 | 7,_,_=>exact k7
 | 8,_,_=>exact k8
 | 9,_,_=>exact k9
 | 10,_,_=>exact B
 | 11,_,_=>exact C
 | 2,_,h2=>exact absurd rfl h2
 | k+12,hk,_=>omega
def fkc {W:World} (h:laidMetH Tryz.prog laidL W):Base (xj W):=by
 obtain⟨A,hA⟩:=fev h;obtain⟨c0,t0,h0⟩:=(hA 0 fe fe).own;obtain⟨c1,t1,h1⟩:=(hA 1 fe fe).own;exact⟨⟨_,_,⟨bv h0⟩⟩,⟨_,_,⟨bv h1⟩⟩⟩
def fpc {W:World} (h:laidMetH Tryz.prog laidL W): ∃(E:Nat->Value) (A:Nat->Addr),EV E A (xj W)/\ ∀i,i<12->i≠2->(A i).block<(xj W).heap.size:=by
 obtain⟨A,hA⟩:=fev h;have h2:=ffg h;refine⟨λi=>if i=2 then .iface 192 (.agg #[.pointer (some ⟨13,49,none⟩)]) else ev (A i),A,⟨λi hi=>?_,λi hi m=>fx9 m,λi j hi hj q B C=>(hA i hi q).ne (hA j hj B) (txt_ne i j hi hj q B C),λi hi m=>?_,f02 rfl⟩,λi hi m=>?_⟩
 ·by_cases e:i=2
  ·subst e;rw[f02 rfl];exact f6v h2
  ·rw[fx9 e];exact f6v (hA i hi e).var
 ·obtain⟨c,t,hr⟩:=(hA i hi m).row;exact⟨c,t,bv hr⟩
 ·obtain⟨c,t,hr⟩:=(hA i hi m).row;have:=bv hr;exact(fx5.1 this).1
def Tryz.cells30:Tryz.prog.cellsOf 30=7:=by kernel_rfl
noncomputable def flds30:Array Field:=(match Tryz.prog.underlying 30 with|some (.struct fs)=>fs|_=>#[])
def Tryz.und30:Tryz.prog.underlying 30=some (.struct flds30):=by kernel_rfl
def one30:oneCellFields Tryz.prog flds30=true:=by kernel_rfl
def fth:flds30.toList.map (·.type)=[3,3,3,3,3,3,9]:=by kernel_rfl
def type30 {j:Nat} {t:TypeId} (h:[3,3,3,3,3,3,9][j]? =some t): ∃fl,flds30[j]? =some fl/\fl.type=t:=by
 rw[<- fth,f1s] at h;obtain⟨fl,h1,h2⟩:=fy8.1 h;exact⟨fl,by rw[<- Array.getElem?_toList];exact h1,h2⟩
def scr_of {H:Type} {enc:TypeId×Value->H} {W:World} {v0:Value} {d0:DataW H} {p0:List MemPlace} {b0:Nat} (hv:Value.okWide Tryz.prog W .any b0 22 v0) (h0:DataW.Trod enc Tryz.prog W 0 (λ_=>true) true 22 v0 d0 p0):
    ∃p n cap f s,v0=.slice p n cap/\Scr (xj W) p n cap f s:=by
 obtain⟨p,n,cap,rfl⟩:=okWide_slice Tryz.underlying22 hv;obtain⟨ab,hf⟩:=h0;rcases open_slice Tryz.underlying22 hf with⟨A,_⟩|⟨a,aa,C,m,k,D,Pl,A,hb,hl,hm,U,hx,hi⟩
 ·have e:(Value.slice p n cap)=.slice none 0 0:=by simpa[Value.cells] using A
  cases e;exact⟨none,0,0,λ_ _=>0,λ_=>default,rfl,⟨fx8 _,f1n _,λi j hi=>by omega,λh=>by omega⟩⟩
 ·have e:(Value.slice p n cap)=.slice (some a) aa C:=by simpa[Value.cells] using A
  cases e;have ae:m=cap:=by rw[U];simp
  have key: ∀i,i<n->(∀j,j<6-> ∃z,W.cell? (a.add (i*7+j))=some (.int .i64 z)/\(Lit.int .i64 z).wf=true)/\ ∃t,W.cell? (a.add (i*7+6))=some (.string t):=by
   intro i q;obtain⟨cs',hc,ht⟩:=hi i fe;rw[Tryz.cells30] at hc;obtain⟨ys,n',ah,hy,ac,X,O⟩:=DataW.trod_struct Tryz.und30 ht;obtain⟨_,ad,M⟩:=World.cells?_some hc;have cell: ∀j t,[3,3,3,3,3,3,9][j]? =some t-> ∃v x,W.cell? (a.add (i*7+j))=some v/\DataW.trod enc Tryz.prog W 0 (λ_=>true) true n' t [v]=some x:=by
    intro j t hj;have R:j<7:=by
     have:=(f1c.1 hj).1;simpa using this
    obtain⟨fl,h1,h2⟩:=type30 hj;obtain⟨ho,hk⟩:=hone_of one30 j fl h1;have h3:=O j fl h1;rw[ho,hk,h2] at h3;have I:(cs'.drop j).take 1=[cs'[j]'(by omega)]:=by
     rw[List.drop_eq_getElem_cons fe];rfl
    rw[I] at h3;have Y:ys[j]? =some (ys[j]'(by rw[X];exact(fx5.1 h1).1)):=f0r _;refine⟨_,_,?_,h3.trans Y⟩;have h4:=M j R;rw[Go.Addr.add_add] at h4;rw[h4];exact f0r _
   refine⟨λj hj=>?_,?_⟩
   ·obtain⟨v,x,h1,h2⟩:=cell j 3 (by
     rcases(by omega:j=0\/j=1\/j=2\/j=3\/j=4\/j=5) with rfl|rfl|rfl|rfl|rfl|rfl <;>rfl)
    obtain⟨z,h3,_,h4⟩:=DataW.trod_int Tryz.underlying3 h2;obtain rfl:v=.int .i64 z:=by simpa using h3
    exact⟨z,h1,h4⟩
   ·obtain⟨v,x,h1,h2⟩:=cell 6 9 rfl;obtain⟨t,h3,_⟩:=DataW.trod_string Tryz.underlying9 h2;obtain rfl:v=.string t:=by simpa using h3
    exact⟨t,h1⟩
  have hz: ∀i j,∃z,i<n->j<6->W.cell? (a.add (i*7+j))=some (.int .i64 z)/\(Lit.int .i64 z).wf=true:=λi j=>by
   by_cases h:i<n/\j<6
   ·obtain⟨z,h1,h2⟩:=(key i h.1).1 j h.2;exact⟨z,λ_ _=>⟨h1,h2⟩⟩
   ·exact⟨0,λh1 h2=>absurd ⟨h1,h2⟩ h⟩
  have ht: ∀i,∃t,i<n->W.cell? (a.add (i*7+6))=some (.string t):=λi=>by
   by_cases h:i<n
   ·obtain⟨t,h1⟩:=(key i h).2;exact⟨t,λ_=>h1⟩
   ·exact⟨default,λh1=>absurd h1 h⟩
  obtain⟨f,hf⟩:=f1v (λi=>f1v (hz i));obtain⟨s,hs⟩:=f1v ht;refine⟨some a,n,cap,f,s,rfl,⟨hl,hm,λi j q hj=>?_,λhn=>?_⟩⟩
  ·have:=(hf i j q hj).2;simp only[Lit.wf,IntKind.min,IntKind.max,IntKind.signed,IntKind.bits,f04,f1r] at this;simp at this;omega
  ·have c0:=(hf 0 0 hn fe).1;have B:=World.cell?_spot c0;obtain⟨blk,off,J⟩:=a;have B:J=none:=by simpa[Addr.add] using B
   subst B;refine⟨blk,off,rfl,?_,λi q=>⟨λj hj=>?_,?_⟩⟩
   ·have h1:=f6v c0;rw[f2u] at h1;rcases f01 blk (xj W).heap.size with h|h
    ·exact h
    ·simp[World.cell?,f09 h] at h1
   ·have h1:=f6v (hf i j q hj).1;rw[f2u] at h1;rw[f3r];exact h1
   ·have h1:=f6v (hs i q);rw[f2u] at h1;rw[f3r];exact h1
noncomputable def low:Nat:=(World.holding Tryz.prog default ⟨#[],#[],[]⟩).heap.size
noncomputable def bw (os:Os):World:=
 let w0:=World.holding Tryz.prog os ⟨#[.cells #[.string ⟨(txt 0).toArray⟩] 246,.cells #[.string ⟨(txt 3).toArray⟩] 246,.cells #[.string ⟨(txt 1).toArray⟩] 246,.cells #[.string ⟨(txt 4).toArray⟩] 246,.cells #[.string ⟨(txt 5).toArray⟩] 246,.cells #[.string ⟨(txt 6).toArray⟩] 246,.cells #[.string ⟨(txt 7).toArray⟩] 246,.cells #[.string ⟨(txt 8).toArray⟩] 246,.cells #[.string ⟨(txt 9).toArray⟩] 246,.cells #[.string ⟨(txt 10).toArray⟩] 246,.cells #[.string ⟨(txt 11).toArray⟩] 246],#[],[]⟩
 { w0 with heap:=((List.range 11).foldl (λh k=>h.modify ([0,3,1,4,5,6,7,8,9,10,11].getD k 0) fun
  | .cells _ t frozen=>.cells #[ev ⟨low+k,0,none⟩] t frozen
  | o=>o) w0.heap).modify 2 fun
  | .cells _ t frozen=>.cells #[.iface 192 (.agg #[.pointer (some ⟨13,49,none⟩)])] t frozen
  | o=>o }
def fhw (os:Os) (args:Array Value):laidMetH Tryz.prog laidL ((bw os).forCall (λ_ _=>0) ⟨#[],args,[]⟩).memory:=
 laidMetH_of_parts (laidMet_of_run (ps:=[.cell 0 0,.cell (low+0) 0,.cell 3 0,.cell (low+1) 0,.cell 1 0,.cell (low+2) 0,.cell 4 0,.cell (low+3) 0,.cell 5 0,.cell (low+4) 0,.cell 6 0,.cell (low+5) 0,.cell 7 0,.cell (low+6) 0,.cell 8 0,.cell (low+7) 0,.cell 9 0,.cell (low+8) 0,.cell 10 0,.cell (low+9) 0,.cell 11 0,.cell (low+10) 0]) 8 fd fd fd) fd
def kids22:Kids Tryz.prog (λt=>t=22\/t=30\/t=3\/t=9):=by
 refine⟨λh hu=>?_,λh hu=>?_,λh hu=>?_,λh hu=>?_,λh hu=>?_⟩
 ·rcases h with rfl|rfl|rfl|rfl
  ·rw[Tryz.underlying22] at hu;cases hu
  ·rw[Tryz.und30] at hu;cases hu
  ·rw[Tryz.underlying3] at hu;cases hu
  ·rw[Tryz.underlying9] at hu;cases hu
 ·rcases h with rfl|rfl|rfl|rfl
  ·rw[Tryz.underlying22] at hu;cases hu;exact .inr (.inl rfl)
  ·rw[Tryz.und30] at hu;cases hu
  ·rw[Tryz.underlying3] at hu;cases hu
  ·rw[Tryz.underlying9] at hu;cases hu
 ·rcases h with rfl|rfl|rfl|rfl
  ·rw[Tryz.underlying22] at hu;cases hu
  ·rw[Tryz.und30] at hu;cases hu
  ·rw[Tryz.underlying3] at hu;cases hu
  ·rw[Tryz.underlying9] at hu;cases hu
 ·rcases h with rfl|rfl|rfl|rfl
  ·rw[Tryz.underlying22] at hu;cases hu
  ·rw [Tryz.und30] at hu;cases hu;refine⟨λf hf=>?_,?_,λj f hj=>?_⟩
   ·have:f.type∈flds30.toList.map (·.type):=f4f hf;rw[fth] at this;simp at this;rcases this with h|h
    ·exact .inr (.inr (.inl h))
    ·exact .inr (.inr (.inr h))
   ·kernel_rfl
   ·have hlt:j<7:=by
      have h1:=(f1c.1 hj).1;have h2:flds30.toList.length=7:=by kernel_rfl
      omega
    have hz:(List.range 7).map (λj=>(flds30.toList[j]?).map λf=>decide (f.offset=((flds30.toList.take j).map λf=>Tryz.prog.cellsOf f.type).sum))=List.replicate 7 (some true):=by kernel_rfl
    have h1:=f3q (λl=>l[j]?) hz;simp only[f1s,f5k hlt,fz3,hj,List.getElem?_replicate,f02 hlt,f03,f1r] at h1;exact h1
  ·rw[Tryz.underlying3] at hu;cases hu
  ·rw[Tryz.underlying9] at hu;cases hu
 ·rcases h with rfl|rfl|rfl|rfl
  ·rw[Tryz.underlying22] at hu;cases hu
  ·rw[Tryz.und30] at hu;cases hu
  ·rw[Tryz.underlying3] at hu;cases hu
  ·rw[Tryz.underlying9] at hu;cases hu
def few (Lk:Looks) {p:Pinned} {s:OpenSpec} {c:OpenClaim} (kinds:List LaidKind) (m:Bool) (q:Bool×String) (lk:Bool) (hc:c.holds p s) (hw:c.wfByText s=true) (A:c.laidByTextAt Lk p kinds m)
    (C:c.start=.entering) (B:c.noBlocks=false/\c.again=false) (hm:p.checked.prog.mainIs=some (q.1,q.2.toList)) (hn:(!q.1&&q.2.isEmpty&& !lk)=false)
    (hl: ∀f fn,p.checked.prog.funcNamed c.func=some f->p.checked.prog.funcs[f]? =some fn->lk=p.checked.prog.looks []/\ ∀(j:Nat) t,fn.params[j]? =some t->p.checked.prog.wantsStandIn t=false)
    (hg:true=c.goesBy p.checked.prog):
    Claim7.holds p (.plain s) { stood:={ row:=c,standIns:=[],harness:=q,looks:=lk },kinds:=[],alts:=[],goes:=true,laidByText:=true,laidKinds:=kinds,laidTests:=m,laidLooks:=Lk }:=by
 have h6: ∀r:OpenClaim,Claim7.isSixth { stood:={ row:=r,standIns:=[],harness:=q,looks:=lk },kinds:=[] }=false:=λr=>by simpa[Claim7.isSixth] using hn
 have h1:Claim7.holdsOne p (.plain s) { stood:={ row:=c,standIns:=[],harness:=q,looks:=lk },kinds:=[],alts:=[],laidByText:=true,laidKinds:=kinds,laidTests:=m,laidLooks:=Lk }:=Claim7.tied_new_at Lk kinds m (Claim7.new_of_sixth hc q lk C B hm (h6 c) hl) hw;exact⟨h1,λD hD=>(by cases hD),A,λh=>je,hg⟩
section
variable {H:Type} {enc:TypeId×Value->H}
def fpd {f:FuncId} {fn:Func} {s:ChangeSpec} {os:Os} {F:Stop.Interp} (J:os.Started) (aD:Tryz.prog.funcs[f]? =some fn) (hp:fn.params=#[22]) (hr:fn.resultTypes=#[4]) (I:s.vars=[])
    (hs: ∀d:DataW H,s.fn H [d]={ results:=[.lit (.bool true)],args:=[d] })
    (O: ∃(w:World) (m:Tape) (i:Input),w.os=os/\(w.forCall m i).Shaped Tryz.prog/\i.vars=[]/\Input.okWide Tryz.prog (w.forCall m i) .any w.heap.size f i/\
      ((s.pre enc Tryz.prog fn [] false (w.forCall m i).memory i.args/\laidMetH Tryz.prog laidL (w.forCall m i).memory)/\sizedMet enc Tryz.prog fn (OpenSpec.ofChange s) false (w.forCall m i).memory i.args)/\({ calm:=true }:Assume).holds Tryz.prog (lone (Frame.enter Tryz.prog f i.args .normal) [] (w.forCall m i)))
    (aC: ∀(W:World) (p:Option Addr) (n cap:Nat) (fs:Nat->Nat->Int) (ss:Nat->ByteArray) (E:Nat->Value) (A:Nat->Addr),Base (xj W)->EV E A (xj W)->(∀i,i<12->i≠2->(A i).block<(xj W).heap.size)->Scr (xj W) p n cap fs ss->
      Co (endG W (.bool true)) vb (λ_=>False) (xj W) 1 (G (Frame.enter Tryz.prog f #[.slice p n cap] .normal) [])):
    ReturnsInLeavingWide { calm:=true } Tryz.checked os f .any (λw args=>(s.pre enc Tryz.prog fn [] false w args/\laidMetH Tryz.prog laidL w)/\sizedMet enc Tryz.prog fn (OpenSpec.ofChange s) false w args)
     ((OpenSpec.ofChange s).postWith enc Tryz.prog fn F (outsideKept [.timePasses]) false true false):=by
 refine returnsInLeavingWide_of_good (C:=Tryz.checked) Tryz.own J O ?_;intro w m i _ _ _ aE an R;obtain⟨_,_,_,ab,ah,_,_,_,_,B⟩:=aE;have e:ab=fn:=fy7 (ah.symm.trans aD);subst e;obtain⟨⟨⟨ds,gs,aA,hw,hc⟩,hx⟩,hz⟩:=an;have ap:=DataW.Whole.of_heap (w':=w.forCall m i) (by rfl) hw;have hL:laidMetH Tryz.prog laidL (w.forCall m i):=laidMetH.of_heap (by rfl) hx;generalize w.forCall m i=W at*;have B: ∀(j:Nat) t v,ab.params[j]? =some t->i.args[j]? =some v->Value.okWide Tryz.prog W .any w.heap.size t v:=B;have Y:=ap;obtain⟨p,q,ad,ae,rfl,aF,aG⟩:=ap;rw[hp] at ad B;rw[I] at ae;obtain⟨rfl,rfl⟩:=trodVars_none ae;obtain⟨v0,d0,D,rfl,h0⟩:=trodAll_one ad;rw[D] at B R ⊢;have ak:=B 0 22 v0 rfl rfl;obtain⟨sp,n,cap,fs,ss,rfl,hS⟩:=scr_of ak h0;obtain⟨E,A,hE,aB⟩:=fpc hL;obtain⟨M,last,o,w',t',r1,r2,r3,v,e,X,k1,k2,k3,k4⟩:=the_end (aC W sp n cap fs ss E A (fkc hL) hE aB hS);refine⟨M,last,o,w',t',r1,r2,r3,v,e,postWith_blind (postWith_of_post ?_ ?_),k1,k2,k3,k4⟩
 ·obtain⟨rfl,hB⟩:=X;have aa: ∀q∈p++[],W.sameAt w' q:=λq hq=>by
   have hlt:=Y.lt q hq;cases q with
   | cell b o=>exact f0h (a:=⟨b,o,none⟩) (hB.block b hlt)
   | map b=>exact hB.block b hlt
  have hk: ∀U,W.keptBut { w' with os:=W.os } U:=λU=>⟨rfl,(hB.frame U).2.1,(hB.frame U).2.2⟩;obtain⟨ac,hf⟩:=h0;refine⟨[d0],[],p++[],[],p,[],by rw[<- D];exact Y,?_,?_,?_,hk _,λh=>by cases h⟩
  ·rw[hr,f4m,hs];exact trodAll_mk1 (shut_bool Tryz.underlying4 true)
  ·rw[hp,f4m,hs];refine trodAll_mk1 ⟨ac,DataW.trod_stays kids22 (λht hu=>?_) (λh=>by cases h) (.inl rfl) hf (λq hq=>aa q (by simpa using hq)) (λq hq=>by simpa using Y.lt q (by simpa using hq))⟩;rcases ht with rfl|rfl|rfl|rfl
   ·rw[Tryz.underlying22] at hu;cases hu;rw[Tryz.cells30];omega
   ·rw[Tryz.und30] at hu;cases hu
   ·rw[Tryz.underlying3] at hu;cases hu
   ·rw[Tryz.underlying9] at hu;cases hu
  ·rw[I,f4m,hs];rfl
 ·rw[show w'.os=W.os from X.2.os];exact .refl _
end
end Go.Proofs.YtelecjnabeokeaaGreatDoor
namespace Go.Proofs.YtelecjnabeokeaaGreatDoor
open Go Go.Conc Go.ConcM Go.ChangeShapes Go.WideShapes Go.RowKit
def f8g {H:Type} (enc:TypeId×Value->H) (os:Os): ∃(w:World) (j:Tape) (i:Input),w.os=os/\(w.forCall j i).Shaped Tryz.prog/\i.vars=[]/\Input.okWide Tryz.prog (w.forCall j i) .any w.heap.size 4 i/\
 ((Rows.ordersSpec.pre enc Tryz.prog Tryz.f4 [] false (w.forCall j i).memory i.args/\laidMetH Tryz.prog laidL (w.forCall j i).memory)/\sizedMet enc Tryz.prog Tryz.f4 (OpenSpec.ofChange Rows.ordersSpec) false (w.forCall j i).memory i.args)/\({ calm:=true }:Assume).holds Tryz.prog (lone (Frame.enter Tryz.prog 4 i.args .normal) [] (w.forCall j i)):=by
 have hv:((bw os).forCall (λ_ _=>0) ⟨#[],#[.slice none 0 0],[]⟩).variablesB Tryz.prog=true:=by kernel_rfl
 have hr:(((bw os).forCall (λ_ _=>0) ⟨#[],#[.slice none 0 0],[]⟩).heap.toList.drop Tryz.prog.globals.size).take ((begin Tryz.prog (λ_ _=>0) default).world.heap.size-Tryz.prog.globals.size)=(begin Tryz.prog (λ_ _=>0) default).world.heap.toList.drop Tryz.prog.globals.size:=by kernel_rfl
 have m:Input.okWideB Tryz.prog ((bw os).forCall (λ_ _=>0) ⟨#[],#[.slice none 0 0],[]⟩) 4 ⟨#[],#[.slice none 0 0],[]⟩=true:=by kernel_rfl
 have q:Rows.ordersSpec.preB enc Tryz.prog Tryz.f4 [] false ((bw os).forCall (λ_ _=>0) ⟨#[],#[.slice none 0 0],[]⟩).memory #[.slice none 0 0] 8=true:=by kernel_rfl
 have hsz:Rows.ordersSpec.sizedB enc Tryz.prog Tryz.f4 false ((bw os).forCall (λ_ _=>0) ⟨#[],#[.slice none 0 0],[]⟩).memory #[.slice none 0 0] 8=true:=by kernel_rfl
 exact⟨bw os,λ_ _=>0,⟨#[],#[.slice none 0 0],[]⟩,rfl,World.shaped_of_B hv hr,(Input.okWide_of_okWideB (base:=0) m).1,(Input.okWide_of_okWideB m).2,⟨⟨ChangeSpec.pre_of_preB q,fhw os _⟩,sizedMet_of_sizedB hsz⟩,by
    simp only[Assume.holds];exact⟨by simp,λ_ _ _ _=>rfl,by simp,by simp,by simp⟩⟩
def f8o:Rows.OrdersSaid:=
 OpenClaim.holds_of_wide_leaving_time 4 Tryz.f4 rfl rfl rfl rfl rfl rfl rfl ⟨rfl,rfl,rfl,rfl,rfl⟩ rfl rfl rfl rfl rfl fd Tryz.func4 fd
    (of_decide_eq_true fd) (by unfold Func.isWrapper;rw[fx9 (of_decide_eq_false fd)];exact⟨rfl,rfl⟩)
    (λos j H enc _ F=>fpd (fn:=Tryz.f4) (s:=Rows.ordersSpec) j Tryz.func4 Tryz.params4 fd rfl (λd=>rfl) (f8g enc os) (λW p n cap fs ss E A hB hE hA hS=>f99 hB hE hA hS))
theorem orders_card:Rows.OrdersCardSaid:=
 few .later [.handle,.sentinel,.sentinel,.sentinel,.sentinel,.sentinel,.sentinel,.sentinel,.wider,.sentinel,.sentinel,.sentinel] true (true, "8c5abe41b93dd14ae8e6a00164918cde08a37410e3389aedc40f367685b32515") true
  f8o fd orders_row_tie rfl ⟨rfl,rfl⟩ fd rfl
  (λf fn hf m=>by
     obtain rfl:f=4:=fy7 ((show Tryz.prog.funcNamed "coedit/coeditlaw.Orders" =some 4 by kernel_rfl).symm.trans hf) |>.symm;obtain rfl:fn=Tryz.f4:=(fy7 (Tryz.func4.symm.trans m)).symm
     exact⟨by kernel_rfl,λj t ht=>by
        rw[Tryz.params4] at ht;have h3:t=22:=by
         rcases j with _|j
         ·simpa using ht.symm
         ·simp at ht
        subst h3;exact(show Tryz.prog.wantsStandIn 22=false by kernel_rfl)⟩)
  fd
#print axioms orders_card
end Go.Proofs.YtelecjnabeokeaaGreatDoor
