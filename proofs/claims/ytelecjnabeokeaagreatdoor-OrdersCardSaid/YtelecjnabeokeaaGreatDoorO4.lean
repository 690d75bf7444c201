/- Orders. Part 4 of 6. -/
import Derived.Test.YtelecjnabeokeaaGreatDoorO3
set_option maxRecDepth 100000
set_option maxHeartbeats 16000000
set_option linter.defProp false
set_option linter.unusedVariables false
set_option linter.unusedSimpArgs false
namespace Go.Proofs.YtelecjnabeokeaaGreatDoor
open Go Go.Conc Go.RowKit
section
variable {main:Bool} {Still:Loc->Prop} {B:Nat}
def foa {D:Nat->Option Obj} {w:World} {m:Nat} {x:Value} {t:TypeId} (hD:D m=some (.cells #[x] t)) (h:Keeps D w):w.cell? ⟨m,0,none⟩=some x:=by
 have:=h m _ hD;simp[World.cell?,this]
def f6o (a:Act) {N:Nat} (h:N<=a.tmps.size): ∃(L:List Value) (ds:List Deferred),N<=L.length/\a={ tmps:=L.toArray,defers:=ds }:=⟨a.tmps.toList,a.defers,by simpa using h,by simp⟩
def mg {P:Program} {ρ:Operand->Value} {o:Oper} {t e:TypeId} {j:ChanDir} {y:Operand} {ok:Bool} {z:Value} {w:World} (ho:o.op=.recv t y ok) (hu:P.underlying t=some (.chan j e)) (hz:(zeroValue e).runT P w #[]=(.ok z w,#[])):
    (execOp ρ o).runT P w #[]=(.ok (.comm #[{ chan:=ρ y,send:=none,zero:=z }] true (.recv ok)) w,#[]):=by
 unfold execOp;rw[ho];have h1:(zeroValue e).run P w=.ok z w:=by rw[<- f0d _ _ _ #[],hz]
 have h2:(zeroValue e).events P w #[]=#[]:=by rw[show(zeroValue e).events P w #[]=((zeroValue e).runT P w #[]).2 from rfl,hz]
 refine f2v ?_ ?_
 ·rw[f0d];simp[go_sem,f0u hu,h1]
 ·show Sem.events P _ w #[]=#[];simp[go_sem,f0u hu,h1,h2]
def Tryz.zero49 (w:World):(zeroValue 49).runT Tryz.prog w #[]=(.ok .nilIface w,#[]):=by
 refine f2v ?_ ?_
 ·rw[f0d];go_simp
 ·show Sem.events Tryz.prog _ w #[]=#[];simp[go_sem]
def Tryz.zero1 (w:World):(zeroValue 1).runT Tryz.prog w #[]=(.ok .nilFunc w,#[]):=by
 refine f2v ?_ ?_
 ·rw[f0d];go_simp
 ·show Sem.events Tryz.prog _ w #[]=#[];simp[go_sem]
def uw (kind:CallKind) (X:Frame) (cs:List Frame) (m:Nat):SeatD where
 c:=m+1
 z:=.nilIface
 ok:=false
 D:=λb=>if b=m+2 then some (.cells #[.chan (some (m+1))] 163) else none
 B:=m+3
 home:=λg=> ∃a:Act,g=G ((mB kind).at a [.inRegion R3 [1,2],.code .ret]) (X::cs)/\a.defers=[]/\11<=a.tmps.size
def fqx {kind:CallKind} {X:Frame} {cs:List Frame} {m:Nat} {a:Act} (hk:kind=.normal\/kind=.deferred) (hS:Still (.cell ⟨m+2,0,none⟩)) (h5:a.tmps.getD 5 undef=.pointer (some ⟨m+2,0,none⟩)) (hd:a.defers=[]) (hsz:11<=a.tmps.size):
    Sits Tryz.prog main (Keeps (uw kind X cs m).D) Still (m+3) (uw kind X cs m).seat 5 (Go.Conc.served (G ((mB kind).at a [.inRegion R2 [2],.code C3]) (X::cs)) undef):=by
 have A:kind≠ .early:=by rcases hk with rfl|rfl <;>simp
 obtain⟨L,B,q,rfl⟩:=f6o a hsz;rcases L with _|⟨y0,_|⟨y1,_|⟨y2,_|⟨y3,_|⟨y4,_|⟨y5,_|⟨y6,_|⟨y7,_|⟨y8,_|⟨y9,_|⟨C,tl⟩⟩⟩⟩⟩⟩⟩⟩⟩⟩⟩ <;>first|(simp at q;done)|skip
 have h5:y5=.pointer (some ⟨m+2,0,none⟩):=h5;have hd:B=[]:=hd;subst h5;subst hd;rw[served_fr,f0i];refine .inl ⟨4,default,rfl,?_⟩;have j: ∀w,Keeps (uw kind X cs m).D w->w.cell? ⟨m+2,0,none⟩=some (.chan (some (m+1))):=λw h=>foa (t:=163) (by simp[uw]) h;have r: ∀w,Keeps (uw kind X cs m).D w->(Instr.loadAt 163 (.pointer (some ⟨m+2,0,none⟩))).run Tryz.prog w=.ok (.chan (some (m+1))) w:=λw h=>by have:=j w h;go_simp
 have v: ∀w,Keeps (uw kind X cs m).D w-> ∀e∈(Instr.loadAt 163 (.pointer (some ⟨m+2,0,none⟩))).events Tryz.prog w #[],EvC Still (m+3) e:=λw h e he=>by
    have:=j w h;simp[go_sem,this] at he;subst he;exact evC_read _ hS fi
 refine fj8 (fqv (fa8 ?_));show Goes Tryz.prog main _ _ _ _ (G ((mB kind).at { tmps:=(y0::y1::y2::y3::y4:: .pointer (some ⟨m+2,0,none⟩)::y6::y7::y8::y9::C::tl).toArray,defers:=[] } [.inRegion R3 [0,1,2],.code .ret]) (X::cs)) _;have L0: ∀(a:Act) (rest:List Nat) (n:Nat) (Stop:Goroutine->World->Prop) (w:World),a.eval (.tmp 5)=.pointer (some ⟨m+2,0,none⟩)->Goes Tryz.prog main (RK (Keeps (uw kind X cs m).D)) (DS Still (m+3)) Stop n (G ((mB kind).at (a.put (some 9) (.chan (some (m+1)))) [.inRegion R3 rest,.code .ret]) (X::cs)) w->
  Goes Tryz.prog main (RK (Keeps (uw kind X cs m).D)) (DS Still (m+3)) Stop (n+1) (G ((mB kind).at a [.inRegion R3 (0::rest),.code .ret]) (X::cs)) w:=λa rest n Stop w ha hh=>by
    refine fj9 (x:=.chan (some (m+1))) rfl rfl A (λw h=>fcg (t:=163) (y:=.tmp 5) rfl (by rw[ha];exact r w h)) (λw h e he=>?_) hh;rw[fch (t:=163) (y:=.tmp 5) rfl (by rw[ha];exact r w h),ha] at he;exact v w h e he
 refine L0 _ _ _ _ _ rfl (Goes.stop λw h=>⟨_,atIn_of (s:=(uw kind X cs m).seat) rfl rfl A (λw=>?_) (λw=>?_) ⟨_,rfl,rfl,by simp[Act.put]⟩⟩)
 ·rw[<- f0d _ _ _ #[],mg (t:=163) (y:=.tmp 9) (ok:=false) rfl Tryz.underlying163 (Tryz.zero49 w)];rfl
 ·show(Sem.runT _ _ w #[]).2=_;rw[mg (t:=163) (y:=.tmp 9) (ok:=false) rfl Tryz.underlying163 (Tryz.zero49 w)]
def fqy (a2:Act) (x:Value) (c0:List Frame):((wB.at a2 callK).finish x)=wB.at (a2.put (some 11) x) (.inRegion wCall []::callK.tail):=by rw[f0i];rfl
def k_leave {P:Program} {K:World->Prop} {Stop:Goroutine->World->Prop} {n:Nat} {w:World} {b c:Frame} {a:Act} {cs:List Frame} {fn:Func} {todo:List Item} {x:Value} (hk:b.kind=.normal) (hd:a.defers=[]) (hf:P.funcs[b.fn]? =some fn) (hr:ResultsC P fn a.tmps x)
    (h:Goes P main (RK K) (DS Still B) Stop n (G (c.finish x) cs) w):Goes P main (RK K) (DS Still B) Stop (n+1) (G { b.at a todo with mode:=.returning } (c::cs)) w:=
 fe8 rfl (λw=>stepG_leave hk hd hf (hr w).1 (hr w).2) h
def fqz {s:SeatD} {ds:List Deferred} {c0:List Frame} {a2 a4:Act} (hs:s.ok=true) (hz:s.z=.nilFunc) (j: ∀g,fbr ds c0 s.c g->s.home g) (q:a4.defers=[]) (hd:a2.defers=ds) (h6:a2.tmps.getD 6 undef=.chan (some s.c)) (hsz:a2.tmps.size=12):
    Sits Tryz.prog main (Keeps s.D) Still B s.seat 10 (Go.Conc.served (G (dB.at a4 [.inRegion dOps [3]]) (wB.at a2 callK::c0)) undef):=by
 rw[served_fr,f0i];refine .inl ⟨9,default,rfl,?_⟩;refine fj8 (k_end (k_leave rfl q Tryz.func86 (f2z rfl _) ?_));rw[fqy _ _ c0];refine fj8 (fqw (fu2 ?_));show Goes Tryz.prog main _ _ _ 3 (G (wB.at _ (.code (.seq (cL fat) (cR fat)):: .inLoop fat::[.inBlock 0])) c0) _
 have e6:(a2.put (some 11) (.tuple #[])).eval (.tmp 6)=.chan (some s.c):=by
    obtain⟨L,C,m,rfl⟩:=fa9 a2 hsz;rcases L with _|⟨y0,_|⟨y1,_|⟨y2,_|⟨y3,_|⟨y4,_|⟨y5,_|⟨y6,_|⟨y7,_|⟨y8,_|⟨y9,_|⟨J,_|⟨I,_|⟨A,tl⟩⟩⟩⟩⟩⟩⟩⟩⟩⟩⟩⟩⟩ <;>first|(simp at m;done)|skip
    exact h6
 refine fqv (fa8 (Goes.stop λw h=>⟨_,atIn_of (s:=s.seat) (i:=0) (rest:=[1]) rfl rfl fu (λw=>?_) (λw=>?_) (j _ ⟨_,rfl,?_,?_,?_⟩)⟩))
 ·rw[<- f0d _ _ _ #[],mg (t:=78) (y:=.tmp 6) (ok:=true) rfl Tryz.underlying78 (Tryz.zero1 w)];simp only[SeatD.seat,Seat.one,rcase,hs,hz,e6]
 ·show(Sem.runT _ _ w #[]).2=_;rw[mg (t:=78) (y:=.tmp 6) (ok:=true) rfl Tryz.underlying78 (Tryz.zero1 w)]
 ·exact hd
 ·exact e6
 ·simp[Act.put,hsz]
def og_done {H:Hide} {Shun:Loc->Prop} {Φ:Goroutine->World->Nat->Prop} {w:World} {n:Nat} {kind:CallKind} {X:Frame} {cs:List Frame} {m:Nat} {g:Goroutine} {x:Value} (hk:kind=.normal\/kind=.deferred) (hg:(uw kind X cs m).home g)
    (h:OG Tryz.prog main H Shun Φ (G (ur kind x X) cs) w n):OG Tryz.prog main H Shun Φ (Go.Conc.served g (recvd false x true)) w n:=by
 have A:kind≠ .early:=by rcases hk with rfl|rfl <;>simp
 obtain⟨a,rfl,hd,hsz⟩:=hg;obtain⟨L,q,j,rfl⟩:=f6o a hsz;rcases L with _|⟨y0,_|⟨y1,_|⟨y2,_|⟨y3,_|⟨y4,_|⟨y5,_|⟨y6,_|⟨y7,_|⟨y8,_|⟨y9,_|⟨B,tl⟩⟩⟩⟩⟩⟩⟩⟩⟩⟩⟩ <;>first|(simp at j;done)|skip
 have hd:q=[]:=hd;subst hd;rw[served_fr,f0i];show OG Tryz.prog main H Shun Φ (G ((mB kind).at { tmps:=(y0::y1::y2::y3::y4::y5::y6::y7::y8::y9::x::tl).toArray,defers:=[] } [.inRegion R3 [2],.code .ret]) (X::cs)) w n;refine qz (x:=x) (w1:=w) rfl rfl A (λd=>rfl) (fx8 _) (λ_ _=>rfl) (λd e he=>by have he:e∈(#[]:Array Event):=he;simp at he) ?_;refine u7 (fiv (ze hk rfl Tryz.func46 (x:=x) ?_ h));exact resultsC_tmp (t:=4) (show Tryz.f46.results=#[.tmp 4] from rfl) _
end
section
variable {P:Program} {F:Array Func} {Stop:Frame->List Frame->World->Prop} {v:World} {b g:Frame} {a:Act} {k:List Item} {l:List Frame} {ops:Array Oper} {i:Nat} {rest:List Nat} {o:Oper} {y:Operand}
def fjb (A:VS P F Stop) (ho:ops[i]? =some o) (C:o.op=.call { callee:=.value y,args:=#[],argTypes:=#[] }) (hw:Region.wanted o (yielded ops a.tmps)=true) (L:Lv P F Stop (b.at a (.inRegion ops (i::rest)::k),g::l,v)): ∃f p c,a.eval y=.func f p c:=by
 have hn: ¬Stop (b.at a (.inRegion ops (i::rest)::k)) (g::l) v:=λh=>by have:=A.stopNil _ _ _ h;cases this
 have I:=L.stk (b.at a (.inRegion ops (i::rest)::k)) fi;have j:=stepG_oper (P:=V P F) (main:=true) (b:=b) (a:=a) (k:=k) (cs:=g::(l++[botF])) (w:=reW v v.tape v.drawn) (rest:=rest) ho hw;rw[yg C] at j
 obtain⟨fr',l',v',B⟩: ∃fr' l' v',step (V P F) (lone (b.at a (.inRegion ops (i::rest)::k)) ((g::l)++[botF]) (reW v v.tape v.drawn))=.next (lone fr' (l'++[botF]) v'):=by
    have hf:=L.fin;cases hf with
    | stop h=>exact absurd h hn
    | step fr' l' v' h1 h2=>exact⟨_,_,_,h1 v.tape v.drawn⟩
 have q: ∀s,(fc3 (a.eval y)).run (V P F) (reW v v.tape v.drawn)=.halt (.stuck s) (reW v v.tape v.drawn)->False:=λs e=>by
    obtain⟨o2,u,J,e2⟩:=dg (fr:=b.at a (.inRegion ops (i::rest)::k)) e rfl g (l++[botF]);rw[e2] at j;have D:step (V P F) (lone (b.at a (.inRegion ops (i::rest)::k)) (g::(l++[botF])) (reW v v.tape v.drawn))=.ended o2 u:=f3u (by unfold G at j;rw[j];rfl);rw[f0j,D] at B;cases B
 have m: ∀x u1,(fc3 (a.eval y)).run (V P F) (reW v v.tape v.drawn)=.halt (.panic x) u1->False:=λx v1 e=>by
    obtain⟨es,hT⟩:=uu e;rw[ax (fr:=b.at a (.inRegion ops (i::rest)::k)) hT I.kind g (l++[botF])] at j;have ha:Ahead (V P F) Stop (b.at a (.inRegion ops (i::rest)::k),g::l,v) ((b.at a (.inRegion ops (i::rest)::k)).raise [{ v:=x,recovered:=false }],g::l,v1):=
     ⟨(_,g::l,v1),v.tape,v.drawn,hn,f3t (by unfold G at j;rw[show((b.at a (.inRegion ops (i::rest)::k),g::l,v):St).2.1++[botF]=g::(l++[botF]) from rfl,j];rfl),.refl _⟩
    exact fgv A (vn A L ha) ⟨(b.at a (.inRegion ops (i::rest)::k)).raise [{ v:=x,recovered:=false }],fz5,vu _ _⟩
 cases hx:a.eval y with
 | func f p c=>exact⟨f,p,c,rfl⟩
 | nilFunc=>exact(m _ _ (by rw[hx];rfl)).elim
 | _=>exact(q _ (by rw[hx];rfl)).elim
end
open Go.Conc.Lib Go.ConcR.Gen
noncomputable def fau:Frame:={ (default:Frame) with fn:=Tryz.prog.funcs.size,defers:=[],mode:=.panicking [goexitEntry] }
def fh1 {main:Bool} {K:World->Prop} {E:Event->Prop} {Φ:Goroutine->Nat->Prop} {d:Nat} {b:Frame} {a:Act} {todo:List Item} {fn:Func} (hn:b.kind=.deferred) (hd:a.defers=[]) (hf:Tryz.prog.funcs[b.fn]? =some fn) (hr:fn.results=#[]) (hq:WKE Tryz.prog main K E Φ { G fau [] with status:=.finished } d):
    WKE Tryz.prog main K E Φ (G { b.at a todo with mode:=.returning } [fau]) d:=by
 refine ri (g':=G fau []) rfl (λu=>?_) (ri rfl (λu=>?_) hq)
 ·have h1:=f2g hr a.tmps Tryz.prog u;have h2:=events_results_none (P:=Tryz.prog) (w:=u) hr a.tmps #[];simp[G,stepG,unwind,doReturn,Frame.at,hn,hd,hf,h1,h2,seen,GStep.after,fau];rfl
 ·have h0:(default:Frame).todo=[]:=rfl;simp[G,stepG,unwind,fau,Frame.catches,goexitEntry,h0]
def fl8 {P:Program} {b:Frame} {a:Act} {ops:Array Oper} {i:Nat} {rest:List Nat} {k:List Item} {cs:List Frame} {o:Oper} {f:FuncId} {fn:Func} {xs:Array Operand} {m:Array TypeId} (ho:ops[i]? =some o) (j:o.op=.call { callee:=.value (.func f),args:=xs,argTypes:=m })
    (hf:P.funcs[f]? =some fn) (hb:fn.body.isNone=true):mayWake P (G (b.at a (.inRegion ops (i::rest)::k)) cs)=true:=by
 have ef:(b.at a (.inRegion ops (i::rest)::k)).eval (.func f)=.func (.func f) #[] #[]:=rfl;have h2:fn.body.isSome=false:=by cases h:fn.body <;>simp_all
 simp[mayWake,G,Frame.at,ho,j] at ef ⊢;simp[ef,hf,h2]
section
variable {b:Nat}
def fu4 {k:Nat} {g:Goroutine} (hg:fbr [dcall 79 #[.pointer (some (stC b))]] [fau] k g): ∃m,WB Tryz.prog (WgLv b) (AtRel Tryz.prog b) m (Go.Conc.served g (recvd true .nilFunc false)) 0:=by
 refine fa2 ?_;obtain⟨a,rfl,hd,h6,hsz⟩:=hg;obtain⟨L,A,j,rfl⟩:=fa9 a hsz;rcases L with _|⟨y0,_|⟨y1,_|⟨y2,_|⟨y3,_|⟨y4,_|⟨y5,_|⟨y6,_|⟨y7,_|⟨y8,_|⟨y9,_|⟨C,_|⟨B,_|⟨I,tl⟩⟩⟩⟩⟩⟩⟩⟩⟩⟩⟩⟩⟩ <;>first|(simp at j;done)|skip
 have hd:A=_:=hd;subst hd;clear j hsz h6;rw[served_fr,f0i];show WKE Tryz.prog false (WgLv b) _ _ (G (wB.at { tmps:=#[y0,y1,y2,y3,y4,y5,y6,.tuple #[.nilFunc,.bool false],y8,y9,C,B],defers:=[dcall 79 #[.pointer (some (stC b))]] } [.inRegion fwk [1],.code (cR fat),.inLoop fat,.inBlock 0]) [fau]) 0;refine ww (.bool false) rfl rfl fu (λ_ _=>rfl) (λ_ _=>rfl) ?_;refine we (wq ?_);refine wf ?_;refine ri rfl (λ_=>stepG_exit rfl) ?_;refine ri rfl (λ_=>f4e) ?_;refine ffs (f:=79) rfl Tryz.func79 fd rfl ?_;simp only[show Tryz.f79.ntmps=4 from rfl];walk_nrm;refine wr ?_;simp only[szs];refine wv (.pointer (some (stC b))) ?_;walk_nrm;refine i7 rfl rfl gh rfl Tryz.func77 fd rfl ?_;simp only[show Tryz.f77.ntmps=117 from rfl];walk_nrm;refine wq (wt ?_);refine wq (wq ?_);refine wr ?_;simp only[szs];refine wv (.int .i64 (-1)) ?_;walk_nrm;refine wv (.bool true) ?_;walk_nrm;refine we (wt ?_);refine wr ?_;simp only[szs];refine wv (.pointer (some (stC b))) ?_;walk_nrm;refine faq (p:=stC b) rfl rfl Tryz.underlying128 wgLib.room_tWg (λu hu=>?_) rfl rfl gh ?_
 ·obtain⟨x,y,h⟩:=hu;exact⟨_,h.st⟩
 walk_nrm;refine ug ⟨rfl,rfl,_,λu hu=>f4t .releaseMerge fi rfl rfl gh rfl wgLib.f_relMerge (x_relMerge_n Lw) (x_relMerge_b Lw) (x_relMerge_x Lw) (x_relMerge_f Lw) (ad:=stC b) jh,fa2 ?_⟩;walk_nrm;refine we (wq ?_);refine wr ?_;simp only[szs];refine i8 .disable fi rfl rfl rfl gh rfl wgLib.f_disable (x_disable_n Lw) (x_disable_b Lw) (x_disable_x Lw) (x_disable_f Lw) ?_;walk_nrm;refine we (wr ?_);simp only[szs];refine fmj rfl rfl gh rfl ?_;walk_nrm;refine we (wq ?_);refine wr ?_;simp only[szs];refine wv (.bool false) ?_;walk_nrm;refine we (wq ?_);refine wq (wr ?_);simp only[szs];refine fqk (.bool false) rfl rfl gh rfl wgLib.f_inBubble (x_inBubble_n Lw) (x_inBubble_b Lw) (x_inBubble_x Lw) (x_inBubble_f Lw) ?_;walk_nrm;refine we (wf ?_);refine ws (wq ?_);refine wr ?_;simp only[szs];refine wv (.pointer (some (stC b))) ?_;(iterate 2 walk_nrm;refine wv (.pointer (some (stC b))) ?_);walk_nrm;refine wv (.int .i64 (-1)) ?_;walk_nrm;refine ww (.int .u64 18446744073709551615) rfl rfl gh (λ_ _=>by go_simp;try decide) (λ_ _=>by simp[go_sem]) ?_;walk_nrm;refine ww (.int .u64 18446744069414584320) rfl rfl gh (λ_ _=>by go_simp;try decide) (λ_ _=>by simp[go_sem]) ?_;walk_nrm;refine i7 rfl rfl gh rfl Tryz.func109 fd rfl ?_;simp only[show Tryz.f109.ntmps=10 from rfl];walk_nrm;refine wq (wr ?_);simp only[szs];refine wv (.int .u64 0) ?_;walk_nrm;refine we (wq ?_);refine wr ?_;simp only[szs];refine wv (.pointer (some (stC b))) ?_;(iterate 2 walk_nrm;refine wv (.pointer (some (stC b))) ?_);walk_nrm;refine wv (.int .u64 18446744069414584320) ?_;walk_nrm;refine ug ⟨rfl,by decide,λv wt q hv=>?_⟩;obtain⟨S,hS⟩: ∃S:Int,S=(v:Int)*4294967296+(wt:Int):=⟨_,rfl⟩;have eS:IntKind.u64.wrap (((v+1:Nat):Int)*K32+(wt:Int)+18446744069414584320)=S:=by rw[IntKind.wrap_u64,hS];show(((v+1:Nat):Int)*4294967296+(wt:Int)+18446744069414584320)%18446744073709551616=_;omega
 have a1:S / 4294967296=(v:Int):=by rw[hS];omega
 have a2:0<=S/\S<9223372036854775808:=by rw[hS];omega
 have b1:bits .and .u64 S 2147483648=0:=by rw[hS];exact Go.ConcN.st_flag v wt fe q
 have b2:bits .and .u64 S 2147483647=(wt:Int):=by rw[hS];exact Go.ConcN.st_waiters v wt fe q
 refine⟨_,λu y hc=>(stepG_add_atomic rfl rfl gh rfl wgLib.f_addU64 (x_addU64_n Lw) (x_addU64_b Lw) (x_addU64_x Lw) .u64 (x_addU64_f Lw) rfl rfl hc.st hc.fst).trans (by rw[eS,show((v:Nat):Int)*K32+(wt:Int)=S from hS.symm]),λhn=>fe3 ?_,λhl=>fa2 ?_⟩
 ·clear eS;rcases Nat.eq_zero_or_pos v with rfl|D
  ·obtain rfl:wt=0:=by omega
   obtain rfl:S=0:=by simpa using hS
   clear hS a1 a2 b1 b2;walk_nrm;refine wv (.int .u64 0) ?_;walk_nrm;refine we ?_;refine ri rfl (λ_=>f1w) ?_;refine vw (t:=4) rfl rfl Tryz.func109 rfl ?_;walk_nrm;refine wv (.int .u64 0) ?_;walk_nrm;refine we (wq ?_);refine wq (wr ?_);simp only[szs];refine wv (.int .u64 0) ?_;walk_nrm;refine wu (.int .u64 0) ?_;walk_nrm;refine wu (.bool false) ?_;walk_nrm;refine wv (.bool false) ?_;(iterate 2 walk_nrm;refine wz ?_);walk_nrm;refine wv (.bool false) ?_;walk_nrm;refine we (wf ?_);refine ws (wq ?_);refine wr ?_;simp only[szs];refine wv (.int .u64 0) ?_;walk_nrm;refine wu (.int .u64 0) ?_;walk_nrm;refine wu (.int .i32 0) ?_;walk_nrm;refine wv (.int .i32 0) ?_;walk_nrm;refine we (wq ?_);refine wr ?_;simp only[szs];refine wv (.int .u64 0) ?_;walk_nrm;refine wu (.int .u64 0) ?_;walk_nrm;refine wu (.int .u32 0) ?_;walk_nrm;refine wv (.int .u32 0) ?_;walk_nrm;refine we (wq ?_);refine wq (wr ?_);simp only[szs];refine wv (.bool true) ?_;walk_nrm;refine wv (.int .i64 (-1)) ?_;(iterate 3 walk_nrm;refine wv (.bool false) ?_);(iterate 4 walk_nrm;refine wz ?_);walk_nrm;refine wv (.bool false) ?_;walk_nrm;refine we (wf ?_);refine ws (wq ?_);refine wq (wr ?_);simp only[szs];refine wv (.int .i32 0) ?_;walk_nrm;refine wu (.bool false) ?_;walk_nrm;refine we (wf ?_);refine ws (wq ?_);refine wq (wr ?_);simp only[szs];refine wv (.int .u32 0) ?_;(iterate 2 walk_nrm;refine wv (.bool false) ?_);(iterate 2 walk_nrm;refine wz ?_);(iterate 2 walk_nrm;refine wv (.bool false) ?_);(iterate 4 walk_nrm;refine wz ?_);walk_nrm;refine wv (.bool false) ?_;walk_nrm;refine we (wf ?_);refine ws (wq ?_);refine wq (wr ?_);simp only[szs];refine wv (.int .i32 0) ?_;(iterate 2 walk_nrm;refine wv (.bool false) ?_);walk_nrm;refine wv (.int .u32 0) ?_;(iterate 2 walk_nrm;refine wv (.bool true) ?_);walk_nrm;refine we (wt ?_);refine ri rfl (λ_=>f1w) ?_;refine dm .enable rfl fi rfl wgLib.f_enable (x_enable_n Lw) (x_enable_b Lw) (x_enable_x Lw) (x_enable_f Lw) ?_;refine yo rfl rfl Tryz.func77 rfl ?_;walk_nrm;refine we ?_;refine ri rfl (λ_=>f4e) ?_;refine fa3 rfl rfl Tryz.func79 rfl rfl ?_;refine fh1 rfl rfl Tryz.func78 rfl ?_;exact ug ⟨rfl,rfl⟩
  ·obtain rfl|rfl:wt=0\/wt=1:=by omega
   ·replace b2:bits .and .u64 S 2147483647=0:=by simpa using b2
    clear hS;walk_nrm;refine wv (.int .u64 S) ?_;walk_nrm;refine we ?_;refine ri rfl (λ_=>f1w) ?_;refine vw (t:=4) rfl rfl Tryz.func109 rfl ?_;walk_nrm;refine wv (.int .u64 S) ?_;walk_nrm;refine we (wq ?_);refine wq (wr ?_);simp only[szs];refine wv (.int .u64 S) ?_;walk_nrm;refine wu (.int .u64 0) ?_;walk_nrm;refine wu (.bool false) ?_;walk_nrm;refine wv (.bool false) ?_;(iterate 2 walk_nrm;refine wz ?_);walk_nrm;refine wv (.bool false) ?_;walk_nrm;refine we (wf ?_);refine ws (wq ?_);refine wr ?_;simp only[szs];refine wv (.int .u64 S) ?_;walk_nrm;refine wu (.int .u64 (v:Int)) ?_;walk_nrm;refine wu (.int .i32 (v:Int)) ?_;walk_nrm;refine wv (.int .i32 (v:Int)) ?_;walk_nrm;refine we (wq ?_);refine wr ?_;simp only[szs];refine wv (.int .u64 S) ?_;walk_nrm;refine wu (.int .u64 0) ?_;walk_nrm;refine wu (.int .u32 0) ?_;walk_nrm;refine wv (.int .u32 0) ?_;walk_nrm;refine we (wq ?_);refine wq (wr ?_);simp only[szs];refine wv (.bool true) ?_;walk_nrm;refine wv (.int .i64 (-1)) ?_;(iterate 3 walk_nrm;refine wv (.bool false) ?_);(iterate 4 walk_nrm;refine wz ?_);walk_nrm;refine wv (.bool false) ?_;walk_nrm;refine we (wf ?_);refine ws (wq ?_);refine wq (wr ?_);simp only[szs];refine wv (.int .i32 (v:Int)) ?_;walk_nrm;refine wu (.bool false) ?_;walk_nrm;refine we (wf ?_);refine ws (wq ?_);refine wq (wr ?_);simp only[szs];refine wv (.int .u32 0) ?_;(iterate 2 walk_nrm;refine wv (.bool false) ?_);(iterate 2 walk_nrm;refine wz ?_);(iterate 2 walk_nrm;refine wv (.bool false) ?_);(iterate 4 walk_nrm;refine wz ?_);walk_nrm;refine wv (.bool false) ?_;walk_nrm;refine we (wf ?_);refine ws (wq ?_);refine wq (wr ?_);simp only[szs];refine wv (.int .i32 (v:Int)) ?_;walk_nrm;refine wu (.bool true) ?_;walk_nrm;refine wv (.bool true) ?_;(iterate 2 walk_nrm;refine wz ?_);walk_nrm;refine wv (.bool true) ?_;walk_nrm;refine we (wt ?_);refine ri rfl (λ_=>f1w) ?_;refine dm .enable rfl fi rfl wgLib.f_enable (x_enable_n Lw) (x_enable_b Lw) (x_enable_x Lw) (x_enable_f Lw) ?_;refine yo rfl rfl Tryz.func77 rfl ?_;walk_nrm;refine we ?_;refine ri rfl (λ_=>f4e) ?_;refine fa3 rfl rfl Tryz.func79 rfl rfl ?_;refine fh1 rfl rfl Tryz.func78 rfl ?_;exact ug ⟨rfl,rfl⟩
   ·replace b2:bits .and .u64 S 2147483647=1:=by simpa using b2
    clear hS;walk_nrm;refine wv (.int .u64 S) ?_;walk_nrm;refine we ?_;refine ri rfl (λ_=>f1w) ?_;refine vw (t:=4) rfl rfl Tryz.func109 rfl ?_;walk_nrm;refine wv (.int .u64 S) ?_;walk_nrm;refine we (wq ?_);refine wq (wr ?_);simp only[szs];refine wv (.int .u64 S) ?_;walk_nrm;refine wu (.int .u64 0) ?_;walk_nrm;refine wu (.bool false) ?_;walk_nrm;refine wv (.bool false) ?_;(iterate 2 walk_nrm;refine wz ?_);walk_nrm;refine wv (.bool false) ?_;walk_nrm;refine we (wf ?_);refine ws (wq ?_);refine wr ?_;simp only[szs];refine wv (.int .u64 S) ?_;walk_nrm;refine wu (.int .u64 (v:Int)) ?_;walk_nrm;refine wu (.int .i32 (v:Int)) ?_;walk_nrm;refine wv (.int .i32 (v:Int)) ?_;walk_nrm;refine we (wq ?_);refine wr ?_;simp only[szs];refine wv (.int .u64 S) ?_;walk_nrm;refine wu (.int .u64 1) ?_;walk_nrm;refine wu (.int .u32 1) ?_;walk_nrm;refine wv (.int .u32 1) ?_;walk_nrm;refine we (wq ?_);refine wq (wr ?_);simp only[szs];refine wv (.bool true) ?_;walk_nrm;refine wv (.int .i64 (-1)) ?_;(iterate 3 walk_nrm;refine wv (.bool false) ?_);(iterate 4 walk_nrm;refine wz ?_);walk_nrm;refine wv (.bool false) ?_;walk_nrm;refine we (wf ?_);refine ws (wq ?_);refine wq (wr ?_);simp only[szs];refine wv (.int .i32 (v:Int)) ?_;walk_nrm;refine wu (.bool false) ?_;walk_nrm;refine we (wf ?_);refine ws (wq ?_);refine wq (wr ?_);simp only[szs];refine wv (.int .u32 1) ?_;(iterate 2 walk_nrm;refine wv (.bool true) ?_);walk_nrm;refine wv (.int .i64 (-1)) ?_;(iterate 3 walk_nrm;refine wv (.bool false) ?_);(iterate 4 walk_nrm;refine wz ?_);walk_nrm;refine wv (.bool false) ?_;walk_nrm;refine we (wf ?_);refine ws (wq ?_);refine wq (wr ?_);simp only[szs];refine wv (.int .i32 (v:Int)) ?_;walk_nrm;refine wu (.bool true) ?_;walk_nrm;refine wv (.bool true) ?_;(iterate 2 walk_nrm;refine wz ?_);walk_nrm;refine wv (.bool true) ?_;walk_nrm;refine we (wt ?_);refine ri rfl (λ_=>f1w) ?_;refine dm .enable rfl fi rfl wgLib.f_enable (x_enable_n Lw) (x_enable_b Lw) (x_enable_x Lw) (x_enable_f Lw) ?_;refine yo rfl rfl Tryz.func77 rfl ?_;walk_nrm;refine we ?_;refine ri rfl (λ_=>f4e) ?_;refine fa3 rfl rfl Tryz.func79 rfl rfl ?_;refine fh1 rfl rfl Tryz.func78 rfl ?_;exact ug ⟨rfl,rfl⟩
 ·obtain⟨rfl,rfl⟩:=hl;obtain rfl:S=1:=by simpa using hS
  clear hS a1 a2 b1 b2 eS;walk_nrm;refine wv (.int .u64 1) ?_;walk_nrm;refine we ?_;refine ri rfl (λ_=>f1w) ?_;refine vw (t:=4) rfl rfl Tryz.func109 rfl ?_;walk_nrm;refine wv (.int .u64 1) ?_;walk_nrm;refine we (wq ?_);refine wq (wr ?_);simp only[szs];refine wv (.int .u64 1) ?_;walk_nrm;refine wu (.int .u64 0) ?_;walk_nrm;refine wu (.bool false) ?_;walk_nrm;refine wv (.bool false) ?_;(iterate 2 walk_nrm;refine wz ?_);walk_nrm;refine wv (.bool false) ?_;walk_nrm;refine we (wf ?_);refine ws (wq ?_);refine wr ?_;simp only[szs];refine wv (.int .u64 1) ?_;walk_nrm;refine wu (.int .u64 0) ?_;walk_nrm;refine wu (.int .i32 0) ?_;walk_nrm;refine wv (.int .i32 0) ?_;walk_nrm;refine we (wq ?_);refine wr ?_;simp only[szs];refine wv (.int .u64 1) ?_;walk_nrm;refine wu (.int .u64 1) ?_;walk_nrm;refine wu (.int .u32 1) ?_;walk_nrm;refine wv (.int .u32 1) ?_;walk_nrm;refine we (wq ?_);refine wq (wr ?_);simp only[szs];refine wv (.bool true) ?_;walk_nrm;refine wv (.int .i64 (-1)) ?_;(iterate 3 walk_nrm;refine wv (.bool false) ?_);(iterate 4 walk_nrm;refine wz ?_);walk_nrm;refine wv (.bool false) ?_;walk_nrm;refine we (wf ?_);refine ws (wq ?_);refine wq (wr ?_);simp only[szs];refine wv (.int .i32 0) ?_;walk_nrm;refine wu (.bool false) ?_;walk_nrm;refine we (wf ?_);refine ws (wq ?_);refine wq (wr ?_);simp only[szs];refine wv (.int .u32 1) ?_;(iterate 2 walk_nrm;refine wv (.bool true) ?_);walk_nrm;refine wv (.int .i64 (-1)) ?_;(iterate 3 walk_nrm;refine wv (.bool false) ?_);(iterate 4 walk_nrm;refine wz ?_);walk_nrm;refine wv (.bool false) ?_;walk_nrm;refine we (wf ?_);refine ws (wq ?_);refine wq (wr ?_);simp only[szs];refine wv (.int .i32 0) ?_;(iterate 2 walk_nrm;refine wv (.bool false) ?_);walk_nrm;refine wv (.int .u32 1) ?_;(iterate 2 walk_nrm;refine wv (.bool false) ?_);walk_nrm;refine we (wf ?_);refine ws (wq ?_);refine wq (wr ?_);simp only[szs];refine wv (.pointer (some (stC b))) ?_;(iterate 2 walk_nrm;refine wv (.pointer (some (stC b))) ?_);walk_nrm;refine i7 rfl rfl gh rfl Tryz.func62 fd rfl ?_;simp only[show Tryz.f62.ntmps=7 from rfl];walk_nrm;refine wq (wr ?_);simp only[szs];refine wv (.int .u64 0) ?_;walk_nrm;refine we (wq ?_);refine wr ?_;simp only[szs];refine wv (.pointer (some (stC b))) ?_;(iterate 2 walk_nrm;refine wv (.pointer (some (stC b))) ?_);walk_nrm;refine ug ⟨rfl,by decide,_,λu y hc=>stepG_load_atomic rfl rfl gh rfl wgLib.f_loadU64 (x_loadU64_n Lw) (x_loadU64_b Lw) (x_loadU64_x Lw) .u64 (x_loadU64_f Lw) rfl hc.st,fa2 ?_⟩;walk_nrm;refine wv (.int .u64 1) ?_;walk_nrm;refine we ?_;refine ri rfl (λ_=>f1w) ?_;refine vw (t:=2) rfl rfl Tryz.func62 rfl ?_;walk_nrm;refine wv (.int .u64 1) ?_;walk_nrm;refine wv (.bool false) ?_;walk_nrm;refine we (wf ?_);refine ws (wq ?_);refine wr ?_;simp only[szs];refine wv (.pointer (some (stC b))) ?_;(iterate 2 walk_nrm;refine wv (.pointer (some (stC b))) ?_);walk_nrm;refine i7 rfl rfl gh rfl Tryz.func111 fd rfl ?_;simp only[show Tryz.f111.ntmps=9 from rfl];walk_nrm;refine wr ?_;simp only[szs];refine wv (.pointer (some (stC b))) ?_;(iterate 2 walk_nrm;refine wv (.pointer (some (stC b))) ?_);walk_nrm;refine wv (.int .u64 0) ?_;walk_nrm;refine ug ⟨rfl,by decide,_,λu y hc=>stepG_store_atomic rfl rfl gh rfl wgLib.f_storeU64 (x_storeU64_n Lw) (x_storeU64_b Lw) (x_storeU64_x Lw) (x_storeU64_f Lw) rfl rfl hc.st hc.fst,fa2 ?_⟩;walk_nrm;refine we ?_;refine ri rfl (λ_=>f4e) ?_;refine yo rfl rfl Tryz.func111 rfl ?_;walk_nrm;refine we (wq ?_);refine wq (wr ?_);simp only[szs];refine wv (.bool false) ?_;walk_nrm;refine we (wf ?_);refine ws ?_;refine ri rfl (λ_=>f5i) ?_;refine ri rfl (λ_=>stepG_loop) ?_;refine wq (wq ?_);refine wr ?_;simp only[szs];refine wv (.int .u32 1) ?_;walk_nrm;refine wv (.bool true) ?_;walk_nrm;refine we (wt ?_);refine ws (wq ?_);refine ri rfl (λ_=>f5i) ?_;refine wr ?_;simp only[szs];(iterate 2 refine wv (.pointer (some (stC b))) ?_;walk_nrm);refine wv (.pointer (some (smC b))) ?_;walk_nrm;refine ug ⟨rfl,by decide,fl8 rfl rfl wgLib.f_semrelease (x_semrelease_b Lw),_,λu hc=>(stepG_semrelease rfl rfl gh rfl wgLib.f_semrelease (x_semrelease_n Lw) (x_semrelease_b Lw) (x_semrelease_x Lw) (x_semrelease_f Lw) (ad:=smC b) jh hc.sm hc.fsm).trans (by rw[show IntKind.u32.wrap (0+1)=1 from by decide]),fe3 ?_⟩;walk_nrm;refine we ?_;refine ri rfl (λ_=>stepG_inBlock) ?_;refine wr ?_;simp only[szs];refine wv (.int .u32 1) ?_;walk_nrm;refine wu (.int .u32 0) ?_;walk_nrm;refine wv (.int .u32 0) ?_;walk_nrm;refine we ?_;refine ri rfl (λ_=>stepG_inLoop) ?_;refine wq (wq ?_);refine wr ?_;simp only[szs];refine wv (.int .u32 0) ?_;walk_nrm;refine wv (.bool false) ?_;walk_nrm;refine we (wf ?_);refine ri rfl (λ_=>stepG_exit rfl) ?_;refine ri rfl (λ_=>f4e) ?_;refine dm .enable rfl fi rfl wgLib.f_enable (x_enable_n Lw) (x_enable_b Lw) (x_enable_x Lw) (x_enable_f Lw) ?_;refine yo rfl rfl Tryz.func77 rfl ?_;walk_nrm;refine we ?_;refine ri rfl (λ_=>f4e) ?_;refine fa3 rfl rfl Tryz.func79 rfl rfl ?_;refine fh1 rfl rfl Tryz.func78 rfl ?_;exact ug ⟨rfl,rfl⟩
end
def WaitE (b:Nat) (e:Event):Prop:=e.mute=true\/e=⟨.mark (.write (smC b)),false,true⟩
noncomputable def wL7:Code:=match Tryz.f28.body with|some (.seq _ (.block _ (.loop c)))=>c|_=>.skip
def fw1 (b:Nat) (cs:List Frame) (g:Goroutine):Prop:= ∃T:Array Value,T.size=84/\T[0]? =some (.pointer (some (stC b)))/\g=G ((base 28).at ⟨T,[]⟩ [.code wL7,.inLoop wL7,.inBlock 0]) cs
def fu5 (b:Nat) (w:World) (cs:List Frame) (g:Goroutine) (w':World) (d:Nat):Prop:=w'=w/\WKE Tryz.prog true (WgLv b) (WaitE b) (λg d=>d=1/\fw1 b cs g) g d
section
variable {b:Nat} {Shun:Loc->Prop} {St:Nat->Loc->Prop} {S:Nat->Option SeatD} {w:World}
def cz {Ψ:Goroutine->World->Nat->Prop} {g:Goroutine} {d:Nat} (hs:HasS b w) (j:Shun (.cell (stC b))/\Shun (.cell (smC b))) (h:WKE Tryz.prog true (WgLv b) (WaitE b) (λg d=> ∃n,OM Tryz.prog b Shun St S Ψ n g w d) g d): ∃n,OM Tryz.prog b Shun St S Ψ n g w d:=by
 refine fu0 hs (λe he=>?_) (λ_ h=>h) h λ_ _ h=>h;rcases he with he|rfl
 ·obtain⟨l,wr,sy⟩:=e;cases l with
  | mark m=>
    cases m with
    | disable=>exact⟨λx hx=>jn,λa h=>je,by cases wr <;>cases sy <;>trivial⟩
    | enable=>exact⟨λx hx=>jn,λa h=>je,by cases wr <;>cases sy <;>trivial⟩
    | _=>simp[Event.mute] at he
  | _=>simp[Event.mute] at he
 ·refine⟨λx hx=>.inl ?_,λa h=>je,hs.lt⟩;simp[MemAct.ofEvent,MemAct.touch?] at hx;subst hx;exact⟨j.2,by simp⟩
variable {St':Nat->Loc->Prop} {b₀:Frame} {a₀:Act} {k₀:List Item} {cs:List Frame} {ops₀:Array Oper} {i₀:Nat} {rest₀:List Nat} {Φ:Goroutine->World->Nat->Prop}
def ffv {g:Goroutine} (hs:HasS b w) (j:Shun (.cell (stC b))/\Shun (.cell (smC b)))
    (hΦ: ∃n,OM Tryz.prog b Shun St' (λ_=>none) Φ n (G (b₀.at (a₀.put ((ops₀[i₀]?).bind (·.dst)) (.tuple #[])) (.inRegion ops₀ rest₀::k₀)) cs) w 0)
    (hg:fw1 b (b₀.at a₀ (.inRegion ops₀ (i₀::rest₀)::k₀)::cs) g):
    ∃n,OM Tryz.prog b Shun St S (AtW1 Tryz.prog b Shun St S (fe2 Tryz.prog b Shun St' Φ) (fu5 b w (b₀.at a₀ (.inRegion ops₀ (i₀::rest₀)::k₀)::cs))) n g w 1:=by
 obtain⟨T,hT,h0,rfl⟩:=hg;obtain⟨v0,v1,v2,v3,v4,v5,v6,v7,v8,v9,R,bC,bA,bq,a6,bb,aP,a8,bu,aC,aR,a9,aB,W,bI,bD,aY,bs,aL,I,U,a0,ac,bk,aQ,aH,an,aM,a7,bM,bK,C,ak,bm,bH,aJ,bG,aK,aG,aW,aO,aI,X,ah,ab,bL,aD,M,aS,aF,bB,O,a4,ba,D,aE,aV,bE,aN,Y,bJ,bF,aX,bc,a5,aU,ap,aa,J,aA,ae,be,aT,br,rfl⟩:=array84 T hT;simp only[fy2,fx7,f03] at h0;subst h0;clear hT;unfold wL7;simp only[Tryz.f28];refine cz hs j ?_;refine ri rfl (λ_=>f5i) ?_;refine wq (wr ?_);simp only[szs];refine wv (.pointer (some (stC b))) ?_;(iterate 2 walk_nrm;refine wv (.pointer (some (stC b))) ?_);walk_nrm;refine i7 rfl rfl gh rfl Tryz.func62 fd rfl ?_;simp only[show Tryz.f62.ntmps=7 from rfl];walk_nrm;refine wq (wr ?_);simp only[szs];refine wv (.int .u64 0) ?_;walk_nrm;refine we (wq ?_);refine wr ?_;simp only[szs];refine wv (.pointer (some (stC b))) ?_;(iterate 2 walk_nrm;refine wv (.pointer (some (stC b))) ?_);walk_nrm;refine ug ⟨0,rfl,λv hv=>?_⟩;rcases Nat.eq_zero_or_pos v with rfl|aZ
 ·refine⟨_,λt=>stepG_load_atomic rfl rfl gh rfl wgLib.f_loadU64 (x_loadU64_n Lw) (x_loadU64_b Lw) (x_loadU64_x Lw) .u64 (x_loadU64_f Lw) rfl ((wo hs).at t).st,λ_=>cz hs j ?_,λh=>absurd rfl h⟩;rw[show((0:Nat):Int)*K32=0 from by simp];walk_nrm;refine wv (.int .u64 0) ?_;walk_nrm;refine we ?_;refine ri rfl (λ_=>f1w) ?_;refine vw (t:=2) rfl rfl Tryz.func62 rfl ?_;walk_nrm;refine wv (.int .u64 0) ?_;walk_nrm;refine we (wq ?_);refine wr ?_;simp only[szs];refine wv (.int .u64 0) ?_;walk_nrm;refine wu (.int .u64 0) ?_;walk_nrm;refine wu (.int .i32 0) ?_;walk_nrm;refine wv (.int .i32 0) ?_;walk_nrm;refine we (wq ?_);refine wr ?_;simp only[szs];refine wv (.int .u64 0) ?_;walk_nrm;refine wu (.int .u64 0) ?_;walk_nrm;refine wu (.int .u32 0) ?_;walk_nrm;refine wv (.int .u32 0) ?_;walk_nrm;refine we (wq ?_);refine wq (wr ?_);simp only[szs];refine wv (.int .i32 0) ?_;walk_nrm;refine wu (.bool true) ?_;walk_nrm;refine we (wt ?_);refine wq (wt ?_);refine wq (wr ?_);simp only[szs];refine i8 .enable fi (.inl rfl) rfl rfl gh rfl wgLib.f_enable (x_enable_n Lw) (x_enable_b Lw) (x_enable_x Lw) (x_enable_f Lw) ?_;walk_nrm;refine we (wr ?_);simp only[szs];refine wv (.pointer (some (stC b))) ?_;walk_nrm;refine faq (p:=stC b) rfl rfl Tryz.underlying128 wgLib.room_tWg (λu hu=>?_) rfl rfl gh ?_
  ·obtain⟨x,y,h⟩:=hu;exact⟨_,h.st⟩
  walk_nrm;refine ug ⟨0,rfl,by first|rfl|simp[deafBehind],_,λx y t=>f4t .acquire fi rfl rfl gh rfl wgLib.f_acquire (x_acquire_n Lw) (x_acquire_b Lw) (x_acquire_x Lw) (x_acquire_f Lw) (ad:=stC b) jh,cz hs j ?_⟩;walk_nrm;refine we (wq ?_);refine wq (wr ?_);simp only[szs];refine wv (.int .u32 0) ?_;walk_nrm;refine wu (.bool true) ?_;walk_nrm;refine wv (.bool true) ?_;walk_nrm;refine wv (.int .u64 0) ?_;walk_nrm;refine wu (.int .u64 0) ?_;walk_nrm;refine wu (.bool false) ?_;(iterate 2 walk_nrm;refine wv (.bool false) ?_);(iterate 2 walk_nrm;refine wz ?_);walk_nrm;refine wv (.bool false) ?_;walk_nrm;refine we (wf ?_);refine ws ?_;refine ri rfl (λ_=>f1w) ?_;refine yo rfl rfl Tryz.func28 rfl ?_;walk_nrm;exact ug hΦ
 ·obtain⟨S,hS⟩: ∃S:Int,S=(v:Int)*K32:=⟨_,rfl⟩;have a1:S / 4294967296=(v:Int):=by rw[hS];show(v:Int)*4294967296 / _=_;omega
  have a2:0<=S/\S<9223372036854775808:=by rw[hS];show 0<=(v:Int)*4294967296/\(v:Int)*4294967296<_;omega
  have b1:bits .and .u64 S 2147483648=0:=by rw[hS,show(v:Int)*K32=(v:Int)*4294967296+((0:Nat):Int) from(Int.add_zero _).symm];exact Go.ConcN.st_flag v 0 fe fe
  have b2:bits .and .u64 S 2147483647=0:=by rw[hS,show(v:Int)*K32=(v:Int)*4294967296+((0:Nat):Int) from(Int.add_zero _).symm];exact Go.ConcN.st_waiters v 0 fe fe
  have a3:IntKind.u64.wrap (S+1)=S+1:=by rw[IntKind.wrap_u64];omega
  have m: ∀t,((wgw b w ((v:Int)*K32) 0).at t).cell? (stC b)=some (.int .u64 S):=λt=>hS▸((wo hs).at t).st;have B: ∀t,((wgw b w ((v:Int)*K32) 0).at t).setCell (stC b) (.int .u64 (S+1))=(wgw b w ((v:Int)*K32+1) 0).at t:=λt=>by rw[hS,fbn,fbn,fdy (w:=w.at t) hs]
  have A: ∀v':Nat,v'≠v-> ¬(v':Int)*K32=S:=λv' h=>by rw[hS];show ¬(v':Int)*4294967296=(v:Int)*4294967296;omega
  clear hS;refine⟨_,λt=>stepG_load_atomic (v:=S) rfl rfl gh rfl wgLib.f_loadU64 (x_loadU64_n Lw) (x_loadU64_b Lw) (x_loadU64_x Lw) .u64 (x_loadU64_f Lw) rfl (m t),λh=>absurd h fe,λ_=>cz hs j ?_⟩;walk_nrm;refine wv (.int .u64 S) ?_;walk_nrm;refine we ?_;refine ri rfl (λ_=>f1w) ?_;refine vw (t:=2) rfl rfl Tryz.func62 rfl ?_;walk_nrm;refine wv (.int .u64 S) ?_;walk_nrm;refine we (wq ?_);refine wr ?_;simp only[szs];refine wv (.int .u64 S) ?_;walk_nrm;refine wu (.int .u64 (v:Int)) ?_;walk_nrm;refine wu (.int .i32 (v:Int)) ?_;walk_nrm;refine wv (.int .i32 (v:Int)) ?_;walk_nrm;refine we (wq ?_);refine wr ?_;simp only[szs];refine wv (.int .u64 S) ?_;walk_nrm;refine wu (.int .u64 0) ?_;walk_nrm;refine wu (.int .u32 0) ?_;walk_nrm;refine wv (.int .u32 0) ?_;walk_nrm;refine we (wq ?_);refine wq (wr ?_);simp only[szs];refine wv (.int .i32 (v:Int)) ?_;walk_nrm;refine wu (.bool false) ?_;walk_nrm;refine we (wf ?_);refine ws (wq ?_);refine wr ?_;simp only[szs];refine wv (.pointer (some (stC b))) ?_;(iterate 2 walk_nrm;refine wv (.pointer (some (stC b))) ?_);(iterate 2 walk_nrm;refine wv (.int .u64 S) ?_);walk_nrm;refine wu (.int .u64 (S+1)) ?_;walk_nrm;refine i7 rfl rfl gh rfl Tryz.func66 fd rfl ?_;simp only[show Tryz.f66.ntmps=13 from rfl];walk_nrm;refine wq (wr ?_);simp only[szs];refine wv (.bool false) ?_;walk_nrm;refine we (wq ?_);refine wr ?_;simp only[szs];refine wv (.pointer (some (stC b))) ?_;(iterate 2 walk_nrm;refine wv (.pointer (some (stC b))) ?_);walk_nrm;refine wv (.int .u64 S) ?_;walk_nrm;refine wv (.int .u64 (S+1)) ?_;walk_nrm;refine ug ⟨0,rfl,⟨_,λt=>(stepG_cas_hit (v:=S) (n:=S+1) rfl rfl gh rfl wgLib.f_casU64 (x_casU64_n Lw) (x_casU64_b Lw) (x_casU64_x Lw) .u64 (x_casU64_f Lw) rfl rfl rfl (m t) ((wo hs).at t).fst).trans (by rw[B t]),cz hs j ?_⟩,λv' q bp=>⟨_,λt=>stepG_cas_miss (v:=(v':Int)*K32) (old:=S) (n:=S+1) rfl rfl gh rfl wgLib.f_casU64 (x_casU64_n Lw) (x_casU64_b Lw) (x_casU64_x Lw) .u64 (x_casU64_f Lw) rfl rfl rfl ((wo hs).at t).st ((wo hs).at t).fst (A v' q),rfl,?_⟩⟩
  ·walk_nrm;refine wv (.bool true) ?_;walk_nrm;refine we ?_;refine ri rfl (λ_=>f1w) ?_;refine vw (t:=6) rfl rfl Tryz.func66 rfl ?_;walk_nrm;refine we (wt ?_);refine wq (wq ?_);refine wr ?_;simp only[szs];refine wv (.bool true) ?_;walk_nrm;refine wv (.int .u32 0) ?_;walk_nrm;refine wu (.bool true) ?_;walk_nrm;refine wv (.bool true) ?_;walk_nrm;refine we (wt ?_);refine wr ?_;simp only[szs];(iterate 2 refine wv (.pointer (some (stC b))) ?_;walk_nrm);refine wv (.pointer (some (smC b))) ?_;walk_nrm;refine faq (p:=smC b) rfl rfl Tryz.underlying136 wgLib.room_tU32 (λu hu=>?_) rfl rfl gh ?_
   ·obtain⟨x,y,h⟩:=hu;exact⟨_,h.sm⟩
   walk_nrm;refine fe4 ⟨.mark (.write (smC b)),false,true⟩ (.inr rfl) rfl (λu _=>f4t .write fi rfl rfl gh rfl wgLib.f_raceWrite (x_raceWrite_n Lw) (x_raceWrite_b Lw) (x_raceWrite_x Lw) (x_raceWrite_f Lw) (ad:=smC b) jh) ?_;walk_nrm;refine we (wq ?_);refine wr ?_;simp only[szs];refine wv (.bool false) ?_;walk_nrm;refine we (wq ?_);refine wq (wr ?_);simp only[szs];refine wv (.int .u64 S) ?_;walk_nrm;refine wu (.int .u64 0) ?_;walk_nrm;refine wu (.bool false) ?_;walk_nrm;refine wv (.bool false) ?_;walk_nrm;refine wz ?_;walk_nrm;refine wv (.bool false) ?_;walk_nrm;refine we (wf ?_);refine ws (wq ?_);refine wr ?_;simp only[szs];(iterate 2 refine wv (.pointer (some (stC b))) ?_;walk_nrm);refine wv (.pointer (some (smC b))) ?_;walk_nrm;refine wv (.bool false) ?_;walk_nrm;refine ug ⟨0,rfl,rfl,λx t=>stepG_semacquire_wait rfl rfl rfl wgLib.f_semacquire (x_semacquire_n Lw) (x_semacquire_b Lw) (x_semacquire_x Lw) (x_semacquire_f Lw) jh ((wo hs).at t).sm,_,λt=>(stepG_semacquire (n:=1) (ad:=smC b) rfl rfl gh rfl wgLib.f_semacquire (x_semacquire_n Lw) (x_semacquire_b Lw) (x_semacquire_x Lw) (x_semacquire_f Lw) jh ((wo hs).at t).sm fu ((wo hs).at t).fsm).trans (by rw[fbn,fbn,fiy (w:=w.at t) hs,show(1:Int)-1=0 from rfl]),cz hs j ?_⟩;walk_nrm;refine we (wq ?_);refine wr ?_;simp only[szs];refine wv (.pointer (some (stC b))) ?_;(iterate 2 walk_nrm;refine wv (.pointer (some (stC b))) ?_);walk_nrm;refine i7 rfl rfl gh rfl Tryz.func62 fd rfl ?_;simp only[show Tryz.f62.ntmps=7 from rfl];walk_nrm;refine wq (wr ?_);simp only[szs];refine wv (.int .u64 0) ?_;walk_nrm;refine we (wq ?_);refine wr ?_;simp only[szs];refine wv (.pointer (some (stC b))) ?_;(iterate 2 walk_nrm;refine wv (.pointer (some (stC b))) ?_);walk_nrm;refine ug ⟨0,rfl,_,λt=>stepG_load_atomic (v:=0) rfl rfl gh rfl wgLib.f_loadU64 (x_loadU64_n Lw) (x_loadU64_b Lw) (x_loadU64_x Lw) .u64 (x_loadU64_f Lw) rfl ((wo hs).at t).st,cz hs j ?_⟩;walk_nrm;refine wv (.int .u64 0) ?_;walk_nrm;refine we ?_;refine ri rfl (λ_=>f1w) ?_;refine vw (t:=2) rfl rfl Tryz.func62 rfl ?_;(iterate 2 walk_nrm;refine wv (.bool false) ?_);walk_nrm;refine we (wq ?_);refine wt ?_;refine wq (wr ?_);simp only[szs];refine i8 .enable fi (.inl rfl) rfl rfl gh rfl wgLib.f_enable (x_enable_n Lw) (x_enable_b Lw) (x_enable_x Lw) (x_enable_f Lw) ?_;walk_nrm;refine we (wr ?_);simp only[szs];refine wv (.pointer (some (stC b))) ?_;walk_nrm;refine faq (p:=stC b) rfl rfl Tryz.underlying128 wgLib.room_tWg (λu hu=>?_) rfl rfl gh ?_
   ·obtain⟨x,y,h⟩:=hu;exact⟨_,h.st⟩
   walk_nrm;refine ug ⟨0,rfl,by first|rfl|simp[deafBehind],_,λx y t=>f4t .acquire fi rfl rfl gh rfl wgLib.f_acquire (x_acquire_n Lw) (x_acquire_b Lw) (x_acquire_x Lw) (x_acquire_f Lw) (ad:=stC b) jh,cz hs j ?_⟩;walk_nrm;refine we (wq ?_);refine wq (wr ?_);simp only[szs];refine wv (.bool false) ?_;walk_nrm;refine we (wf ?_);refine ws ?_;refine ri rfl (λ_=>f1w) ?_;refine yo rfl rfl Tryz.func28 rfl ?_;walk_nrm;exact ug hΦ
  ·walk_nrm;refine wv (.bool false) ?_;walk_nrm;refine we ?_;refine ri rfl (λ_=>f1w) ?_;refine vw (t:=6) rfl rfl Tryz.func66 rfl ?_;walk_nrm;refine we (wf ?_);refine ws ?_;refine ri rfl (λ_=>stepG_inBlock) ?_;refine ri rfl (λ_=>stepG_inLoop) ?_;exact ug ⟨rfl,_,rfl,rfl,rfl⟩
def fob {T:Array Value} (hs:HasS b w) (j:Shun (.cell (stC b))/\Shun (.cell (smC b))) (hT:T.size=84) (h0:T[0]? =some (.pointer (some (stC b))))
    (hΦ: ∃n,OM Tryz.prog b Shun St' (λ_=>none) Φ n (G (b₀.at (a₀.put ((ops₀[i₀]?).bind (·.dst)) (.tuple #[])) (.inRegion ops₀ rest₀::k₀)) cs) w 0) {c:Code} (hc:Tryz.f28.body=some c):
    (∃n,OM Tryz.prog b Shun St S (AtW1 Tryz.prog b Shun St S (fe2 Tryz.prog b Shun St' Φ) (fu5 b w (b₀.at a₀ (.inRegion ops₀ (i₀::rest₀)::k₀)::cs))) n (G ((base 28).at ⟨T,[]⟩ [.code c]) (b₀.at a₀ (.inRegion ops₀ (i₀::rest₀)::k₀)::cs)) w 0)/\
    ∀g w' d,fu5 b w (b₀.at a₀ (.inRegion ops₀ (i₀::rest₀)::k₀)::cs) g w' d-> ∃n,OM Tryz.prog b Shun St S (AtW1 Tryz.prog b Shun St S (fe2 Tryz.prog b Shun St' Φ) (fu5 b w (b₀.at a₀ (.inRegion ops₀ (i₀::rest₀)::k₀)::cs))) n g w' d:=by
 refine⟨?_,?_⟩
 ·refine cz hs j ?_;obtain⟨v0,v1,v2,v3,v4,v5,v6,v7,v8,v9,I,be,bb,a7,aX,a2,aK,aZ,ba,ak,aM,a0,ah,M,bs,bk,aT,a9,aG,A,J,aU,X,a5,aL,aD,ac,aH,aY,bC,bA,m,ab,a6,br,aE,bq,aF,aB,aR,aJ,aC,O,aa,W,bB,an,C,aN,aA,bc,D,aV,a1,q,ap,aQ,bm,aI,R,bu,bp,aS,a3,aW,aP,ad,U,B,ae,Y,a4,aO,a8,rfl⟩:=array84 T hT;obtain rfl:_=c:=fy7 hc;simp only[fy2,fx7,f03] at h0;subst h0;have hd:deafBehind 0 #[⟨.mark .disable,false,true⟩]=1:=by decide
  refine wq (wt ?_);refine wr ?_;simp only[szs];refine i8 .disable fi (.inl rfl) rfl rfl gh rfl wgLib.f_disable (x_disable_n Lw) (x_disable_b Lw) (x_disable_x Lw) (x_disable_f Lw) ?_;walk_nrm;refine we ?_;refine ri rfl (λ_=>f5i) ?_;refine ri rfl (λ_=>stepG_loop) ?_;rw[hd];exact ug (ffv hs j hΦ ⟨_,rfl,rfl,rfl⟩)
 ·rintro g w' d ⟨rfl,h⟩;exact cz hs j (h.mono λg d ⟨h1,h2⟩=>ug (by subst h1;exact ffv hs j hΦ h2))
end
section
variable {P:Program} {main:Bool} {K:World->Prop} {E:Event->Prop} {Φ:Goroutine->Nat->Prop} {d:Nat} {b:Frame} {a:Act} {k:List Item} {cs:List Frame} {ops:Array Oper} {i:Nat} {rest:List Nat} {o:Oper}
def fav (v:Value) (es:Array Event) (ho:ops[i]? =some o) (hw:Region.wanted o (yielded ops a.tmps)=true) (hk:b.kind≠ .early) (hr: ∀u,K u->(execOp a.eval o).run P u=.ok (.value v) u) (he: ∀u,K u->(execOp a.eval o).events P u #[]=es) (hE: ∀e∈es,E e/\vl e)
    (hq:WKE P main K E Φ (G (b.at (a.put o.dst v) (.inRegion ops rest::k)) cs) d):WKE P main K E Φ (G (b.at a (.inRegion ops (i::rest)::k)) cs) d:=by
 obtain⟨n,hq⟩:=hq;refine⟨n+1,.inr ⟨rfl,G (b.at (a.put o.dst v) (.inRegion ops rest::k)) cs,seen P b.fn es,λe he=>(hE e (f3e he)).1,λu hu=>?_,?_⟩⟩
 ·rw[stepG_value ho hw hk (hr u hu)];unfold listed;rw[he u hu]
 ·rw[f6s (λe he=>(hE e (f3e he)).2) d];exact hq
def faa {fn:Func} {c:Frame} {todo:List Item} (hk:b.kind=.normal\/b.kind=.deferred) (hd:a.defers=[]) (hf:P.funcs[b.fn]? =some fn) {x:Value} (hr:ResultsC P fn a.tmps x) (hq:WKE P main K E Φ (G (ur b.kind x c) cs) d):
    WKE P main K E Φ (G { b.at a todo with mode:=.returning } (c::cs)) d:=by
 refine ri rfl (λw=>?_) hq;obtain⟨h1,h2⟩:=hr w
 have hT:(results fn a.tmps).runT P w #[]=(.ok x w,#[]):=by
    refine f2v ?_ h2;rw[f0d];exact h1
 have e1:stepG P main (G { b.at a todo with mode:=.returning } (c::cs)) w=GStep.after (seen P b.fn #[]) (doReturn P main { b.at a todo with mode:=.returning } (c::cs) none x w):=by
    simp[-Sem.runT_eq,G,stepG,unwind,Frame.at,hd,hf,hT]
 rw[e1,wn (by simpa[Frame.at] using hk)];have:seen P b.fn #[]=#[]:=seen_none P b.fn;rw[this];simp only[c9,ur,Frame.at,LRes.plug,GStep.after,f1t];rfl
end
section
variable {P:Program} {b:Nat} {Shun:Loc->Prop} {St:Nat->Loc->Prop} {S:Nat->Option SeatD} {w w':World} {Ψ:Goroutine->World->Nat->Prop} {g g':Goroutine} {d:Nat} {E:Event->Prop}
def KW (b:Nat) (w u:World):Prop:= ∃x y t,u=(wgw b w x y).at t
def fl9 (hE: ∀e,E e->EvM Shun St w.heap.size e) (h:WKE P true (KW b w) E (λg d=> ∃n,OM P b Shun St S Ψ n g w d) g d): ∃n,OM P b Shun St S Ψ n g w d:=by
 obtain⟨n,h⟩:=h
 induction n generalizing g d with
 | zero=>exact h
 | succ n ih=>
   rcases h with h|⟨h1,g',es,h2,h3,h4⟩
   ·exact h
   ·obtain⟨m,hm⟩:=ih h4;exact⟨m+1,.inr ⟨h1,g',w,es,λx y t=>h3 _ ⟨x,y,t,rfl⟩,f6n w,λe he=>hE e (h2 e he),hm⟩⟩
def om_step {es:Array Event} (hr:g.status=.running) (j: ∀x y t,stepG P true g ((wgw b w x y).at t)=.go g' ((wgw b w' x y).at t) es) (hw:StepM b S w w') (m: ∀e∈es,EvM Shun St w'.heap.size e) (h: ∃n,OM P b Shun St S Ψ n g' w' (deafBehind d es)): ∃n,OM P b Shun St S Ψ n g w d:=by
 obtain⟨n,h⟩:=h;exact⟨n+1,.inr ⟨hr,g',w',es,j,hw,m,h⟩⟩
def fu6 {p:Addr} {x y:Int} (h:p.block≠b\/(p.off≠6/\p.off≠7)) (hv:p.spot=none):(wgw b w x y).cell? p=w.cell? p:=by
 by_cases e:p.block=b
 ·rcases h with h|⟨h6,h7⟩
  ·exact absurd e h
  ·unfold World.cell?;rw[e];unfold wgw;simp only[fy6,f0e];cases hb:w.heap[b]? with
   | none=>rfl
   | some o=>cases o <;>simp[hv,fy1,f3w h6,f3w h7]
 ·unfold World.cell?;rw[yz e]
def foc {p:Addr} {x y:Int}:(wgw b w x y).frozen? p=w.frozen? p:=by
 unfold World.frozen?;by_cases e:p.block=b
 ·rw[e];unfold wgw;simp only[fy6,f0e];cases hb:w.heap[b]? with
  | none=>rfl
  | some o=>cases o <;>simp
 ·rw[yz e]
def fla {p:Addr} {x y:Int} {v:Value} (h:p.block≠b\/(p.off≠6/\p.off≠7)) (hv:p.spot=none):(wgw b w x y).setCell p v=wgw b (w.setCell p v) x y:=by
 unfold World.setCell wgw;simp only[f5a,f2i,true_and];apply f0v;intro i;simp only[fy6];by_cases e:b=i
 ·subst e;by_cases e':p.block=b
  ·rcases h with h|⟨h6,h7⟩
   ·exact absurd e' h
   ·simp only[e',f0e];cases hb:w.heap[b]? with
    | none=>rfl
    | some o=>
      cases o <;>simp[hv];apply f0v;intro j;simp only[fy1,f00];by_cases e1:7=j
      ·subst e1;simp[h7]
      ·by_cases e2:6=j
       ·subst e2;simp[h6]
       ·simp[e1,e2]
  ·simp only[f0e,fx9 e']
 ·simp only[fx9 e]
end
section
variable {b:Nat} {Shun:Loc->Prop} {St:Nat->Loc->Prop} {S:Nat->Option SeatD} {w w':World} {Ψ:Goroutine->World->Nat->Prop} {d:Nat} {c:Frame} {cs:List Frame}
def EvU (p:Addr) (e:Event):Prop:=e.mute=true\/e=⟨.cell p,false,false⟩\/e=⟨.mark (.releaseMerge p),false,true⟩
def fu7 {n:Nat} {e:Event} (he:e.mute=true):EvM Shun St n e:=by
 obtain⟨l,wr,sy⟩:=e;cases l with
 | mark m=>
   cases m with
   | disable=>exact⟨λx hx=>jn,λa h=>je,by cases wr <;>cases sy <;>trivial⟩
   | enable=>exact⟨λx hx=>jn,λa h=>je,by cases wr <;>cases sy <;>trivial⟩
   | _=>simp[Event.mute] at he
 | _=>simp[Event.mute] at he
def fu8 {n:Nat} {p:Addr} (j: ∀g,¬St g (.cell p)) (m: ¬Shun (.cell p)) (hp:p.block<n) (wr sy:Bool):EvM Shun St n ⟨.cell p,wr,sy⟩:=by
 refine⟨λx hx=>.inr ?_,λa h=>je,by cases wr <;>cases sy <;>exact hp⟩;cases wr <;>cases sy <;>(simp[MemAct.ofEvent,MemAct.touch?] at hx;subst hx;exact⟨λg h=>absurd h (j g),m⟩)
def fw2 {n:Nat} {p:Addr} (j: ¬Shun (.cell p)) (hp:p.block<n) (sy:Bool):EvM Shun St n ⟨.cell p,false,sy⟩:=by
 refine⟨λx hx=>.inr ?_,λa h=>je,by cases sy <;>exact hp⟩;cases sy <;>(simp[MemAct.ofEvent,MemAct.touch?] at hx;subst hx;exact⟨λg h=>rfl,j⟩)
def fr3 {n:Nat} {p:Addr} (j: ¬Shun (.cell p)) (hp:p.block<n) {e:Event} (h:EvU p e):EvM Shun St n e:=by
 rcases h with h|rfl|rfl
 ·exact fu7 h
 ·exact fw2 j hp false
 ·exact⟨λx hx=>pl,λa h=>je,hp⟩
def fjc {p:Addr} {v:Value} (hp:p.spot=none) (h:HasS b w):HasS b (w.setCell p v):=by
 obtain⟨c,e,h,hc⟩:=h;by_cases e':p.block=b
 ·exact⟨c.setIfInBounds p.off v,e,by simp[World.setCell,fy6,e',h,hp],by simpa using hc⟩
 ·exact⟨c,e,by simp[World.setCell,fy6,e',h],hc⟩
def fh2 {p:Addr} {v:Value} (hp:p.spot=none) (hS: ∀i s,S i=some s->s.c≠p.block/\s.D p.block=none):StepM b S w (w.setCell p v):=by
 refine⟨by simp[World.setCell],λi s h=>⟨?_,λc o hc=>?_⟩,fjc hp⟩
 ·have:p.block≠s.c:=λe=>(hS i s h).1 e.symm;simp[World.setCell,fy6,this]
 ·have:p.block≠c:=by rintro rfl;rw[(hS i s h).2] at hc;cases hc
  simp[World.setCell,fy6,this]
def faw {p:Addr} {u:World} (hp:p.block≠b\/(p.off≠6/\p.off≠7)) (hv:p.spot=none) (hu:KW b w u):u.cell? p=w.cell? p:=by
 obtain⟨x,y,t,rfl⟩:=hu;exact fu6 hp hv
def fjd {u:World} {p:Addr} {v:Value} (h:u.cell? p=some v):p.spot=none:=by
 unfold World.cell? at h;split at h
 ·split at h
  ·cases h
  ·rename_i h1;simpa using h1
 ·cases h
def fr4 {p:Addr} {args:Array Value} {kind:CallKind} (hk:kind=.normal\/kind=.deferred) (hp:args.getD 0 undef=.pointer (some p)) (B:p.block≠b\/(p.off≠6/\p.off≠7)) (hc:w.cell? p=some (.int .i32 1)) (hz:w.frozen? p=false)
    (J: ∀g,¬St g (.cell p)) (A: ¬Shun (.cell p)) (hS: ∀i s,S i=some s->s.c≠p.block/\s.D p.block=none)
    (h: ∃n,OM Tryz.prog b Shun St S Ψ n (G (ur kind (.tuple #[]) c) cs) (w.setCell p (.int .i32 0)) d): ∃n,OM Tryz.prog b Shun St S Ψ n (G (Frame.enter Tryz.prog 58 args kind) (c::cs)) w d:=by
 have j:kind≠ .early:=by rcases hk with rfl|rfl <;>simp
 have hlt:p.block<w.heap.size:=zq hc;have hv:p.spot=none:=fjd hc;rw[enter_at Tryz.func58 rfl];obtain⟨L,m,hL,h0⟩:=fa5 args Tryz.f58.ntmps;rw[hL];have m:21<=L.length:=m;rcases L with _|⟨x0,_|⟨x1,_|⟨x2,_|⟨x3,_|⟨x4,_|⟨x5,_|⟨x6,_|⟨x7,_|⟨x8,_|⟨x9,_|⟨U,_|⟨aa,_|⟨X,_|⟨M,_|⟨ab,_|⟨Y,_|⟨R,_|⟨ad,_|⟨ac,_|⟨W,_|⟨O,tl⟩⟩⟩⟩⟩⟩⟩⟩⟩⟩⟩⟩⟩⟩⟩⟩⟩⟩⟩⟩⟩ <;>first|(simp at m;done)|skip
 have C:=(h0 0).trans hp;simp only[f1y] at C;subst C;have q: ∀u,KW b w u->u.cell? p=some (.int .i32 1):=λu hu=>(faw B hv hu).trans hc;refine fl9 (E:=EvU p) (λe he=>fr3 A hlt he) ?_;refine ri rfl (λ_=>f4d) (ri rfl (λ_=>stepG_cond (t:=true) rfl) (ri rfl (λ_=>f4d) (ri rfl (λ_=>f2o) ?_)));refine ww (.pointer (some p)) rfl rfl j (λ_ _=>by go_simp) (λ_ _=>by simp[go_sem]) ?_;refine ww (.pointer (some p)) rfl rfl j (λ_ _=>by go_simp) (λ_ _=>by simp[go_sem]) ?_;refine ww (.pointer (some p)) rfl rfl j (λ_ _=>by go_simp) (λ_ _=>by simp[go_sem]) ?_;refine fav (.int .i32 1) #[⟨.cell p,false,false⟩] rfl rfl j (λu hu=>by have:=q u hu;go_simp) (λu hu=>by have:=q u hu;simp[go_sem,this]) (λe he=>by simp at he;subst he;exact⟨.inr (.inl rfl),by simp[vl]⟩) ?_;walk_nrm;refine ri rfl (λ_=>f1o) (ri rfl (λ_=>f4d) (ri rfl (λ_=>f2o) ?_));refine ww (.pointer (some p)) rfl rfl j (λ_ _=>by go_simp) (λ_ _=>by simp[go_sem]) ?_;refine faq (p:=p) rfl rfl Tryz.underlying172 Tryz.room62 (λu hu=>⟨_,q u hu⟩) rfl rfl j ?_;refine fe4 ⟨.mark (.releaseMerge p),false,true⟩ (.inr (.inr rfl)) rfl (λu _=>f4t .releaseMerge fi rfl rfl j rfl Tryz.func97 fd fd fd fd (by simp[Act.put,Act.eval])) ?_;walk_nrm;refine ri rfl (λ_=>f1o) (ri rfl (λ_=>f2o) ?_);refine i8 .disable fi (.inl rfl) rfl rfl j rfl Tryz.func61 fd fd fd fd ?_;walk_nrm;refine ri rfl (λ_=>f1o) (ri rfl (λ_=>f4d) (ri rfl (λ_=>f2o) ?_));refine ww (.pointer (some p)) rfl rfl j (λ_ _=>by go_simp) (λ_ _=>by simp[go_sem]) ?_;refine ww (.pointer (some p)) rfl rfl j (λ_ _=>by go_simp) (λ_ _=>by simp[go_sem]) ?_;refine ww (.pointer (some p)) rfl rfl j (λ_ _=>by go_simp) (λ_ _=>by simp[go_sem]) ?_;have e0:IntKind.i32.wrap (1+ -1)=0:=by decide
 have I: ∀x y t,((wgw b w x y).at t).frozen? p=false:=λx y t=>by
    have:((wgw b w x y).at t).frozen? p=(wgw b w x y).frozen? p:=rfl;rw[this,foc];exact hz
 refine ug (om_step (w':=w.setCell p (.int .i32 0)) (es:=#[⟨.cell p,false,true⟩,⟨.cell p,true,true⟩]) rfl (λx y t=>(stepG_add_atomic (v:=1) (d:= -1) rfl rfl j rfl Tryz.func98 fd fd fd .i32 fd rfl rfl (q _ ⟨x,y,t,rfl⟩) (I x y t)).trans (by
  rw[e0,fbn,fbn,fla (w:=w.at t) B hv];rfl))
    (fh2 hv hS) (λe he=>by simp at he;rcases he with rfl|rfl <;>exact fu8 J A jy _ _) ?_)
 walk_nrm;refine fl9 (E:=EvU p) (λe he=>fr3 A jy he) ?_;refine ww (.int .i32 0) rfl rfl j (λ_ _=>by go_simp) (λ_ _=>by simp[go_sem]) ?_;walk_nrm;refine ri rfl (λ_=>f1o) (ri rfl (λ_=>f4d) (ri rfl (λ_=>f4d) (ri rfl (λ_=>f2o) ?_)));refine ww (.int .i32 0) rfl rfl j (λ_ _=>by go_simp) (λ_ _=>by simp[go_sem]) ?_;refine ww (.bool false) rfl rfl j (λ_ _=>by go_simp) (λ_ _=>by simp[go_sem]) ?_;walk_nrm;refine ri rfl (λ_=>f1o) (ri rfl (λ_=>stepG_cond (t:=false) rfl) (ri rfl (λ_=>stepG_skip) (ri rfl (λ_=>f2o) ?_)));refine i8 .enable fi (.inl rfl) rfl rfl j rfl Tryz.func63 fd fd fd fd ?_;walk_nrm;refine ri rfl (λ_=>f1o) (ri rfl (λ_=>f4e) (faa hk rfl Tryz.func58 (f2z Tryz.results58 _) (ug ?_)));exact h
end
end Go.Proofs.YtelecjnabeokeaaGreatDoor
namespace Go.Proofs.YtelecjnabeokeaaGreatDoor
open Go Go.Conc
open Go.ConcN (sumTo upd sumTo_upd upd_ne upd_same RelBy le_sumTo)
def fax (b:Nat) (Shun:Loc->Prop):Loc->Prop:=λl=>Shun l\/l=.cell (stC b)\/l=.cell (smC b)
open Classical in
noncomputable def RB (S:Nat->Option SeatD):Nat->Nat:=λi=>if S i=none then (if i=0 then 0 else 1) else 8
section
variable {P:Program} {b:Nat} {Shun:Loc->Prop} {St:Nat->Loc->Prop} {S:Nat->Option SeatD} {q:Nat->Nat} {a:Goroutine} {T:Trace} {gs:Array Goroutine} {w:World}
def RB_le (S:Nat->Option SeatD) (i:Nat):RB S i<=1\/RB S i=8:=by
 unfold RB;split
 ·split <;>simp
 ·simp
def fr5 (C:Hold P St Shun u5 S 0 a T gs w q) (hs:HasS b w) (J: ∀i s,S i=some s->s.D b=none/\s.c≠b) (A: ∀g,¬St g (.cell (stC b))/\ ¬St g (.cell (smC b)))
    (j: ∀i s,S i=some s-> ∀g2,s.home g2-> ∃m,WB P (WgLv b) (AtRel P b) m (Go.Conc.served g2 (recvd s.ok s.z false)) 0):
    Bye P b (fax b Shun) St (λi=>S i≠none) T.size S (RB S) q a T gs w:=by
 refine⟨λi g hi hg=>?_,C.here,?_,C.crew.rows,C.crew.keeps,J,C.crew.inj,C.crew.low,C.crew.above,hs,⟨.inr (.inl rfl),.inr (.inr rfl)⟩,λk hk e=>?_,fx8 _,j,C.none,?_⟩
 ·have hid:=C.crew.idle i g hi hg;cases e:S i with
  | none=>
    rw[e] at hid;have:RB S i=1:=by unfold RB;rw[f02 e,fx9 hi]
    rw[this];exact .out (λh=>absurd e h) hid.2
  | some s=>
    rw[e] at hid;have:RB S i=8:=by unfold RB;rw[fx9 pb]
    rw[this];obtain⟨k,hk⟩:=C.crew.chans i s e;have I:(i==0)=false:=by simp[hi]
    have hid:Sits P (i==0) (Keeps s.D) (St i) s.B s.seat (q i) g:=hid;rw[I] at hid;exact .sit hid hk (C.crew.hear i s e)
 ·refine⟨C.past.clean,λi t ht hm=>?_,C.past.wrote,λg l hs=>?_,C.past.hears,C.past.seen⟩
  ·rcases C.past.known i t ht hm with h|h|⟨h1,h2⟩
   ·exact .inl h
   ·exact .inr (.inl h)
   ·exact .inr (.inr ⟨.inl h1,h2⟩)
  ·rintro(h|rfl|rfl)
   ·exact C.past.apart g l hs h
   ·exact(A g).1 hs
   ·exact(A g).2 hs
 ·have:=lt_of_act? e;omega
 ·unfold RB;rw[f02 C.none];simp
def VC_row {n j0 m:Nat} (h: ∀i,i<n->(S i≠none↔j0<=i/\i<j0+m)) (hn:j0+m<=n):VC n (RB S)=m:=by
 have hc: ∀i,i<n->cntR (RB S i)=if j0<=i/\i<j0+m then 1 else 0:=λi hi=>by
    unfold cntR RB;by_cases e:S i=none
    ·rw[f02 e,fx9 (λhh=>(h i hi).2 hh e)];by_cases e0:i=0
     ·rw[f02 e0];simp
     ·rw[fx9 e0];simp
    ·rw[fx9 e,f02 ((h i hi).1 e)];simp
 have key: ∀k,k<=n->sumTo k (λi=>cntR (RB S i))=min (k-j0) m:=by
    intro k
    induction k with
    | zero=>intro _;simp[sumTo]
    | succ k ih=>
      intro hk;show sumTo k (λi=>cntR (RB S i))+cntR (RB S k)=_;rw[ih fe,hc k fe];split <;>omega
 show sumTo n (λi=>cntR (RB S i))=m;rw[key n (fx8 _)];omega
end
end Go.Proofs.YtelecjnabeokeaaGreatDoor
namespace Go.Proofs.YtelecjnabeokeaaGreatDoor
open Go Go.Conc Go.RowKit
noncomputable def ffb:Code:=match Tryz.f12.body with|some (.seq _ (.seq _ (.seq _ (.seq _ c))))=>c|_=>.skip
section
variable {main:Bool} {H:Hide} {Shun:Loc->Prop} {Φ:Goroutine->World->Nat->Prop} {w w1:World} {n:Nat} {X:Frame} {cs:List Frame} {k:List Item} {a:Act} {ops:Array Oper} {i:Nat} {rest:List Nat} {o:Oper}
def flb {fr:Frame} {f:FuncId} {fn:Func} {c:Code} {args:Array Operand} {A:Array TypeId} (ho:ops[i]? =some o) (hw:Region.wanted o (yielded ops a.tmps)=true) (hk:fr.kind≠ .early) (q:o.op=.call { callee:=.value (.func f),args:=args,argTypes:=A })
    (hf:Tryz.prog.funcs[f]? =some fn) (j:(fn.name== "runtime.NumGoroutine")=false) (hb:fn.body=some c) (h:OG Tryz.prog main H Shun Φ (G (Frame.enter Tryz.prog f (args.map a.eval) .normal) (fr.at a (.inRegion ops (i::rest)::k)::cs)) w n):
    OG Tryz.prog main H Shun Φ (G (fr.at a (.inRegion ops (i::rest)::k)) cs) w n:=io rfl (λu=>by
 have m:fn.body.isNone=false:=by rw[hb];rfl
 rw[stepG_enter ho hw hk (run_call_body q hf j m)];have:listed Tryz.prog fr.fn a o u=#[]:=by unfold listed;rw[events_call_body q hf j m];exact seen_none Tryz.prog _
 rw[this]) h
def fu9 {b:Nat} {c:Array Value} {e:TypeId} (hH:H b=none) (hb:w.heap[b]? =some (.cells c e (0,0))) (h0:c[0]? =some (.int .i32 0)) (h5:c[5]? =some (.bool false))
    (h: ∀T:Array Value,T.size=43->T[0]? =some (.pointer (some ⟨b,0,none⟩))->OG Tryz.prog main H Shun Φ (G ((base 12).at ⟨T,[dcall 26 #[.pointer (some ⟨b,0,none⟩)]]⟩ [.code ffb]) (X::cs)) ((w.setCell ⟨b,0,none⟩ (.int .i32 1)).setCell ⟨b,5,none⟩ (.bool true)) n):
    OG Tryz.prog main H Shun Φ (G (Frame.enter Tryz.prog 12 #[.pointer (some ⟨b,0,none⟩)] .normal) (X::cs)) w n:=by
 have hlt:b<w.heap.size:=(fx5.1 hb).1;have D:w.cell? ⟨b,0,none⟩=some (.int .i32 0):=by simp[World.cell?,hb,h0]
 have hz: ∀o,w.frozen? ⟨b,o,none⟩=false:=λo=>by simp[World.frozen?,hb]
 rw[enter_at Tryz.func12 rfl];simp only[show Tryz.f12.ntmps=43 from rfl];walk_nrm;refine uv (rm ?_);simp only[szs];refine ov (.pointer (some ⟨b,0,none⟩)) w ?_;walk_nrm;refine ov (.pointer (some ⟨b,0,none⟩)) w ?_;walk_nrm;refine ov (.pointer (some ⟨b,0,none⟩)) w ?_;walk_nrm;refine flb rfl rfl gh rfl Tryz.func25 fd rfl ?_;rw[enter_at Tryz.func25 rfl];simp only[show Tryz.f25.ntmps=6 from rfl];walk_nrm;refine rm ?_;simp only[szs];refine ov (.pointer (some ⟨b,0,none⟩)) w ?_;walk_nrm;refine ov (.pointer (some ⟨b,0,none⟩)) w ?_;walk_nrm;refine ov (.pointer (some ⟨b,0,none⟩)) w ?_;walk_nrm;refine flb rfl rfl gh rfl Tryz.func57 fd rfl ?_;refine fqr (p:=⟨b,0,none⟩) (.inl rfl) jh hH D (hz 0) ?_;obtain⟨w2,A⟩: ∃w2,w2=w.setCell ⟨b,0,none⟩ (.int .i32 1):=⟨_,rfl⟩;rw[<- A] at h ⊢;have q:w2.heap[b]? =some (.cells (c.setIfInBounds 0 (.int .i32 1)) e (0,0)):=by rw[A];simp[World.setCell,fy6,hb]
 have m:b<w2.heap.size:=(fx5.1 q).1;have I:w2.cell? ⟨b,5,none⟩=some (.bool false):=by simp[World.cell?,q,h5,fy1]
 have C: ∀o,w2.frozen? ⟨b,o,none⟩=false:=λo=>by simp[World.frozen?,q]
 clear A;simp only[ur,Touch.on,f0e,f0i];walk_nrm;refine u7 (fiu (ze (.inl rfl) rfl Tryz.func25 (f2z Tryz.results25 _) ?_));simp only[ur,Touch.on,f0e,f0i];walk_nrm;refine u7 (uv (rm ?_));simp only[szs];refine ov (.pointer (some ⟨b,0,none⟩)) w2 ?_;walk_nrm;refine ov (.pointer (some ⟨b,0,none⟩)) w2 ?_;walk_nrm;refine ov (.pointer (some ⟨b,0,none⟩)) w2 ?_;walk_nrm;refine io rfl (λ_=>stepG_defer rfl rfl gh rfl) ?_;walk_nrm;refine u7 (uv (uv (rm ?_)));simp only[szs];refine ov (.pointer (some ⟨b,0,none⟩)) w2 ?_;walk_nrm;refine ov (.pointer (some ⟨b,0,none⟩)) w2 ?_;walk_nrm;refine ov (.pointer (some ⟨b,5,none⟩)) w2 ?_;walk_nrm;have j: ∀d,(w2.at d).cell? ⟨b,5,none⟩=some (.bool false):=λd=>I;refine qz (x:=.bool false) (w1:=w2) rfl rfl gh (λd=>by have:=j d;go_simp) (fx8 _) (λ_ _=>rfl) (λd e he=>by simp[go_sem,j] at he;subst he;exact⟨xh hH m _ _,by simp[vl]⟩) ?_;walk_nrm;refine u7 (xl (t:=false) rfl (oa (uv (rm ?_))));simp only[szs];refine ov (.pointer (some ⟨b,0,none⟩)) w2 ?_;walk_nrm;refine ov (.pointer (some ⟨b,0,none⟩)) w2 ?_;walk_nrm;refine ov (.pointer (some ⟨b,5,none⟩)) w2 ?_;walk_nrm;obtain⟨s1,s2⟩:=ai (w:=w2) (p:=⟨b,5,none⟩) hH (.bool true);have B: ∀d,(w2.at d).frozen? ⟨b,5,none⟩=false:=λd=>C 5
 refine fl5 (w1:=w2.setCell ⟨b,5,none⟩ (.bool true)) rfl rfl gh (λd=>by have:=j d;have:=B d;clear h;go_simp;rfl) s1 s2 (λd e he=>by
    simp[go_sem,B,j] at he;rw[events_store Tryz.prog (w2.at d) #[] ⟨b,5,none⟩ (.bool true) .plain rfl] at he;simp[storedEv,B,j] at he;subst he;exact⟨xh hH (by simpa[World.setCell] using m) _ _,by simp[vl]⟩) ?_
 walk_nrm;refine u7 ?_;exact h _ rfl rfl
end
open Go.Conc.Lib Go.ConcR.Gen
def fe9 (T:Array Value) (h:T.size=43): ∃v0 v1 v2 v3 v4 v5 v6 v7 v8 v9 C W aF aB J Y ac O aE aA ak R ap U ah X aG aD A m D q aa ab ad aH an I M B aC j ae:Value,T=#[v0,v1,v2,v3,v4,v5,v6,v7,v8,v9,C,W,aF,aB,J,Y,ac,O,aE,aA,ak,R,ap,U,ah,X,aG,aD,A,m,D,q,aa,ab,ad,aH,an,I,M,B,aC,j,ae]:=by
 obtain⟨l⟩:=T;simp only[f3s] at h;rcases l with _|⟨v0,l⟩
 ·simp at h
 rcases l with _|⟨v1,l⟩
 ·simp at h
 rcases l with _|⟨v2,l⟩
 ·simp at h
 rcases l with _|⟨v3,l⟩
 ·simp at h
 rcases l with _|⟨v4,l⟩
 ·simp at h
 rcases l with _|⟨v5,l⟩
 ·simp at h
 rcases l with _|⟨v6,l⟩
 ·simp at h
 rcases l with _|⟨v7,l⟩
 ·simp at h
 rcases l with _|⟨v8,l⟩
 ·simp at h
 rcases l with _|⟨v9,l⟩
 ·simp at h
 rcases l with _|⟨C,l⟩
 ·simp at h
 rcases l with _|⟨W,l⟩
 ·simp at h
 rcases l with _|⟨aF,l⟩
 ·simp at h
 rcases l with _|⟨aB,l⟩
 ·simp at h
 rcases l with _|⟨J,l⟩
 ·simp at h
 rcases l with _|⟨Y,l⟩
 ·simp at h
 rcases l with _|⟨ac,l⟩
 ·simp at h
 rcases l with _|⟨O,l⟩
 ·simp at h
 rcases l with _|⟨aE,l⟩
 ·simp at h
 rcases l with _|⟨aA,l⟩
 ·simp at h
 rcases l with _|⟨ak,l⟩
 ·simp at h
 rcases l with _|⟨R,l⟩
 ·simp at h
 rcases l with _|⟨ap,l⟩
 ·simp at h
 rcases l with _|⟨U,l⟩
 ·simp at h
 rcases l with _|⟨ah,l⟩
 ·simp at h
 rcases l with _|⟨X,l⟩
 ·simp at h
 rcases l with _|⟨aG,l⟩
 ·simp at h
 rcases l with _|⟨aD,l⟩
 ·simp at h
 rcases l with _|⟨A,l⟩
 ·simp at h
 rcases l with _|⟨m,l⟩
 ·simp at h
 rcases l with _|⟨D,l⟩
 ·simp at h
 rcases l with _|⟨q,l⟩
 ·simp at h
 rcases l with _|⟨aa,l⟩
 ·simp at h
 rcases l with _|⟨ab,l⟩
 ·simp at h
 rcases l with _|⟨ad,l⟩
 ·simp at h
 rcases l with _|⟨aH,l⟩
 ·simp at h
 rcases l with _|⟨an,l⟩
 ·simp at h
 rcases l with _|⟨I,l⟩
 ·simp at h
 rcases l with _|⟨M,l⟩
 ·simp at h
 rcases l with _|⟨B,l⟩
 ·simp at h
 rcases l with _|⟨aC,l⟩
 ·simp at h
 rcases l with _|⟨j,l⟩
 ·simp at h
 rcases l with _|⟨ae,l⟩
 ·simp at h
 obtain rfl:l=[]:=f1a f7k;exact⟨v0,v1,v2,v3,v4,v5,v6,v7,v8,v9,C,W,aF,aB,J,Y,ac,O,aE,aA,ak,R,ap,U,ah,X,aG,aD,A,m,D,q,aa,ab,ad,aH,an,I,M,B,aC,j,ae,rfl⟩
structure StopW (b sb ab n cp c0:Nat) (kb ch:Nat->Nat) (w:World):Prop where
 ses: ∃c e,w.heap[b]? =some (.cells c e (0,0))/\c.size=8/\c[0]? =some (.int .i32 1)/\c[2]? =some (.slice (some ⟨ab,0,none⟩) n cp)/\c[3]? =some (.pointer (some ⟨sb,0,none⟩))
 srv:w.cell? ⟨sb,5,none⟩=some (.chan (some c0))
 cl: ∀i,i<n->w.cell? ⟨ab,i,none⟩=some (.pointer (some ⟨kb i,0,none⟩))/\w.cell? ⟨kb i,10,none⟩=some (.chan (some (ch i)))
 apart:sb≠b/\ab≠b/\ ∀i,i<n->kb i≠b
 small:n<4611686018427387904
def fea (b:Nat) (w:World) (c:Nat) (Next:Goroutine->Prop) (g:Goroutine) (w':World) (d:Nat):Prop:=
 w'=w/\d=0/\g.status=.running/\mayWake Tryz.prog g=true/\ ∃g',(∀k,w.heap[c]? =some (.chan 0 #[] false k k false)-> ∀x y t,stepG Tryz.prog true g ((wgw b w x y).at t)=.go g' ((wgw b (vv w c k) x y).at t) (closeEvents c))/\
    g'.status=.running/\Next g'
abbrev ffw (b:Nat):List Deferred:=[dcall 26 #[.pointer (some ⟨b,0,none⟩)]]
noncomputable def flc:Code:=match ffb with | .seq _ c=>c|_=>.skip
noncomputable def z0a:Code:=match flc with | .seq (.seq _ (.block _ (.loop c))) _=>c|_=>.skip
noncomputable def fr6:Code:=match flc with | .seq _ c=>c|_=>.skip
noncomputable def stop9:Code:=match z0a with | .seq _ (.seq _ (.seq _ c))=>c|_=>.skip
def fh3 (b:Nat) (cs:List Frame) (g:Goroutine):Prop:= ∃(T:Array Value) (ops:Array Oper),g=G ((base 12).at ⟨T,ffw b⟩ [.inRegion ops [],.code flc]) cs/\T.size=43/\T[0]? =some (.pointer (some ⟨b,0,none⟩))
def fab (b ab n cp i:Nat) (cs:List Frame) (g:Goroutine):Prop:= ∃T:Array Value,g=G ((base 12).at ⟨T,ffw b⟩ [.code z0a,.inLoop z0a,.inBlock 0,.code fr6]) cs/\
 T.size=43/\T[0]? =some (.pointer (some ⟨b,0,none⟩))/\T[28]? =some (.slice (some ⟨ab,0,none⟩) n cp)/\T[29]? =some (.int .i64 n)/\T[30]? =some (.int .i64 i)
def fh4 (b ab n cp i:Nat) (cs:List Frame) (g:Goroutine):Prop:= ∃(T:Array Value) (ops:Array Oper),g=G ((base 12).at ⟨T,ffw b⟩ [.inRegion ops [],.inBlock 1,.code stop9,.inLoop z0a,.inBlock 0,.code fr6]) cs/\
 T.size=43/\T[0]? =some (.pointer (some ⟨b,0,none⟩))/\T[28]? =some (.slice (some ⟨ab,0,none⟩) n cp)/\T[29]? =some (.int .i64 n)/\T[30]? =some (.int .i64 i)
def EvR (Shun:Loc->Prop) (w:World) (e:Event):Prop:= ∃p:Addr,e=⟨.cell p,false,false⟩/\ ¬Shun (.cell p)/\p.block<w.heap.size
section
variable {b sb ab n cp c0:Nat} {kb ch:Nat->Nat} {Shun:Loc->Prop} {St:Nat->Loc->Prop} {S:Nat->Option SeatD} {w:World} {cs:List Frame} {Ψ:Goroutine->World->Nat->Prop}
def fje {p:Addr} {v:Value} (h:((wgw b w 0 0).at 0).cell? p=some v):p.block<w.heap.size:=by
 have:=zq h;rwa[show((wgw b w 0 0).at 0).heap.size=w.heap.size from fgx] at this
def fua {e:Event} (h:EvR Shun w e):EvM Shun St w.heap.size e:=by
 obtain⟨p,rfl,h1,h2⟩:=h;exact fw2 h1 h2 false
def fle {c k:Nat} {x y:Int} {t:Nat} (h:c≠b):((wgw b w x y).at t).setChan c 0 #[] true k k false=(wgw b (vv w c k) x y).at t:=by
 rw[fbn,fbn];unfold World.setChan wgw vv;simp only[f5a,f2i,true_and,World.at];apply f0v;intro i;simp only[fy6,fy1,f5u];by_cases e:c=i
 ·subst e;simp only[f0e,fx9 (f3w h)]
 ·simp only[fx9 e]
def StopW.at2 (Z:StopW b sb ab n cp c0 kb ch w): ∀u,KW b w u->u.cell? ⟨b,2,none⟩=some (.slice (some ⟨ab,0,none⟩) n cp):=λu hu=>by
 obtain⟨c,e,h,_,_,h2,_⟩:=Z.ses;rw[faw (.inr ⟨by simp,by simp⟩) rfl hu];simp[World.cell?,h,h2]
def StopW.at3 (Z:StopW b sb ab n cp c0 kb ch w): ∀u,KW b w u->u.cell? ⟨b,3,none⟩=some (.pointer (some ⟨sb,0,none⟩)):=λu hu=>by
 obtain⟨c,e,h,_,_,_,h3⟩:=Z.ses;rw[faw (.inr ⟨by simp,by simp⟩) rfl hu];simp[World.cell?,h,h3]
def StopW.atS (Z:StopW b sb ab n cp c0 kb ch w): ∀u,KW b w u->u.cell? ⟨sb,5,none⟩=some (.chan (some c0)):=λu hu=>by
 rw[faw (.inl Z.apart.1) rfl hu];exact Z.srv
def StopW.atA (Z:StopW b sb ab n cp c0 kb ch w) {i:Nat} (hi:i<n): ∀u,KW b w u->u.cell? ⟨ab,i,none⟩=some (.pointer (some ⟨kb i,0,none⟩)):=λu hu=>by
 rw[faw (.inl Z.apart.2.1) rfl hu];exact(Z.cl i hi).1
def StopW.atK (Z:StopW b sb ab n cp c0 kb ch w) {i:Nat} (hi:i<n): ∀u,KW b w u->u.cell? ⟨kb i,10,none⟩=some (.chan (some (ch i))):=λu hu=>by
 rw[faw (.inl (Z.apart.2.2 i hi)) rfl hu];exact(Z.cl i hi).2
def fh5:(Tryz.prog.funcs[12]?).any (·.norace)=false:=by rw[Tryz.func12];rfl
def ffx {ops:Array Oper} {i:Nat} {rest:List Nat} {o:Oper} {a:Act} {kk:List Item} {c k t:Nat} {x y:Int} {z:Operand} {A:Array TypeId} (ho:ops[i]? =some o) (hw:Region.wanted o (yielded ops a.tmps)=true) (m:o.op=.call { callee:=.builtin .close,args:=#[z],argTypes:=A }) (hx:a.eval z=.chan (some c))
    (j:c≠b) (hk:w.heap[c]? =some (.chan 0 #[] false k k false)):stepG Tryz.prog true (G ((base 12).at a (.inRegion ops (i::rest)::kk)) cs) ((wgw b w x y).at t)=.go (G ((base 12).at (a.put o.dst (.tuple #[])) (.inRegion ops rest::kk)) cs) ((wgw b (vv w c k) x y).at t) (closeEvents c):=by
 have q:((wgw b w x y).at t).heap[c]? =some (.chan 0 #[] false k k false):=by
    show(wgw b w x y).heap[c]? =_;rw[yz j];exact hk
 rw[stepG_close ho hw gh m hx q fh5,fle j]
def om_st4 (Z:StopW b sb ab n cp c0 kb ch w) (hN: ∀p:Addr,(p.block=b/\p.off<6)\/p.block=sb\/p.block=ab\/(∃i,i<n/\p.block=kb i)-> ¬Shun (.cell p)) (hc:c0≠b) {T:Array Value} (hT:T.size=43) (h0:T[0]? =some (.pointer (some ⟨b,0,none⟩))):
    ∃m,OM Tryz.prog b Shun St S (fea b w c0 (fh3 b cs)) m (G ((base 12).at ⟨T,ffw b⟩ [.code ffb]) cs) w 0:=by
 obtain⟨v0,v1,v2,v3,v4,v5,v6,v7,v8,v9,D,X,aH,aD,M,aa,ae,O,aG,aC,ap,R,aB,U,an,Y,aI,aF,B,q,I,A,ac,ad,ah,aJ,aA,J,W,C,aE,j,ak,rfl⟩:=fe9 T hT;simp only[fy2,fx7,f03] at h0;subst h0;unfold ffb;simp only[Tryz.f12];refine fl9 (E:=EvR Shun w) (λe he=>fua he) ?_;refine wq (wr ?_);simp only[szs];(iterate 2 refine wv (.pointer (some ⟨b,0,none⟩)) ?_;walk_nrm);refine wv (.pointer (some ⟨b,3,none⟩)) ?_;walk_nrm;refine fav (.pointer (some ⟨sb,0,none⟩)) #[⟨.cell ⟨b,3,none⟩,false,false⟩] rfl rfl gh (λu hu=>by have:=Z.at3 u hu;go_simp) (λu hu=>by have:=Z.at3 u hu;simp[go_sem,this]) (λe he=>by simp at he;subst he;exact⟨⟨_,rfl,hN _ jf,fje (Z.at3 _ ⟨0,0,0,rfl⟩)⟩,by simp[vl]⟩) ?_;walk_nrm;refine wv (.pointer (some ⟨sb,0,none⟩)) ?_;walk_nrm;refine wv (.pointer (some ⟨sb,5,none⟩)) ?_;walk_nrm;refine fav (.chan (some c0)) #[⟨.cell ⟨sb,5,none⟩,false,false⟩] rfl rfl gh (λu hu=>by have:=Z.atS u hu;go_simp) (λu hu=>by have:=Z.atS u hu;simp[go_sem,this]) (λe he=>by simp at he;subst he;exact⟨⟨_,rfl,hN _ jf,fje (Z.atS _ ⟨0,0,0,rfl⟩)⟩,by simp[vl]⟩) ?_;walk_nrm;refine ug ⟨0,rfl,rfl,rfl,rfl,_,λk hk x y t=>ffx rfl rfl rfl rfl hc hk,rfl,⟨_,_,rfl,rfl,rfl⟩⟩
def om_st5 {g:Goroutine} (Z:StopW b sb ab n cp c0 kb ch w) (hN: ∀p:Addr,(p.block=b/\p.off<6)\/p.block=sb\/p.block=ab\/(∃i,i<n/\p.block=kb i)-> ¬Shun (.cell p)) (hg:fh3 b cs g):
    WKE Tryz.prog true (KW b w) (EvR Shun w) (λg d=>d=0/\fab b ab n cp 0 cs g) g 0:=by
 obtain⟨T,ops,rfl,hT,h0⟩:=hg;obtain⟨v0,v1,v2,v3,v4,v5,v6,v7,v8,v9,C,W,aG,aC,J,Y,ad,M,aF,aB,an,O,aA,U,ak,X,aH,aE,A,m,D,q,aa,ac,ae,aI,ap,I,R,B,aD,j,ah,rfl⟩:=fe9 T hT;simp only[fy2,fx7,f03] at h0;subst h0;unfold flc ffb;simp only[Tryz.f12];refine we (wq ?_);refine wq (wr ?_);simp only[szs];(iterate 2 refine wv (.pointer (some ⟨b,0,none⟩)) ?_;walk_nrm);refine wv (.pointer (some ⟨b,2,none⟩)) ?_;walk_nrm;refine fav (.slice (some ⟨ab,0,none⟩) n cp) #[⟨.cell ⟨b,2,none⟩,false,false⟩] rfl rfl gh (λu hu=>by have:=Z.at2 u hu;go_simp) (λu hu=>by have:=Z.at2 u hu;simp[go_sem,this]) (λe he=>by simp at he;subst he;exact⟨⟨_,rfl,hN _ jf,fje (Z.at2 _ ⟨0,0,0,rfl⟩)⟩,by simp[vl]⟩) ?_;walk_nrm;refine wv (.int .i64 n) ?_;walk_nrm;refine wv (.int .i64 0) ?_;walk_nrm;refine we ?_;refine ri rfl (λ_=>f5i) ?_;refine ri rfl (λ_=>stepG_loop) ?_;exact ug ⟨rfl,_,rfl,rfl,rfl,rfl,rfl,rfl⟩
def om_head {i:Nat} {g:Goroutine} (Z:StopW b sb ab n cp c0 kb ch w) (hN: ∀p:Addr,(p.block=b/\p.off<6)\/p.block=sb\/p.block=ab\/(∃i,i<n/\p.block=kb i)-> ¬Shun (.cell p)) (hi:i<n) (hc:ch i≠b) (hg:fab b ab n cp i cs g):
    ∃m,OM Tryz.prog b Shun St S (fea b w (ch i) (fh4 b ab n cp i cs)) m g w 0:=by
 obtain⟨T,rfl,hT,h0,j,A,q⟩:=hg;obtain⟨v0,v1,v2,v3,v4,v5,v6,v7,v8,v9,M,ac,aK,aG,U,ae,an,W,aJ,aF,aC,X,aE,Y,aB,ad,aL,aI,I,B,O,D,ah,ak,ap,aM,aD,R,aa,J,aH,C,aA,rfl⟩:=fe9 T hT;simp only[fy2,fx7,fy0,f03] at h0 j A q;subst h0;subst j;subst A;subst q;unfold z0a flc ffb;simp only[Tryz.f12];refine fl9 (E:=EvR Shun w) (λe he=>fua he) ?_;refine wq (wr ?_);simp only[szs];refine ww (.bool true) rfl rfl gh (λ_ _=>by go_simp;try omega) (λ_ _=>by simp[go_sem];try omega) ?_;walk_nrm;refine we (wq ?_);refine wt ?_;refine ws (wq ?_);refine ri rfl (λ_=>f5i) ?_;refine wq (wr ?_);simp only[szs];refine ww (.pointer (some ⟨ab,i,none⟩)) rfl rfl gh (λ_ _=>by go_simp;try (simp[Addr.add];omega)) (λu _=>by simp[go_sem];exact events_indexAt_slice (P:=Tryz.prog) (w:=u) (es:=#[]) 65 ⟨ab,0,none⟩ n cp .i64 i fd ⟨by omega,by omega⟩) ?_;walk_nrm;refine fav (.pointer (some ⟨kb i,0,none⟩)) #[⟨.cell ⟨ab,i,none⟩,false,false⟩] rfl rfl gh (λu hu=>by have:=(Z.atA hi) u hu;go_simp) (λu hu=>by have:=(Z.atA hi) u hu;simp[go_sem,this]) (λe he=>by simp at he;subst he;exact⟨⟨_,rfl,hN _ jf,fje ((Z.atA hi) _ ⟨0,0,0,rfl⟩)⟩,by simp[vl]⟩) ?_;walk_nrm;refine wv (.pointer (some ⟨kb i,0,none⟩)) ?_;walk_nrm;refine we (wr ?_);simp only[szs];(iterate 2 refine wv (.pointer (some ⟨kb i,0,none⟩)) ?_;walk_nrm);refine wv (.pointer (some ⟨kb i,10,none⟩)) ?_;walk_nrm;refine fav (.chan (some (ch i))) #[⟨.cell ⟨kb i,10,none⟩,false,false⟩] rfl rfl gh (λu hu=>by have:=(Z.atK hi) u hu;go_simp) (λu hu=>by have:=(Z.atK hi) u hu;simp[go_sem,this]) (λe he=>by simp at he;subst he;exact⟨⟨_,rfl,hN _ jf,fje ((Z.atK hi) _ ⟨0,0,0,rfl⟩)⟩,by simp[vl]⟩) ?_;walk_nrm;refine ug ⟨0,rfl,rfl,rfl,rfl,_,λk hk x y t=>ffx rfl rfl rfl rfl hc hk,rfl,⟨_,_,rfl,rfl,rfl,rfl,rfl,rfl⟩⟩
def fub {i:Nat} {g:Goroutine} (Z:StopW b sb ab n cp c0 kb ch w) (hi:i<n) (hg:fh4 b ab n cp i cs g):
    WKE Tryz.prog true (KW b w) (EvR Shun w) (λg d=>d=0/\fab b ab n cp (i+1) cs g) g 0:=by
 obtain⟨T,ops,rfl,hT,h0,j,q,m⟩:=hg;obtain⟨v0,v1,v2,v3,v4,v5,v6,v7,v8,v9,J,aa,aJ,aF,R,ad,ak,U,aI,aE,aB,W,aD,Y,aA,ac,aK,aH,D,A,M,C,ae,ah,an,aL,aC,O,X,I,aG,B,ap,rfl⟩:=fe9 T hT;simp only[fy2,fx7,fy0,f03] at h0 j q m;subst h0;subst j;subst q;subst m;unfold stop9 z0a flc ffb;simp only[Tryz.f12];refine we ?_;refine ri rfl (λ_=>stepG_inBlock) ?_;refine wr ?_;simp only[szs];refine ww (.int .i64 (i+1:Nat)) rfl rfl gh (λ_ _=>by go_simp;try (have:=hi;have:=Z.small;simp[f3h];omega)) (λ_ _=>by simp[go_sem];try (have:=hi;have:=Z.small;simp[f3h];omega)) ?_;walk_nrm;refine wv (.int .i64 (i+1:Nat)) ?_;walk_nrm;refine we ?_;refine ri rfl (λ_=>stepG_inLoop) ?_;exact ug ⟨rfl,_,rfl,rfl,rfl,rfl,rfl,rfl⟩
end
section
variable {b sb ab n cp c0:Nat} {kb ch:Nat->Nat} {Shun:Loc->Prop} {St St':Nat->Loc->Prop} {S:Nat->Option SeatD} {w:World} {X:Frame} {cs:List Frame}
def fmp {main:Bool} {K:World->Prop} {E:Event->Prop} {Φ:Goroutine->Nat->Prop} {d:Nat} {fr:Frame} {a:Act} {k:List Item} {ops:Array Oper} {i:Nat} {rest:List Nat} {o:Oper} {f:FuncId} {fn:Func} {c:Code} {args:Array Operand} {A:Array TypeId} (ho:ops[i]? =some o) (hw:Region.wanted o (yielded ops a.tmps)=true) (hk:fr.kind≠ .early) (m:o.op=.call { callee:=.value (.func f),args:=args,argTypes:=A })
    (hf:Tryz.prog.funcs[f]? =some fn) (j:(fn.name== "runtime.NumGoroutine")=false) (hb:fn.body=some c) (h:WKE Tryz.prog main K E Φ (G (Frame.enter Tryz.prog f (args.map a.eval) .normal) (fr.at a (.inRegion ops (i::rest)::k)::cs)) d):
    WKE Tryz.prog main K E Φ (G (fr.at a (.inRegion ops (i::rest)::k)) cs) d:=ri rfl (λu=>by
 have q:fn.body.isNone=false:=by rw[hb];rfl
 rw[stepG_enter ho hw hk (run_call_body m hf j q)];have:listed Tryz.prog fr.fn a o u=#[]:=by unfold listed;rw[events_call_body m hf j q];exact seen_none Tryz.prog _
 rw[this]) h
def flf (b:Nat) (X:Frame) (cs:List Frame) (w:World) (g:Goroutine) (w':World) (d:Nat):Prop:=g=G (ur .normal (.tuple #[]) X) cs/\w'=w.setCell ⟨b,0,none⟩ (.int .i32 0)/\d=0
def fh6 (b:Nat) (Shun:Loc->Prop) (St St':Nat->Loc->Prop) (S:Nat->Option SeatD) (Φ:Goroutine->World->Nat->Prop) (w:World) (g:Goroutine) (d:Nat):Prop:=
 ∃Anch:Goroutine->World->Nat->Prop,(∃m,OM Tryz.prog b Shun St S (AtW1 Tryz.prog b Shun St S (fe2 Tryz.prog b Shun St' Φ) Anch) m g w d)/\
  ∀g w' d,Anch g w' d-> ∃m,OM Tryz.prog b Shun St S (AtW1 Tryz.prog b Shun St S (fe2 Tryz.prog b Shun St' Φ) Anch) m g w' d
def ffy {Φ:Goroutine->World->Nat->Prop} {E:Event->Prop} {g:Goroutine} {d:Nat} (hE: ∀e,E e->EvM Shun St w.heap.size e) (h:WKE Tryz.prog true (KW b w) E (fh6 b Shun St St' S Φ w) g d):fh6 b Shun St St' S Φ w g d:=by
 obtain⟨n,h⟩:=h
 induction n generalizing g d with
 | zero=>exact h
 | succ n ih=>
   rcases h with h|⟨h1,g',es,h2,h3,h4⟩
   ·exact h
   ·obtain⟨Anch,⟨m,hm⟩,hA⟩:=ih h4;exact⟨Anch,⟨m+1,.inr ⟨h1,g',w,es,λx y t=>h3 _ ⟨x,y,t,rfl⟩,f6n w,λe he=>hE e (h2 e he),hm⟩⟩,hA⟩
def om_wait {g:Goroutine} (Z:StopW b sb ab n cp c0 kb ch w) (A:Shun (.cell (stC b))/\Shun (.cell (smC b))) (C: ¬Shun (.cell ⟨b,0,none⟩)) (I: ∀g,¬St' g (.cell ⟨b,0,none⟩)) (hg:fab b ab n cp n (X::cs) g):
    fh6 b Shun St St' S (flf b X cs w) w g 0:=by
 obtain⟨cc,e,hb,hsz,B,_,_⟩:=Z.ses;have hs:HasS b w:=⟨cc,e,hb,hsz⟩;have D:w.cell? ⟨b,0,none⟩=some (.int .i32 1):=by simp[World.cell?,hb,B]
 have hz:w.frozen? ⟨b,0,none⟩=false:=by simp[World.frozen?,hb]
 obtain⟨T,rfl,hT,h0,j,q,m⟩:=hg;obtain⟨v0,v1,v2,v3,v4,v5,v6,v7,v8,v9,W,an,aP,aL,ac,aA,aD,ad,aO,aK,aH,ae,aJ,ah,aG,ap,aQ,aN,R,J,Y,M,aB,aC,aE,aR,aI,aa,ak,U,aM,O,aF,rfl⟩:=fe9 T hT;simp only[fy2,fx7,fy0,f03] at h0 j q m;subst h0;subst j;subst q;subst m;unfold fr6 z0a flc ffb;simp only[Tryz.f12];refine ffy (E:=λ_=>False) (λe he=>he.elim) ?_;refine wq (wr ?_);simp only[szs];refine wv (.bool false) ?_;walk_nrm;refine we (wq ?_);refine wf ?_;refine ri rfl (λ_=>stepG_exit rfl) ?_;refine wr ?_;simp only[szs];(iterate 2 refine wv (.pointer (some ⟨b,0,none⟩)) ?_;walk_nrm);refine wv (.pointer (some (stC b))) ?_;walk_nrm;refine i7 rfl rfl gh rfl Tryz.func28 fd rfl ?_;simp only[show Tryz.f28.ntmps=84 from rfl];walk_nrm;refine ug ⟨_,fob hs A rfl rfl ?_ rfl⟩;walk_nrm;refine fl9 (E:=λ_=>False) (λe he=>he.elim) ?_;refine we ?_;refine ri rfl (λ_=>f4e) ?_;refine ffs (f:=26) rfl Tryz.func26 fd rfl ?_;simp only[show Tryz.f26.ntmps=6 from rfl];walk_nrm;refine wr ?_;simp only[szs];refine wv (.pointer (some ⟨b,0,none⟩)) ?_;(iterate 2 walk_nrm;refine wv (.pointer (some ⟨b,0,none⟩)) ?_);walk_nrm;refine fmp rfl rfl gh rfl Tryz.func58 fd rfl ?_;refine ug (fr4 (p:=⟨b,0,none⟩) (.inl rfl) jh (.inr ⟨by simp,by simp⟩) D hz I C (λ_ _ e=>by cases e) ?_);simp only[ur,Touch.on,f0e,f0i];walk_nrm;refine fl9 (E:=λ_=>False) (λe he=>he.elim) ?_;refine we ?_;refine ri rfl (λ_=>f4e) ?_;refine faa (.inr rfl) rfl Tryz.func26 (f2z Tryz.results26 _) ?_;have e1: ∀(fr:Frame),fr.mode=.returning->ur .deferred (.tuple #[]) fr=fr:=λfr h=>by simp[ur,Touch.on,h]
 have e2:(baseD 26).kind=.deferred:=rfl;rw[e2,e1 _ rfl];refine faa (.inl rfl) rfl Tryz.func12 (f2z Tryz.results12 _) ?_;exact ug ⟨0,rfl,rfl,rfl⟩
end
end Go.Proofs.YtelecjnabeokeaaGreatDoor
namespace Go.Proofs.YtelecjnabeokeaaGreatDoor
open Go Go.Conc Go.Conc.Lib Go.RowKit
open Go.ConcN (sumTo upd sumTo_upd upd_ne upd_same RelBy le_sumTo)
structure Clo (C:Nat->Prop) (w w1:World):Prop where
 size:w1.heap.size=w.heap.size
 os:w1.os=w.os
 output:w1.output=w.output
 same: ∀x,¬C x->w1.heap[x]? =w.heap[x]?
 muted: ∀x,C x-> ∃k,w1.heap[x]? =some (.chan 0 #[] true k k false)
section
variable {b sb ab n cp c0:Nat} {kb ch:Nat->Nat} {Shun:Loc->Prop} {St:Nat->Loc->Prop} {S:Nat->Option SeatD} {w:World} {X:Frame} {cs:List Frame}
def fbs {c k k0 x:Nat} {cc:Array Value} {e:TypeId} {f:Nat×Nat} (hc:w.heap[c]? =some (.chan 0 #[] false k0 k0 false)) (h:w.heap[x]? =some (.cells cc e f)):(vv w c k).heap[x]? =some (.cells cc e f):=by
 rw[zl (λe=>by subst e;rw[hc] at h;cases h)];exact h
def f70 {c k k0:Nat} {p:Addr} {v:Value} (hc:w.heap[c]? =some (.chan 0 #[] false k0 k0 false)) (h:w.cell? p=some v):(vv w c k).cell? p=some v:=by
 unfold World.cell? at h ⊢;split at h
 ·rename_i cc e f hh;rw[fbs hc hh];exact h
 ·cases h
def StopW.close {c k k0:Nat} (Z:StopW b sb ab n cp c0 kb ch w) (hc:w.heap[c]? =some (.chan 0 #[] false k0 k0 false)):StopW b sb ab n cp c0 kb ch (vv w c k):=by
 obtain⟨⟨cc,e,h1,h2⟩,h3,h4,h5,h6⟩:=Z;exact⟨⟨cc,e,fbs hc h1,h2⟩,f70 hc h3,λi hi=>⟨f70 hc (h4 i hi).1,f70 hc (h4 i hi).2⟩,h5,h6⟩
def fr7 (b:Nat) (Shun:Loc->Prop) (St St':Nat->Loc->Prop) (ab n cp:Nat) (ch:Nat->Nat) (X:Frame) (cs:List Frame) (i:Nat) (a:Goroutine) (w:World):Prop:=
 ∀S:Nat->Option SeatD,(i<n-> ∃m,OM Tryz.prog b Shun St S (fea b w (ch i) (fh4 b ab n cp i (X::cs))) m a w 0)/\(i=n->fh6 b Shun St St' S (flf b X cs w) w a 0)
def fmq {St':Nat->Loc->Prop} {i:Nat} {g:Goroutine} (Z:StopW b sb ab n cp c0 kb ch w) (hN: ∀p:Addr,(p.block=b/\p.off<6)\/p.block=sb\/p.block=ab\/(∃i,i<n/\p.block=kb i)-> ¬Shun (.cell p))
    (j:Shun (.cell (stC b))/\Shun (.cell (smC b))) (m: ∀g,¬St' g (.cell ⟨b,0,none⟩)) (hc: ∀i,i<n->ch i≠b)
    (hg:WKE Tryz.prog true (KW b w) (EvR Shun w) (λg d=>d=0/\fab b ab n cp i (X::cs) g) g 0):fr7 b Shun St St' ab n cp ch X cs i g w:=by
 refine λS=>⟨λhi=>fl9 (E:=EvR Shun w) (λe he=>fua he) (hg.mono λg d ⟨hd,h⟩=>ug ?_),λhi=>ffy (E:=EvR Shun w) (λe he=>fua he) (hg.mono λg d ⟨hd,h⟩=>ug ?_)⟩
 ·subst hd;exact om_head Z hN hi (hc i hi) h
 ·subst hd;subst hi;exact om_wait Z j (hN _ (.inl ⟨rfl,by simp⟩)) m h
variable {Wk:Nat->Prop} {k0:Nat}
def flg (b:Nat) (Shun:Loc->Prop) (St:Nat->Loc->Prop) (Wk:Nat->Prop) (X:Frame) (cs:List Frame) (n:Nat) (C:Nat->Prop) (w:World) (gs':Array Goroutine) (u:World) (T':Trace):Prop:=
 ∃w1,Clo C w w1/\Gone Tryz.prog b Shun (StL St Wk) n (flf b X cs w1) gs' u T'
def fmr {jc:Nat->Nat} {sc:Nat->SeatD} (hN: ∀p:Addr,(p.block=b/\p.off<6)\/p.block=sb\/p.block=ab\/(∃i,i<n/\p.block=kb i)-> ¬Shun (.cell p)) (W: ∀l,Shun l-> ∃p,l=.cell p)
    (Y:Shun (.cell (stC b))/\Shun (.cell (smC b))) (aa: ∀g,¬StL St Wk g (.cell ⟨b,0,none⟩)) (hc: ∀i,i<n->ch i≠b) (j: ∀i,i<n->(sc i).c=ch i) (A: ∀i i',i<n->i'<n->jc i=jc i'->i=i'):
    ∀ (r i:Nat),i+r=n-> ∀{S:Nat->Option SeatD} {R q:Nat->Nat} {a:Goroutine} {T:Trace} {gs:Array Goroutine} {w:World} {x y:Int} {d:Nat},
      (∀i,Wk i->i≠0/\i<gs.size)->Bye Tryz.prog b Shun St Wk k0 S R q a T gs w->Md gs.size R false x y->VC gs.size R<2147483647->Deaf T 0=0->StopW b sb ab n cp c0 kb ch w->(∀i',i<=i'->i'<n->S (jc i')=some (sc i')/\R (jc i')=8/\jc i'<gs.size)->(∀k,(∀i',i<=i'->i'<n->k≠jc i')->R k<=7)->
      fr7 b Shun St (StL St Wk) ab n cp ch X cs i a w->Leads Tryz.prog (flg b Shun St Wk X cs gs.size (λx=> ∃i',i<=i'/\i'<n/\x=ch i') w) gs ((wgw b w x y).at d) T
 | 0,i,ap,S,R,q,a,T,gs,w,x,y,d,I,C,M,hb,hD,Z,D,B,hp=>by
   obtain⟨Anch,⟨m,hm⟩,hA⟩:=(hp S).2 fe;refine(bye_all hA (λ_ _ h=>h) I C (λk=>B k λi' h1 h2=>by omega) M hb pa).mono λgs' u T' h=>⟨w,⟨rfl,rfl,rfl,λ_ _=>rfl,λx ⟨i',h1,h2,_⟩=>by omega⟩,h⟩
 | r + 1,i,ap,S,R,q,a,T,gs,w,x,y,d,I,C,M,hb,hD,Z,D,B,hp=>by
   have hi:i<n:=by omega
   obtain⟨m,hm⟩:=(hp S).1 hi;refine(fe0 (Φ:=fea b w (ch i) (fh4 b ab n cp i (X::cs))) (S0:=S) (d:=d) m (λ_ _ h=>h) C M hb pa).trans λaB u1 T1 ⟨S1,R1,q1,a1,w1,x1,y1,d1,e1,e2,e3,e4,e5,e6,e7⟩=>?_;obtain⟨rfl,ae,hrun,ak,g',U,J,O⟩:=e6;subst e1;obtain⟨h1,h2,h3⟩:=D i (fx8 _) hi;have h4:=e7.2.1 _ h2;have ad:S1 (jc i)=some (sc i):=h4.2.trans h1;refine(fj0 (a':=g') (d:=d1) e3 pq (by rw[e2];exact e5) hrun J h4.1 (by rw[e2];exact h3) ad W ak ae (λk hk=>?_)).trans λac u2 T2 ⟨S2,R2,q2,x2,y2,d2,k,f1,f2,f3,f4,f5,f6,f7,f8,f9,f10,f11⟩=>?_
   ·rw[j i hi] at hk ⊢;exact U k hk
   subst f1;rw[j i hi] at f3 f4 ⊢;have Z2:StopW b sb ab n cp c0 kb ch (vv w1 (ch i) k):=Z.close f3;have hsz:ac.size=gs.size:=by omega
   have:=fmr (S:=S2) hN W Y aa hc j A r (i+1) fe (d:=d2) (by rw[hsz];exact I) f4 (by rw[f2];exact f5) (by rw[f2];exact f6) f7 Z2 (λi' h5 h6=>?_) (λk' ah=>?_)
     (fmq Z2 hN Y aa hc (fub Z2 hi O))
   ·rw [hsz] at this;refine this.mono λaA u3 T3 ⟨w3,hclo,hg⟩=>⟨w3,⟨hclo.size.trans bf,hclo.os,hclo.output,λz hz=>?_,λz hz=>?_⟩,hg⟩
    ·rw[hclo.same z λ⟨i',a1,a2,a3⟩=>hz ⟨i',by omega,a2,a3⟩,zl λe=>hz ⟨i,fx8 _,hi,e⟩]
    ·by_cases e: ∃i',i+1<=i'/\i'<n/\z=ch i'
     ·exact hclo.muted z e
     ·obtain⟨i',a1,a2,rfl⟩:=hz;have:i'=i:=f1e λh=>e ⟨i',by omega,a2,rfl⟩;subst this;refine⟨k,?_⟩;rw[hclo.same _ e];unfold vv;exact fy5 (fx5.1 f3).1
   ·obtain⟨b1,b2,b3⟩:=D i' fe h6;have c1:=e7.2.1 _ b2;have an:jc i'≠jc i:=λe=>by have:=A i' i h6 hi e;omega
    have c2:=f9 _ an c1.1;exact⟨c2.2.trans (c1.2.trans b1),c2.1,by omega⟩
   ·by_cases e:k'=jc i
    ·subst e;exact f11
    ·have:=B k' λi' a1 a2=>?_
     ·have a3:=e7.2.2 k';have a4:=f10 k';omega
     ·by_cases e2:i'=i
      ·subst e2;exact e
      ·exact ah i' fe a2
end
structure fw3 (b j0 n c0:Nat) (ch:Nat->Nat) (S:Nat->Option SeatD) (N:Nat):Prop where
 pos:1<=j0
 fits:j0+(n+1)<=N
 srv: ∃s,S j0=some s/\s.c=c0
 cl: ∀i,i<n-> ∃s,S (j0+1+i)=some s/\s.c=ch i
 no: ∀k,S k≠none->j0<=k/\k<j0+(n+1)
 home: ∀j s,S j=some s->s.ok=true/\s.z=.nilFunc/\ ∀g2,s.home g2->fbr [dcall 79 #[.pointer (some (stC b))]] [fau] s.c g2
section
variable {b sb ab n cp c0 j0:Nat} {kb ch:Nat->Nat} {H:Hide} {Shun:Loc->Prop} {St:Nat->Loc->Prop} {S:Nat->Option SeatD} {w:World} {X:Frame} {cs:List Frame} {gs:Array Goroutine} {q:Nat->Nat} {T:Trace}
def fr8 {T0:Array Value} (aN:T0.size=43) (aL:T0[0]? =some (.pointer (some ⟨b,0,none⟩))) (I:Prot H S St Shun) (hH:H b=none/\H sb=none/\H ab=none/\ ∀i,i<n->H (kb i)=none)
    (ad:c0≠b/\ ∀i,i<n->ch i≠b) (aI:(∀i,i<n->ch i≠c0)) (W:fw3 b j0 n c0 ch S gs.size) (Z:StopW b sb ab n cp c0 kb ch w) (aM:CellsAt b w ((n+1:Nat)*K32) 0) (aR:n<1000)
    (C:Hold Tryz.prog St Shun u5 S 0 (G ((base 12).at ⟨T0,ffw b⟩ [.code ffb]) (X::cs)) T gs w q) (hD:Deaf T 0=0):
    Leads Tryz.prog (flg b (fax b Shun) St (λi=>S i≠none) X cs gs.size (λx=>x=c0\/ ∃i,i<n/\x=ch i) w) gs w T:=by
 obtain⟨cc,e,aC,hsz,_,_,_⟩:=Z.ses;have hs:HasS b w:=⟨cc,e,aC,hsz⟩
 have B: ∀p:Addr,H p.block=none-> ¬Shun (.cell p)/\ ∀g,¬St g (.cell p):=λp hp=>by
    refine⟨λh=>?_,λg h=>?_⟩
    ·obtain⟨a,ha,hh⟩:=I.shun _ h;cases ha;exact hh hp
    ·obtain⟨a,ha,hh⟩:=I.still _ _ h;cases ha;exact hh hp
 have hN: ∀p:Addr,(p.block=b/\p.off<6)\/p.block=sb\/p.block=ab\/(∃i,i<n/\p.block=kb i)-> ¬fax b Shun (.cell p):=λp hp=>by
    have h1:H p.block=none:=by
     rcases hp with⟨h,_⟩|h|h|⟨i,hi,h⟩
     ·rw[h];exact hH.1
     ·rw[h];exact hH.2.1
     ·rw[h];exact hH.2.2.1
     ·rw[h];exact hH.2.2.2 i hi
    have h2:p.block≠b\/p.off<6:=by
     rcases hp with⟨_,h⟩|h|h|⟨i,hi,h⟩
     ·exact .inr h
     ·exact .inl (h▸Z.apart.1)
     ·exact .inl (h▸Z.apart.2.1)
     ·exact .inl (h▸Z.apart.2.2 i hi)
    rintro(h|h|h)
    ·exact(B p h1).1 h
    ·cases h;rcases h2 with h2|h2
     ·exact h2 rfl
     ·simp at h2
    ·cases h;rcases h2 with h2|h2
     ·exact h2 rfl
     ·simp at h2
 have an: ∀l,fax b Shun l-> ∃p,l=.cell p:=λl hl=>by
    rcases hl with h|rfl|rfl
    ·obtain⟨a,ha,_⟩:=I.shun _ h;exact⟨a,ha⟩
    ·exact⟨_,rfl⟩
    ·exact⟨_,rfl⟩
 have ap:fax b Shun (.cell (stC b))/\fax b Shun (.cell (smC b)):=⟨.inr (.inl rfl),.inr (.inr rfl)⟩
 have A: ∀k,k<gs.size->(S k≠none↔j0<=k/\k<j0+(n+1)):=λk hk=>by
    refine⟨W.no k,λ⟨h1,h2⟩=>?_⟩;by_cases e:k=j0
    ·subst e;obtain⟨s,hs,_⟩:=W.srv;rw[hs];simp
    ·obtain⟨s,hs,_⟩:=W.cl (k-j0-1) fe;rw[show j0+1+(k-j0-1)=k from by omega] at hs;rw[hs];simp
 have C0:=fr5 (b:=b) C hs (λi s h=>by
  obtain⟨h1,h2⟩:=I.seats i s h;refine⟨?_,λe=>h1 (e▸hH.1)⟩;cases hb:s.D b with
  | none=>rfl
  | some o=>exact absurd hH.1 (h2 b o hb)) (λg=>⟨(B (stC b) hH.1).2 g,(B (smC b) hH.1).2 g⟩) (λi s h g2 aG=>by
  obtain⟨h1,h2,h3⟩:=W.home i s h;rw[h1,h2];exact fu4 (h3 g2 aG))
 have ah:VC gs.size (RB S)=n+1:=VC_row A W.fits
 have hM:Md gs.size (RB S) false ((n+1:Nat)*K32) 0:=by
    have:=Md.opn (n:=gs.size) (R:=RB S) λj _=>(RB_le S j).imp id (λh=>by omega);rwa[ah] at this
 obtain⟨s0,aA,O⟩:=W.srv;have ae: ∀j,S j≠none->RB S j=8:=λj h=>by unfold RB;rw[fx9 h]
 obtain⟨m,hm⟩:=om_st4 (St:=St) (S:=S) (cs:=X::cs) Z hN ad.1 aN aL;have e0:(wgw b w ((n+1:Nat)*K32) 0).at w.drawn=w:=by rw[ftu hs aM];rfl
 suffices aE:Leads Tryz.prog (flg b (fax b Shun) St (λi=>S i≠none) X cs gs.size (λx=>x=c0\/ ∃i,i<n/\x=ch i) w) gs ((wgw b w ((n+1:Nat)*K32) 0).at w.drawn) T by rwa[e0] at aE
 refine(fe0 (Φ:=fea b w c0 (fh3 b (X::cs))) (S0:=S) (d:=w.drawn) m (λ_ _ h=>h) C0 hM (by rw[ah];omega) pa).trans λaQ u1 T1 ⟨S1,R1,q1,a1,w1,x1,y1,d1,e1,e2,e3,e4,e5,e6,e7⟩=>?_;obtain⟨rfl,aF,hrun,aJ,g',ak,ac,aa⟩:=e6;subst e1;have Y:j0<gs.size:=by have:=W.fits;omega
 have h4:=e7.2.1 j0 (ae j0 (by rw[aA];simp));refine(fj0 (a':=g') (d:=d1) (j:=j0) (s:=s0) e3 pq (by rw[e2];exact e5) hrun ac h4.1 (by rw[e2];exact Y) (h4.2.trans aA) an aJ aF (λk hk=>?_)).trans λaB u2 T2 ⟨S2,R2,q2,x2,y2,d2,k,f1,f2,f3,f4,f5,f6,f7,f8,f9,f10,f11⟩=>?_
 ·rw[O] at hk ⊢;exact ak k hk
 subst f1;rw[O] at f3 f4 ⊢;have Z2:StopW b sb ab n cp c0 kb ch (vv w1 c0 k):=Z.close f3;have J:aB.size=gs.size:=by omega
 obtain⟨sc,M⟩:=f1v (r:=λ(i:Nat) (s:SeatD)=>i<n->S (j0+1+i)=some s/\s.c=ch i) λi=>by
    by_cases h:i<n
    ·obtain⟨s,h1,h2⟩:=W.cl i h;exact⟨s,λ_=>⟨h1,h2⟩⟩
    ·exact⟨s0,λh'=>absurd h' h⟩
 have U: ∀g,¬StL St (λi=>S i≠none) g (.cell ⟨b,0,none⟩):=λg h=>(B ⟨b,0,none⟩ hH.1).2 g h.1
 have:=fmr (S:=S2) (jc:=λi=>j0+1+i) (sc:=sc) (b:=b) (sb:=sb) (ab:=ab) (n:=n) (cp:=cp) (c0:=c0) (kb:=kb) (ch:=ch) (X:=X) (cs:=cs) (d:=d2) hN an ap U ad.2 (λi hi=>(M i hi).2) (λi i' _ _ h=>by have:j0+1+i=j0+1+i':=h;omega) n 0 fe
    (λk hk=>?_) f4 (by rw[f2];exact f5) (by rw[f2];exact f6) f7 Z2 (λi _ hi=>?_) (λk' aH=>?_) (fmq Z2 hN ap U ad.2 (om_st5 Z2 hN aa))
 ·rw [J] at this;refine this.mono λaP u3 T3 ⟨w3,hclo,hg⟩=>⟨w3,⟨hclo.size.trans bf,hclo.os,hclo.output,λz hz=>?_,λz hz=>?_⟩,hg⟩
  ·rw[hclo.same z λ⟨i',_,a2,a3⟩=>hz (.inr ⟨i',a2,a3⟩),zl λe=>hz (.inl e)]
  ·rcases hz with rfl|⟨i,hi,rfl⟩
   ·refine⟨k,?_⟩;rw[hclo.same z λ⟨i',_,a2,a3⟩=>aI i' a2 a3.symm];unfold vv;exact fy5 (fx5.1 f3).1
   ·exact hclo.muted _ ⟨i,f1n _,hi,rfl⟩
 ·have aD:k≠0:=λe=>by subst e;exact hk C.none
  refine⟨aD,?_⟩;rw[J];have:=W.no k hk;have:=W.fits;omega
 ·obtain⟨a1,a2⟩:=M i hi;have b1:=e7.2.1 (j0+1+i) (ae _ (by rw[a1];simp));have b2:=f9 (j0+1+i) fe b1.1;have aO:=W.fits;refine⟨b2.2.trans (b1.2.trans a1),b2.1,?_⟩;show j0+1+i<aB.size;omega
 ·by_cases e:k'=j0
  ·subst e;exact f11
  ·have a3:=e7.2.2 k';have a4:=f10 k'
   have:RB S k'<=1:=by
      refine(RB_le S k').resolve_right λh8=>?_;have aK:S k'≠none:=λh=>by
       unfold RB at h8;rw[f02 h] at h8;split at h8 <;>omega
      have:=W.no k' aK;exact aH (k'-j0-1) (f1n _) fe (by show k'=j0+1+(k'-j0-1);omega)
   omega
end
end Go.Proofs.YtelecjnabeokeaaGreatDoor
namespace Go.Proofs.YtelecjnabeokeaaGreatDoor
open Go Go.Conc Go.RowKit
attribute [local go_sem] f6p xz zn
section
variable {Stop:Frame->List Frame->World->Prop} {a:Act} {v:World}
def VX (Stop:Frame->List Frame->World->Prop) (c c':Code) (Q:Act->World->Prop) (a:Act) (v:World):Prop:=
 ∀(b:Frame) (k:List Item) (l:List Frame),l≠[]->Lv Tryz.prog rg Stop (b.at a (.code c::k),l,v)-> ∃a' v',Q a' v'/\Desc PV Stop (b.at a (.code c::k),l,v) (b.at a' (.code c'::k),l,v')
def fr9 {c:Code} {Q:Act->World->Prop} (h:Q a v):VX Stop c c Q a v:=λb k l _ _=>⟨a,v,h,.refl _⟩
def fg1 (A:VS Tryz.prog rg Stop) {x y c':Code} {Q:Act->World->Prop} (h:VW Tryz.prog rg Stop x (λe a' v'=>e=.normal/\VX Stop y c' Q a' v') a v):VX Stop (.seq x y) c' Q a v:=λb k l hl L=>by
 obtain⟨l1,e,L',ha⟩:=cy A L hl f4d;obtain rfl:=fz2 e;obtain⟨e,a',v',fr',⟨rfl,hq⟩,j,hb⟩:=h b (.code y::k) l hl L';obtain rfl:=j;obtain⟨a2,v2,h2,hd⟩:=hq b k l hl (vn A L' hb);exact⟨a2,v2,h2,ha.to_desc.trans (hb.to_desc.trans hd)⟩
def d9 (A:VS Tryz.prog rg Stop) {c:Operand} {x y c':Code} {Q:Act->World->Prop} (h: ∀t,a.eval c=.bool t->VX Stop (if t then x else y) c' Q a v):VX Stop (.cond c x y) c' Q a v:=λb k l hl L=>by
 by_cases hb: ∃t,a.eval c=.bool t
 ·obtain⟨t,hb⟩:=hb;obtain⟨l1,e,L',ha⟩:=cy A L hl (stepG_cond hb);obtain rfl:=fz2 e;obtain⟨a2,v2,h2,hd⟩:=h t hb b k l hl L';exact⟨a2,v2,h2,ha.to_desc.trans hd⟩
 ·exfalso;obtain⟨_,_,_,_,hq,_⟩:=yy (Q:=λ_ _ _=>False) A (c:=c) (x:=x) (y:=y) (λt ht=>absurd ⟨t,ht⟩ hb) b k l hl L;exact hq
def ln (A:VS Tryz.prog rg Stop) {j:String} {c':Code} {Q:Act->World->Prop}:VX Stop (.refuse j) c' Q a v:=λb k l hl L=>by
 obtain⟨_,_,_,_,hq,_⟩:=zi (Q:=λ_ _ _=>False) A j b k l hl L;exact hq.elim
def flh (x:Value) (v:World):(∃h v',(Builtin.cap_ #[78] 3 #[x]).run PV v=.halt h v'/\hard h=true)\/(x=.chan none/\(Builtin.cap_ #[78] 3 #[x]).run PV v=.ok (goInt 0) v)\/
    ∃k cap buf cl s r tm,x=.chan (some k)/\v.heap[k]? =some (.chan cap buf cl s r tm)/\(Builtin.cap_ #[78] 3 #[x]).run PV v=.ok (goInt (if tm then 0 else cap)) v:=by
 obtain⟨e,d,hd⟩: ∃d e,Tryz.prog.underlying 78=some (.chan d e):=⟨_,_,Tryz.underlying78⟩;have hu:(underlying 78).run PV v=.ok (.chan e d) v:=by rw[ua];exact f0u hd v
 cases x with
 | chan k=>
   cases k with
   | none=>exact .inr (.inl ⟨rfl,by simp[Builtin.cap_,fz9,hu,Result.andThen,Pure.pure,Sem.run]⟩)
   | some k=>
     have j:(Builtin.cap_ #[78] 3 #[.chan (some k)]).run PV v=(Go.getObj k >>= λo=>match o with
        | .chan n _ _ _ _ timer=>Pure.pure (goInt (if timer then 0 else n))
        | _=>Go.stuck "cap: channel expected" :Sem Value).run PV v:=by
        simp[Builtin.cap_,fz9,hu,Result.andThen];rfl
     rw[j]
     rcases fg0 (P:=PV) k (λo=>match o with
        | .chan n _ _ _ _ timer=>Pure.pure (goInt (if timer then 0 else n))
        | _=>Go.stuck "cap: channel expected" :Obj->Sem Value) v with h|⟨o,ho,h⟩
     ·exact .inl h
     ·rw[h];cases o with
      | chan cap buf cl s r tm=>exact .inr (.inr ⟨k,cap,buf,cl,s,r,tm,rfl,ho,rfl⟩)
      | _=>exact .inl ⟨_,v,rfl,rfl⟩
 | _=>exact .inl ⟨_,v,by simp[Builtin.cap_,fz9,hu,Result.andThen,Go.stuck,Sem.run];rfl,rfl⟩
abbrev oe:Array Oper:=#[oper (some 4) (.call { callee:=.value (.tmp 1),args:=#[],argTypes:=#[] }) 49]
abbrev zx:Code:=.seq (.region 104 #[oper none (.send (.tmp 0) (.const (.bool true))) 0] false) .ret
abbrev doCall:Code:=.seq (.region 103 oe false) zx
def DoR (x0 x1:Value) (v:World) (a':Act) (v':World):Prop:= ∃k cap buf cl s r tm,x0=.chan (some k)/\v.heap[k]? =some (.chan cap buf cl s r tm)/\(tm=true\/cap=0)/\0<buf.size/\
 v'=(((v.setChan k cap (buf.extract 1 buf.size) cl s (r+1) tm).alloc (.cells x1.cells 116)).alloc (.chan 0 #[] false 0 0 false)).alloc (.cells #[] 163)/\a'.defers=[]/\a'.tmps.getD 0 undef=x0/\a'.tmps.getD 1 undef=x1/\11<=a'.tmps.size
def v_do1 (A:VS Tryz.prog rg Stop) (x0 x1 x2 x3 x4 x5 x6 x7 x8 x9 B:Value) (tl:List Value): ∃c,doV.body=some c/\VX Stop c doCall (DoR x0 x1 v) { tmps:=(x0::x1::x2::x3::x4::x5::x6::x7::x8::x9::B::tl).toArray,defers:=[] } v:=by
 refine⟨_,rfl,?_⟩;refine fg1 A (ue A (uf A rfl (λ_=>rfl) ?_));have hq:=flh x0 v;go_simp;rcases hq with⟨h,v',e,hh⟩|⟨rfl,e⟩|⟨k,cap,buf,cl,s,r,tm,rfl,hk,e⟩
 ·rw[e];exact u0 hh
 ·rw[e];refine uf A rfl (λ_=>rfl) ?_;go_simp;refine vi A ?_
  first|refine⟨rfl,d9 A λt ht=>?_⟩|refine d9 A λt ht=>?_
  cases t with
  | false=>exact ln A
  | true=>
    refine fg1 A (ue A (uf A rfl (λ_=>rfl) ?_));go_simp;refine⟨_,rfl,⟨trivial,.inl ⟨rfl,rfl,_,_,rfl⟩⟩,λval v2 j=>?_⟩;simp only[uk,f03,f2e] at j;obtain⟨rfl,rfl⟩:=j;refine uf A rfl (λ_=>rfl) ?_;go_simp;refine vi A ?_
    first|refine⟨rfl,d9 A λt ht=>?_⟩|refine d9 A λt ht=>?_
    cases t with
    | false=>exact ln A
    | true=>simp[Act.eval,Act.put] at ht
 ·rw [e];refine uf A rfl (λ_=>rfl) ?_;go_simp;refine vi A ?_
  first|refine⟨rfl,d9 A λt ht=>?_⟩|refine d9 A λt ht=>?_
  cases t with
  | false=>exact ln A
  | true=>
    have q:tm=true\/cap=0:=by
      cases tm with
      | true=>exact .inl rfl
      | false=>right;simpa[Act.eval,Act.put] using ht
    clear ht e;go_simp;refine fg1 A (ue A (uf A rfl (λ_=>rfl) ?_));go_simp;refine⟨_,rfl,⟨trivial,.inl ⟨rfl,rfl,_,_,rfl⟩⟩,λval v2 j=>?_⟩;simp only[uk,hk] at j;by_cases hb:0<buf.size
    ·simp only[hb,f0e,f03,f2e] at j;obtain⟨rfl,rfl⟩:=j;refine uf A rfl (λ_=>rfl) ?_;go_simp;refine vi A ?_
     first|refine⟨rfl,d9 A λt ht=>?_⟩|refine d9 A λt ht=>?_
     cases t with
     | false=>exact ln A
     | true=>
       clear ht;refine fg1 A (ue A (bz A rfl (λ_=>rfl) (r:=.ok (.value _) _) rfl (bz A rfl (λ_=>rfl) (r:=.ok (.value _) _) rfl (bz A rfl (λ_=>rfl) (r:=.ok (.value _) _) rfl (vi A ⟨rfl,fr9 ?_⟩)))));exact⟨k,cap,buf,cl,s,r,tm,rfl,hk,q,hb,rfl,rfl,rfl,rfl,by simp[Act.put,oper]⟩
    ·simp only[hb,f0s] at j
     have m:val=.tuple #[goInt 0,.bool false,undef]\/ ∃z i,val=.tuple #[goInt i,.bool false,z]:=by
        split at j
        ·simp only[f03,f2e] at j;exact .inr ⟨_,_,j.1.symm⟩
        ·simp only[f03,f2e] at j;exact .inr ⟨_,_,j.1.symm⟩
     have m: ∃z i,val=.tuple #[goInt i,.bool false,z]:=m.elim (λh=>⟨_,_,h⟩) id;obtain⟨z,i,rfl⟩:=m;refine uf A rfl (λ_=>rfl) ?_;go_simp;refine vi A ?_
     first|refine⟨rfl,d9 A λt ht=>?_⟩|refine d9 A λt ht=>?_
     cases t with
     | false=>exact ln A
     | true=>simp[Act.eval,Act.put] at ht
end
end Go.Proofs.YtelecjnabeokeaaGreatDoor
namespace Go.Proofs.YtelecjnabeokeaaGreatDoor
open Go Go.Conc Go.RowKit
section
variable {P:Program} {F:Array Func} {Stop:Frame->List Frame->World->Prop} {a:Act} {v v1 w:World} {b g:Frame} {l:List Frame} {H:Hide}
def fmu (A:VS P F Stop) {fn:Func} {todo:List Item} {x:Value} (hf:F[b.fn]? =some fn) (hk:b.kind=.normal\/b.kind=.deferred) (hd:a.defers=[]) (hr:(results fn a.tmps).run (V P F) v=.ok x v)
    (L:Lv P F Stop ({ b.at a todo with mode:=.returning },g::l,v)):Ahead (V P F) Stop ({ b.at a todo with mode:=.returning },g::l,v) (ur b.kind x g,l,v):=by
 have j:(V P F).funcs[b.fn]? =some fn:=hf;obtain⟨es,hT⟩:=uu hr
 have m:stepG (V P F) true (G { b.at a todo with mode:=.returning } (g::(l++[botF]))) v=.go (G (ur b.kind x g) (l++[botF])) v (seen (V P F) b.fn es):=by
    have e1:stepG (V P F) true (G { b.at a todo with mode:=.returning } (g::(l++[botF]))) v=GStep.after (seen (V P F) b.fn es) (doReturn (V P F) true { b.at a todo with mode:=.returning } (g::(l++[botF])) none x v):=by
     simp[-Sem.runT_eq,G,stepG,unwind,Frame.at,hd,j,hT]
    rw[e1,wn (by simpa[Frame.at] using hk)];simp only[c9,ur,Frame.at,LRes.plug,GStep.after,f1t];rfl
 obtain⟨l1,e1,_,q⟩:=cy A L fi (by simpa using m);obtain rfl:=fz2 e1;exact q
def fra:rg[46]? =some doV:=by rw[wy,Tryz.func46];rfl
def v_do2 {Stop:Frame->List Frame->World->Prop} (A:VS Tryz.prog rg Stop) {k:Nat} {x:Value} {cap s r:Nat} {buf:Array Value} {cl tm:Bool} {ks:List Item} (hb:b.fn=46) (hk:b.kind=.normal\/b.kind=.deferred) (hd:a.defers=[]) (h0:a.tmps.getD 0 undef=.chan (some k)) (h4:a.tmps.getD 4 undef=x)
    (ho:v.heap[k]? =some (.chan cap buf cl s r tm)) (L:Lv Tryz.prog rg Stop (b.at a (.inRegion oe []:: .code zx::ks),g::l,v)):
    Ahead PV Stop (b.at a (.inRegion oe []:: .code zx::ks),g::l,v) (ur b.kind x g,l,v.setChan k cap (buf.push (.bool true)) false (s+1) r tm):=by
 obtain⟨l1,e,L1,h1⟩:=cy A L fi f1o;obtain rfl:=fz2 e
 have m:VW Tryz.prog rg Stop zx (λe a' v'=>e=.ret/\a'.defers=[]/\a'.tmps.getD 4 undef=x/\v'=v.setChan k cap (buf.push (.bool true)) false (s+1) r tm) a v:=by
    refine xk A (ue A (bz A rfl (λ_=>rfl) (r:=.ok (.comm #[⟨a.eval (.tmp 0),some (.bool true),undef⟩] true .send) v) rfl ?_));refine⟨_,rfl,⟨trivial,.inr ⟨rfl,rfl,_,_,_,rfl⟩⟩,λval v2 j=>?_⟩;have B:a.eval (.tmp 0)=.chan (some k):=h0;simp only[uk,B,ho] at j;cases cl with
    | true=>simp at j
    | false=>
      simp only at j;split at j
      ·cases j;exact vi A (nr A ⟨rfl,hd,h4,rfl⟩)
      ·cases j
 obtain⟨e,a',v',fr',⟨rfl,q,C,rfl⟩,⟨todo,rfl⟩,h2⟩:=m b ks (g::l) fi L1;have L2:=vn A L1 h2;have h3:=fmu (fn:=doV) (x:=x) A (by rw[hb];exact fra) hk q (by rw[f0x rfl];rw[C]) L2;exact h1.desc (h2.desc h3.to_desc).to_desc
def Rel.remark (rel:Rel H v w) {k:Nat} {o o':Obj} (hk:H k=some o) (ho:mw o' w.heap[k]?) (q:okSt o'=true):
    Rel ⟨λb=>if b=k then some o' else H b,H.real,H.on⟩ { v with heap:=v.heap.setIfInBounds k o' } w:=by
 have hlt:k<v.heap.size:=by
    obtain⟨h1,_⟩:=rel.laid k o hk;exact(fx5.1 h1).1
 have hg: ∀b:Nat,(v.heap.setIfInBounds k o')[b]? =if b=k then some o' else v.heap[b]? :=λb=>by
    rw[fy1];by_cases e:k=b
    ·subst e;simp[hlt]
    ·rw[fx9 e,fx9 λe'=>e e'.symm]
 refine⟨by simp[rel.size],λb hb=>?_,λb x hb=>?_,rel.os,rel.output,λb x hb=>?_,λb x hb=>?_,λm b x hb hx=>?_⟩
 ·simp only at hb;split at hb
  ·cases hb
  ·rename_i j;show(v.heap.setIfInBounds k o')[b]? =_;rw[hg,fx9 j];exact rel.same b hb
 ·simp only at hb;show(v.heap.setIfInBounds k o')[b]? =_/\_;rw[hg];split at hb
  ·rename_i e;subst e;cases hb;exact⟨by simp,ho⟩
  ·rename_i j;rw[fx9 j];exact rel.laid b x hb
 ·replace hb:(v.heap.setIfInBounds k o')[b]? =some x:=hb;rw[hg] at hb;split at hb
  ·cases hb;exact q
  ·exact rel.objs b x hb
 ·simp only at hb;split at hb
  ·rename_i e;subst e;exact rel.kept b o hk
  ·exact rel.kept b x hb
 ·replace hx:(v.heap.setIfInBounds k o')[b]? =some x:=hx;simp only at hb;split at hb
  ·cases hb
  ·rename_i j;rw[hg,fx9 j] at hx;exact rel.chans m b x hb hx
def Rel.pushHid (rel:Rel H v w) {o o':Obj} (ho:mw o (some o')) (q:okSt o=true):
    Rel ⟨λb=>if b=v.heap.size then some o else H b,λb=>if b=v.heap.size then some o' else H.real b,H.on⟩ { v with heap:=v.heap.push o } { w with heap:=w.heap.push o' }:=by
 have hg: ∀(b:Nat),(v.heap.push o)[b]? =if b=v.heap.size then some o else v.heap[b]? :=λb=>by rw[f05]
 have m: ∀(b:Nat),(w.heap.push o')[b]? =if b=v.heap.size then some o' else w.heap[b]? :=λb=>by rw[f05,rel.size]
 refine⟨by simp[rel.size],λb hb=>?_,λb x hb=>?_,rel.os,rel.output,λb x hb=>?_,λb x hb=>?_,λA b x hb hx=>?_⟩
 ·simp only at hb;split at hb
  ·cases hb
  ·rename_i j;show(v.heap.push o)[b]? =(w.heap.push o')[b]?;rw[hg,m,fx9 j,fx9 j];exact rel.same b hb
 ·simp only at hb;show(v.heap.push o)[b]? =_/\mw x (w.heap.push o')[b]?;rw[hg,m];split at hb
  ·rename_i e;rw[f02 e,f02 e];cases hb;exact⟨rfl,ho⟩
  ·rename_i j;rw[fx9 j,fx9 j];exact rel.laid b x hb
 ·replace hb:(v.heap.push o)[b]? =some x:=hb;rw[hg] at hb;split at hb
  ·cases hb;exact q
  ·exact rel.objs b x hb
 ·show(w.heap.push o')[b]? =_;rw[m];simp only at hb ⊢;split at hb
  ·rename_i e;rw[f02 e,f02 e]
  ·rename_i j;rw[fx9 j,fx9 j];exact rel.kept b x hb
 ·replace hx:(v.heap.push o)[b]? =some x:=hx;simp only at hb;split at hb
  ·cases hb
  ·rename_i j;rw[hg,fx9 j] at hx;exact rel.chans A b x hb hx
def Rel.reReal (rel:Rel H v w) {k:Nat} {o o':Obj} (hk:H k=some o) (ho:mw o (some o')) (hlt:k<w.heap.size):
    Rel ⟨H.at_,λb=>if b=k then some o' else H.real b,H.on⟩ v { w with heap:=w.heap.setIfInBounds k o' }:=by
 have hg: ∀b:Nat,(w.heap.setIfInBounds k o')[b]? =if b=k then some o' else w.heap[b]? :=λb=>by
    rw[fy1];by_cases e:k=b
    ·subst e;simp[hlt]
    ·rw[fx9 e,fx9 λe'=>e e'.symm]
 refine⟨by simp[rel.size],λb hb=>?_,λb x hb=>?_,rel.os,rel.output,rel.objs,λb x hb=>?_,rel.chans⟩
 ·have j:b≠k:=by rintro rfl;simp only at hb;rw[hk] at hb;cases hb
  show _=(w.heap.setIfInBounds k o')[b]?;rw[hg,fx9 j];exact rel.same b hb
 ·show _/\mw x (w.heap.setIfInBounds k o')[b]?;rw[hg];split
  ·rename_i e;subst e;simp only at hb;rw[hk] at hb;cases hb;exact⟨(rel.laid b o hk).1,ho⟩
  ·exact rel.laid b x hb
 ·show(w.heap.setIfInBounds k o')[b]? =_;rw[hg];simp only;split
  ·rfl
  ·exact rel.kept b x hb
end
def virt57:rg[57]? =some lockV:=by rw[wy,Tryz.func57];rfl
def virt58:rg[58]? =some unlockV:=by rw[wy,Tryz.func58];rfl
section
variable {Stop:Frame->List Frame->World->Prop} {g:Frame} {l:List Frame} {v:World} {args:Array Value} {kind:CallKind}
def mh {args:Array Value} {L:List Value} (h: ∀i,L.getD i undef=args.getD i undef) {x0:Value} {tl:List Value} (e:L=x0::tl):args.getD 0 undef=x0:=by
 subst e;exact(h 0).symm
def v_lock (A:VS Tryz.prog rg Stop) (L:Lv Tryz.prog rg Stop (Frame.enter PV 57 args kind,g::l,v)):
    ∃d v',fo8 0 1 (args.getD 0 undef) (reW v v.tape d) v'/\Ahead PV Stop (Frame.enter PV 57 args kind,g::l,v) (ur kind (.tuple #[]) g,l,v'):=by
 obtain⟨x,v',⟨rfl,d,hR⟩,ha⟩:=fgw (R:=λx v'=>x=.tuple #[]/\ ∃d,fo8 0 1 (args.getD 0 undef) (reW v v.tape d) v') A virt57 rfl L (by
    obtain⟨Ls,j,hL,h0⟩:=fa5 args 3;show VW Tryz.prog rg Stop (.seq chkR fql) _ { tmps:=args++Array.replicate (3-args.size) undef,defers:=[] } v;rw[hL];rcases Ls with _|⟨x0,_|⟨x1,_|⟨x2,tl⟩⟩⟩ <;>first|(simp at j;done)|skip
    refine fmm A λd hv=>?_;have h:=v_lockB A x0 x1 x2 tl (v:=reW v v.tape d) (λp hp=>hv p hp);intro b k l hl L;obtain⟨e,a',v',fr',⟨rfl,hd,hR⟩,m,ha⟩:=h b k l hl L;refine⟨_,a',v',fr',⟨.inr rfl,hd,.tuple #[],f2g rfl _ _ _,rfl,d,?_⟩,m,ha⟩;rw[mh h0 rfl];exact hR)
 exact⟨d,v',hR,ha⟩
def fuc (A:VS Tryz.prog rg Stop) (L:Lv Tryz.prog rg Stop (Frame.enter PV 58 args kind,g::l,v)):
    ∃d v',fo8 1 0 (args.getD 0 undef) (reW v v.tape d) v'/\Ahead PV Stop (Frame.enter PV 58 args kind,g::l,v) (ur kind (.tuple #[]) g,l,v'):=by
 obtain⟨x,v',⟨rfl,d,hR⟩,ha⟩:=fgw (R:=λx v'=>x=.tuple #[]/\ ∃d,fo8 1 0 (args.getD 0 undef) (reW v v.tape d) v') A virt58 rfl L (by
    obtain⟨Ls,j,hL,h0⟩:=fa5 args 3;show VW Tryz.prog rg Stop (.seq chkR fe5) _ { tmps:=args++Array.replicate (3-args.size) undef,defers:=[] } v;rw[hL];rcases Ls with _|⟨x0,_|⟨x1,_|⟨x2,tl⟩⟩⟩ <;>first|(simp at j;done)|skip
    refine fmm A λd hv=>?_;have h:=fqp A x0 x1 x2 tl (v:=reW v v.tape d) (λp hp=>hv p hp);intro b k l hl L;obtain⟨e,a',v',fr',⟨rfl,hd,hR⟩,m,ha⟩:=h b k l hl L;refine⟨_,a',v',fr',⟨.inr rfl,hd,.tuple #[],f2g rfl _ _ _,rfl,d,?_⟩,m,ha⟩;rw[mh h0 rfl];exact hR)
 exact⟨d,v',hR,ha⟩
end
def spec_lock:SpecOk Tryz.prog rg 57:=by
 intro Stop WS Shun Φ args kind g l v A hR Fx Sx H S St h X cs gs w T q hk hlt L I C hD j;obtain⟨d,v',⟨p,hp,hc,hz,rfl⟩,ha⟩:=v_lock A L;have hc:v.cell? p=some (.int .i32 0):=hc;have hz:v.frozen? p=false:=hz;have hH:=I.rel.hidden_cell hc;have M:=I.rel.cell hc;have B:=(I.rel.frozen hH).trans hz;have J:=fqr (main:=h==0) (H:=H) (Shun:=Shun) (w:=w) (n:=0) (c:=X) (cs:=cs) (Φ:=λa w' k=>a=G (ur kind (.tuple #[]) X) cs/\(∃d,w'=(w.setCell p (.int .i32 1)).at d)/\k=0) hk hp hH M B (.now λd=>⟨rfl,⟨d,rfl⟩,rfl⟩);refine(C.og I.prot J hD).trans λgs' w' T' hh=>?_;obtain⟨a',q',⟨rfl,⟨d',rfl⟩,D⟩,hsz,C'⟩:=hh;have m:Rel H ((reW v v.tape d).setCell p (.int .i32 1)) ((w.setCell p (.int .i32 1)).at d'):=(((I.rel.re' v.tape d).setCell hH _).re _ _);exact j _ _ _ _ _ _ _ _ _ ha (I.step m) hsz C' D
def spec_unlock:SpecOk Tryz.prog rg 58:=by
 intro Stop WS Shun Φ args kind g l v A hR Fx Sx H S St h X cs gs w T q hk hlt L I C hD j;obtain⟨d,v',⟨p,hp,hc,hz,rfl⟩,ha⟩:=fuc A L;have hc:v.cell? p=some (.int .i32 1):=hc;have hz:v.frozen? p=false:=hz;have hH:=I.rel.hidden_cell hc;have M:=I.rel.cell hc;have B:=(I.rel.frozen hH).trans hz;have J:=fqs (main:=h==0) (H:=H) (Shun:=Shun) (w:=w) (n:=0) (c:=X) (cs:=cs) (Φ:=λa w' k=>a=G (ur kind (.tuple #[]) X) cs/\(∃d,w'=(w.setCell p (.int .i32 0)).at d)/\k=0) hk hp hH M B (.now λd=>⟨rfl,⟨d,rfl⟩,rfl⟩);refine(C.og I.prot J hD).trans λgs' w' T' hh=>?_;obtain⟨a',q',⟨rfl,⟨d',rfl⟩,D⟩,hsz,C'⟩:=hh;have m:Rel H ((reW v v.tape d).setCell p (.int .i32 0)) ((w.setCell p (.int .i32 0)).at d'):=(((I.rel.re' v.tape d).setCell hH _).re _ _);exact j _ _ _ _ _ _ _ _ _ ha (I.step m) hsz C' D
end Go.Proofs.YtelecjnabeokeaaGreatDoor
namespace Go.Proofs.YtelecjnabeokeaaGreatDoor
open Go Go.Conc
open Go.ConcN (sumTo upd sumTo_upd upd_ne upd_same)
section
variable {P:Program} {Φ:Array Goroutine->World->Trace->Prop} {St:Nat->Loc->Prop} {Shun:Loc->Prop} {Hear:Nat->Prop} {S:Nat->Option SeatD} {h:Nat} {a a' a₂:Goroutine} {T:Trace} {gs gs':Array Goroutine} {w w':World} {q:Nat->Nat}
def Hold.quiet {ops:Array MemOp} (C:Hold P St Shun Hear S h a T gs w q) (hsz:gs'.size=gs.size) (hh:gs'[h]? =some a') (ho: ∀x,x≠h->gs'[x]? =gs[x]?) (h1:w.heap.size<=w'.heap.size)
    (h2: ∀i s,S i=some s->w'.heap[s.c]? =w.heap[s.c]? /\Keeps s.D w') (A: ∀op∈ops,op.g=h) (m: ∀op∈ops,op.act.touch? =Option.none) (hq: ∀g,∀op∈ops,∀d,deafStep g d op=d) (hl: ∀op∈ops,op.act.low w'.heap.size):
    Hold P St Shun Hear S h a' (T++ops) gs' w' q/\Deaf (T++ops) h=Deaf T h:=by
 have hD: ∀g,Deaf (T++ops) g=Deaf T g:=λg=>Deaf_quiet (hq g);refine⟨⟨⟨λx y hx hy=>?_,λi s e=>?_,C.crew.rows,λi s e=>(h2 i s e).2,C.crew.inj,λi s e=>?_,λi s e=>?_,λj hj=>?_⟩,hh,?_,C.hears,C.none⟩,hD h⟩
 ·rw[ho x hx] at hy;have hi:=C.crew.idle x y hx hy;cases es:S x with
  | none=>rw[es] at hi;exact⟨hi.1,by rw[hD];exact hi.2⟩
  | some s=>rw[es] at hi;exact hi
 ·obtain⟨k,hk⟩:=C.crew.chans i s e;exact⟨k,by rw[(h2 i s e).1];exact hk⟩
 ·exact⟨f08 (C.crew.low i s e).1 h1,f0f (C.crew.low i s e).2 h1⟩
 ·rw[hD];exact C.crew.hear i s e
 ·rw[hD];exact C.crew.above j fe
 ·exact(C.past.mono h1).appMute A m (λhh=>by rw[hD];exact C.past.hears h hh) hl
def Hold.lone_recv (C:Hold P St Shun Hear S h a T gs w q) {c:Nat} (j: ∀i s,S i=some s->s.c≠c):partners (gs.setIfInBounds h ph) c false=[]:=by
 refine partners_nil λx y hy=>?_;rcases th hy with rfl|⟨hx,m⟩
 ·exact offersAt_ph _ _
 ·exact C.crew.noRecv hx m c λs hs=>j x s hs
def Hold.lone_send (C:Hold P St Shun Hear S h a T gs w q) (c:Nat):partners (gs.setIfInBounds h ph) c true=[]:=by
 refine partners_nil λx y hy=>?_;rcases th hy with rfl|⟨hx,j⟩
 ·exact offersAt_ph _ _
 ·exact C.crew.noSend hx j c
def Hold.till (C:Hold P St Shun Hear S h a T gs w q) (hrun:a.status=.running) (hD:Deaf T h=0)
    (A: ∀j T q d sl,j.size=gs.size->Deaf T h=0->Hold P St Shun Hear S h a T j (w.at d) q-> ∃gs' w' ops,runT P (crowd j (w.at d) sl) h=(.next (crowd gs' w' sl),ops)/\Φ gs' w' (T++ops)) (m: ∀g,¬Hear g):Leads P Φ gs w T:=by
 have key: ∀(μ:Nat) (j:Array Goroutine) (T:Trace) (q:Nat->Nat) (d:Nat),sumTo j.size q=μ->j.size=gs.size->Deaf T h=0->Hold P St Shun Hear S h a T j (w.at d) q->Leads P Φ j (w.at d) T:=by
    intro μ
    induction μ using Nat.strongRecOn with
    | _ μ B=>
      intro j T q d hμ hsz hk C
      have hSp: ∀x gx,x=h->j[x]? =some gx->gx=a:=λx gx hx hgx=>by
        subst hx;rw[C.here] at hgx;exact(fy7 hgx).symm
      refine Leads.pick (C.crew.awake λx gx hx hgx=>.inl kp) ⟨h,a,C.here,hrun⟩ λi y d' sl hi hy=>?_;have C':Hold P St Shun Hear S h a T j (w.at d') q:=by have:=C.at d';exact this
      by_cases e:i=h
      ·subst e;obtain⟨gs',w',ops,e1,e2⟩:=A j T q d' sl hsz hk C';exact⟨gs',w',ops,e1,.done e2⟩
      ·obtain⟨gs',ops,q',s1,s2,s3,s4,s5,s6,s7,_,s8⟩:=C'.crew.by_step (sl:=sl) hi e hy (λx gx hx hgx=>by rw[hSp x gx hx hgx];exact yf hrun _)
         (λs g₂ hs _ x gx hx hgx=>f0l kq _ _)
       refine⟨gs',w.at d',ops,s1,B (sumTo gs'.size q') (by rw[s2];omega) gs' (T++ops) q' d' rfl (by rw[s2,hsz]) pz ⟨s5,?_,?_,C'.hears,C'.none⟩⟩
       ·rw[s3 h (λe'=>e e'.symm)];exact C'.here
       ·exact s8 Shun Hear h (λhh=>(m i hh).elim) C'.past
 exact key _ gs T q w.drawn rfl rfl hD (C.at _)
def Hold.send_room {c cap s r:Nat} {buf:Array Value} {tm:Bool} {x z:Value} {bl:Bool} {sh:CommShape} (C:Hold P St Shun u5 S h a T gs w q) (hrun:a.status=.running) (hD:Deaf T h=0)
    (M: ∀d,stepG P (h==0) a (w.at d)=.comm a₂ #[scase c x z] bl sh (w.at d) #[]) (hc:w.heap[c]? =some (.chan cap buf false s r tm)) (A:buf.size<cap) (m: ∀i s,S i=some s->s.c≠c/\s.D c=Option.none):
    Leads P (λgs' w' T'=> ∃q' d,w'=(w.at d).setChan c cap (buf.push x) false (s+1) r tm/\gs'.size=gs.size/\Deaf T' h=0/\Hold P St Shun u5 S h (a₂.finishComm P #[scase c x z] sh 0 undef false) T' gs' w' q') gs w T:=by
 have hlt:c<w.heap.size:=(fx5.1 hc).1;refine C.till hrun hD (λI T q d sl hsz hk C1=>?_) (λg hg=>hg);have hr:=crowd_send_room (sl:=sl) C1.here (M d) hc A (C1.lone_recv λi s1 hs=>(m i s1 hs).1);refine⟨_,_,_,hr,q,d,rfl,by simpa using hsz,?_⟩;have B:h<I.size:=(fx5.1 C1.here).1
 obtain⟨C2,e⟩:=C1.quiet (gs':=I.setIfInBounds h (a₂.finishComm P #[scase c x z] sh 0 undef false)) (a':=a₂.finishComm P #[scase c x z] sh 0 undef false) (w':=(w.at d).setChan c cap (buf.push x) false (s+1) r tm)
    (ops:=MemOp.ofEvents h a.frame.fn a.frame.place #[]++ #[{ g:=h,fn:=a₂.frame.fn,pos:=a₂.frame.place,act:=.send c s },{ g:=h,fn:=a₂.frame.fn,pos:=a₂.frame.place,act:=.sendDone c s }])
    fi (fy5 B) (λx hx=>fy4 (λe=>hx e.symm)) (by simp[World.setChan])
    (λi s1 hs=>⟨f6m (m i s1 hs).1 _ _ _ _ _ _,λb o hb=>by
      have J:b≠c:=by rintro rfl;rw[(m i s1 hs).2] at hb;cases hb
      rw[f6m J];exact C1.crew.keeps i s1 hs b o hb⟩)
    (λop j=>by simp[MemOp.ofEvents] at j;rcases j with rfl|rfl <;>rfl) (λop j=>by simp[MemOp.ofEvents] at j;rcases j with rfl|rfl <;>rfl)
    (λg op j d=>by simp[MemOp.ofEvents] at j;rcases j with rfl|rfl <;>rfl) (λop j=>by simp[MemOp.ofEvents] at j;rcases j with rfl|rfl <;>(show c<_;simp only[World.setChan,f00];exact hlt))
 exact⟨by rw[e];exact hk,C2⟩
def Hold.recv_buf {c cap s r:Nat} {buf:Array Value} {cl tm:Bool} {z:Value} {bl:Bool} {sh:CommShape} (C:Hold P St Shun u5 S h a T gs w q) (hrun:a.status=.running) (hD:Deaf T h=0)
    (M: ∀d,stepG P (h==0) a (w.at d)=.comm a₂ #[rcase c z] bl sh (w.at d) #[]) (hc:w.heap[c]? =some (.chan cap buf cl s r tm)) (m:0<buf.size) (I: ∀i s,S i=some s->s.c≠c/\s.D c=Option.none):
    Leads P (λgs' w' T'=> ∃q' d,w'=(w.at d).setChan c cap (buf.extract 1 buf.size) cl s (r+1) tm/\gs'.size=gs.size/\Deaf T' h=0/\Hold P St Shun u5 S h (a₂.finishComm P #[rcase c z] sh 0 (buf.getD 0 undef) true) T' gs' w' q') gs w T:=by
 have hlt:c<w.heap.size:=(fx5.1 hc).1;refine C.till hrun hD (λB T q d sl hsz hk C1=>?_) (λg hg=>hg);have hr:=crowd_recv_buf (sl:=sl) C1.here (M d) hc m (C1.lone_send c);refine⟨_,_,_,hr,q,d,rfl,by simpa using hsz,?_⟩;have A:h<B.size:=(fx5.1 C1.here).1
 obtain⟨C2,e⟩:=C1.quiet (gs':=B.setIfInBounds h (a₂.finishComm P #[rcase c z] sh 0 (buf.getD 0 undef) true)) (a':=a₂.finishComm P #[rcase c z] sh 0 (buf.getD 0 undef) true) (w':=(w.at d).setChan c cap (buf.extract 1 buf.size) cl s (r+1) tm)
    (ops:=MemOp.ofEvents h a.frame.fn a.frame.place #[]++ #[{ g:=h,fn:=a₂.frame.fn,pos:=a₂.frame.place,act:=.recv c r cap },{ g:=h,fn:=a₂.frame.fn,pos:=a₂.frame.place,act:=.recvDone c r }])
    fi (fy5 A) (λx hx=>fy4 (λe=>hx e.symm)) (by simp[World.setChan])
    (λi s1 hs=>⟨f6m (I i s1 hs).1 _ _ _ _ _ _,λb o hb=>by
      have J:b≠c:=by rintro rfl;rw[(I i s1 hs).2] at hb;cases hb
      rw[f6m J];exact C1.crew.keeps i s1 hs b o hb⟩)
    (λop j=>by simp[MemOp.ofEvents] at j;rcases j with rfl|rfl <;>rfl) (λop j=>by simp[MemOp.ofEvents] at j;rcases j with rfl|rfl <;>rfl)
    (λg op j d=>by simp[MemOp.ofEvents] at j;rcases j with rfl|rfl <;>rfl) (λop j=>by simp[MemOp.ofEvents] at j;rcases j with rfl|rfl <;>(show c<_;simp only[World.setChan,f00];exact hlt))
 exact⟨by rw[e];exact hk,C2⟩
def Hold.recv_closed {c cap s r:Nat} {tm:Bool} {z:Value} {bl:Bool} {sh:CommShape} (C:Hold P St Shun u5 S h a T gs w q) (hrun:a.status=.running) (hD:Deaf T h=0)
    (B: ∀d,stepG P (h==0) a (w.at d)=.comm a₂ #[rcase c z] bl sh (w.at d) #[]) (hc:w.heap[c]? =some (.chan cap #[] true s r tm)):
    Leads P (λgs' w' T'=> ∃q' d,w'=w.at d/\gs'.size=gs.size/\Deaf T' h=0/\Hold P St Shun u5 S h (a₂.finishComm P #[rcase c z] sh 0 z false) T' gs' w' q') gs w T:=by
 have hlt:c<w.heap.size:=(fx5.1 hc).1;refine C.till hrun hD (λA T q d sl hsz hk C1=>?_) (λg hg=>hg);have hr:=crowd_recv_closed (sl:=sl) C1.here (B d) hc (C1.lone_send c);refine⟨_,_,_,hr,q,d,rfl,by simpa using hsz,?_⟩;have m:h<A.size:=(fx5.1 C1.here).1
 obtain⟨C2,e⟩:=C1.quiet (gs':=A.setIfInBounds h (a₂.finishComm P #[rcase c z] sh 0 z false)) (a':=a₂.finishComm P #[rcase c z] sh 0 z false) (w':=w.at d)
    (ops:=MemOp.ofEvents h a.frame.fn a.frame.place #[]++ #[{ g:=h,fn:=a₂.frame.fn,pos:=a₂.frame.place,act:=.recvClosed c }])
    fi (fy5 m) (λx hx=>fy4 (λe=>hx e.symm)) (fx8 _)
    (λi s1 hs=>⟨rfl,C1.crew.keeps i s1 hs⟩)
    (λop j=>by simp[MemOp.ofEvents] at j;rcases j with rfl;rfl) (λop j=>by simp[MemOp.ofEvents] at j;rcases j with rfl;rfl)
    (λg op j d=>by simp[MemOp.ofEvents] at j;rcases j with rfl;rfl) (λop j=>by simp[MemOp.ofEvents] at j;rcases j with rfl;exact hlt)
 exact⟨by rw[e];exact hk,C2⟩
def Hold.recv_default {c cap s r:Nat} {tm:Bool} {z:Value} {sh:CommShape} (C:Hold P St Shun u5 S h a T gs w q) (hrun:a.status=.running) (hD:Deaf T h=0)
    (D: ∀d,stepG P (h==0) a (w.at d)=.comm a₂ #[rcase c z] false sh (w.at d) #[]) (hc:w.heap[c]? =some (.chan cap #[] false s r tm)):
    Leads P (λgs' w' T'=> ∃q' d,w'=w.at d/\gs'.size=gs.size/\Deaf T' h=0/\Hold P St Shun u5 S h (a₂.finishComm P #[rcase c z] sh (-1) undef false) T' gs' w' q') gs w T:=by
 refine C.till hrun hD (λA T q d sl hsz hk C1=>?_) (λg hg=>hg)
 have hr:=crowd_default (sl:=sl) C1.here (D d) (λcc B=>by
    obtain rfl:cc=rcase c z:=by simpa using B
    exact ways_recv_none (w₁:=w.at d) hc (C1.lone_send c))
 refine⟨_,_,_,hr,q,d,rfl,by simpa using hsz,?_⟩;have m:h<A.size:=(fx5.1 C1.here).1
 obtain⟨C2,e⟩:=C1.quiet (gs':=A.setIfInBounds h (a₂.finishComm P #[rcase c z] sh (-1) undef false)) (a':=a₂.finishComm P #[rcase c z] sh (-1) undef false) (w':=w.at d)
    (ops:=MemOp.ofEvents h a.frame.fn a.frame.place #[])
    fi (fy5 m) (λx hx=>fy4 (λe=>hx e.symm)) (fx8 _)
    (λi s1 hs=>⟨rfl,C1.crew.keeps i s1 hs⟩)
    (λop j=>by simp[MemOp.ofEvents] at j) (λop j=>by simp[MemOp.ofEvents] at j)
    (λg op j d=>by simp[MemOp.ofEvents] at j) (λop j=>by simp[MemOp.ofEvents] at j)
 exact⟨by rw[e];exact hk,C2⟩
end
end Go.Proofs.YtelecjnabeokeaaGreatDoor
namespace Go.Proofs.YtelecjnabeokeaaGreatDoor
open Go Go.Conc Go.RowKit
attribute [local go_sem] f6p xz zn
def cT:Code->Code
 | .cond _ x _=>x
 | _=>.skip
def opr_ld {P:Program} {ρ:Operand->Value} {o:Oper} {t:TypeId} {y:Operand} {x:Value} {u u':World} (ho:o.op=.load t y) (h:(Instr.loadAt t (ρ y)).run P u=.ok x u'):(execOp ρ o).run P u=.ok (.value x) u':=by
 unfold execOp;rw[ho];exact qw h
def opr_st {P:Program} {ρ:Operand->Value} {o:Oper} {t:TypeId} {y z:Operand} {u u':World} (ho:o.op=.store t y z) (h:(Instr.storeAt t (ρ y) (ρ z)).run P u=.ok () u'):(execOp ρ o).run P u=.ok .skip u':=by
 unfold execOp;rw[ho];exact qw h
def fg2 {P:Program} {ρ:Operand->Value} {o:Oper} {e:TypeId} {y:Operand} {z:Value} {w:World} (ho:o.op=.select #[{ chan:=y,send:=none,elem:=e }] false) (hz:(zeroValue e).runT P w #[]=(.ok z w,#[])):
    (execOp ρ o).runT P w #[]=(.ok (.comm #[{ chan:=ρ y,send:=none,zero:=z }] false .select) w,#[]):=by
 unfold execOp;rw[ho];have h1:(zeroValue e).run P w=.ok z w:=by rw[<- f0d _ _ _ #[],hz]
 have h2:(zeroValue e).events P w #[]=#[]:=by rw[show(zeroValue e).events P w #[]=((zeroValue e).runT P w #[]).2 from rfl,hz]
 dsimp only;rw[f3y];simp only[List.mapM_cons,List.mapM_nil];refine f2v ?_ ?_
 ·rw[f0d];simp[go_sem,h1]
 ·show Sem.events P _ w #[]=#[];simp[go_sem,h1,h2]
def Tryz.zero110 (w:World):(zeroValue 110).runT Tryz.prog w #[]=(.ok (.agg zero110) w,#[]):=by
 refine f2v ?_ ?_
 ·rw[f0d];go_simp
 ·show Sem.events Tryz.prog _ w #[]=#[];simp[go_sem]
section
variable {main:Bool} {H:Hide} {Shun:Loc->Prop} {Φ:Goroutine->World->Nat->Prop} {v v' w:World} {n:Nat} {X:Frame} {cs:List Frame} {b:Frame} {a:Act} {k:List Item} {ops:Array Oper} {i:Nat} {rest:List Nat} {o:Oper} {x:Value} {t:TypeId} {y z:Operand}
def fg3 {P:Program} {id:Nat} (h:OG P main H Shun Φ (G (b.at a k) cs) w n):OG P main H Shun Φ (G (b.at a (.inBlock id::k)) cs) w n:=io rfl (λ_=>stepG_inBlock) h
def frb (rel:Rel H v w) (ho:ops[i]? =some o) (j:o.op=.load t y) (hw:Region.wanted o (yielded ops a.tmps)=true) (hk:b.kind≠ .early) (hv:(Instr.loadAt t (a.eval y)).run PV v=.ok x v)
    (h: ∀w1,Rel H v w1->OG Tryz.prog main H Shun Φ (G (b.at (a.put o.dst x) (.inRegion ops rest::k)) cs) w1 n):OG Tryz.prog main H Shun Φ (G (b.at a (.inRegion ops (i::rest)::k)) cs) w n:=
 fqd (F:=rg) rel ho hw hk (af md _ (by simp[okOp,j])) (opr_ld j hv) rfl h
def og_st (rel:Rel H v w) (ho:ops[i]? =some o) (j:o.op=.store t y z) (hw:Region.wanted o (yielded ops a.tmps)=true) (hk:b.kind≠ .early) (hv:(Instr.storeAt t (a.eval y) (a.eval z)).run PV v=.ok () v')
    (h: ∀w1,Rel H v' w1->OG Tryz.prog main H Shun Φ (G (b.at (a.put o.dst undef) (.inRegion ops rest::k)) cs) w1 n):OG Tryz.prog main H Shun Φ (G (b.at a (.inRegion ops (i::rest)::k)) cs) w n:=
 fky (F:=rg) rel ho hw hk (af md _ (by simp[okOp,j])) (opr_st j hv) (ffc _ _ _ v rel.objs _ _ hv) h
end
noncomputable abbrev pkC:Code:=zw Tryz.f116
noncomputable abbrev fay:Code:=cR (cR pkC)
noncomputable abbrev pkA:Code:=cT (cR (cL (cR pkC)))
noncomputable abbrev ir:Array Oper:=cOps (cL (cR pkA))
noncomputable abbrev fc5:Code:=cR (cR pkA)
abbrev pB (kind:CallKind):Frame:={ (default:Frame) with fn:=116,kind:=kind }
section
variable {main:Bool} {H:Hide} {Shun:Loc->Prop} {Φ:Goroutine->World->Nat->Prop} {v v' w:World} {n:Nat} {X:Frame} {cs:List Frame}
def fh7 {kind:CallKind} {p:Addr} {j:Value} {a:Act} (hk:kind=.normal\/kind=.deferred) (rel:Rel H v w) (h0:a.eval (.tmp 0)=.pointer (some p)) (hd:a.defers=[]) (hsz:24<=a.tmps.size) (hl:(Instr.loadAt 147 (.pointer (some (p.add 1)))).run PV v=.ok j v)
    (h: ∀w1,Rel H v w1->OG Tryz.prog main H Shun Φ (G (ur kind j X) cs) w1 n):OG Tryz.prog main H Shun Φ (G ((pB kind).at a [.code fay]) (X::cs)) w n:=by
 have B:kind≠ .early:=by rcases hk with rfl|rfl <;>simp
 obtain⟨L,A,m,rfl⟩:=f6o a hsz;rcases L with _|⟨x0,_|⟨x1,_|⟨x2,_|⟨x3,_|⟨x4,_|⟨x5,_|⟨x6,_|⟨x7,_|⟨x8,_|⟨x9,_|⟨I,_|⟨Y,_|⟨M,_|⟨C,_|⟨aa,_|⟨O,_|⟨D,_|⟨ad,_|⟨ab,_|⟨J,_|⟨W,_|⟨ac,_|⟨U,_|⟨R,tl⟩⟩⟩⟩⟩⟩⟩⟩⟩⟩⟩⟩⟩⟩⟩⟩⟩⟩⟩⟩⟩⟩⟩⟩ <;>first|(simp at m;done)|skip
 have h0:x0=.pointer (some p):=h0;have hd:A=[]:=hd;subst h0;subst hd;refine uv (rm ?_);refine ov (.pointer (some p)) w ?_;refine ov (.pointer (some p)) w ?_;refine ov (.pointer (some (p.add 1))) w ?_;walk_nrm;refine frb (t:=147) (y:=.tmp 22) rel rfl rfl rfl B hl λw1 q=>?_;walk_nrm;refine ox j w1 ?_;walk_nrm;refine u7 (fiv (ze hk rfl Tryz.func116 (x:=j) ?_ (h w1 q)));exact resultsC_tmp (t:=2) (show Tryz.f116.results=#[.tmp 2] from rfl) _
def frc (p:Addr) (k:Nat) (a:Act):Prop:=a.eval (.tmp 0)=.pointer (some p)/\a.eval (.tmp 12)=.chan (some k)/\a.defers=[]/\24<=a.tmps.size
def frd {kind:CallKind} {p:Addr} {hd:Option Addr} {args:Array Value} (hk:kind=.normal\/kind=.deferred) (rel:Rel H v w) (hp:args.getD 0 undef=.pointer (some p)) (hl:(Instr.loadAt 147 (.pointer (some (p.add 1)))).run PV v=.ok (.pointer hd) v)
    (h1: ∀q,hd=some q-> ∀w1,Rel H v w1->OG Tryz.prog main H Shun Φ (G (ur kind (.pointer (some q)) X) cs) w1 n)
    (h2:hd=none-> ∃k,(Instr.loadAt 146 (.pointer (some p))).run PV v=.ok (.chan (some k)) v/\ ∀a w1,Rel H v w1->frc p k a->OG Tryz.prog main H Shun Φ (G ((pB kind).at a [.inRegion ir [0,1,2],.code fc5,.code fay]) (X::cs)) w1 n):
    OG Tryz.prog main H Shun Φ (G (Frame.enter Tryz.prog 116 args kind) (X::cs)) w n:=by
 have C:kind≠ .early:=by rcases hk with rfl|rfl <;>simp
 rw[enter_at Tryz.func116 rfl];obtain⟨L,j,hL,hg⟩:=fa5 args Tryz.f116.ntmps;rw[hL];have j:24<=L.length:=j;rcases L with _|⟨x0,_|⟨x1,_|⟨x2,_|⟨x3,_|⟨x4,_|⟨x5,_|⟨x6,_|⟨x7,_|⟨x8,_|⟨x9,_|⟨M,_|⟨ab,_|⟨R,_|⟨I,_|⟨ac,_|⟨U,_|⟨J,_|⟨ah,_|⟨ad,_|⟨O,_|⟨aa,_|⟨ae,_|⟨Y,_|⟨W,tl⟩⟩⟩⟩⟩⟩⟩⟩⟩⟩⟩⟩⟩⟩⟩⟩⟩⟩⟩⟩⟩⟩⟩⟩ <;>first|(simp at j;done)|skip
 have B:=(hg 0).trans hp;simp only[f1y] at B;subst B;refine uv (rm ?_);refine ov (.pointer none) w ?_;walk_nrm;refine u7 (uv (uv (rm ?_)));refine ov (.pointer (some p)) w ?_;refine ov (.pointer (some p)) w ?_;refine ov (.pointer (some (p.add 1))) w ?_;walk_nrm;refine frb (t:=147) (y:=.tmp 6) rel rfl rfl rfl C hl λw1 A=>?_;walk_nrm;cases hd with
 | some q=>
   refine ov (.bool false) w1 ?_;walk_nrm;refine u7 (xl (t:=false) rfl (oa ?_));exact fh7 hk A rfl rfl fi hl λw2 m=>h1 q rfl w2 m
 | none=>
   obtain⟨k,D,h2⟩:=h2 rfl;refine ov (.bool true) w1 ?_;walk_nrm;refine u7 (xl (t:=true) rfl (uv (rm ?_)));refine ov (.pointer (some p)) w1 ?_;refine ov (.pointer (some p)) w1 ?_;refine ov (.pointer (some p)) w1 ?_;walk_nrm;refine frb (t:=146) (y:=.tmp 11) A rfl rfl rfl C D λw2 m=>?_;walk_nrm;refine u7 (uv (rm ?_));exact h2 _ w2 m ⟨rfl,rfl,rfl,by simp⟩
end
end Go.Proofs.YtelecjnabeokeaaGreatDoor
namespace Go.Proofs.YtelecjnabeokeaaGreatDoor
open Go Go.Conc Go.RowKit
attribute [local go_sem] f6p xz zn
section
variable {main:Bool} {H:Hide} {Shun:Loc->Prop} {Φ:Goroutine->World->Nat->Prop} {v v' w:World} {n:Nat} {X:Frame} {cs:List Frame}
def fw4 {kind:CallKind} {p:Addr} {k:Nat} {y q:Value} {ok:Bool} {a:Act} {v3:World} (hk:kind=.normal\/kind=.deferred) (rel:Rel H v w) (ha:frc p k a)
    (D:(Instr.storeAt 110 (.pointer (some ⟨v.heap.size,0,none⟩)) y).run PV (v.alloc (.cells zero110 110))=.ok () v3) (I:(Instr.storeAt 147 (.pointer (some (p.add 1))) (.pointer (some ⟨v.heap.size,0,none⟩))).run PV v3=.ok () v') (hl:(Instr.loadAt 147 (.pointer (some (p.add 1)))).run PV v'=.ok q v')
    (h: ∀w1,Rel H v' w1->OG Tryz.prog main H Shun Φ (G (ur kind q X) cs) w1 n):
    OG Tryz.prog main H Shun Φ (G ((pB kind).at (a.put (some 13) (.tuple #[goInt 0,.bool ok,y])) [.inRegion ir [1,2],.code fc5,.code fay]) (X::cs)) w n:=by
 have j:kind≠ .early:=by rcases hk with rfl|rfl <;>simp
 obtain⟨h0,Y,hd,hsz⟩:=ha;obtain⟨L,J,m,rfl⟩:=f6o a hsz;rcases L with _|⟨x0,_|⟨x1,_|⟨x2,_|⟨x3,_|⟨x4,_|⟨x5,_|⟨x6,_|⟨x7,_|⟨x8,_|⟨x9,_|⟨R,_|⟨ae,_|⟨W,_|⟨M,_|⟨ah,_|⟨aa,_|⟨O,_|⟨ap,_|⟨ak,_|⟨U,_|⟨ad,_|⟨an,_|⟨ac,_|⟨ab,tl⟩⟩⟩⟩⟩⟩⟩⟩⟩⟩⟩⟩⟩⟩⟩⟩⟩⟩⟩⟩⟩⟩⟩⟩ <;>first|(simp at m;done)|skip
 have h0:x0=.pointer (some p):=h0;have hd:J=[]:=hd;subst h0;subst hd;dsimp only[ir,pkA,pkC,zw,cOps,cL,cR,cT,Tryz.f116];walk_nrm;refine ox (goInt 0) w ?_;refine ov (.bool true) w ?_;walk_nrm;refine u7 (fcf (xl (t:=true) rfl (uv (rm ?_))));refine ox y w ?_;walk_nrm;refine fqd (F:=rg) (v1:=v.alloc (.cells zero110 110)) (x:=.pointer (some ⟨v.heap.size,0,none⟩)) rel rfl rfl j (af md _ rfl) gw rfl λw1 A=>?_;walk_nrm;refine og_st (t:=110) (y:=.tmp 3) (z:=.tmp 16) A rfl rfl rfl j D λw2 B=>?_;walk_nrm;refine u7 (rm ?_);refine ov (.pointer (some p)) w2 ?_;refine ov (.pointer (some p)) w2 ?_;refine ov (.pointer (some (p.add 1))) w2 ?_;walk_nrm;refine og_st (t:=147) (y:=.tmp 19) (z:=.tmp 3) B rfl rfl rfl j I λw3 C=>?_;walk_nrm;refine u7 (fg3 ?_);exact fh7 hk C rfl rfl fi hl h
def og_pk3 {kind:CallKind} {p:Addr} {k:Nat} {m z:Value} {a:Act} (hk:kind=.normal\/kind=.deferred) (rel:Rel H v w) (ha:frc p k a) (hl:(Instr.loadAt 147 (.pointer (some (p.add 1)))).run PV v=.ok m v)
    (h: ∀w1,Rel H v w1->OG Tryz.prog main H Shun Φ (G (ur kind m X) cs) w1 n):
    OG Tryz.prog main H Shun Φ (G ((pB kind).at (a.put (some 13) (.tuple #[goInt (-1),.bool false,z])) [.inRegion ir [1,2],.code fc5,.code fay]) (X::cs)) w n:=by
 have ac:kind≠ .early:=by rcases hk with rfl|rfl <;>simp
 obtain⟨h0,J,hd,hsz⟩:=ha;obtain⟨L,q,j,rfl⟩:=f6o a hsz;rcases L with _|⟨x0,_|⟨x1,_|⟨x2,_|⟨x3,_|⟨x4,_|⟨x5,_|⟨x6,_|⟨x7,_|⟨x8,_|⟨x9,_|⟨C,_|⟨W,_|⟨I,_|⟨A,_|⟨Y,_|⟨M,_|⟨B,_|⟨ad,_|⟨aa,_|⟨D,_|⟨U,_|⟨ab,_|⟨R,_|⟨O,tl⟩⟩⟩⟩⟩⟩⟩⟩⟩⟩⟩⟩⟩⟩⟩⟩⟩⟩⟩⟩⟩⟩⟩⟩ <;>first|(simp at j;done)|skip
 have h0:x0=.pointer (some p):=h0;have hd:q=[]:=hd;subst h0;subst hd;dsimp only[ir,pkA,pkC,zw,cOps,cL,cR,cT,Tryz.f116];walk_nrm;refine ox (goInt (-1)) w ?_;refine ov (.bool false) w ?_;walk_nrm;refine u7 (fcf (xl (t:=false) rfl (oa (fg3 ?_))));exact fh7 hk rel rfl rfl fi hl h
end
end Go.Proofs.YtelecjnabeokeaaGreatDoor
namespace Go.Proofs.YtelecjnabeokeaaGreatDoor
open Go Go.Conc Go.RowKit
def fh8 {H:Hide} {v w:World} (rel:Rel H v w) {k cap s r:Nat} {buf:Array Value} {cl:Bool} (hk:v.heap[k]? =some (.chan cap buf cl s r false)) (m:cap≠0):H k=none:=by
 cases e:H k with
 | none=>rfl
 | some o=>
   obtain⟨h1,h2⟩:=rel.laid k o e;rw[hk] at h1;cases h1;rcases h2 with⟨_,_,h,_⟩|⟨h,_⟩|⟨x,j,h,_⟩
   ·cases h
   ·cases h
   ·injection h with h1 h2 h3 h4 h5 h6
    rcases x.ok with⟨h,_⟩|⟨_,h,_⟩
    ·exact absurd (h1.trans h) m
    ·rw[h] at h6;cases h6
def virt116:rg[116]? =some peekV:=by rw[wy,Tryz.func116];rfl
section
variable {Stop:Frame->List Frame->World->Prop} {g:Frame} {l:List Frame} {v:World} {args:Array Value} {kind:CallKind}
def v_peek (A:VS Tryz.prog rg Stop) (L:Lv Tryz.prog rg Stop (Frame.enter PV 116 args kind,g::l,v)):
    ∃x v',(∃d p,args.getD 0 undef=.pointer (some p)/\PeekR p (reW v v.tape d) v' x)/\Ahead PV Stop (Frame.enter PV 116 args kind,g::l,v) (ur kind x g,l,v'):=by
 obtain⟨x,v',⟨d,p,h1,h2⟩,ha⟩:=fgw (R:=λx v'=> ∃d p,args.getD 0 undef=.pointer (some p)/\PeekR p (reW v v.tape d) v' x) A virt116 rfl L (by
    obtain⟨Ls,m,hL,h0⟩:=fa5 args 24;show VW Tryz.prog rg Stop (.seq chkR fo6) _ { tmps:=args++Array.replicate (24-args.size) undef,defers:=[] } v;rw[hL];rcases Ls with _|⟨x0,_|⟨x1,_|⟨x2,_|⟨x3,_|⟨x4,_|⟨x5,_|⟨x6,_|⟨x7,_|⟨x8,_|⟨x9,_|⟨q,_|⟨B,_|⟨C,_|⟨D,_|⟨I,_|⟨J,_|⟨M,tl⟩⟩⟩⟩⟩⟩⟩⟩⟩⟩⟩⟩⟩⟩⟩⟩⟩ <;>first|(simp at m;done)|skip
    refine fmm A λd hv=>?_;have h:=v_peekB A x0 x1 x2 x3 x4 x5 x6 x7 x8 x9 q B C D I J M tl (v:=reW v v.tape d);intro b k l hl L;obtain⟨e,a',v',fr',⟨rfl,hd,p,hp,hR⟩,j,ha⟩:=h b k l hl L;refine⟨_,a',v',fr',⟨.inr rfl,hd,_,f0x (t:=2) (show peekV.results=#[.tmp 2] from rfl) _ _ _,d,p,?_,hR⟩,j,ha⟩;rw[mh h0 rfl];exact hp)
 exact⟨x,v',⟨d,p,h1,h2⟩,ha⟩
end
def fed (k:Nat) (z y:Value) (ok:Bool):commResult #[rcase k z] .select 0 y ok=.tuple #[goInt 0,.bool ok,y]:=by simp[commResult,rcase]
def fjk (k:Nat) (z y:Value) (ok:Bool):commResult #[rcase k z] .select (-1) y ok=.tuple #[goInt (-1),.bool ok,z]:=by simp[commResult,rcase]
def fli {P:Program} {kind:CallKind} {a:Act} {k:Nat} {z y:Value} {ok:Bool} {cs:List Frame} {j:Int}:(G ((pB kind).at a [.inRegion ir [0,1,2],.code fc5,.code fay]) cs).finishComm P #[rcase k z] .select j y ok=
    G ((pB kind).at (a.put (some 13) (commResult #[rcase k z] .select j y ok)) [.inRegion ir [1,2],.code fc5,.code fay]) cs:=by
 unfold Goroutine.finishComm;generalize commResult #[rcase k z] .select j y ok=x;show G (((pB kind).at a [.inRegion ir [0,1,2],.code fc5,.code fay]).finish x) cs=_;rw[f0i];rfl
def spec_peek:SpecOk Tryz.prog rg 116:=by
 intro Stop WS Shun Φ args kind g l v A hR Fx Sx H S St h X cs gs w T q hk hlt L I C hD ah;obtain⟨x,v',⟨d,p,hp,W⟩,ha⟩:=v_peek A L;have relu:Rel H (reW v v.tape d) w:=I.rel.re' v.tape d;generalize reW v v.tape d=u at W relu;have an:kind≠ .early:=by rcases hk with rfl|rfl <;>simp
 have fin: ∀{x:Value} {v' w':World} {gs':Array Goroutine} {T':Trace} {q':Nat->Nat} {g':Goroutine},Ahead PV Stop (Frame.enter PV 116 args kind,g::l,v) (ur kind x g,l,v')->(OG Tryz.prog (h==0) H Shun (λa w' k=>a=G (ur kind x X) cs/\Rel H v' w'/\k=0) g' w' 0)->gs'.size=gs.size->Deaf T' h=0->Hold Tryz.prog St Shun u5 S h g' T' gs' w' q'->
  Leads Tryz.prog Φ gs' w' T':=λ{x v' w' gs' T' q' g'} ha Y hsz hD C=>by
    refine(C.og I.prot Y hD).trans λgs' w' T' hh=>?_;obtain⟨a',q',⟨rfl,aB,aE⟩,m,C'⟩:=hh;exact ah _ _ _ _ _ _ _ _ _ ha (I.step aB) (m.trans hsz) C' aE
 cases W with
 | has q0 hl=>
   refine fin ha (frd hk relu hp hl (λq1 e w1 j=>?_) (λe=>by cases e)) rfl hD C;cases e;exact .now λd=>⟨rfl,j.re _ _,rfl⟩
 | empty k cap s r hl ad O U=>
   have Y:=frd (main:=h==0) (Shun:=Shun) (X:=X) (cs:=cs) (n:=0) (Φ:=λa w' n=>(∃a0,a=G ((pB kind).at a0 [.inRegion ir [0,1,2],.code fc5,.code fay]) (X::cs)/\frc p k a0)/\Rel H v' w'/\n=0) hk relu hp hl (λq1 e=>by cases e)
    (λ_=>⟨k,ad,λa w1 j B=>.now λd=>⟨⟨a,rfl,B⟩,j.re _ _,rfl⟩⟩)
   refine(C.og I.prot Y hD).trans λaD w1 T1 hh=>?_;obtain⟨g1,q1,⟨⟨a0,rfl,B⟩,j,aa⟩,hsz1,C1⟩:=hh;have M:=fh8 j O U;have hc:w1.heap[k]? =some (.chan cap #[] false s r false):=by rw[<- j.same _ M];exact O
   have ab: ∀d,stepG Tryz.prog (h==0) (G ((pB kind).at a0 [.inRegion ir [0,1,2],.code fc5,.code fay]) (X::cs)) (w1.at d)=.comm (G ((pB kind).at a0 [.inRegion ir [0,1,2],.code fc5,.code fay]) (X::cs)) #[rcase k (.agg zero110)] false .select (w1.at d) #[]:=λd=>by
    have hr:=fg2 (P:=Tryz.prog) (ρ:=a0.eval) (o:=ir[0]) (e:=110) (y:=.tmp 12) (w:=w1.at d) rfl (Tryz.zero110 _);rw[B.2.1] at hr;rw[stepG_comm (o:=ir[0]) rfl rfl an qa,listed_none pu];rfl
   refine(C1.recv_default rfl aa ab hc).trans λak w2 T2 hh=>?_;obtain⟨q2,d2,rfl,m,R,C2⟩:=hh;rw[fli,fjk] at C2;exact fin ha (og_pk3 hk (j.re w1.tape d2) B hl λw3 J=>.now λd=>⟨rfl,J.re _ _,rfl⟩) (m.trans hsz1) R C2
 | gets k cap s r buf cl y ok v1 v3 v' aG hl ad O U ae ap aA ac=>
   have Y:=frd (main:=h==0) (Shun:=Shun) (X:=X) (cs:=cs) (n:=0) (Φ:=λa w' n=>(∃a0,a=G ((pB kind).at a0 [.inRegion ir [0,1,2],.code fc5,.code fay]) (X::cs)/\frc p k a0)/\Rel H u w'/\n=0) hk relu hp hl (λq1 e=>by cases e)
    (λ_=>⟨k,ad,λa w1 j B=>.now λd=>⟨⟨a,rfl,B⟩,j.re _ _,rfl⟩⟩)
   refine(C.og I.prot Y hD).trans λaD w1 T1 hh=>?_;obtain⟨g1,q1,⟨⟨a0,rfl,B⟩,j,aa⟩,hsz1,C1⟩:=hh;have M:=fh8 j O U;have hc:w1.heap[k]? =some (.chan cap buf cl s r false):=by rw[<- j.same _ M];exact O
   have ab: ∀d,stepG Tryz.prog (h==0) (G ((pB kind).at a0 [.inRegion ir [0,1,2],.code fc5,.code fay]) (X::cs)) (w1.at d)=.comm (G ((pB kind).at a0 [.inRegion ir [0,1,2],.code fc5,.code fay]) (X::cs)) #[rcase k (.agg zero110)] false .select (w1.at d) #[]:=λd=>by
    have hr:=fg2 (P:=Tryz.prog) (ρ:=a0.eval) (o:=ir[0]) (e:=110) (y:=.tmp 12) (w:=w1.at d) rfl (Tryz.zero110 _);rw[B.2.1] at hr;rw[stepG_comm (o:=ir[0]) rfl rfl an qa,listed_none pu];rfl
   rcases ae with⟨hb,rfl,rfl,rfl⟩|⟨rfl,rfl,rfl,rfl,rfl⟩
   ·refine(C1.recv_buf rfl aa ab hc hb (λi s hs=>⟨λe=>(I.prot.seats i s hs).1 (by rw[e];exact M),?_⟩)).trans λak w2 T2 hh=>?_
    ·cases e:s.D k with
     | none=>rfl
     | some o=>exact absurd M ((I.prot.seats i s hs).2 k o e)
    obtain⟨q2,d2,rfl,m,R,C2⟩:=hh;have aF:sg (.chan cap buf cl s r false)=true:=j.chans I.on k _ M O;have aC:Rel H (u.setChan k cap (buf.extract 1 buf.size) cl s (r+1) false) ((w1.at d2).setChan k cap (buf.extract 1 buf.size) cl s (r+1) false):=
     (j.re w1.tape d2).setBlock M rfl λ_=>by
       simp[sg] at aF ⊢;omega
    rw[fli,fed] at C2;exact fin ha (fw4 (ok:=true) hk aC B ap aA ac λw3 J=>.now λd=>⟨rfl,J.re _ _,rfl⟩) (m.trans hsz1) R C2
   ·refine(C1.recv_closed rfl aa ab hc).trans λak w2 T2 hh=>?_;obtain⟨q2,d2,rfl,m,R,C2⟩:=hh;rw[fli,fed] at C2;exact fin ha (fw4 (ok:=false) hk (j.re w1.tape d2) B ap aA ac λw3 J=>.now λd=>⟨rfl,J.re _ _,rfl⟩) (m.trans hsz1) R C2
attribute [local go_sem] f6p xz zn
def fjl {P:Program} {ρ:Operand->Value} {o:Oper} {f:FuncId} {fn:Func} {y:Operand} {ts:Array TypeId} (ho:o.op=.call { callee:=.value (.func f),args:=#[y],argTypes:=ts }) (hf:P.funcs[f]? =some fn) (hn:(fn.name== "runtime.NumGoroutine")=false) (hb:fn.body.isNone=false) (hρ:ρ (.func f)=.func (.func f) #[] #[]) (w:World):
    (execOp ρ o).runT P w #[]=(.ok (.enter f #[ρ y]) w,#[]):=by
 have e:execOp ρ o=callFunc f #[ρ y]:=by
    unfold execOp;rw[ho];show(Deferred.ofValue (ρ (.func f)) (#[y].map ρ) >>= λd=>invoke d.target d.args)=_;rw[hρ];show callFunc f (#[]++ #[y].map ρ++ #[])=_;simp
 rw[e]
 have e1 : (callFunc f #[ρ y]).runT P w #[]=(match P.funcs[f]? with
        | none=>Go.stuck "call: no such function"
        | some fn=>if fn.name== "runtime.NumGoroutine" then Pure.pure Next.numGoroutine else if fn.body.isNone then (do
           mark (.extern f)
           if let some e:=Extern.findNext fn then return <- e #[ρ y]
           match Extern.find fn with
           | some e=>Pure.pure (.value (<- e #[ρ y]))
           | none=>if fn.name.endsWith ".init" && !fn.name.startsWith "(" && !fn.name.startsWith "gosem." then Pure.pure (.value (.tuple #[])) else unsupported (.extern fn.name)) else Pure.pure (.enter f #[ρ y]):Sem Next).runT P w #[]:=rfl
 rw[e1,hf];simp only[hn,hb,f0g,f0s];rfl
def flj {P:Program} {ρ:Operand->Value} {o:Oper} {e:TypeId} {y x:Operand} {z:Value} {w:World} (ho:o.op=.select #[{ chan:=y,send:=some x,elem:=e }] false) (hz:(zeroValue e).runT P w #[]=(.ok z w,#[])):
    (execOp ρ o).runT P w #[]=(.ok (.comm #[{ chan:=ρ y,send:=some (ρ x),zero:=z }] false .select) w,#[]):=by
 unfold execOp;rw[ho];have h1:(zeroValue e).run P w=.ok z w:=by rw[<- f0d _ _ _ #[],hz]
 have h2:(zeroValue e).events P w #[]=#[]:=by rw[show(zeroValue e).events P w #[]=((zeroValue e).runT P w #[]).2 from rfl,hz]
 dsimp only;rw[f3y];simp only[List.mapM_cons,List.mapM_nil];refine f2v ?_ ?_
 ·rw[f0d];simp[go_sem,h1]
 ·show Sem.events P _ w #[]=#[];simp[go_sem,h1,h2]
noncomputable abbrev ptC:Code:=zw Tryz.f90
noncomputable abbrev ptR1:Array Oper:=cOps (cL (cL (cR ptC)))
noncomputable abbrev fee:Code:=cR (cL (cR ptC))
noncomputable abbrev ip:Code:=cR (cR ptC)
noncomputable abbrev fwl:Code:=cR ip
noncomputable abbrev fef:Array Oper:=cOps (cL fwl)
noncomputable abbrev fjm:Code:=cR fwl
abbrev tB (kind:CallKind):Frame:={ (default:Frame) with fn:=90,kind:=kind }
def fmv (x0 q:Value) (a:Act):Prop:=a.eval (.tmp 0)=x0/\a.eval (.tmp 3)=q/\a.defers=[]/\15<=a.tmps.size
def fre (k:Nat) (f:Value) (a:Act):Prop:=a.eval (.tmp 10)=.chan (some k)/\a.eval (.tmp 11)=f/\a.defers=[]/\15<=a.tmps.size
section
variable {main:Bool} {H:Hide} {Shun:Loc->Prop} {Φ:Goroutine->World->Nat->Prop} {v v' w:World} {n:Nat} {X:Frame} {cs:List Frame}
def og_pt1 {kind:CallKind} {args:Array Value} {x0 x1:Value} (hk:kind=.normal\/kind=.deferred) (rel:Rel H v w) (h0:args.getD 0 undef=x0) (h1:args.getD 1 undef=x1)
    (h: ∀a w1,Rel H (v.alloc (.cells x1.cells 110)) w1->fmv x0 (.pointer (some ⟨v.heap.size,0,none⟩)) a->OG Tryz.prog main H Shun Φ (G (Frame.enter Tryz.prog 87 #[x0] .normal) ((tB kind).at a [.inRegion ptR1 [1],.code fee,.code ip]::X::cs)) w1 n):
    OG Tryz.prog main H Shun Φ (G (Frame.enter Tryz.prog 90 args kind) (X::cs)) w n:=by
 have m:kind≠ .early:=by rcases hk with rfl|rfl <;>simp
 rw[enter_at Tryz.func90 rfl];obtain⟨L,j,hL,hg⟩:=fa5 args Tryz.f90.ntmps;rw[hL];have j:15<=L.length:=j;rcases L with _|⟨x0,_|⟨x1,_|⟨x2,_|⟨x3,_|⟨x4,_|⟨x5,_|⟨x6,_|⟨x7,_|⟨x8,_|⟨x9,_|⟨C,_|⟨D,_|⟨I,_|⟨J,_|⟨M,tl⟩⟩⟩⟩⟩⟩⟩⟩⟩⟩⟩⟩⟩⟩⟩ <;>first|(simp at j;done)|skip
 have q:=(hg 0).trans h0;have A:=(hg 1).trans h1;simp only[f1y,List.getD_cons_succ] at q A;subst q;subst A;refine uv (rm ?_);refine fqd (F:=rg) (v1:=v.alloc (.cells x1.cells 110)) (x:=.pointer (some ⟨v.heap.size,0,none⟩)) rel rfl rfl m (af md _ rfl) rfl rfl λw1 B=>?_;walk_nrm;refine ox (.bool false) w1 ?_;walk_nrm;refine u7 (uv (uv (rm ?_)));refine ox x0 w1 ?_;walk_nrm;have hc: ∀d,_:=λd=>fjl (P:=Tryz.prog) (ρ:=Act.eval { tmps:=(x0::x1::x2:: .pointer (some ⟨v.heap.size,0,none⟩):: .bool false::x0::x6::x7::x8::x9::C::D::I::J::M::tl).toArray,defers:=[] }) (o:=ptR1[1]) (y:=.tmp 5) rfl Tryz.func87 fd fd rfl (w1.at d);refine fmn (o:=ptR1[1]) rfl rfl m (λd=>by rw[<- f0d _ _ _ #[]];exact f3q Prod.fst (hc d)) (λd e he=>?_) (h _ _ B ⟨rfl,rfl,rfl,by simp⟩);rw[show(execOp _ ptR1[1]).events Tryz.prog (w1.at d) #[]=_ from f3q Prod.snd (hc d)] at he;simp at he
def fw5 {kind:CallKind} {a:Act} {x:Value}:((tB kind).at a [.inRegion ptR1 [1],.code fee,.code ip]).finish x=(tB kind).at (a.put (some 6) x) [.inRegion ptR1 [],.code fee,.code ip]:=by rw[f0i];rfl
def og_pt2 {kind:CallKind} {x0 q:Value} {a:Act} (hk:kind=.normal\/kind=.deferred) (ha:fmv x0 q a) (h:OG Tryz.prog main H Shun Φ (G (ur kind (.bool false) X) cs) w n):
    OG Tryz.prog main H Shun Φ (G (((tB kind).at a [.inRegion ptR1 [1],.code fee,.code ip]).finish (.bool true)) (X::cs)) w n:=by
 have I:kind≠ .early:=by rcases hk with rfl|rfl <;>simp
 obtain⟨C,D,B,m⟩:=ha;obtain⟨L,A,j,rfl⟩:=f6o a m;rcases L with _|⟨x0,_|⟨x1,_|⟨x2,_|⟨x3,_|⟨x4,_|⟨x5,_|⟨x6,_|⟨x7,_|⟨x8,_|⟨x9,_|⟨J,_|⟨M,_|⟨O,_|⟨R,_|⟨U,tl⟩⟩⟩⟩⟩⟩⟩⟩⟩⟩⟩⟩⟩⟩⟩ <;>first|(simp at j;done)|skip
 have hd:A=[]:=B;subst hd;rw[fw5];walk_nrm;refine u7 (xl (t:=true) rfl (uv (rm ?_)));refine ox (.bool false) w ?_;walk_nrm;refine u7 (fiv (ze hk rfl Tryz.func90 (x:=.bool false) ?_ h));exact resultsC_tmp (t:=4) (show Tryz.f90.results=#[.tmp 4] from rfl) _
def og_pt3 {kind:CallKind} {p:Addr} {q f:Value} {k:Nat} {a:Act} (hk:kind=.normal\/kind=.deferred) (rel:Rel H v w) (ha:fmv (.pointer (some p)) q a) (C:(Instr.loadAt 146 (.pointer (some p))).run PV v=.ok (.chan (some k)) v) (hf:(Instr.loadAt 110 q).run PV v=.ok f v)
    (h: ∀a w1,Rel H v w1->fre k f a->OG Tryz.prog main H Shun Φ (G ((tB kind).at a [.inRegion fef [0,1,2],.code fjm]) (X::cs)) w1 n):
    OG Tryz.prog main H Shun Φ (G (((tB kind).at a [.inRegion ptR1 [1],.code fee,.code ip]).finish (.bool false)) (X::cs)) w n:=by
 have m:kind≠ .early:=by rcases hk with rfl|rfl <;>simp
 obtain⟨A,B,O,D⟩:=ha;obtain⟨L,M,j,rfl⟩:=f6o a D;rcases L with _|⟨x0,_|⟨x1,_|⟨x2,_|⟨x3,_|⟨x4,_|⟨x5,_|⟨x6,_|⟨x7,_|⟨x8,_|⟨x9,_|⟨R,_|⟨U,_|⟨W,_|⟨Y,_|⟨aa,tl⟩⟩⟩⟩⟩⟩⟩⟩⟩⟩⟩⟩⟩⟩⟩ <;>first|(simp at j;done)|skip
 have hd:M=[]:=O;have h0:x0=.pointer (some p):=A;have h3:x3=q:=B;subst hd;subst h0;subst h3;rw[fw5];have hR:ip=ip:=rfl
 conv at hR=>lhs;dsimp only[ip,ptC,zw,cOps,cL,cR,Tryz.f90]
 rw[<- hR];clear hR;walk_nrm;refine u7 (xl (t:=false) rfl (oa (uv (uv (rm ?_)))));refine qz (x:=.pointer (some p)) (w1:=w) rfl rfl m (λd=>by clear A B C hf h j;go_simp) (fx8 _) (λ_ _=>rfl) (λd e he=>by first|(simp[go_sem] at he;done)|(have he:e∈(#[]:Array Event):=he;simp at he)) ?_;refine qz (x:=.pointer (some p)) (w1:=w) rfl rfl m (λd=>by clear A B C hf h j;go_simp) (fx8 _) (λ_ _=>rfl) (λd e he=>by first|(simp[go_sem] at he;done)|(have he:e∈(#[]:Array Event):=he;simp at he)) ?_;refine qz (x:=.pointer (some p)) (w1:=w) rfl rfl m (λd=>by clear A B C hf h j;go_simp) (fx8 _) (λ_ _=>rfl) (λd e he=>by first|(simp[go_sem] at he;done)|(have he:e∈(#[]:Array Event):=he;simp at he)) ?_;walk_nrm;refine frb (t:=146) (y:=.tmp 9) rel rfl rfl rfl m C λw1 I=>?_;walk_nrm;refine u7 (rm ?_);refine frb (t:=110) (y:=.tmp 3) I rfl rfl rfl m hf λw2 J=>?_;walk_nrm;refine u7 (uv (rm ?_));exact h _ w2 J ⟨rfl,rfl,rfl,by simp⟩
def og_pt4 {kind:CallKind} {k:Nat} {f:Value} {a:Act} {bb:Value} (hk:kind=.normal\/kind=.deferred) (ha:fre k f a) (h:OG Tryz.prog main H Shun Φ (G (ur kind (.bool true) X) cs) w n):
    OG Tryz.prog main H Shun Φ (G ((tB kind).at (a.put (some 12) (.tuple #[goInt 0,bb])) [.inRegion fef [1,2],.code fjm]) (X::cs)) w n:=by
 have D:kind≠ .early:=by rcases hk with rfl|rfl <;>simp
 obtain⟨B,C,A,m⟩:=ha;obtain⟨L,q,j,rfl⟩:=f6o a m;rcases L with _|⟨x0,_|⟨x1,_|⟨x2,_|⟨x3,_|⟨x4,_|⟨x5,_|⟨x6,_|⟨x7,_|⟨x8,_|⟨x9,_|⟨I,_|⟨J,_|⟨M,_|⟨O,_|⟨R,tl⟩⟩⟩⟩⟩⟩⟩⟩⟩⟩⟩⟩⟩⟩⟩ <;>first|(simp at j;done)|skip
 have hd:q=[]:=A;subst hd;dsimp only[fef,fwl,ip,ptC,zw,cOps,cL,cR,Tryz.f90];walk_nrm;refine ox (goInt 0) w ?_;refine ov (.bool true) w ?_;walk_nrm;refine u7 (fcf (xl (t:=true) rfl (uv (rm ?_))));refine ox (.bool true) w ?_;walk_nrm;refine u7 (fiv (ze hk rfl Tryz.func90 (x:=.bool true) ?_ h));exact resultsC_tmp (t:=4) (show Tryz.f90.results=#[.tmp 4] from rfl) _
def pt_comm {P:Program} {kind:CallKind} {a:Act} {k:Nat} {z f y:Value} {ok:Bool} {cs:List Frame} {j:Int}:(G ((tB kind).at a [.inRegion fef [0,1,2],.code fjm]) cs).finishComm P #[scase k f z] .select j y ok=
    G ((tB kind).at (a.put (some 12) (commResult #[scase k f z] .select j y ok)) [.inRegion fef [1,2],.code fjm]) cs:=by
 unfold Goroutine.finishComm;generalize commResult #[scase k f z] .select j y ok=x;show G (((tB kind).at a [.inRegion fef [0,1,2],.code fjm]).finish x) cs=_;rw[f0i];rfl
def flk (k:Nat) (z y f:Value) (ok:Bool):commResult #[scase k f z] .select 0 y ok=.tuple #[goInt 0,.bool ok]:=by simp[commResult,scase]
end
end Go.Proofs.YtelecjnabeokeaaGreatDoor
namespace Go.Proofs.YtelecjnabeokeaaGreatDoor
open Go Go.Conc Go.RowKit
structure WsOk (WS:Nat->Option SeatD) (Shun:Loc->Prop):Prop where
 ok: ∀j s,WS j=some s->s.ok=true/\s.z=.nilFunc/\ ∃ds c0,c0≠[]/\ ∀g,s.home g↔fbr ds c0 s.c g
 inj: ∀i j s s',WS i=some s->WS j=some s'->s.c=s'.c->i=j
section
variable {P:Program} {main:Bool} {K:World->Prop} {Still Still':Loc->Prop} {B:Nat} {n:Nat} {g:Goroutine} {s:Seat}
def fjn (h: ∀l,Still l->Still' l) {e:Event} (he:EvC Still B e):EvC Still' B e:=by
 obtain⟨a,rfl,h1,h2⟩:=he;exact⟨a,rfl,h _ h1,h2⟩
def faz (h: ∀l,Still l->Still' l) {g2:Goroutine} (ha:AtIn P main K Still B s g g2):AtIn P main K Still' B s g g2:=by
 obtain⟨h1,h2,h3,h4,h5,es,h6,h7⟩:=ha;exact⟨h1,h2,h3,h4,h5,es,λe he=>fjn h (h6 e he),h7⟩
def fof (h: ∀l,Still l->Still' l) {k:Nat} {w:World} (hg:Goes P main (RK K) (DS Still B) (λg _=> ∃g₂,AtIn P main K Still B s g g₂) k g w):Goes P main (RK K) (DS Still' B) (λg _=> ∃g₂,AtIn P main K Still' B s g g₂) k g w:=by
 induction k generalizing g w with
 | zero=>exact λw1 h1=>(hg w1 h1).imp λ_=>faz h
 | succ k ih=>
   rcases hg with hs|⟨hr,hs⟩
   ·exact .inl λw1 h1=>(hs w1 h1).imp λ_=>faz h
   ·refine .inr ⟨hr,λw1 h1=>?_⟩;have hs:=hs w1 h1;cases hgo:stepG P main g w1 with
    | go g' w' es=>
      rw[hgo,goes_go] at hs;rw[goes_go];exact⟨⟨hs.1.1,λe he=>fjn h (hs.1.2 e he)⟩,ih hs.2⟩
    | _=>rw[hgo] at hs;exact hs.elim
def fb0 (h: ∀l,Still l->Still' l) (hs:Sits P main K Still B s n g):Sits P main K Still' B s n g:=by
 rcases hs with⟨k,w,hn,hg⟩|⟨hn,g0,g2,hg,ha⟩
 ·exact .inl ⟨k,w,hn,fof h hg⟩
 ·exact .inr ⟨hn,g0,g2,hg,faz h ha⟩
end
section
variable {P:Program} {St:Nat->Loc->Prop} {Shun:Loc->Prop} {S:Nat->Option SeatD} {h:Nat} {a:Goroutine} {T:Trace} {gs:Array Goroutine} {w:World} {q:Nat->Nat}
def Hold.grow {Hear:Nat->Prop} (C:Hold P St Shun Hear S h a T gs w q) {p:Addr} (hn: ¬Shun (.cell p)):Hold P (λg' l'=>St g' l'\/(g'=h/\l'=.cell p)) Shun Hear S h a T gs w q:=by
 refine⟨⟨λi g hi hg=>?_,C.crew.chans,C.crew.rows,C.crew.keeps,C.crew.inj,C.crew.low,C.crew.hear,C.crew.above⟩,C.here,C.past.grow (λi a ha hw e=>?_) hn,C.hears,C.none⟩
 ·have:=C.crew.idle i g hi hg;cases e:S i with
  | none=>rw[e] at this;exact this
  | some s=>rw[e] at this;exact fb0 (λl hl=>.inl hl) this
 ·rcases C.past.known i a ha qe with h1|⟨h1,_⟩|⟨h1,_⟩
  ·exact h1
  ·rw[h1] at hw;cases hw
  ·rw[e] at h1;exact absurd h1 hn
def Hold.drop {Hear:Nat->Prop} (C:Hold P St Shun Hear S h a T gs w q) (K:Prop):Hold P (λg l=>St g l/\(g=h->K)) Shun Hear S h a T gs w q:=by
 refine⟨⟨λi g hi hg=>?_,C.crew.chans,C.crew.rows,C.crew.keeps,C.crew.inj,C.crew.low,C.crew.hear,C.crew.above⟩,C.here,⟨C.past.clean,λi a ha hm=>?_,λi a ha hw g hs=>C.past.wrote i a ha hw g hs.1,λg l hs=>C.past.apart g l hs.1,C.past.hears,C.past.seen⟩,C.hears,C.none⟩
 ·have:=C.crew.idle i g hi hg;cases e:S i with
  | none=>rw[e] at this;exact this
  | some s=>rw[e] at this;exact fb0 (λl hl=>⟨hl,λe=>absurd e hi⟩) this
 ·rcases C.past.known i a ha hm with h1|⟨h1,g,h2,h3,h4⟩|h1
  ·exact .inl h1
  ·by_cases e:g=h
   ·subst e;obtain⟨x,hx,j⟩:=fy8.1 h2;exact .inl (j▸knows_own hx)
   ·exact .inr (.inl ⟨h1,g,h2,⟨h3,λe'=>absurd e' e⟩,h4⟩)
  ·exact .inr (.inr h1)
end
def fg4 {P:Program} {main:Bool} {b:Frame} {a:Act} {k:List Item} {cs:List Frame} {w:World} {ops:Array Oper} {i c:Nat} {rest:List Nat} {o:Oper} {y z:Operand} {x:Value} (ho:ops[i]? =some o) (j:o.op=.send y z) (hw:Region.wanted o (yielded ops a.tmps)=true) (hk:b.kind≠ .early)
    (hy:a.eval y=.chan (some c)) (hz:a.eval z=x):stepG P main (G (b.at a (.inRegion ops (i::rest)::k)) cs) w=.comm (G (b.at a (.inRegion ops (i::rest)::k)) cs) #[scase c x (.tuple #[])] true .send w #[]:=by
 have e:execOp a.eval o=(Pure.pure (.comm #[scase c x (.tuple #[])] true .send):Sem Next):=by
    unfold execOp;rw[j];show(Pure.pure (.comm #[{ chan:=a.eval y,send:=some (a.eval z),zero:=.tuple #[] }] true .send):Sem Next)=_;rw[hy,hz];rfl
 rw[stepG_comm ho hw hk qe,listed_none qe]
abbrev mkC (buf:Array Value) (s q:Nat):HidC:={ cap:=1,buf,s,q,tm:=true,rt:=false,ok:=.inr ⟨rfl,rfl,rfl⟩ }
abbrev mkD:HidC:={ cap:=0,buf:=#[],s:=0,q:=0,tm:=false,rt:=false,ok:=.inl ⟨rfl,rfl,rfl,rfl,rfl⟩ }
abbrev fac (Sx:Nat->Option SeatD) (h:Nat) (s:SeatD):Nat->Option SeatD:=λi=>if i=h then some s else Sx i
def do_back {Stop:Frame->List Frame->World->Prop} {WS Sx:Nat->Option SeatD} {Shun:Loc->Prop} {Φ:Array Goroutine->World->Trace->Prop} {Fx J:Nat->Option (Obj×Option Obj)} {s0:St} {h j n k s r kc sz:Nat} {kind:CallKind} {X g:Frame} {cs l:List Frame} {sj:SeatD} {a' a2 a3:Act} {rest:List Nat} {x1:Value}
    {ds:List Deferred} {c0:List Frame} {rk:Option Obj}
    (A:VS Tryz.prog rg Stop) (hW:WsOk WS Shun) (hk:kind=.normal\/kind=.deferred) (hh:h<sz) (hj:WS j=some sj) (I:sj.c=k) (bF:j≠h) (Y:Sx j=none) (aE:Sx h=none) (be: ∀i s,Sx i=some s->s.c≠k)
    (an: ∀g,sj.home g↔fbr ds c0 sj.c g) (hF: ∀b x,Fx b=some x->J b=some x/\b≠k/\b≠n+1) (aP:Fx k=none) (aC:k≠n+1)
    (aJ:J k=some (.chan 1 #[] false s r true,some (.chan 0 #[] false kc kc false))) (aU:J (n+1)=some (.chan 0 #[] false 0 0 false,rk)) (aS:J (n+2)=some (.cells #[] 163,some (.cells #[.chan (some (n+1))] 163)))
    (aH: ∀b o,sj.D b=some o-> ∃o',J b=some (o',some o)) (aF: ∀b o,sj.D b=some o-> ∃c e f,o=.cells c e f) (hB:sj.B<=n+2) (a8: ¬Shun (.cell ⟨n+2,0,none⟩))
    (a5:a'.defers=[]) (aV:a'.tmps.getD 0 undef=.chan (some k)) (aG:11<=a'.tmps.size) (a0:a2.defers=ds) (a9:a2.tmps.getD 6 undef=.chan (some k)) (aD:a2.tmps.size=12) (aW:fmo ⟨n+2,0,none⟩ (n+1) x1 rest a3)
    (L0:Lv Tryz.prog rg Stop s0) (ac:fl0 Tryz.prog rg Stop WS Shun Φ Fx Sx h sz s0 (λx=>ur kind x g) l (λx=>ur kind x X) cs):
    fl0 Tryz.prog rg Stop WS Shun Φ J (fac Sx h (uw kind X cs n)) j sz s0 ((mB kind).at a' [.inRegion oe [0],.code zx]).finish (g::l) (dB.at a3 [.inRegion dOps (2::rest)]).finish (wB.at a2 callK::c0):=by
 intro x v' w' H' S' St' gs' T' q' ha I' hsz C' bk
 have m: ∀b o ro,J b=some (o,ro)->v'.heap[b]? =some o/\w'.heap[b]? =ro/\H' b=some o:=λb o ro e=>by
    obtain⟨e1,e2⟩:=I'.fix b _ e;exact⟨(I'.rel.laid b o e1).1,by rw[I'.rel.kept b o e1];exact e2,e1⟩
 have ba:w'.cell? ⟨n+2,0,none⟩=some (.chan (some (n+1))):=by
    have:=(m _ _ _ aS).2.1;simp[World.cell?,this]
 have bm:=og_back (main:=j==0) (H:=H') (Shun:=Shun) (w:=w') (n:=0) (cs:=wB.at a2 callK::c0) (x:=x) ba (.inr a8) aW
    (Φ:=λa w1 k1=> ∃a4:Act,a=G (dB.at a4 [.inRegion dOps [3]]) (wB.at a2 callK::c0)/\a4.eval (.tmp 2)=.chan (some (n+1))/\a4.eval (.tmp 4)=x/\a4.defers=[]/\(∃d,w1=w'.at d)/\k1=0)
    (λa4 e2 e4 ed=>.now λd=>⟨a4,rfl,e2,e4,ed,⟨d,rfl⟩,rfl⟩)
 refine(C'.og I'.prot bm bk).trans λbG w1 T1 bC=>?_;obtain⟨_,q1,⟨a4,rfl,e2,e4,ed,⟨d1,rfl⟩,a7⟩,hsz1,C1⟩:=bC;have bu:S' h=some (uw kind X cs n):=I'.sus h _ fi;have aR:S' j=none:=C1.none;obtain⟨bc,br,_⟩:=hW.ok j sj hj;have ah:w'.heap[k]? =some (.chan 0 #[] false kc kc false):=(m _ _ _ aJ).2.1
 have hN :o8 Tryz.prog St' S' j (w'.at d1) sj:=by
    refine⟨⟨kc,by rw[I];exact ah⟩,aF,λb o hb=>?_,λi s1 ad e=>?_,?_⟩
    ·obtain⟨o',e⟩:=aH b o hb;exact(m _ _ _ e).2.1
    ·rcases I'.only i s1 ad with h1|h1
     ·have:=hW.inj i j s1 sj h1 hj e;subst this;rw[aR] at ad;cases ad
     ·simp only[fac] at h1;split at h1
      ·cases h1;exact aC (by rw[<- I,<- e];rfl)
      ·exact be i s1 h1 (e.trans I)
    ·have h1:n+2<w'.heap.size:=by
      have:=(m _ _ _ aS).2.1;exact(fx5.1 this).1
     have h2:k<w'.heap.size:=(fx5.1 ah).1;refine⟨?_,?_⟩
     ·show sj.B<=w'.heap.size;omega
     ·show sj.c<w'.heap.size;rw[I];exact h2
 have U:Sits Tryz.prog (j==0) (Keeps sj.D) (St' j) sj.B sj.seat 10 (Go.Conc.served (G (dB.at a4 [.inRegion dOps [3]]) (wB.at a2 callK::c0)) undef):=
    fqz bc br (λg hg=>(an g).2 hg) ed a0 (by rw[I];exact a9) aD
 refine(fio (s':=sj) (v:=x) (z':=.tuple #[]) C1 rfl bu (by rw[hsz1,hsz];exact hh) (λd=>?_) a7 hN U).trans λbD w2 T2 bq=>?_
 ·exact fg4 rfl rfl rfl fu e2 e4
 obtain⟨g2,q2,kd,d2,W,ae,rfl,ap,aY,C2⟩:=bq;have ae:w'.heap[n+1]? =some (.chan 0 #[] false kd kd false):=ae;have aZ:n+1<w'.heap.size:=(fx5.1 ae).1;obtain⟨bE,_,bs⟩:=m _ _ _ aU;obtain⟨aX,_,aL⟩:=m _ _ _ aJ
 have O:Rel ⟨H'.at_,λb=>if b=n+1 then some (.chan 0 #[] false (kd+1) (kd+1) false) else H'.real b,H'.on⟩ v' (((w'.at d1).at d2).setChan (n+1) 0 #[] false (kd+1) (kd+1) false):=
    (((I'.rel.re w'.tape d1).re w'.tape d2).reReal (o':=.chan 0 #[] false (kd+1) (kd+1) false) bs (.inr (.inr ⟨mkD,kd+1,rfl,rfl⟩)) aZ:Rel _ v' _)
 generalize ak:(⟨H'.at_,λb=>if b=n+1 then some (.chan 0 #[] false (kd+1) (kd+1) false) else H'.real b,H'.on⟩:Hide)=H2 at O;have q: ∀b,H2 b=H' b:=λb=>by subst ak;rfl
 have R: ∀b,b≠n+1->H2.real b=H'.real b:=λb hb=>by subst ak;simp[hb]
 have aN:H2.on=true:=by subst ak;exact I'.on
 have aO: ∀i s1,az S' j h sj i=some s1->(i=j/\s1=sj)\/(i≠j/\i≠h/\S' i=some s1):=by
    intro i s1 e;unfold az at e;split at e
    ·rename_i e1;cases e;exact .inl ⟨e1,rfl⟩
    ·split at e
     ·cases e
     ·exact .inr ⟨by assumption,by assumption,e⟩
 have C:Prot H2 (az S' j h sj) St' Shun:=by
    refine⟨λi s1 e=>?_,λg l hl=>?_,λl hl=>?_⟩
    ·rcases aO i s1 e with⟨rfl,rfl⟩|⟨_,_,e1⟩
     ·refine⟨by rw[q,I,aL];simp,λb o hb=>?_⟩;obtain⟨o',e'⟩:=aH b o hb;rw[q,(m _ _ _ e').2.2];simp
     ·obtain⟨p1,p2⟩:=I'.prot.seats i s1 e1;exact⟨by rw[q];exact p1,λb o hb=>by rw[q];exact p2 b o hb⟩
    ·obtain⟨a,e,h1⟩:=I'.prot.still g l hl;exact⟨a,e,by rw[q];exact h1⟩
    ·obtain⟨a,e,h1⟩:=I'.prot.shun l hl;exact⟨a,e,by rw[q];exact h1⟩
 rw[show(uw kind X cs n).c=n+1 from rfl] at C2 ⊢;have aa:(((w'.at d1).at d2).setChan (n+1) 0 #[] false (kd+1) (kd+1) false).heap[k]? =w'.heap[k]? :=f6m aC _ _ _ _ _ _;generalize ((w'.at d1).at d2).setChan (n+1) 0 #[] false (kd+1) (kd+1) false=w2 at C2 O aa ⊢
 have aI:=og_done (main:=h==0) (H:=H2) (Shun:=Shun) (w:=w2) (n:=0) (x:=x) hk W
    (Φ:=λa w1 k1=>a=G (ur kind x X) cs/\(∃d,w1=w2.at d)/\k1=0) (.now λd=>⟨rfl,⟨d,rfl⟩,rfl⟩)
 refine(C2.og C aI aY).trans λa6 w3 T3 bA=>?_;obtain⟨_,q3,⟨rfl,⟨d3,rfl⟩,bp⟩,aB,C3⟩:=bA;have aM:((mB kind).at a' [.inRegion oe [0],.code zx]).finish x=(mB kind).at (a'.put (some 4) x) [.inRegion oe [],.code zx]:=by rw[f0i];rfl
 rw[aM] at ha
 have M:(a'.put (some 4) x).defers=[]/\(a'.put (some 4) x).tmps.getD 0 undef=.chan (some k)/\(a'.put (some 4) x).tmps.getD 4 undef=x:=by
    obtain⟨L,bH,aA,rfl⟩:=f6o a' aG;rcases L with _|⟨y0,_|⟨y1,_|⟨y2,_|⟨y3,_|⟨y4,tl⟩⟩⟩⟩⟩ <;>first|(simp at aA;done)|skip
    exact⟨a5,aV,rfl⟩
 have bB:=v_do2 (Stop:=Stop) (a:=a'.put (some 4) x) (v:=v') (b:=mB kind) (g:=g) (l:=l) A (k:=k) (x:=x) (cap:=1) (s:=s) (r:=r) (buf:=#[]) (cl:=false) (tm:=true) (ks:=[]) rfl hk M.1 M.2.1 M.2.2 aX (vn A L0 ha)
 have aK:Rel ⟨λb=>if b=k then some (.chan 1 #[.bool true] false (s+1) r true) else H2 b,H2.real,H2.on⟩ (v'.setChan k 1 #[.bool true] false (s+1) r true) (w2.at d3):=
    ((O.re w2.tape d3).remark (k:=k) (o:=.chan 1 #[] false s r true) (o':=.chan 1 #[.bool true] false (s+1) r true) (by rw[q];exact aL) (.inr (.inr ⟨mkC #[.bool true] (s+1) r,kc,rfl,?_⟩)) rfl:Rel _ _ _)
 ·refine ac x (v'.setChan k 1 #[.bool true] false (s+1) r true) (w2.at d3) _ _ _ a6 T3 q3 (ha.desc bB.to_desc) ⟨aK,?_,aN,λb y hb=>?_,λi s1 hi=>?_,λi s1 hi=>?_,λb cap buf cl s1 q1 hb aT=>?_,λg l hl=>?_⟩ (by rw[aB,ap,hsz1,hsz]) (C3.drop (h=0\/WS h≠none)) bp
  ·refine⟨λi s1 e=>?_,λg l hl=>?_,λl hl=>?_⟩
   ·obtain⟨p1,p2⟩:=C.seats i s1 e
    exact ⟨by simp only; split <;> simp_all, fun b o hb => by simp only;split;· simp
                                                              ·exact p2 b o hb⟩
   ·obtain⟨a,e,h1⟩:=C.still g l hl.1
    exact ⟨a, e, by simp only;split;· simp
                    ·exact h1⟩
   ·obtain⟨a,e,h1⟩:=C.shun l hl
    exact ⟨a, e, by simp only;split;· simp
                    ·exact h1⟩
  ·obtain⟨h1,h2,h3⟩:=hF b y hb;obtain⟨e1,e2⟩:=I'.fix b y h1;exact⟨by simp only;rw[fx9 h2,q];exact e1,by show H2.real b=_;rw[R b h3];exact e2⟩
  ·have aQ:i≠h:=by rintro rfl;rw[aE] at hi;cases hi
   have bb:i≠j:=by rintro rfl;rw[Y] at hi;cases hi
   have:=I'.sus i s1 (by simp only[fac,fx9 aQ];exact hi);simp only[az,fx9 aQ,fx9 bb];exact this
  ·rcases aO i s1 hi with⟨rfl,rfl⟩|⟨h1,h2,e1⟩
   ·exact .inl hj
   ·rcases I'.only i s1 e1 with h3|h3
    ·exact .inl h3
    ·simp only[fac,fx9 h2] at h3;exact .inr h3
  ·simp only at hb;split at hb
   ·rename_i e;subst e;cases hb;exact⟨rfl,j,sj,hj,I,by simp[az],Y,aP⟩
   ·rw[q] at hb;obtain⟨e1,j2,s2,h1,h2,h3,h4,h5⟩:=I'.marks b cap buf cl s1 q1 hb aT;have ab:j2≠h:=by rintro rfl;simp[fac] at h4
    have a1:j2≠j:=by rintro rfl;rw[aR] at h3;cases h3
    refine⟨e1,j2,s2,h1,h2,by simp only[az,fx9 a1,fx9 ab];exact h3,by simpa[fac,ab] using h4,?_⟩;cases e:Fx b with
    | none=>rfl
    | some y=>rw[(hF b y e).1] at h5;cases h5
  ·by_cases e:g=h
   ·subst e;exact(hl.2 rfl).imp id .inl
   ·rcases I'.who g l hl.1 with h1|h1|h1
    ·exact .inl h1
    ·exact .inr (.inl h1)
    ·simp only[fac,fx9 e] at h1;exact .inr (.inr h1)
 ·show w2.heap[k]? =_;rw[aa];exact ah
def fud {i:Nat} {fn:Func} (hi:i∈rowsKept) (h:Tryz.prog.funcs[i]? =some fn):fn.body=none:=by
 have hb: ∀{f:Func},f.body.isNone=true->f.body=none:=λh=>by simpa using h
 simp only[rowsKept,fy3,fz8,f0z] at hi;rcases hi with rfl|rfl|rfl|rfl|rfl|rfl|rfl|rfl|rfl|rfl|rfl|rfl
 ·rw[Tryz.func80] at h;cases h;exact hb fd
 ·rw[Tryz.func81] at h;cases h;exact hb fd
 ·rw[Tryz.func82] at h;cases h;exact hb fd
 ·rw[Tryz.func84] at h;cases h;exact hb fd
 ·rw[Tryz.func113] at h;cases h;exact hb fd
 ·rw[Tryz.func114] at h;cases h;exact hb fd
 ·rw[Tryz.func130] at h;cases h;exact hb fd
 ·rw[Tryz.func146] at h;cases h;exact hb fd
 ·rw[Tryz.func157] at h;cases h;exact hb fd
 ·rw[Tryz.func158] at h;cases h;exact hb fd
 ·rw[Tryz.func159] at h;cases h;exact hb fd
 ·rw[Tryz.func160] at h;cases h;exact hb fd
def fg5 {f:FuncId} (h: ∀fn,rg[f]? =some fn->fn.body=none) (args:Array Value) (kind:CallKind) (v:World):Dead PV (Frame.enter PV f args kind) v:=by
 intro main c cs
 have e:(Frame.enter PV f args kind).todo=[.code (.refuse "unsupported: a function without a Go body is entered")]:=by
    have e0:PV.funcs[f]? =rg[f]? :=rfl;unfold Frame.enter;rw[e0];cases hf:rg[f]? with
    | none=>rfl
    | some fn=>simp[h fn hf]
 have em:(Frame.enter PV f args kind).mode=.run:=rfl;refine⟨.unsupported (.elab "unsupported: a function without a Go body is entered") ((Frame.enter PV f args kind).pos PV),v,#[],?_⟩;simp[G,stepG,em,stepG.exec,e]
def feg (f:Nat) (hs:f∉specials):(Tryz.prog.funcs[f]? =rg[f]? /\ ∀fn c,rg[f]? =some fn->fn.body=some c->yb c=true)\/ ∀args kind v,Dead PV (Frame.enter PV f args kind) v:=by
 rcases f7g f with hn|⟨fn,h,⟨j,_⟩|hg|⟨hg,h1,h2⟩⟩
 ·exact .inr (fg5 λfn e=>by rw[hn] at e;cases e)
 ·exact absurd j hs
 ·exact .inr (fg5 λfn e=>by rw[hg] at e;cases e;rfl)
 ·refine .inl ⟨by rw[h,hg],λm c e hb=>?_⟩;rw[hg] at e;cases e;rcases h2 with h2|⟨c',h2,_,h3⟩
  ·rw[fud h2 h] at hb;cases hb
  ·rw[h2] at hb;cases hb;exact h3
def virt_nc:Nc Tryz.prog rg:=by
 intro e;have h:Tryz.prog.funcs[46]? =rg[46]? :=by rw[e]
 rw[fra,Tryz.func46] at h;have h1:=fy7 h;have h2:(Tryz.f46.name==doV.name)=false:=by kernel_rfl
 rw[h1] at h2;simp at h2
def do_call {Stop:Frame->List Frame->World->Prop} {WS Sx S:Nat->Option SeatD} {Sl:Nat->Loc->Prop} {Shun:Loc->Prop} {Φ:Array Goroutine->World->Trace->Prop} {Fx:Nat->Option (Obj×Option Obj)} {H:Hide} {s0:St} {j:Nat} {kind:CallKind} {cX g:Frame} {cs l:List Frame} {a' a3:Act} {rest:List Nat} {x1:Value}
    {v w:World} {gs:Array Goroutine} {T:Trace} {q:Nat->Nat}
    (A:VS Tryz.prog rg Stop) (ih: ∀s',Ahead PV Stop s0 s'->fme Tryz.prog rg Stop WS Shun Φ s'/\tu Tryz.prog rg (· ∈specials) Stop WS Shun Φ s') (hk:kind=.normal\/kind=.deferred)
    (U:Ahead PV Stop s0 ((mB kind).at a' [.inRegion oe [0],.code zx],g::l,v)) (L:Lv Tryz.prog rg Stop ((mB kind).at a' [.inRegion oe [0],.code zx],g::l,v)) (hx:a'.eval (.tmp 1)=x1) (ae:a3.eval (.tmp 3)=x1)
    (hlt: ∀j s,WS j=some s->j<gs.size) (I:Inv WS Fx Sx H S Sl Shun v w) (C:Hold Tryz.prog Sl Shun u5 S j (G (dB.at a3 [.inRegion dOps (2::rest)]) (cX::cs)) T gs w q) (hD:Deaf T j=0)
    (m:fl0 Tryz.prog rg Stop WS Shun Φ Fx Sx j gs.size s0 ((mB kind).at a' [.inRegion oe [0],.code zx]).finish (g::l) (dB.at a3 [.inRegion dOps (2::rest)]).finish (cX::cs)):Leads Tryz.prog Φ gs w T:=by
 refine C.lead' hD rfl λaA T1 q1 d sl hsz hD C1=>?_;obtain⟨x,v1,w1,es,hc,hv,X,ab,ap,R,an⟩:=fqu (b:=mB kind) (a:=a') (k:=[.code zx]) (b':=dB) (a':=a3) (k':=[]) (ops:=oe) (ops':=dOps) (i:=0) (rest:=[]) (i':=2) (rest':=rest) A md I.rel d rfl rfl hx rfl rfl rfl ae rfl (.inl rfl) fi fd L
 have hn: ∀a b c d,zr (dB.at a3 [.inRegion dOps (2::rest)]) x≠ .comm a b c d:=by
    rcases hc with⟨y,rfl⟩|⟨f,xs,rfl⟩|⟨lo,f,ts,ca,cb,rfl,_⟩ <;>intro a b c d e <;>cases e
 obtain⟨gs',ops,e1,e2,C2,e3⟩:=C1.ord (sl:=sl) I.prot (I.rel.re w.tape d) R X ab hn an;refine⟨gs',w1,ops,e1,?_⟩;have I1:Inv WS Fx Sx H S Sl Shun v1 w1:=I.step R;have O:Deaf (T1++ops) j=0:=by rw[e3];exact hD
 have hsz1:gs'.size=gs.size:=e2.trans hsz;have J: ∀j s,WS j=some s->j<gs'.size:=by rw[hsz1];exact hlt
 rcases hc with⟨y,rfl⟩|⟨f,xs,rfl⟩|⟨lo,f,ts,ca,cb,rfl,ah⟩
 ·exact m y v1 w1 H S Sl gs' (T1++ops) q1 (U.desc hv.to_desc) I1 hsz1 C2 O
 ·have B:=U.desc (hv:Ahead _ _ _ _).to_desc;have L1:=vn A L (hv:Ahead _ _ _ _);by_cases Y:f∈specials
  ·refine(ih _ B).2 f xs .normal _ (g::l) Y rfl rfl Fx Sx H S Sl j (dB.at a3 [.inRegion dOps (2::rest)]) (cX::cs) gs' w1 (T1++ops) q1 (.inl rfl) J L1 I1 C2 O ?_;rw[hsz1];exact bd B m
  ·rcases feg f Y with⟨M,ac⟩|W
   ·have D:Frame.enter Tryz.prog f xs .normal=Frame.enter PV f xs .normal:=by
     show Frame.enter Tryz.prog f xs .normal=Frame.enter (V Tryz.prog rg) f xs .normal;unfold Frame.enter;rw[M]
    have C3:Hold Tryz.prog Sl Shun u5 S j (G (Frame.enter PV f xs .normal) (tq [] (cX::cs) (some ((mB kind).at a' [.inRegion oe [0],.code zx],g::l,dB.at a3 [.inRegion dOps (2::rest)])))) (T1++ops) gs' w1 q1:=by
     rw[<- D];exact C2
    have ad:FrOk Tryz.prog rg (Frame.enter PV f xs .normal):=by
     rw[<- D];exact t9 A.code M xs (.inl rfl) λ_=>ac
    refine(ih _ B).1 Fx Sx H S Sl j [] _ (cX::cs) gs' w1 (T1++ops) q1 rfl ad fi (λy hy=>by simp at hy;subst hy;rfl) J L1 I1 C3 O ?_;rw[hsz1];exact bd B m
   ·exfalso;obtain⟨c',cs',aa⟩:=fc9 ((mB kind).at a' [.inRegion oe [0],.code zx]::g::l);obtain⟨o,u,ak,he⟩:=W xs .normal v1 true c' cs';exact mc A L1 fi ⟨o,u,ak,by rw[aa];exact he⟩
 ·have B:=U.desc (hv:Ahead _ _ _ _).to_desc;have L1:=vn A L (hv:Ahead _ _ _ _);refine(ih _ B).1 Fx Sx H S Sl j [] (some ((mB kind).at a' [.inRegion oe [0],.code zx],g::l,dB.at a3 [.inRegion dOps (2::rest)])) (cX::cs) gs' w1 (T1++ops) q1 rfl (fgr lo f ts ah (.inl rfl)) fi (λy hy=>by simp at hy;subst hy;rfl) J L1 I1 C2 O ?_;rw[hsz1];exact bd B m
section
variable {WS Sx S:Nat->Option SeatD} {Sl:Nat->Loc->Prop} {Shun:Loc->Prop} {Fx:Nat->Option (Obj×Option Obj)} {H:Hide} {v w:World} {k cap s r:Nat} {buf:Array Value} {cl tm:Bool}
def frf (I:Inv WS Fx Sx H S Sl Shun v w) (hk:v.heap[k]? =some (.chan cap buf cl s r tm)) (h1:tm=true\/cap=0) (h2:0<buf.size):
    cap=1/\cl=false/\tm=true/\H k=some (.chan 1 buf false s r true)/\(∃k',w.heap[k]? =some (.chan 0 #[] false k' k' false))/\buf.size=1/\ ∃j sj,WS j=some sj/\sj.c=k/\S j=some sj/\Sx j=none/\Fx k=none:=by
 cases hH:H k with
 | none=>
   have:=I.rel.chans I.on k _ hH hk;simp only[sg,f04,f2y,f1r] at this;rcases h1 with rfl|rfl
   ·cases this.1
   ·omega
 | some o=>
   obtain⟨e1,e2⟩:=I.rel.laid k o hH;rw[hk] at e1;obtain rfl:=(fy7 e1).symm;rcases e2 with⟨e,c,h,_⟩|⟨h,_⟩|⟨x,k',h,e3⟩
   ·cases h
   ·cases h
   ·obtain⟨xc,xb,xs,xq,xt,xr,m⟩:=x;simp only[Obj.chan.injEq] at h;obtain⟨rfl,rfl,rfl,rfl,rfl,rfl⟩:=h;rcases m with⟨_,rfl,_⟩|⟨rfl,rfl,rfl⟩
    ·simp at h2
    ·obtain⟨f1,f2⟩:=I.marks k 1 buf false s r hH h2;exact⟨rfl,rfl,rfl,rfl,⟨k',e3⟩,f1,f2⟩
end
section
variable {H:Hide} {v w:World} {k s r:Nat} {buf:Array Value} {x1:Value}
def fue (w:World) (x1:Value):(doW w x1).heap.size=w.heap.size+3:=by
 unfold doW;rw[xd,xd,xd]
def fh9 (w:World) (x1:Value) (b:Nat):(doW w x1).heap[b]? =if b=w.heap.size+2 then some (.cells #[.chan (some (w.heap.size+1))] 163) else if b=w.heap.size+1 then some (.chan 0 #[] false 0 0 false) else if b=w.heap.size then some (.cells x1.cells 116) else w.heap[b]? :=by
 show(((w.heap.push (.cells x1.cells 116)).push (.chan 0 #[] false 0 0 false)).push (.cells #[.chan (some (w.heap.size+1))] 163))[b]? =_;rw[f05,f05,f05];simp only[f2a]
def do_rel (rel:Rel H v w) (hk:H k=some (.chan 1 buf false s r true)) (hw: ∃k',w.heap[k]? =some (.chan 0 #[] false k' k' false)):
    ∃ HD:Hide,Rel HD ((((v.setChan k 1 #[] false s (r+1) true).alloc (.cells x1.cells 116)).alloc (.chan 0 #[] false 0 0 false)).alloc (.cells #[] 163)) (doW w x1)/\HD.on=H.on/\
      (∀b,HD b=if b=w.heap.size+2 then some (.cells #[] 163) else if b=w.heap.size+1 then some (.chan 0 #[] false 0 0 false) else if b=k then some (.chan 1 #[] false s (r+1) true) else H b)/\
      ∀b,HD.real b=if b=w.heap.size+2 then some (.cells #[.chan (some (w.heap.size+1))] 163) else if b=w.heap.size+1 then some (.chan 0 #[] false 0 0 false) else H.real b:=by
 obtain⟨k',hw⟩:=hw;have j:=rel.remark (o':=.chan 1 #[] false s (r+1) true) hk (.inr (.inr ⟨mkC #[] s (r+1),k',rfl,hw⟩)) rfl;have q:=j.push (o:=.cells x1.cells 116) rfl (j.above (fx8 _));have A:=q.pushHid (o:=.chan 0 #[] false 0 0 false) (o':=.chan 0 #[] false 0 0 false) (.inr (.inr ⟨mkD,0,rfl,rfl⟩)) rfl;have m:=A.pushHid (o:=.cells #[] 163) (o':=.cells #[.chan (some (w.heap.size+1))] 163) (.inl ⟨163,_,rfl,rfl⟩) rfl;refine⟨_,m,rfl,λb=>?_,λb=>?_⟩
 ·simp only[f2a,f00,rel.size]
 ·simp only[f2a,f00,rel.size]
end
noncomputable def fixH (H:Hide) (p:Nat->Prop):Nat->Option (Obj×Option Obj):=λb=>by
 classical exact if p b then (H b).map λo=>(o,H.real b) else none
def fixH_some {H:Hide} {p:Nat->Prop} {b:Nat} {x:Obj×Option Obj}:fixH H p b=some x↔p b/\H b=some x.1/\H.real b=x.2:=by
 unfold fixH;split
 ·rename_i hp;constructor
  ·intro h;obtain⟨o,ho,rfl⟩:=fy8.1 h;exact⟨hp,ho,rfl⟩
  ·rintro⟨_,h1,h2⟩;rw[h1,h2];rfl
 ·rename_i hp;exact⟨λh=>je,λh=>absurd h.1 hp⟩
def spec_do : fmf Tryz.prog rg (· ∈specials) WsOk 46:=by
 intro Stop WS Shun Φ args kind g l v A hR hW ih Fx Sx H S Sl h X cs gs w T q hk hlt L I C hD Y;have ak:Frame.enter (V Tryz.prog rg) 46 args kind=(mB kind).at { tmps:=args++Array.replicate (doV.ntmps-args.size) undef,defers:=[] } [.code (zw doV)]:=enter_at (P:=PV) fra rfl;have ap:=L;obtain⟨Ls,ab,hL,hg⟩:=fa5 args doV.ntmps;rw[hL] at ak;have ab:11<=Ls.length:=ab;rcases Ls with _|⟨x0,_|⟨x1,_|⟨x2,_|⟨x3,_|⟨x4,_|⟨x5,_|⟨x6,_|⟨x7,_|⟨x8,_|⟨x9,_|⟨aR,tl⟩⟩⟩⟩⟩⟩⟩⟩⟩⟩⟩ <;>first|(simp at ab;done)|skip
 have bG:args.getD 0 undef=x0:=(hg 0).symm;have bm:args.getD 1 undef=x1:=(hg 1).symm;obtain⟨c,hc,a7⟩:=v_do1 (v:=v) A x0 x1 x2 x3 x4 x5 x6 x7 x8 x9 aR tl;have bS:zw doV=c:=by unfold zw;rw[hc];rfl
 rw[bS] at ak;rw[ak] at L Y ih ap;obtain⟨a',v1,ba,ad⟩:=a7 (mB kind) [] (g::l) fi L;generalize bW:(mB kind).at { tmps:=(x0::x1::x2::x3::x4::x5::x6::x7::x8::x9::aR::tl).toArray,defers:=[] } [.code c]=fr0 at*;obtain⟨k,cap,buf,cl,s,r,tm,rfl,bD,bR,W,a4,bs,bb,be,aV⟩:=ba;obtain⟨rfl,rfl,rfl,bJ,⟨kr,aN⟩,aP,j,sj,hj,a9,M,ac,aH⟩:=frf I bD bR W
 have aJ:buf.extract 1 buf.size=#[]:=by
    apply f4y;simp[aP]
 rw[aJ] at a4;have Ld:=fkx A ad L;obtain⟨l1,e1,L1,bq⟩:=cy A Ld fi f4d;obtain rfl:=fz2 e1;obtain⟨l2,e2,L2,bT⟩:=cy A L1 fi f2o;obtain rfl:=fz2 e2;have bV:Ahead PV Stop (fr0,g::l,v) ((mB kind).at a' [.inRegion oe [0],.code zx],g::l,v1):=ad.ahead (bq.desc bT.to_desc);have aG:a'.eval (.tmp 1)=x1:=be;obtain⟨fv,f1,f2,a1⟩:=fjb (b:=mB kind) (a:=a') (k:=[.code zx]) (ops:=oe) (i:=0) (rest:=[]) A rfl rfl rfl L2;rw[aG] at a1;subst a1
 have R: ∀b,H b≠none->b<w.heap.size:=λb hb=>by
    by_cases e:b<w.heap.size
    ·exact e
    ·exact absurd (I.rel.above (by rw[I.rel.size];omega)) hb
 obtain⟨HD,aI,a0,aF,aB⟩:=do_rel (x1:=.func fv f1 f2) I.rel bJ ⟨kr,aN⟩;rw[<- a4] at aI
 have aL: ¬Shun (.cell ⟨w.heap.size+2,0,none⟩):=λhs=>by
    obtain⟨a,e,ha⟩:=I.prot.shun _ hs;cases e;have:w.heap.size+2<w.heap.size:=R _ ha;omega
 have bM:=og_do (main:=h==0) (H:=H) (Shun:=Shun) (w:=w) (n:=0) (c:=X) (cs:=cs) hk bG bm R
    (Φ:=λa w' k'=> ∃aa:Act,a=G ((mB kind).at aa [.inRegion R2 [2],.code C3]) (X::cs)/\aa.defers=[]/\aa.tmps.getD 5 undef=.pointer (some ⟨w.heap.size+2,0,none⟩)/\11<=aa.tmps.size/\aa.eval (.tmp 7)=.chan (some k)/\aa.eval (.tmp 8)=fu1 w.heap.size/\(∃d,w'=(doW w (.func fv f1 f2)).at d)/\k'=0)
    (λaa e1 e2 e3 e4 e5=>.now λd=>⟨aa,rfl,e1,e2,e3,e4,e5,⟨d,rfl⟩,rfl⟩)
 refine(C.og I.prot bM hD).trans λb0 w1 T1 bU=>?_;obtain⟨_,q1,⟨aa,rfl,b1,b2,b3,b4,b5,⟨d1,rfl⟩,bA⟩,hsz1,C1⟩:=bU;have C2:=C1.grow aL;subst a9;have bI:j≠h:=λe=>by subst e;rw[C.none] at M;cases M
 obtain⟨bK,bZ,ds,c0,bY,ah⟩:=hW.ok j sj hj;have bX:sj.c<w.heap.size:=(fx5.1 aN).1
 have hN:o8 Tryz.prog (λg' l'=>Sl g' l'\/(g'=h/\l'=.cell ⟨w.heap.size+2,0,none⟩)) S h ((doW w (.func fv f1 f2)).at d1) (uw kind X cs w.heap.size):=by
    refine⟨⟨0,?_⟩,λb o hb=>?_,λb o hb=>?_,λi s1 a8 e=>?_,?_⟩
    ·show(doW w (.func fv f1 f2)).heap[w.heap.size+1]? =_;rw[fh9,fx9 fe,f02 rfl]
    ·simp only[uw] at hb;split at hb
     ·cases hb;exact⟨_,_,_,rfl⟩
     ·cases hb
    ·simp only[uw] at hb;split at hb
     ·rename_i e;cases hb;subst e;show(doW w (.func fv f1 f2)).heap[w.heap.size+2]? =_;rw[fh9,f02 rfl]
     ·cases hb
    ·have:=(C.crew.low i s1 a8).2;rw[e] at this;simp[uw] at this;omega
    ·show w.heap.size+3<=(doW w (.func fv f1 f2)).heap.size/\w.heap.size+1<(doW w (.func fv f1 f2)).heap.size;rw[fue];omega
 have aA:=fqx (main:=h==0) (X:=X) (cs:=cs) (m:=w.heap.size) (a:=aa) (Still:=λl'=>Sl h l'\/(h=h/\l'=.cell ⟨w.heap.size+2,0,none⟩)) hk (.inr ⟨rfl,rfl⟩) b2 b1 b3;refine(fio (s':=uw kind X cs w.heap.size) (v:=fu1 w.heap.size) (z':=.tuple #[]) C2 rfl M (by rw[hsz1];exact hlt j sj hj) (λd=>?_) bA hN aA).trans λb6 w2 T2 bN=>?_
 ·exact fg4 rfl rfl rfl (by rcases hk with rfl|rfl <;>simp) b4 b5
 obtain⟨g2,q2,kd,d2,aC,aM,rfl,aQ,bc,C3⟩:=bN;generalize hn:w.heap.size=n at*;have aM:(doW w (.func fv f1 f2)).heap[sj.c]? =some (.chan 0 #[] false kd kd false):=aM;have bP:HD sj.c=some (.chan 1 #[] false s (r+1) true):=by rw[aF,fx9 fe,fx9 fe,f02 rfl]
 have U:Rel ⟨HD.at_,λb=>if b=sj.c then some (.chan 0 #[] false (kd+1) (kd+1) false) else HD.real b,HD.on⟩ v1 ((((doW w (.func fv f1 f2)).at d1).at d2).setChan sj.c 0 #[] false (kd+1) (kd+1) false):=
    (((aI.re w.tape d1).re w.tape d2).reReal (o':=.chan 0 #[] false (kd+1) (kd+1) false) bP (.inr (.inr ⟨mkC #[] s (r+1),kd+1,rfl,rfl⟩)) (fx5.1 aM).1:Rel _ v1 _)
 generalize aK:(⟨HD.at_,λb=>if b=sj.c then some (.chan 0 #[] false (kd+1) (kd+1) false) else HD.real b,HD.on⟩:Hide)=H3 at U;have B: ∀b,H3 b=if b=n+2 then some (.cells #[] 163) else if b=n+1 then some (.chan 0 #[] false 0 0 false) else if b=sj.c then some (.chan 1 #[] false s (r+1) true) else H b:=λb=>by subst aK;exact aF b
 have J: ∀b,H3.real b=if b=sj.c then some (.chan 0 #[] false (kd+1) (kd+1) false) else if b=n+2 then some (.cells #[.chan (some (n+1))] 163) else if b=n+1 then some (.chan 0 #[] false 0 0 false) else H.real b:=λb=>by
    subst aK;show(if b=sj.c then _ else HD.real b)=_;rw[aB]
 have aS:H3.on=true:=by subst aK;exact a0.trans I.on
 have O: ∀b,H b≠none->H3 b≠none:=λb hb=>by
    rw[B];split
    ·simp
    ·split
     ·simp
     ·split
      ·simp
      ·exact hb
 have ae: ∀b,b<n->b≠sj.c->H3 b=H b/\H3.real b=H.real b:=λb h1 h2=>by
    rw[B,J,fx9 fe,fx9 fe,fx9 h2,fx9 h2,fx9 fe,fx9 fe];exact⟨rfl,rfl⟩
 have aY: ∀b x,Fx b=some x->b<n/\b≠sj.c:=λb x e=>by
    refine⟨R b (by rw[(I.fix b x e).1];simp),?_⟩;rintro rfl;rw[aH] at e;cases e
 have aT: ∀b o,sj.D b=some o->b<n/\b≠sj.c/\w.heap[b]? =some o/\ ∃o',H b=some o':=λb o e=>by
    have h1:=(I.prot.seats j sj M).2 b o e;have h2:=C.crew.keeps j sj M b o e;obtain⟨c',e',f',rfl⟩:=C.crew.rows j sj b o M e;exact⟨R b h1,fkv aN h2 ⟨_,_,_,rfl⟩,h2,Option.ne_none_iff_exists'.1 h1⟩
 let p:Nat->Prop:=λb=>b=sj.c\/b=n+1\/b=n+2\/Fx b≠none\/sj.D b≠none
 have aU:Sx h=none:=by
    cases e:Sx h with
    | none=>rfl
    | some y=>have:=I.sus h y e;rw[C.none] at this;cases this
 have bL: ∀i s,Sx i=some s->s.c≠sj.c:=λi s1 e e2=>by
    have:=C.crew.inj i j s1 sj (I.sus i s1 e) M e2;subst this;rw[ac] at e;cases e
 have hF: ∀b x,Fx b=some x->fixH H3 p b=some x/\b≠sj.c/\b≠n+1:=λb x e=>by
    obtain⟨h1,h2⟩:=aY b x e;obtain⟨h3,h4⟩:=ae b h1 h2;exact⟨fixH_some.2 ⟨.inr (.inr (.inr (.inl pb))),by rw[h3];exact(I.fix b x e).1,by rw[h4];exact(I.fix b x e).2⟩,h2,by omega⟩
 have bC:fixH H3 p sj.c=some (.chan 1 #[] false s (r+1) true,some (.chan 0 #[] false (kd+1) (kd+1) false)):=
    fixH_some.2 ⟨.inl rfl,by rw[B,fx9 fe,fx9 fe,f02 rfl],by rw[J,f02 rfl]⟩
 have a6:fixH H3 p (n+1)=some (.chan 0 #[] false 0 0 false,some (.chan 0 #[] false 0 0 false)):=
    fixH_some.2 ⟨.inr (.inl rfl),by rw[B,fx9 fe,f02 rfl],by rw[J,fx9 fe,fx9 fe,f02 rfl]⟩
 have bQ:fixH H3 p (n+2)=some (.cells #[] 163,some (.cells #[.chan (some (n+1))] 163)):=
    fixH_some.2 ⟨.inr (.inr (.inl rfl)),by rw[B,f02 rfl],by rw[J,fx9 fe,f02 rfl]⟩
 have bB: ∀b o,sj.D b=some o-> ∃o',fixH H3 p b=some (o',some o):=λb o e=>by
    obtain⟨h1,h2,h5,o',h6⟩:=aT b o e;obtain⟨h3,h4⟩:=ae b h1 h2;exact⟨o',fixH_some.2 ⟨.inr (.inr (.inr (.inr pb))),by rw[h3];exact h6,by rw[h4,<- I.rel.kept b o' h6];exact h5⟩⟩
 have aW: ∀i s1,az S h j (uw kind X cs n) i=some s1->(i=h/\s1=uw kind X cs n)\/(i≠h/\i≠j/\S i=some s1):=by
    intro i s1 e;unfold az at e;split at e
    ·rename_i e1;cases e;exact .inl ⟨e1,rfl⟩
    ·split at e
     ·cases e
     ·exact .inr ⟨by assumption,by assumption,e⟩
 have aO: ∀b,b≠sj.c->((((doW w (.func fv f1 f2)).at d1).at d2).setChan sj.c 0 #[] false (kd+1) (kd+1) false).heap[b]? =(doW w (.func fv f1 f2)).heap[b]? :=λb hb=>f6m hb _ _ _ _ _ _;generalize (((doW w (.func fv f1 f2)).at d1).at d2).setChan sj.c 0 #[] false (kd+1) (kd+1) false=w3 at C3 U aO ⊢
 have I3 : Inv WS (fixH H3 p) (fac Sx h (uw kind X cs n)) H3 (az S h j (uw kind X cs n)) (λg' l'=>Sl g' l'\/(g'=h/\l'=.cell ⟨n+2,0,none⟩)) Shun v1 w3:=by
    refine⟨U,⟨λi s1 e=>?_,λg l hl=>?_,λl hl=>?_⟩,aS,λb x hb=>⟨(fixH_some.1 hb).2.1,(fixH_some.1 hb).2.2⟩,λi s1 hi=>?_,λi s1 hi=>?_,λb cap buf cl s1 q1 hb W=>?_,λg l hl=>?_⟩
    ·rcases aW i s1 e with⟨rfl,rfl⟩|⟨_,_,e1⟩
     ·refine⟨?_,λb o hb=>?_⟩
      ·show H3 (n+1)≠none;rw[B,fx9 fe,f02 rfl];simp
      ·simp only[uw] at hb;split at hb
       ·rename_i e;subst e;rw[B,f02 rfl];simp
       ·cases hb
     ·obtain⟨p1,p2⟩:=I.prot.seats i s1 e1;exact⟨O _ p1,λb o hb=>O _ (p2 b o hb)⟩
    ·rcases hl with hl|⟨rfl,rfl⟩
     ·obtain⟨a,e,h1⟩:=I.prot.still g l hl;exact⟨a,e,O _ h1⟩
     ·exact⟨_,rfl,by show H3 (n+2)≠none;rw[B,f02 rfl];simp⟩
    ·obtain⟨a,e,h1⟩:=I.prot.shun l hl;exact⟨a,e,O _ h1⟩
    ·simp only[fac] at hi;split at hi
     ·rename_i e;simp only[az,f02 e];exact hi
     ·rename_i e;have bH:i≠j:=by rintro rfl;rw[ac] at hi;cases hi
      simp only[az,fx9 e,fx9 bH];exact I.sus i s1 hi
    ·rcases aW i s1 hi with⟨rfl,rfl⟩|⟨h1,h2,e1⟩
     ·exact .inr (by simp[fac])
     ·rcases I.only i s1 e1 with h3|h3
      ·exact .inl h3
      ·exact .inr (by simp only[fac,fx9 h1];exact h3)
    ·rw [B] at hb;split at hb
     ·cases hb
     ·split at hb
      ·cases hb
      ·split at hb
       ·cases hb;exact absurd W fi
       ·rename_i bE aP hbk;obtain⟨f1,j2,s2,h1,h2,h3,h4,h5⟩:=I.marks b cap buf cl s1 q1 hb W;have aE:j2≠h:=by rintro rfl;rw[C.none] at h3;cases h3
        have aX:j2≠j:=by
          rintro rfl;rw[M] at h3;cases h3;exact hbk h2.symm
        refine⟨f1,j2,s2,h1,h2,by simp only[az,fx9 aE,fx9 aX];exact h3,by simp only[fac,fx9 aE];exact h4,?_⟩;cases e:fixH H3 p b with
        | none=>rfl
        | some y=>
          exfalso;obtain⟨hp,_⟩:=fixH_some.1 e;rcases hp with hp|hp|hp|hp|hp
          ·exact hbk hp
          ·exact aP hp
          ·exact bE hp
          ·exact hp h5
          ·obtain⟨o,ho⟩:=Option.ne_none_iff_exists'.1 hp;obtain⟨_,_,h6,_⟩:=aT b o ho;obtain⟨c',e',f',rfl⟩:=C.crew.rows j sj b o M ho;obtain⟨_,h7⟩:=I.rel.laid b _ hb;rw[h6] at h7;rcases h7 with⟨_,_,h8,_⟩|⟨h8,_⟩|⟨_,_,_,h8⟩ <;>cases h8
    ·rcases hl with hl|⟨rfl,_⟩
     ·rcases I.who g l hl with h1|h1|h1
      ·exact .inl h1
      ·exact .inr (.inl h1)
      ·refine .inr (.inr ?_);unfold fac;split
       ·simp
       ·exact h1
     ·exact .inr (.inr (by simp[fac]))
 have bF:w3.cell? ⟨n+2,0,none⟩=some (.chan (some (n+1))):=by
    have:w3.heap[n+2]? =some (.cells #[.chan (some (n+1))] 163):=by rw[aO _ fe,fh9,hn,f02 rfl]
    simp[World.cell?,this]
 have bO:w3.cell? ⟨n,0,none⟩=some (.func fv f1 f2):=by
    have:w3.heap[n]? =some (.cells #[.func fv f1 f2] 116):=by rw[aO _ fe,fh9,hn,fx9 fe,fx9 fe,f02 rfl];rfl
    simp[World.cell?,this]
 have bp:H n=none:=by
    cases e:H n with
    | none=>rfl
    | some o=>have:=R n pb;omega
 rw[bK] at C3
 have aZ:=fu3 (main:=j==0) (H:=H3) (Shun:=Shun) (w:=w3) (n:=0) (ds:=ds) (c0:=c0) (k:=sj.c) (g:=g2) (cap:=#[.pointer (some ⟨n+2,0,none⟩),.pointer (some ⟨n,0,none⟩)]) ((ah g2).1 aC)
    (Φ:=λa w' k'=> ∃(a2 a3:Act) (rest:List Nat),a=G (dB.at a3 [.inRegion dOps (2::rest)]) (wB.at a2 callK::c0)/\a2.defers=ds/\a2.tmps.getD 6 undef=.chan (some sj.c)/\a2.tmps.size=12/\fmo ⟨n+2,0,none⟩ (n+1) (.func fv f1 f2) rest a3/\(∃d,w'=w3.at d)/\k'=0)
    (λa2 e1 e2 e3=>og_do1 (c1:=⟨n,0,none⟩) (c2:=⟨n+2,0,none⟩) (dc:=n+1) bF bO (.inr aL) (.inl (by show H3 n=none;rw[B,fx9 fe,fx9 fe,fx9 fe];exact bp))
      (λa3 rest an=>.now λd=>⟨a2,a3,rest,rfl,e1,e2,e3,an,⟨d,rfl⟩,rfl⟩))
 refine(C3.og I3.prot aZ bc).trans λbu w4 T4 bk=>?_;obtain⟨_,q4,⟨a2,a3,rest,rfl,m1,m2,m3,an,⟨d4,rfl⟩,br⟩,a5,C4⟩:=bk;have aD:bu.size=gs.size:=by rw[a5,aQ,hsz1]
 refine do_call (x1:=.func fv f1 f2) (rest:=rest) A ih hk bV L2 aG an.1 (by rw[aD];exact hlt) (I3.step (U.re w3.tape d4)) C4 br ?_;rw[aD];exact do_back (n:=n) (kc:=kd+1) A hW hk (fx5.1 C.here).1 hj rfl bI ac aU bL ah hF aH fe bC a6 bQ bB (λb o e=>C.crew.rows j sj b o M e) (by have:=(C.crew.low j sj M).1;omega) aL bs bb aV m1 m2 m3 an L Y
def fw6:rg[90]? =some putV:=by rw[wy,Tryz.func90];rfl
def pv87:PV.funcs[87]? =some Tryz.f87:=rd 87 Tryz.f87 (zw Tryz.f87) Tryz.func87 fu fu rfl fd
def AtV (x0 q:Value) (a:Act):Prop:=a.tmps.getD 0 undef=x0/\a.tmps.getD 3 undef=q/\a.defers=[]/\16<=a.tmps.size
abbrev putCall:Code:=.seq (.region 1 zm false) putT
section
variable {Stop:Frame->List Frame->World->Prop} {g:Frame} {l:List Frame} {v:World} {args:Array Value} {kind:CallKind}
def v_put1 (A:VS Tryz.prog rg Stop) (x0 x1 x2 x3 x4 x5 x6 x7 x8 x9 j m q B C D:Value) (tl:List Value):
    VX Stop (.seq chkR putB) putCall (λa' v'=>(∃d,v'=(reW v v.tape d).alloc (.cells x1.cells 110))/\AtV x0 (.pointer (some ⟨v.heap.size,0,none⟩)) a')
     { tmps:=(x0::x1::x2::x3::x4::x5::x6::x7::x8::x9::j::m::q::B::C::D::tl).toArray,defers:=[] } v:=by
 refine fg1 A (ue A (fml A rfl λd h1=>fml A rfl λd' h2=>vi A ⟨rfl,?_⟩));refine fg1 A (ue A (bz A rfl (λ_=>rfl) (r:=.ok (.value (.pointer (some ⟨v.heap.size,0,none⟩))) ((reW v v.tape d').alloc (.cells x1.cells 110))) rfl (vi A ⟨rfl,fr9 ⟨⟨d',rfl⟩,rfl,rfl,rfl,?_⟩⟩)));simp[Act.put,oper]
def v_put2 (A:VS Tryz.prog rg Stop) {a:Act} {x0 q x:Value} (hk:kind=.normal\/kind=.deferred) (ha:AtV x0 q a) (L:Lv Tryz.prog rg Stop (((tB kind).at a [.inRegion zm [0],.code putT]).finish x,g::l,v)):
    ∃B v',PutTR x0 q x v v' B/\Ahead PV Stop (((tB kind).at a [.inRegion zm [0],.code putT]).finish x,g::l,v) (ur kind B g,l,v'):=by
 obtain⟨h0,h3,hd,hsz⟩:=ha;have j:((tB kind).at a [.inRegion zm [0],.code putT]).finish x=(tB kind).at (a.put (some 6) x) [.inRegion zm [],.code putT]:=by rw[f0i];rfl
 rw[j] at L ⊢;obtain⟨l1,e,L1,h1⟩:=cy A L fi f1o;obtain rfl:=fz2 e;obtain⟨Ls,C,m,rfl⟩:=f6o a hsz;rcases Ls with _|⟨x0,_|⟨x1,_|⟨x2,_|⟨x3,_|⟨x4,_|⟨x5,_|⟨x6,_|⟨x7,_|⟨x8,_|⟨x9,_|⟨I,_|⟨J,_|⟨M,_|⟨O,_|⟨R,_|⟨U,tl⟩⟩⟩⟩⟩⟩⟩⟩⟩⟩⟩⟩⟩⟩⟩⟩ <;>first|(simp at m;done)|skip
 have hd:C=[]:=hd;have h0:x0=_:=h0;have h3:x3=_:=h3;subst hd;subst h0;subst h3;have hv:=v_putT (v:=v) A x0 x1 x2 x3 x4 x5 x x7 x8 x9 I J M O R U tl;obtain⟨e,a',v',fr',⟨rfl,D,hR⟩,⟨todo,rfl⟩,h2⟩:=hv (tB kind) [] (g::l) fi L1;have L2:=vn A L1 h2;have h3:=fmu (fn:=putV) (x:=a'.tmps.getD 4 undef) A fw6 hk D (by rw[f0x rfl]) L2;exact⟨_,v',hR,h1.desc (h2.desc h3.to_desc).to_desc⟩
end
def fuf : fmf Tryz.prog rg (· ∈specials) WsOk 90:=by
 intro Stop WS Shun Φ args kind g l v A hR hW ih Fx Sx H S Sl h X cs gs w T q hk hlt L I C hD m;have aJ:kind≠ .early:=by rcases hk with rfl|rfl <;>simp
 have ak:Frame.enter (V Tryz.prog rg) 90 args kind=(tB kind).at { tmps:=args++Array.replicate (putV.ntmps-args.size) undef,defers:=[] } [.code (.seq chkR putB)]:=enter_at (P:=PV) fw6 rfl;obtain⟨Ls,R,hL,hg⟩:=fa5 args putV.ntmps;rw[hL] at ak;have R:16<=Ls.length:=R;rcases Ls with _|⟨x0,_|⟨x1,_|⟨x2,_|⟨x3,_|⟨x4,_|⟨x5,_|⟨x6,_|⟨x7,_|⟨x8,_|⟨x9,_|⟨aS,_|⟨aT,_|⟨aU,_|⟨aV,_|⟨aW,_|⟨aX,tl⟩⟩⟩⟩⟩⟩⟩⟩⟩⟩⟩⟩⟩⟩⟩⟩ <;>first|(simp at R;done)|skip
 have bq:args.getD 0 undef=x0:=(hg 0).symm;have br:args.getD 1 undef=x1:=(hg 1).symm;rw[ak] at L m ih;obtain⟨a',v1,⟨⟨d,rfl⟩,ae⟩,O⟩:=v_put1 (v:=v) A x0 x1 x2 x3 x4 x5 x6 x7 x8 x9 aS aT aU aV aW aX tl (tB kind) [] (g::l) fi L;generalize bu:(tB kind).at { tmps:=(x0::x1::x2::x3::x4::x5::x6::x7::x8::x9::aS::aT::aU::aV::aW::aX::tl).toArray,defers:=[] } [.code (.seq chkR putB)]=fr0 at*;have Ld:=fkx A O L;obtain⟨l1,e1,L1,a5⟩:=cy A Ld fi f4d;obtain rfl:=fz2 e1;obtain⟨l2,e2,L2,aA⟩:=cy A L1 fi f2o;obtain rfl:=fz2 e2;have L2:Lv Tryz.prog rg Stop ((tB kind).at a' [.inRegion zm [0],.code putT],g::l,(reW v v.tape d).alloc (.cells x1.cells 110)):=L2;have aQ:a'.eval (.tmp 0)=x0:=ae.1;have M:=fjl (P:=PV) (ρ:=a'.eval) (o:=zm[0]) (y:=.tmp 0) (ts:=#[87]) rfl pv87 fd fd rfl ((reW v v.tape d).alloc (.cells x1.cells 110));rw[aQ] at M;have aN:=stepG_enter (P:=PV) (main:=true) (b:=tB kind) (a:=a') (k:=[.code putT]) (cs:=(g::l)++[botF]) (ops:=zm) (i:=0) (rest:=[]) (o:=zm[0]) (w:=(reW v v.tape d).alloc (.cells x1.cells 110)) rfl rfl aJ (by rw[<- f0d _ _ _ #[],M]);obtain⟨l3,e3,L3,a6⟩:=cy (fr:=(tB kind).at a' [.inRegion zm [0],.code putT]) A L2 fi aN;rw[show(tB kind).at a' [.inRegion zm [0],.code putT]::(g::l++[botF])=((tB kind).at a' [.inRegion zm [0],.code putT]::g::l)++[botF] from rfl] at e3;obtain rfl:=fz2 e3
 have aG:Ahead PV Stop (fr0,g::l,v) (Frame.enter PV 87 #[x0] .normal,(tB kind).at a' [.inRegion zm [0],.code putT]::g::l,(reW v v.tape d).alloc (.cells x1.cells 110)):=
    O.ahead (a5.desc (aA.desc a6.to_desc).to_desc)
 have relu:Rel H (reW v v.tape d) w:=I.rel.re' v.tape d
 have bm:=og_pt1 (main:=h==0) (H:=H) (Shun:=Shun) (w:=w) (v:=reW v v.tape d) (n:=0) (X:=X) (cs:=cs) hk relu bq br
    (Φ:=λaa w' k'=>(∃a3,aa=G (Frame.enter Tryz.prog 87 #[x0] .normal) ((tB kind).at a3 [.inRegion ptR1 [1],.code fee,.code ip]::X::cs)/\fmv x0 (.pointer (some ⟨v.heap.size,0,none⟩)) a3)/\Rel H ((reW v v.tape d).alloc (.cells x1.cells 110)) w'/\k'=0)
    (λa3 w1 ab a8=>.now λd=>⟨⟨a3,rfl,a8⟩,ab.re _ _,rfl⟩)
 refine(C.og I.prot bm hD).trans λaE w1 T1 ba=>?_;obtain⟨_,q1,⟨⟨a3,rfl,ah⟩,ab,a0⟩,hsz1,C1⟩:=ba;have I1:Inv WS Fx Sx H S Sl Shun ((reW v v.tape d).alloc (.cells x1.cells 110)) w1:=I.step ab;rcases feg 87 fu with⟨W,bk⟩|aB
 ·have B:Frame.enter Tryz.prog 87 #[x0] .normal=Frame.enter PV 87 #[x0] .normal:=by
   show Frame.enter Tryz.prog 87 #[x0] .normal=Frame.enter (V Tryz.prog rg) 87 #[x0] .normal;unfold Frame.enter;rw[W]
  have C3:Hold Tryz.prog Sl Shun u5 S h (G (Frame.enter PV 87 #[x0] .normal) (tq [] (X::cs) (some ((tB kind).at a' [.inRegion zm [0],.code putT],g::l,(tB kind).at a3 [.inRegion ptR1 [1],.code fee,.code ip])))) T1 aE w1 q1:=by
   rw[<- B];exact C1
  have bs:FrOk Tryz.prog rg (Frame.enter PV 87 #[x0] .normal):=by
   rw[<- B];exact t9 A.code W _ (.inl rfl) λ_=>bk
  refine(ih _ aG).1 Fx Sx H S Sl h [] _ (X::cs) aE w1 T1 q1 rfl bs fi (λy hy=>by simp at hy;subst hy;rfl) pw L3 I1 C3 a0 ?_;rw[hsz1];intro x v' w' H' S' St' gs' T' q' ha I' hsz C' aF;have a7:=aG.desc (ha:Ahead _ _ _ _).to_desc;obtain⟨bC,v2,aM,aA⟩:=v_put2 A hk ae (vn A L3 ha);have J:=a7.desc aA.to_desc;rcases aM with⟨rfl,rfl,rfl⟩|⟨rfl,rfl,p,rfl,k,cap,buf,s,r,f,a9,aK,aH,aD,hf,rfl⟩
  ·have U:=og_pt2 (main:=h==0) (H:=H') (Shun:=Shun) (w:=w') (n:=0) (X:=X) (cs:=cs) hk ah (Φ:=λa w1 k1=>a=G (ur kind (.bool false) X) cs/\(∃d,w1=w'.at d)/\k1=0) (.now λd=>⟨rfl,⟨d,rfl⟩,rfl⟩);refine(C'.og I'.prot U aF).trans λaZ w2 T2 aC=>?_;obtain⟨_,q2,⟨rfl,⟨d2,rfl⟩,ap⟩,Y,C2⟩:=aC;exact m _ _ _ _ _ _ _ _ _ J (I'.step (I'.rel.re _ _)) (Y.trans hsz) C2 ap
  ·have U:=og_pt3 (main:=h==0) (H:=H') (Shun:=Shun) (w:=w') (v:=v') (n:=0) (X:=X) (cs:=cs) hk I'.rel ah a9 hf
      (Φ:=λaa w1 k1=>(∃a4,aa=G ((tB kind).at a4 [.inRegion fef [0,1,2],.code fjm]) (X::cs)/\fre k f a4)/\Rel H' v' w1/\k1=0) (λa4 w4 aR j=>.now λd=>⟨⟨a4,rfl,j⟩,aR.re _ _,rfl⟩)
   refine(C'.og I'.prot U aF).trans λaZ w2 T2 aC=>?_;obtain⟨_,q2,⟨⟨a4,rfl,j⟩,ac,ap⟩,Y,C2⟩:=aC;have ad:=fh8 ac aK aH;have hc:w2.heap[k]? =some (.chan cap buf false s r false):=by rw[<- ac.same _ ad];exact aK
   have bp: ∀d,stepG Tryz.prog (h==0) (G ((tB kind).at a4 [.inRegion fef [0,1,2],.code fjm]) (X::cs)) (w2.at d)=.comm (G ((tB kind).at a4 [.inRegion fef [0,1,2],.code fjm]) (X::cs)) #[scase k f (.agg zero110)] false .select (w2.at d) #[]:=λd=>by
      have hr:=flj (P:=Tryz.prog) (ρ:=a4.eval) (o:=fef[0]) (e:=110) (y:=.tmp 10) (x:=.tmp 11) (w:=w2.at d) rfl (Tryz.zero110 _);rw[j.1,j.2.1] at hr;rw[stepG_comm (o:=fef[0]) rfl rfl aJ qa,listed_none pu];rfl
   refine(C2.send_room rfl ap bp hc aD (λi s hs=>⟨λe=>(I'.prot.seats i s hs).1 (by rw[e];exact ad),?_⟩)).trans λbA w3 T3 bc=>?_
   ·cases e:s.D k with
    | none=>rfl
    | some o=>exact absurd ad ((I'.prot.seats i s hs).2 k o e)
   obtain⟨q3,d3,rfl,aO,a1,C3⟩:=bc;rw[pt_comm,flk] at C3
   have an:Rel H' (v'.setChan k cap (buf.push f) false (s+1) r false) ((w2.at d3).setChan k cap (buf.push f) false (s+1) r false):=
      (ac.re w2.tape d3).setBlock ad rfl λ_=>by
        simp[sg];omega
   generalize (w2.at d3).setChan k cap (buf.push f) false (s+1) r false=w3 at C3 an ⊢;have aL:=og_pt4 (main:=h==0) (H:=H') (Shun:=Shun) (w:=w3) (n:=0) (X:=X) (cs:=cs) (bb:=.bool false) hk j (Φ:=λa w1 k1=>a=G (ur kind (.bool true) X) cs/\(∃d,w1=w3.at d)/\k1=0) (.now λd=>⟨rfl,⟨d,rfl⟩,rfl⟩);refine(C3.og I'.prot aL a1).trans λbB w4 T4 be=>?_;obtain⟨_,q4,⟨rfl,⟨d4,rfl⟩,a2⟩,aP,C4⟩:=be;exact m _ _ _ _ _ _ _ _ _ J (I'.step (an.re _ _)) (by rw[aP,aO,Y,hsz]) C4 a2
 ·exfalso;obtain⟨c',cs',aI⟩:=fc9 ((tB kind).at a' [.inRegion zm [0],.code putT]::g::l);obtain⟨o,u,aY,he⟩:=aB #[x0] .normal ((reW v v.tape d).alloc (.cells x1.cells 110)) true c' cs';exact mc A L3 fi ⟨o,u,aY,by rw[aI];exact he⟩
attribute [local go_sem] xz
def Tryz.room102:(Tryz.prog.info? 102).map (λi=>decide (i.size=0))=some false:=by kernel_rfl
def fmw {w:World} {p:Addr} {x:Value} (hc:w.cell? p=some x) (hl:fo9 w p):(convert 132 99 (.pointer (some p))).runT Tryz.prog w #[]=(.ok (.pointer (some p)) w,#[]):=by
 obtain⟨e,n,j,hb⟩:=hl
 have m:(variablesAt p 102 1).run Tryz.prog w=.ok true w:=by
    have:(Go.shape p.block:Sem _).run Tryz.prog w=.ok (some (e,n)) w:=by simp[Go.shape,Sem.run,j]
    show((Go.program >>= λp'=>Go.shape p.block >>= λs=>(match s with
     | some (e,cells)=>Pure.pure (liesAt p' p'.depth e (cells / p'.cellsOf e) p.off 102 1)
     | none=>Pure.pure false):Sem Bool)).run Tryz.prog w=_
    simp[Go.program,fz9,this,Result.andThen,Sem.run,Pure.pure,hb]
 have B: ∀es,(variablesAt p 102 1).events Tryz.prog w es=es:=λes=>by
    show Sem.events Tryz.prog (match w.shape? p.block with
     | some (e,cells)=>Pure.pure (liesAt Tryz.prog Tryz.prog.depth e (cells / Tryz.prog.cellsOf e) p.off 102 1)
     | none=>Pure.pure false:Sem Bool) w es=es
    rw[j];rfl
 have q:(Conv.seenAt p).run Tryz.prog w=.ok p w:=by
    have:(Go.shape p.block:Sem _).run Tryz.prog w=.ok (some (e,n)) w:=by simp[Go.shape,Sem.run,j]
    simp[Conv.seenAt,viewAt,fz9,this,Result.andThen,Pure.pure,Sem.run]
 have A: ∀es,(Conv.seenAt p).events Tryz.prog w es=es:=λes=>by
    have:(Go.shape p.block:Sem _).run Tryz.prog w=.ok (some (e,n)) w:=by simp[Go.shape,Sem.run,j]
    simp[go_sem,Conv.seenAt,viewAt,this]
 have hsz:=Tryz.sizeOf102 w;refine f2v ?_ ?_
 ·rw[f0d];simp[convert,Conv.unsafePointer,fz9,f0u Tryz.underlying132,f0u Tryz.underlying99,Result.andThen,q,hsz,m,Pure.pure,Sem.run]
 ·show Sem.events Tryz.prog _ w #[]=#[];simp[go_sem,convert,Conv.unsafePointer,f0u Tryz.underlying132,f0u Tryz.underlying99,q,A,hsz,m,B]
section
variable {main:Bool} {H:Hide} {Shun:Loc->Prop} {Φ:Goroutine->World->Nat->Prop} {w:World} {n:Nat} {c:Frame} {cs:List Frame}
def og_cc {p:Addr} {args:Array Value} {kind:CallKind} (hk:kind=.normal\/kind=.deferred) (hp:args.getD 0 undef=.pointer (some p)) (hH:H p.block=none) (hc:w.cell? p=some (.pointer none)) (hz:w.frozen? p=false) (hl:fo9 w p)
    (h:OG Tryz.prog main H Shun Φ (G (ur kind (.tuple #[]) c) cs) (w.setCell p (.pointer (some p))) n):OG Tryz.prog main H Shun Φ (G (Frame.enter Tryz.prog 75 args kind) (c::cs)) w n:=by
 have q:kind≠ .early:=by rcases hk with rfl|rfl <;>simp
 have hlt:p.block<w.heap.size:=zq hc;rw[enter_at Tryz.func75 rfl];obtain⟨L,j,hL,h0⟩:=fa5 args Tryz.f75.ntmps;rw[hL];have j:20<=L.length:=j;rcases L with _|⟨x0,_|⟨x1,_|⟨x2,_|⟨x3,_|⟨x4,_|⟨x5,_|⟨x6,_|⟨x7,_|⟨x8,_|⟨x9,_|⟨M,_|⟨R,_|⟨O,_|⟨J,tl⟩⟩⟩⟩⟩⟩⟩⟩⟩⟩⟩⟩⟩⟩ <;>first|(simp at j;done)|skip
 have C:=(h0 0).trans hp;simp only[f1y] at C;subst C;have m: ∀d,(w.at d).cell? p=some (.pointer none):=λd=>hc;have A: ∀d,(w.at d).frozen? p=false:=λd=>hz;refine uv (rm ?_);refine ov (.pointer (some p)) w ?_;refine ov (.pointer (some p)) w ?_;refine ov (.pointer (some p)) w ?_;refine qz (x:=.pointer none) (w1:=w) rfl rfl q (λd=>by have:=m d;go_simp) (fx8 _) (λ_ _=>rfl) (λd e he=>by simp[go_sem,m] at he;subst he;exact⟨xh hH hlt _ _,by simp[vl]⟩) ?_;refine ov (.bool true) w ?_;walk_nrm;refine u7 (xl (t:=true) rfl (rm ?_));refine ov (.pointer (some p)) w ?_;refine ov (.pointer (some p)) w ?_;have B:=λd=>f3v (P:=Tryz.prog) (src:=99) (dst:=132) (w:=w.at d) Tryz.underlying99 Tryz.underlying132 Tryz.room102 hc;have I:=λd es=>f4u (P:=Tryz.prog) (src:=99) (dst:=132) (w:=w.at d) Tryz.underlying99 Tryz.underlying132 Tryz.room102 hc es;refine qz (x:=.pointer (some p)) (w1:=w) rfl rfl q (λd=>by have:=B d;go_simp) (fx8 _) (λ_ _=>rfl) (λd e he=>by simp[go_sem,B,I] at he) ?_;walk_nrm;refine ll (w1:=w) (es:=#[]) rfl (λd=>stepG_entry (v:=.pointer (some p)) (evs:=#[]) rfl rfl q rfl Tryz.func104 fd fd fd (e:=Extern.AbiNoEscape.same) fd jz jz fi) ⟨fx8 _,λ_ _=>rfl,by simp⟩ ?_;have hb: ∀d,(convert 132 99 (.pointer (some p))).run Tryz.prog (w.at d)=.ok (.pointer (some p)) (w.at d):=λd=>by rw[<- f0d _ _ _ #[],fmw (w:=w.at d) hc hl]
 have D: ∀d,(convert 132 99 (.pointer (some p))).events Tryz.prog (w.at d) #[]=#[]:=λd=>by show(Sem.runT _ _ _ _).2=_;rw[fmw (w:=w.at d) hc hl]
 refine qz (x:=.pointer (some p)) (w1:=w) rfl rfl q (λd=>by have:=hb d;go_simp) (fx8 _) (λ_ _=>rfl) (λd e he=>by simp[go_sem,hb,D] at he) ?_;walk_nrm;refine ov (.pointer (some p)) w ?_;refine ov (.pointer (some p)) w ?_;walk_nrm;obtain⟨s1,s2⟩:=ai (w:=w) hH (.pointer (some p))
 refine fl5 (w1:=w.setCell p (.pointer (some p))) rfl rfl q (λd=>by have:=A d;have:=m d;clear h;go_simp;rfl) s1 s2 (λd e he=>by
    simp[go_sem,A,m] at he;rw[events_store Tryz.prog (w.at d) #[] p (.pointer (some p)) .plain rfl] at he;simp[storedEv,A,m] at he;subst he;exact⟨xh hH jy _ _,by simp[vl]⟩) ?_
 walk_nrm;refine u7 (fiu (ze hk rfl Tryz.func75 (f2z rfl _) ?_));exact h
def feh (p:Addr) (w:World):(binOp .neq 99 (.pointer (some p)) (.pointer (some p))).runT Tryz.prog w #[]=(.ok (.bool false) w,#[]):=by
 have hu: ∀w,(underlying 99).run Tryz.prog w=.ok (.pointer 102) w:=Tryz.runUnderlying99;have j:binOp .neq 99 (.pointer (some p)) (.pointer (some p))=(Op.equal 99 (.pointer (some p)) (.pointer (some p)) >>= λb=>Pure.pure (.bool (!b)):Sem Value):=rfl;have A:Op.equal 99 (.pointer (some p)) (.pointer (some p))=Op.equalIn (9999+1) 99 (.pointer (some p)) (.pointer (some p)):=by simp only[Op.equal,Op.maxDepth]
 have q: ∀D,(Op.equalIn (D+1) 99 (.pointer (some p)) (.pointer (some p))).run Tryz.prog w=.ok true w:=λD=>by
    simp[Op.equalIn,fz9,hu,Result.andThen,samePointer,sameAddr,Pure.pure,Sem.run]
 have m: ∀D,(Op.equalIn (D+1) 99 (.pointer (some p)) (.pointer (some p))).events Tryz.prog w #[]=#[]:=λD=>by
    simp[go_sem,Op.equalIn,hu,samePointer,sameAddr]
 have h1:=q 9999;have h2:=m 9999;rw[j,A];generalize 9999=D at h1 h2 ⊢;refine f2v ?_ ?_
 ·rw[f0d];exact(qw h1).trans rfl
 ·show Sem.events Tryz.prog _ w #[]=#[];simp[go_sem,h1,h2]
def og_cc2 {p:Addr} {args:Array Value} {kind:CallKind} (hk:kind=.normal\/kind=.deferred) (hp:args.getD 0 undef=.pointer (some p)) (hH:H p.block=none) (hc:w.cell? p=some (.pointer (some p)))
    (h:OG Tryz.prog main H Shun Φ (G (ur kind (.tuple #[]) c) cs) w n):OG Tryz.prog main H Shun Φ (G (Frame.enter Tryz.prog 75 args kind) (c::cs)) w n:=by
 have q:kind≠ .early:=by rcases hk with rfl|rfl <;>simp
 have hlt:p.block<w.heap.size:=zq hc;rw[enter_at Tryz.func75 rfl];obtain⟨L,j,hL,h0⟩:=fa5 args Tryz.f75.ntmps;rw[hL];have j:20<=L.length:=j;rcases L with _|⟨x0,_|⟨x1,_|⟨x2,_|⟨x3,_|⟨x4,_|⟨x5,_|⟨x6,_|⟨x7,_|⟨x8,_|⟨x9,_|⟨I,_|⟨R,_|⟨M,_|⟨C,_|⟨U,_|⟨O,_|⟨D,_|⟨X,_|⟨W,_|⟨J,tl⟩⟩⟩⟩⟩⟩⟩⟩⟩⟩⟩⟩⟩⟩⟩⟩⟩⟩⟩⟩ <;>first|(simp at j;done)|skip
 have A:=(h0 0).trans hp;simp only[f1y] at A;subst A;have m: ∀d,(w.at d).cell? p=some (.pointer (some p)):=λd=>hc;refine uv (rm ?_);refine ov (.pointer (some p)) w ?_;refine ov (.pointer (some p)) w ?_;refine ov (.pointer (some p)) w ?_;refine qz (x:=.pointer (some p)) (w1:=w) rfl rfl q (λd=>by have:=m d;go_simp) (fx8 _) (λ_ _=>rfl) (λd e he=>by simp[go_sem,m] at he;subst he;exact⟨xh hH hlt _ _,by simp[vl]⟩) ?_;refine ov (.bool false) w ?_;walk_nrm;refine u7 (xl (t:=false) rfl (uv (rm ?_)));refine ov (.pointer (some p)) w ?_;refine ov (.pointer (some p)) w ?_;refine ov (.pointer (some p)) w ?_;refine qz (x:=.pointer (some p)) (w1:=w) rfl rfl q (λd=>by have:=m d;go_simp) (fx8 _) (λ_ _=>rfl) (λd e he=>by simp[go_sem,m] at he;subst he;exact⟨xh hH hlt _ _,by simp[vl]⟩) ?_;refine ov (.pointer (some p)) w ?_;walk_nrm;have hq: ∀d,(binOp .neq 99 (.pointer (some p)) (.pointer (some p))).run Tryz.prog (w.at d)=.ok (.bool false) (w.at d):=λd=>by rw[<- f0d _ _ _ #[],feh]
 have B: ∀d,(binOp .neq 99 (.pointer (some p)) (.pointer (some p))).events Tryz.prog (w.at d) #[]=#[]:=λd=>by show(Sem.runT _ _ _ _).2=_;rw[feh]
 refine qz (x:=.bool false) (w1:=w) rfl rfl q (λd=>by have:=hq d;go_simp) (fx8 _) (λ_ _=>rfl) (λd e he=>by simp[go_sem,hq,B] at he) ?_;walk_nrm;refine u7 (xl (t:=false) rfl (oa (fiu (ze hk rfl Tryz.func75 (f2z rfl _) ?_))));exact h
end
def virt75:rg[75]? =some ccV:=by rw[wy,Tryz.func75];rfl
section
variable {Stop:Frame->List Frame->World->Prop} {g:Frame} {l:List Frame} {v:World} {args:Array Value} {kind:CallKind}
def v_cc (A:VS Tryz.prog rg Stop) (hR: ∀fr l v t d,Stop fr l v->Stop fr l (reW v t d)) (L:Lv Tryz.prog rg Stop (Frame.enter PV 75 args kind,g::l,v)):
    ∃d v',CcR (args.getD 0 undef) (reW v v.tape d) v'/\Ahead PV Stop (Frame.enter PV 75 args kind,g::l,v) (ur kind (.tuple #[]) g,l,v'):=by
 obtain⟨x,v',⟨rfl,d,hR⟩,ha⟩:=fgw (R:=λx v'=>x=.tuple #[]/\ ∃d,CcR (args.getD 0 undef) (reW v v.tape d) v') A virt75 rfl L (by
    obtain⟨Ls,j,hL,h0⟩:=fa5 args 5;show VW Tryz.prog rg Stop (.seq chkR ccB) _ { tmps:=args++Array.replicate (5-args.size) undef,defers:=[] } v;rw[hL];rcases Ls with _|⟨x0,_|⟨x1,_|⟨x2,_|⟨x3,_|⟨x4,tl⟩⟩⟩⟩⟩ <;>first|(simp at j;done)|skip
    refine fmm A λd hv=>?_;have h:=v_ccB A hR x0 x1 x2 x3 x4 tl (v:=reW v v.tape d) (λp hp=>hv p hp);intro b k l hl L;obtain⟨e,a',v',fr',⟨rfl,hd,hR⟩,m,ha⟩:=h b k l hl L;refine⟨_,a',v',fr',⟨.inr rfl,hd,.tuple #[],f2g rfl _ _ _,rfl,d,?_⟩,m,ha⟩;rw[mh h0 rfl];exact hR)
 exact⟨d,v',hR,ha⟩
end
def spec_cc:SpecOk Tryz.prog rg 75:=by
 intro Stop WS Shun Φ args kind g l v A hR Fx Sx H S St h X cs gs w T q hk hlt L I C hD j;obtain⟨d,v',⟨p,hp,M⟩,ha⟩:=v_cc A hR L;rcases M with⟨hc,hz,hl,rfl⟩|⟨hc,t,d2,rfl⟩
 ·have hc:v.cell? p=some (.pointer none):=hc;have hz:v.frozen? p=false:=hz;have hl:fo9 v p:=hl;have hH:=I.rel.hidden_cell hc;have J:=I.rel.cell hc;have O:=(I.rel.frozen hH).trans hz;have R:fo9 w p:=by
   obtain⟨e,n,h1,h2⟩:=hl;refine⟨e,n,?_,h2⟩;rw[<- h1];unfold World.shape?;rw[I.rel.same _ hH]
  have D:=og_cc (main:=h==0) (H:=H) (Shun:=Shun) (w:=w) (n:=0) (c:=X) (cs:=cs) (Φ:=λa w' k=>a=G (ur kind (.tuple #[]) X) cs/\(∃d,w'=(w.setCell p (.pointer (some p))).at d)/\k=0) hk hp hH J O R (.now λd=>⟨rfl,⟨d,rfl⟩,rfl⟩);refine(C.og I.prot D hD).trans λgs' w' T' hh=>?_;obtain⟨a',q',⟨rfl,⟨d',rfl⟩,B⟩,hsz,C'⟩:=hh;have m:Rel H ((reW v v.tape d).setCell p (.pointer (some p))) ((w.setCell p (.pointer (some p))).at d'):=(((I.rel.re' v.tape d).setCell hH _).re _ _);exact j _ _ _ _ _ _ _ _ _ ha (I.step m) hsz C' B
 ·have hc:v.cell? p=some (.pointer (some p)):=hc;have hH:=I.rel.hidden_cell hc;have J:=I.rel.cell hc;have D:=og_cc2 (main:=h==0) (H:=H) (Shun:=Shun) (w:=w) (n:=0) (c:=X) (cs:=cs) (Φ:=λa w' k=>a=G (ur kind (.tuple #[]) X) cs/\(∃d,w'=w.at d)/\k=0) hk hp hH J (.now λd=>⟨rfl,⟨d,rfl⟩,rfl⟩);refine(C.og I.prot D hD).trans λgs' w' T' hh=>?_;obtain⟨a',q',⟨rfl,⟨d',rfl⟩,B⟩,hsz,C'⟩:=hh;have m:Rel H (reW (reW v v.tape d) t d2) (w.at d'):=(((I.rel.re' v.tape d).re' t d2).re _ _);exact j _ _ _ _ _ _ _ _ _ ha (I.step m) hsz C' B
end Go.Proofs.YtelecjnabeokeaaGreatDoor
namespace Go.Proofs.YtelecjnabeokeaaGreatDoor
open Go Go.Conc Go.RowKit
def lp:LP Tryz.prog rg (· ∈specials) WsOk where
 fok:=md
 nc:=virt_nc
 same:=feg
 spec:=λf hf=>by
    simp only[specials,fy3,fz8,f0z] at hf;rcases hf with rfl|rfl|rfl|rfl|rfl|rfl
    ·exact spec_do
    ·exact spec_lock.ofDo _ _
    ·exact spec_unlock.ofDo _ _
    ·exact spec_cc.ofDo _ _
    ·exact fuf
    ·exact spec_peek.ofDo _ _
def vs {Stop:Frame->List Frame->World->Prop} (h1: ∀fr l v,Stop fr l v->l=[]) (h2: ∀fr l v,Stop fr l v-> ¬PanS (fr::l)):VS Tryz.prog rg Stop:=⟨fqo,fqm,h1,h2⟩
open Go.Conc.Lib
def MarkAt (v:World) (c:Nat):Prop:= ∃x s r,v.heap[c]? =some (.chan 1 #[x] false s r true)
structure SesV (b sb ab n cp c0:Nat) (kb ch:Nat->Nat) (v:World):Prop where
 ses: ∃c e,v.heap[b]? =some (.cells c e (0,0))/\c.size=8/\c[0]? =some (.int .i32 0)/\c[2]? =some (.slice (some ⟨ab,0,none⟩) n cp)/\c[3]? =some (.pointer (some ⟨sb,0,none⟩))/\c[5]? =some (.bool false)/\c[6]? =some (.int .u64 ((n+1:Nat)*K32))/\c[7]? =some (.int .u32 0)
 srv:v.cell? ⟨sb,5,none⟩=some (.chan (some c0))
 cl: ∀i,i<n->v.cell? ⟨ab,i,none⟩=some (.pointer (some ⟨kb i,0,none⟩))/\v.cell? ⟨kb i,10,none⟩=some (.chan (some (ch i)))
 apart:sb≠b/\ab≠b/\ ∀i,i<n->kb i≠b
 small:n<1000
 one:1<=n
 m0:MarkAt v c0
 ms: ∀i,i<n->MarkAt v (ch i)
 ne: ∀i,i<n->ch i≠c0
structure SesW (b j0 n c0:Nat) (ch:Nat->Nat) (WS:Nat->Option SeatD) (N:Nat):Prop where
 pos:1<=j0
 fits:j0+(n+1)<=N
 srv: ∃s,WS j0=some s/\s.c=c0
 cl: ∀i,i<n-> ∃s,WS (j0+1+i)=some s/\s.c=ch i
 no: ∀k,WS k≠none->j0<=k/\k<j0+(n+1)
 home: ∀j s,WS j=some s->s.ok=true/\s.z=.nilFunc/\ ∀g,s.home g↔fbr [dcall 79 #[.pointer (some (stC b))]] [fau] s.c g
 inj: ∀i j s s',WS i=some s->WS j=some s'->s.c=s'.c->i=j
def SesW.ok {b j0 n c0:Nat} {ch:Nat->Nat} {WS:Nat->Option SeatD} {N:Nat} {Shun:Loc->Prop} (W:SesW b j0 n c0 ch WS N):WsOk WS Shun:=
 ⟨λj s h=>⟨(W.home j s h).1,(W.home j s h).2.1,_,_,by simp,(W.home j s h).2.2⟩,W.inj⟩
structure fll (C:Nat->Prop) (v v':World):Prop where
 size:v'.heap.size=v.heap.size
 same: ∀x,¬C x->v'.heap[x]? =v.heap[x]?
 os:v'.os=v.os
 output:v'.output=v.output
abbrev vb:Nat->Option SeatD:=λ_=>none
def fug (Fx:Nat->Option (Obj×Option Obj)):Prop:= ∀b x,Fx b=some x-> ∀cap buf cl s q tm,x.1≠ .chan cap buf cl s q tm
section
variable {b sb ab n cp c0 j0:Nat} {kb ch:Nat->Nat} {WS:Nat->Option SeatD} {H:Hide} {Shun:Loc->Prop} {St:Nat->Loc->Prop} {S:Nat->Option SeatD} {v w:World} {X:Frame} {cs:List Frame} {gs:Array Goroutine} {q:Nat->Nat} {T:Trace}
 {Φ:Array Goroutine->World->Trace->Prop} {Fx:Nat->Option (Obj×Option Obj)}
def fei {c:Nat} (I:Inv WS Fx vb H S St Shun v w) (hm:MarkAt v c): ∃o,H c=some o:=by
 obtain⟨x,s,r,h⟩:=hm;cases e:H c with
 | some o=>exact⟨o,rfl⟩
 | none=>
   have:=I.rel.chans I.on c _ e h;simp[sg] at this
def fjp {c:Nat} (I:Inv WS Fx vb H S St Shun v w) (hm:MarkAt v c): ∃j s,WS j=some s/\s.c=c/\S j=some s:=by
 obtain⟨o,ho⟩:=fei I hm;obtain⟨x,s,r,h⟩:=hm;obtain⟨h1,_⟩:=I.rel.laid c o ho;rw[h] at h1;obtain rfl:=fy7 h1;obtain⟨_,j,s,h1,h2,h3,_⟩:=I.marks c _ _ _ _ _ ho fi;exact⟨j,s,h1,h2,h3⟩
def frg (W:SesW b j0 n c0 ch WS gs.size) (V:SesV b sb ab n cp c0 kb ch v) (I:Inv WS Fx vb H S St Shun v w):fw3 b j0 n c0 ch S gs.size:=by
 have m: ∀j s,S j=some s->WS j=some s:=λj s h=>(I.only j s h).resolve_right fi;refine⟨W.pos,W.fits,?_,λi hi=>?_,λk hk=>?_,λj s h=>?_⟩
 ·obtain⟨s,h1,h2⟩:=W.srv;obtain⟨j,s',h3,h4,h5⟩:=fjp I V.m0;have:=W.inj _ _ _ _ h3 h1 (h4.trans h2.symm);subst this;exact⟨s',h5,h4⟩
 ·obtain⟨s,h1,h2⟩:=W.cl i hi;obtain⟨j,s',h3,h4,h5⟩:=fjp I (V.ms i hi);have:=W.inj _ _ _ _ h3 h1 (h4.trans h2.symm);subst this;exact⟨s',h5,h4⟩
 ·cases e:S k with
  | none=>exact absurd e hk
  | some s=>exact W.no k (by rw[m k s e];simp)
 ·obtain⟨h1,h2,h3⟩:=W.home j s (m j s h);exact⟨h1,h2,λg hg=>(h3 g).1 hg⟩
open Classical in
noncomputable def ci (b:Nat) (e:TypeId) (C:Nat->Prop) (v:World):World:={ v with heap:=v.heap.mapIdx λi o=>if i=b then .cells #[] e (0,0) else if C i then hidO else o }
open Classical in
noncomputable def xy (b:Nat) (e:TypeId) (C:Nat->Prop) (H:Hide) (w:World):Hide:=⟨λi=>if i=b then some (.cells #[] e (0,0)) else if C i then some hidO else H i,λi=>w.heap[i]?,H.on⟩
open Classical in
def flm {e:TypeId} {C:Nat->Prop} {w':World} (rel:Rel H v w) (hb: ∃c,w'.heap[b]? =some (.cells c e (0,0))) (hC: ∀x,C x-> ∃k,w'.heap[x]? =some (.chan 0 #[] true k k false)) (j: ∀x,x≠b-> ¬C x->w'.heap[x]? =w.heap[x]?)
    (hsz:w'.heap.size=w.heap.size) (A:w'.os=w.os) (B:w'.output=w.output):Rel (xy b e C H w') (ci b e C v) w':=by
 have hlt: ∀{x:Nat} {o:Obj},w'.heap[x]? =some o->x<v.heap.size:=λh=>by
    rw[rel.size,<- hsz];exact(fx5.1 h).1
 have hv: ∀x,(ci b e C v).heap[x]? =(v.heap[x]?).map λo=>if x=b then Obj.cells #[] e (0,0) else if C x then hidO else o:=λx=>by simp[ci,f4x]
 refine⟨by simp[ci,rel.size,hsz],λx hx=>?_,λx o hx=>?_,by rw[A];exact rel.os,by rw[B];exact rel.output,λx o hx=>?_,λx o hx=>rfl,λq x o hx ho=>?_⟩
 ·simp only[xy] at hx;split at hx
  ·cases hx
  ·rename_i h1;split at hx
   ·cases hx
   ·rename_i h2;rw[hv,j x h1 h2,<- rel.same x hx];cases v.heap[x]? <;>simp[h1,h2]
 ·simp only[xy] at hx;split at hx
  ·rename_i h1;subst h1;obtain⟨c,hc⟩:=hb;obtain rfl:=fy7 hx;have:=hlt hc;exact⟨by rw[hv,fz1 this];simp,.inl ⟨e,c,rfl,hc⟩⟩
  ·rename_i h1;split at hx
   ·rename_i h2;obtain⟨k,hk⟩:=hC x h2;obtain rfl:=fy7 hx;have:=hlt hk;exact⟨by rw[hv,fz1 this];simp[h1,h2],.inr (.inl ⟨rfl,_,rfl,hk⟩)⟩
   ·rename_i h2;obtain⟨h3,h4⟩:=rel.laid x o hx;exact⟨by rw[hv,h3];simp[h1,h2],by rw[j x h1 h2];exact h4⟩
 ·rw[hv] at hx;obtain⟨o',m,rfl⟩:=fy8.1 hx;split
  ·rfl
  ·split
   ·rfl
   ·exact rel.objs x o' m
 ·simp only[xy] at hx;rw[hv] at ho;obtain⟨o',m,rfl⟩:=fy8.1 ho;split at hx
  ·cases hx
  ·rename_i h1;split at hx
   ·cases hx
   ·rename_i h2;simp only[h1,h2,f0s];exact rel.chans q x o' hx m
def stop_co (aD:fug Fx) (W:SesW b j0 n c0 ch WS gs.size) (V:SesV b sb ab n cp c0 kb ch v) (I:Inv WS Fx vb H S St Shun v w) (C:Hold Tryz.prog St Shun u5 S 0 (G (Frame.enter Tryz.prog 12 #[.pointer (some ⟨b,0,none⟩)] .normal) (X::cs)) T gs w q) (hD:Deaf T 0=0)
    (ad: ∀v' w' H' St' gs' T' q',fll (λx=>x=b\/x=c0\/ ∃i,i<n/\x=ch i) v v'->Inv vb Fx vb H' vb St' (fax b Shun) v' w'->gs'.size=gs.size->Hold Tryz.prog St' (fax b Shun) u5 vb 0 (G (ur .normal (.tuple #[]) X) cs) T' gs' w' q'->Deaf T' 0=0->Leads Tryz.prog Φ gs' w' T'):
    Leads Tryz.prog Φ gs w T:=by
 obtain⟨cc,e,hb,hsz,h0,h2,h3,h5,h6,h7⟩:=V.ses;have ac: ∀o x,cc[o]? =some x->v.cell? ⟨b,o,none⟩=some x:=λo x h=>by simp[World.cell?,hb,h]
 have B:H b=none:=I.rel.hidden_cell (ac 0 _ h0);have an:w.heap[b]? =some (.cells cc e (0,0)):=by rw[<- I.rel.same b B];exact hb
 have aE:H sb=none:=I.rel.hidden_cell V.srv;have ah: ∀i,i<n->H ab=none/\H (kb i)=none:=λi hi=>⟨I.rel.hidden_cell (V.cl i hi).1,I.rel.hidden_cell (V.cl i hi).2⟩
 have R: ∀x,MarkAt v x->x≠b:=λx hx e'=>by
    obtain⟨o,ho⟩:=fei I hx;subst e';rw[B] at ho;cases ho
 have aa:=frg W V I;obtain⟨w0,O⟩: ∃w0,w0=(w.setCell ⟨b,0,none⟩ (.int .i32 1)).setCell ⟨b,5,none⟩ (.bool true):=⟨_,rfl⟩;have A:w0.heap[b]? =some (.cells ((cc.setIfInBounds 0 (.int .i32 1)).setIfInBounds 5 (.bool true)) e (0,0)):=by rw[O];simp[World.setCell,fy6,an]
 have J: ∀x,x≠b->w0.heap[x]? =w.heap[x]? :=λx hx=>by rw[O];simp[World.setCell,fy6,f3w hx]
 have ap:w0.heap.size=w.heap.size:=by rw[O];simp[World.setCell]
 have Y:w0.os=w.os/\w0.output=w.output:=by rw[O];exact⟨rfl,rfl⟩
 have D: ∀(p:Addr) (x:Value),p.block≠b->v.cell? p=some x->w0.cell? p=some x:=λp x hp h=>by
    rw[<- I.rel.cell h];unfold World.cell?;rw[J _ hp]
 have U: ∀o x,cc[o]? =some x->o≠0->o≠5->((cc.setIfInBounds 0 (.int .i32 1)).setIfInBounds 5 (.bool true))[o]? =some x:=λo x h h1 h2=>by
    simp[fy1,f3w h1,f3w h2,h]
 have aI:((cc.setIfInBounds 0 (.int .i32 1)).setIfInBounds 5 (.bool true))[0]? =some (.int .i32 1):=by simp[fy1,hsz]
 have Z: ∀d,StopW b sb ab n cp c0 kb ch (w0.at d):=λd=>⟨⟨_,e,A,by simp[hsz],aI,U 2 _ h2 fi fi,U 3 _ h3 fi fi⟩,D _ _ V.apart.1 V.srv,λi hi=>⟨D _ _ V.apart.2.1 (V.cl i hi).1,D _ _ (V.apart.2.2 i hi) (V.cl i hi).2⟩,V.apart,by have:=V.small;omega⟩
 have aJ: ∀d,CellsAt b (w0.at d) ((n+1:Nat)*K32) 0:=λd=>by
    have aB:=U 6 _ h6 fi fi;have aC:=U 7 _ h7 fi fi;refine⟨?_,?_,?_,?_⟩
    ·show w0.cell? (stC b)=_;simp only[World.cell?,A];simpa using aB
    ·show w0.cell? (smC b)=_;simp only[World.cell?,A];simpa using aC
    ·show w0.frozen? (stC b)=_;simp[World.frozen?,A]
    ·show w0.frozen? (smC b)=_;simp[World.frozen?,A]
 refine(C.og I.prot (fu9 (Φ:=λg w' d=> ∃T0:Array Value,T0.size=43/\T0[0]? =some (.pointer (some ⟨b,0,none⟩))/\g=G ((base 12).at ⟨T0,ffw b⟩ [.code ffb]) (X::cs)/\(∃d',w'=w0.at d')/\d=0) B an h0 h5 (n:=0) λT hT h0=>.now λd=>⟨T,hT,h0,rfl,⟨d,by rw[O]⟩,rfl⟩) hD).trans λaO w1 T1 hh=>?_;obtain⟨a',q',⟨T0,aF,aA,rfl,⟨d',rfl⟩,aK⟩,hsz1,C1⟩:=hh;refine(fr8 aF aA I.prot ⟨B,aE,(ah 0 V.one).1,λi hi=>(ah i hi).2⟩ ⟨R _ V.m0,λi hi=>R _ (V.ms i hi)⟩ V.ne (by rw[hsz1];exact aa) (Z d') (aJ d') V.small C1 aK).trans λaP u2 T2 hh=>?_;obtain⟨w1,m,a2,w2,q2,d2,rfl,aN,aQ,C2,rfl,rfl,aL⟩:=hh
 have ae: ¬(b=c0\/ ∃i,i<n/\b=ch i):=by
    rintro(h|⟨i,hi,h⟩)
    ·exact R _ V.m0 h.symm
    ·exact R _ (V.ms i hi) h.symm
 have aG:w1.heap[b]? =some (.cells ((cc.setIfInBounds 0 (.int .i32 1)).setIfInBounds 5 (.bool true)) e (0,0)):=(m.same b ae).trans A;have aH: ∃c,(w1.setCell ⟨b,0,none⟩ (.int .i32 0)).heap[b]? =some (.cells c e (0,0)):=⟨_,by simp[World.setCell,fy6,aG];rfl⟩
 have M: ∀x,x≠b->((wgw b (w1.setCell ⟨b,0,none⟩ (.int .i32 0)) 0 0).at d2).heap[x]? =w1.heap[x]? :=λx hx=>by
    show(wgw b (w1.setCell ⟨b,0,none⟩ (.int .i32 0)) 0 0).heap[x]? =_;rw[yz hx];simp[World.setCell,fy6,f3w hx]
 have hrel:Rel (xy b e (λx=>x=c0\/ ∃i,i<n/\x=ch i) H ((wgw b (w1.setCell ⟨b,0,none⟩ (.int .i32 0)) 0 0).at d2)) (ci b e (λx=>x=c0\/ ∃i,i<n/\x=ch i) v) ((wgw b (w1.setCell ⟨b,0,none⟩ (.int .i32 0)) 0 0).at d2):=by
    refine flm I.rel ?_ (λx hx=>?_) (λx h1 h2=>?_) ?_ ?_ ?_
    ·obtain⟨c,hc⟩:=aH;exact⟨_,fqh hc⟩
    ·obtain⟨k,hk⟩:=m.muted x hx;exact⟨k,by rw[M x λe=>ae (e▸hx)];exact hk⟩
    ·rw[M x h1,m.same x h2];exact J x h1
    ·show(wgw b (w1.setCell ⟨b,0,none⟩ (.int .i32 0)) 0 0).heap.size=_;rw[fgx];simp only[World.setCell,f5u];rw[m.size];exact ap
    ·show w1.os=_;rw[m.os];exact Y.1
    ·show w1.output=_;rw[m.output];exact Y.2
 refine ad (ci b e (λx=>x=c0\/ ∃i,i<n/\x=ch i) v) _ (xy b e (λx=>x=c0\/ ∃i,i<n/\x=ch i) H ((wgw b (w1.setCell ⟨b,0,none⟩ (.int .i32 0)) 0 0).at d2)) _ _ _ _ ⟨by simp[ci],λx hx=>?_,rfl,rfl⟩ ⟨hrel,⟨λi s h=>je,λg l hl=>?_,λl hl=>?_⟩,I.on,λx y hx=>?_,λ_ _ h=>je,λ_ _ h=>je,λx cap buf cl s q hx ak=>?_,λg l hl=>?_⟩ fe C2 aL
 ·have h1:x≠b:=λh=>hx (.inl h);have h2: ¬(x=c0\/ ∃i,i<n/\x=ch i):=λh=>hx (.inr h);simp only[ci,f4x,h1,h2,f0s];cases v.heap[x]? <;>rfl
 ·obtain⟨a,ha,hh⟩:=I.prot.still g l hl.1;refine⟨a,ha,?_⟩;simp only[xy];split
  ·simp
  ·split
   ·simp
   ·exact hh
 ·rcases hl with hl|rfl|rfl
  ·obtain⟨a,ha,hh⟩:=I.prot.shun l hl;refine⟨a,ha,?_⟩;simp only[xy];split
   ·simp
   ·split
    ·simp
    ·exact hh
  ·exact⟨_,rfl,by simp[xy]⟩
  ·exact⟨_,rfl,by simp[xy]⟩
 ·obtain⟨e1,e2⟩:=I.fix x y hx;have h1:x≠b:=λh=>by rw[h,B] at e1;cases e1
  have hv:=(I.rel.laid x _ e1).1;have h2: ¬(x=c0\/ ∃i,i<n/\x=ch i):=by
   have hm: ¬MarkAt v x:=by
    rintro⟨_,_,_,h⟩;rw[hv] at h;exact aD x y hx _ _ _ _ _ _ (fy7 h)
   rintro(rfl|⟨i,hi,rfl⟩)
   ·exact hm V.m0
   ·exact hm (V.ms i hi)
  refine⟨by simp only[xy];rw[fx9 h1,fx9 h2];exact e1,?_⟩;show((wgw b (w1.setCell ⟨b,0,none⟩ (.int .i32 0)) 0 0).at d2).heap[x]? =_;rw[M x h1,m.same x h2];exact(J x h1).trans ((I.rel.kept x _ e1).trans e2)
 ·simp only[xy] at hx;split at hx
  ·cases hx
  ·split at hx
   ·cases hx
   ·rename_i h1 h2;obtain⟨_,j,s',h3,h4,h5,_⟩:=I.marks x cap buf cl s q hx ak;exfalso;apply h2;have aM:=W.no j (by rw[h3];simp);by_cases e:j=j0
    ·subst e;obtain⟨s1,h6,h7⟩:=W.srv;rw[h3] at h6;cases h6;exact .inl (h4.symm.trans h7)
    ·obtain⟨s1,h6,h7⟩:=W.cl (j-j0-1) fe;rw[show j0+1+(j-j0-1)=j from by omega,h3] at h6;cases h6;exact .inr ⟨j-j0-1,by omega,h4.symm.trans h7⟩
 ·rcases I.who g l hl.1 with h1|h1|h1
  ·exact .inl h1
  ·exfalso;apply hl.2;have aM:=W.no g h1;by_cases e:g=j0
   ·subst e;obtain⟨s1,h2,_⟩:=aa.srv;rw[h2];simp
   ·obtain⟨s1,h2,_⟩:=aa.cl (g-j0-1) fe;rw[show j0+1+(g-j0-1)=g from by omega] at h2;rw[h2];simp
  ·exact absurd rfl h1
end
end Go.Proofs.YtelecjnabeokeaaGreatDoor
namespace Go.Proofs.YtelecjnabeokeaaGreatDoor
open Go Go.RowKit
def fsp:doV.ntmps=11:=rfl
def cap78 {k cap s r:Nat} {buf:Array Value} {cl tm:Bool} {v:World} (hk:v.heap[k]? =some (.chan cap buf cl s r tm)):(Builtin.cap_ #[78] 3 #[.chan (some k)]).run PV v=.ok (goInt (if tm then 0 else cap)) v:=by
 obtain⟨e,d,hd⟩: ∃d e,Tryz.prog.underlying 78=some (.chan d e):=⟨_,_,Tryz.underlying78⟩;have hu:(underlying 78).run PV v=.ok (.chan e d) v:=by rw[ua];exact f0u hd v
 have j:(Builtin.cap_ #[78] 3 #[.chan (some k)]).run PV v=(Go.getObj k >>= λo=>match o with
    | .chan n _ _ _ _ timer=>Pure.pure (goInt (if timer then 0 else n))
    | _=>Go.stuck "cap: channel expected" :Sem Value).run PV v:=by
    simp[Builtin.cap_,fz9,hu,Result.andThen];rfl
 rw[j];simp[Go.getObj,Sem.run,Bind.bind,Sem.bind,hk,Pure.pure]
def info49:(PV.info? 49).map (·.bytes)=some 16:=by kernel_rfl
def mkDone (w:World):(Instr.makeChan 163 (.int .i64 0)).run PV w=.ok (.chan (some w.heap.size)) (w.alloc (.chan 0 #[] false 0 0 false)):=by
 obtain⟨i,hi,hs⟩: ∃i,PV.info? 49=some i/\i.bytes=16:=by
    have:=info49;cases hi:PV.info? 49 with
    | none=>rw[hi] at this;cases this
    | some i=>rw[hi] at this;exact⟨i,rfl,by simpa using this⟩
 have:=Conc.run_makeChan (P:=PV) (w:=w) (show PV.underlying 163=_ from Tryz.underlying163) hi .i64 0 fe (by rw[hs];omega);exact this
structure Busy (w:World) (k:Nat):Prop where
 at_: ∃s r,w.heap[k]? =some (.chan 1 #[] false s r true)
def do_any (k f:Nat) {fn:Func} (J:PV.funcs[f]? =some fn) (O:(fn.name== "runtime.NumGoroutine")=false) (I:fn.body.isNone=false) (j m:Array Value) (w:World) (hm:MarkAt w k) {R:Value->World->Prop}
    (hf: ∀W,Ch (λy=>y=k) w W->Busy W k->Calls PV f (j++ #[]++m) W λx w'=>Busy w' k/\ ∃v,x=.returned v/\R v w'):
    Calls PV 46 #[.chan (some k),.func (.func f) j m] w λx w2=> ∃v w',x=.returned v/\R v w'/\MarkAt w2 k/\Ch (λy=>y=k) w' w2/\w2.heap.size=w'.heap.size:=by
 obtain⟨x,s,r,hk⟩:=hm;have q:=cap78 hk;simp only[f0e] at q;have hlt:k<w.heap.size:=(fx5.1 hk).1;go_enter PV.func46,fsp;simp only[oper];go_upto_region 101 with fail
 refine yr ?_;refine bn (c:=⟨.chan (some k),none,.nilFunc⟩) (w1:=w) rfl rfl fd (.inl ⟨rfl,rfl,rfl⟩) (val:=.tuple #[goInt 0,.bool true,x]) (w':=w.setChan k 1 #[] false s (r+1) true) ?_ ?_
 ·simp only[uk,hk];rfl
 refine xg rfl rfl (v:=.bool true) (w':=w.setChan k 1 #[] false s (r+1) true) rfl ?_;refine dz ?_;simp only[Act.put,f2x,f2j,f2k,f1m,f3i,f3j];have hC:Ch (λy=>y=k) w (w.setChan k 1 #[] false s (r+1) true):=(Ch.rf (λy=>y=k) w).sc (.inl rfl);have B:Busy (w.setChan k 1 #[] false s (r+1) true) k:=⟨s,r+1,Conc.heap_setChan _ _ _ _ _ _ _ _ hlt⟩
 have A:=fx6 (λW (hW:Bl (w.setChan k 1 #[] false s (r+1) true) W)=>hf W (hC.cl hW) (by
    obtain⟨s',r',h'⟩:=B.at_;exact⟨s',r',(hW.block k (by simpa[World.setChan] using hlt)).trans h'⟩))
 clear hk q hf hC B;generalize w.setChan k 1 #[] false s (r+1) true=w1 at A ⊢;have M:=λW=>mkDone W;go_upto_region 103 with fail
 refine wp_region_list (wpList_plain rfl λK' D=>?_)
 have e: ∀(a:Act) (W:World),a.eval (.tmp 1)=.func (.func f) j m->(execOp a.eval { dst:=some 4,op:=.call { callee:=.value (.tmp 1),args:=#[],argTypes:=#[] },type:=49,pos:= "",after:=#[],guard:=none }).run PV W=.ok (.enter f (j++ #[]++m)) W:=λa W h=>by
    have hc:(callFunc f (j++ #[]++m)).run PV W=.ok (.enter f (j++ #[]++m)) W:=by
     unfold callFunc;simp only[Go.program,Bind.bind,Sem.bind,Sem.run,J,O,I,f0g,f0s,Pure.pure]
    rw[<- hc];simp only[execOp,resolve,invoke,h];simp[Deferred.ofValue,fz9,Result.andThen,Pure.pure,Sem.run]
 unfold Oper.wp;rw[e _ _ rfl,Oper.upon_enter];refine(A.out _ (((Bl.rf _).al _).al _ |>.al _)).mono ?_;rintro y w3 ⟨⟨s3,r3,h3⟩,v,rfl,hR⟩;refine D _ _ (wpList_nil ?_);have C:k<w3.heap.size:=(fx5.1 h3).1;simp only[Act.put,f2x,f2j,f2k,f1m,f3i,f3j];clear A M e;go_upto_region 104 with fail
 refine yr ?_;refine bn (c:=⟨.chan (some k),some (.bool true),undef⟩) (w1:=w3) rfl rfl rfl (.inr ⟨rfl,rfl,_,rfl⟩) (val:=undef) (w':=w3.setChan k 1 #[.bool true] false (s3+1) r3 true) ?_ ?_
 ·simp only[uk,h3];rfl
 refine dz ?_;simp only[Act.put,f2x,f2j,f2k,f1m,f3i,f3j];have g1:MarkAt (w3.setChan k 1 #[.bool true] false (s3+1) r3 true) k:=⟨_,_,_,Conc.heap_setChan _ _ _ _ _ _ _ _ C⟩;have g2:Ch (λy=>y=k) w3 (w3.setChan k 1 #[.bool true] false (s3+1) r3 true):=(Ch.rf (λy=>y=k) w3).sc (.inl rfl);have g3:(w3.setChan k 1 #[.bool true] false (s3+1) r3 true).heap.size=w3.heap.size:=by simp[World.setChan]
 generalize w3.setChan k 1 #[.bool true] false (s3+1) r3 true=w4 at*;clear h3 C;go_wp2;go_ret;exact⟨v,rfl,w3,hR,g1,g2,g3⟩
def Txt.slice {w:World} {v:Value} {t:List Plain.El} (h:Txt w v t): ∃A cc,v=.slice A t.length cc:=by
 rcases h.form with⟨h1,h2⟩|⟨g,cap,h1,_⟩
 ·subst h2;exact⟨_,_,h1⟩
 ·exact⟨_,_,h1⟩
section
variable {L:Lay} {V:Vals} {S:Plain.Ses} {m:Int} {ow:Nat->Nat} {w:World} {E:Nat->Value}
structure Done (L:Lay) (E:Nat->Value) (R:Nat×Plain.Ses) (m:Int) (ow:Nat->Nat) (w:World) (x:Ending) (w':World):Prop where
 out:x=.returned (errV E R.1)/\ ∃V' ow',Mem L V' R.2 m ow' w'/\Ex ow ow' w w'
def Done.bl {R:Nat×Plain.Ses} {w1 w':World} {x:Ending} (hb:Bl w w1) (h:Done L E R m ow w1 x w'):Done L E R m ow w x w':=
 ⟨h.out.1,let ⟨V',ow',hM,hE⟩:=h.out.2;⟨V',ow',hM,(Ex.bl hb).tr hE⟩⟩
def clo_ins (h:Mem L V S m ow w) (hG:Plain.Good S) (hB:Plain.Bnd S) (hE:Errs E w) {c:Nat} (hc:c<S.n) (pos:Int) (r:Int) (bs:Nat) (bk:Nat) (ba:Nat) (br:Nat) (C:Bk w bs 26 #[.pointer (some ⟨L.b,0,none⟩)]) (hbk:Bk w bk 83 #[.pointer (some ⟨L.kb c,0,none⟩)]) (q:Bk w ba 3 #[.int .i64 pos]) (B:Bk w br 21 #[.int .i32 r]):
    Calls PV 47 #[.pointer (some ⟨bs,0,none⟩),.pointer (some ⟨bk,0,none⟩),.pointer (some ⟨ba,0,none⟩),.pointer (some ⟨br,0,none⟩)] w (Done L E (Plain.change S c 1 pos r) m ow w):=by
 obtain⟨A,cc,hv⟩:=(h.tx c hc).slice;have D:Bk w (L.kb c) 89 #[.int .i64 (c:Int),.slice A (S.cl c).text.length cc,.int .i64 (S.cl c).cur,.int .i64 (S.cl c).en.mine,.int .i64 (S.cl c).en.other,.int .i64 (S.cl c).en.acked,V.rv c,.pointer (some ⟨L.ul c,0,none⟩),.pointer (some ⟨L.dl c,0,none⟩),.int .i64 (S.cl c).typed,.chan (some (L.wc c))]:=by rw[<- hv];exact h.kk c hc
 have hl:=hG.cl_len hc;have I:IntKind.i64.wrap (((S.cl c).text.length:Int)-1)=((S.cl c).text.length:Int)-1:=f0t _ fe;have hI:=fx6 (λW (hW:Bl w W)=>mem_ins (h.bl hW) hG ⟨λi hi=>(f0h (a:=⟨i,0,none⟩) (hW.block i qi)).trans (hE.at_ i hi),hE.form⟩ hc pos r);have hM:=fx6 h;clear h hG hB hE hl hv;go_enter PV.func47,Tryz.ntmps47;go_upto_region 1 with fail
 refine rn (sel [λw'=>Bk w' bs 26 #[.pointer (some ⟨L.b,0,none⟩)],λw'=>Bk w' bk 83 #[.pointer (some ⟨L.kb c,0,none⟩)],λw'=>Bk w' ba 3 #[.int .i64 pos],λw'=>Bk w' br 21 #[.int .i32 r],λw'=>Bk w' (L.kb c) 89 #[.int .i64 (c:Int),.slice A (S.cl c).text.length cc,.int .i64 (S.cl c).cur,.int .i64 (S.cl c).en.mine,.int .i64 (S.cl c).en.other,.int .i64 (S.cl c).en.acked,V.rv c,.pointer (some ⟨L.ul c,0,none⟩),.pointer (some ⟨L.dl c,0,none⟩),.int .i64 (S.cl c).typed,.chan (some (L.wc c))]]) [(.h 0,0),(.h 1,1),(.h 2,2),(.h 3,3),(.h 9,4),(.h 9,5),(.h 1,6),(.h 9,7),(.h 9,8),(.h 4,9),(.h 9,10),(.c [9],11),(.h 9,12)] fd fd (qy (Bk.dr C) (qy (Bk.dr hbk) (qy (Bk.dr q) (qy (Bk.dr B) (qy (Bk.dr D) (λ_=>un)))))) ?_;simp only[vg,fy9,fz4,fz3,fy2,fx7,fy0];iterate 11 (refine oH ?_;try simp only[aps])
 (refine rx (λK hK=>?_);go_simp;go_at_call 48;refine(hI.out _ ga).mono ?_;rintro e w3 ⟨rfl,j⟩;refine hK _ _ (rh trivial ry) ?_;clear hK K;try simp only[aps])
 (refine oH ?_;try simp only[aps]);refine ub ?_;go_wp2;go_ret;exact Done.bl ((Bl.rf _).dr) ⟨rfl,j⟩
def clo_del (h:Mem L V S m ow w) (hG:Plain.Good S) (hB:Plain.Bnd S) (hE:Errs E w) {c:Nat} (hc:c<S.n) (pos:Int) (bs:Nat) (bk:Nat) (ba:Nat) (B:Bk w bs 26 #[.pointer (some ⟨L.b,0,none⟩)]) (hbk:Bk w bk 83 #[.pointer (some ⟨L.kb c,0,none⟩)]) (q:Bk w ba 3 #[.int .i64 pos]):
    Calls PV 50 #[.pointer (some ⟨bs,0,none⟩),.pointer (some ⟨bk,0,none⟩),.pointer (some ⟨ba,0,none⟩)] w (Done L E (Plain.change S c 2 pos 0) m ow w):=by
 obtain⟨A,cc,hv⟩:=(h.tx c hc).slice;have C:Bk w (L.kb c) 89 #[.int .i64 (c:Int),.slice A (S.cl c).text.length cc,.int .i64 (S.cl c).cur,.int .i64 (S.cl c).en.mine,.int .i64 (S.cl c).en.other,.int .i64 (S.cl c).en.acked,V.rv c,.pointer (some ⟨L.ul c,0,none⟩),.pointer (some ⟨L.dl c,0,none⟩),.int .i64 (S.cl c).typed,.chan (some (L.wc c))]:=by rw[<- hv];exact h.kk c hc
 have hl:=hG.cl_len hc;have D:IntKind.i64.wrap (((S.cl c).text.length:Int)-1)=((S.cl c).text.length:Int)-1:=f0t _ fe;have hI:=fx6 (λW (hW:Bl w W)=>mem_del (h.bl hW) hG ⟨λi hi=>(f0h (a:=⟨i,0,none⟩) (hW.block i qi)).trans (hE.at_ i hi),hE.form⟩ hc pos);have hM:=fx6 h;clear h hG hB hE hl hv;go_enter PV.func50,Tryz.ntmps50;go_upto_region 1 with fail
 refine rn (sel [λw'=>Bk w' bs 26 #[.pointer (some ⟨L.b,0,none⟩)],λw'=>Bk w' bk 83 #[.pointer (some ⟨L.kb c,0,none⟩)],λw'=>Bk w' ba 3 #[.int .i64 pos],λw'=>Bk w' (L.kb c) 89 #[.int .i64 (c:Int),.slice A (S.cl c).text.length cc,.int .i64 (S.cl c).cur,.int .i64 (S.cl c).en.mine,.int .i64 (S.cl c).en.other,.int .i64 (S.cl c).en.acked,V.rv c,.pointer (some ⟨L.ul c,0,none⟩),.pointer (some ⟨L.dl c,0,none⟩),.int .i64 (S.cl c).typed,.chan (some (L.wc c))]]) [(.h 0,0),(.h 1,1),(.h 2,2),(.h 9,3),(.h 1,4),(.h 9,5),(.h 9,6),(.h 3,7),(.h 9,8),(.h 9,9),(.c [9],10),(.h 9,11)] fd fd (qy (Bk.dr B) (qy (Bk.dr hbk) (qy (Bk.dr q) (qy (Bk.dr C) (λ_=>un))))) ?_;simp only[vg,fy9,fz4,fz3,fy2,fx7,fy0];iterate 10 (refine oH ?_;try simp only[aps])
 (refine rx (λK hK=>?_);go_simp;go_at_call 48;refine(hI.out _ ga).mono ?_;rintro e w3 ⟨rfl,j⟩;refine hK _ _ (rh trivial ry) ?_;clear hK K;try simp only[aps])
 (refine oH ?_;try simp only[aps]);refine ub ?_;go_wp2;go_ret;exact Done.bl ((Bl.rf _).dr) ⟨rfl,j⟩
def clo_mov (h:Mem L V S m ow w) (hG:Plain.Good S) (hB:Plain.Bnd S) (hE:Errs E w) {c:Nat} (hc:c<S.n) (pos:Int) (bs:Nat) (bk:Nat) (ba:Nat) (B:Bk w bs 26 #[.pointer (some ⟨L.b,0,none⟩)]) (hbk:Bk w bk 83 #[.pointer (some ⟨L.kb c,0,none⟩)]) (q:Bk w ba 3 #[.int .i64 pos]):
    Calls PV 52 #[.pointer (some ⟨bs,0,none⟩),.pointer (some ⟨bk,0,none⟩),.pointer (some ⟨ba,0,none⟩)] w (Done L E (Plain.change S c 3 pos 0) m ow w):=by
 obtain⟨A,cc,hv⟩:=(h.tx c hc).slice;have C:Bk w (L.kb c) 89 #[.int .i64 (c:Int),.slice A (S.cl c).text.length cc,.int .i64 (S.cl c).cur,.int .i64 (S.cl c).en.mine,.int .i64 (S.cl c).en.other,.int .i64 (S.cl c).en.acked,V.rv c,.pointer (some ⟨L.ul c,0,none⟩),.pointer (some ⟨L.dl c,0,none⟩),.int .i64 (S.cl c).typed,.chan (some (L.wc c))]:=by rw[<- hv];exact h.kk c hc
 have hl:=hG.cl_len hc;have D:IntKind.i64.wrap (((S.cl c).text.length:Int)-1)=((S.cl c).text.length:Int)-1:=f0t _ fe;have hI:=fx6 (λW (hW:Bl w W)=>mem_mov (h.bl hW) hG ⟨λi hi=>(f0h (a:=⟨i,0,none⟩) (hW.block i qi)).trans (hE.at_ i hi),hE.form⟩ hc pos);have hM:=fx6 h;clear h hG hB hE hl hv;go_enter PV.func52,Tryz.ntmps52;go_upto_region 1 with fail
 refine rn (sel [λw'=>Bk w' bs 26 #[.pointer (some ⟨L.b,0,none⟩)],λw'=>Bk w' bk 83 #[.pointer (some ⟨L.kb c,0,none⟩)],λw'=>Bk w' ba 3 #[.int .i64 pos],λw'=>Bk w' (L.kb c) 89 #[.int .i64 (c:Int),.slice A (S.cl c).text.length cc,.int .i64 (S.cl c).cur,.int .i64 (S.cl c).en.mine,.int .i64 (S.cl c).en.other,.int .i64 (S.cl c).en.acked,V.rv c,.pointer (some ⟨L.ul c,0,none⟩),.pointer (some ⟨L.dl c,0,none⟩),.int .i64 (S.cl c).typed,.chan (some (L.wc c))]]) [(.h 0,0),(.h 1,1),(.h 2,2),(.h 9,3),(.h 1,4),(.h 9,5),(.h 9,6),(.h 3,7),(.h 9,8),(.c [9],9),(.h 9,10)] fd fd (qy (Bk.dr B) (qy (Bk.dr hbk) (qy (Bk.dr q) (qy (Bk.dr C) (λ_=>un))))) ?_;simp only[vg,fy9,fz4,fz3,fy2,fx7,fy0];iterate 9 (refine oH ?_;try simp only[aps])
 (refine rx (λK hK=>?_);go_simp;go_at_call 48;refine(hI.out _ ga).mono ?_;rintro e w3 ⟨rfl,j⟩;refine hK _ _ (rh trivial ry) ?_;clear hK K;try simp only[aps])
 (refine oH ?_;try simp only[aps]);refine ub ?_;go_wp2;go_ret;exact Done.bl ((Bl.rf _).dr) ⟨rfl,j⟩
def fsq (h:Mem L V S m ow w) (hG:Plain.Good S) (hB:Plain.Bnd S) (hE:Errs E w) {c:Nat} (hc:c<S.n):
    Calls PV 55 #[.pointer (some ⟨L.b,0,none⟩),.pointer (some ⟨L.kb c,0,none⟩)] w (Done L E (Plain.serve S c) m ow w):=by
 cases hu:(S.cl c).up with
 | nil=>
   refine(flr h hE hc hu).mono ?_;rintro x w' ⟨rfl,rfl⟩;have e:Plain.serve S c=(7,S):=by unfold Plain.serve;rw[hu]
   rw[e];exact⟨rfl,V,ow,h,Ex.rf⟩
 | cons f U=>exact(serve1 h hG hB hE hc hu).mono λx w' hs=>⟨hs.out.1,hs.out.2⟩
def clo_up (h:Mem L V S m ow w) (hG:Plain.Good S) (hB:Plain.Bnd S) (hE:Errs E w) {c:Nat} (hc:c<S.n) (bs bk:Nat) (q:Bk w bs 26 #[.pointer (some ⟨L.b,0,none⟩)]) (hbk:Bk w bk 83 #[.pointer (some ⟨L.kb c,0,none⟩)]):
    Calls PV 54 #[.pointer (some ⟨bs,0,none⟩),.pointer (some ⟨bk,0,none⟩)] w (Done L E (Plain.serve S c) m ow w):=by
 have hI:=fx6 (fsq h hG hB hE hc);obtain⟨c1,d1⟩:=q.ceF;obtain⟨c2,d2⟩:=hbk.ceF;clear h hG hB hE;go_enter PV.func54,Tryz.ntmps54;go_wp2_with (first|(go_at_call 55;refine hI.out.mono ?_;rintro e w3 gD;obtain⟨rfl,j⟩:=gD.out));go_ret;exact⟨rfl,j⟩
end
def flt:lockV.ntmps=3:=rfl
def fhg:unlockV.ntmps=3:=rfl
section
variable {w:World} {b:Nat} {t:TypeId} {cs:Array Value}
def lock57 (hb:Base w) (hB:Bk w b t cs) (h2:2<=b) (h0:cs[0]? =some (.int .i32 0)):Calls PV 57 #[.pointer (some ⟨b,0,none⟩)] w λx w'=>x=.returned (.tuple #[])/\w'=w.setCell ⟨b,0,none⟩ (.int .i32 1):=by
 obtain⟨k0,k1⟩:=hb.chk hB h2 0;have c:=(hB.ce 0).trans h0;have d:=hB.fz 0;clear hb hB;go_enter PV.func57,flt;simp only[fql,chkR,chk,oper];go_wp2
 first|(go_end0;exact⟨rfl,rfl⟩)|(refine f0q (f2g rfl _ _ _) rfl ?_;exact⟨rfl,rfl⟩)
def fvc (hb:Base w) (hB:Bk w b t cs) (h2:2<=b) (h0:cs[0]? =some (.int .i32 1)):Calls PV 58 #[.pointer (some ⟨b,0,none⟩)] w λx w'=>x=.returned (.tuple #[])/\w'=w.setCell ⟨b,0,none⟩ (.int .i32 0):=by
 obtain⟨k0,k1⟩:=hb.chk hB h2 0;have c:=(hB.ce 0).trans h0;have d:=hB.fz 0;clear hb hB;go_enter PV.func58,fhg;simp only[fe5,chkR,chk,oper];go_wp2
 first|(go_end0;exact⟨rfl,rfl⟩)|(refine f0q (f2g rfl _ _ _) rfl ?_;exact⟨rfl,rfl⟩)
def lock25 (hb:Base w) (hB:Bk w b t cs) (h2:2<=b) (h0:cs[0]? =some (.int .i32 0)):Calls PV 25 #[.pointer (some ⟨b,0,none⟩)] w λx w'=>x=.returned (.tuple #[])/\w'=w.setCell ⟨b,0,none⟩ (.int .i32 1):=by
 have hL:=lock57 hb hB h2 h0;have j:=fx6 hL;clear hb hB hL;go_enter PV.func25,Tryz.ntmps25;go_wp2_with (first|(go_at_call 57;refine j.out.mono ?_;rintro e w1 ⟨rfl,rfl⟩))
 first|(go_end0;exact⟨rfl,rfl⟩)|(refine f0q (f2g rfl _ _ _) rfl ?_;exact⟨rfl,rfl⟩)
def fne (u:FrameMode) (hb:Base w) (hB:Bk w b t cs) (h2:2<=b) (h0:cs[0]? =some (.int .i32 1)):CallsD PV 26 #[.pointer (some ⟨b,0,none⟩)] u w λx u' w'=>u'=u/\(x=.returned (.tuple #[])/\w'=w.setCell ⟨b,0,none⟩ (.int .i32 0)):=by
 have hL:=fvc hb hB h2 h0;have j:=fx6 hL;clear hb hB hL
 go_enter_d PV.func26,Tryz.ntmps26
 go_wp2_with (first|(go_at_call 58;refine j.out.mono ?_;rintro e w1 ⟨rfl,rfl⟩))
 first|(go_end0;exact⟨rfl,rfl⟩)|(refine f0q (f2g rfl _ _ _) rfl ?_;exact⟨rfl,rfl⟩)
end
structure Marks (L:Lay) (n:Nat) (w:World):Prop where
 m0:MarkAt w L.c0
 ms: ∀i,i<n->MarkAt w (L.wc i)
structure Ey (ow ow':Nat->Nat) (w w':World):Prop where
 ch:Ch (λx=>ow x≠0) w w'
 own: ∀x,x<w.heap.size->ow' x=ow x
section
variable {ow ow' ow2:Nat->Nat} {w w' w2:World} {E:Nat->Value}
def Ex.ey (h:Ex ow ow' w w'):Ey ow ow' w w':=⟨h.ch,h.own⟩
def Ey.rf:Ey ow ow w w:=⟨Ch.rf _ _,λ_ _=>rfl⟩
def Ey.tr (h:Ey ow ow' w w') (h2:Ey ow' ow2 w' w2):Ey ow ow2 w w2:=
 ⟨h.ch.tr h2.ch (λx hx=>by
  rcases f01 x w.heap.size with h'|h'
  ·exact .inl (by rw[<- h.own x h'];exact hx)
  ·exact .inr h'),
  λx hx=>(h2.own x (f0f hx h.ch.size)).trans (h.own x hx)⟩
def Ey.bl (hb:Bl w w'):Ey ow ow w w':=(Ex.bl hb).ey
def Ey.of {K:Nat->Prop} (hC:Ch K w w') (hK: ∀x,x<w.heap.size->K x->ow x≠0):Ey ow ow w w':=
 ⟨⟨hC.os,hC.tape,hC.output,hC.size,λx hx hn=>hC.block x hx λhk=>hn (hK x hx hk)⟩,λ_ _=>rfl⟩
def Errs.ey (h:Errs E w) (hx:Ey ow ow' w w') (j: ∀x,x<12->ow x=0) (hsz:12<=w.heap.size):Errs E w':=
 ⟨λi hi=>(f0h (a:=⟨i,0,none⟩) (hx.ch.block i fe (λhn=>hn (j i hi)))).trans (h.at_ i hi),h.form⟩
def Bk.ey {g:Nat} {t:TypeId} {cs:Array Value} (h:Bk w g t cs) (hx:Ey ow ow' w w') (h0:ow g=0):Bk w' g t cs:=h.ch hx.ch (λhn=>hn h0)
end
section
variable {L:Lay} {V:Vals} {S:Plain.Ses} {m:Int} {ow ow':Nat->Nat} {w w':World} {E:Nat->Value}
def Mem.mark (h:Mem L V S m ow w) {k:Nat} (hk:ow k=6\/ ∃c,ow k=16*c+21) (hC:Ch (λy=>y=k) w w') {a c d:Nat} {b:Array Value} {f g:Bool} (ho:w.heap[k]? =some (.chan a b f c d g)):Mem L V S m ow w':=by
 have t:=h.tag;have j:12<=k:=t.ge fe
 have tg: ∀x,(ow x≠6/\ ∀c,ow x≠16*c+21)-> ¬x=k:=λx hx e=>by
    subst e;rcases hk with hk|⟨c,hk⟩
    ·exact hx.1 hk
    ·exact hx.2 c hk
 have hT:NT (λy=>y=k) w:=⟨λv t hv x hx hk=>uz hv ho (λ_ _ _ e=>by cases e) x hx hk⟩
 exact⟨h.base.ch hC fe fe,t,λx hx=>h.fresh x (f08 hC.size hx),h.bb.ch hC (tg _ (by rw[t.b];exact⟨by omega,λc=>by omega⟩)),h.ss.ch hC (tg _ (by rw[t.sb];exact⟨by omega,λc=>by omega⟩)),h.ee.ch hC (tg _ (by rw[t.eb];exact⟨by omega,λc=>by omega⟩)),h.nn.ch hC (tg _ (by rw[t.nb];exact⟨by omega,λc=>by omega⟩)),h.mp.ch hC (tg _ (by rw[t.mb];exact⟨by omega,λc=>by omega⟩)),
    qx hC h.ar (λx hx=>tg _ (by rw[t.ar x hx];exact⟨by omega,λc=>by omega⟩)),qx hC h.st (hT.out _ _ h.st),qx hC h.lg (λx hx=>tg _ (by rw[t.lg x hx];exact⟨by omega,λc=>by omega⟩)),λc hc=>(h.kk c hc).ch hC (tg _ (by rw[t.kb c hc];exact⟨by omega,λc=>by omega⟩)),λc hc=>(h.up c hc).ch_ hC (tg _ (by rw[t.ul c hc];exact⟨by omega,λc=>by omega⟩)) (tg _ (by rw[t.uc c hc];exact⟨by omega,λc=>by omega⟩)),
    λc hc=>(h.dn c hc).ch_ hC (tg _ (by rw[t.dl c hc];exact⟨by omega,λc=>by omega⟩)) (tg _ (by rw[t.dc c hc];exact⟨by omega,λc=>by omega⟩)),λc hc=>qx hC (h.tx c hc) (hT.out _ _ (h.tx c hc)),λc hc=>qx hC (h.rw c hc) (λx hx=>tg _ (by rw[t.rv c hc x hx];exact⟨by omega,λc=>by omega⟩)),λc hc=>qx hC (h.er c hc) (λx hx=>tg _ (by rw[t.er c hc x hx];exact⟨by omega,λc=>by omega⟩)),h.far.ch hC.size⟩
def Marks.get (h:Marks L S.n w) {k:Nat} (hk:k=L.c0\/ ∃c,c<S.n/\k=L.wc c):MarkAt w k:=by
 rcases hk with rfl|⟨c,hc,rfl⟩
 ·exact h.m0
 ·exact h.ms c hc
def Mem.mtag (h:Mem L V S m ow w) {k:Nat} (hk:k=L.c0\/ ∃c,c<S.n/\k=L.wc c):ow k=6\/ ∃c,ow k=16*c+21:=by
 rcases hk with rfl|⟨c,hc,rfl⟩
 ·exact .inl h.tag.c0
 ·exact .inr ⟨c,h.tag.wc c hc⟩
def MarkAt.lt {k:Nat} (h:MarkAt w k):k<w.heap.size:=by
 obtain⟨x,s,r,h⟩:=h;exact(fx5.1 h).1
def MarkAt.to {k:Nat} (h:MarkAt w k) (e:w'.heap[k]? =w.heap[k]?):MarkAt w' k:=by
 obtain⟨x,s,r,h⟩:=h;exact⟨x,s,r,e.trans h⟩
structure Done2 (L:Lay) (E:Nat->Value) (R:Nat×Plain.Ses) (m:Int) (ow:Nat->Nat) (w:World) (x:Ending) (w':World):Prop where
 out:x=.returned (errV E R.1)/\ ∃V' ow',Mem L V' R.2 m ow' w'/\Marks L R.2.n w'/\Ey ow ow' w w'
def Done2.bl {R:Nat×Plain.Ses} {w1 w':World} {x:Ending} (hb:Bl w w1) (h:Done2 L E R m ow w1 x w'):Done2 L E R m ow w x w':=
 ⟨h.out.1,let ⟨V',ow',hM,hm,hE⟩:=h.out.2;⟨V',ow',hM,hm,(Ey.bl hb).tr hE⟩⟩
def fk0 (h:Mem L V S m ow w) (hM:Marks L S.n w) {k:Nat} (hk:k=L.c0\/ ∃c,c<S.n/\k=L.wc c) (f:Nat) {fn:Func} (Y:PV.funcs[f]? =some fn) (ad:(fn.name== "runtime.NumGoroutine")=false) (X:fn.body.isNone=false) (q A:Array Value) {R:Nat×Plain.Ses} (U:R.2.n=S.n)
    (hf: ∀W,Mem L V S m ow W->Ch (λy=>y=k) w W->Calls PV f (q++ #[]++A) W (Done L E R m ow W)):
    Calls PV 46 #[.chan (some k),.func (.func f) q A] w (Done2 L E R m ow w):=by
 have ht:=h.mtag hk;have hm:=hM.get hk;obtain⟨x0,s0,r0,ho⟩:=id hm;refine(do_any k f Y ad X q A w hm (R:=λv w'=>v=errV E R.1/\ ∃V' ow',Mem L V' R.2 m ow' w'/\Busy w' k/\ow' k=ow k/\(∀j,(j=L.c0\/ ∃c,c<S.n/\j=L.wc c)->j≠k->MarkAt w' j)/\Ey ow ow' w w') ?_).mono ?_
 ·intro W hC M;refine(hf W (h.mark ht hC ho) hC).mono ?_;intro x w' hD;obtain⟨rfl,V',ow',C,hX⟩:=hD.out;have hlt:k<W.heap.size:=f0f hm.lt hC.size;have I:Busy w' k:=by
   obtain⟨s,r,hb⟩:=M.at_;exact⟨s,r,(hX.marks k hlt ht).trans hb⟩
  refine⟨I,_,rfl,rfl,V',ow',C,I,hX.own k hlt,λj hj ac=>?_,(Ey.of hC (λy _ e=>by subst e;omega)).tr hX.ey⟩;have D:=hM.get hj;have aa:=hC.block j D.lt ac;exact(D.to aa).to (hX.marks j (f0f D.lt hC.size) (h.mtag hj))
 ·rintro x w2 ⟨v,w',rfl,⟨rfl,V',ow',C,hb,ae,J,hE⟩,ab,hC,hsz⟩;obtain⟨s,r,hb⟩:=hb.at_;have O:=C.mark (by rw[ae];exact ht) hC hb;have B: ∀j,(j=L.c0\/ ∃c,c<S.n/\j=L.wc c)->MarkAt w2 j:=λj hj=>by
   by_cases e:j=k
   ·subst e;exact ab
   ·exact(J j hj e).to (hC.block j (J j hj e).lt e)
  exact⟨rfl,V',ow',O,⟨B _ (.inl rfl),λi hi=>B _ (.inr ⟨i,by rw[<- U];exact hi,rfl⟩)⟩,hE.tr (Ey.of hC (λy _ e=>by subst e;omega))⟩
end
def fhh (r:Int) (w:World):Calls PV 45 #[.int .i32 r] w λx w'=>x=.returned (.bool (Plain.validR r))/\w'=w:=by
 by_cases h1:0<=r <;>by_cases h2:r<55296 <;>by_cases h3:57343<r <;>by_cases h4:r<=1114111;all_goals first|(exfalso;omega)|skip
 all_goals
    go_enter PV.func45,Tryz.ntmps45;go_wp2;go_ret;exact⟨by simp[Plain.validR,h1,h2,h3,h4],rfl⟩
section
variable {L:Lay} {V:Vals} {S:Plain.Ses} {ow:Nat->Nat} {w:World} {E:Nat->Value}
def fhi {S:Plain.Ses} {c:Nat} {k pos r:Int}:(Plain.change S c k pos r).2.n=S.n:=by
 unfold Plain.change;repeat' split
 all_goals rfl
def serve_n {S:Plain.Ses} {c:Nat}:(Plain.serve S c).2.n=S.n:=by
 unfold Plain.serve;split
 ·rfl
 ·split <;>rfl
def get_n {S:Plain.Ses} {c:Nat}:(Plain.get S c).2.n=S.n:=by
 unfold Plain.get;split <;>rfl
def f6t {m:Int} (h:Mem L V S m ow w) (hM:Marks L S.n w) (hE:Errs E w) {k:Nat} (hk:k=L.c0\/ ∃c,c<S.n/\k=L.wc c) {W:World} (hC:Ch (λy=>y=k) w W):Errs E W/\ ∀g t cs,Bk w g t cs->Bk W g t cs:=by
 have ht:=h.mtag hk;have j:12<=k:=h.tag.ge fe;obtain⟨x,s,r,hm⟩:=hM.get hk;have hs:=h.size;refine⟨⟨λi hi=>(f0h (a:=⟨i,0,none⟩) (hC.block i fe fe)).trans (hE.at_ i hi),hE.form⟩,λg t cs hg=>hg.ch hC (λe=>?_)⟩;have:=hg.at_;rw[e,hm] at this;cases this
def Errs.bl {W:World} (hE:Errs E w) (hs:12<=w.heap.size) (hb:Bl w W):Errs E W:=⟨λi hi=>(f0h (a:=⟨i,0,none⟩) (hb.block i fe)).trans (hE.at_ i hi),hE.form⟩
def Marks.bl {n:Nat} {W:World} (hM:Marks L n w) (hb:Bl w W):Marks L n W:=⟨hM.m0.to (hb.block _ hM.m0.lt),λi hi=>(hM.ms i hi).to (hb.block _ (hM.ms i hi).lt)⟩
def fvd (h:Mem L V S 1 ow w) (hM:Marks L S.n w) (hG:Plain.Good S) (hB:Plain.Bnd S) (hE:Errs E w) {c:Nat} (hc:c<S.n) (pos:Int) (bs:Nat) (ba:Nat) (B:Bk w bs 26 #[.pointer (some ⟨L.b,0,none⟩)]) (A:Bk w ba 3 #[.int .i64 pos]):
    Calls PV 49 #[.pointer (some ⟨L.kb c,0,none⟩),.pointer (some ⟨bs,0,none⟩),.pointer (some ⟨ba,0,none⟩)] w (Done2 L E (Plain.change S c 2 pos 0) 1 ow w):=by
 have j:Bl w (w.alloc (.cells #[.pointer (some ⟨L.kb c,0,none⟩)] 83)):=(Bl.rf _).al _;have m:Bk (w.alloc (.cells #[.pointer (some ⟨L.kb c,0,none⟩)] 83)) (L.kb c) 89 #[.int .i64 (c:Int),V.tv c,.int .i64 (S.cl c).cur,.int .i64 (S.cl c).en.mine,.int .i64 (S.cl c).en.other,.int .i64 (S.cl c).en.acked,V.rv c,.pointer (some ⟨L.ul c,0,none⟩),.pointer (some ⟨L.dl c,0,none⟩),.int .i64 (S.cl c).typed,.chan (some (L.wc c))]:=((h.kk c hc).al _);obtain⟨ck,dk⟩:=m.ceF
 have hD:=fx6 (fk0 (h.bl j) (hM.bl j) (k:=L.wc c) (.inr ⟨c,hc,rfl⟩) 50 PV.func50 fd fd #[] #[.pointer (some ⟨bs,0,none⟩),.pointer (some ⟨w.heap.size,0,none⟩),.pointer (some ⟨ba,0,none⟩)] (R:=Plain.change S c 2 pos 0) fhi (λW hW hC=>by
    have hK:=f6t (h.bl j) (hM.bl j) (hE.bl h.size j) (k:=L.wc c) (.inr ⟨c,hc,rfl⟩) hC;exact clo_del hW hG hB hK.1 hc pos bs w.heap.size ba (hK.2 _ _ _ (B.al _)) (hK.2 _ _ _ (Bk.nw rfl)) (hK.2 _ _ _ (A.al _))))
 have hh:=fx6 h;have C:=fx6 hM;clear h hM hG hB hE m;go_enter PV.func49,Tryz.ntmps49;go_wp2_with (first|(go_at_call 46;refine hD.out.mono ?_;rintro e w3 gD;obtain⟨rfl,q⟩:=gD.out));go_ret;exact Done2.bl j ⟨rfl,q⟩
def fve (h:Mem L V S 1 ow w) (hM:Marks L S.n w) (hG:Plain.Good S) (hB:Plain.Bnd S) (hE:Errs E w) {c:Nat} (hc:c<S.n) (pos:Int) (bs:Nat) (ba:Nat) (B:Bk w bs 26 #[.pointer (some ⟨L.b,0,none⟩)]) (A:Bk w ba 3 #[.int .i64 pos]):
    Calls PV 51 #[.pointer (some ⟨L.kb c,0,none⟩),.pointer (some ⟨bs,0,none⟩),.pointer (some ⟨ba,0,none⟩)] w (Done2 L E (Plain.change S c 3 pos 0) 1 ow w):=by
 have j:Bl w (w.alloc (.cells #[.pointer (some ⟨L.kb c,0,none⟩)] 83)):=(Bl.rf _).al _;have m:Bk (w.alloc (.cells #[.pointer (some ⟨L.kb c,0,none⟩)] 83)) (L.kb c) 89 #[.int .i64 (c:Int),V.tv c,.int .i64 (S.cl c).cur,.int .i64 (S.cl c).en.mine,.int .i64 (S.cl c).en.other,.int .i64 (S.cl c).en.acked,V.rv c,.pointer (some ⟨L.ul c,0,none⟩),.pointer (some ⟨L.dl c,0,none⟩),.int .i64 (S.cl c).typed,.chan (some (L.wc c))]:=((h.kk c hc).al _);obtain⟨ck,dk⟩:=m.ceF
 have hD:=fx6 (fk0 (h.bl j) (hM.bl j) (k:=L.wc c) (.inr ⟨c,hc,rfl⟩) 52 PV.func52 fd fd #[] #[.pointer (some ⟨bs,0,none⟩),.pointer (some ⟨w.heap.size,0,none⟩),.pointer (some ⟨ba,0,none⟩)] (R:=Plain.change S c 3 pos 0) fhi (λW hW hC=>by
    have hK:=f6t (h.bl j) (hM.bl j) (hE.bl h.size j) (k:=L.wc c) (.inr ⟨c,hc,rfl⟩) hC;exact clo_mov hW hG hB hK.1 hc pos bs w.heap.size ba (hK.2 _ _ _ (B.al _)) (hK.2 _ _ _ (Bk.nw rfl)) (hK.2 _ _ _ (A.al _))))
 have hh:=fx6 h;have C:=fx6 hM;clear h hM hG hB hE m;go_enter PV.func51,Tryz.ntmps51;go_wp2_with (first|(go_at_call 46;refine hD.out.mono ?_;rintro e w3 gD;obtain⟨rfl,q⟩:=gD.out));go_ret;exact Done2.bl j ⟨rfl,q⟩
def fvf (h:Mem L V S 1 ow w) (hM:Marks L S.n w) (hG:Plain.Good S) (hB:Plain.Bnd S) (hE:Errs E w) {c:Nat} (hc:c<S.n) (pos:Int) (r:Int) (br:Nat) (bs:Nat) (ba:Nat) (m:Bk w br 21 #[.int .i32 r]) (D:Bk w bs 26 #[.pointer (some ⟨L.b,0,none⟩)]) (C:Bk w ba 3 #[.int .i64 pos]):
    Calls PV 44 #[.pointer (some ⟨L.kb c,0,none⟩),.pointer (some ⟨br,0,none⟩),.pointer (some ⟨bs,0,none⟩),.pointer (some ⟨ba,0,none⟩)] w (Done2 L E (if Plain.validR r then Plain.change S c 1 pos r else (3,S)) 1 ow w):=by
 have h1:=hE.at_ 1 fe;have O:(w.alloc (.cells #[.pointer (some ⟨L.kb c,0,none⟩)] 83)).cell? ⟨1,0,none⟩=some (E 1):=(f0h (a:=⟨1,0,none⟩) (f7l w _ 1 qi)).trans h1;obtain⟨J,M⟩:=(m.al (.cells #[.pointer (some ⟨L.kb c,0,none⟩)] 83)).ceF;have hV:=fx6 (λW=>fhh r W);have j:Bl w (w.alloc (.cells #[.pointer (some ⟨L.kb c,0,none⟩)] 83)):=(Bl.rf _).al _;have q:Bk (w.alloc (.cells #[.pointer (some ⟨L.kb c,0,none⟩)] 83)) (L.kb c) 89 #[.int .i64 (c:Int),V.tv c,.int .i64 (S.cl c).cur,.int .i64 (S.cl c).en.mine,.int .i64 (S.cl c).en.other,.int .i64 (S.cl c).en.acked,V.rv c,.pointer (some ⟨L.ul c,0,none⟩),.pointer (some ⟨L.dl c,0,none⟩),.int .i64 (S.cl c).typed,.chan (some (L.wc c))]:=((h.kk c hc).al _);obtain⟨ck,dk⟩:=q.ceF
 have hD:=fx6 (fk0 (h.bl j) (hM.bl j) (k:=L.wc c) (.inr ⟨c,hc,rfl⟩) 47 PV.func47 fd fd #[] #[.pointer (some ⟨bs,0,none⟩),.pointer (some ⟨w.heap.size,0,none⟩),.pointer (some ⟨ba,0,none⟩),.pointer (some ⟨br,0,none⟩)] (R:=Plain.change S c 1 pos r) fhi (λW hW hC=>by
    have hK:=f6t (h.bl j) (hM.bl j) (hE.bl h.size j) (k:=L.wc c) (.inr ⟨c,hc,rfl⟩) hC;exact clo_ins hW hG hB hK.1 hc pos r bs w.heap.size ba br (hK.2 _ _ _ (D.al _)) (hK.2 _ _ _ (Bk.nw rfl)) (hK.2 _ _ _ (C.al _)) (hK.2 _ _ _ (m.al _))))
 have hh:=fx6 h;have B:=fx6 hM;clear h hM hG hB hE q;by_cases hv:Plain.validR r=true
 ·rw[f02 hv];go_enter PV.func44,Tryz.ntmps44;go_wp2_with (first|(go_at_call 45;refine(hV.out _).mono ?_;rintro e w1 ⟨rfl,rfl⟩;rw[hv])|(go_at_call 46;refine hD.out.mono ?_;rintro e w3 gD;obtain⟨rfl,A⟩:=gD.out));go_ret;exact Done2.bl j ⟨rfl,A⟩
 ·have I:Plain.validR r=false:=by simpa using hv
  rw[fx9 hv];clear hv;go_enter PV.func44,Tryz.ntmps44;go_wp2_with (first|(go_at_call 45;refine(hV.out _).mono ?_;rintro e w1 ⟨rfl,rfl⟩;rw[I]));go_ret;exact Done2.bl j ⟨rfl,V,ow,hh.out.bl j,B.out.bl j,Ey.rf⟩
def call_up (h:Mem L V S 1 ow w) (hM:Marks L S.n w) (hG:Plain.Good S) (hB:Plain.Bnd S) (hE:Errs E w) {c:Nat} (hc:c<S.n) (bu bs:Nat) (C:Bk w bu 4 #[.bool true]) (m:Bk w bs 26 #[.pointer (some ⟨L.b,0,none⟩)]):
    Calls PV 53 #[.pointer (some ⟨L.kb c,0,none⟩),.pointer (some ⟨bu,0,none⟩),.pointer (some ⟨bs,0,none⟩)] w (Done2 L E (Plain.serve S c) 1 ow w):=by
 have j:Bl w (w.alloc (.cells #[.pointer (some ⟨L.kb c,0,none⟩)] 83)):=(Bl.rf _).al _;have A:Bk (w.alloc (.cells #[.pointer (some ⟨L.kb c,0,none⟩)] 83)) (L.kb c) 89 #[.int .i64 (c:Int),V.tv c,.int .i64 (S.cl c).cur,.int .i64 (S.cl c).en.mine,.int .i64 (S.cl c).en.other,.int .i64 (S.cl c).en.acked,V.rv c,.pointer (some ⟨L.ul c,0,none⟩),.pointer (some ⟨L.dl c,0,none⟩),.int .i64 (S.cl c).typed,.chan (some (L.wc c))]:=((h.kk c hc).al _);obtain⟨ck,dk⟩:=A.ceF;have q:Bk (w.alloc (.cells #[.pointer (some ⟨L.kb c,0,none⟩)] 83)) w.heap.size 83 #[.pointer (some ⟨L.kb c,0,none⟩)]:=Bk.nw rfl;obtain⟨cu,du⟩:=(C.al (.cells #[.pointer (some ⟨L.kb c,0,none⟩)] 83)).ceF;obtain⟨cs,ds⟩:=(m.al (.cells #[.pointer (some ⟨L.kb c,0,none⟩)] 83)).ceF;obtain⟨cb,db⟩:=(h.bb.al (.cells #[.pointer (some ⟨L.kb c,0,none⟩)] 83)).ceF;obtain⟨cv,dv⟩:=(h.ss.al (.cells #[.pointer (some ⟨L.kb c,0,none⟩)] 83)).ceF
 have hD:=fx6 (fk0 (h.bl j) (hM.bl j) (k:=L.c0) (.inl rfl) 54 PV.func54 fd fd #[] #[.pointer (some ⟨bs,0,none⟩),.pointer (some ⟨w.heap.size,0,none⟩)] (R:=Plain.serve S c) serve_n (λW hW hC=>by
    have hK:=f6t (h.bl j) (hM.bl j) (hE.bl h.size j) (k:=L.c0) (.inl rfl) hC;exact clo_up hW hG hB hK.1 hc bs w.heap.size (hK.2 _ _ _ (m.al _)) (hK.2 _ _ _ q)))
 clear h hM hG hB hE A q;go_enter PV.func53,Tryz.ntmps53;go_wp2_with (first|(go_at_call 46;refine hD.out.mono ?_;rintro e w3 gD;obtain⟨rfl,B⟩:=gD.out));go_ret;exact Done2.bl j ⟨rfl,B⟩
def fsr (h:Mem L V S 1 ow w) (hM:Marks L S.n w) (hG:Plain.Good S) (hB:Plain.Bnd S) (hE:Errs E w) {c:Nat} (hc:c<S.n) (bu bs:Nat) (B:Bk w bu 4 #[.bool false]):
    Calls PV 53 #[.pointer (some ⟨L.kb c,0,none⟩),.pointer (some ⟨bu,0,none⟩),.pointer (some ⟨bs,0,none⟩)] w (Done2 L E (Plain.get S c) 1 ow w):=by
 have A:Bl w (w.alloc (.cells #[.pointer (some ⟨L.kb c,0,none⟩)] 83)):=(Bl.rf _).al _;have m:Bk (w.alloc (.cells #[.pointer (some ⟨L.kb c,0,none⟩)] 83)) (L.kb c) 89 #[.int .i64 (c:Int),V.tv c,.int .i64 (S.cl c).cur,.int .i64 (S.cl c).en.mine,.int .i64 (S.cl c).en.other,.int .i64 (S.cl c).en.acked,V.rv c,.pointer (some ⟨L.ul c,0,none⟩),.pointer (some ⟨L.dl c,0,none⟩),.int .i64 (S.cl c).typed,.chan (some (L.wc c))]:=((h.kk c hc).al _);obtain⟨ck,dk⟩:=m.ceF;have C:Bk (w.alloc (.cells #[.pointer (some ⟨L.kb c,0,none⟩)] 83)) w.heap.size 83 #[.pointer (some ⟨L.kb c,0,none⟩)]:=Bk.nw rfl;obtain⟨cu,du⟩:=(B.al (.cells #[.pointer (some ⟨L.kb c,0,none⟩)] 83)).ceF
 have hD:=fx6 (λW0 (j:Bl w W0)=>fk0 (h.bl j) (hM.bl j) (k:=L.wc c) (.inr ⟨c,hc,rfl⟩) 56 PV.func56 fd fd #[.pointer (some ⟨L.kb c,0,none⟩)] #[] (R:=Plain.get S c) get_n (λW hW hC=>by
    have hK:=f6t (h.bl j) (hM.bl j) (hE.bl h.size j) (k:=L.wc c) (.inr ⟨c,hc,rfl⟩) hC;exact(mem_get hW hG hB hK.1 hc).mono λx w' hx=>⟨hx⟩))
 clear h hM hG hB hE;go_enter PV.func53,Tryz.ntmps53;go_upto_region 3 with fail
 refine rn (sel [λw'=>Bk w' w.heap.size 83 #[.pointer (some ⟨L.kb c,0,none⟩)],λw'=>Bk w' (L.kb c) 89 #[.int .i64 (c:Int),V.tv c,.int .i64 (S.cl c).cur,.int .i64 (S.cl c).en.mine,.int .i64 (S.cl c).en.other,.int .i64 (S.cl c).en.acked,V.rv c,.pointer (some ⟨L.ul c,0,none⟩),.pointer (some ⟨L.dl c,0,none⟩),.int .i64 (S.cl c).typed,.chan (some (L.wc c))]]) [(.h 0,0),(.h 9,1),(.h 9,2),(.h 1,3),(.h 0,4),(.h 9,5),(.c [9],6),(.h 9,7)] fd fd (qy (Bk.dr C) (qy (Bk.dr m) (λ_=>un))) ?_;simp only[vg,fy9,fz4,fz3,fy2,fx7,fy0];iterate 6 (refine oH ?_;try simp only[aps])
 (refine rx (λK hK=>?_);go_simp;go_at_call 46;refine(hD.out _ ga).mono ?_;rintro e w3 gD;obtain⟨rfl,q⟩:=gD.out;refine hK _ _ (rh trivial ry) ?_;clear hK K;try simp only[aps])
 (refine oH ?_;try simp only[aps]);refine ub ?_;go_wp2;go_ret;exact Done2.bl A.dr ⟨rfl,q⟩
end
def fhj: ∃m,PV.underlying 49=some (.interface m):=⟨_,Tryz.underlying49⟩
def lx (t:TypeId) (v:Value) (w:World):(binOp .neq 49 (.iface t v) .nilIface).run PV w=.ok (.bool true) w:=by
 obtain⟨m,hu⟩:=fhj
 have h: ∀d:Nat,(Op.equalIn (d+1) 49 (.iface t v) .nilIface).run PV w=.ok false w:=λd=>by
    simp[Op.equalIn,f1l hu]
 simp only[binOp];simp[Op.equal,Op.maxDepth,h 9999]
def fhk (t:TypeId) (v:Value) (w:World):(binOp .eql 49 (.iface t v) .nilIface).run PV w=.ok (.bool false) w:=by
 obtain⟨m,hu⟩:=fhj
 have h: ∀d:Nat,(Op.equalIn (d+1) 49 (.iface t v) .nilIface).run PV w=.ok false w:=λd=>by
    simp[Op.equalIn,f1l hu]
 simp only[binOp];simp[Op.equal,Op.maxDepth,h 9999]
def fco (w:World):(binOp .neq 49 .nilIface .nilIface).run PV w=.ok (.bool false) w:=by
 obtain⟨m,hu⟩:=fhj
 have h: ∀d:Nat,(Op.equalIn (d+1) 49 .nilIface .nilIface).run PV w=.ok true w:=λd=>by
    simp[Op.equalIn,f1l hu]
 simp only[binOp];simp[Op.equal,Op.maxDepth,h 9999]
def fvg (w:World):(binOp .eql 49 .nilIface .nilIface).run PV w=.ok (.bool true) w:=by
 obtain⟨m,hu⟩:=fhj
 have h: ∀d:Nat,(Op.equalIn (d+1) 49 .nilIface .nilIface).run PV w=.ok true w:=λd=>by
    simp[Op.equalIn,f1l hu]
 simp only[binOp];simp[Op.equal,Op.maxDepth,h 9999]
section
variable {L:Lay} {V:Vals} {S:Plain.Ses} {m:Int} {ow ow':Nat->Nat} {w w':World} {E:Nat->Value}
def fhl (h:Mem L V S m ow w) (m':Int): ∃ow',Mem L V S m' ow' (w.setCell ⟨L.b,0,none⟩ (.int .i32 m'))/\Ex ow ow' w (w.setCell ⟨L.b,0,none⟩ (.int .i32 m'))/\Ch (λx=>x=L.b) w (w.setCell ⟨L.b,0,none⟩ (.int .i32 m')):=by
 have hC:Ch (λx=>x=L.b) w (w.setCell ⟨L.b,0,none⟩ (.int .i32 m')):=(Ch.rf (λx=>x=L.b) _).st (.inl rfl) _;obtain⟨ow',hM,ho⟩:=h.lock_ m' hC (λx _ hx=>by subst hx;exact h.tag.b) ⟨λu t hu x hx hk=>rp hu h.bb fu x hx hk⟩ ((h.bb.st _).cv fi);exact⟨ow',hM,Ex.of hC ho (λx _ hx=>by subst hx;rw[h.tag.b];refine⟨by omega,by omega,λc'=>by omega⟩),hC⟩
def Marks.ex {n:Nat} (hM:Marks L n w) (hT:Mem L V S m ow w) (hn:n=S.n) (hE:Ex ow ow' w w'):Marks L n w':=
 ⟨hM.m0.to (hE.marks _ hM.m0.lt (.inl hT.tag.c0)),λi hi=>(hM.ms i hi).to (hE.marks _ (hM.ms i hi).lt (.inr ⟨i,hT.tag.wc i (hn▸hi)⟩))⟩
structure fk1 (L:Lay) (V:Vals) (S:Plain.Ses) (E:Nat->Value) (ow:Nat->Nat) (w:World) (w':World) (ow':Nat->Nat):Prop where
 mem:Mem L V S 1 ow' w'
 marks:Marks L S.n w'
 errs:Errs E w'
 ex:Ex ow ow' w w'
 ch:Ch (λx=>x=L.b) w w'
def gl (h:Mem L V S 0 ow w) (hM:Marks L S.n w) (hE:Errs E w):Calls PV 25 #[.pointer (some ⟨L.b,0,none⟩)] w λx w'=>x=.returned (.tuple #[])/\ ∃ow',fk1 L V S E ow w w' ow':=by
 refine(lock25 h.base h.bb kh rfl).mono ?_;rintro x w' ⟨rfl,rfl⟩;obtain⟨ow',h1,h2,h3⟩:=fhl h 1;exact⟨rfl,ow',h1,hM.ex h rfl h2,hE.ex h2 h.tag.lo h.size,h2,h3⟩
def vk (h:Mem L V S 1 ow w) (u:FrameMode):CallsD PV 26 #[.pointer (some ⟨L.b,0,none⟩)] u w λx u' w'=>u'=u/\(x=.returned (.tuple #[])/\ ∃ow',Mem L V S 0 ow' w'/\Ex ow ow' w w'):=by
 refine(fne u h.base h.bb kh rfl).mono ?_;rintro x u' w' ⟨rfl,rfl,rfl⟩;obtain⟨ow',h1,h2,_⟩:=fhl h 0;exact⟨rfl,rfl,ow',h1,h2⟩
structure CallEnd (L:Lay) (E:Nat->Value) (nm:ByteArray) (c:Int) (R:Nat×Plain.Ses) (ow:Nat->Nat) (w:World) (x:Ending) (w':World):Prop where
 out: ∃V' ow',Mem L V' R.2 0 ow' w'/\Marks L R.2.n w'/\Ey ow ow' w w'/\((R.1=0/\x=.returned .nilIface)\/(R.1≠0/\ ∃g,x=.returned (.iface 111 (.pointer (some ⟨g,0,none⟩)))/\Bk w' g 115 #[.string nm,.int .i64 c,E (fhf R.1)]/\ow' g=0))
def CallEnd.bl {nm:ByteArray} {c:Int} {R:Nat×Plain.Ses} {w1:World} {x:Ending} (hb:Bl w w1) (h:CallEnd L E nm c R ow w1 x w'):CallEnd L E nm c R ow w x w':=
 ⟨let ⟨V',ow',hM,hm,hE,h'⟩:=h.out;⟨V',ow',hM,hm,(Ey.bl hb).tr hE,h'⟩⟩
def fnf {k:Nat} (h:k<=7):fhf k<12/\fhf k≠2:=by
 unfold fhf;split
 ·omega
 ·split <;>omega
def fag (hE:Errs E w) {k:Nat} (h0:k≠0) (h:k<=7): ∃t v,errV E k=.iface t v/\E (fhf k)=.iface t v:=by
 obtain⟨t,v,e⟩:=hE.form _ (fnf h).1 (fnf h).2;exact⟨t,v,by unfold errV;rw[fx9 h0,e],e⟩
def f2b {K:Nat} (hK: ∀(x:Array Value) (W:World),(callFunc K x).run PV W=.ok (.enter K x) W) (fs:Array Value) (h:Mem L V S 0 ow w) (hM:Marks L S.n w) (hE:Errs E w) (nm:ByteArray) {i:Nat} (hi:i<S.n) (ah:S.n<=6) {R:Nat×Plain.Ses} (hR:R.1<=7)
    (hf: ∀W B,fk1 L V S E ow w W B->Calls PV K (#[.pointer (some ⟨L.kb i,0,none⟩)]++fs) W (Done2 L E R 1 B W)):
    Calls PV 43 #[.pointer (some ⟨L.b,0,none⟩),.string nm,.int .i64 (i:Int),.func (.func K) #[] fs] w (CallEnd L E nm i R ow w):=by
 obtain⟨ab,cap,q,_⟩:=h.cls_ fe;have ae:(i:Int)<(S.n:Int):=by omega
 have hz:((i:Int)<0)=False:=by simp
 have X:=fx6 (gl h hM hE);have hF:=fx6 hf;have O:=fx6 (λk h0 hk=>fag hE (k:=k) h0 hk);clear h hM hE hf;by_cases h0:R.1=0
 ·have e0:errV E R.1=.nilIface:=by unfold errV;rw[f02 h0]
  have Y:=λw=>fco w
  go_enter_defers PV.func43,Tryz.ntmps43
  go_wp2_with (first|(go_at_call 25;refine X.out.mono ?_;rintro e w1 ⟨rfl,B,g1⟩;obtain⟨cB,dB⟩:=g1.mem.bb.ceF;simp only[sesC,q] at cB;have aa:=g1.errs.at_ 11 fe;have ac:=g1.mem.cls_at q i hi;have M:=fx6 (hF.out _ _ g1);replace g1:=fx6 g1)|(refine M.out.mono ?_;rintro e w3 gD;obtain⟨rfl,C⟩:=gD.out;obtain⟨V3,ad,j,D,J⟩:=C;rw[e0];replace j:=fx6 j));refine f1p (f:=26) (args:=#[.pointer (some ⟨L.b,0,none⟩)]) fi jg ?_;refine(vk j.out .returning).mono ?_;rintro e u' w4 ⟨rfl,rfl,U,I,m⟩;exact⟨_,f0x rfl _ _ _,V3,U,I,D.ex j.out rfl m,(g1.out.ex.ey.tr J).tr m.ey,.inl ⟨h0,rfl⟩⟩
 ·obtain⟨t,v,e0,e1⟩:=O.out _ h0 hR;have Y:=λw=>lx t v w
  go_enter_defers PV.func43,Tryz.ntmps43
  go_wp2_with (first|(go_at_call 25;refine X.out.mono ?_;rintro e w1 ⟨rfl,B,g1⟩;obtain⟨cB,dB⟩:=g1.mem.bb.ceF;simp only[sesC,q] at cB;have aa:=g1.errs.at_ 11 fe;have ac:=g1.mem.cls_at q i hi;have M:=fx6 (hF.out _ _ g1);replace g1:=fx6 g1)|(refine M.out.mono ?_;rintro e w3 gD;obtain⟨rfl,C⟩:=gD.out;obtain⟨V3,ad,j,D,J⟩:=C;rw[e0];replace j:=fx6 j));refine f1p (f:=26) (args:=#[.pointer (some ⟨L.b,0,none⟩)]) fi jg ?_;have A:Bl w3 (w3.alloc (.cells #[.string nm,.int .i64 (i:Int),.iface t v] 115)):=(Bl.rf _).al _;refine(vk (j.out.bl A) .returning).mono ?_;rintro e u' w4 ⟨rfl,rfl,U,I,m⟩;have gB:=Bk.nw (w:=w3) (t:=115) (cs:=#[.string nm,.int .i64 (i:Int),.iface t v]) rfl;have g0:=j.out.fresh w3.heap.size (fx8 _);exact⟨_,f0x rfl _ _ _,V3,U,I,(D.bl A).ex (j.out.bl A) rfl m,((g1.out.ex.ey.tr J).tr (Ey.bl A)).tr m.ey,.inr ⟨h0,_,rfl,by rw[e1];exact gB.ch m.ch (λhn=>hn g0),(m.own _ gB.lt).trans g0⟩⟩
def f1b (fv:Value) (h:Mem L V S 0 ow w) (hM:Marks L S.n w) (hE:Errs E w) (nm:ByteArray) {c:Int} (hc:c<0\/(S.n:Int)<=c) (C:1<=S.n) (U:S.n<=6):
    Calls PV 43 #[.pointer (some ⟨L.b,0,none⟩),.string nm,.int .i64 c,fv] w (CallEnd L E nm c (2,S) ow w):=by
 obtain⟨ab,cap,q,_⟩:=h.cls_ C;have B:=fx6 (gl h hM hE);obtain⟨t,v,e1⟩:=hE.form 3 fe fe;have I:=λw=>lx t v w;clear h hM hE;by_cases M:c<0
 all_goals
    have R:decide (c<0)=decide (c<0):=rfl;try (have O:(S.n:Int)<=c:=by omega)
    go_enter_defers PV.func43,Tryz.ntmps43
    go_wp2_with (first|(go_at_call 25;refine B.out.mono ?_;rintro e w1 ⟨rfl,W,g1⟩;obtain⟨cB,dB⟩:=g1.mem.bb.ceF;simp only[sesC,q] at cB;have J:=g1.errs.at_ 11 fe;have h3:=g1.errs.at_ 3 fe;rw[e1] at h3;replace g1:=fx6 g1));refine f1p (f:=26) (args:=#[.pointer (some ⟨L.b,0,none⟩)]) fi jg ?_;have m:Bl w1 (w1.alloc (.cells #[.string nm,.int .i64 c,.iface t v] 115)):=(Bl.rf _).al _;refine(vk (g1.out.mem.bl m) .returning).mono ?_;rintro e u' w4 ⟨rfl,rfl,D,A,j⟩;have gB:=Bk.nw (w:=w1) (t:=115) (cs:=#[.string nm,.int .i64 c,.iface t v]) rfl;have g0:=g1.out.mem.fresh w1.heap.size (fx8 _);exact⟨_,f0x rfl _ _ _,V,D,A,(g1.out.marks.bl m).ex (g1.out.mem.bl m) rfl j,(g1.out.ex.ey.tr (Ey.bl m)).tr j.ey,.inr ⟨pt,_,rfl,by show Bk _ _ _ #[_,_,E 3];rw[e1];exact gB.ch j.ch (λhn=>hn g0),(j.own _ gB.lt).trans g0⟩⟩
end
def f6u {S:Plain.Ses} {c:Nat} {k pos r:Int}:(Plain.change S c k pos r).1<=7:=by
 unfold Plain.change;repeat' split
 all_goals (simp only[];omega)
def fng {S:Plain.Ses} {c:Nat}:(Plain.serve S c).1<=7:=by
 unfold Plain.serve;split
 ·simp
 ·split <;>simp
def fwb {S:Plain.Ses} {c:Nat}:(Plain.get S c).1<=7:=by
 unfold Plain.get;split <;>simp
def ins_le {S:Plain.Ses} {c:Nat} {pos r:Int}:(if Plain.validR r then Plain.change S c 1 pos r else (3,S)).1<=7:=by
 split
 ·exact f6u
 ·simp
section
variable {L:Lay} {V:Vals} {S:Plain.Ses} {ow:Nat->Nat} {w:World} {E:Nat->Value}
def fp3 (h:Mem L V S 0 ow w) (hM:Marks L S.n w) (hG:Plain.Good S) (hB:Plain.Bnd S) (hE:Errs E w) (c pos r:Int):
    Calls PV 21 #[.pointer (some ⟨L.b,0,none⟩),.int .i64 c,.int .i64 pos,.int .i32 r] w (CallEnd L E ⟨#[73,110,115,101,114,116]⟩ c (Plain.call S 1 c pos r) ow w):=by
 have B:=h.bb.lt;have j:Bl w (((w.alloc (.cells #[.pointer (some ⟨L.b,0,none⟩)] 26)).alloc (.cells #[.int .i64 pos] 3)).alloc (.cells #[.int .i32 r] 21)):=(((Bl.rf _).al _).al _).al _;have m:=fx6 (λ(W:World) (x t:Nat) (cs:Array Value) (hx:Bk (((w.alloc (.cells #[.pointer (some ⟨L.b,0,none⟩)] 26)).alloc (.cells #[.int .i64 pos] 3)).alloc (.cells #[.int .i32 r] 21)) x t cs) (C:w.heap.size<=x) (hC:Ch (λy=>y=L.b) (((w.alloc (.cells #[.pointer (some ⟨L.b,0,none⟩)] 26)).alloc (.cells #[.int .i64 pos] 3)).alloc (.cells #[.int .i32 r] 21)) W)=>hx.ch hC (λe=>by omega));have x0:Bk (((w.alloc (.cells #[.pointer (some ⟨L.b,0,none⟩)] 26)).alloc (.cells #[.int .i64 pos] 3)).alloc (.cells #[.int .i32 r] 21)) (w.heap.size) 26 #[.pointer (some ⟨L.b,0,none⟩)]:=(Bk.al (Bk.al (Bk.nw (w:=w) (t:=26) (cs:=#[.pointer (some ⟨L.b,0,none⟩)]) fi) _) _);have x1:Bk (((w.alloc (.cells #[.pointer (some ⟨L.b,0,none⟩)] 26)).alloc (.cells #[.int .i64 pos] 3)).alloc (.cells #[.int .i32 r] 21)) (w.heap.size+1) 3 #[.int .i64 pos]:=(Bk.al (Bk.nw (w:=(w.alloc (.cells #[.pointer (some ⟨L.b,0,none⟩)] 26))) (t:=3) (cs:=#[.int .i64 pos]) fi) _);have x2:Bk (((w.alloc (.cells #[.pointer (some ⟨L.b,0,none⟩)] 26)).alloc (.cells #[.int .i64 pos] 3)).alloc (.cells #[.int .i32 r] 21)) (w.heap.size+1+1) 21 #[.int .i32 r]:=(Bk.nw (w:=((w.alloc (.cells #[.pointer (some ⟨L.b,0,none⟩)] 26)).alloc (.cells #[.int .i64 pos] 3))) (t:=21) (cs:=#[.int .i32 r]) fi);obtain⟨c0,d0⟩:=x0.ceF;have A:=hG.n0;have q:=hG.n6
 have hK:RowKit.Hid (Calls PV 43 #[.pointer (some ⟨L.b,0,none⟩),.string ⟨#[73,110,115,101,114,116]⟩,.int .i64 c,.func (.func 44) #[] #[.pointer (some ⟨w.heap.size+1+1,0,none⟩),.pointer (some ⟨w.heap.size,0,none⟩),.pointer (some ⟨w.heap.size+1,0,none⟩)]] (((w.alloc (.cells #[.pointer (some ⟨L.b,0,none⟩)] 26)).alloc (.cells #[.int .i64 pos] 3)).alloc (.cells #[.int .i32 r] 21)) (CallEnd L E ⟨#[73,110,115,101,114,116]⟩ c (Plain.call S 1 c pos r) ow (((w.alloc (.cells #[.pointer (some ⟨L.b,0,none⟩)] 26)).alloc (.cells #[.int .i64 pos] 3)).alloc (.cells #[.int .i32 r] 21)))):=by
    by_cases hc:c<0\/(S.n:Int)<=c
    ·have e:Plain.call S 1 c pos r=(2,S):=by unfold Plain.call;rw[f02 hc]
     rw[e];exact fx6 (f1b _ (h.bl j) (hM.bl j) (hE.bl h.size j) ⟨#[73,110,115,101,114,116]⟩ hc A q)
    ·obtain⟨i,rfl⟩: ∃i:Nat,c=i:=⟨c.toNat,by omega⟩;have hi:i<S.n:=by omega
     have e:Plain.call S 1 i pos r=if Plain.validR r then Plain.change S i 1 pos r else (3,S):=by
       unfold Plain.call;rw[fx9 hc];simp
     rw[e];exact fx6 (f2b (K:=44) PV.call44 _ (h.bl j) (hM.bl j) (hE.bl h.size j) ⟨#[73,110,115,101,114,116]⟩ hi q (R:=if Plain.validR r then Plain.change S i 1 pos r else (3,S)) ins_le (λW D g=>fvf g.mem g.marks hG hB g.errs hi pos r _ _ _ (m.out _ _ _ _ x2 fe g.ch) (m.out _ _ _ _ x0 fe g.ch) (m.out _ _ _ _ x1 fe g.ch)))
 generalize Plain.call S 1 c pos r=RR at hK ⊢;clear h hM hG hB hE;go_enter PV.func21,Tryz.ntmps21;go_wp2_with (first|(go_at_call 43;refine hK.out.mono ?_;rintro e w3 gD;obtain⟨V',ow',g1,g2,g3,g4⟩:=gD.out;rcases g4 with⟨g5,rfl⟩|⟨g5,g,rfl,g6,g7⟩));all_goals go_ret
 ·exact⟨V',ow',g1,g2,(Ey.bl j).tr g3,.inl ⟨g5,rfl⟩⟩
 ·exact⟨V',ow',g1,g2,(Ey.bl j).tr g3,.inr ⟨g5,g,rfl,g6,g7⟩⟩
def fp4 (h:Mem L V S 0 ow w) (hM:Marks L S.n w) (hG:Plain.Good S) (hB:Plain.Bnd S) (hE:Errs E w) (c pos r:Int):
    Calls PV 22 #[.pointer (some ⟨L.b,0,none⟩),.int .i64 c,.int .i64 pos] w (CallEnd L E ⟨#[68,101,108,101,116,101]⟩ c (Plain.call S 2 c pos r) ow w):=by
 have B:=h.bb.lt;have j:Bl w ((w.alloc (.cells #[.pointer (some ⟨L.b,0,none⟩)] 26)).alloc (.cells #[.int .i64 pos] 3)):=((Bl.rf _).al _).al _;have m:=fx6 (λ(W:World) (x t:Nat) (cs:Array Value) (hx:Bk ((w.alloc (.cells #[.pointer (some ⟨L.b,0,none⟩)] 26)).alloc (.cells #[.int .i64 pos] 3)) x t cs) (C:w.heap.size<=x) (hC:Ch (λy=>y=L.b) ((w.alloc (.cells #[.pointer (some ⟨L.b,0,none⟩)] 26)).alloc (.cells #[.int .i64 pos] 3)) W)=>hx.ch hC (λe=>by omega));have x0:Bk ((w.alloc (.cells #[.pointer (some ⟨L.b,0,none⟩)] 26)).alloc (.cells #[.int .i64 pos] 3)) (w.heap.size) 26 #[.pointer (some ⟨L.b,0,none⟩)]:=(Bk.al (Bk.nw (w:=w) (t:=26) (cs:=#[.pointer (some ⟨L.b,0,none⟩)]) fi) _);have x1:Bk ((w.alloc (.cells #[.pointer (some ⟨L.b,0,none⟩)] 26)).alloc (.cells #[.int .i64 pos] 3)) (w.heap.size+1) 3 #[.int .i64 pos]:=(Bk.nw (w:=(w.alloc (.cells #[.pointer (some ⟨L.b,0,none⟩)] 26))) (t:=3) (cs:=#[.int .i64 pos]) fi);obtain⟨c0,d0⟩:=x0.ceF;have A:=hG.n0;have q:=hG.n6
 have hK:RowKit.Hid (Calls PV 43 #[.pointer (some ⟨L.b,0,none⟩),.string ⟨#[68,101,108,101,116,101]⟩,.int .i64 c,.func (.func 49) #[] #[.pointer (some ⟨w.heap.size,0,none⟩),.pointer (some ⟨w.heap.size+1,0,none⟩)]] ((w.alloc (.cells #[.pointer (some ⟨L.b,0,none⟩)] 26)).alloc (.cells #[.int .i64 pos] 3)) (CallEnd L E ⟨#[68,101,108,101,116,101]⟩ c (Plain.call S 2 c pos r) ow ((w.alloc (.cells #[.pointer (some ⟨L.b,0,none⟩)] 26)).alloc (.cells #[.int .i64 pos] 3)))):=by
    by_cases hc:c<0\/(S.n:Int)<=c
    ·have e:Plain.call S 2 c pos r=(2,S):=by unfold Plain.call;rw[f02 hc]
     rw[e];exact fx6 (f1b _ (h.bl j) (hM.bl j) (hE.bl h.size j) ⟨#[68,101,108,101,116,101]⟩ hc A q)
    ·obtain⟨i,rfl⟩: ∃i:Nat,c=i:=⟨c.toNat,by omega⟩;have hi:i<S.n:=by omega
     have e:Plain.call S 2 i pos r=Plain.change S i 2 pos 0:=by
       unfold Plain.call;rw[fx9 hc];simp
     rw[e];exact fx6 (f2b (K:=49) PV.call49 _ (h.bl j) (hM.bl j) (hE.bl h.size j) ⟨#[68,101,108,101,116,101]⟩ hi q (R:=Plain.change S i 2 pos 0) f6u (λW D g=>fvd g.mem g.marks hG hB g.errs hi pos _ _ (m.out _ _ _ _ x0 fe g.ch) (m.out _ _ _ _ x1 fe g.ch)))
 generalize Plain.call S 2 c pos r=RR at hK ⊢;clear h hM hG hB hE;go_enter PV.func22,Tryz.ntmps22;go_wp2_with (first|(go_at_call 43;refine hK.out.mono ?_;rintro e w3 gD;obtain⟨V',ow',g1,g2,g3,g4⟩:=gD.out;rcases g4 with⟨g5,rfl⟩|⟨g5,g,rfl,g6,g7⟩));all_goals go_ret
 ·exact⟨V',ow',g1,g2,(Ey.bl j).tr g3,.inl ⟨g5,rfl⟩⟩
 ·exact⟨V',ow',g1,g2,(Ey.bl j).tr g3,.inr ⟨g5,g,rfl,g6,g7⟩⟩
def fvh (h:Mem L V S 0 ow w) (hM:Marks L S.n w) (hG:Plain.Good S) (hB:Plain.Bnd S) (hE:Errs E w) (c pos r:Int):
    Calls PV 23 #[.pointer (some ⟨L.b,0,none⟩),.int .i64 c,.int .i64 pos] w (CallEnd L E ⟨#[77,111,118,101]⟩ c (Plain.call S 3 c pos r) ow w):=by
 have B:=h.bb.lt;have j:Bl w ((w.alloc (.cells #[.pointer (some ⟨L.b,0,none⟩)] 26)).alloc (.cells #[.int .i64 pos] 3)):=((Bl.rf _).al _).al _;have m:=fx6 (λ(W:World) (x t:Nat) (cs:Array Value) (hx:Bk ((w.alloc (.cells #[.pointer (some ⟨L.b,0,none⟩)] 26)).alloc (.cells #[.int .i64 pos] 3)) x t cs) (C:w.heap.size<=x) (hC:Ch (λy=>y=L.b) ((w.alloc (.cells #[.pointer (some ⟨L.b,0,none⟩)] 26)).alloc (.cells #[.int .i64 pos] 3)) W)=>hx.ch hC (λe=>by omega));have x0:Bk ((w.alloc (.cells #[.pointer (some ⟨L.b,0,none⟩)] 26)).alloc (.cells #[.int .i64 pos] 3)) (w.heap.size) 26 #[.pointer (some ⟨L.b,0,none⟩)]:=(Bk.al (Bk.nw (w:=w) (t:=26) (cs:=#[.pointer (some ⟨L.b,0,none⟩)]) fi) _);have x1:Bk ((w.alloc (.cells #[.pointer (some ⟨L.b,0,none⟩)] 26)).alloc (.cells #[.int .i64 pos] 3)) (w.heap.size+1) 3 #[.int .i64 pos]:=(Bk.nw (w:=(w.alloc (.cells #[.pointer (some ⟨L.b,0,none⟩)] 26))) (t:=3) (cs:=#[.int .i64 pos]) fi);obtain⟨c0,d0⟩:=x0.ceF;have A:=hG.n0;have q:=hG.n6
 have hK:RowKit.Hid (Calls PV 43 #[.pointer (some ⟨L.b,0,none⟩),.string ⟨#[77,111,118,101]⟩,.int .i64 c,.func (.func 51) #[] #[.pointer (some ⟨w.heap.size,0,none⟩),.pointer (some ⟨w.heap.size+1,0,none⟩)]] ((w.alloc (.cells #[.pointer (some ⟨L.b,0,none⟩)] 26)).alloc (.cells #[.int .i64 pos] 3)) (CallEnd L E ⟨#[77,111,118,101]⟩ c (Plain.call S 3 c pos r) ow ((w.alloc (.cells #[.pointer (some ⟨L.b,0,none⟩)] 26)).alloc (.cells #[.int .i64 pos] 3)))):=by
    by_cases hc:c<0\/(S.n:Int)<=c
    ·have e:Plain.call S 3 c pos r=(2,S):=by unfold Plain.call;rw[f02 hc]
     rw[e];exact fx6 (f1b _ (h.bl j) (hM.bl j) (hE.bl h.size j) ⟨#[77,111,118,101]⟩ hc A q)
    ·obtain⟨i,rfl⟩: ∃i:Nat,c=i:=⟨c.toNat,by omega⟩;have hi:i<S.n:=by omega
     have e:Plain.call S 3 i pos r=Plain.change S i 3 pos 0:=by
       unfold Plain.call;rw[fx9 hc];simp
     rw[e];exact fx6 (f2b (K:=51) PV.call51 _ (h.bl j) (hM.bl j) (hE.bl h.size j) ⟨#[77,111,118,101]⟩ hi q (R:=Plain.change S i 3 pos 0) f6u (λW D g=>fve g.mem g.marks hG hB g.errs hi pos _ _ (m.out _ _ _ _ x0 fe g.ch) (m.out _ _ _ _ x1 fe g.ch)))
 generalize Plain.call S 3 c pos r=RR at hK ⊢;clear h hM hG hB hE;go_enter PV.func23,Tryz.ntmps23;go_wp2_with (first|(go_at_call 43;refine hK.out.mono ?_;rintro e w3 gD;obtain⟨V',ow',g1,g2,g3,g4⟩:=gD.out;rcases g4 with⟨g5,rfl⟩|⟨g5,g,rfl,g6,g7⟩));all_goals go_ret
 ·exact⟨V',ow',g1,g2,(Ey.bl j).tr g3,.inl ⟨g5,rfl⟩⟩
 ·exact⟨V',ow',g1,g2,(Ey.bl j).tr g3,.inr ⟨g5,g,rfl,g6,g7⟩⟩
def f2l (b:Bool) (h:Mem L V S 0 ow w) (hM:Marks L S.n w) (hG:Plain.Good S) (hB:Plain.Bnd S) (hE:Errs E w) (c pos r:Int):
    Calls PV 24 #[.pointer (some ⟨L.b,0,none⟩),.int .i64 c,.bool b] w (CallEnd L E ⟨#[68,101,108,105,118,101,114]⟩ c (Plain.call S (if b then 4 else 5) c pos r) ow w):=by
 have C:=h.bb.lt;have j:Bl w ((w.alloc (.cells #[.pointer (some ⟨L.b,0,none⟩)] 26)).alloc (.cells #[.bool b] 4)):=((Bl.rf _).al _).al _;have m:=fx6 (λ(W:World) (x t:Nat) (cs:Array Value) (hx:Bk ((w.alloc (.cells #[.pointer (some ⟨L.b,0,none⟩)] 26)).alloc (.cells #[.bool b] 4)) x t cs) (D:w.heap.size<=x) (hC:Ch (λy=>y=L.b) ((w.alloc (.cells #[.pointer (some ⟨L.b,0,none⟩)] 26)).alloc (.cells #[.bool b] 4)) W)=>hx.ch hC (λe=>by omega));have x0:Bk ((w.alloc (.cells #[.pointer (some ⟨L.b,0,none⟩)] 26)).alloc (.cells #[.bool b] 4)) (w.heap.size) 26 #[.pointer (some ⟨L.b,0,none⟩)]:=(Bk.al (Bk.nw (w:=w) (t:=26) (cs:=#[.pointer (some ⟨L.b,0,none⟩)]) fi) _);have x1:Bk ((w.alloc (.cells #[.pointer (some ⟨L.b,0,none⟩)] 26)).alloc (.cells #[.bool b] 4)) (w.heap.size+1) 4 #[.bool b]:=(Bk.nw (w:=(w.alloc (.cells #[.pointer (some ⟨L.b,0,none⟩)] 26))) (t:=4) (cs:=#[.bool b]) fi);obtain⟨c0,d0⟩:=x0.ceF;have A:=hG.n0;have q:=hG.n6
 have hK:RowKit.Hid (Calls PV 43 #[.pointer (some ⟨L.b,0,none⟩),.string ⟨#[68,101,108,105,118,101,114]⟩,.int .i64 c,.func (.func 53) #[] #[.pointer (some ⟨w.heap.size+1,0,none⟩),.pointer (some ⟨w.heap.size,0,none⟩)]] ((w.alloc (.cells #[.pointer (some ⟨L.b,0,none⟩)] 26)).alloc (.cells #[.bool b] 4)) (CallEnd L E ⟨#[68,101,108,105,118,101,114]⟩ c (Plain.call S (if b then 4 else 5) c pos r) ow ((w.alloc (.cells #[.pointer (some ⟨L.b,0,none⟩)] 26)).alloc (.cells #[.bool b] 4)))):=by
    by_cases hc:c<0\/(S.n:Int)<=c
    ·have e:Plain.call S (if b then 4 else 5) c pos r=(2,S):=by unfold Plain.call;rw[f02 hc]
     rw[e];exact fx6 (f1b _ (h.bl j) (hM.bl j) (hE.bl h.size j) ⟨#[68,101,108,105,118,101,114]⟩ hc A q)
    ·obtain⟨i,rfl⟩: ∃i:Nat,c=i:=⟨c.toNat,by omega⟩;have hi:i<S.n:=by omega
     cases b
     ·have e:Plain.call S 5 i pos r=Plain.get S i:=by unfold Plain.call;rw[fx9 hc];simp
      show RowKit.Hid (Calls _ _ _ _ (CallEnd _ _ _ _ (Plain.call S 5 i pos r) _ _));rw[e];exact fx6 (f2b (K:=53) PV.call53 _ (h.bl j) (hM.bl j) (hE.bl h.size j) ⟨#[68,101,108,105,118,101,114]⟩ hi q (R:=Plain.get S i) fwb (λW B g=>fsr g.mem g.marks hG hB g.errs hi _ _ (m.out _ _ _ _ x1 fe g.ch)))
     ·have e:Plain.call S 4 i pos r=Plain.serve S i:=by unfold Plain.call;rw[fx9 hc];simp
      show RowKit.Hid (Calls _ _ _ _ (CallEnd _ _ _ _ (Plain.call S 4 i pos r) _ _));rw[e];exact fx6 (f2b (K:=53) PV.call53 _ (h.bl j) (hM.bl j) (hE.bl h.size j) ⟨#[68,101,108,105,118,101,114]⟩ hi q (R:=Plain.serve S i) fng (λW B g=>call_up g.mem g.marks hG hB g.errs hi _ _ (m.out _ _ _ _ x1 fe g.ch) (m.out _ _ _ _ x0 fe g.ch)))
 generalize Plain.call S (if b then 4 else 5) c pos r=RR at hK ⊢;clear h hM hG hB hE;go_enter PV.func24,Tryz.ntmps24;go_wp2_with (first|(go_at_call 43;refine hK.out.mono ?_;rintro e w3 gD;obtain⟨V',ow',g1,g2,g3,g4⟩:=gD.out;rcases g4 with⟨g5,rfl⟩|⟨g5,g,rfl,g6,g7⟩));all_goals go_ret
 ·exact⟨V',ow',g1,g2,(Ey.bl j).tr g3,.inl ⟨g5,rfl⟩⟩
 ·exact⟨V',ow',g1,g2,(Ey.bl j).tr g3,.inr ⟨g5,g,rfl,g6,g7⟩⟩
def up_any (h:Mem L V S 0 ow w) (hM:Marks L S.n w) (hG:Plain.Good S) (hB:Plain.Bnd S) (hE:Errs E w) (c pos r:Int):
    Calls PV 24 #[.pointer (some ⟨L.b,0,none⟩),.int .i64 c,.bool true] w (CallEnd L E ⟨#[68,101,108,105,118,101,114]⟩ c (Plain.call S 4 c pos r) ow w):=f2l true h hM hG hB hE c pos r
def fvi (h:Mem L V S 0 ow w) (hM:Marks L S.n w) (hG:Plain.Good S) (hB:Plain.Bnd S) (hE:Errs E w) (c pos r:Int):
    Calls PV 24 #[.pointer (some ⟨L.b,0,none⟩),.int .i64 c,.bool false] w (CallEnd L E ⟨#[68,101,108,105,118,101,114]⟩ c (Plain.call S 5 c pos r) ow w):=f2l false h hM hG hB hE c pos r
end
open Go.Extern.Stop Go.Stop Go.Extern
namespace As
def valueOf113 (t:Addr) (w:World):(ReflectliteValue.unpack (.iface 113 (.pointer (some t)))).run PV w
    = .ok (.agg #[.pointer (some ⟨13,113,none⟩),.pointer (some ⟨w.heap.size,0,none⟩),.int .u64 150]) (w.alloc (.cells #[.pointer (some t)] 113)):=by kernel_rfl
def type113 (a:Addr) (w:World):(ReflectliteValue.methodAny (ReflectliteValue.valueError "reflectlite.Value.Type" 0) (λt _ _ _=>ReflectliteType.toType t) #[.agg #[.pointer (some ⟨13,113,none⟩),.pointer (some a),.int .u64 150]]).run PV w
    = .ok (.iface 192 (.agg #[.pointer (some ⟨13,113,none⟩)])) w:=by kernel_rfl
def methodKind (h:Value) (w:World):(Go.method 358 192 (.agg #[h]) "Kind").run PV w=.ok (146,h) w:=by kernel_rfl
def kind113 (w:World):((ReflectliteType.abiMethod λt=>(λa:Nat=>Value.int IntKind.u8 (a:Int)) <$> Rtype.kind t) #[.pointer (some ⟨13,113,none⟩)]).run PV w=.ok (.int .u8 22) w:=by kernel_rfl
def kind111 (w:World):((ReflectliteType.abiMethod λt=>(λa:Nat=>Value.int IntKind.u8 (a:Int)) <$> Rtype.kind t) #[.pointer (some ⟨13,111,none⟩)]).run PV w=.ok (.int .u8 22) w:=by kernel_rfl
def rlm (z:Sem Value) (f:TypeId->Addr->Nat->Nat->Sem Value) (v:Value):
    ReflectliteValue.method z f #[v]=(do match <- ReflectliteValue.parts v with|none=>z|some (t,a,fl)=>f t a fl (fl%32)):=rfl
def fnh (a:Addr) (w:World):(ReflectliteValue.parts (.agg #[.pointer (some ⟨13,113,none⟩),.pointer (some a),.int .u64 150])).run PV w=.ok (some (113,a,150)) w:=by kernel_rfl
def u113:PV.underlying 113=some (.pointer 111):=by kernel_rfl
def u111:PV.underlying 111=some (.pointer 115):=by kernel_rfl
def isNil113 (a p:Addr) (W:World) (ha:W.cell? a=some (.pointer (some p))):
    (ReflectliteValue.method (ReflectliteValue.valueError "reflectlite.Value.IsNil" 0) ReflectliteValue.isNil #[.agg #[.pointer (some ⟨13,113,none⟩),.pointer (some a),.int .u64 150]]).run PV W=.ok (.bool false) W:=by
 have h:=u113;rw[rlm];simp only[fz9,fnh,Result.andThen];simp[ReflectliteValue.isNil,loadVar,isAgg,f1l h,ha,Result.andThen]
def methodElem (h:Value) (w:World):(Go.method 358 192 (.agg #[h]) "Elem").run PV w=.ok (159,.agg #[h]) w:=by kernel_rfl
def methodImplements (h:Value) (w:World):(Go.method 358 192 (.agg #[h]) "Implements").run PV w=.ok (160,.agg #[h]) w:=by kernel_rfl
def methodAssignableTo (h:Value) (w:World):(Go.method 358 192 (.agg #[h]) "AssignableTo").run PV w=.ok (157,.agg #[h]) w:=by kernel_rfl
def methodComparable (h:Value) (w:World):(Go.method 358 192 (.agg #[h]) "Comparable").run PV w=.ok (158,.agg #[h]) w:=by kernel_rfl
def elem113 (w:World):(ReflectliteType.method ReflectliteType.elem #[.agg #[.pointer (some ⟨13,113,none⟩)]]).run PV w=.ok (.iface 192 (.agg #[.pointer (some ⟨13,111,none⟩)])) w:=by kernel_rfl
def implements111 (w:World):(ReflectliteType.relation "Implements" ReflectliteType.implements_ #[.agg #[.pointer (some ⟨13,111,none⟩)],.iface 192 (.agg #[.pointer (some ⟨13,49,none⟩)])]).run PV w=.ok (.bool true) w:=by kernel_rfl
def typeOf111 (v:Value) (w:World):(ReflectliteType.typeOf #[.iface 111 v]).run PV w=.ok (.iface 192 (.agg #[.pointer (some ⟨13,111,none⟩)])) w:=by kernel_rfl
def typeOf227 (v:Value) (w:World):(ReflectliteType.typeOf #[.iface 227 v]).run PV w=.ok (.iface 192 (.agg #[.pointer (some ⟨13,227,none⟩)])) w:=by kernel_rfl
def assignable111 (w:World):(ReflectliteType.relation "AssignableTo" ReflectliteType.assignableTo #[.agg #[.pointer (some ⟨13,111,none⟩)],.iface 192 (.agg #[.pointer (some ⟨13,111,none⟩)])]).run PV w=.ok (.bool true) w:=by kernel_rfl
def valueOf111 (e:Addr) (w:World):(ReflectliteValue.unpack (.iface 111 (.pointer (some e)))).run PV w
    = .ok (.agg #[.pointer (some ⟨13,111,none⟩),.pointer (some ⟨w.heap.size,0,none⟩),.int .u64 150]) (w.alloc (.cells #[.pointer (some e)] 111)):=by kernel_rfl
def fsw (w:World):(Rtype.elem? 113).run PV w=.ok (some 111) w:=by kernel_rfl
def mk111 (p:Addr) (w:World):(ReflectliteValue.mk 111 p ReflectliteValue.flagAddr).run PV w=.ok (.agg #[.pointer (some ⟨13,111,none⟩),.pointer (some p),.int .u64 406]) w:=by kernel_rfl
def elemV113 (a p:Addr) (W:World) (ha:W.cell? a=some (.pointer (some p))):
    (ReflectliteValue.method (ReflectliteValue.valueError "reflectlite.Value.Elem" 0) ReflectliteValue.elem #[.agg #[.pointer (some ⟨13,113,none⟩),.pointer (some a),.int .u64 150]]).run PV W
      = .ok (.agg #[.pointer (some ⟨13,111,none⟩),.pointer (some p),.int .u64 406]) W:=by
 have h:=u113;rw[rlm];simp only[fz9,fnh,Result.andThen];simp[ReflectliteValue.elem,loadVar,isAgg,f1l h,ha,Result.andThen,fsw,mk111]
def rls (v x:Value):ReflectliteValue.set #[v,x]=(do
    let (some (dst,a,fl),some (src,b,_)):=(<- ReflectliteValue.parts v,<- ReflectliteValue.parts x)
     | unsupported (.noEntry "extern/(internal/reflectlite.Value).Set.zeroValue")
    if fl / ReflectliteValue.flagAddr%2==0 then unsupported (.noEntry "extern/(internal/reflectlite.Value).Set.unaddressable")
    let val <- loadVar src b
    if <- Rtype.directlyAssignable dst src then storeVar dst a val
    else if <- Rtype.implements dst src then
     if (<- Rtype.kind src)==20 then
        match val with
        | .nilIface=>unsupported (.noEntry "extern/reflectlite: a nil value of one interface type handed on as a value of another")
        | _=>storeVar dst a val
     else storeVar dst a (.iface src val)
    else panicString ("reflectlite.Set: value of type " ++(<- Rtype.spelt src)++ " is not assignable to type " ++(<- Rtype.spelt dst))
    pure (.tuple #[])):=rfl
def fsx (a:Addr) (w:World):(ReflectliteValue.parts (.agg #[.pointer (some ⟨13,111,none⟩),.pointer (some a),.int .u64 406])).run PV w=.ok (some (111,a,406)) w:=by kernel_rfl
def fvj (a:Addr) (w:World):(ReflectliteValue.parts (.agg #[.pointer (some ⟨13,111,none⟩),.pointer (some a),.int .u64 150])).run PV w=.ok (some (111,a,150)) w:=by kernel_rfl
def fsy (w:World):(Rtype.directlyAssignable 111 111).run PV w=.ok true w:=by kernel_rfl
def size111 (w:World):(sizeOf 111).run PV w=.ok 1 w:=by kernel_rfl
def set111 (ta b e:Addr) (old:Value) (W:World) (hb:W.cell? b=some (.pointer (some e))) (ht:W.cell? ta=some old) (hf:W.frozen? ta=false):
    (ReflectliteValue.set #[.agg #[.pointer (some ⟨13,111,none⟩),.pointer (some ta),.int .u64 406],.agg #[.pointer (some ⟨13,111,none⟩),.pointer (some b),.int .u64 150]]).run PV W
      = .ok (.tuple #[]) (W.setCell ta (.pointer (some e))):=by
 have h:=u111;rw[rls];simp only[fz9,fsx,fvj,Result.andThen];simp[ReflectliteValue.flagAddr,loadVar,isAgg,f1l h,hb,Result.andThen,fsy,size111,storeVar,Value.cells,storeCells,Addr.add];rw[run_store PV W ta _ _ (by rfl)];simp[ht,hf]
end As
def fvk (e t:Addr) (a:Nat) (old:Value) (w:World) (ha:w.cell? ⟨a,0,none⟩=some (.pointer (some t))) (ht0:w.cell? t=some old) (hf0:w.frozen? t=false):
    Calls PV 83 #[.iface 111 (.pointer (some e)),.iface 113 (.pointer (some t)),.agg #[.pointer (some ⟨13,113,none⟩),.pointer (some ⟨a,0,none⟩),.int .u64 150],.iface 192 (.agg #[.pointer (some ⟨13,111,none⟩)])] w λev w'=>ev=.returned (.bool true)/\w'=((w.alloc (.cells #[.pointer (some ⟨13,113,none⟩),.pointer (some ⟨a,0,none⟩),.int .u64 150] 152)).alloc (.cells #[.pointer (some e)] 111)).setCell t (.pointer (some e)):=by
 have C:= @run_callFunc_extern PV 80 _ (λargs=>ReflectliteValue.unpack (args.getD 0 (.tuple #[]))) PV.func80 fd fd fd fd;have D:= @run_callFunc_extern PV 84 _ ReflectliteType.typeOf PV.func84 fd fd fd fd;have A:= @run_callFunc_extern PV 157 _ (ReflectliteType.relation "AssignableTo" ReflectliteType.assignableTo) PV.func157 fd fd fd fd;have m:= @run_callFunc_extern PV 113 _ (ReflectliteValue.method (ReflectliteValue.valueError "reflectlite.Value.Elem" 0) ReflectliteValue.elem) PV.func113 fd fd fd fd;have q:= @run_callFunc_extern PV 114 _ ReflectliteValue.set PV.func114 fd fd fd fd;have tO:=As.typeOf111;have mA:=As.methodAssignableTo;have B:=As.assignable111;have I:=As.valueOf111
 have j:a<w.heap.size:=by
    rcases f01 a w.heap.size with h|h
    ·exact h
    ·simp[World.cell?,f09 h] at ha
 have htl:t.block<w.heap.size:=by
    rcases f01 t.block w.heap.size with h|h
    ·exact h
    ·simp[World.cell?,f09 h] at ht0
 have el:=As.elemV113 ⟨a,0,none⟩ t (w.alloc (.cells #[.pointer (some ⟨13,113,none⟩),.pointer (some ⟨a,0,none⟩),.int .u64 150] 152)) (by rw[f3a _ _ ⟨a,0,none⟩ j];exact ha)
 have st:=As.set111 t ⟨w.heap.size+1,0,none⟩ e old ((w.alloc (.cells #[.pointer (some ⟨13,113,none⟩),.pointer (some ⟨a,0,none⟩),.int .u64 150] 152)).alloc (.cells #[.pointer (some e)] 111))
    (by rw[World.cell?_alloc_at _ _ _ _ fi];rfl)
    kl
    ju
 go_enter PV.func83,Tryz.ntmps83;go_wp2;refine wp_loop_rounds 1 ?_;rw[rounds_succ];go_wp2;go_ret;exact⟨rfl,rfl⟩
def as_hit (e t:Addr) (old:Value) (w:World) (hg:w.cell? ⟨2,0,none⟩=some (.iface 192 (.agg #[.pointer (some ⟨13,49,none⟩)]))) (ht0:w.cell? t=some old) (hf0:w.frozen? t=false):
    Calls PV 39 #[.iface 111 (.pointer (some e)),.iface 113 (.pointer (some t))] w λev w'=>ev=.returned (.bool true)/\w'=((((w.alloc (.cells #[.pointer (some t)] 113)).alloc (.cells #[.pointer (some ⟨13,113,none⟩),.pointer (some ⟨w.heap.size,0,none⟩),.int .u64 150] 152)).alloc (.cells #[.pointer (some ⟨13,113,none⟩),.pointer (some ⟨w.heap.size,0,none⟩),.int .u64 150] 152)).alloc (.cells #[.pointer (some e)] 111)).setCell t (.pointer (some e)):=by
 have D:= @run_callFunc_extern PV 80 _ (λargs=>ReflectliteValue.unpack (args.getD 0 (.tuple #[]))) PV.func80 fd fd fd fd;have I:= @run_callFunc_extern PV 81 _ (ReflectliteValue.methodAny (ReflectliteValue.valueError "reflectlite.Value.Type" 0) (λt _ _ _=>ReflectliteType.toType t)) PV.func81 fd fd fd fd;have J:= @run_callFunc_extern PV 82 _ (ReflectliteValue.method (ReflectliteValue.valueError "reflectlite.Value.IsNil" 0) ReflectliteValue.isNil) PV.func82 fd fd fd fd;have m:= @run_callFunc_extern PV 146 _ (ReflectliteType.abiMethod λt=>do pure (.int .u8 (<- Rtype.kind t))) PV.func146 fd fd fd fd;have q:= @run_callFunc_extern PV 159 _ (ReflectliteType.method ReflectliteType.elem) PV.func159 fd fd fd fd;have A:= @run_callFunc_extern PV 160 _ (ReflectliteType.relation "Implements" ReflectliteType.implements_) PV.func160 fd fd fd fd;have tO:=As.typeOf111;have mA:=As.methodAssignableTo;have B:=As.assignable111;have W:=As.valueOf111;have f6:=As.valueOf113;have f7:=As.type113;have mK:=As.methodKind;have mE:=As.methodElem;have mI:=As.methodImplements;have U:=As.kind113;have R:=As.kind111;have C:=As.elem113;have O:=As.implements111;have n8:=As.isNil113 ⟨w.heap.size,0,none⟩ t ((w.alloc (.cells #[.pointer (some t)] 113)).alloc (.cells #[.pointer (some ⟨13,113,none⟩),.pointer (some ⟨w.heap.size,0,none⟩),.int .u64 150] 152)) fi
 have hlt:2<w.heap.size:=by
    rcases f01 2 w.heap.size with h|h
    ·exact h
    ·simp[World.cell?,f09 h] at hg
 have M:((w.alloc (.cells #[.pointer (some t)] 113)).alloc (.cells #[.pointer (some ⟨13,113,none⟩),.pointer (some ⟨w.heap.size,0,none⟩),.int .u64 150] 152)).cell? ⟨2,0,none⟩=some (.iface 192 (.agg #[.pointer (some ⟨13,49,none⟩)])):=by
    rw[f3a _ _ ⟨2,0,none⟩ ja,f3a _ _ ⟨2,0,none⟩ hlt];exact hg
 have htl:t.block<w.heap.size:=by
    rcases f01 t.block w.heap.size with h|h
    ·exact h
    ·simp[World.cell?,f09 h] at ht0
 have j:=fx6 (fvk e t w.heap.size old ((w.alloc (.cells #[.pointer (some t)] 113)).alloc (.cells #[.pointer (some ⟨13,113,none⟩),.pointer (some ⟨w.heap.size,0,none⟩),.int .u64 150] 152)) (by rw[f3a _ _ ⟨w.heap.size,0,none⟩ fi];simp) kl ju);go_enter PV.func39,Tryz.ntmps39;go_wp2_with (first|(go_at_call 83;refine j.out.mono ?_;rintro e w1 ⟨rfl,rfl⟩));go_ret;exact⟨rfl,rfl⟩
abbrev ev (a:Addr):Value:=.iface 227 (.pointer (some a))
namespace As
def i49: ∃m,PV.underlying 49=some (.interface m):=fhj
def u227:PV.underlying 227=some (.pointer 246):=by kernel_rfl
def c227:(PV.info? 227).map (·.comparable)=some true:=by kernel_rfl
def c111:(PV.info? 111).map (·.comparable)=some true:=by kernel_rfl
def s246:(PV.info? 246).map (·.size)=some 1:=by kernel_rfl
def s115:(PV.info? 115).map (·.size)=some 3:=by kernel_rfl
def eql_other (g:Addr) (a:Addr) (w:World):(binOp .eql 49 (.iface 111 (.pointer (some g))) (ev a)).run PV w=.ok (.bool false) w:=by
 obtain⟨m,hu⟩:=fhj
 have h: ∀d:Nat,(Op.equalIn (d+1) 49 (.iface 111 (.pointer (some g))) (ev a)).run PV w=.ok false w:=λd=>by
    simp[Op.equalIn,f1l hu]
 simp only[binOp];simp[Op.equal,Op.maxDepth,h 9999]
def eql_ev {a b:Addr} {w:World} (ha: ∃c t,w.heap[a.block]? =some (.cells c t (0,0))) (hb: ∃c t,w.heap[b.block]? =some (.cells c t (0,0))):(binOp .eql 49 (ev a) (ev b)).run PV w=.ok (.bool (decide (a=b))) w:=by
 obtain⟨m,hu⟩:=fhj;obtain⟨i,hi,hc⟩:=fy8.1 c227;obtain⟨j,hj,hs⟩:=fy8.1 s246;by_cases e:a=b
 ·subst e;rw[run_eql_iface_ptr_same w a hu u227 hi hc hj];simp
 ·obtain⟨ca,ta,ha⟩:=ha;obtain⟨cb,tb,hb⟩:=hb;rw[run_eql_iface_ptr_other w hu u227 hi hc hj (by rw[hs];decide) e ha hb];simp[e]
def noIs111 (v:Value) (w:World):(Instr.typeAssert (.iface 111 v) 49 201 true).run PV w=.ok (.tuple #[.nilIface,.bool false]) w:=f5d (P:=PV) (show PV.underlying 201=some _ from Tryz.underlying201) fd fd v 49 w
def has111 (v:Value) (w:World):(Instr.typeAssert (.iface 111 v) 49 199 true).run PV w=.ok (.tuple #[.iface 111 v,.bool true]) w:=run_typeAssert_hasB (P:=PV) (show PV.underlying 199=some _ from Tryz.underlying199) fd v 49 w
def noIs227 (v:Value) (w:World):(Instr.typeAssert (.iface 227 v) 49 201 true).run PV w=.ok (.tuple #[.nilIface,.bool false]) w:=f5d (P:=PV) (show PV.underlying 201=some _ from Tryz.underlying201) fd fd v 49 w
def no199 (v:Value) (w:World):(Instr.typeAssert (.iface 227 v) 49 199 true).run PV w=.ok (.tuple #[.nilIface,.bool false]) w:=f5d (P:=PV) (show PV.underlying 199=some _ from Tryz.underlying199) fd fd v 49 w
def no200 (v:Value) (w:World):(Instr.typeAssert (.iface 227 v) 49 200 true).run PV w=.ok (.tuple #[.nilIface,.bool false]) w:=f5d (P:=PV) (show PV.underlying 200=some _ from Tryz.underlying200) fd fd v 49 w
def mUnwrap (v:Value) (w:World):(Go.method 358 111 v "Unwrap").run PV w=.ok (40,v) w:=by kernel_rfl
def comparable227 (w:World):(ReflectliteType.method (λt=>do Rtype.noPackHeld "Comparable" t;(λa=>Value.bool a.comparable) <$> typeInfo t) #[.agg #[.pointer (some ⟨13,227,none⟩)]]).run PV w=.ok (.bool true) w:=by kernel_rfl
end As
section
variable {w:World}
def fgd (g:Nat) (nm:ByteArray) (c:Int) (e:Value) (hB:Bk w g 115 #[.string nm,.int .i64 c,e]):Calls PV 40 #[.pointer (some ⟨g,0,none⟩)] w λx w'=>x=.returned e/\w'=w:=by
 obtain⟨c1,d1⟩:=hB.ceF;clear hB;go_enter PV.func40,Tryz.ntmps40;go_wp2;go_ret;exact⟨rfl,rfl⟩
def is85 (g:Nat) (nm:ByteArray) (c:Int) (a b:Addr) (hB:Bk w g 115 #[.string nm,.int .i64 c,ev a]) (ha: ∃c t,w.heap[a.block]? =some (.cells c t (0,0))) (hb: ∃c t,w.heap[b.block]? =some (.cells c t (0,0))):
    Calls PV 85 #[.iface 111 (.pointer (some ⟨g,0,none⟩)),ev b,.bool true] w λx w'=>x=.returned (.bool (decide (a=b)))/\w'=w:=by
 have h1:=As.eql_other ⟨g,0,none⟩ b w;have h2:=As.eql_ev ha hb;have n1:=As.noIs111;have n2:=As.has111;have n3:=As.noIs227;have n4:=As.no199;have n5:=As.no200;have mU:=As.mUnwrap;have j:=λw=>fhk 227 (.pointer (some a)) w;have hU:=fx6 (fgd g nm c (ev a) hB);clear hB ha hb;by_cases e:a=b
 ·have e':decide (a=b)=true:=by simpa using e
  rw[e'] at h2 ⊢;clear e e';go_enter PV.func85,Tryz.ntmps85;go_wp2;refine wp_loop_rounds 2 ?_;rw[rounds_succ];go_wp2_with (first|(go_at_call 40;refine hU.out.mono ?_;rintro e w1 ⟨rfl,rfl⟩));rw[rounds_succ];go_wp2;go_ret;exact⟨rfl,rfl⟩
 ·have e':decide (a=b)=false:=by simpa using e
  rw[e'] at h2 ⊢;clear e e';go_enter PV.func85,Tryz.ntmps85;go_wp2;refine wp_loop_rounds 2 ?_;rw[rounds_succ];go_wp2_with (first|(go_at_call 40;refine hU.out.mono ?_;rintro e w1 ⟨rfl,rfl⟩));rw[rounds_succ];go_wp2;go_ret;exact⟨rfl,rfl⟩
def is_any (g:Nat) (nm:ByteArray) (c:Int) (a b:Addr) (hB:Bk w g 115 #[.string nm,.int .i64 c,ev a]) (ha: ∃c t,w.heap[a.block]? =some (.cells c t (0,0))) (hb: ∃c t,w.heap[b.block]? =some (.cells c t (0,0))):
    Calls PV 42 #[.iface 111 (.pointer (some ⟨g,0,none⟩)),ev b] w λx w'=>x=.returned (.bool (decide (a=b)))/\w'=w:=by
 have m:= @run_callFunc_extern PV 84 _ ReflectliteType.typeOf PV.func84 fd fd fd fd;have j:= @run_callFunc_extern PV 158 _ (ReflectliteType.method (λt=>do Rtype.noPackHeld "Comparable" t;pure (.bool (<- typeInfo t).comparable))) PV.func158 fd fd fd fd;have tO:=As.typeOf227;have mC:=As.methodComparable;have c2:=As.comparable227;have h1:=λw=>fhk 111 (.pointer (some ⟨g,0,none⟩)) w;have h2:=λw=>fhk 227 (.pointer (some b)) w;have hU:=fx6 (is85 g nm c a b hB ha hb);clear hB ha hb;go_enter PV.func42,Tryz.ntmps42;go_wp2_with (first|(go_at_call 85;refine hU.out.mono ?_;rintro e w1 ⟨rfl,rfl⟩));go_ret;exact⟨rfl,rfl⟩
end
end Go.Proofs.YtelecjnabeokeaaGreatDoor
