/- Meets answers true for every script, and the script reads as it did; condition: the package-level variables hold what the program's text lays. Part 4 of 6. -/
import Derived.Test.YtelecjnabeokeaaGreatDoorM3
set_option maxRecDepth 100000
set_option maxHeartbeats 16000000
set_option linter.defProp false
set_option linter.unusedVariables false
set_option linter.unusedSimpArgs false
namespace Go.Proofs.YtelecjnabeokeaaGreatDoor
open Go Go.Conc Go.RowKit
def cL:Code→Code
 | .seq x _=>x
 | _=> .skip
def cR:Code→Code
 | .seq _ y=>y
 | _=> .skip
def cIn:Code→Code
 | .block _ c | .loop c=>c
 | _=> .skip
def cOps:Code→Array Oper
 | .region _ ops _=>ops
 | _=> #[]
def zw (f:Func):Code:=f.body.getD .skip
def Tryz.infos49:(Tryz.prog.info? 49).isSome=true:=by kernel_rfl
section
variable {main:Bool} {H:Hide} {Shun:Loc→Prop} {Φ:Goroutine→World→Nat→Prop} {w:World} {n:Nat} {c:Frame} {cs:List Frame}
def fa6 (hH: ∀ b,H b≠none→b<w.heap.size) (o:Obj):(w.heap.size≤(w.alloc o).heap.size)∧(∀ b,H b≠none→(w.alloc o).heap[b]? =w.heap[b]?)∧ ∀ b,H b≠none→b<(w.alloc o).heap.size:=by
 have hs:(w.alloc o).heap.size=w.heap.size+1:=by show (w.heap.push o).size=_;simp
 refine ⟨by omega,fun b hb=> ?_,fun b hb=>by have:=hH b hb;omega⟩;show (w.heap.push o)[b]? =_;rw [f05,fx9 (by have:=hH b hb;omega)]
def xd (w:World) (o:Obj):(w.alloc o).heap.size=w.heap.size+1:=by show (w.heap.push o).size=_;simp
def fa7 (u:World) (x y:Value) (t:TypeId):(u.alloc (.cells #[x] t)).setCell ⟨u.heap.size,0,none⟩ y=u.alloc (.cells #[y] t):=by
 have:((u.heap.push (.cells #[x] t)).modify u.heap.size fun o=>match o with
  | .cells c elem frozen=> .cells (if (none:Option Nat).isSome then c else c.setIfInBounds 0 y) elem frozen
  | o=>o)=u.heap.push (.cells #[y] t):=by
    apply f0v;intro i;rw [fy6,f05,f05];by_cases e:u.heap.size=i
    · rw [f02 e,f02 e.symm,f02 e.symm];rfl
    · rw [fx9 e,fx9 fun h=>e h.symm,fx9 fun h=>e h.symm]
 have e:(u.alloc (.cells #[x] t)).setCell ⟨u.heap.size,0,none⟩ y={ (u.alloc (.cells #[x] t)) with heap:=(u.heap.push (.cells #[x] t)).modify u.heap.size fun o=>match o with
  | .cells c elem frozen=> .cells (if (none:Option Nat).isSome then c else c.setIfInBounds 0 y) elem frozen
  | o=>o }:=rfl
 rw [e,this];rfl
def fl5 {P:Program} {ops:Array Oper} {o:Oper} {a:Act} {b:Frame} {k:List Item} {w1:World} {i:Nat} {rest:List Nat} (ho:ops[i]? =some o) (hw:Region.wanted o (yielded ops a.tmps)=true) (hk:b.kind≠ .early) (hrun: ∀ d,(execOp a.eval o).run P (w.at d)= .ok .skip (w1.at d)) (hsz:w.heap.size≤w1.heap.size)
    (hkept: ∀ b,H b≠none→w1.heap[b]? =w.heap[b]?) (hev: ∀ d,∀ e∈(execOp a.eval o).events P (w.at d) #[],EvP H Shun w1.heap.size e∧vl e) (h:OG P main H Shun Φ (G (b.at (a.put o.dst undef) (.inRegion ops rest::k)) cs) w1 n):
    OG P main H Shun Φ (G (b.at a (.inRegion ops (i::rest)::k)) cs) w n:=by
 refine .one rfl fun d=>⟨_,w1.at d,_,stepG_none ho hw hk (hrun d),⟨hsz,hkept,fun e he=>(hev d e (f3e he)).1⟩,?_⟩;rw [show deafBehind n (listed P b.fn a o (w.at d))=n from dj (fun e he=>(hev d e (f3e he)).2) n];cases h with
 | stop h=>exact .stop h
 | step g1 w1 es hr h1 h2 h3=>exact .step g1 w1 es hr h1 h2 h3
def doW (w:World) (x1:Value):World:=((w.alloc (.cells x1.cells 116)).alloc (.chan 0 #[] false 0 0 false)).alloc (.cells #[.chan (some (w.heap.size+1))] 163)
abbrev mB (kind:CallKind):Frame:={ (default:Frame) with fn:=46,kind:=kind }
noncomputable abbrev R2:Array Oper:=cOps (cL (cR (cR (zw Tryz.f46))))
noncomputable abbrev C3:Code:=cR (cR (cR (zw Tryz.f46)))
noncomputable abbrev R3:Array Oper:=cOps (cL C3)
abbrev fu1 (m:Nat):Value:= .func (.func 86) #[] #[.pointer (some ⟨m+2,0,none⟩),.pointer (some ⟨m,0,none⟩)]
def og_do {args:Array Value} {kind:CallKind} {x0 x1:Value} (hk:kind= .normal∨kind= .deferred) (h0:args.getD 0 undef=x0) (h1:args.getD 1 undef=x1) (hH: ∀ b,H b≠none→b<w.heap.size)
    (h: ∀ a:Act,a.defers=[]→a.tmps.getD 5 undef= .pointer (some ⟨w.heap.size+2,0,none⟩)→11≤a.tmps.size→a.eval (.tmp 7)=x0→a.eval (.tmp 8)=fu1 w.heap.size→OG Tryz.prog main H Shun Φ (G ((mB kind).at a [.inRegion R2 [2],.code C3]) (c::cs)) (doW w x1) n):
    OG Tryz.prog main H Shun Φ (G (Frame.enter Tryz.prog 46 args kind) (c::cs)) w n:=by
 have hk':kind≠ .early:=by rcases hk with rfl | rfl <;>simp
 rw [enter_at Tryz.func46 rfl];obtain ⟨L,hlen,hL,hg⟩:=fa5 args Tryz.f46.ntmps;rw [hL];have hlen:11≤L.length:=hlen;rcases L with _ | ⟨y0,_ | ⟨y1,_ | ⟨y2,_ | ⟨y3,_ | ⟨y4,_ | ⟨y5,_ | ⟨y6,_ | ⟨y7,_ | ⟨y8,_ | ⟨y9,_ | ⟨y10,tl⟩⟩⟩⟩⟩⟩⟩⟩⟩⟩⟩ <;>first | (simp at hlen;done) | skip
 have hy0:=(hg 0).trans h0;have hy1:=(hg 1).trans h1;simp only [f1y,List.getD_cons_succ] at hy0 hy1;subst hy0;subst hy1;have hW:doW w y1=((w.alloc (.cells y1.cells 116)).alloc (.chan 0 #[] false 0 0 false)).alloc (.cells #[.chan (some (w.heap.size+1))] 163):=rfl;obtain ⟨s1,s2,s3⟩:=fa6 hH (.cells y1.cells 116);refine uv (rm ?_);refine qz (x:= .pointer (some ⟨w.heap.size,0,none⟩)) (w1:=w.alloc (.cells y1.cells 116)) rfl rfl hk' (fun d=>rfl) s1 s2 (fun d e he=>by simp [go_sem] at he) ?_;have e1:=xd w (.cells y1.cells 116);generalize w.alloc (.cells y1.cells 116)=u at*;rw [← e1] at hW;have e1':w.heap.size+2=u.heap.size+1:=by omega
 rw [e1'] at h;obtain ⟨t1,t2,t3⟩:=fa6 s3 (.chan 0 #[] false 0 0 false);refine ox (.nilIface) u ?_;refine u7 (uv (rm ?_))
 refine qz (x:= .chan (some u.heap.size)) (w1:=u.alloc (.chan 0 #[] false 0 0 false)) rfl rfl hk' (fun d=>rfl) t1 t2 (fun d e he=>by
    have he:e∈(Instr.makeChan 163 (.int .i64 ((0:Nat):Int))).events Tryz.prog (u.at d) #[]:=he;obtain ⟨i49,h49⟩:=Option.isSome_iff_exists.1 Tryz.infos49;rw [events_makeChan Tryz.underlying163 h49 .i64 0 fu fi] at he;simp at he) ?_
 have e2:=xd u (.chan 0 #[] false 0 0 false);generalize u.alloc (.chan 0 #[] false 0 0 false)=u2 at*;rw [← e2] at h;generalize hM:u.heap.size=M at*;have hu2:u2.heap.size=w.heap.size+2:=by omega
 clear e1 e1' e2;obtain ⟨r1,r2,r3⟩:=fa6 t3 (.cells #[.chan none] 163);refine qz (x:= .pointer (some ⟨u2.heap.size,0,none⟩)) (w1:=u2.alloc (.cells #[.chan none] 163)) rfl rfl hk' (fun d=>by go_simp;rfl) r1 r2 (fun d e he=>by simp [go_sem] at he) ?_
 have hnew:H u2.heap.size=none:=by
    cases e:H u2.heap.size with
    | none=>rfl
    | some o=>exact absurd (t3 u2.heap.size pb) fe
 walk_nrm;have hz: ∀ d,((u2.alloc (.cells #[.chan none] 163)).at d).frozen? ⟨u2.heap.size,0,none⟩=false:=fun d=>by go_simp
 have hcell: ∀ d,((u2.alloc (.cells #[.chan none] 163)).at d).cell? ⟨u2.heap.size,0,none⟩=some (.chan none):=fun d=>by go_simp
 obtain ⟨q1,q2⟩:=ai (w:=u2.alloc (.cells #[.chan none] 163)) (p:=⟨u2.heap.size,0,none⟩) hnew (.chan (some M));rw [fa7] at q1 q2;have hW2:u2.alloc (.cells #[.chan (some M)] 163)=doW w y1:=by rw [hW]
 refine fl5 (w1:=u2.alloc (.cells #[.chan (some M)] 163)) rfl rfl hk' (fun d=>by have:=hz d;have:=hcell d;clear h hW hW2 hu2;go_simp;exact f3q (fun w:World=>w.at d) (fa7 u2 (.chan none) (.chan (some M)) 163)) q1 q2 (fun d e he=>by
    simp [go_sem,hz,hcell] at he;subst he;exact ⟨xh hnew (by rw [xd];exact Nat.lt_succ_self _) _ _,by simp [vl]⟩) ?_
 rw [hW2];walk_nrm;refine u7 (uv (rm ?_));refine ox y0 (doW w y1) ?_;walk_nrm;refine qz (x:=fu1 w.heap.size) (w1:=doW w y1) rfl rfl hk' (fun d=>by clear h hW hW2 hz hcell;go_simp) (fx8 _) (fun _ _=>rfl) (fun d e he=>by have he:e∈(#[]:Array Event):=he;simp at he) ?_;walk_nrm;exact h _ rfl rfl fi rfl rfl
end
def fc3 (x:Value):Sem Next:=Deferred.ofValue x #[] >>= fun d=>invoke d.target d.args
def yg {ρ:Operand→Value} {o:Oper} {y:Operand} (h:o.op= .call { callee:= .value y,args:= #[],argTypes:= #[] }):execOp ρ o=fc3 (ρ y):=by
 unfold execOp;rw [h];show (resolve ρ _ o.type >>= fun d=>invoke d.target d.args)=fc3 (ρ y);have e:(#[]:Array Operand).map ρ= #[]:=by simp
 show ((Deferred.ofValue (ρ y) ((#[]:Array Operand).map ρ)) >>= fun d=>invoke d.target d.args)=fc3 (ρ y);rw [e];rfl
section
variable {P:Program} {F:Array Func} {N:Nat→Prop}
def fqt (hF:FOk P F) (x:Value):Sim P F N (fc3 x):=by
 have h:=af (N:=N) hF (fun _=>x) (o:={ dst:=none,op:= .call { callee:= .value (.tmp 0),args:= #[],argTypes:= #[] },type:=49,pos:= "",after:= #[],guard:=none }) rfl;rwa [yg rfl] at h
def NextC (x:Next):Prop:=(∃ y,x= .value y)∨(∃ f xs,x= .enter f xs)∨ ∃ l f ts a b,x= .round l f ts a b∧(va a=true∧va b=true)∧um a=true∧um b=true
def NextCall.c {x:Next} (h:NextCall x):NextC x:=by
 cases x <;>first | exact .inl ⟨_,rfl⟩ | exact .inr (.inl ⟨_,_,rfl⟩) | cases h
def NextC.ok {x:Next} {cm:Prop} (h:NextC x):vr cm x:=by
 rcases h with ⟨y,rfl⟩ | ⟨f,xs,rfl⟩ | ⟨l,f,ts,a,b,rfl,h⟩
 · trivial
 · trivial
 · exact h
def fl6 (l:Nat) (xs:Array Value) {v v1:World} {x:Next} (h:(Instr.yield l xs).run P v= .ok x v1): ∃ f ts a b,x= .round l f ts a b:=by
 unfold Instr.yield at h;have h:(Sem.getObj l (fun o=>Sem.bind (match o with
  | .loop r=>Pure.pure r
  | _=>Go.stuck "range over a function: no such loop" :Sem Loop) fun r=>(do
    if xs.size≠r.params.size then Go.stuck "yield: the wrong number of arguments"
    Pure.pure (.round l r.fn ((r.params.zip xs).foldl (fun tmps (t,a)=>tmps.setIfInBounds t a) r.tmps) r.assign r.body)))).run P v= .ok x v1:=h
 cases hv:v.heap[l]? with
 | none=>simp [Sem.run,hv] at h
 | some o=>
   cases o with
   | loop r=>
     simp only [Sem.run,hv] at h;dsimp only [Pure.pure,Sem.bind] at h;split at h
     · cases h
     · cases h;exact ⟨_,_,_,_,rfl⟩
   | cells=>simp [Sem.run,hv] at h
   | _=>
     simp only [Sem.run,hv] at h;cases h
def fl7 (hF:FOk P F) (y:Value) {v v1:World} {x:Next} (ho:ut v) (h:(fc3 y).run (V P F) v= .ok x v1):NextC x:=by
 unfold fc3 at h;cases hr:(Deferred.ofValue y #[]).run (V P F) v with
 | halt z v2=>
   have:=(f2r (f:=fun d:Deferred=>invoke d.target d.args) hr).symm.trans h;cases this
 | ok d v2=>
   replace h:=(qw hr).symm.trans h;have hd:v2=v∧(d.target= .nil∨ ∃ f c,d.target= .fn f c):=by
    unfold Deferred.ofValue at hr;split at hr <;>cases hr <;>first | exact ⟨rfl,.inl rfl⟩ | exact ⟨rfl,.inr ⟨_,_,rfl⟩⟩
   obtain ⟨rfl,hd⟩:=hd;rcases hd with hd | ⟨f,c,hd⟩ <;>rw [hd] at h <;>unfold invoke at h
   · exact aw (Q:=NextC) (uj _) _ _ _ h
   · dsimp only at h;cases f with
     | func f=>exact (xo hF _ _ _ x v1 h).c
     | method n=>
       dsimp only at h;split at h
       · exact (xx hF _ _ _ _ x v1 h).c
       · cases h
     | methodOf t n=>
       dsimp only at h;split at h
       · exact (ux (Q:=NextCall) (fun y=>xx hF _ _ _) _ x v1 h).c
       · cases h
     | via t p f q=>
       dsimp only at h;split at h
       · exact (ux (Q:=NextCall) (fun y=>xo hF _ _) _ x v1 h).c
       · cases h
     | yield l=>
       obtain ⟨f,ts,a,b,rfl⟩:=fl6 _ _ h;exact .inr (.inr ⟨_,_,_,_,_,rfl,fdj (cm:=False) _ _ ho h⟩)
end
section
variable {P:Program} {F:Array Func} {Stop:Frame→List Frame→World→Prop} {H:Hide} {v w:World} {b b' g:Frame} {a a':Act} {k k':List Item} {l:List Frame} {ops ops':Array Oper} {i i':Nat} {rest rest':List Nat} {o o':Oper} {y y':Operand} {x1:Value}
def VCall (P:Program) (F:Array Func) (Stop:Frame→List Frame→World→Prop) (s:St) (D0:Frame) (l:List Frame) (v1:World):Next→Prop
 | .value y=>Ahead (V P F) Stop s (D0.finish y,l,v1)
 | .enter f xs=>Ahead (V P F) Stop s (Frame.enter (V P F) f xs .normal,D0::l,v1)
 | .round lo f ts ca cb=>Ahead (V P F) Stop s (Frame.round lo f ts ca cb .normal,D0::l,v1)
 | _=>False
def fqu (A:VS P F Stop) (hF:FOk P F) (rel:Rel H v w) (d:Nat) (ho:ops[i]? =some o) (hop:o.op= .call { callee:= .value y,args:= #[],argTypes:= #[] }) (hy:a.eval y=x1) (hw:Region.wanted o (yielded ops a.tmps)=true)
    (ho':ops'[i']? =some o') (hop':o'.op= .call { callee:= .value y',args:= #[],argTypes:= #[] }) (hy':a'.eval y'=x1) (hw':Region.wanted o' (yielded ops' a'.tmps)=true) (hk':b'.kind= .normal∨b'.kind= .deferred) (ht': ∀ it∈k',wk it=true) (hop1:ops'.all fpj=true)
    (L:Lv P F Stop (b.at a (.inRegion ops (i::rest)::k),g::l,v)):
    ∃ x v1 w1 es,NextC x∧VCall P F Stop (b.at a (.inRegion ops (i::rest)::k),g::l,v) (b.at a (.inRegion ops (i::rest)::k)) (g::l) v1 x∧v.heap.size≤v1.heap.size∧
      ff9 P (b'.at a' (.inRegion ops' (i'::rest')::k')) (w.at d) (zr (b'.at a' (.inRegion ops' (i'::rest')::k')) x) w1 es∧w1.tape=w.tape∧Rel H v1 w1∧ ∀ e∈es,EvOK H w1.heap.size e:=by
 have hn: ¬ Stop (b.at a (.inRegion ops (i::rest)::k)) (g::l) v:=fun h=>by have:=A.stopNil _ _ _ h;cases this
 have okf:=L.stk (b.at a (.inRegion ops (i::rest)::k)) fi;have hst:=stepG_oper (P:=V P F) (main:=true) (b:=b) (a:=a) (k:=k) (cs:=g::(l++[botF])) (w:=reW v w.tape d) (rest:=rest) ho hw;rw [yg hop,hy] at hst;have hst': ∀ main c cs,stepG P main (G (b'.at a' (.inRegion ops' (i'::rest')::k')) (c::cs)) (w.at d)=_:=fun main c cs=>stepG_oper (P:=P) (main:=main) (b:=b') (a:=a') (k:=k') (cs:=c::cs) (w:=w.at d) (rest:=rest') ho' hw';rw [yg hop',hy'] at hst'
 obtain ⟨fr',l',v',hnx,hfin⟩: ∃ fr' l' v',step (V P F) (lone (b.at a (.inRegion ops (i::rest)::k)) ((g::l)++[botF]) (reW v w.tape d))= .next (lone fr' (l'++[botF]) v')∧Fin (V P F) Stop fr' l' v':=by
    have hf:=L.fin;cases hf with
    | stop h=>exact absurd h hn
    | step fr' l' v' h1 h2=>exact ⟨_,_,_,h1 w.tape d,h2 _ _⟩
 have rel':Rel H (reW v w.tape d) (w.at d):=(rel.re w.tape d).re' w.tape d;rcases ym (fqt (N:=fun _=>False) hF x1) rel' with ⟨h',v1,e,hh⟩ | ⟨R,hR,v1,kk,e,ho1,hsz,htp,hdr,_,h4⟩
 · exfalso;obtain ⟨o2,u,es',e2⟩:=dg (fr:=b.at a (.inRegion ops (i::rest)::k)) e hh g (l++[botF]);rw [e2] at hst;have hs2:step (V P F) (lone (b.at a (.inRegion ops (i::rest)::k)) (g::(l++[botF])) (reW v w.tape d))= .ended o2 u:=f3u (by unfold G at hst;rw [hst];rfl);rw [f0j,hs2] at hnx;cases hnx
 · obtain ⟨w1,new,hT',g2,g3,g4,g5⟩:=h4 fun j _=>rfl;obtain ⟨es,hT⟩:=uu e;rcases hR with ⟨x,rfl⟩ | ⟨x,rfl⟩
   · have hc:NextC x:=fl7 hF x1 rel'.objs e;refine ⟨x,v1,w1,seen P b'.fn new,hc,?_,hsz,fun main c cs=> ?_,g2,g4,fun e he=>g5 e (f3e he)⟩
     · rw [et (fr:=b.at a (.inRegion ops (i::rest)::k)) (cm:=True) hT hc.ok okf.kind okf.todo] at hst;have go: ∀ (f1:Frame) (l1:List Frame),stepG (V P F) true (G (b.at a (.inRegion ops (i::rest)::k)) (g::(l++[botF]))) (reW v w.tape d)= .go (G f1 (l1++[botF])) v1 (seen (V P F) b.fn es)→Ahead (V P F) Stop (b.at a (.inRegion ops (i::rest)::k),g::l,v) (f1,l1,v1):=fun f1 l1 h=>
        ⟨(f1,l1,v1),w.tape,d,hn,f3t (by unfold G at h;rw [show ((b.at a (.inRegion ops (i::rest)::k),g::l,v):St).2.1++[botF]=g::(l++[botF]) from rfl,h];rfl),.refl _⟩
       rcases hc with ⟨y,rfl⟩ | ⟨f,xs,rfl⟩ | ⟨lo,f,ts,ca,cb,rfl,_⟩
       · exact go _ (g::l) hst
       · exact go _ (_::g::l) hst
       · exact go _ (_::g::l) hst
     · rw [hst' main c cs];exact et (fr:=b'.at a' (.inRegion ops' (i'::rest')::k')) (cm:=True) hT' hc.ok hk' (fun it hit=>by
        simp only [Frame.at,fy3] at hit;rcases hit with rfl | hit
        · exact hop1
        · exact ht' it hit) c cs
   · exfalso;rw [ax (fr:=b.at a (.inRegion ops (i::rest)::k)) hT okf.kind g (l++[botF])] at hst
     have ha:Ahead (V P F) Stop (b.at a (.inRegion ops (i::rest)::k),g::l,v) ((b.at a (.inRegion ops (i::rest)::k)).raise [{ v:=x,recovered:=false }],g::l,v1):=
        ⟨(_,g::l,v1),w.tape,d,hn,f3t (by unfold G at hst;rw [show ((b.at a (.inRegion ops (i::rest)::k),g::l,v):St).2.1++[botF]=g::(l++[botF]) from rfl,hst];rfl),.refl _⟩
     exact fgv A (vn A L ha) ⟨(b.at a (.inRegion ops (i::rest)::k)).raise [{ v:=x,recovered:=false }],fz5,vu _ _⟩
end
section
variable {P:Program} {main:Bool} {K:World→Prop} {Still:Loc→Prop} {B:Nat} {Stop:Goroutine→World→Prop} {n:Nat} {g g1:Goroutine} {w w1:World}
def fw0 (h:Goes P main (RK K) (DS Still B) Stop n g w) (hk:K w1):Goes P main (RK K) (DS Still B) Stop n g w1:=h.rely (fun _ _ _ _ h=>h) hk
def fe8 (hr:g.status= .running) (hs: ∀ w,stepG P main g w= .go g1 w) (h:Goes P main (RK K) (DS Still B) Stop n g1 w):Goes P main (RK K) (DS Still B) Stop (n+1) g w:=
 Goes.step hr fun w₁ h₁=>by rw [hs];exact ⟨ds_none _,fw0 h h₁⟩
variable {b:Frame} {a:Act} {k:List Item} {cs:List Frame} {x1 x2:Code} {ops:Array Oper} {i:Nat} {rest:List Nat} {o:Oper} {x:Value} {H:Hide} {Shun:Loc→Prop} {Φ:Goroutine→World→Nat→Prop}
def fqv (h:Goes P main (RK K) (DS Still B) Stop n (G (b.at a (.code x1:: .code x2::k)) cs) w):Goes P main (RK K) (DS Still B) Stop (n+1) (G (b.at a (.code (.seq x1 x2)::k)) cs) w:=fe8 rfl (fun _=>f4d) h
def fj8 (h:Goes P main (RK K) (DS Still B) Stop n (G (b.at a k) cs) w):Goes P main (RK K) (DS Still B) Stop (n+1) (G (b.at a (.inRegion ops []::k)) cs) w:=fe8 rfl (fun _=>f1o) h
def fa8 {id:Nat} (h:Goes P main (RK K) (DS Still B) Stop n (G (b.at a (.inRegion ops (List.range ops.size)::k)) cs) w):Goes P main (RK K) (DS Still B) Stop (n+1) (G (b.at a (.code (.region id ops false)::k)) cs) w:=fe8 rfl (fun _=>f2o) h
def fqw {id:Nat} (h:Goes P main (RK K) (DS Still B) Stop n (G (b.at a k) cs) w):Goes P main (RK K) (DS Still B) Stop (n+1) (G (b.at a (.inBlock id::k)) cs) w:=fe8 rfl (fun _=>stepG_inBlock) h
def fu2 {c:Code} (h:Goes P main (RK K) (DS Still B) Stop n (G (b.at a (.code c:: .inLoop c::k)) cs) w):Goes P main (RK K) (DS Still B) Stop (n+1) (G (b.at a (.inLoop c::k)) cs) w:=fe8 rfl (fun _=>stepG_inLoop) h
def k_end (h:Goes P main (RK K) (DS Still B) Stop n (G { b.at a [] with mode:= .returning } cs) w):Goes P main (RK K) (DS Still B) Stop (n+1) (G (b.at a []) cs) w:=fe8 rfl (fun _=>f4e) h
def fj9 (ho:ops[i]? =some o) (hw:Region.wanted o (yielded ops a.tmps)=true) (hk:b.kind≠ .early) (hrun: ∀ w,K w→(execOp a.eval o).run P w= .ok (.value x) w) (hev: ∀ w,K w→ ∀ e∈(execOp a.eval o).events P w #[],EvC Still B e)
    (h:Goes P main (RK K) (DS Still B) Stop n (G (b.at (a.put o.dst x) (.inRegion ops rest::k)) cs) w):Goes P main (RK K) (DS Still B) Stop (n+1) (G (b.at a (.inRegion ops (i::rest)::k)) cs) w:=
 Goes.step rfl fun w₁ h₁=>by
    rw [stepG_value ho hw hk (hrun w₁ h₁)];exact ⟨⟨rfl,fun e he=>hev w₁ h₁ e (f3e he)⟩,fw0 h h₁⟩
def fcf {id:Nat} (h:OG P main H Shun Φ (G (b.at a (.code x1:: .inBlock id::k)) cs) w n):OG P main H Shun Φ (G (b.at a (.code (.block id x1)::k)) cs) w n:=io rfl (fun _=>f5i) h
def og_draw {id:Nat} (h: ∀ t,OG P main H Shun Φ (G (b.at a (.inRegion ops (Region.schedule (P.follows .mixedOrders) ops t)::k)) cs) w n):OG P main H Shun Φ (G (b.at a (.code (.region id ops true)::k)) cs) w n:=
 .one rfl fun d=>⟨_,_,#[],stepG_region_draw,⟨fx8 _,fun _ _=>rfl,by simp⟩,(by
    have h1:=h ((w.at d).tape (w.at d).drawn (.order b.fn id));cases h1 with
    | stop h=>exact .stop h
    | step g1 w1 es hr h1 h2 h3=>exact .step g1 w1 es hr h1 h2 h3)⟩
def fmn {f:FuncId} {args:Array Value} (ho:ops[i]? =some o) (hw:Region.wanted o (yielded ops a.tmps)=true) (hk:b.kind≠ .early) (hrun: ∀ d,(execOp a.eval o).run P (w.at d)= .ok (.enter f args) (w.at d))
    (hev: ∀ d,∀ e∈(execOp a.eval o).events P (w.at d) #[],EvP H Shun w.heap.size e∧vl e) (h:OG P main H Shun Φ (G (Frame.enter P f args .normal) (b.at a (.inRegion ops (i::rest)::k)::cs)) w n):
    OG P main H Shun Φ (G (b.at a (.inRegion ops (i::rest)::k)) cs) w n:=by
 refine .one rfl fun d=>⟨_,w.at d,_,stepG_enter ho hw hk (hrun d),⟨fx8 _,fun _ _=>rfl,fun e he=>(hev d e (f3e he)).1⟩,?_⟩;rw [show deafBehind n (listed P b.fn a o (w.at d))=n from dj (fun e he=>(hev d e (f3e he)).2) n];cases h with
 | stop h=>exact .stop h
 | step g1 w1 es hr h1 h2 h3=>exact .step g1 w1 es hr h1 h2 h3
end
def fja {P:Program} {f:FuncId} {fn:Func} {cap:Array Value} (hf:P.funcs[f]? =some fn) (hn:(fn.name== "runtime.NumGoroutine")=false) (hb:fn.body.isNone=false) (w:World):(fc3 (.func (.func f) #[] cap)).runT P w #[]=(.ok (.enter f cap) w,#[]):=by
 have e : (fc3 (.func (.func f) #[] cap)).runT P w #[]=(match P.funcs[f]? with
        | none=>Go.stuck "call: no such function"
        | some fn=>if fn.name== "runtime.NumGoroutine" then Pure.pure Next.numGoroutine else if fn.body.isNone then (do
           mark (.extern f)
           if let some e:=Extern.findNext fn then return ← e (#[]++ #[]++cap)
           match Extern.find fn with
           | some e=>Pure.pure (.value (← e (#[]++ #[]++cap)))
           | none=>if fn.name.endsWith ".init" && !fn.name.startsWith "(" && !fn.name.startsWith "gosem." then Pure.pure (.value (.tuple #[])) else unsupported (.extern fn.name)) else Pure.pure (.enter f (#[]++ #[]++cap)):Sem Next).runT P w #[]:=rfl
 rw [e,hf];simp only [hn,hb,f0g,f0s];have e2: #[]++ #[]++cap=cap:=by simp
 rw [e2];rfl
noncomputable abbrev fat:Code:=cIn (cIn (cR (cR (zw Tryz.f78))))
noncomputable abbrev fwk:Array Oper:=cOps (cL fat)
noncomputable abbrev wCall:Array Oper:=cOps (cR (cIn (cR (cR fat))))
noncomputable abbrev homeK:List Item:=[.inRegion fwk [0,1],.code (cR fat),.inLoop fat,.inBlock 0]
noncomputable abbrev callK:List Item:=[.inRegion wCall [1],.inBlock 1,.inLoop fat,.inBlock 0]
abbrev wB:Frame:={ (default:Frame) with fn:=78,kind:= .deferred }
def fbr (ds:List Deferred) (c0:List Frame) (k:Nat) (g:Goroutine):Prop:= ∃ a:Act,g=G (wB.at a homeK) c0∧a.defers=ds∧a.tmps.getD 6 undef= .chan (some k)∧a.tmps.size=12
def fa9 (a:Act) {N:Nat} (h:a.tmps.size=N): ∃ (L:List Value) (ds:List Deferred),L.length=N∧a={ tmps:=L.toArray,defers:=ds }:=⟨a.tmps.toList,a.defers,by simpa using h,by simp⟩
section
variable {main:Bool} {H:Hide} {Shun:Loc→Prop} {Φ:Goroutine→World→Nat→Prop} {w:World} {n:Nat}
def fu3 {ds:List Deferred} {c0:List Frame} {k:Nat} {g:Goroutine} {cap:Array Value} (hg:fbr ds c0 k g)
    (h: ∀ a2:Act,a2.defers=ds→a2.tmps.getD 6 undef= .chan (some k)→a2.tmps.size=12→
      OG Tryz.prog main H Shun Φ (G (Frame.enter Tryz.prog 86 cap .normal) (wB.at a2 callK::c0)) w n):
    OG Tryz.prog main H Shun Φ (Go.Conc.served g (recvd true (.func (.func 86) #[] cap) true)) w n:=by
 obtain ⟨a,rfl,hd,h6,hsz⟩:=hg;obtain ⟨L,ds0,hlen,rfl⟩:=fa9 a hsz;rcases L with _ | ⟨y0,_ | ⟨y1,_ | ⟨y2,_ | ⟨y3,_ | ⟨y4,_ | ⟨y5,_ | ⟨y6,_ | ⟨y7,_ | ⟨y8,_ | ⟨y9,_ | ⟨y10,_ | ⟨y11,_ | ⟨y12,tl⟩⟩⟩⟩⟩⟩⟩⟩⟩⟩⟩⟩⟩ <;>first | (simp at hlen;done) | skip
 have hd:ds0=ds:=hd;have h6:y6= .chan (some k):=h6;subst hd;subst h6;rw [served_fr,f0i];show OG Tryz.prog main H Shun Φ (G (wB.at { tmps:= #[y0,y1,y2,y3,y4,y5,.chan (some k),.tuple #[.func (.func 86) #[] cap,.bool true],y8,y9,y10,y11],defers:=ds0 } [.inRegion fwk [1],.code (cR fat),.inLoop fat,.inBlock 0]) c0) w n;refine qz (x:= .bool true) (w1:=w) rfl rfl fu (fun d=>rfl) (fx8 _) (fun _ _=>rfl) (fun d e he=>by have he:e∈(#[]:Array Event):=he;simp at he) ?_;refine u7 (uv (xl (t:=true) rfl (oa (fcf (uv (rm ?_))))));refine qz (x:= .func (.func 86) #[] cap) (w1:=w) rfl rfl fu (fun d=>rfl) (fx8 _) (fun _ _=>rfl) (fun d e he=>by have he:e∈(#[]:Array Event):=he;simp at he) ?_;refine qz (x:= .func (.func 86) #[] cap) (w1:=w) rfl rfl fu (fun d=>rfl) (fx8 _) (fun _ _=>rfl) (fun d e he=>by have he:e∈(#[]:Array Event):=he;simp at he) ?_;refine u7 (rm ?_);refine qz (x:= .func (.func 86) #[] cap) (w1:=w) rfl rfl fu (fun d=>rfl) (fx8 _) (fun _ _=>rfl) (fun d e he=>by have he:e∈(#[]:Array Event):=he;simp at he) ?_;refine fmn (f:=86) (args:=cap) rfl rfl fu (fun d=> ?_) (fun d e he=> ?_) ?_
 · rw [yg rfl];show (fc3 (.func (.func 86) #[] cap)).run Tryz.prog (w.at d)=_;rw [← f0d _ _ _ #[],fja Tryz.func86 fd fd]
 · rw [yg rfl] at he;have he:e∈((fc3 (.func (.func 86) #[] cap)).runT Tryz.prog (w.at d) #[]).2:=he;rw [fja Tryz.func86 fd fd] at he;simp at he
 · exact h _ rfl rfl rfl
noncomputable abbrev dOps:Array Oper:=cOps (zw Tryz.f86)
abbrev dB:Frame:={ (default:Frame) with fn:=86,kind:= .normal }
def mf (m:Region.Mode) (ops:Array Oper) (fuel t:Nat) (listed:Array Bool) (acc:List Nat) (rs:List Nat) (h:((List.range ops.size).filter fun i=> !listed.getD i true&&((ops[i]?).map (·.after.all fun e=> !Region.binds m e||listed.getD e.on false)).getD false)=rs):
    Region.linearise.go m ops (fuel+1) t listed acc=match rs[t%rs.length]? with
     | some i=>Region.linearise.go m ops fuel (t / rs.length) (listed.setIfInBounds i true) (i::acc)
     | none=>acc.reverse:=by
 subst h;rfl
def sched86 (t:Nat):Region.schedule (Tryz.prog.follows .mixedOrders) dOps t=[0,1,2,3]∨Region.schedule (Tryz.prog.follows .mixedOrders) dOps t=[1,0,2,3]∨Region.schedule (Tryz.prog.follows .mixedOrders) dOps t=[1,2,0,3]:=by
 have e:Region.schedule (Tryz.prog.follows .mixedOrders) dOps t=Region.linearise.go .any dOps 4 t #[false,false,false,false] []:=by
    unfold Region.schedule;rw [show Region.departs dOps=false by kernel_rfl];simp only [Bool.not_false,Bool.or_true,f0e];rfl
 rw [e,mf .any dOps 3 t _ _ [0,1] fd]
 have h3: ∀ t acc,Region.linearise.go .any dOps 1 t #[true,true,true,false] acc=(3::acc).reverse:=fun t acc=>by
    rw [mf .any dOps 0 t _ _ [3] fd];simp only [fz6,f06,Nat.mod_one,fx7,f1k];rfl
 have h2: ∀ t acc,Region.linearise.go .any dOps 2 t #[true,true,false,false] acc=(3::2::acc).reverse:=fun t acc=>by
    rw [mf .any dOps 1 t _ _ [2] fd];simp only [fz6,f06,Nat.mod_one,fx7,f1k];exact h3 _ _
 rcases Nat.mod_two_eq_zero_or_one t with h | h
 · left;simp only [fz6,f06,f1k,Nat.reduceAdd,h,fx7];show Region.linearise.go .any dOps 3 (t / 2) #[true,false,false,false] [0]=_;rw [mf .any dOps 2 _ _ _ [1] fd];simp only [fz6,f06,Nat.mod_one,fx7,f1k];exact h2 _ _
 · right;simp only [fz6,f06,f1k,Nat.reduceAdd,h,fy0,fx7];show Region.linearise.go .any dOps 3 (t / 2) #[false,true,false,false] [1]=_∨Region.linearise.go .any dOps 3 (t / 2) #[false,true,false,false] [1]=_;rw [mf .any dOps 2 _ _ _ [0,2] fd];rcases Nat.mod_two_eq_zero_or_one (t / 2) with h | h
   · left;simp only [fz6,f06,f1k,Nat.reduceAdd,h,fx7];exact h2 _ _
   · right;simp only [fz6,f06,f1k,Nat.reduceAdd,h,fy0,fx7];show Region.linearise.go .any dOps 2 (t / 2 / 2) #[false,true,true,false] [2,1]=_;rw [mf .any dOps 1 _ _ _ [0] fd];simp only [fz6,f06,Nat.mod_one,fx7,f1k];exact h3 _ _
def fcg {P:Program} {ρ:Operand→Value} {o:Oper} {t:TypeId} {y:Operand} {x:Value} {u:World} (ho:o.op= .load t y) (h:(Instr.loadAt t (ρ y)).run P u= .ok x u):(execOp ρ o).run P u= .ok (.value x) u:=by
 unfold execOp;rw [ho];exact qw h
def fch {P:Program} {ρ:Operand→Value} {o:Oper} {t:TypeId} {y:Operand} {x:Value} {u:World} (ho:o.op= .load t y) (h:(Instr.loadAt t (ρ y)).run P u= .ok x u):(execOp ρ o).events P u #[]=(Instr.loadAt t (ρ y)).events P u #[]:=by
 unfold execOp;rw [ho];show (((Instr.loadAt t (ρ y)) >>= fun x=>(Pure.pure (Next.value x):Sem Next)).runT P u #[]).2=_;simp [go_sem,h]
def fmo (c2:Addr) (dc:Nat) (x1:Value) (rest:List Nat) (a3:Act):Prop:=a3.eval (.tmp 3)=x1∧a3.eval (.tmp 0)= .pointer (some c2)∧a3.tmps.size=5∧a3.defers=[]∧((rest=[3]∧a3.eval (.tmp 2)= .chan (some dc))∨rest=[0,3])
def fh0 {p:Addr} (hH:H p.block=none∨ ¬ Shun (.cell p)) {m:Nat} (hlt:p.block<m):EvP H Shun m ⟨.cell p,false,false⟩:=
 ⟨fun t ht a ha=>by
    simp only [MemAct.ofEvent,MemAct.touch?,f03] at ht;subst ht;cases ha;exact hH.imp id fun h=>⟨rfl,h⟩,(hlt:(MemAct.ofEvent ⟨.cell p,false,false⟩).low m)⟩
def og_do1 {cs:List Frame} {c1 c2:Addr} {dc:Nat} {fv:Fn} {f1 f2:Array Value} (hc2:w.cell? c2=some (.chan (some dc))) (hc1:w.cell? c1=some (.func fv f1 f2)) (hS2:H c2.block=none∨ ¬ Shun (.cell c2)) (hS1:H c1.block=none∨ ¬ Shun (.cell c1))
    (h: ∀ a3 rest,fmo c2 dc (.func fv f1 f2) rest a3→OG Tryz.prog main H Shun Φ (G (dB.at a3 [.inRegion dOps (2::rest)]) cs) w n):
    OG Tryz.prog main H Shun Φ (G (Frame.enter Tryz.prog 86 #[.pointer (some c2),.pointer (some c1)] .normal) cs) w n:=by
 rw [enter_at Tryz.func86 rfl];show OG Tryz.prog main H Shun Φ (G (dB.at { tmps:= #[.pointer (some c2),.pointer (some c1),undef,undef,undef],defers:=[] } [.code (zw Tryz.f86)]) cs) w n;have hl2:=zq hc2;have hl1:=zq hc1;have hc1d: ∀ d,(w.at d).cell? c1=some (.func fv f1 f2):=fun d=>hc1;have hc2d: ∀ d,(w.at d).cell? c2=some (.chan (some dc)):=fun d=>hc2;have r1: ∀ d,(Instr.loadAt 116 (.pointer (some c1))).run Tryz.prog (w.at d)= .ok (.func fv f1 f2) (w.at d):=fun d=>by have:=hc1d d;go_simp
 have r2: ∀ d,(Instr.loadAt 163 (.pointer (some c2))).run Tryz.prog (w.at d)= .ok (.chan (some dc)) (w.at d):=fun d=>by have:=hc2d d;go_simp
 have v1: ∀ d,∀ e∈(Instr.loadAt 116 (.pointer (some c1))).events Tryz.prog (w.at d) #[],EvP H Shun w.heap.size e∧vl e:=fun d e he=>by
    simp [go_sem,hc1d] at he;subst he;exact ⟨fh0 hS1 hl1,by simp [vl]⟩
 have v2: ∀ d,∀ e∈(Instr.loadAt 163 (.pointer (some c2))).events Tryz.prog (w.at d) #[],EvP H Shun w.heap.size e∧vl e:=fun d e he=>by
    simp [go_sem,hc2d] at he;subst he;exact ⟨fh0 hS2 hl2,by simp [vl]⟩
 have L1: ∀ (a:Act) (rest:List Nat),a.eval (.tmp 1)= .pointer (some c1)→OG Tryz.prog main H Shun Φ (G (dB.at (a.put (some 3) (.func fv f1 f2)) [.inRegion dOps rest]) cs) w n→OG Tryz.prog main H Shun Φ (G (dB.at a [.inRegion dOps (1::rest)]) cs) w n:=fun a rest ha hh=>by
    refine qz (x:= .func fv f1 f2) (w1:=w) rfl rfl fu (fun d=>fcg (t:=116) (y:= .tmp 1) rfl (by rw [ha];exact r1 d)) (fx8 _) (fun _ _=>rfl) (fun d e he=> ?_) hh;rw [fch (t:=116) (y:= .tmp 1) rfl (by rw [ha];exact r1 d),ha] at he;exact v1 d e he
 have L0: ∀ (a:Act) (rest:List Nat),a.eval (.tmp 0)= .pointer (some c2)→OG Tryz.prog main H Shun Φ (G (dB.at (a.put (some 2) (.chan (some dc))) [.inRegion dOps rest]) cs) w n→OG Tryz.prog main H Shun Φ (G (dB.at a [.inRegion dOps (0::rest)]) cs) w n:=fun a rest ha hh=>by
    refine qz (x:= .chan (some dc)) (w1:=w) rfl rfl fu (fun d=>fcg (t:=163) (y:= .tmp 0) rfl qm) (fx8 _) (fun _ _=>rfl) (fun d e he=> ?_) hh;rw [fch (t:=163) (y:= .tmp 0) rfl qm,ha] at he;exact v2 d e he
 refine og_draw fun t=> ?_;show OG Tryz.prog main H Shun Φ (G (dB.at { tmps:= #[.pointer (some c2),.pointer (some c1),undef,undef,undef],defers:=[] } [.inRegion dOps (Region.schedule (Tryz.prog.follows .mixedOrders) dOps t)]) cs) w n;rcases sched86 t with e | e | e
 · rw [e];exact L0 _ _ rfl (L1 _ _ rfl (h _ _ ⟨rfl,rfl,rfl,rfl,.inl ⟨rfl,rfl⟩⟩))
 · rw [e];exact L1 _ _ rfl (L0 _ _ rfl (h _ _ ⟨rfl,rfl,rfl,rfl,.inl ⟨rfl,rfl⟩⟩))
 · rw [e];exact L1 _ _ rfl (h _ _ ⟨rfl,rfl,rfl,rfl,.inr rfl⟩)
def og_back {cs:List Frame} {c2:Addr} {dc:Nat} {x1 x:Value} {rest:List Nat} {a3:Act} (hc2:w.cell? c2=some (.chan (some dc))) (hS2:H c2.block=none∨ ¬ Shun (.cell c2)) (ha:fmo c2 dc x1 rest a3)
    (h: ∀ a4:Act,a4.eval (.tmp 2)= .chan (some dc)→a4.eval (.tmp 4)=x→a4.defers=[]→OG Tryz.prog main H Shun Φ (G (dB.at a4 [.inRegion dOps [3]]) cs) w n):
    OG Tryz.prog main H Shun Φ (G ((dB.at a3 [.inRegion dOps (2::rest)]).finish x) cs) w n:=by
 obtain ⟨h3,h0,hsz,hd,hr⟩:=ha;have hl2:=zq hc2;have hc2d: ∀ d,(w.at d).cell? c2=some (.chan (some dc)):=fun d=>hc2;have r2: ∀ d,(Instr.loadAt 163 (.pointer (some c2))).run Tryz.prog (w.at d)= .ok (.chan (some dc)) (w.at d):=fun d=>by have:=hc2d d;go_simp
 have v2: ∀ d,∀ e∈(Instr.loadAt 163 (.pointer (some c2))).events Tryz.prog (w.at d) #[],EvP H Shun w.heap.size e∧vl e:=fun d e he=>by
    simp [go_sem,hc2d] at he;subst he;exact ⟨fh0 hS2 hl2,by simp [vl]⟩
 obtain ⟨L,ds0,hlen,rfl⟩:=fa9 a3 hsz;rcases L with _ | ⟨y0,_ | ⟨y1,_ | ⟨y2,_ | ⟨y3,_ | ⟨y4,_ | ⟨y5,tl⟩⟩⟩⟩⟩⟩ <;>first | (simp at hlen;done) | skip
 have h0:y0= .pointer (some c2):=h0;have hd:ds0=[]:=hd;subst h0;subst hd;rw [f0i];rcases hr with ⟨rfl,h2⟩ | rfl
 · have h2:y2= .chan (some dc):=h2;subst h2;exact h _ rfl rfl rfl
 · show OG Tryz.prog main H Shun Φ (G (dB.at { tmps:= #[.pointer (some c2),y1,y2,y3,x],defers:=[] } [.inRegion dOps (0::[3])]) cs) w n;have L0: ∀ (a:Act) (rest:List Nat),a.eval (.tmp 0)= .pointer (some c2)→OG Tryz.prog main H Shun Φ (G (dB.at (a.put (some 2) (.chan (some dc))) [.inRegion dOps rest]) cs) w n→OG Tryz.prog main H Shun Φ (G (dB.at a [.inRegion dOps (0::rest)]) cs) w n:=fun a rest ha hh=>by
    refine qz (x:= .chan (some dc)) (w1:=w) rfl rfl fu (fun d=>fcg (t:=163) (y:= .tmp 0) rfl qm) (fx8 _) (fun _ _=>rfl) (fun d e he=> ?_) hh;rw [fch (t:=163) (y:= .tmp 0) rfl qm,ha] at he;exact v2 d e he
   exact L0 _ _ rfl (h _ rfl rfl rfl)
end
section
variable {main:Bool} {Still:Loc→Prop} {B:Nat}
def foa {D:Nat→Option Obj} {w:World} {m:Nat} {x:Value} {t:TypeId} (hD:D m=some (.cells #[x] t)) (h:Keeps D w):w.cell? ⟨m,0,none⟩=some x:=by
 have:=h m _ hD;simp [World.cell?,this]
def wb (a:Act) {N:Nat} (h:N≤a.tmps.size): ∃ (L:List Value) (ds:List Deferred),N≤L.length∧a={ tmps:=L.toArray,defers:=ds }:=⟨a.tmps.toList,a.defers,by simpa using h,by simp⟩
def mg {P:Program} {ρ:Operand→Value} {o:Oper} {t e:TypeId} {dir:ChanDir} {y:Operand} {ok:Bool} {z:Value} {w:World} (ho:o.op= .recv t y ok) (hu:P.underlying t=some (.chan dir e)) (hz:(zeroValue e).runT P w #[]=(.ok z w,#[])):
    (execOp ρ o).runT P w #[]=(.ok (.comm #[{ chan:=ρ y,send:=none,zero:=z }] true (.recv ok)) w,#[]):=by
 unfold execOp;rw [ho];have h1:(zeroValue e).run P w= .ok z w:=by rw [← f0d _ _ _ #[],hz]
 have h2:(zeroValue e).events P w #[]= #[]:=by rw [show (zeroValue e).events P w #[]=((zeroValue e).runT P w #[]).2 from rfl,hz]
 refine f2v ?_ ?_
 · rw [f0d];simp [go_sem,f0u hu,h1]
 · show Sem.events P _ w #[]= #[];simp [go_sem,f0u hu,h1,h2]
def Tryz.zero49 (w:World):(zeroValue 49).runT Tryz.prog w #[]=(.ok .nilIface w,#[]):=by
 refine f2v ?_ ?_
 · rw [f0d];go_simp
 · show Sem.events Tryz.prog _ w #[]= #[];simp [go_sem]
def Tryz.zero1 (w:World):(zeroValue 1).runT Tryz.prog w #[]=(.ok .nilFunc w,#[]):=by
 refine f2v ?_ ?_
 · rw [f0d];go_simp
 · show Sem.events Tryz.prog _ w #[]= #[];simp [go_sem]
def uw (kind:CallKind) (X:Frame) (cs:List Frame) (m:Nat):SeatD where
 c:=m+1
 z:= .nilIface
 ok:=false
 D:=fun b=>if b=m+2 then some (.cells #[.chan (some (m+1))] 163) else none
 B:=m+3
 home:=fun g=> ∃ a:Act,g=G ((mB kind).at a [.inRegion R3 [1,2],.code .ret]) (X::cs)∧a.defers=[]∧11≤a.tmps.size
def fqx {kind:CallKind} {X:Frame} {cs:List Frame} {m:Nat} {a:Act} (hk:kind= .normal∨kind= .deferred) (hS:Still (.cell ⟨m+2,0,none⟩)) (h5:a.tmps.getD 5 undef= .pointer (some ⟨m+2,0,none⟩)) (hd:a.defers=[]) (hsz:11≤a.tmps.size):
    Sits Tryz.prog main (Keeps (uw kind X cs m).D) Still (m+3) (uw kind X cs m).seat 5 (Go.Conc.served (G ((mB kind).at a [.inRegion R2 [2],.code C3]) (X::cs)) undef):=by
 have hk':kind≠ .early:=by rcases hk with rfl | rfl <;>simp
 obtain ⟨L,ds0,hlen,rfl⟩:=wb a hsz;rcases L with _ | ⟨y0,_ | ⟨y1,_ | ⟨y2,_ | ⟨y3,_ | ⟨y4,_ | ⟨y5,_ | ⟨y6,_ | ⟨y7,_ | ⟨y8,_ | ⟨y9,_ | ⟨y10,tl⟩⟩⟩⟩⟩⟩⟩⟩⟩⟩⟩ <;>first | (simp at hlen;done) | skip
 have h5:y5= .pointer (some ⟨m+2,0,none⟩):=h5;have hd:ds0=[]:=hd;subst h5;subst hd;rw [served_fr,f0i];refine .inl ⟨4,default,rfl,?_⟩;have hcell: ∀ w,Keeps (uw kind X cs m).D w→w.cell? ⟨m+2,0,none⟩=some (.chan (some (m+1))):=fun w h=>foa (t:=163) (by simp [uw]) h;have r: ∀ w,Keeps (uw kind X cs m).D w→(Instr.loadAt 163 (.pointer (some ⟨m+2,0,none⟩))).run Tryz.prog w= .ok (.chan (some (m+1))) w:=fun w h=>by have:=hcell w h;go_simp
 have v: ∀ w,Keeps (uw kind X cs m).D w→ ∀ e∈(Instr.loadAt 163 (.pointer (some ⟨m+2,0,none⟩))).events Tryz.prog w #[],EvC Still (m+3) e:=fun w h e he=>by
    have:=hcell w h;simp [go_sem,this] at he;subst he;exact evC_read _ hS fi
 refine fj8 (fqv (fa8 ?_));show Goes Tryz.prog main _ _ _ _ (G ((mB kind).at { tmps:=(y0::y1::y2::y3::y4:: .pointer (some ⟨m+2,0,none⟩)::y6::y7::y8::y9::y10::tl).toArray,defers:=[] } [.inRegion R3 [0,1,2],.code .ret]) (X::cs)) _;have L0: ∀ (a:Act) (rest:List Nat) (n:Nat) (Stop:Goroutine→World→Prop) (w:World),a.eval (.tmp 5)= .pointer (some ⟨m+2,0,none⟩)→Goes Tryz.prog main (RK (Keeps (uw kind X cs m).D)) (DS Still (m+3)) Stop n (G ((mB kind).at (a.put (some 9) (.chan (some (m+1)))) [.inRegion R3 rest,.code .ret]) (X::cs)) w→
  Goes Tryz.prog main (RK (Keeps (uw kind X cs m).D)) (DS Still (m+3)) Stop (n+1) (G ((mB kind).at a [.inRegion R3 (0::rest),.code .ret]) (X::cs)) w:=fun a rest n Stop w ha hh=>by
    refine fj9 (x:= .chan (some (m+1))) rfl rfl hk' (fun w h=>fcg (t:=163) (y:= .tmp 5) rfl (by rw [ha];exact r w h)) (fun w h e he=> ?_) hh;rw [fch (t:=163) (y:= .tmp 5) rfl (by rw [ha];exact r w h),ha] at he;exact v w h e he
 refine L0 _ _ _ _ _ rfl (Goes.stop fun w h=>⟨_,atIn_of (s:=(uw kind X cs m).seat) rfl rfl hk' (fun w=> ?_) (fun w=> ?_) ⟨_,rfl,rfl,by simp [Act.put]⟩⟩)
 · rw [← f0d _ _ _ #[],mg (t:=163) (y:= .tmp 9) (ok:=false) rfl Tryz.underlying163 (Tryz.zero49 w)];rfl
 · show (Sem.runT _ _ w #[]).2=_;rw [mg (t:=163) (y:= .tmp 9) (ok:=false) rfl Tryz.underlying163 (Tryz.zero49 w)]
def fqy (a2:Act) (x:Value) (c0:List Frame):((wB.at a2 callK).finish x)=wB.at (a2.put (some 11) x) (.inRegion wCall []::callK.tail):=by rw [f0i];rfl
def k_leave {P:Program} {K:World→Prop} {Stop:Goroutine→World→Prop} {n:Nat} {w:World} {b c:Frame} {a:Act} {cs:List Frame} {fn:Func} {todo:List Item} {x:Value} (hk:b.kind= .normal) (hd:a.defers=[]) (hf:P.funcs[b.fn]? =some fn) (hr:ResultsC P fn a.tmps x)
    (h:Goes P main (RK K) (DS Still B) Stop n (G (c.finish x) cs) w):Goes P main (RK K) (DS Still B) Stop (n+1) (G { b.at a todo with mode:= .returning } (c::cs)) w:=
 fe8 rfl (fun w=>stepG_leave hk hd hf (hr w).1 (hr w).2) h
def fqz {s:SeatD} {ds:List Deferred} {c0:List Frame} {a2 a4:Act} (hs:s.ok=true) (hz:s.z= .nilFunc) (hhome: ∀ g,fbr ds c0 s.c g→s.home g) (hd4:a4.defers=[]) (hd:a2.defers=ds) (h6:a2.tmps.getD 6 undef= .chan (some s.c)) (hsz:a2.tmps.size=12):
    Sits Tryz.prog main (Keeps s.D) Still B s.seat 10 (Go.Conc.served (G (dB.at a4 [.inRegion dOps [3]]) (wB.at a2 callK::c0)) undef):=by
 rw [served_fr,f0i];refine .inl ⟨9,default,rfl,?_⟩;refine fj8 (k_end (k_leave rfl hd4 Tryz.func86 (f2z rfl _) ?_));rw [fqy _ _ c0];refine fj8 (fqw (fu2 ?_));show Goes Tryz.prog main _ _ _ 3 (G (wB.at _ (.code (.seq (cL fat) (cR fat)):: .inLoop fat::[.inBlock 0])) c0) _
 have e6:(a2.put (some 11) (.tuple #[])).eval (.tmp 6)= .chan (some s.c):=by
    obtain ⟨L,ds0,hlen,rfl⟩:=fa9 a2 hsz;rcases L with _ | ⟨y0,_ | ⟨y1,_ | ⟨y2,_ | ⟨y3,_ | ⟨y4,_ | ⟨y5,_ | ⟨y6,_ | ⟨y7,_ | ⟨y8,_ | ⟨y9,_ | ⟨y10,_ | ⟨y11,_ | ⟨y12,tl⟩⟩⟩⟩⟩⟩⟩⟩⟩⟩⟩⟩⟩ <;>first | (simp at hlen;done) | skip
    exact h6
 refine fqv (fa8 (Goes.stop fun w h=>⟨_,atIn_of (s:=s.seat) (i:=0) (rest:=[1]) rfl rfl fu (fun w=> ?_) (fun w=> ?_) (hhome _ ⟨_,rfl,?_,?_,?_⟩)⟩))
 · rw [← f0d _ _ _ #[],mg (t:=78) (y:= .tmp 6) (ok:=true) rfl Tryz.underlying78 (Tryz.zero1 w)];simp only [SeatD.seat,Seat.one,rcase,hs,hz,e6]
 · show (Sem.runT _ _ w #[]).2=_;rw [mg (t:=78) (y:= .tmp 6) (ok:=true) rfl Tryz.underlying78 (Tryz.zero1 w)]
 · exact hd
 · exact e6
 · simp [Act.put,hsz]
def og_done {H:Hide} {Shun:Loc→Prop} {Φ:Goroutine→World→Nat→Prop} {w:World} {n:Nat} {kind:CallKind} {X:Frame} {cs:List Frame} {m:Nat} {g:Goroutine} {x:Value} (hk:kind= .normal∨kind= .deferred) (hg:(uw kind X cs m).home g)
    (h:OG Tryz.prog main H Shun Φ (G (ur kind x X) cs) w n):OG Tryz.prog main H Shun Φ (Go.Conc.served g (recvd false x true)) w n:=by
 have hk':kind≠ .early:=by rcases hk with rfl | rfl <;>simp
 obtain ⟨a,rfl,hd,hsz⟩:=hg;obtain ⟨L,ds0,hlen,rfl⟩:=wb a hsz;rcases L with _ | ⟨y0,_ | ⟨y1,_ | ⟨y2,_ | ⟨y3,_ | ⟨y4,_ | ⟨y5,_ | ⟨y6,_ | ⟨y7,_ | ⟨y8,_ | ⟨y9,_ | ⟨y10,tl⟩⟩⟩⟩⟩⟩⟩⟩⟩⟩⟩ <;>first | (simp at hlen;done) | skip
 have hd:ds0=[]:=hd;subst hd;rw [served_fr,f0i];show OG Tryz.prog main H Shun Φ (G ((mB kind).at { tmps:=(y0::y1::y2::y3::y4::y5::y6::y7::y8::y9::x::tl).toArray,defers:=[] } [.inRegion R3 [2],.code .ret]) (X::cs)) w n;refine qz (x:=x) (w1:=w) rfl rfl hk' (fun d=>rfl) (fx8 _) (fun _ _=>rfl) (fun d e he=>by have he:e∈(#[]:Array Event):=he;simp at he) ?_;refine u7 (fiv (ze hk rfl Tryz.func46 (x:=x) ?_ h));exact resultsC_tmp (t:=4) (show Tryz.f46.results= #[.tmp 4] from rfl) _
end
section
variable {P:Program} {F:Array Func} {Stop:Frame→List Frame→World→Prop} {v:World} {b g:Frame} {a:Act} {k:List Item} {l:List Frame} {ops:Array Oper} {i:Nat} {rest:List Nat} {o:Oper} {y:Operand}
def fjb (A:VS P F Stop) (ho:ops[i]? =some o) (hop:o.op= .call { callee:= .value y,args:= #[],argTypes:= #[] }) (hw:Region.wanted o (yielded ops a.tmps)=true) (L:Lv P F Stop (b.at a (.inRegion ops (i::rest)::k),g::l,v)): ∃ f p c,a.eval y= .func f p c:=by
 have hn: ¬ Stop (b.at a (.inRegion ops (i::rest)::k)) (g::l) v:=fun h=>by have:=A.stopNil _ _ _ h;cases this
 have okf:=L.stk (b.at a (.inRegion ops (i::rest)::k)) fi;have hst:=stepG_oper (P:=V P F) (main:=true) (b:=b) (a:=a) (k:=k) (cs:=g::(l++[botF])) (w:=reW v v.tape v.drawn) (rest:=rest) ho hw;rw [yg hop] at hst
 obtain ⟨fr',l',v',hnx⟩: ∃ fr' l' v',step (V P F) (lone (b.at a (.inRegion ops (i::rest)::k)) ((g::l)++[botF]) (reW v v.tape v.drawn))= .next (lone fr' (l'++[botF]) v'):=by
    have hf:=L.fin;cases hf with
    | stop h=>exact absurd h hn
    | step fr' l' v' h1 h2=>exact ⟨_,_,_,h1 v.tape v.drawn⟩
 have stuckC: ∀ s,(fc3 (a.eval y)).run (V P F) (reW v v.tape v.drawn)= .halt (.stuck s) (reW v v.tape v.drawn)→False:=fun s e=>by
    obtain ⟨o2,u,es',e2⟩:=dg (fr:=b.at a (.inRegion ops (i::rest)::k)) e rfl g (l++[botF]);rw [e2] at hst;have hs2:step (V P F) (lone (b.at a (.inRegion ops (i::rest)::k)) (g::(l++[botF])) (reW v v.tape v.drawn))= .ended o2 u:=f3u (by unfold G at hst;rw [hst];rfl);rw [f0j,hs2] at hnx;cases hnx
 have panicC: ∀ x u1,(fc3 (a.eval y)).run (V P F) (reW v v.tape v.drawn)= .halt (.panic x) u1→False:=fun x v1 e=>by
    obtain ⟨es,hT⟩:=uu e;rw [ax (fr:=b.at a (.inRegion ops (i::rest)::k)) hT okf.kind g (l++[botF])] at hst;have ha:Ahead (V P F) Stop (b.at a (.inRegion ops (i::rest)::k),g::l,v) ((b.at a (.inRegion ops (i::rest)::k)).raise [{ v:=x,recovered:=false }],g::l,v1):=
     ⟨(_,g::l,v1),v.tape,v.drawn,hn,f3t (by unfold G at hst;rw [show ((b.at a (.inRegion ops (i::rest)::k),g::l,v):St).2.1++[botF]=g::(l++[botF]) from rfl,hst];rfl),.refl _⟩
    exact fgv A (vn A L ha) ⟨(b.at a (.inRegion ops (i::rest)::k)).raise [{ v:=x,recovered:=false }],fz5,vu _ _⟩
 cases hx:a.eval y with
 | func f p c=>exact ⟨f,p,c,rfl⟩
 | nilFunc=>exact (panicC _ _ (by rw [hx];rfl)).elim
 | _=>exact (stuckC _ (by rw [hx];rfl)).elim
end
open Go.Conc.Lib Go.ConcR.Gen
noncomputable def fau:Frame:={ (default:Frame) with fn:=Tryz.prog.funcs.size,defers:=[],mode:= .panicking [goexitEntry] }
def fh1 {main:Bool} {K:World→Prop} {E:Event→Prop} {Φ:Goroutine→Nat→Prop} {d:Nat} {b:Frame} {a:Act} {todo:List Item} {fn:Func} (hn:b.kind= .deferred) (hd:a.defers=[]) (hf:Tryz.prog.funcs[b.fn]? =some fn) (hr:fn.results= #[]) (hq:WKE Tryz.prog main K E Φ { G fau [] with status:= .finished } d):
    WKE Tryz.prog main K E Φ (G { b.at a todo with mode:= .returning } [fau]) d:=by
 refine ri (g':=G fau []) rfl (fun u=> ?_) (ri rfl (fun u=> ?_) hq)
 · have h1:=f2g hr a.tmps Tryz.prog u;have h2:=events_results_none (P:=Tryz.prog) (w:=u) hr a.tmps #[];simp [G,stepG,unwind,doReturn,Frame.at,hn,hd,hf,h1,h2,seen,GStep.after,fau];rfl
 · have h0:(default:Frame).todo=[]:=rfl;simp [G,stepG,unwind,fau,Frame.catches,goexitEntry,h0]
def fl8 {P:Program} {b:Frame} {a:Act} {ops:Array Oper} {i:Nat} {rest:List Nat} {k:List Item} {cs:List Frame} {o:Oper} {f:FuncId} {fn:Func} {xs:Array Operand} {ats:Array TypeId} (ho:ops[i]? =some o) (hop:o.op= .call { callee:= .value (.func f),args:=xs,argTypes:=ats })
    (hf:P.funcs[f]? =some fn) (hb:fn.body.isNone=true):mayWake P (G (b.at a (.inRegion ops (i::rest)::k)) cs)=true:=by
 have ef:(b.at a (.inRegion ops (i::rest)::k)).eval (.func f)= .func (.func f) #[] #[]:=rfl;have h2:fn.body.isSome=false:=by cases h:fn.body <;>simp_all
 simp [mayWake,G,Frame.at,ho,hop] at ef ⊢;simp [ef,hf,h2]
section
variable {b:Nat}
def fu4 {k:Nat} {g:Goroutine} (hg:fbr [dcall 79 #[.pointer (some (stC b))]] [fau] k g): ∃ m,WB Tryz.prog (WgLv b) (AtRel Tryz.prog b) m (Go.Conc.served g (recvd true .nilFunc false)) 0:=by
 refine fa2 ?_;obtain ⟨a,rfl,hd,h6,hsz⟩:=hg;obtain ⟨L,ds0,hlen,rfl⟩:=fa9 a hsz;rcases L with _ | ⟨y0,_ | ⟨y1,_ | ⟨y2,_ | ⟨y3,_ | ⟨y4,_ | ⟨y5,_ | ⟨y6,_ | ⟨y7,_ | ⟨y8,_ | ⟨y9,_ | ⟨y10,_ | ⟨y11,_ | ⟨y12,tl⟩⟩⟩⟩⟩⟩⟩⟩⟩⟩⟩⟩⟩ <;>first | (simp at hlen;done) | skip
 have hd:ds0=_:=hd;subst hd;clear hlen hsz h6;rw [served_fr,f0i];show WKE Tryz.prog false (WgLv b) _ _ (G (wB.at { tmps:= #[y0,y1,y2,y3,y4,y5,y6,.tuple #[.nilFunc,.bool false],y8,y9,y10,y11],defers:=[dcall 79 #[.pointer (some (stC b))]] } [.inRegion fwk [1],.code (cR fat),.inLoop fat,.inBlock 0]) [fau]) 0;refine ww (.bool false) rfl rfl fu (fun _ _=>rfl) (fun _ _=>rfl) ?_;refine we ?_;refine wq ?_;refine wf ?_;refine ri rfl (fun _=>stepG_exit rfl) ?_;refine ri rfl (fun _=>f4e) ?_;refine ffs (f:=79) rfl Tryz.func79 fd rfl ?_;simp only [show Tryz.f79.ntmps=4 from rfl];walk_nrm;refine wr ?_;simp only [szs];refine wv (.pointer (some (stC b))) ?_;walk_nrm;refine i7 rfl rfl gh rfl Tryz.func77 fd rfl ?_;simp only [show Tryz.f77.ntmps=117 from rfl];walk_nrm;refine wq ?_;refine wt ?_;refine wq ?_;refine wq ?_;refine wr ?_;simp only [szs];refine wv (.int .i64 (-1)) ?_;walk_nrm;refine wv (.bool true) ?_;walk_nrm;refine we ?_;refine wt ?_;refine wr ?_;simp only [szs];refine wv (.pointer (some (stC b))) ?_;walk_nrm;refine faq (p:=stC b) rfl rfl Tryz.underlying128 wgLib.room_tWg (fun u hu=> ?_) rfl rfl gh ?_
 · obtain ⟨x,y,h⟩:=hu;exact ⟨_,h.st⟩
 walk_nrm;refine ug ⟨rfl,rfl,_,fun u hu=>f4t .releaseMerge fi rfl rfl gh rfl wgLib.f_relMerge (x_relMerge_n Lw) (x_relMerge_b Lw) (x_relMerge_x Lw) (x_relMerge_f Lw) (ad:=stC b) jh,fa2 ?_⟩;walk_nrm;refine we ?_;refine wq ?_;refine wr ?_;simp only [szs];refine i8 .disable fi rfl rfl rfl gh rfl wgLib.f_disable (x_disable_n Lw) (x_disable_b Lw) (x_disable_x Lw) (x_disable_f Lw) ?_;walk_nrm;refine we ?_;refine wr ?_;simp only [szs];refine fmj rfl rfl gh rfl ?_;walk_nrm;refine we ?_;refine wq ?_;refine wr ?_;simp only [szs];refine wv (.bool false) ?_;walk_nrm;refine we ?_;refine wq ?_;refine wq ?_;refine wr ?_;simp only [szs];refine fqk (.bool false) rfl rfl gh rfl wgLib.f_inBubble (x_inBubble_n Lw) (x_inBubble_b Lw) (x_inBubble_x Lw) (x_inBubble_f Lw) ?_;walk_nrm;refine we ?_;refine wf ?_;refine ws ?_;refine wq ?_;refine wr ?_;simp only [szs];refine wv (.pointer (some (stC b))) ?_;walk_nrm;refine wv (.pointer (some (stC b))) ?_;walk_nrm;refine wv (.pointer (some (stC b))) ?_;walk_nrm;refine wv (.int .i64 (-1)) ?_;walk_nrm;refine ww (.int .u64 18446744073709551615) rfl rfl gh (fun _ _=>by go_simp;try decide) (fun _ _=>by simp [go_sem]) ?_;walk_nrm;refine ww (.int .u64 18446744069414584320) rfl rfl gh (fun _ _=>by go_simp;try decide) (fun _ _=>by simp [go_sem]) ?_;walk_nrm;refine i7 rfl rfl gh rfl Tryz.func109 fd rfl ?_;simp only [show Tryz.f109.ntmps=10 from rfl];walk_nrm;refine wq ?_;refine wr ?_;simp only [szs];refine wv (.int .u64 0) ?_;walk_nrm;refine we ?_;refine wq ?_;refine wr ?_;simp only [szs];refine wv (.pointer (some (stC b))) ?_;walk_nrm;refine wv (.pointer (some (stC b))) ?_;walk_nrm;refine wv (.pointer (some (stC b))) ?_;walk_nrm;refine wv (.int .u64 18446744069414584320) ?_;walk_nrm;refine ug ⟨rfl,by decide,fun v wt hwt hv=> ?_⟩;obtain ⟨S,hS⟩: ∃ S:Int,S=(v:Int)*4294967296+(wt:Int):=⟨_,rfl⟩;have eS:IntKind.u64.wrap (((v+1:Nat):Int)*K32+(wt:Int)+18446744069414584320)=S:=by rw [IntKind.wrap_u64,hS];show (((v+1:Nat):Int)*4294967296+(wt:Int)+18446744069414584320)%18446744073709551616=_;omega
 have a1:S / 4294967296=(v:Int):=by rw [hS];omega
 have a2:0≤S∧S<9223372036854775808:=by rw [hS];omega
 have b1:bits .and .u64 S 2147483648=0:=by rw [hS];exact Go.ConcN.st_flag v wt fe hwt
 have b2:bits .and .u64 S 2147483647=(wt:Int):=by rw [hS];exact Go.ConcN.st_waiters v wt fe hwt
 refine ⟨_,fun u y hc=>(stepG_add_atomic rfl rfl gh rfl wgLib.f_addU64 (x_addU64_n Lw) (x_addU64_b Lw) (x_addU64_x Lw) .u64 (x_addU64_f Lw) rfl rfl hc.st hc.fst).trans (by rw [eS,show ((v:Nat):Int)*K32+(wt:Int)=S from hS.symm]),fun hn=>fe3 ?_,fun hl=>fa2 ?_⟩
 · clear eS;rcases Nat.eq_zero_or_pos v with rfl | hvp
   · obtain rfl:wt=0:=by omega
     obtain rfl:S=0:=by simpa using hS
     clear hS a1 a2 b1 b2;walk_nrm;refine wv (.int .u64 0) ?_;walk_nrm;refine we ?_;refine ri rfl (fun _=>f1w) ?_;refine vw (t:=4) rfl rfl Tryz.func109 rfl ?_;walk_nrm;refine wv (.int .u64 0) ?_;walk_nrm;refine we ?_;refine wq ?_;refine wq ?_;refine wr ?_;simp only [szs];refine wv (.int .u64 0) ?_;walk_nrm;refine wu (.int .u64 0) ?_;walk_nrm;refine wu (.bool false) ?_;walk_nrm;refine wv (.bool false) ?_;walk_nrm;refine wz ?_;walk_nrm;refine wz ?_;walk_nrm;refine wv (.bool false) ?_;walk_nrm;refine we ?_;refine wf ?_;refine ws ?_;refine wq ?_;refine wr ?_;simp only [szs];refine wv (.int .u64 0) ?_;walk_nrm;refine wu (.int .u64 0) ?_;walk_nrm;refine wu (.int .i32 0) ?_;walk_nrm;refine wv (.int .i32 0) ?_;walk_nrm;refine we ?_;refine wq ?_;refine wr ?_;simp only [szs];refine wv (.int .u64 0) ?_;walk_nrm;refine wu (.int .u64 0) ?_;walk_nrm;refine wu (.int .u32 0) ?_;walk_nrm;refine wv (.int .u32 0) ?_;walk_nrm;refine we ?_;refine wq ?_;refine wq ?_;refine wr ?_;simp only [szs];refine wv (.bool true) ?_;walk_nrm;refine wv (.int .i64 (-1)) ?_;walk_nrm;refine wv (.bool false) ?_;walk_nrm;refine wv (.bool false) ?_;walk_nrm;refine wv (.bool false) ?_;walk_nrm;refine wz ?_;walk_nrm;refine wz ?_;walk_nrm;refine wz ?_;walk_nrm;refine wz ?_;walk_nrm;refine wv (.bool false) ?_;walk_nrm;refine we ?_;refine wf ?_;refine ws ?_;refine wq ?_;refine wq ?_;refine wr ?_;simp only [szs];refine wv (.int .i32 0) ?_;walk_nrm;refine wu (.bool false) ?_;walk_nrm;refine we ?_;refine wf ?_;refine ws ?_;refine wq ?_;refine wq ?_;refine wr ?_;simp only [szs];refine wv (.int .u32 0) ?_;walk_nrm;refine wv (.bool false) ?_;walk_nrm;refine wv (.bool false) ?_;walk_nrm;refine wz ?_;walk_nrm;refine wz ?_;walk_nrm;refine wv (.bool false) ?_;walk_nrm;refine wv (.bool false) ?_;walk_nrm;refine wz ?_;walk_nrm;refine wz ?_;walk_nrm;refine wz ?_;walk_nrm;refine wz ?_;walk_nrm;refine wv (.bool false) ?_;walk_nrm;refine we ?_;refine wf ?_;refine ws ?_;refine wq ?_;refine wq ?_;refine wr ?_;simp only [szs];refine wv (.int .i32 0) ?_;walk_nrm;refine wv (.bool false) ?_;walk_nrm;refine wv (.bool false) ?_;walk_nrm;refine wv (.int .u32 0) ?_;walk_nrm;refine wv (.bool true) ?_;walk_nrm;refine wv (.bool true) ?_;walk_nrm;refine we ?_;refine wt ?_;refine ri rfl (fun _=>f1w) ?_;refine dm .enable rfl fi rfl wgLib.f_enable (x_enable_n Lw) (x_enable_b Lw) (x_enable_x Lw) (x_enable_f Lw) ?_;refine yo rfl rfl Tryz.func77 rfl ?_;walk_nrm;refine we ?_;refine ri rfl (fun _=>f4e) ?_;refine fa3 rfl rfl Tryz.func79 rfl rfl ?_;refine fh1 rfl rfl Tryz.func78 rfl ?_;exact ug ⟨rfl,rfl⟩
   · obtain rfl | rfl:wt=0∨wt=1:=by omega
     · replace b2:bits .and .u64 S 2147483647=0:=by simpa using b2
       clear hS;walk_nrm;refine wv (.int .u64 S) ?_;walk_nrm;refine we ?_;refine ri rfl (fun _=>f1w) ?_;refine vw (t:=4) rfl rfl Tryz.func109 rfl ?_;walk_nrm;refine wv (.int .u64 S) ?_;walk_nrm;refine we ?_;refine wq ?_;refine wq ?_;refine wr ?_;simp only [szs];refine wv (.int .u64 S) ?_;walk_nrm;refine wu (.int .u64 0) ?_;walk_nrm;refine wu (.bool false) ?_;walk_nrm;refine wv (.bool false) ?_;walk_nrm;refine wz ?_;walk_nrm;refine wz ?_;walk_nrm;refine wv (.bool false) ?_;walk_nrm;refine we ?_;refine wf ?_;refine ws ?_;refine wq ?_;refine wr ?_;simp only [szs];refine wv (.int .u64 S) ?_;walk_nrm;refine wu (.int .u64 (v:Int)) ?_;walk_nrm;refine wu (.int .i32 (v:Int)) ?_;walk_nrm;refine wv (.int .i32 (v:Int)) ?_;walk_nrm;refine we ?_;refine wq ?_;refine wr ?_;simp only [szs];refine wv (.int .u64 S) ?_;walk_nrm;refine wu (.int .u64 0) ?_;walk_nrm;refine wu (.int .u32 0) ?_;walk_nrm;refine wv (.int .u32 0) ?_;walk_nrm;refine we ?_;refine wq ?_;refine wq ?_;refine wr ?_;simp only [szs];refine wv (.bool true) ?_;walk_nrm;refine wv (.int .i64 (-1)) ?_;walk_nrm;refine wv (.bool false) ?_;walk_nrm;refine wv (.bool false) ?_;walk_nrm;refine wv (.bool false) ?_;walk_nrm;refine wz ?_;walk_nrm;refine wz ?_;walk_nrm;refine wz ?_;walk_nrm;refine wz ?_;walk_nrm;refine wv (.bool false) ?_;walk_nrm;refine we ?_;refine wf ?_;refine ws ?_;refine wq ?_;refine wq ?_;refine wr ?_;simp only [szs];refine wv (.int .i32 (v:Int)) ?_;walk_nrm;refine wu (.bool false) ?_;walk_nrm;refine we ?_;refine wf ?_;refine ws ?_;refine wq ?_;refine wq ?_;refine wr ?_;simp only [szs];refine wv (.int .u32 0) ?_;walk_nrm;refine wv (.bool false) ?_;walk_nrm;refine wv (.bool false) ?_;walk_nrm;refine wz ?_;walk_nrm;refine wz ?_;walk_nrm;refine wv (.bool false) ?_;walk_nrm;refine wv (.bool false) ?_;walk_nrm;refine wz ?_;walk_nrm;refine wz ?_;walk_nrm;refine wz ?_;walk_nrm;refine wz ?_;walk_nrm;refine wv (.bool false) ?_;walk_nrm;refine we ?_;refine wf ?_;refine ws ?_;refine wq ?_;refine wq ?_;refine wr ?_;simp only [szs];refine wv (.int .i32 (v:Int)) ?_;walk_nrm;refine wu (.bool true) ?_;walk_nrm;refine wv (.bool true) ?_;walk_nrm;refine wz ?_;walk_nrm;refine wz ?_;walk_nrm;refine wv (.bool true) ?_;walk_nrm;refine we ?_;refine wt ?_;refine ri rfl (fun _=>f1w) ?_;refine dm .enable rfl fi rfl wgLib.f_enable (x_enable_n Lw) (x_enable_b Lw) (x_enable_x Lw) (x_enable_f Lw) ?_;refine yo rfl rfl Tryz.func77 rfl ?_;walk_nrm;refine we ?_;refine ri rfl (fun _=>f4e) ?_;refine fa3 rfl rfl Tryz.func79 rfl rfl ?_;refine fh1 rfl rfl Tryz.func78 rfl ?_;exact ug ⟨rfl,rfl⟩
     · replace b2:bits .and .u64 S 2147483647=1:=by simpa using b2
       clear hS;walk_nrm;refine wv (.int .u64 S) ?_;walk_nrm;refine we ?_;refine ri rfl (fun _=>f1w) ?_;refine vw (t:=4) rfl rfl Tryz.func109 rfl ?_;walk_nrm;refine wv (.int .u64 S) ?_;walk_nrm;refine we ?_;refine wq ?_;refine wq ?_;refine wr ?_;simp only [szs];refine wv (.int .u64 S) ?_;walk_nrm;refine wu (.int .u64 0) ?_;walk_nrm;refine wu (.bool false) ?_;walk_nrm;refine wv (.bool false) ?_;walk_nrm;refine wz ?_;walk_nrm;refine wz ?_;walk_nrm;refine wv (.bool false) ?_;walk_nrm;refine we ?_;refine wf ?_;refine ws ?_;refine wq ?_;refine wr ?_;simp only [szs];refine wv (.int .u64 S) ?_;walk_nrm;refine wu (.int .u64 (v:Int)) ?_;walk_nrm;refine wu (.int .i32 (v:Int)) ?_;walk_nrm;refine wv (.int .i32 (v:Int)) ?_;walk_nrm;refine we ?_;refine wq ?_;refine wr ?_;simp only [szs];refine wv (.int .u64 S) ?_;walk_nrm;refine wu (.int .u64 1) ?_;walk_nrm;refine wu (.int .u32 1) ?_;walk_nrm;refine wv (.int .u32 1) ?_;walk_nrm;refine we ?_;refine wq ?_;refine wq ?_;refine wr ?_;simp only [szs];refine wv (.bool true) ?_;walk_nrm;refine wv (.int .i64 (-1)) ?_;walk_nrm;refine wv (.bool false) ?_;walk_nrm;refine wv (.bool false) ?_;walk_nrm;refine wv (.bool false) ?_;walk_nrm;refine wz ?_;walk_nrm;refine wz ?_;walk_nrm;refine wz ?_;walk_nrm;refine wz ?_;walk_nrm;refine wv (.bool false) ?_;walk_nrm;refine we ?_;refine wf ?_;refine ws ?_;refine wq ?_;refine wq ?_;refine wr ?_;simp only [szs];refine wv (.int .i32 (v:Int)) ?_;walk_nrm;refine wu (.bool false) ?_;walk_nrm;refine we ?_;refine wf ?_;refine ws ?_;refine wq ?_;refine wq ?_;refine wr ?_;simp only [szs];refine wv (.int .u32 1) ?_;walk_nrm;refine wv (.bool true) ?_;walk_nrm;refine wv (.bool true) ?_;walk_nrm;refine wv (.int .i64 (-1)) ?_;walk_nrm;refine wv (.bool false) ?_;walk_nrm;refine wv (.bool false) ?_;walk_nrm;refine wv (.bool false) ?_;walk_nrm;refine wz ?_;walk_nrm;refine wz ?_;walk_nrm;refine wz ?_;walk_nrm;refine wz ?_;walk_nrm;refine wv (.bool false) ?_;walk_nrm;refine we ?_;refine wf ?_;refine ws ?_;refine wq ?_;refine wq ?_;refine wr ?_;simp only [szs];refine wv (.int .i32 (v:Int)) ?_;walk_nrm;refine wu (.bool true) ?_;walk_nrm;refine wv (.bool true) ?_;walk_nrm;refine wz ?_;walk_nrm;refine wz ?_;walk_nrm;refine wv (.bool true) ?_;walk_nrm;refine we ?_;refine wt ?_;refine ri rfl (fun _=>f1w) ?_;refine dm .enable rfl fi rfl wgLib.f_enable (x_enable_n Lw) (x_enable_b Lw) (x_enable_x Lw) (x_enable_f Lw) ?_;refine yo rfl rfl Tryz.func77 rfl ?_;walk_nrm;refine we ?_;refine ri rfl (fun _=>f4e) ?_;refine fa3 rfl rfl Tryz.func79 rfl rfl ?_;refine fh1 rfl rfl Tryz.func78 rfl ?_;exact ug ⟨rfl,rfl⟩
 · obtain ⟨rfl,rfl⟩:=hl;obtain rfl:S=1:=by simpa using hS
   clear hS a1 a2 b1 b2 eS;walk_nrm;refine wv (.int .u64 1) ?_;walk_nrm;refine we ?_;refine ri rfl (fun _=>f1w) ?_;refine vw (t:=4) rfl rfl Tryz.func109 rfl ?_;walk_nrm;refine wv (.int .u64 1) ?_;walk_nrm;refine we ?_;refine wq ?_;refine wq ?_;refine wr ?_;simp only [szs];refine wv (.int .u64 1) ?_;walk_nrm;refine wu (.int .u64 0) ?_;walk_nrm;refine wu (.bool false) ?_;walk_nrm;refine wv (.bool false) ?_;walk_nrm;refine wz ?_;walk_nrm;refine wz ?_;walk_nrm;refine wv (.bool false) ?_;walk_nrm;refine we ?_;refine wf ?_;refine ws ?_;refine wq ?_;refine wr ?_;simp only [szs];refine wv (.int .u64 1) ?_;walk_nrm;refine wu (.int .u64 0) ?_;walk_nrm;refine wu (.int .i32 0) ?_;walk_nrm;refine wv (.int .i32 0) ?_;walk_nrm;refine we ?_;refine wq ?_;refine wr ?_;simp only [szs];refine wv (.int .u64 1) ?_;walk_nrm;refine wu (.int .u64 1) ?_;walk_nrm;refine wu (.int .u32 1) ?_;walk_nrm;refine wv (.int .u32 1) ?_;walk_nrm;refine we ?_;refine wq ?_;refine wq ?_;refine wr ?_;simp only [szs];refine wv (.bool true) ?_;walk_nrm;refine wv (.int .i64 (-1)) ?_;walk_nrm;refine wv (.bool false) ?_;walk_nrm;refine wv (.bool false) ?_;walk_nrm;refine wv (.bool false) ?_;walk_nrm;refine wz ?_;walk_nrm;refine wz ?_;walk_nrm;refine wz ?_;walk_nrm;refine wz ?_;walk_nrm;refine wv (.bool false) ?_;walk_nrm;refine we ?_;refine wf ?_;refine ws ?_;refine wq ?_;refine wq ?_;refine wr ?_;simp only [szs];refine wv (.int .i32 0) ?_;walk_nrm;refine wu (.bool false) ?_;walk_nrm;refine we ?_;refine wf ?_;refine ws ?_;refine wq ?_;refine wq ?_;refine wr ?_;simp only [szs];refine wv (.int .u32 1) ?_;walk_nrm;refine wv (.bool true) ?_;walk_nrm;refine wv (.bool true) ?_;walk_nrm;refine wv (.int .i64 (-1)) ?_;walk_nrm;refine wv (.bool false) ?_;walk_nrm;refine wv (.bool false) ?_;walk_nrm;refine wv (.bool false) ?_;walk_nrm;refine wz ?_;walk_nrm;refine wz ?_;walk_nrm;refine wz ?_;walk_nrm;refine wz ?_;walk_nrm;refine wv (.bool false) ?_;walk_nrm;refine we ?_;refine wf ?_;refine ws ?_;refine wq ?_;refine wq ?_;refine wr ?_;simp only [szs];refine wv (.int .i32 0) ?_;walk_nrm;refine wv (.bool false) ?_;walk_nrm;refine wv (.bool false) ?_;walk_nrm;refine wv (.int .u32 1) ?_;walk_nrm;refine wv (.bool false) ?_;walk_nrm;refine wv (.bool false) ?_;walk_nrm;refine we ?_;refine wf ?_;refine ws ?_;refine wq ?_;refine wq ?_;refine wr ?_;simp only [szs];refine wv (.pointer (some (stC b))) ?_;walk_nrm;refine wv (.pointer (some (stC b))) ?_;walk_nrm;refine wv (.pointer (some (stC b))) ?_;walk_nrm;refine i7 rfl rfl gh rfl Tryz.func62 fd rfl ?_;simp only [show Tryz.f62.ntmps=7 from rfl];walk_nrm;refine wq ?_;refine wr ?_;simp only [szs];refine wv (.int .u64 0) ?_;walk_nrm;refine we ?_;refine wq ?_;refine wr ?_;simp only [szs];refine wv (.pointer (some (stC b))) ?_;walk_nrm;refine wv (.pointer (some (stC b))) ?_;walk_nrm;refine wv (.pointer (some (stC b))) ?_;walk_nrm;refine ug ⟨rfl,by decide,_,fun u y hc=>stepG_load_atomic rfl rfl gh rfl wgLib.f_loadU64 (x_loadU64_n Lw) (x_loadU64_b Lw) (x_loadU64_x Lw) .u64 (x_loadU64_f Lw) rfl hc.st,fa2 ?_⟩;walk_nrm;refine wv (.int .u64 1) ?_;walk_nrm;refine we ?_;refine ri rfl (fun _=>f1w) ?_;refine vw (t:=2) rfl rfl Tryz.func62 rfl ?_;walk_nrm;refine wv (.int .u64 1) ?_;walk_nrm;refine wv (.bool false) ?_;walk_nrm;refine we ?_;refine wf ?_;refine ws ?_;refine wq ?_;refine wr ?_;simp only [szs];refine wv (.pointer (some (stC b))) ?_;walk_nrm;refine wv (.pointer (some (stC b))) ?_;walk_nrm;refine wv (.pointer (some (stC b))) ?_;walk_nrm;refine i7 rfl rfl gh rfl Tryz.func111 fd rfl ?_;simp only [show Tryz.f111.ntmps=9 from rfl];walk_nrm;refine wr ?_;simp only [szs];refine wv (.pointer (some (stC b))) ?_;walk_nrm;refine wv (.pointer (some (stC b))) ?_;walk_nrm;refine wv (.pointer (some (stC b))) ?_;walk_nrm;refine wv (.int .u64 0) ?_;walk_nrm;refine ug ⟨rfl,by decide,_,fun u y hc=>stepG_store_atomic rfl rfl gh rfl wgLib.f_storeU64 (x_storeU64_n Lw) (x_storeU64_b Lw) (x_storeU64_x Lw) (x_storeU64_f Lw) rfl rfl hc.st hc.fst,fa2 ?_⟩;walk_nrm;refine we ?_;refine ri rfl (fun _=>f4e) ?_;refine yo rfl rfl Tryz.func111 rfl ?_;walk_nrm;refine we ?_;refine wq ?_;refine wq ?_;refine wr ?_;simp only [szs];refine wv (.bool false) ?_;walk_nrm;refine we ?_;refine wf ?_;refine ws ?_;refine ri rfl (fun _=>f5i) ?_;refine ri rfl (fun _=>stepG_loop) ?_;refine wq ?_;refine wq ?_;refine wr ?_;simp only [szs];refine wv (.int .u32 1) ?_;walk_nrm;refine wv (.bool true) ?_;walk_nrm;refine we ?_;refine wt ?_;refine ws ?_;refine wq ?_;refine ri rfl (fun _=>f5i) ?_;refine wr ?_;simp only [szs];refine wv (.pointer (some (stC b))) ?_;walk_nrm;refine wv (.pointer (some (stC b))) ?_;walk_nrm;refine wv (.pointer (some (smC b))) ?_;walk_nrm;refine ug ⟨rfl,by decide,fl8 rfl rfl wgLib.f_semrelease (x_semrelease_b Lw),_,fun u hc=>(stepG_semrelease rfl rfl gh rfl wgLib.f_semrelease (x_semrelease_n Lw) (x_semrelease_b Lw) (x_semrelease_x Lw) (x_semrelease_f Lw) (ad:=smC b) jh hc.sm hc.fsm).trans (by rw [show IntKind.u32.wrap (0+1)=1 from by decide]),fe3 ?_⟩;walk_nrm;refine we ?_;refine ri rfl (fun _=>stepG_inBlock) ?_;refine wr ?_;simp only [szs];refine wv (.int .u32 1) ?_;walk_nrm;refine wu (.int .u32 0) ?_;walk_nrm;refine wv (.int .u32 0) ?_;walk_nrm;refine we ?_;refine ri rfl (fun _=>stepG_inLoop) ?_;refine wq ?_;refine wq ?_;refine wr ?_;simp only [szs];refine wv (.int .u32 0) ?_;walk_nrm;refine wv (.bool false) ?_;walk_nrm;refine we ?_;refine wf ?_;refine ri rfl (fun _=>stepG_exit rfl) ?_;refine ri rfl (fun _=>f4e) ?_;refine dm .enable rfl fi rfl wgLib.f_enable (x_enable_n Lw) (x_enable_b Lw) (x_enable_x Lw) (x_enable_f Lw) ?_;refine yo rfl rfl Tryz.func77 rfl ?_;walk_nrm;refine we ?_;refine ri rfl (fun _=>f4e) ?_;refine fa3 rfl rfl Tryz.func79 rfl rfl ?_;refine fh1 rfl rfl Tryz.func78 rfl ?_;exact ug ⟨rfl,rfl⟩
end
def WaitE (b:Nat) (e:Event):Prop:=e.mute=true∨e=⟨.mark (.write (smC b)),false,true⟩
noncomputable def wL7:Code:=match Tryz.f28.body with | some (.seq _ (.block _ (.loop c)))=>c | _=> .skip
def fw1 (b:Nat) (cs:List Frame) (g:Goroutine):Prop:= ∃ T:Array Value,T.size=84∧T[0]? =some (.pointer (some (stC b)))∧g=G ((base 28).at ⟨T,[]⟩ [.code wL7,.inLoop wL7,.inBlock 0]) cs
def fu5 (b:Nat) (w:World) (cs:List Frame) (g:Goroutine) (w':World) (d:Nat):Prop:=w'=w∧WKE Tryz.prog true (WgLv b) (WaitE b) (fun g d=>d=1∧fw1 b cs g) g d
section
variable {b:Nat} {Shun:Loc→Prop} {St:Nat→Loc→Prop} {S:Nat→Option SeatD} {w:World}
def cz {Ψ:Goroutine→World→Nat→Prop} {g:Goroutine} {d:Nat} (hs:HasS b w) (hsh:Shun (.cell (stC b))∧Shun (.cell (smC b))) (h:WKE Tryz.prog true (WgLv b) (WaitE b) (fun g d=> ∃ n,OM Tryz.prog b Shun St S Ψ n g w d) g d): ∃ n,OM Tryz.prog b Shun St S Ψ n g w d:=by
 refine fu0 hs (fun e he=> ?_) (fun _ h=>h) h fun _ _ h=>h;rcases he with he | rfl
 · obtain ⟨l,wr,sy⟩:=e;cases l with
   | mark m=>
     cases m with
     | disable=>exact ⟨fun x hx=>jn,fun a h=>je,by cases wr <;>cases sy <;>trivial⟩
     | enable=>exact ⟨fun x hx=>jn,fun a h=>je,by cases wr <;>cases sy <;>trivial⟩
     | _=>simp [Event.mute] at he
   | _=>simp [Event.mute] at he
 · refine ⟨fun x hx=> .inl ?_,fun a h=>je,hs.lt⟩;simp [MemAct.ofEvent,MemAct.touch?] at hx;subst hx;exact ⟨hsh.2,by simp⟩
variable {St':Nat→Loc→Prop} {b₀:Frame} {a₀:Act} {k₀:List Item} {cs:List Frame} {ops₀:Array Oper} {i₀:Nat} {rest₀:List Nat} {Φ:Goroutine→World→Nat→Prop}
def ffv {g:Goroutine} (hs:HasS b w) (hsh:Shun (.cell (stC b))∧Shun (.cell (smC b)))
    (hΦ: ∃ n,OM Tryz.prog b Shun St' (fun _=>none) Φ n (G (b₀.at (a₀.put ((ops₀[i₀]?).bind (·.dst)) (.tuple #[])) (.inRegion ops₀ rest₀::k₀)) cs) w 0)
    (hg:fw1 b (b₀.at a₀ (.inRegion ops₀ (i₀::rest₀)::k₀)::cs) g):
    ∃ n,OM Tryz.prog b Shun St S (AtW1 Tryz.prog b Shun St S (fe2 Tryz.prog b Shun St' Φ) (fu5 b w (b₀.at a₀ (.inRegion ops₀ (i₀::rest₀)::k₀)::cs))) n g w 1:=by
 obtain ⟨T,hT,h0,rfl⟩:=hg;obtain ⟨v0,v1,v2,v3,v4,v5,v6,v7,v8,v9,v10,v11,v12,v13,v14,v15,v16,v17,v18,v19,v20,v21,v22,v23,v24,v25,v26,v27,v28,v29,v30,v31,v32,v33,v34,v35,v36,v37,v38,v39,v40,v41,v42,v43,v44,v45,v46,v47,v48,v49,v50,v51,v52,v53,v54,v55,v56,v57,v58,v59,v60,v61,v62,v63,v64,v65,v66,v67,v68,v69,v70,v71,v72,v73,v74,v75,v76,v77,v78,v79,v80,v81,v82,v83,rfl⟩:=array84 T hT;simp only [fy2,fx7,f03] at h0;subst h0;clear hT;unfold wL7;simp only [Tryz.f28];refine cz hs hsh ?_;refine ri rfl (fun _=>f5i) ?_;refine wq ?_;refine wr ?_;simp only [szs];refine wv (.pointer (some (stC b))) ?_;walk_nrm;refine wv (.pointer (some (stC b))) ?_;walk_nrm;refine wv (.pointer (some (stC b))) ?_;walk_nrm;refine i7 rfl rfl gh rfl Tryz.func62 fd rfl ?_;simp only [show Tryz.f62.ntmps=7 from rfl];walk_nrm;refine wq ?_;refine wr ?_;simp only [szs];refine wv (.int .u64 0) ?_;walk_nrm;refine we ?_;refine wq ?_;refine wr ?_;simp only [szs];refine wv (.pointer (some (stC b))) ?_;walk_nrm;refine wv (.pointer (some (stC b))) ?_;walk_nrm;refine wv (.pointer (some (stC b))) ?_;walk_nrm;refine ug ⟨0,rfl,fun v hv=> ?_⟩;rcases Nat.eq_zero_or_pos v with rfl | hvp
 · refine ⟨_,fun t=>stepG_load_atomic rfl rfl gh rfl wgLib.f_loadU64 (x_loadU64_n Lw) (x_loadU64_b Lw) (x_loadU64_x Lw) .u64 (x_loadU64_f Lw) rfl ((wo hs).at t).st,fun _=>cz hs hsh ?_,fun h=>absurd rfl h⟩;rw [show ((0:Nat):Int)*K32=0 from by simp];walk_nrm;refine wv (.int .u64 0) ?_;walk_nrm;refine we ?_;refine ri rfl (fun _=>f1w) ?_;refine vw (t:=2) rfl rfl Tryz.func62 rfl ?_;walk_nrm;refine wv (.int .u64 0) ?_;walk_nrm;refine we ?_;refine wq ?_;refine wr ?_;simp only [szs];refine wv (.int .u64 0) ?_;walk_nrm;refine wu (.int .u64 0) ?_;walk_nrm;refine wu (.int .i32 0) ?_;walk_nrm;refine wv (.int .i32 0) ?_;walk_nrm;refine we ?_;refine wq ?_;refine wr ?_;simp only [szs];refine wv (.int .u64 0) ?_;walk_nrm;refine wu (.int .u64 0) ?_;walk_nrm;refine wu (.int .u32 0) ?_;walk_nrm;refine wv (.int .u32 0) ?_;walk_nrm;refine we ?_;refine wq ?_;refine wq ?_;refine wr ?_;simp only [szs];refine wv (.int .i32 0) ?_;walk_nrm;refine wu (.bool true) ?_;walk_nrm;refine we ?_;refine wt ?_;refine wq ?_;refine wt ?_;refine wq ?_;refine wr ?_;simp only [szs];refine i8 .enable fi (.inl rfl) rfl rfl gh rfl wgLib.f_enable (x_enable_n Lw) (x_enable_b Lw) (x_enable_x Lw) (x_enable_f Lw) ?_;walk_nrm;refine we ?_;refine wr ?_;simp only [szs];refine wv (.pointer (some (stC b))) ?_;walk_nrm;refine faq (p:=stC b) rfl rfl Tryz.underlying128 wgLib.room_tWg (fun u hu=> ?_) rfl rfl gh ?_
   · obtain ⟨x,y,h⟩:=hu;exact ⟨_,h.st⟩
   walk_nrm;refine ug ⟨0,rfl,by first | rfl | simp [deafBehind],_,fun x y t=>f4t .acquire fi rfl rfl gh rfl wgLib.f_acquire (x_acquire_n Lw) (x_acquire_b Lw) (x_acquire_x Lw) (x_acquire_f Lw) (ad:=stC b) jh,cz hs hsh ?_⟩;walk_nrm;refine we ?_;refine wq ?_;refine wq ?_;refine wr ?_;simp only [szs];refine wv (.int .u32 0) ?_;walk_nrm;refine wu (.bool true) ?_;walk_nrm;refine wv (.bool true) ?_;walk_nrm;refine wv (.int .u64 0) ?_;walk_nrm;refine wu (.int .u64 0) ?_;walk_nrm;refine wu (.bool false) ?_;walk_nrm;refine wv (.bool false) ?_;walk_nrm;refine wv (.bool false) ?_;walk_nrm;refine wz ?_;walk_nrm;refine wz ?_;walk_nrm;refine wv (.bool false) ?_;walk_nrm;refine we ?_;refine wf ?_;refine ws ?_;refine ri rfl (fun _=>f1w) ?_;refine yo rfl rfl Tryz.func28 rfl ?_;walk_nrm;exact ug hΦ
 · obtain ⟨S,hS⟩: ∃ S:Int,S=(v:Int)*K32:=⟨_,rfl⟩;have a1:S / 4294967296=(v:Int):=by rw [hS];show (v:Int)*4294967296 / _=_;omega
   have a2:0≤S∧S<9223372036854775808:=by rw [hS];show 0≤(v:Int)*4294967296∧(v:Int)*4294967296<_;omega
   have b1:bits .and .u64 S 2147483648=0:=by rw [hS,show (v:Int)*K32=(v:Int)*4294967296+((0:Nat):Int) from (Int.add_zero _).symm];exact Go.ConcN.st_flag v 0 fe fe
   have b2:bits .and .u64 S 2147483647=0:=by rw [hS,show (v:Int)*K32=(v:Int)*4294967296+((0:Nat):Int) from (Int.add_zero _).symm];exact Go.ConcN.st_waiters v 0 fe fe
   have a3:IntKind.u64.wrap (S+1)=S+1:=by rw [IntKind.wrap_u64];omega
   have hc0: ∀ t,((wgw b w ((v:Int)*K32) 0).at t).cell? (stC b)=some (.int .u64 S):=fun t=>hS▸((wo hs).at t).st;have hc1: ∀ t,((wgw b w ((v:Int)*K32) 0).at t).setCell (stC b) (.int .u64 (S+1))=(wgw b w ((v:Int)*K32+1) 0).at t:=fun t=>by rw [hS,fbn,fbn,fdy (w:=w.at t) hs]
   have hc2: ∀ v':Nat,v'≠v→ ¬ (v':Int)*K32=S:=fun v' h=>by rw [hS];show ¬ (v':Int)*4294967296=(v:Int)*4294967296;omega
   clear hS;refine ⟨_,fun t=>stepG_load_atomic (v:=S) rfl rfl gh rfl wgLib.f_loadU64 (x_loadU64_n Lw) (x_loadU64_b Lw) (x_loadU64_x Lw) .u64 (x_loadU64_f Lw) rfl (hc0 t),fun h=>absurd h fe,fun _=>cz hs hsh ?_⟩;walk_nrm;refine wv (.int .u64 S) ?_;walk_nrm;refine we ?_;refine ri rfl (fun _=>f1w) ?_;refine vw (t:=2) rfl rfl Tryz.func62 rfl ?_;walk_nrm;refine wv (.int .u64 S) ?_;walk_nrm;refine we ?_;refine wq ?_;refine wr ?_;simp only [szs];refine wv (.int .u64 S) ?_;walk_nrm;refine wu (.int .u64 (v:Int)) ?_;walk_nrm;refine wu (.int .i32 (v:Int)) ?_;walk_nrm;refine wv (.int .i32 (v:Int)) ?_;walk_nrm;refine we ?_;refine wq ?_;refine wr ?_;simp only [szs];refine wv (.int .u64 S) ?_;walk_nrm;refine wu (.int .u64 0) ?_;walk_nrm;refine wu (.int .u32 0) ?_;walk_nrm;refine wv (.int .u32 0) ?_;walk_nrm;refine we ?_;refine wq ?_;refine wq ?_;refine wr ?_;simp only [szs];refine wv (.int .i32 (v:Int)) ?_;walk_nrm;refine wu (.bool false) ?_;walk_nrm;refine we ?_;refine wf ?_;refine ws ?_;refine wq ?_;refine wr ?_;simp only [szs];refine wv (.pointer (some (stC b))) ?_;walk_nrm;refine wv (.pointer (some (stC b))) ?_;walk_nrm;refine wv (.pointer (some (stC b))) ?_;walk_nrm;refine wv (.int .u64 S) ?_;walk_nrm;refine wv (.int .u64 S) ?_;walk_nrm;refine wu (.int .u64 (S+1)) ?_;walk_nrm;refine i7 rfl rfl gh rfl Tryz.func66 fd rfl ?_;simp only [show Tryz.f66.ntmps=13 from rfl];walk_nrm;refine wq ?_;refine wr ?_;simp only [szs];refine wv (.bool false) ?_;walk_nrm;refine we ?_;refine wq ?_;refine wr ?_;simp only [szs];refine wv (.pointer (some (stC b))) ?_;walk_nrm;refine wv (.pointer (some (stC b))) ?_;walk_nrm;refine wv (.pointer (some (stC b))) ?_;walk_nrm;refine wv (.int .u64 S) ?_;walk_nrm;refine wv (.int .u64 (S+1)) ?_;walk_nrm;refine ug ⟨0,rfl,⟨_,fun t=>(stepG_cas_hit (v:=S) (n:=S+1) rfl rfl gh rfl wgLib.f_casU64 (x_casU64_n Lw) (x_casU64_b Lw) (x_casU64_x Lw) .u64 (x_casU64_f Lw) rfl rfl rfl (hc0 t) ((wo hs).at t).fst).trans (by rw [hc1 t]),cz hs hsh ?_⟩,fun v' hv' hv2=>⟨_,fun t=>stepG_cas_miss (v:=(v':Int)*K32) (old:=S) (n:=S+1) rfl rfl gh rfl wgLib.f_casU64 (x_casU64_n Lw) (x_casU64_b Lw) (x_casU64_x Lw) .u64 (x_casU64_f Lw) rfl rfl rfl ((wo hs).at t).st ((wo hs).at t).fst (hc2 v' hv'),rfl,?_⟩⟩
   · walk_nrm;refine wv (.bool true) ?_;walk_nrm;refine we ?_;refine ri rfl (fun _=>f1w) ?_;refine vw (t:=6) rfl rfl Tryz.func66 rfl ?_;walk_nrm;refine we ?_;refine wt ?_;refine wq ?_;refine wq ?_;refine wr ?_;simp only [szs];refine wv (.bool true) ?_;walk_nrm;refine wv (.int .u32 0) ?_;walk_nrm;refine wu (.bool true) ?_;walk_nrm;refine wv (.bool true) ?_;walk_nrm;refine we ?_;refine wt ?_;refine wr ?_;simp only [szs];refine wv (.pointer (some (stC b))) ?_;walk_nrm;refine wv (.pointer (some (stC b))) ?_;walk_nrm;refine wv (.pointer (some (smC b))) ?_;walk_nrm;refine faq (p:=smC b) rfl rfl Tryz.underlying136 wgLib.room_tU32 (fun u hu=> ?_) rfl rfl gh ?_
     · obtain ⟨x,y,h⟩:=hu;exact ⟨_,h.sm⟩
     walk_nrm;refine fe4 ⟨.mark (.write (smC b)),false,true⟩ (.inr rfl) rfl (fun u _=>f4t .write fi rfl rfl gh rfl wgLib.f_raceWrite (x_raceWrite_n Lw) (x_raceWrite_b Lw) (x_raceWrite_x Lw) (x_raceWrite_f Lw) (ad:=smC b) jh) ?_;walk_nrm;refine we ?_;refine wq ?_;refine wr ?_;simp only [szs];refine wv (.bool false) ?_;walk_nrm;refine we ?_;refine wq ?_;refine wq ?_;refine wr ?_;simp only [szs];refine wv (.int .u64 S) ?_;walk_nrm;refine wu (.int .u64 0) ?_;walk_nrm;refine wu (.bool false) ?_;walk_nrm;refine wv (.bool false) ?_;walk_nrm;refine wz ?_;walk_nrm;refine wv (.bool false) ?_;walk_nrm;refine we ?_;refine wf ?_;refine ws ?_;refine wq ?_;refine wr ?_;simp only [szs];refine wv (.pointer (some (stC b))) ?_;walk_nrm;refine wv (.pointer (some (stC b))) ?_;walk_nrm;refine wv (.pointer (some (smC b))) ?_;walk_nrm;refine wv (.bool false) ?_;walk_nrm;refine ug ⟨0,rfl,rfl,fun x t=>stepG_semacquire_wait rfl rfl rfl wgLib.f_semacquire (x_semacquire_n Lw) (x_semacquire_b Lw) (x_semacquire_x Lw) (x_semacquire_f Lw) jh ((wo hs).at t).sm,_,fun t=>(stepG_semacquire (n:=1) (ad:=smC b) rfl rfl gh rfl wgLib.f_semacquire (x_semacquire_n Lw) (x_semacquire_b Lw) (x_semacquire_x Lw) (x_semacquire_f Lw) jh ((wo hs).at t).sm fu ((wo hs).at t).fsm).trans (by rw [fbn,fbn,fiy (w:=w.at t) hs,show (1:Int)-1=0 from rfl]),cz hs hsh ?_⟩;walk_nrm;refine we ?_;refine wq ?_;refine wr ?_;simp only [szs];refine wv (.pointer (some (stC b))) ?_;walk_nrm;refine wv (.pointer (some (stC b))) ?_;walk_nrm;refine wv (.pointer (some (stC b))) ?_;walk_nrm;refine i7 rfl rfl gh rfl Tryz.func62 fd rfl ?_;simp only [show Tryz.f62.ntmps=7 from rfl];walk_nrm;refine wq ?_;refine wr ?_;simp only [szs];refine wv (.int .u64 0) ?_;walk_nrm;refine we ?_;refine wq ?_;refine wr ?_;simp only [szs];refine wv (.pointer (some (stC b))) ?_;walk_nrm;refine wv (.pointer (some (stC b))) ?_;walk_nrm;refine wv (.pointer (some (stC b))) ?_;walk_nrm;refine ug ⟨0,rfl,_,fun t=>stepG_load_atomic (v:=0) rfl rfl gh rfl wgLib.f_loadU64 (x_loadU64_n Lw) (x_loadU64_b Lw) (x_loadU64_x Lw) .u64 (x_loadU64_f Lw) rfl ((wo hs).at t).st,cz hs hsh ?_⟩;walk_nrm;refine wv (.int .u64 0) ?_;walk_nrm;refine we ?_;refine ri rfl (fun _=>f1w) ?_;refine vw (t:=2) rfl rfl Tryz.func62 rfl ?_;walk_nrm;refine wv (.bool false) ?_;walk_nrm;refine wv (.bool false) ?_;walk_nrm;refine we ?_;refine wq ?_;refine wt ?_;refine wq ?_;refine wr ?_;simp only [szs];refine i8 .enable fi (.inl rfl) rfl rfl gh rfl wgLib.f_enable (x_enable_n Lw) (x_enable_b Lw) (x_enable_x Lw) (x_enable_f Lw) ?_;walk_nrm;refine we ?_;refine wr ?_;simp only [szs];refine wv (.pointer (some (stC b))) ?_;walk_nrm;refine faq (p:=stC b) rfl rfl Tryz.underlying128 wgLib.room_tWg (fun u hu=> ?_) rfl rfl gh ?_
     · obtain ⟨x,y,h⟩:=hu;exact ⟨_,h.st⟩
     walk_nrm;refine ug ⟨0,rfl,by first | rfl | simp [deafBehind],_,fun x y t=>f4t .acquire fi rfl rfl gh rfl wgLib.f_acquire (x_acquire_n Lw) (x_acquire_b Lw) (x_acquire_x Lw) (x_acquire_f Lw) (ad:=stC b) jh,cz hs hsh ?_⟩;walk_nrm;refine we ?_;refine wq ?_;refine wq ?_;refine wr ?_;simp only [szs];refine wv (.bool false) ?_;walk_nrm;refine we ?_;refine wf ?_;refine ws ?_;refine ri rfl (fun _=>f1w) ?_;refine yo rfl rfl Tryz.func28 rfl ?_;walk_nrm;exact ug hΦ
   · walk_nrm;refine wv (.bool false) ?_;walk_nrm;refine we ?_;refine ri rfl (fun _=>f1w) ?_;refine vw (t:=6) rfl rfl Tryz.func66 rfl ?_;walk_nrm;refine we ?_;refine wf ?_;refine ws ?_;refine ri rfl (fun _=>stepG_inBlock) ?_;refine ri rfl (fun _=>stepG_inLoop) ?_;exact ug ⟨rfl,_,rfl,rfl,rfl⟩
def fob {T:Array Value} (hs:HasS b w) (hsh:Shun (.cell (stC b))∧Shun (.cell (smC b))) (hT:T.size=84) (h0:T[0]? =some (.pointer (some (stC b))))
    (hΦ: ∃ n,OM Tryz.prog b Shun St' (fun _=>none) Φ n (G (b₀.at (a₀.put ((ops₀[i₀]?).bind (·.dst)) (.tuple #[])) (.inRegion ops₀ rest₀::k₀)) cs) w 0) {c:Code} (hc:Tryz.f28.body=some c):
    (∃ n,OM Tryz.prog b Shun St S (AtW1 Tryz.prog b Shun St S (fe2 Tryz.prog b Shun St' Φ) (fu5 b w (b₀.at a₀ (.inRegion ops₀ (i₀::rest₀)::k₀)::cs))) n (G ((base 28).at ⟨T,[]⟩ [.code c]) (b₀.at a₀ (.inRegion ops₀ (i₀::rest₀)::k₀)::cs)) w 0)∧
    ∀ g w' d,fu5 b w (b₀.at a₀ (.inRegion ops₀ (i₀::rest₀)::k₀)::cs) g w' d→ ∃ n,OM Tryz.prog b Shun St S (AtW1 Tryz.prog b Shun St S (fe2 Tryz.prog b Shun St' Φ) (fu5 b w (b₀.at a₀ (.inRegion ops₀ (i₀::rest₀)::k₀)::cs))) n g w' d:=by
 refine ⟨?_,?_⟩
 · refine cz hs hsh ?_;obtain ⟨v0,v1,v2,v3,v4,v5,v6,v7,v8,v9,v10,v11,v12,v13,v14,v15,v16,v17,v18,v19,v20,v21,v22,v23,v24,v25,v26,v27,v28,v29,v30,v31,v32,v33,v34,v35,v36,v37,v38,v39,v40,v41,v42,v43,v44,v45,v46,v47,v48,v49,v50,v51,v52,v53,v54,v55,v56,v57,v58,v59,v60,v61,v62,v63,v64,v65,v66,v67,v68,v69,v70,v71,v72,v73,v74,v75,v76,v77,v78,v79,v80,v81,v82,v83,rfl⟩:=array84 T hT;obtain rfl:_=c:=fy7 hc;simp only [fy2,fx7,f03] at h0;subst h0;have hd:deafBehind 0 #[⟨.mark .disable,false,true⟩]=1:=by decide
   refine wq ?_;refine wt ?_;refine wr ?_;simp only [szs];refine i8 .disable fi (.inl rfl) rfl rfl gh rfl wgLib.f_disable (x_disable_n Lw) (x_disable_b Lw) (x_disable_x Lw) (x_disable_f Lw) ?_;walk_nrm;refine we ?_;refine ri rfl (fun _=>f5i) ?_;refine ri rfl (fun _=>stepG_loop) ?_;rw [hd];exact ug (ffv hs hsh hΦ ⟨_,rfl,rfl,rfl⟩)
 · rintro g w' d ⟨rfl,h⟩;exact cz hs hsh (h.mono fun g d ⟨h1,h2⟩=>ug (by subst h1;exact ffv hs hsh hΦ h2))
end
section
variable {P:Program} {main:Bool} {K:World→Prop} {E:Event→Prop} {Φ:Goroutine→Nat→Prop} {d:Nat} {b:Frame} {a:Act} {k:List Item} {cs:List Frame} {ops:Array Oper} {i:Nat} {rest:List Nat} {o:Oper}
def fav (v:Value) (es:Array Event) (ho:ops[i]? =some o) (hw:Region.wanted o (yielded ops a.tmps)=true) (hk:b.kind≠ .early) (hr: ∀ u,K u→(execOp a.eval o).run P u= .ok (.value v) u) (he: ∀ u,K u→(execOp a.eval o).events P u #[]=es) (hE: ∀ e∈es,E e∧vl e)
    (hq:WKE P main K E Φ (G (b.at (a.put o.dst v) (.inRegion ops rest::k)) cs) d):WKE P main K E Φ (G (b.at a (.inRegion ops (i::rest)::k)) cs) d:=by
 obtain ⟨n,hq⟩:=hq;refine ⟨n+1,.inr ⟨rfl,G (b.at (a.put o.dst v) (.inRegion ops rest::k)) cs,seen P b.fn es,fun e he=>(hE e (f3e he)).1,fun u hu=> ?_,?_⟩⟩
 · rw [stepG_value ho hw hk (hr u hu)];unfold listed;rw [he u hu]
 · rw [dj (fun e he=>(hE e (f3e he)).2) d];exact hq
def faa {fn:Func} {c:Frame} {todo:List Item} (hk:b.kind= .normal∨b.kind= .deferred) (hd:a.defers=[]) (hf:P.funcs[b.fn]? =some fn) {x:Value} (hr:ResultsC P fn a.tmps x) (hq:WKE P main K E Φ (G (ur b.kind x c) cs) d):
    WKE P main K E Φ (G { b.at a todo with mode:= .returning } (c::cs)) d:=by
 refine ri rfl (fun w=> ?_) hq;obtain ⟨h1,h2⟩:=hr w
 have hT:(results fn a.tmps).runT P w #[]=(.ok x w,#[]):=by
    refine f2v ?_ h2;rw [f0d];exact h1
 have e1:stepG P main (G { b.at a todo with mode:= .returning } (c::cs)) w=GStep.after (seen P b.fn #[]) (doReturn P main { b.at a todo with mode:= .returning } (c::cs) none x w):=by
    simp [-Sem.runT_eq,G,stepG,unwind,Frame.at,hd,hf,hT]
 rw [e1,wn (by simpa [Frame.at] using hk)];have:seen P b.fn #[]= #[]:=seen_none P b.fn;rw [this];simp only [c9,ur,Frame.at,LRes.plug,GStep.after,f1t];rfl
end
section
variable {P:Program} {b:Nat} {Shun:Loc→Prop} {St:Nat→Loc→Prop} {S:Nat→Option SeatD} {w w':World} {Ψ:Goroutine→World→Nat→Prop} {g g':Goroutine} {d:Nat} {E:Event→Prop}
def KW (b:Nat) (w u:World):Prop:= ∃ x y t,u=(wgw b w x y).at t
def fl9 (hE: ∀ e,E e→EvM Shun St w.heap.size e) (h:WKE P true (KW b w) E (fun g d=> ∃ n,OM P b Shun St S Ψ n g w d) g d): ∃ n,OM P b Shun St S Ψ n g w d:=by
 obtain ⟨n,h⟩:=h
 induction n generalizing g d with
 | zero=>exact h
 | succ n ih=>
   rcases h with h | ⟨h1,g',es,h2,h3,h4⟩
   · exact h
   · obtain ⟨m,hm⟩:=ih h4;exact ⟨m+1,.inr ⟨h1,g',w,es,fun x y t=>h3 _ ⟨x,y,t,rfl⟩,w9 w,fun e he=>hE e (h2 e he),hm⟩⟩
def om_step {es:Array Event} (hr:g.status= .running) (hst: ∀ x y t,stepG P true g ((wgw b w x y).at t)= .go g' ((wgw b w' x y).at t) es) (hw:StepM b S w w') (hes: ∀ e∈es,EvM Shun St w'.heap.size e) (h: ∃ n,OM P b Shun St S Ψ n g' w' (deafBehind d es)): ∃ n,OM P b Shun St S Ψ n g w d:=by
 obtain ⟨n,h⟩:=h;exact ⟨n+1,.inr ⟨hr,g',w',es,hst,hw,hes,h⟩⟩
def fu6 {p:Addr} {x y:Int} (h:p.block≠b∨(p.off≠6∧p.off≠7)) (hv:p.spot=none):(wgw b w x y).cell? p=w.cell? p:=by
 by_cases e:p.block=b
 · rcases h with h | ⟨h6,h7⟩
   · exact absurd e h
   · unfold World.cell?;rw [e];unfold wgw;simp only [fy6,f0e];cases hb:w.heap[b]? with
     | none=>rfl
     | some o=>cases o <;>simp [hv,fy1,f3w h6,f3w h7]
 · unfold World.cell?;rw [yz e]
def foc {p:Addr} {x y:Int}:(wgw b w x y).frozen? p=w.frozen? p:=by
 unfold World.frozen?;by_cases e:p.block=b
 · rw [e];unfold wgw;simp only [fy6,f0e];cases hb:w.heap[b]? with
   | none=>rfl
   | some o=>cases o <;>simp
 · rw [yz e]
def fla {p:Addr} {x y:Int} {v:Value} (h:p.block≠b∨(p.off≠6∧p.off≠7)) (hv:p.spot=none):(wgw b w x y).setCell p v=wgw b (w.setCell p v) x y:=by
 unfold World.setCell wgw;simp only [f5a,f2i,true_and];apply f0v;intro i;simp only [fy6];by_cases e:b=i
 · subst e;by_cases e':p.block=b
   · rcases h with h | ⟨h6,h7⟩
     · exact absurd e' h
     · simp only [e',f0e];cases hb:w.heap[b]? with
       | none=>rfl
       | some o=>
         cases o <;>simp [hv];apply f0v;intro j;simp only [fy1,f00];by_cases e1:7=j
         · subst e1;simp [h7]
         · by_cases e2:6=j
           · subst e2;simp [h6]
           · simp [e1,e2]
   · simp only [f0e,fx9 e']
 · simp only [fx9 e]
end
section
variable {b:Nat} {Shun:Loc→Prop} {St:Nat→Loc→Prop} {S:Nat→Option SeatD} {w w':World} {Ψ:Goroutine→World→Nat→Prop} {d:Nat} {c:Frame} {cs:List Frame}
def EvU (p:Addr) (e:Event):Prop:=e.mute=true∨e=⟨.cell p,false,false⟩∨e=⟨.mark (.releaseMerge p),false,true⟩
def fu7 {n:Nat} {e:Event} (he:e.mute=true):EvM Shun St n e:=by
 obtain ⟨l,wr,sy⟩:=e;cases l with
 | mark m=>
   cases m with
   | disable=>exact ⟨fun x hx=>jn,fun a h=>je,by cases wr <;>cases sy <;>trivial⟩
   | enable=>exact ⟨fun x hx=>jn,fun a h=>je,by cases wr <;>cases sy <;>trivial⟩
   | _=>simp [Event.mute] at he
 | _=>simp [Event.mute] at he
def fu8 {n:Nat} {p:Addr} (hst: ∀ g,¬ St g (.cell p)) (hns: ¬ Shun (.cell p)) (hp:p.block<n) (wr sy:Bool):EvM Shun St n ⟨.cell p,wr,sy⟩:=by
 refine ⟨fun x hx=> .inr ?_,fun a h=>je,by cases wr <;>cases sy <;>exact hp⟩;cases wr <;>cases sy <;>(simp [MemAct.ofEvent,MemAct.touch?] at hx;subst hx;exact ⟨fun g h=>absurd h (hst g),hns⟩)
def fw2 {n:Nat} {p:Addr} (hns: ¬ Shun (.cell p)) (hp:p.block<n) (sy:Bool):EvM Shun St n ⟨.cell p,false,sy⟩:=by
 refine ⟨fun x hx=> .inr ?_,fun a h=>je,by cases sy <;>exact hp⟩;cases sy <;>(simp [MemAct.ofEvent,MemAct.touch?] at hx;subst hx;exact ⟨fun g h=>rfl,hns⟩)
def fr3 {n:Nat} {p:Addr} (hns: ¬ Shun (.cell p)) (hp:p.block<n) {e:Event} (h:EvU p e):EvM Shun St n e:=by
 rcases h with h | rfl | rfl
 · exact fu7 h
 · exact fw2 hns hp false
 · exact ⟨fun x hx=>pl,fun a h=>je,hp⟩
def fjc {p:Addr} {v:Value} (hp:p.spot=none) (h:HasS b w):HasS b (w.setCell p v):=by
 obtain ⟨c,e,h,hc⟩:=h;by_cases e':p.block=b
 · exact ⟨c.setIfInBounds p.off v,e,by simp [World.setCell,fy6,e',h,hp],by simpa using hc⟩
 · exact ⟨c,e,by simp [World.setCell,fy6,e',h],hc⟩
def fh2 {p:Addr} {v:Value} (hp:p.spot=none) (hS: ∀ i s,S i=some s→s.c≠p.block∧s.D p.block=none):StepM b S w (w.setCell p v):=by
 refine ⟨by simp [World.setCell],fun i s h=>⟨?_,fun c o hc=> ?_⟩,fjc hp⟩
 · have:p.block≠s.c:=fun e=>(hS i s h).1 e.symm;simp [World.setCell,fy6,this]
 · have:p.block≠c:=by rintro rfl;rw [(hS i s h).2] at hc;cases hc
   simp [World.setCell,fy6,this]
def faw {p:Addr} {u:World} (hp:p.block≠b∨(p.off≠6∧p.off≠7)) (hv:p.spot=none) (hu:KW b w u):u.cell? p=w.cell? p:=by
 obtain ⟨x,y,t,rfl⟩:=hu;exact fu6 hp hv
def fjd {u:World} {p:Addr} {v:Value} (h:u.cell? p=some v):p.spot=none:=by
 unfold World.cell? at h;split at h
 · split at h
   · cases h
   · rename_i h1;simpa using h1
 · cases h
def fr4 {p:Addr} {args:Array Value} {kind:CallKind} (hk:kind= .normal∨kind= .deferred) (hp:args.getD 0 undef= .pointer (some p)) (hpb:p.block≠b∨(p.off≠6∧p.off≠7)) (hc:w.cell? p=some (.int .i32 1)) (hz:w.frozen? p=false)
    (hst: ∀ g,¬ St g (.cell p)) (hns: ¬ Shun (.cell p)) (hS: ∀ i s,S i=some s→s.c≠p.block∧s.D p.block=none)
    (h: ∃ n,OM Tryz.prog b Shun St S Ψ n (G (ur kind (.tuple #[]) c) cs) (w.setCell p (.int .i32 0)) d): ∃ n,OM Tryz.prog b Shun St S Ψ n (G (Frame.enter Tryz.prog 58 args kind) (c::cs)) w d:=by
 have hk':kind≠ .early:=by rcases hk with rfl | rfl <;>simp
 have hlt:p.block<w.heap.size:=zq hc;have hv:p.spot=none:=fjd hc;rw [enter_at Tryz.func58 rfl];obtain ⟨L,hlen,hL,h0⟩:=fa5 args Tryz.f58.ntmps;rw [hL];have hlen:21≤L.length:=hlen;rcases L with _ | ⟨x0,_ | ⟨x1,_ | ⟨x2,_ | ⟨x3,_ | ⟨x4,_ | ⟨x5,_ | ⟨x6,_ | ⟨x7,_ | ⟨x8,_ | ⟨x9,_ | ⟨x10,_ | ⟨x11,_ | ⟨x12,_ | ⟨x13,_ | ⟨x14,_ | ⟨x15,_ | ⟨x16,_ | ⟨x17,_ | ⟨x18,_ | ⟨x19,_ | ⟨x20,tl⟩⟩⟩⟩⟩⟩⟩⟩⟩⟩⟩⟩⟩⟩⟩⟩⟩⟩⟩⟩⟩ <;>first | (simp at hlen;done) | skip
 have hx0:=(h0 0).trans hp;simp only [f1y] at hx0;subst hx0;have hcu: ∀ u,KW b w u→u.cell? p=some (.int .i32 1):=fun u hu=>(faw hpb hv hu).trans hc;refine fl9 (E:=EvU p) (fun e he=>fr3 hns hlt he) ?_;refine ri rfl (fun _=>f4d) (ri rfl (fun _=>stepG_cond (t:=true) rfl) (ri rfl (fun _=>f4d) (ri rfl (fun _=>f2o) ?_)));refine ww (.pointer (some p)) rfl rfl hk' (fun _ _=>by go_simp) (fun _ _=>by simp [go_sem]) ?_;refine ww (.pointer (some p)) rfl rfl hk' (fun _ _=>by go_simp) (fun _ _=>by simp [go_sem]) ?_;refine ww (.pointer (some p)) rfl rfl hk' (fun _ _=>by go_simp) (fun _ _=>by simp [go_sem]) ?_;refine fav (.int .i32 1) #[⟨.cell p,false,false⟩] rfl rfl hk' (fun u hu=>by have:=hcu u hu;go_simp) (fun u hu=>by have:=hcu u hu;simp [go_sem,this]) (fun e he=>by simp at he;subst he;exact ⟨.inr (.inl rfl),by simp [vl]⟩) ?_;walk_nrm;refine ri rfl (fun _=>f1o) (ri rfl (fun _=>f4d) (ri rfl (fun _=>f2o) ?_));refine ww (.pointer (some p)) rfl rfl hk' (fun _ _=>by go_simp) (fun _ _=>by simp [go_sem]) ?_;refine faq (p:=p) rfl rfl Tryz.underlying172 Tryz.room62 (fun u hu=>⟨_,hcu u hu⟩) rfl rfl hk' ?_;refine fe4 ⟨.mark (.releaseMerge p),false,true⟩ (.inr (.inr rfl)) rfl (fun u _=>f4t .releaseMerge fi rfl rfl hk' rfl Tryz.func97 fd fd fd fd (by simp [Act.put,Act.eval])) ?_;walk_nrm;refine ri rfl (fun _=>f1o) (ri rfl (fun _=>f2o) ?_);refine i8 .disable fi (.inl rfl) rfl rfl hk' rfl Tryz.func61 fd fd fd fd ?_;walk_nrm;refine ri rfl (fun _=>f1o) (ri rfl (fun _=>f4d) (ri rfl (fun _=>f2o) ?_));refine ww (.pointer (some p)) rfl rfl hk' (fun _ _=>by go_simp) (fun _ _=>by simp [go_sem]) ?_;refine ww (.pointer (some p)) rfl rfl hk' (fun _ _=>by go_simp) (fun _ _=>by simp [go_sem]) ?_;refine ww (.pointer (some p)) rfl rfl hk' (fun _ _=>by go_simp) (fun _ _=>by simp [go_sem]) ?_;have e0:IntKind.i32.wrap (1+ -1)=0:=by decide
 have hzx: ∀ x y t,((wgw b w x y).at t).frozen? p=false:=fun x y t=>by
    have:((wgw b w x y).at t).frozen? p=(wgw b w x y).frozen? p:=rfl;rw [this,foc];exact hz
 refine ug (om_step (w':=w.setCell p (.int .i32 0)) (es:= #[⟨.cell p,false,true⟩,⟨.cell p,true,true⟩]) rfl (fun x y t=>(stepG_add_atomic (v:=1) (d:= -1) rfl rfl hk' rfl Tryz.func98 fd fd fd .i32 fd rfl rfl (hcu _ ⟨x,y,t,rfl⟩) (hzx x y t)).trans (by
  rw [e0,fbn,fbn,fla (w:=w.at t) hpb hv];rfl))
    (fh2 hv hS) (fun e he=>by simp at he;rcases he with rfl | rfl <;>exact fu8 hst hns jy _ _) ?_)
 walk_nrm;refine fl9 (E:=EvU p) (fun e he=>fr3 hns jy he) ?_;refine ww (.int .i32 0) rfl rfl hk' (fun _ _=>by go_simp) (fun _ _=>by simp [go_sem]) ?_;walk_nrm;refine ri rfl (fun _=>f1o) (ri rfl (fun _=>f4d) (ri rfl (fun _=>f4d) (ri rfl (fun _=>f2o) ?_)));refine ww (.int .i32 0) rfl rfl hk' (fun _ _=>by go_simp) (fun _ _=>by simp [go_sem]) ?_;refine ww (.bool false) rfl rfl hk' (fun _ _=>by go_simp) (fun _ _=>by simp [go_sem]) ?_;walk_nrm;refine ri rfl (fun _=>f1o) (ri rfl (fun _=>stepG_cond (t:=false) rfl) (ri rfl (fun _=>stepG_skip) (ri rfl (fun _=>f2o) ?_)));refine i8 .enable fi (.inl rfl) rfl rfl hk' rfl Tryz.func63 fd fd fd fd ?_;walk_nrm;refine ri rfl (fun _=>f1o) (ri rfl (fun _=>f4e) (faa hk rfl Tryz.func58 (f2z Tryz.results58 _) (ug ?_)));exact h
end
end Go.Proofs.YtelecjnabeokeaaGreatDoor
namespace Go.Proofs.YtelecjnabeokeaaGreatDoor
open Go Go.Conc
open Go.ConcN (sumTo upd sumTo_upd upd_ne upd_same RelBy le_sumTo)
def fax (b:Nat) (Shun:Loc→Prop):Loc→Prop:=fun l=>Shun l∨l= .cell (stC b)∨l= .cell (smC b)
open Classical in
noncomputable def RB (S:Nat→Option SeatD):Nat→Nat:=fun i=>if S i=none then (if i=0 then 0 else 1) else 8
section
variable {P:Program} {b:Nat} {Shun:Loc→Prop} {St:Nat→Loc→Prop} {S:Nat→Option SeatD} {q:Nat→Nat} {a:Goroutine} {T:Trace} {gs:Array Goroutine} {w:World}
def RB_le (S:Nat→Option SeatD) (i:Nat):RB S i≤1∨RB S i=8:=by
 unfold RB;split
 · split <;>simp
 · simp
def fr5 (C:Hold P St Shun u5 S 0 a T gs w q) (hs:HasS b w) (hap: ∀ i s,S i=some s→s.D b=none∧s.c≠b) (hst: ∀ g,¬ St g (.cell (stC b))∧ ¬ St g (.cell (smC b)))
    (hafter: ∀ i s,S i=some s→ ∀ g2,s.home g2→ ∃ m,WB P (WgLv b) (AtRel P b) m (Go.Conc.served g2 (recvd s.ok s.z false)) 0):
    Bye P b (fax b Shun) St (fun i=>S i≠none) T.size S (RB S) q a T gs w:=by
 refine ⟨fun i g hi hg=> ?_,C.here,?_,C.crew.rows,C.crew.keeps,hap,C.crew.inj,C.crew.low,C.crew.above,hs,⟨.inr (.inl rfl),.inr (.inr rfl)⟩,fun k hk e=> ?_,fx8 _,hafter,C.none,?_⟩
 · have hid:=C.crew.idle i g hi hg;cases e:S i with
   | none=>
     rw [e] at hid;have:RB S i=1:=by unfold RB;rw [f02 e,fx9 hi]
     rw [this];exact .out (fun h=>absurd e h) hid.2
   | some s=>
     rw [e] at hid;have:RB S i=8:=by unfold RB;rw [fx9 pb]
     rw [this];obtain ⟨k,hk⟩:=C.crew.chans i s e;have hi0:(i==0)=false:=by simp [hi]
     have hid:Sits P (i==0) (Keeps s.D) (St i) s.B s.seat (q i) g:=hid;rw [hi0] at hid;exact .sit hid hk (C.crew.hear i s e)
 · refine ⟨C.past.clean,fun i t ht hm=> ?_,C.past.wrote,fun g l hs=> ?_,C.past.hears,C.past.seen⟩
   · rcases C.past.known i t ht hm with h | h | ⟨h1,h2⟩
     · exact .inl h
     · exact .inr (.inl h)
     · exact .inr (.inr ⟨.inl h1,h2⟩)
   · rintro (h | rfl | rfl)
     · exact C.past.apart g l hs h
     · exact (hst g).1 hs
     · exact (hst g).2 hs
 · have:=lt_of_act? e;omega
 · unfold RB;rw [f02 C.none];simp
def VC_row {n j0 m:Nat} (h: ∀ i,i<n→(S i≠none↔j0≤i∧i<j0+m)) (hn:j0+m≤n):VC n (RB S)=m:=by
 have hc: ∀ i,i<n→cntR (RB S i)=if j0≤i∧i<j0+m then 1 else 0:=fun i hi=>by
    unfold cntR RB;by_cases e:S i=none
    · rw [f02 e,fx9 (fun hh=>(h i hi).2 hh e)];by_cases e0:i=0
      · rw [f02 e0];simp
      · rw [fx9 e0];simp
    · rw [fx9 e,f02 ((h i hi).1 e)];simp
 have key: ∀ k,k≤n→sumTo k (fun i=>cntR (RB S i))=min (k-j0) m:=by
    intro k
    induction k with
    | zero=>intro _;simp [sumTo]
    | succ k ih=>
      intro hk;show sumTo k (fun i=>cntR (RB S i))+cntR (RB S k)=_;rw [ih fe,hc k fe];split <;>omega
 show sumTo n (fun i=>cntR (RB S i))=m;rw [key n (fx8 _)];omega
end
end Go.Proofs.YtelecjnabeokeaaGreatDoor
namespace Go.Proofs.YtelecjnabeokeaaGreatDoor
open Go Go.Conc Go.RowKit
noncomputable def ffb:Code:=match Tryz.f12.body with | some (.seq _ (.seq _ (.seq _ (.seq _ c))))=>c | _=> .skip
section
variable {main:Bool} {H:Hide} {Shun:Loc→Prop} {Φ:Goroutine→World→Nat→Prop} {w w1:World} {n:Nat} {X:Frame} {cs:List Frame} {k:List Item} {a:Act} {ops:Array Oper} {i:Nat} {rest:List Nat} {o:Oper}
def flb {fr:Frame} {f:FuncId} {fn:Func} {c:Code} {args:Array Operand} {ats:Array TypeId} (ho:ops[i]? =some o) (hw:Region.wanted o (yielded ops a.tmps)=true) (hk:fr.kind≠ .early) (hop:o.op= .call { callee:= .value (.func f),args:=args,argTypes:=ats })
    (hf:Tryz.prog.funcs[f]? =some fn) (hname:(fn.name== "runtime.NumGoroutine")=false) (hb:fn.body=some c) (h:OG Tryz.prog main H Shun Φ (G (Frame.enter Tryz.prog f (args.map a.eval) .normal) (fr.at a (.inRegion ops (i::rest)::k)::cs)) w n):
    OG Tryz.prog main H Shun Φ (G (fr.at a (.inRegion ops (i::rest)::k)) cs) w n:=io rfl (fun u=>by
 have hb':fn.body.isNone=false:=by rw [hb];rfl
 rw [stepG_enter ho hw hk (run_call_body hop hf hname hb')];have:listed Tryz.prog fr.fn a o u= #[]:=by unfold listed;rw [events_call_body hop hf hname hb'];exact seen_none Tryz.prog _
 rw [this]) h
def fu9 {b:Nat} {c:Array Value} {e:TypeId} (hH:H b=none) (hb:w.heap[b]? =some (.cells c e (0,0))) (h0:c[0]? =some (.int .i32 0)) (h5:c[5]? =some (.bool false))
    (h: ∀ T:Array Value,T.size=43→T[0]? =some (.pointer (some ⟨b,0,none⟩))→OG Tryz.prog main H Shun Φ (G ((base 12).at ⟨T,[dcall 26 #[.pointer (some ⟨b,0,none⟩)]]⟩ [.code ffb]) (X::cs)) ((w.setCell ⟨b,0,none⟩ (.int .i32 1)).setCell ⟨b,5,none⟩ (.bool true)) n):
    OG Tryz.prog main H Shun Φ (G (Frame.enter Tryz.prog 12 #[.pointer (some ⟨b,0,none⟩)] .normal) (X::cs)) w n:=by
 have hlt:b<w.heap.size:=(fx5.1 hb).1;have hc0:w.cell? ⟨b,0,none⟩=some (.int .i32 0):=by simp [World.cell?,hb,h0]
 have hz: ∀ o,w.frozen? ⟨b,o,none⟩=false:=fun o=>by simp [World.frozen?,hb]
 rw [enter_at Tryz.func12 rfl];simp only [show Tryz.f12.ntmps=43 from rfl];walk_nrm;refine uv (rm ?_);simp only [szs];refine ov (.pointer (some ⟨b,0,none⟩)) w ?_;walk_nrm;refine ov (.pointer (some ⟨b,0,none⟩)) w ?_;walk_nrm;refine ov (.pointer (some ⟨b,0,none⟩)) w ?_;walk_nrm;refine flb rfl rfl gh rfl Tryz.func25 fd rfl ?_;rw [enter_at Tryz.func25 rfl];simp only [show Tryz.f25.ntmps=6 from rfl];walk_nrm;refine rm ?_;simp only [szs];refine ov (.pointer (some ⟨b,0,none⟩)) w ?_;walk_nrm;refine ov (.pointer (some ⟨b,0,none⟩)) w ?_;walk_nrm;refine ov (.pointer (some ⟨b,0,none⟩)) w ?_;walk_nrm;refine flb rfl rfl gh rfl Tryz.func57 fd rfl ?_;refine fqr (p:=⟨b,0,none⟩) (.inl rfl) jh hH hc0 (hz 0) ?_;obtain ⟨w2,hw2⟩: ∃ w2,w2=w.setCell ⟨b,0,none⟩ (.int .i32 1):=⟨_,rfl⟩;rw [← hw2] at h ⊢;have hb2:w2.heap[b]? =some (.cells (c.setIfInBounds 0 (.int .i32 1)) e (0,0)):=by rw [hw2];simp [World.setCell,fy6,hb]
 have hlt2:b<w2.heap.size:=(fx5.1 hb2).1;have hc5:w2.cell? ⟨b,5,none⟩=some (.bool false):=by simp [World.cell?,hb2,h5,fy1]
 have hz2: ∀ o,w2.frozen? ⟨b,o,none⟩=false:=fun o=>by simp [World.frozen?,hb2]
 clear hw2;simp only [ur,Touch.on,f0e,f0i];walk_nrm;refine u7 (fiu (ze (.inl rfl) rfl Tryz.func25 (f2z Tryz.results25 _) ?_));simp only [ur,Touch.on,f0e,f0i];walk_nrm;refine u7 (uv (rm ?_));simp only [szs];refine ov (.pointer (some ⟨b,0,none⟩)) w2 ?_;walk_nrm;refine ov (.pointer (some ⟨b,0,none⟩)) w2 ?_;walk_nrm;refine ov (.pointer (some ⟨b,0,none⟩)) w2 ?_;walk_nrm;refine io rfl (fun _=>stepG_defer rfl rfl gh rfl) ?_;walk_nrm;refine u7 (uv (uv (rm ?_)));simp only [szs];refine ov (.pointer (some ⟨b,0,none⟩)) w2 ?_;walk_nrm;refine ov (.pointer (some ⟨b,0,none⟩)) w2 ?_;walk_nrm;refine ov (.pointer (some ⟨b,5,none⟩)) w2 ?_;walk_nrm;have hcd: ∀ d,(w2.at d).cell? ⟨b,5,none⟩=some (.bool false):=fun d=>hc5;refine qz (x:= .bool false) (w1:=w2) rfl rfl gh (fun d=>by have:=hcd d;go_simp) (fx8 _) (fun _ _=>rfl) (fun d e he=>by simp [go_sem,hcd] at he;subst he;exact ⟨xh hH hlt2 _ _,by simp [vl]⟩) ?_;walk_nrm;refine u7 (xl (t:=false) rfl (oa (uv (rm ?_))));simp only [szs];refine ov (.pointer (some ⟨b,0,none⟩)) w2 ?_;walk_nrm;refine ov (.pointer (some ⟨b,0,none⟩)) w2 ?_;walk_nrm;refine ov (.pointer (some ⟨b,5,none⟩)) w2 ?_;walk_nrm;obtain ⟨s1,s2⟩:=ai (w:=w2) (p:=⟨b,5,none⟩) hH (.bool true);have hzd: ∀ d,(w2.at d).frozen? ⟨b,5,none⟩=false:=fun d=>hz2 5
 refine fl5 (w1:=w2.setCell ⟨b,5,none⟩ (.bool true)) rfl rfl gh (fun d=>by have:=hcd d;have:=hzd d;clear h;go_simp;rfl) s1 s2 (fun d e he=>by
    simp [go_sem,hzd,hcd] at he;rw [events_store Tryz.prog (w2.at d) #[] ⟨b,5,none⟩ (.bool true) .plain rfl] at he;simp [storedEv,hzd,hcd] at he;subst he;exact ⟨xh hH (by simpa [World.setCell] using hlt2) _ _,by simp [vl]⟩) ?_
 walk_nrm;refine u7 ?_;exact h _ rfl rfl
end
open Go.Conc.Lib Go.ConcR.Gen
def fe9 (T:Array Value) (h:T.size=43): ∃ v0 v1 v2 v3 v4 v5 v6 v7 v8 v9 v10 v11 v12 v13 v14 v15 v16 v17 v18 v19 v20 v21 v22 v23 v24 v25 v26 v27 v28 v29 v30 v31 v32 v33 v34 v35 v36 v37 v38 v39 v40 v41 v42:Value,T= #[v0,v1,v2,v3,v4,v5,v6,v7,v8,v9,v10,v11,v12,v13,v14,v15,v16,v17,v18,v19,v20,v21,v22,v23,v24,v25,v26,v27,v28,v29,v30,v31,v32,v33,v34,v35,v36,v37,v38,v39,v40,v41,v42]:=by
 obtain ⟨l⟩:=T;simp only [f3s] at h;rcases l with _ | ⟨v0,l⟩
 · simp at h
 rcases l with _ | ⟨v1,l⟩
 · simp at h
 rcases l with _ | ⟨v2,l⟩
 · simp at h
 rcases l with _ | ⟨v3,l⟩
 · simp at h
 rcases l with _ | ⟨v4,l⟩
 · simp at h
 rcases l with _ | ⟨v5,l⟩
 · simp at h
 rcases l with _ | ⟨v6,l⟩
 · simp at h
 rcases l with _ | ⟨v7,l⟩
 · simp at h
 rcases l with _ | ⟨v8,l⟩
 · simp at h
 rcases l with _ | ⟨v9,l⟩
 · simp at h
 rcases l with _ | ⟨v10,l⟩
 · simp at h
 rcases l with _ | ⟨v11,l⟩
 · simp at h
 rcases l with _ | ⟨v12,l⟩
 · simp at h
 rcases l with _ | ⟨v13,l⟩
 · simp at h
 rcases l with _ | ⟨v14,l⟩
 · simp at h
 rcases l with _ | ⟨v15,l⟩
 · simp at h
 rcases l with _ | ⟨v16,l⟩
 · simp at h
 rcases l with _ | ⟨v17,l⟩
 · simp at h
 rcases l with _ | ⟨v18,l⟩
 · simp at h
 rcases l with _ | ⟨v19,l⟩
 · simp at h
 rcases l with _ | ⟨v20,l⟩
 · simp at h
 rcases l with _ | ⟨v21,l⟩
 · simp at h
 rcases l with _ | ⟨v22,l⟩
 · simp at h
 rcases l with _ | ⟨v23,l⟩
 · simp at h
 rcases l with _ | ⟨v24,l⟩
 · simp at h
 rcases l with _ | ⟨v25,l⟩
 · simp at h
 rcases l with _ | ⟨v26,l⟩
 · simp at h
 rcases l with _ | ⟨v27,l⟩
 · simp at h
 rcases l with _ | ⟨v28,l⟩
 · simp at h
 rcases l with _ | ⟨v29,l⟩
 · simp at h
 rcases l with _ | ⟨v30,l⟩
 · simp at h
 rcases l with _ | ⟨v31,l⟩
 · simp at h
 rcases l with _ | ⟨v32,l⟩
 · simp at h
 rcases l with _ | ⟨v33,l⟩
 · simp at h
 rcases l with _ | ⟨v34,l⟩
 · simp at h
 rcases l with _ | ⟨v35,l⟩
 · simp at h
 rcases l with _ | ⟨v36,l⟩
 · simp at h
 rcases l with _ | ⟨v37,l⟩
 · simp at h
 rcases l with _ | ⟨v38,l⟩
 · simp at h
 rcases l with _ | ⟨v39,l⟩
 · simp at h
 rcases l with _ | ⟨v40,l⟩
 · simp at h
 rcases l with _ | ⟨v41,l⟩
 · simp at h
 rcases l with _ | ⟨v42,l⟩
 · simp at h
 obtain rfl:l=[]:=f1a qv;exact ⟨v0,v1,v2,v3,v4,v5,v6,v7,v8,v9,v10,v11,v12,v13,v14,v15,v16,v17,v18,v19,v20,v21,v22,v23,v24,v25,v26,v27,v28,v29,v30,v31,v32,v33,v34,v35,v36,v37,v38,v39,v40,v41,v42,rfl⟩
structure StopW (b sb ab n cp c0:Nat) (kb ch:Nat→Nat) (w:World):Prop where
 ses: ∃ c e,w.heap[b]? =some (.cells c e (0,0))∧c.size=8∧c[0]? =some (.int .i32 1)∧c[2]? =some (.slice (some ⟨ab,0,none⟩) n cp)∧c[3]? =some (.pointer (some ⟨sb,0,none⟩))
 srv:w.cell? ⟨sb,5,none⟩=some (.chan (some c0))
 cl: ∀ i,i<n→w.cell? ⟨ab,i,none⟩=some (.pointer (some ⟨kb i,0,none⟩))∧w.cell? ⟨kb i,10,none⟩=some (.chan (some (ch i)))
 apart:sb≠b∧ab≠b∧ ∀ i,i<n→kb i≠b
 small:n<4611686018427387904
def fea (b:Nat) (w:World) (c:Nat) (Next:Goroutine→Prop) (g:Goroutine) (w':World) (d:Nat):Prop:=
 w'=w∧d=0∧g.status= .running∧mayWake Tryz.prog g=true∧ ∃ g',(∀ k,w.heap[c]? =some (.chan 0 #[] false k k false)→ ∀ x y t,stepG Tryz.prog true g ((wgw b w x y).at t)= .go g' ((wgw b (vv w c k) x y).at t) (closeEvents c))∧
    g'.status= .running∧Next g'
abbrev ffw (b:Nat):List Deferred:=[dcall 26 #[.pointer (some ⟨b,0,none⟩)]]
noncomputable def flc:Code:=match ffb with | .seq _ c=>c | _=> .skip
noncomputable def z0a:Code:=match flc with | .seq (.seq _ (.block _ (.loop c))) _=>c | _=> .skip
noncomputable def fr6:Code:=match flc with | .seq _ c=>c | _=> .skip
noncomputable def stop9:Code:=match z0a with | .seq _ (.seq _ (.seq _ c))=>c | _=> .skip
def fh3 (b:Nat) (cs:List Frame) (g:Goroutine):Prop:= ∃ (T:Array Value) (ops:Array Oper),g=G ((base 12).at ⟨T,ffw b⟩ [.inRegion ops [],.code flc]) cs∧T.size=43∧T[0]? =some (.pointer (some ⟨b,0,none⟩))
def fab (b ab n cp i:Nat) (cs:List Frame) (g:Goroutine):Prop:= ∃ T:Array Value,g=G ((base 12).at ⟨T,ffw b⟩ [.code z0a,.inLoop z0a,.inBlock 0,.code fr6]) cs∧
 T.size=43∧T[0]? =some (.pointer (some ⟨b,0,none⟩))∧T[28]? =some (.slice (some ⟨ab,0,none⟩) n cp)∧T[29]? =some (.int .i64 n)∧T[30]? =some (.int .i64 i)
def fh4 (b ab n cp i:Nat) (cs:List Frame) (g:Goroutine):Prop:= ∃ (T:Array Value) (ops:Array Oper),g=G ((base 12).at ⟨T,ffw b⟩ [.inRegion ops [],.inBlock 1,.code stop9,.inLoop z0a,.inBlock 0,.code fr6]) cs∧
 T.size=43∧T[0]? =some (.pointer (some ⟨b,0,none⟩))∧T[28]? =some (.slice (some ⟨ab,0,none⟩) n cp)∧T[29]? =some (.int .i64 n)∧T[30]? =some (.int .i64 i)
def EvR (Shun:Loc→Prop) (w:World) (e:Event):Prop:= ∃ p:Addr,e=⟨.cell p,false,false⟩∧ ¬ Shun (.cell p)∧p.block<w.heap.size
section
variable {b sb ab n cp c0:Nat} {kb ch:Nat→Nat} {Shun:Loc→Prop} {St:Nat→Loc→Prop} {S:Nat→Option SeatD} {w:World} {cs:List Frame} {Ψ:Goroutine→World→Nat→Prop}
def fje {p:Addr} {v:Value} (h:((wgw b w 0 0).at 0).cell? p=some v):p.block<w.heap.size:=by
 have:=zq h;rwa [show ((wgw b w 0 0).at 0).heap.size=w.heap.size from fgx] at this
def fua {e:Event} (h:EvR Shun w e):EvM Shun St w.heap.size e:=by
 obtain ⟨p,rfl,h1,h2⟩:=h;exact fw2 h1 h2 false
def fle {c k:Nat} {x y:Int} {t:Nat} (h:c≠b):((wgw b w x y).at t).setChan c 0 #[] true k k false=(wgw b (vv w c k) x y).at t:=by
 rw [fbn,fbn];unfold World.setChan wgw vv;simp only [f5a,f2i,true_and,World.at];apply f0v;intro i;simp only [fy6,fy1,f5u];by_cases e:c=i
 · subst e;simp only [f0e,fx9 (f3w h)]
 · simp only [fx9 e]
def StopW.at2 (Z:StopW b sb ab n cp c0 kb ch w): ∀ u,KW b w u→u.cell? ⟨b,2,none⟩=some (.slice (some ⟨ab,0,none⟩) n cp):=fun u hu=>by
 obtain ⟨c,e,h,_,_,h2,_⟩:=Z.ses;rw [faw (.inr ⟨by simp,by simp⟩) rfl hu];simp [World.cell?,h,h2]
def StopW.at3 (Z:StopW b sb ab n cp c0 kb ch w): ∀ u,KW b w u→u.cell? ⟨b,3,none⟩=some (.pointer (some ⟨sb,0,none⟩)):=fun u hu=>by
 obtain ⟨c,e,h,_,_,_,h3⟩:=Z.ses;rw [faw (.inr ⟨by simp,by simp⟩) rfl hu];simp [World.cell?,h,h3]
def StopW.atS (Z:StopW b sb ab n cp c0 kb ch w): ∀ u,KW b w u→u.cell? ⟨sb,5,none⟩=some (.chan (some c0)):=fun u hu=>by
 rw [faw (.inl Z.apart.1) rfl hu];exact Z.srv
def StopW.atA (Z:StopW b sb ab n cp c0 kb ch w) {i:Nat} (hi:i<n): ∀ u,KW b w u→u.cell? ⟨ab,i,none⟩=some (.pointer (some ⟨kb i,0,none⟩)):=fun u hu=>by
 rw [faw (.inl Z.apart.2.1) rfl hu];exact (Z.cl i hi).1
def StopW.atK (Z:StopW b sb ab n cp c0 kb ch w) {i:Nat} (hi:i<n): ∀ u,KW b w u→u.cell? ⟨kb i,10,none⟩=some (.chan (some (ch i))):=fun u hu=>by
 rw [faw (.inl (Z.apart.2.2 i hi)) rfl hu];exact (Z.cl i hi).2
def fh5:(Tryz.prog.funcs[12]?).any (·.norace)=false:=by rw [Tryz.func12];rfl
def ffx {ops:Array Oper} {i:Nat} {rest:List Nat} {o:Oper} {a:Act} {kk:List Item} {c k t:Nat} {x y:Int} {z:Operand} {ats:Array TypeId} (ho:ops[i]? =some o) (hw:Region.wanted o (yielded ops a.tmps)=true) (hop:o.op= .call { callee:= .builtin .close,args:= #[z],argTypes:=ats }) (hx:a.eval z= .chan (some c))
    (hne:c≠b) (hk:w.heap[c]? =some (.chan 0 #[] false k k false)):stepG Tryz.prog true (G ((base 12).at a (.inRegion ops (i::rest)::kk)) cs) ((wgw b w x y).at t)= .go (G ((base 12).at (a.put o.dst (.tuple #[])) (.inRegion ops rest::kk)) cs) ((wgw b (vv w c k) x y).at t) (closeEvents c):=by
 have hk':((wgw b w x y).at t).heap[c]? =some (.chan 0 #[] false k k false):=by
    show (wgw b w x y).heap[c]? =_;rw [yz hne];exact hk
 rw [stepG_close ho hw gh hop hx hk' fh5,fle hne]
def om_st4 (Z:StopW b sb ab n cp c0 kb ch w) (hN: ∀ p:Addr,(p.block=b∧p.off<6)∨p.block=sb∨p.block=ab∨(∃ i,i<n∧p.block=kb i)→ ¬ Shun (.cell p)) (hc:c0≠b) {T:Array Value} (hT:T.size=43) (h0:T[0]? =some (.pointer (some ⟨b,0,none⟩))):
    ∃ m,OM Tryz.prog b Shun St S (fea b w c0 (fh3 b cs)) m (G ((base 12).at ⟨T,ffw b⟩ [.code ffb]) cs) w 0:=by
 obtain ⟨v0,v1,v2,v3,v4,v5,v6,v7,v8,v9,v10,v11,v12,v13,v14,v15,v16,v17,v18,v19,v20,v21,v22,v23,v24,v25,v26,v27,v28,v29,v30,v31,v32,v33,v34,v35,v36,v37,v38,v39,v40,v41,v42,rfl⟩:=fe9 T hT;simp only [fy2,fx7,f03] at h0;subst h0;unfold ffb;simp only [Tryz.f12];refine fl9 (E:=EvR Shun w) (fun e he=>fua he) ?_;refine wq ?_;refine wr ?_;simp only [szs];refine wv (.pointer (some ⟨b,0,none⟩)) ?_;walk_nrm;refine wv (.pointer (some ⟨b,0,none⟩)) ?_;walk_nrm;refine wv (.pointer (some ⟨b,3,none⟩)) ?_;walk_nrm;refine fav (.pointer (some ⟨sb,0,none⟩)) #[⟨.cell ⟨b,3,none⟩,false,false⟩] rfl rfl gh (fun u hu=>by have:=Z.at3 u hu;go_simp) (fun u hu=>by have:=Z.at3 u hu;simp [go_sem,this]) (fun e he=>by simp at he;subst he;exact ⟨⟨_,rfl,hN _ jf,fje (Z.at3 _ ⟨0,0,0,rfl⟩)⟩,by simp [vl]⟩) ?_;walk_nrm;refine wv (.pointer (some ⟨sb,0,none⟩)) ?_;walk_nrm;refine wv (.pointer (some ⟨sb,5,none⟩)) ?_;walk_nrm;refine fav (.chan (some c0)) #[⟨.cell ⟨sb,5,none⟩,false,false⟩] rfl rfl gh (fun u hu=>by have:=Z.atS u hu;go_simp) (fun u hu=>by have:=Z.atS u hu;simp [go_sem,this]) (fun e he=>by simp at he;subst he;exact ⟨⟨_,rfl,hN _ jf,fje (Z.atS _ ⟨0,0,0,rfl⟩)⟩,by simp [vl]⟩) ?_;walk_nrm;refine ug ⟨0,rfl,rfl,rfl,rfl,_,fun k hk x y t=>ffx rfl rfl rfl rfl hc hk,rfl,⟨_,_,rfl,rfl,rfl⟩⟩
def om_st5 {g:Goroutine} (Z:StopW b sb ab n cp c0 kb ch w) (hN: ∀ p:Addr,(p.block=b∧p.off<6)∨p.block=sb∨p.block=ab∨(∃ i,i<n∧p.block=kb i)→ ¬ Shun (.cell p)) (hg:fh3 b cs g):
    WKE Tryz.prog true (KW b w) (EvR Shun w) (fun g d=>d=0∧fab b ab n cp 0 cs g) g 0:=by
 obtain ⟨T,ops,rfl,hT,h0⟩:=hg;obtain ⟨v0,v1,v2,v3,v4,v5,v6,v7,v8,v9,v10,v11,v12,v13,v14,v15,v16,v17,v18,v19,v20,v21,v22,v23,v24,v25,v26,v27,v28,v29,v30,v31,v32,v33,v34,v35,v36,v37,v38,v39,v40,v41,v42,rfl⟩:=fe9 T hT;simp only [fy2,fx7,f03] at h0;subst h0;unfold flc ffb;simp only [Tryz.f12];refine we ?_;refine wq ?_;refine wq ?_;refine wr ?_;simp only [szs];refine wv (.pointer (some ⟨b,0,none⟩)) ?_;walk_nrm;refine wv (.pointer (some ⟨b,0,none⟩)) ?_;walk_nrm;refine wv (.pointer (some ⟨b,2,none⟩)) ?_;walk_nrm;refine fav (.slice (some ⟨ab,0,none⟩) n cp) #[⟨.cell ⟨b,2,none⟩,false,false⟩] rfl rfl gh (fun u hu=>by have:=Z.at2 u hu;go_simp) (fun u hu=>by have:=Z.at2 u hu;simp [go_sem,this]) (fun e he=>by simp at he;subst he;exact ⟨⟨_,rfl,hN _ jf,fje (Z.at2 _ ⟨0,0,0,rfl⟩)⟩,by simp [vl]⟩) ?_;walk_nrm;refine wv (.int .i64 n) ?_;walk_nrm;refine wv (.int .i64 0) ?_;walk_nrm;refine we ?_;refine ri rfl (fun _=>f5i) ?_;refine ri rfl (fun _=>stepG_loop) ?_;exact ug ⟨rfl,_,rfl,rfl,rfl,rfl,rfl,rfl⟩
def om_head {i:Nat} {g:Goroutine} (Z:StopW b sb ab n cp c0 kb ch w) (hN: ∀ p:Addr,(p.block=b∧p.off<6)∨p.block=sb∨p.block=ab∨(∃ i,i<n∧p.block=kb i)→ ¬ Shun (.cell p)) (hi:i<n) (hc:ch i≠b) (hg:fab b ab n cp i cs g):
    ∃ m,OM Tryz.prog b Shun St S (fea b w (ch i) (fh4 b ab n cp i cs)) m g w 0:=by
 obtain ⟨T,rfl,hT,h0,h28,h29,h30⟩:=hg;obtain ⟨v0,v1,v2,v3,v4,v5,v6,v7,v8,v9,v10,v11,v12,v13,v14,v15,v16,v17,v18,v19,v20,v21,v22,v23,v24,v25,v26,v27,v28,v29,v30,v31,v32,v33,v34,v35,v36,v37,v38,v39,v40,v41,v42,rfl⟩:=fe9 T hT;simp only [fy2,fx7,fy0,f03] at h0 h28 h29 h30;subst h0;subst h28;subst h29;subst h30;unfold z0a flc ffb;simp only [Tryz.f12];refine fl9 (E:=EvR Shun w) (fun e he=>fua he) ?_;refine wq ?_;refine wr ?_;simp only [szs];refine ww (.bool true) rfl rfl gh (fun _ _=>by go_simp;try omega) (fun _ _=>by simp [go_sem];try omega) ?_;walk_nrm;refine we ?_;refine wq ?_;refine wt ?_;refine ws ?_;refine wq ?_;refine ri rfl (fun _=>f5i) ?_;refine wq ?_;refine wr ?_;simp only [szs];refine ww (.pointer (some ⟨ab,i,none⟩)) rfl rfl gh (fun _ _=>by go_simp;try (simp [Addr.add];omega)) (fun u _=>by simp [go_sem];exact events_indexAt_slice (P:=Tryz.prog) (w:=u) (es:= #[]) 65 ⟨ab,0,none⟩ n cp .i64 i fd ⟨by omega,by omega⟩) ?_;walk_nrm;refine fav (.pointer (some ⟨kb i,0,none⟩)) #[⟨.cell ⟨ab,i,none⟩,false,false⟩] rfl rfl gh (fun u hu=>by have:=(Z.atA hi) u hu;go_simp) (fun u hu=>by have:=(Z.atA hi) u hu;simp [go_sem,this]) (fun e he=>by simp at he;subst he;exact ⟨⟨_,rfl,hN _ jf,fje ((Z.atA hi) _ ⟨0,0,0,rfl⟩)⟩,by simp [vl]⟩) ?_;walk_nrm;refine wv (.pointer (some ⟨kb i,0,none⟩)) ?_;walk_nrm;refine we ?_;refine wr ?_;simp only [szs];refine wv (.pointer (some ⟨kb i,0,none⟩)) ?_;walk_nrm;refine wv (.pointer (some ⟨kb i,0,none⟩)) ?_;walk_nrm;refine wv (.pointer (some ⟨kb i,10,none⟩)) ?_;walk_nrm;refine fav (.chan (some (ch i))) #[⟨.cell ⟨kb i,10,none⟩,false,false⟩] rfl rfl gh (fun u hu=>by have:=(Z.atK hi) u hu;go_simp) (fun u hu=>by have:=(Z.atK hi) u hu;simp [go_sem,this]) (fun e he=>by simp at he;subst he;exact ⟨⟨_,rfl,hN _ jf,fje ((Z.atK hi) _ ⟨0,0,0,rfl⟩)⟩,by simp [vl]⟩) ?_;walk_nrm;refine ug ⟨0,rfl,rfl,rfl,rfl,_,fun k hk x y t=>ffx rfl rfl rfl rfl hc hk,rfl,⟨_,_,rfl,rfl,rfl,rfl,rfl,rfl⟩⟩
def fub {i:Nat} {g:Goroutine} (Z:StopW b sb ab n cp c0 kb ch w) (hi:i<n) (hg:fh4 b ab n cp i cs g):
    WKE Tryz.prog true (KW b w) (EvR Shun w) (fun g d=>d=0∧fab b ab n cp (i+1) cs g) g 0:=by
 obtain ⟨T,ops,rfl,hT,h0,h28,h29,h30⟩:=hg;obtain ⟨v0,v1,v2,v3,v4,v5,v6,v7,v8,v9,v10,v11,v12,v13,v14,v15,v16,v17,v18,v19,v20,v21,v22,v23,v24,v25,v26,v27,v28,v29,v30,v31,v32,v33,v34,v35,v36,v37,v38,v39,v40,v41,v42,rfl⟩:=fe9 T hT;simp only [fy2,fx7,fy0,f03] at h0 h28 h29 h30;subst h0;subst h28;subst h29;subst h30;unfold stop9 z0a flc ffb;simp only [Tryz.f12];refine we ?_;refine ri rfl (fun _=>stepG_inBlock) ?_;refine wr ?_;simp only [szs];refine ww (.int .i64 (i+1:Nat)) rfl rfl gh (fun _ _=>by go_simp;try (have:=hi;have:=Z.small;simp [f3h];omega)) (fun _ _=>by simp [go_sem];try (have:=hi;have:=Z.small;simp [f3h];omega)) ?_;walk_nrm;refine wv (.int .i64 (i+1:Nat)) ?_;walk_nrm;refine we ?_;refine ri rfl (fun _=>stepG_inLoop) ?_;exact ug ⟨rfl,_,rfl,rfl,rfl,rfl,rfl,rfl⟩
end
section
variable {b sb ab n cp c0:Nat} {kb ch:Nat→Nat} {Shun:Loc→Prop} {St St':Nat→Loc→Prop} {S:Nat→Option SeatD} {w:World} {X:Frame} {cs:List Frame}
def fmp {main:Bool} {K:World→Prop} {E:Event→Prop} {Φ:Goroutine→Nat→Prop} {d:Nat} {fr:Frame} {a:Act} {k:List Item} {ops:Array Oper} {i:Nat} {rest:List Nat} {o:Oper} {f:FuncId} {fn:Func} {c:Code} {args:Array Operand} {ats:Array TypeId} (ho:ops[i]? =some o) (hw:Region.wanted o (yielded ops a.tmps)=true) (hk:fr.kind≠ .early) (hop:o.op= .call { callee:= .value (.func f),args:=args,argTypes:=ats })
    (hf:Tryz.prog.funcs[f]? =some fn) (hname:(fn.name== "runtime.NumGoroutine")=false) (hb:fn.body=some c) (h:WKE Tryz.prog main K E Φ (G (Frame.enter Tryz.prog f (args.map a.eval) .normal) (fr.at a (.inRegion ops (i::rest)::k)::cs)) d):
    WKE Tryz.prog main K E Φ (G (fr.at a (.inRegion ops (i::rest)::k)) cs) d:=ri rfl (fun u=>by
 have hb':fn.body.isNone=false:=by rw [hb];rfl
 rw [stepG_enter ho hw hk (run_call_body hop hf hname hb')];have:listed Tryz.prog fr.fn a o u= #[]:=by unfold listed;rw [events_call_body hop hf hname hb'];exact seen_none Tryz.prog _
 rw [this]) h
def flf (b:Nat) (X:Frame) (cs:List Frame) (w:World) (g:Goroutine) (w':World) (d:Nat):Prop:=g=G (ur .normal (.tuple #[]) X) cs∧w'=w.setCell ⟨b,0,none⟩ (.int .i32 0)∧d=0
def fh6 (b:Nat) (Shun:Loc→Prop) (St St':Nat→Loc→Prop) (S:Nat→Option SeatD) (Φ:Goroutine→World→Nat→Prop) (w:World) (g:Goroutine) (d:Nat):Prop:=
 ∃ Anch:Goroutine→World→Nat→Prop,(∃ m,OM Tryz.prog b Shun St S (AtW1 Tryz.prog b Shun St S (fe2 Tryz.prog b Shun St' Φ) Anch) m g w d)∧
  ∀ g w' d,Anch g w' d→ ∃ m,OM Tryz.prog b Shun St S (AtW1 Tryz.prog b Shun St S (fe2 Tryz.prog b Shun St' Φ) Anch) m g w' d
def ffy {Φ:Goroutine→World→Nat→Prop} {E:Event→Prop} {g:Goroutine} {d:Nat} (hE: ∀ e,E e→EvM Shun St w.heap.size e) (h:WKE Tryz.prog true (KW b w) E (fh6 b Shun St St' S Φ w) g d):fh6 b Shun St St' S Φ w g d:=by
 obtain ⟨n,h⟩:=h
 induction n generalizing g d with
 | zero=>exact h
 | succ n ih=>
   rcases h with h | ⟨h1,g',es,h2,h3,h4⟩
   · exact h
   · obtain ⟨Anch,⟨m,hm⟩,hA⟩:=ih h4;exact ⟨Anch,⟨m+1,.inr ⟨h1,g',w,es,fun x y t=>h3 _ ⟨x,y,t,rfl⟩,w9 w,fun e he=>hE e (h2 e he),hm⟩⟩,hA⟩
def om_wait {g:Goroutine} (Z:StopW b sb ab n cp c0 kb ch w) (hsh:Shun (.cell (stC b))∧Shun (.cell (smC b))) (hns: ¬ Shun (.cell ⟨b,0,none⟩)) (hst: ∀ g,¬ St' g (.cell ⟨b,0,none⟩)) (hg:fab b ab n cp n (X::cs) g):
    fh6 b Shun St St' S (flf b X cs w) w g 0:=by
 obtain ⟨cc,e,hb,hsz,h00,_,_⟩:=Z.ses;have hs:HasS b w:=⟨cc,e,hb,hsz⟩;have hc0:w.cell? ⟨b,0,none⟩=some (.int .i32 1):=by simp [World.cell?,hb,h00]
 have hz:w.frozen? ⟨b,0,none⟩=false:=by simp [World.frozen?,hb]
 obtain ⟨T,rfl,hT,h0,h28,h29,h30⟩:=hg;obtain ⟨v0,v1,v2,v3,v4,v5,v6,v7,v8,v9,v10,v11,v12,v13,v14,v15,v16,v17,v18,v19,v20,v21,v22,v23,v24,v25,v26,v27,v28,v29,v30,v31,v32,v33,v34,v35,v36,v37,v38,v39,v40,v41,v42,rfl⟩:=fe9 T hT;simp only [fy2,fx7,fy0,f03] at h0 h28 h29 h30;subst h0;subst h28;subst h29;subst h30;unfold fr6 z0a flc ffb;simp only [Tryz.f12];refine ffy (E:=fun _=>False) (fun e he=>he.elim) ?_;refine wq ?_;refine wr ?_;simp only [szs];refine wv (.bool false) ?_;walk_nrm;refine we ?_;refine wq ?_;refine wf ?_;refine ri rfl (fun _=>stepG_exit rfl) ?_;refine wr ?_;simp only [szs];refine wv (.pointer (some ⟨b,0,none⟩)) ?_;walk_nrm;refine wv (.pointer (some ⟨b,0,none⟩)) ?_;walk_nrm;refine wv (.pointer (some (stC b))) ?_;walk_nrm;refine i7 rfl rfl gh rfl Tryz.func28 fd rfl ?_;simp only [show Tryz.f28.ntmps=84 from rfl];walk_nrm;refine ug ⟨_,fob hs hsh rfl rfl ?_ rfl⟩;walk_nrm;refine fl9 (E:=fun _=>False) (fun e he=>he.elim) ?_;refine we ?_;refine ri rfl (fun _=>f4e) ?_;refine ffs (f:=26) rfl Tryz.func26 fd rfl ?_;simp only [show Tryz.f26.ntmps=6 from rfl];walk_nrm;refine wr ?_;simp only [szs];refine wv (.pointer (some ⟨b,0,none⟩)) ?_;walk_nrm;refine wv (.pointer (some ⟨b,0,none⟩)) ?_;walk_nrm;refine wv (.pointer (some ⟨b,0,none⟩)) ?_;walk_nrm;refine fmp rfl rfl gh rfl Tryz.func58 fd rfl ?_;refine ug (fr4 (p:=⟨b,0,none⟩) (.inl rfl) jh (.inr ⟨by simp,by simp⟩) hc0 hz hst hns (fun _ _ e=>by cases e) ?_);simp only [ur,Touch.on,f0e,f0i];walk_nrm;refine fl9 (E:=fun _=>False) (fun e he=>he.elim) ?_;refine we ?_;refine ri rfl (fun _=>f4e) ?_;refine faa (.inr rfl) rfl Tryz.func26 (f2z Tryz.results26 _) ?_;have e1: ∀ (fr:Frame),fr.mode= .returning→ur .deferred (.tuple #[]) fr=fr:=fun fr h=>by simp [ur,Touch.on,h]
 have e2:(baseD 26).kind= .deferred:=rfl;rw [e2,e1 _ rfl];refine faa (.inl rfl) rfl Tryz.func12 (f2z Tryz.results12 _) ?_;exact ug ⟨0,rfl,rfl,rfl⟩
end
end Go.Proofs.YtelecjnabeokeaaGreatDoor
namespace Go.Proofs.YtelecjnabeokeaaGreatDoor
open Go Go.Conc Go.Conc.Lib Go.RowKit
open Go.ConcN (sumTo upd sumTo_upd upd_ne upd_same RelBy le_sumTo)
structure Clo (C:Nat→Prop) (w w1:World):Prop where
 size:w1.heap.size=w.heap.size
 os:w1.os=w.os
 output:w1.output=w.output
 same: ∀ x,¬ C x→w1.heap[x]? =w.heap[x]?
 muted: ∀ x,C x→ ∃ k,w1.heap[x]? =some (.chan 0 #[] true k k false)
section
variable {b sb ab n cp c0:Nat} {kb ch:Nat→Nat} {Shun:Loc→Prop} {St:Nat→Loc→Prop} {S:Nat→Option SeatD} {w:World} {X:Frame} {cs:List Frame}
def fbs {c k k0 x:Nat} {cc:Array Value} {e:TypeId} {f:Nat×Nat} (hc:w.heap[c]? =some (.chan 0 #[] false k0 k0 false)) (h:w.heap[x]? =some (.cells cc e f)):(vv w c k).heap[x]? =some (.cells cc e f):=by
 rw [zl (fun e=>by subst e;rw [hc] at h;cases h)];exact h
def ob {c k k0:Nat} {p:Addr} {v:Value} (hc:w.heap[c]? =some (.chan 0 #[] false k0 k0 false)) (h:w.cell? p=some v):(vv w c k).cell? p=some v:=by
 unfold World.cell? at h ⊢;split at h
 · rename_i cc e f hh;rw [fbs hc hh];exact h
 · cases h
def StopW.close {c k k0:Nat} (Z:StopW b sb ab n cp c0 kb ch w) (hc:w.heap[c]? =some (.chan 0 #[] false k0 k0 false)):StopW b sb ab n cp c0 kb ch (vv w c k):=by
 obtain ⟨⟨cc,e,h1,h2⟩,h3,h4,h5,h6⟩:=Z;exact ⟨⟨cc,e,fbs hc h1,h2⟩,ob hc h3,fun i hi=>⟨ob hc (h4 i hi).1,ob hc (h4 i hi).2⟩,h5,h6⟩
def fr7 (b:Nat) (Shun:Loc→Prop) (St St':Nat→Loc→Prop) (ab n cp:Nat) (ch:Nat→Nat) (X:Frame) (cs:List Frame) (i:Nat) (a:Goroutine) (w:World):Prop:=
 ∀ S:Nat→Option SeatD,(i<n→ ∃ m,OM Tryz.prog b Shun St S (fea b w (ch i) (fh4 b ab n cp i (X::cs))) m a w 0)∧(i=n→fh6 b Shun St St' S (flf b X cs w) w a 0)
def fmq {St':Nat→Loc→Prop} {i:Nat} {g:Goroutine} (Z:StopW b sb ab n cp c0 kb ch w) (hN: ∀ p:Addr,(p.block=b∧p.off<6)∨p.block=sb∨p.block=ab∨(∃ i,i<n∧p.block=kb i)→ ¬ Shun (.cell p))
    (hsh:Shun (.cell (stC b))∧Shun (.cell (smC b))) (hst: ∀ g,¬ St' g (.cell ⟨b,0,none⟩)) (hc: ∀ i,i<n→ch i≠b)
    (hg:WKE Tryz.prog true (KW b w) (EvR Shun w) (fun g d=>d=0∧fab b ab n cp i (X::cs) g) g 0):fr7 b Shun St St' ab n cp ch X cs i g w:=by
 refine fun S=>⟨fun hi=>fl9 (E:=EvR Shun w) (fun e he=>fua he) (hg.mono fun g d ⟨hd,h⟩=>ug ?_),fun hi=>ffy (E:=EvR Shun w) (fun e he=>fua he) (hg.mono fun g d ⟨hd,h⟩=>ug ?_)⟩
 · subst hd;exact om_head Z hN hi (hc i hi) h
 · subst hd;subst hi;exact om_wait Z hsh (hN _ (.inl ⟨rfl,by simp⟩)) hst h
variable {Wk:Nat→Prop} {k0:Nat}
def flg (b:Nat) (Shun:Loc→Prop) (St:Nat→Loc→Prop) (Wk:Nat→Prop) (X:Frame) (cs:List Frame) (n:Nat) (C:Nat→Prop) (w:World) (gs':Array Goroutine) (u:World) (T':Trace):Prop:=
 ∃ w1,Clo C w w1∧Gone Tryz.prog b Shun (StL St Wk) n (flf b X cs w1) gs' u T'
def fmr {jc:Nat→Nat} {sc:Nat→SeatD} (hN: ∀ p:Addr,(p.block=b∧p.off<6)∨p.block=sb∨p.block=ab∨(∃ i,i<n∧p.block=kb i)→ ¬ Shun (.cell p)) (hsc: ∀ l,Shun l→ ∃ p,l= .cell p)
    (hsh:Shun (.cell (stC b))∧Shun (.cell (smC b))) (hst: ∀ g,¬ StL St Wk g (.cell ⟨b,0,none⟩)) (hc: ∀ i,i<n→ch i≠b) (hscc: ∀ i,i<n→(sc i).c=ch i) (hinj: ∀ i i',i<n→i'<n→jc i=jc i'→i=i'):
    ∀ (r i:Nat),i+r=n→ ∀ {S:Nat→Option SeatD} {R q:Nat→Nat} {a:Goroutine} {T:Trace} {gs:Array Goroutine} {w:World} {x y:Int} {d:Nat},
      (∀ i,Wk i→i≠0∧i<gs.size)→Bye Tryz.prog b Shun St Wk k0 S R q a T gs w→Md gs.size R false x y→VC gs.size R<2147483647→Deaf T 0=0→StopW b sb ab n cp c0 kb ch w→(∀ i',i≤i'→i'<n→S (jc i')=some (sc i')∧R (jc i')=8∧jc i'<gs.size)→(∀ k,(∀ i',i≤i'→i'<n→k≠jc i')→R k≤7)→
      fr7 b Shun St (StL St Wk) ab n cp ch X cs i a w→Leads Tryz.prog (flg b Shun St Wk X cs gs.size (fun x=> ∃ i',i≤i'∧i'<n∧x=ch i') w) gs ((wgw b w x y).at d) T
 | 0,i,hir,S,R,q,a,T,gs,w,x,y,d,hwk,C,M,hb,hD,Z,hse,hrk,hp=>by
   obtain ⟨Anch,⟨m,hm⟩,hA⟩:=(hp S).2 fe;refine (bye_all hA (fun _ _ h=>h) hwk C (fun k=>hrk k fun i' h1 h2=>by omega) M hb pa).mono fun gs' u T' h=>⟨w,⟨rfl,rfl,rfl,fun _ _=>rfl,fun x ⟨i',h1,h2,_⟩=>by omega⟩,h⟩
 | r + 1,i,hir,S,R,q,a,T,gs,w,x,y,d,hwk,C,M,hb,hD,Z,hse,hrk,hp=>by
   have hi:i<n:=by omega
   obtain ⟨m,hm⟩:=(hp S).1 hi;refine (fe0 (Φ:=fea b w (ch i) (fh4 b ab n cp i (X::cs))) (S0:=S) (d:=d) m (fun _ _ h=>h) C M hb pa).trans fun gs1 u1 T1 ⟨S1,R1,q1,a1,w1,x1,y1,d1,e1,e2,e3,e4,e5,e6,e7⟩=> ?_;obtain ⟨rfl,hd1,hrun,hmw,g',hst',hrun',hnext⟩:=e6;subst e1;obtain ⟨h1,h2,h3⟩:=hse i (fx8 _) hi;have h4:=e7.2.1 _ h2;have hS1:S1 (jc i)=some (sc i):=h4.2.trans h1;refine (fj0 (a':=g') (d:=d1) e3 pq (by rw [e2];exact e5) hrun hrun' h4.1 (by rw [e2];exact h3) hS1 hsc hmw hd1 (fun k hk=> ?_)).trans fun gs2 u2 T2 ⟨S2,R2,q2,x2,y2,d2,k,f1,f2,f3,f4,f5,f6,f7,f8,f9,f10,f11⟩=> ?_
   · rw [hscc i hi] at hk ⊢;exact hst' k hk
   subst f1;rw [hscc i hi] at f3 f4 ⊢;have Z2:StopW b sb ab n cp c0 kb ch (vv w1 (ch i) k):=Z.close f3;have hsz:gs2.size=gs.size:=by omega
   have:=fmr (S:=S2) hN hsc hsh hst hc hscc hinj r (i+1) fe (d:=d2) (by rw [hsz];exact hwk) f4 (by rw [f2];exact f5) (by rw [f2];exact f6) f7 Z2 (fun i' h5 h6=> ?_) (fun k' hk'=> ?_)
     (fmq Z2 hN hsh hst hc (fub Z2 hi hnext))
   · rw [hsz] at this;refine this.mono fun gs3 u3 T3 ⟨w3,hclo,hg⟩=>⟨w3,⟨hclo.size.trans bf,hclo.os,hclo.output,fun z hz=> ?_,fun z hz=> ?_⟩,hg⟩
     · rw [hclo.same z fun ⟨i',a1,a2,a3⟩=>hz ⟨i',by omega,a2,a3⟩,zl fun e=>hz ⟨i,fx8 _,hi,e⟩]
     · by_cases e: ∃ i',i+1≤i'∧i'<n∧z=ch i'
       · exact hclo.muted z e
       · obtain ⟨i',a1,a2,rfl⟩:=hz;have:i'=i:=f1e fun h=>e ⟨i',by omega,a2,rfl⟩;subst this;refine ⟨k,?_⟩;rw [hclo.same _ e];unfold vv;exact fy5 (fx5.1 f3).1
   · obtain ⟨b1,b2,b3⟩:=hse i' fe h6;have c1:=e7.2.1 _ b2;have hne:jc i'≠jc i:=fun e=>by have:=hinj i' i h6 hi e;omega
     have c2:=f9 _ hne c1.1;exact ⟨c2.2.trans (c1.2.trans b1),c2.1,by omega⟩
   · by_cases e:k'=jc i
     · subst e;exact f11
     · have:=hrk k' fun i' a1 a2=> ?_
       · have a3:=e7.2.2 k';have a4:=f10 k';omega
       · by_cases e2:i'=i
         · subst e2;exact e
         · exact hk' i' fe a2
end
structure fw3 (b j0 n c0:Nat) (ch:Nat→Nat) (S:Nat→Option SeatD) (N:Nat):Prop where
 pos:1≤j0
 fits:j0+(n+1)≤N
 srv: ∃ s,S j0=some s∧s.c=c0
 cl: ∀ i,i<n→ ∃ s,S (j0+1+i)=some s∧s.c=ch i
 no: ∀ k,S k≠none→j0≤k∧k<j0+(n+1)
 home: ∀ j s,S j=some s→s.ok=true∧s.z= .nilFunc∧ ∀ g2,s.home g2→fbr [dcall 79 #[.pointer (some (stC b))]] [fau] s.c g2
section
variable {b sb ab n cp c0 j0:Nat} {kb ch:Nat→Nat} {H:Hide} {Shun:Loc→Prop} {St:Nat→Loc→Prop} {S:Nat→Option SeatD} {w:World} {X:Frame} {cs:List Frame} {gs:Array Goroutine} {q:Nat→Nat} {T:Trace}
def fr8 {T0:Array Value} (hT0:T0.size=43) (h00:T0[0]? =some (.pointer (some ⟨b,0,none⟩))) (I:Prot H S St Shun) (hH:H b=none∧H sb=none∧H ab=none∧ ∀ i,i<n→H (kb i)=none)
    (hcb:c0≠b∧ ∀ i,i<n→ch i≠b) (hce:(∀ i,i<n→ch i≠c0)) (W:fw3 b j0 n c0 ch S gs.size) (Z:StopW b sb ab n cp c0 kb ch w) (hca:CellsAt b w ((n+1:Nat)*K32) 0) (hsm:n<1000)
    (C:Hold Tryz.prog St Shun u5 S 0 (G ((base 12).at ⟨T0,ffw b⟩ [.code ffb]) (X::cs)) T gs w q) (hD:Deaf T 0=0):
    Leads Tryz.prog (flg b (fax b Shun) St (fun i=>S i≠none) X cs gs.size (fun x=>x=c0∨ ∃ i,i<n∧x=ch i) w) gs w T:=by
 obtain ⟨cc,e,hbl,hsz,_,_,_⟩:=Z.ses;have hs:HasS b w:=⟨cc,e,hbl,hsz⟩
 have hnb: ∀ p:Addr,H p.block=none→ ¬ Shun (.cell p)∧ ∀ g,¬ St g (.cell p):=fun p hp=>by
    refine ⟨fun h=> ?_,fun g h=> ?_⟩
    · obtain ⟨a,ha,hh⟩:=I.shun _ h;cases ha;exact hh hp
    · obtain ⟨a,ha,hh⟩:=I.still _ _ h;cases ha;exact hh hp
 have hN: ∀ p:Addr,(p.block=b∧p.off<6)∨p.block=sb∨p.block=ab∨(∃ i,i<n∧p.block=kb i)→ ¬ fax b Shun (.cell p):=fun p hp=>by
    have h1:H p.block=none:=by
     rcases hp with ⟨h,_⟩ | h | h | ⟨i,hi,h⟩
     · rw [h];exact hH.1
     · rw [h];exact hH.2.1
     · rw [h];exact hH.2.2.1
     · rw [h];exact hH.2.2.2 i hi
    have h2:p.block≠b∨p.off<6:=by
     rcases hp with ⟨_,h⟩ | h | h | ⟨i,hi,h⟩
     · exact .inr h
     · exact .inl (h▸Z.apart.1)
     · exact .inl (h▸Z.apart.2.1)
     · exact .inl (h▸Z.apart.2.2 i hi)
    rintro (h | h | h)
    · exact (hnb p h1).1 h
    · cases h;rcases h2 with h2 | h2
      · exact h2 rfl
      · simp at h2
    · cases h;rcases h2 with h2 | h2
      · exact h2 rfl
      · simp at h2
 have hsc: ∀ l,fax b Shun l→ ∃ p,l= .cell p:=fun l hl=>by
    rcases hl with h | rfl | rfl
    · obtain ⟨a,ha,_⟩:=I.shun _ h;exact ⟨a,ha⟩
    · exact ⟨_,rfl⟩
    · exact ⟨_,rfl⟩
 have hsh:fax b Shun (.cell (stC b))∧fax b Shun (.cell (smC b)):=⟨.inr (.inl rfl),.inr (.inr rfl)⟩
 have hsnone: ∀ k,k<gs.size→(S k≠none↔j0≤k∧k<j0+(n+1)):=fun k hk=>by
    refine ⟨W.no k,fun ⟨h1,h2⟩=> ?_⟩;by_cases e:k=j0
    · subst e;obtain ⟨s,hs,_⟩:=W.srv;rw [hs];simp
    · obtain ⟨s,hs,_⟩:=W.cl (k-j0-1) fe;rw [show j0+1+(k-j0-1)=k from by omega] at hs;rw [hs];simp
 have C0:=fr5 (b:=b) C hs (fun i s h=>by
  obtain ⟨h1,h2⟩:=I.seats i s h;refine ⟨?_,fun e=>h1 (e▸hH.1)⟩;cases hb:s.D b with
  | none=>rfl
  | some o=>exact absurd hH.1 (h2 b o hb)) (fun g=>⟨(hnb (stC b) hH.1).2 g,(hnb (smC b) hH.1).2 g⟩) (fun i s h g2 hg2=>by
  obtain ⟨h1,h2,h3⟩:=W.home i s h;rw [h1,h2];exact fu4 (h3 g2 hg2))
 have hvc:VC gs.size (RB S)=n+1:=VC_row hsnone W.fits
 have hM:Md gs.size (RB S) false ((n+1:Nat)*K32) 0:=by
    have:=Md.opn (n:=gs.size) (R:=RB S) fun j _=>(RB_le S j).imp id (fun h=>by omega);rwa [hvc] at this
 obtain ⟨s0,hs0,hsc0⟩:=W.srv;have hR8: ∀ j,S j≠none→RB S j=8:=fun j h=>by unfold RB;rw [fx9 h]
 obtain ⟨m,hm⟩:=om_st4 (St:=St) (S:=S) (cs:=X::cs) Z hN hcb.1 hT0 h00;have e0:(wgw b w ((n+1:Nat)*K32) 0).at w.drawn=w:=by rw [ftu hs hca];rfl
 suffices hgo:Leads Tryz.prog (flg b (fax b Shun) St (fun i=>S i≠none) X cs gs.size (fun x=>x=c0∨ ∃ i,i<n∧x=ch i) w) gs ((wgw b w ((n+1:Nat)*K32) 0).at w.drawn) T by rwa [e0] at hgo
 refine (fe0 (Φ:=fea b w c0 (fh3 b (X::cs))) (S0:=S) (d:=w.drawn) m (fun _ _ h=>h) C0 hM (by rw [hvc];omega) pa).trans fun gs1 u1 T1 ⟨S1,R1,q1,a1,w1,x1,y1,d1,e1,e2,e3,e4,e5,e6,e7⟩=> ?_;obtain ⟨rfl,hd1,hrun,hmw,g',hst',hrun',hnext⟩:=e6;subst e1;have hj0lt:j0<gs.size:=by have:=W.fits;omega
 have h4:=e7.2.1 j0 (hR8 j0 (by rw [hs0];simp));refine (fj0 (a':=g') (d:=d1) (j:=j0) (s:=s0) e3 pq (by rw [e2];exact e5) hrun hrun' h4.1 (by rw [e2];exact hj0lt) (h4.2.trans hs0) hsc hmw hd1 (fun k hk=> ?_)).trans fun gs2 u2 T2 ⟨S2,R2,q2,x2,y2,d2,k,f1,f2,f3,f4,f5,f6,f7,f8,f9,f10,f11⟩=> ?_
 · rw [hsc0] at hk ⊢;exact hst' k hk
 subst f1;rw [hsc0] at f3 f4 ⊢;have Z2:StopW b sb ab n cp c0 kb ch (vv w1 c0 k):=Z.close f3;have hsz2:gs2.size=gs.size:=by omega
 obtain ⟨sc,hscs⟩:=f1v (r:=fun (i:Nat) (s:SeatD)=>i<n→S (j0+1+i)=some s∧s.c=ch i) fun i=>by
    by_cases h:i<n
    · obtain ⟨s,h1,h2⟩:=W.cl i h;exact ⟨s,fun _=>⟨h1,h2⟩⟩
    · exact ⟨s0,fun h'=>absurd h' h⟩
 have hstl: ∀ g,¬ StL St (fun i=>S i≠none) g (.cell ⟨b,0,none⟩):=fun g h=>(hnb ⟨b,0,none⟩ hH.1).2 g h.1
 have:=fmr (S:=S2) (jc:=fun i=>j0+1+i) (sc:=sc) (b:=b) (sb:=sb) (ab:=ab) (n:=n) (cp:=cp) (c0:=c0) (kb:=kb) (ch:=ch) (X:=X) (cs:=cs) (d:=d2) hN hsc hsh hstl hcb.2 (fun i hi=>(hscs i hi).2) (fun i i' _ _ h=>by have:j0+1+i=j0+1+i':=h;omega) n 0 fe
    (fun k hk=> ?_) f4 (by rw [f2];exact f5) (by rw [f2];exact f6) f7 Z2 (fun i _ hi=> ?_) (fun k' hk'=> ?_) (fmq Z2 hN hsh hstl hcb.2 (om_st5 Z2 hN hnext))
 · rw [hsz2] at this;refine this.mono fun gs3 u3 T3 ⟨w3,hclo,hg⟩=>⟨w3,⟨hclo.size.trans bf,hclo.os,hclo.output,fun z hz=> ?_,fun z hz=> ?_⟩,hg⟩
   · rw [hclo.same z fun ⟨i',_,a2,a3⟩=>hz (.inr ⟨i',a2,a3⟩),zl fun e=>hz (.inl e)]
   · rcases hz with rfl | ⟨i,hi,rfl⟩
     · refine ⟨k,?_⟩;rw [hclo.same z fun ⟨i',_,a2,a3⟩=>hce i' a2 a3.symm];unfold vv;exact fy5 (fx5.1 f3).1
     · exact hclo.muted _ ⟨i,f1n _,hi,rfl⟩
 · have hk0:k≠0:=fun e=>by subst e;exact hk C.none
   refine ⟨hk0,?_⟩;rw [hsz2];have:=W.no k hk;have:=W.fits;omega
 · obtain ⟨a1,a2⟩:=hscs i hi;have b1:=e7.2.1 (j0+1+i) (hR8 _ (by rw [a1];simp));have b2:=f9 (j0+1+i) fe b1.1;have hfit:=W.fits;refine ⟨b2.2.trans (b1.2.trans a1),b2.1,?_⟩;show j0+1+i<gs2.size;omega
 · by_cases e:k'=j0
   · subst e;exact f11
   · have a3:=e7.2.2 k';have a4:=f10 k'
     have:RB S k'≤1:=by
        refine (RB_le S k').resolve_right fun h8=> ?_;have hne:S k'≠none:=fun h=>by
         unfold RB at h8;rw [f02 h] at h8;split at h8 <;>omega
        have:=W.no k' hne;exact hk' (k'-j0-1) (f1n _) fe (by show k'=j0+1+(k'-j0-1);omega)
     omega
end
end Go.Proofs.YtelecjnabeokeaaGreatDoor
namespace Go.Proofs.YtelecjnabeokeaaGreatDoor
open Go Go.Conc Go.RowKit
attribute [local go_sem] z3 xz zn
section
variable {Stop:Frame→List Frame→World→Prop} {a:Act} {v:World}
def VX (Stop:Frame→List Frame→World→Prop) (c c':Code) (Q:Act→World→Prop) (a:Act) (v:World):Prop:=
 ∀ (b:Frame) (k:List Item) (l:List Frame),l≠[]→Lv Tryz.prog rg Stop (b.at a (.code c::k),l,v)→ ∃ a' v',Q a' v'∧Desc PV Stop (b.at a (.code c::k),l,v) (b.at a' (.code c'::k),l,v')
def fr9 {c:Code} {Q:Act→World→Prop} (h:Q a v):VX Stop c c Q a v:=fun b k l _ _=>⟨a,v,h,.refl _⟩
def fg1 (A:VS Tryz.prog rg Stop) {x y c':Code} {Q:Act→World→Prop} (h:VW Tryz.prog rg Stop x (fun e a' v'=>e= .normal∧VX Stop y c' Q a' v') a v):VX Stop (.seq x y) c' Q a v:=fun b k l hl L=>by
 obtain ⟨l1,e,L',ha⟩:=cy A L hl f4d;obtain rfl:=fz2 e;obtain ⟨e,a',v',fr',⟨rfl,hq⟩,harr,hb⟩:=h b (.code y::k) l hl L';obtain rfl:=harr;obtain ⟨a2,v2,h2,hd⟩:=hq b k l hl (vn A L' hb);exact ⟨a2,v2,h2,ha.to_desc.trans (hb.to_desc.trans hd)⟩
def d9 (A:VS Tryz.prog rg Stop) {c:Operand} {x y c':Code} {Q:Act→World→Prop} (h: ∀ t,a.eval c= .bool t→VX Stop (if t then x else y) c' Q a v):VX Stop (.cond c x y) c' Q a v:=fun b k l hl L=>by
 by_cases hb: ∃ t,a.eval c= .bool t
 · obtain ⟨t,hb⟩:=hb;obtain ⟨l1,e,L',ha⟩:=cy A L hl (stepG_cond hb);obtain rfl:=fz2 e;obtain ⟨a2,v2,h2,hd⟩:=h t hb b k l hl L';exact ⟨a2,v2,h2,ha.to_desc.trans hd⟩
 · exfalso;obtain ⟨_,_,_,_,hq,_⟩:=yy (Q:=fun _ _ _=>False) A (c:=c) (x:=x) (y:=y) (fun t ht=>absurd ⟨t,ht⟩ hb) b k l hl L;exact hq
def ln (A:VS Tryz.prog rg Stop) {why:String} {c':Code} {Q:Act→World→Prop}:VX Stop (.refuse why) c' Q a v:=fun b k l hl L=>by
 obtain ⟨_,_,_,_,hq,_⟩:=zi (Q:=fun _ _ _=>False) A why b k l hl L;exact hq.elim
def flh (x:Value) (v:World):(∃ h v',(Builtin.cap_ #[78] 3 #[x]).run PV v= .halt h v'∧hard h=true)∨(x= .chan none∧(Builtin.cap_ #[78] 3 #[x]).run PV v= .ok (goInt 0) v)∨
    ∃ k cap buf cl s r tm,x= .chan (some k)∧v.heap[k]? =some (.chan cap buf cl s r tm)∧(Builtin.cap_ #[78] 3 #[x]).run PV v= .ok (goInt (if tm then 0 else cap)) v:=by
 obtain ⟨e,d,hd⟩: ∃ d e,Tryz.prog.underlying 78=some (.chan d e):=⟨_,_,Tryz.underlying78⟩;have hu:(underlying 78).run PV v= .ok (.chan e d) v:=by rw [ua];exact f0u hd v
 cases x with
 | chan k=>
   cases k with
   | none=>exact .inr (.inl ⟨rfl,by simp [Builtin.cap_,fz9,hu,Result.andThen,Pure.pure,Sem.run]⟩)
   | some k=>
     have hst:(Builtin.cap_ #[78] 3 #[.chan (some k)]).run PV v=(Go.getObj k >>= fun o=>match o with
        | .chan n _ _ _ _ timer=>Pure.pure (goInt (if timer then 0 else n))
        | _=>Go.stuck "cap: channel expected" :Sem Value).run PV v:=by
        simp [Builtin.cap_,fz9,hu,Result.andThen];rfl
     rw [hst]
     rcases fg0 (P:=PV) k (fun o=>match o with
        | .chan n _ _ _ _ timer=>Pure.pure (goInt (if timer then 0 else n))
        | _=>Go.stuck "cap: channel expected" :Obj→Sem Value) v with h | ⟨o,ho,h⟩
     · exact .inl h
     · rw [h];cases o with
       | chan cap buf cl s r tm=>exact .inr (.inr ⟨k,cap,buf,cl,s,r,tm,rfl,ho,rfl⟩)
       | _=>exact .inl ⟨_,v,rfl,rfl⟩
 | _=>exact .inl ⟨_,v,by simp [Builtin.cap_,fz9,hu,Result.andThen,Go.stuck,Sem.run];rfl,rfl⟩
abbrev oe:Array Oper:= #[oper (some 4) (.call { callee:= .value (.tmp 1),args:= #[],argTypes:= #[] }) 49]
abbrev zx:Code:= .seq (.region 104 #[oper none (.send (.tmp 0) (.const (.bool true))) 0] false) .ret
abbrev doCall:Code:= .seq (.region 103 oe false) zx
def DoR (x0 x1:Value) (v:World) (a':Act) (v':World):Prop:= ∃ k cap buf cl s r tm,x0= .chan (some k)∧v.heap[k]? =some (.chan cap buf cl s r tm)∧(tm=true∨cap=0)∧0<buf.size∧
 v'=(((v.setChan k cap (buf.extract 1 buf.size) cl s (r+1) tm).alloc (.cells x1.cells 116)).alloc (.chan 0 #[] false 0 0 false)).alloc (.cells #[] 163)∧a'.defers=[]∧a'.tmps.getD 0 undef=x0∧a'.tmps.getD 1 undef=x1∧11≤a'.tmps.size
def v_do1 (A:VS Tryz.prog rg Stop) (x0 x1 x2 x3 x4 x5 x6 x7 x8 x9 x10:Value) (tl:List Value): ∃ c,doV.body=some c∧VX Stop c doCall (DoR x0 x1 v) { tmps:=(x0::x1::x2::x3::x4::x5::x6::x7::x8::x9::x10::tl).toArray,defers:=[] } v:=by
 refine ⟨_,rfl,?_⟩;refine fg1 A (ue A (uf A rfl (fun _=>rfl) ?_));have hq:=flh x0 v;go_simp;rcases hq with ⟨h,v',e,hh⟩ | ⟨rfl,e⟩ | ⟨k,cap,buf,cl,s,r,tm,rfl,hk,e⟩
 · rw [e];exact u0 hh
 · rw [e];refine uf A rfl (fun _=>rfl) ?_;go_simp;refine vi A ?_
   first | refine ⟨rfl,d9 A fun t ht=> ?_⟩ | refine d9 A fun t ht=> ?_
   cases t with
   | false=>exact ln A
   | true=>
     refine fg1 A (ue A (uf A rfl (fun _=>rfl) ?_));go_simp;refine ⟨_,rfl,⟨trivial,.inl ⟨rfl,rfl,_,_,rfl⟩⟩,fun val v2 hco=> ?_⟩;simp only [uk,f03,f2e] at hco;obtain ⟨rfl,rfl⟩:=hco;refine uf A rfl (fun _=>rfl) ?_;go_simp;refine vi A ?_
     first | refine ⟨rfl,d9 A fun t ht=> ?_⟩ | refine d9 A fun t ht=> ?_
     cases t with
     | false=>exact ln A
     | true=>simp [Act.eval,Act.put] at ht
 · rw [e];refine uf A rfl (fun _=>rfl) ?_;go_simp;refine vi A ?_
   first | refine ⟨rfl,d9 A fun t ht=> ?_⟩ | refine d9 A fun t ht=> ?_
   cases t with
   | false=>exact ln A
   | true=>
     have hcap:tm=true∨cap=0:=by
       cases tm with
       | true=>exact .inl rfl
       | false=>right;simpa [Act.eval,Act.put] using ht
     clear ht e;go_simp;refine fg1 A (ue A (uf A rfl (fun _=>rfl) ?_));go_simp;refine ⟨_,rfl,⟨trivial,.inl ⟨rfl,rfl,_,_,rfl⟩⟩,fun val v2 hco=> ?_⟩;simp only [uk,hk] at hco;by_cases hb:0<buf.size
     · simp only [hb,f0e,f03,f2e] at hco;obtain ⟨rfl,rfl⟩:=hco;refine uf A rfl (fun _=>rfl) ?_;go_simp;refine vi A ?_
       first | refine ⟨rfl,d9 A fun t ht=> ?_⟩ | refine d9 A fun t ht=> ?_
       cases t with
       | false=>exact ln A
       | true=>
         clear ht;refine fg1 A (ue A (bz A rfl (fun _=>rfl) (r:= .ok (.value _) _) rfl (bz A rfl (fun _=>rfl) (r:= .ok (.value _) _) rfl (bz A rfl (fun _=>rfl) (r:= .ok (.value _) _) rfl (vi A ⟨rfl,fr9 ?_⟩)))));exact ⟨k,cap,buf,cl,s,r,tm,rfl,hk,hcap,hb,rfl,rfl,rfl,rfl,by simp [Act.put,oper]⟩
     · simp only [hb,f0s] at hco
       have hv2:val= .tuple #[goInt 0,.bool false,undef]∨ ∃ z i,val= .tuple #[goInt i,.bool false,z]:=by
          split at hco
          · simp only [f03,f2e] at hco;exact .inr ⟨_,_,hco.1.symm⟩
          · simp only [f03,f2e] at hco;exact .inr ⟨_,_,hco.1.symm⟩
       have hv2: ∃ z i,val= .tuple #[goInt i,.bool false,z]:=hv2.elim (fun h=>⟨_,_,h⟩) id;obtain ⟨z,i,rfl⟩:=hv2;refine uf A rfl (fun _=>rfl) ?_;go_simp;refine vi A ?_
       first | refine ⟨rfl,d9 A fun t ht=> ?_⟩ | refine d9 A fun t ht=> ?_
       cases t with
       | false=>exact ln A
       | true=>simp [Act.eval,Act.put] at ht
end
end Go.Proofs.YtelecjnabeokeaaGreatDoor
namespace Go.Proofs.YtelecjnabeokeaaGreatDoor
open Go Go.Conc Go.RowKit
section
variable {P:Program} {F:Array Func} {Stop:Frame→List Frame→World→Prop} {a:Act} {v v1 w:World} {b g:Frame} {l:List Frame} {H:Hide}
def fmu (A:VS P F Stop) {fn:Func} {todo:List Item} {x:Value} (hf:F[b.fn]? =some fn) (hk:b.kind= .normal∨b.kind= .deferred) (hd:a.defers=[]) (hr:(results fn a.tmps).run (V P F) v= .ok x v)
    (L:Lv P F Stop ({ b.at a todo with mode:= .returning },g::l,v)):Ahead (V P F) Stop ({ b.at a todo with mode:= .returning },g::l,v) (ur b.kind x g,l,v):=by
 have hf':(V P F).funcs[b.fn]? =some fn:=hf;obtain ⟨es,hT⟩:=uu hr
 have hst:stepG (V P F) true (G { b.at a todo with mode:= .returning } (g::(l++[botF]))) v= .go (G (ur b.kind x g) (l++[botF])) v (seen (V P F) b.fn es):=by
    have e1:stepG (V P F) true (G { b.at a todo with mode:= .returning } (g::(l++[botF]))) v=GStep.after (seen (V P F) b.fn es) (doReturn (V P F) true { b.at a todo with mode:= .returning } (g::(l++[botF])) none x v):=by
     simp [-Sem.runT_eq,G,stepG,unwind,Frame.at,hd,hf',hT]
    rw [e1,wn (by simpa [Frame.at] using hk)];simp only [c9,ur,Frame.at,LRes.plug,GStep.after,f1t];rfl
 obtain ⟨l1,e1,_,ha'⟩:=cy A L fi (by simpa using hst);obtain rfl:=fz2 e1;exact ha'
def fra:rg[46]? =some doV:=by rw [wy,Tryz.func46];rfl
def v_do2 {Stop:Frame→List Frame→World→Prop} (A:VS Tryz.prog rg Stop) {k:Nat} {x:Value} {cap s r:Nat} {buf:Array Value} {cl tm:Bool} {ks:List Item} (hb:b.fn=46) (hk:b.kind= .normal∨b.kind= .deferred) (hd:a.defers=[]) (h0:a.tmps.getD 0 undef= .chan (some k)) (h4:a.tmps.getD 4 undef=x)
    (ho:v.heap[k]? =some (.chan cap buf cl s r tm)) (L:Lv Tryz.prog rg Stop (b.at a (.inRegion oe []:: .code zx::ks),g::l,v)):
    Ahead PV Stop (b.at a (.inRegion oe []:: .code zx::ks),g::l,v) (ur b.kind x g,l,v.setChan k cap (buf.push (.bool true)) false (s+1) r tm):=by
 obtain ⟨l1,e,L1,h1⟩:=cy A L fi f1o;obtain rfl:=fz2 e
 have hsend:VW Tryz.prog rg Stop zx (fun e a' v'=>e= .ret∧a'.defers=[]∧a'.tmps.getD 4 undef=x∧v'=v.setChan k cap (buf.push (.bool true)) false (s+1) r tm) a v:=by
    refine xk A (ue A (bz A rfl (fun _=>rfl) (r:= .ok (.comm #[⟨a.eval (.tmp 0),some (.bool true),undef⟩] true .send) v) rfl ?_));refine ⟨_,rfl,⟨trivial,.inr ⟨rfl,rfl,_,_,_,rfl⟩⟩,fun val v2 hco=> ?_⟩;have h0':a.eval (.tmp 0)= .chan (some k):=h0;simp only [uk,h0',ho] at hco;cases cl with
    | true=>simp at hco
    | false=>
      simp only at hco;split at hco
      · cases hco;exact vi A (nr A ⟨rfl,hd,h4,rfl⟩)
      · cases hco
 obtain ⟨e,a',v',fr',⟨rfl,hd',h4',rfl⟩,⟨todo,rfl⟩,h2⟩:=hsend b ks (g::l) fi L1;have L2:=vn A L1 h2;have h3:=fmu (fn:=doV) (x:=x) A (by rw [hb];exact fra) hk hd' (by rw [f0x rfl];rw [h4']) L2;exact h1.desc (h2.desc h3.to_desc).to_desc
def Rel.remark (rel:Rel H v w) {k:Nat} {o o':Obj} (hk:H k=some o) (ho:mw o' w.heap[k]?) (hok:okSt o'=true):
    Rel ⟨fun b=>if b=k then some o' else H b,H.real,H.on⟩ { v with heap:=v.heap.setIfInBounds k o' } w:=by
 have hlt:k<v.heap.size:=by
    obtain ⟨h1,_⟩:=rel.laid k o hk;exact (fx5.1 h1).1
 have hg: ∀ b:Nat,(v.heap.setIfInBounds k o')[b]? =if b=k then some o' else v.heap[b]? :=fun b=>by
    rw [fy1];by_cases e:k=b
    · subst e;simp [hlt]
    · rw [fx9 e,fx9 fun e'=>e e'.symm]
 refine ⟨by simp [rel.size],fun b hb=> ?_,fun b x hb=> ?_,rel.os,rel.output,fun b x hb=> ?_,fun b x hb=> ?_,fun hon b x hb hx=> ?_⟩
 · simp only at hb;split at hb
   · cases hb
   · rename_i hne;show (v.heap.setIfInBounds k o')[b]? =_;rw [hg,fx9 hne];exact rel.same b hb
 · simp only at hb;show (v.heap.setIfInBounds k o')[b]? =_∧_;rw [hg];split at hb
   · rename_i e;subst e;cases hb;exact ⟨by simp,ho⟩
   · rename_i hne;rw [fx9 hne];exact rel.laid b x hb
 · replace hb:(v.heap.setIfInBounds k o')[b]? =some x:=hb;rw [hg] at hb;split at hb
   · cases hb;exact hok
   · exact rel.objs b x hb
 · simp only at hb;split at hb
   · rename_i e;subst e;exact rel.kept b o hk
   · exact rel.kept b x hb
 · replace hx:(v.heap.setIfInBounds k o')[b]? =some x:=hx;simp only at hb;split at hb
   · cases hb
   · rename_i hne;rw [hg,fx9 hne] at hx;exact rel.chans hon b x hb hx
def Rel.pushHid (rel:Rel H v w) {o o':Obj} (ho:mw o (some o')) (hok:okSt o=true):
    Rel ⟨fun b=>if b=v.heap.size then some o else H b,fun b=>if b=v.heap.size then some o' else H.real b,H.on⟩ { v with heap:=v.heap.push o } { w with heap:=w.heap.push o' }:=by
 have hg: ∀ (b:Nat),(v.heap.push o)[b]? =if b=v.heap.size then some o else v.heap[b]? :=fun b=>by rw [f05]
 have hg': ∀ (b:Nat),(w.heap.push o')[b]? =if b=v.heap.size then some o' else w.heap[b]? :=fun b=>by rw [f05,rel.size]
 refine ⟨by simp [rel.size],fun b hb=> ?_,fun b x hb=> ?_,rel.os,rel.output,fun b x hb=> ?_,fun b x hb=> ?_,fun hon b x hb hx=> ?_⟩
 · simp only at hb;split at hb
   · cases hb
   · rename_i hne;show (v.heap.push o)[b]? =(w.heap.push o')[b]?;rw [hg,hg',fx9 hne,fx9 hne];exact rel.same b hb
 · simp only at hb;show (v.heap.push o)[b]? =_∧mw x (w.heap.push o')[b]?;rw [hg,hg'];split at hb
   · rename_i e;rw [f02 e,f02 e];cases hb;exact ⟨rfl,ho⟩
   · rename_i hne;rw [fx9 hne,fx9 hne];exact rel.laid b x hb
 · replace hb:(v.heap.push o)[b]? =some x:=hb;rw [hg] at hb;split at hb
   · cases hb;exact hok
   · exact rel.objs b x hb
 · show (w.heap.push o')[b]? =_;rw [hg'];simp only at hb ⊢;split at hb
   · rename_i e;rw [f02 e,f02 e]
   · rename_i hne;rw [fx9 hne,fx9 hne];exact rel.kept b x hb
 · replace hx:(v.heap.push o)[b]? =some x:=hx;simp only at hb;split at hb
   · cases hb
   · rename_i hne;rw [hg,fx9 hne] at hx;exact rel.chans hon b x hb hx
def Rel.reReal (rel:Rel H v w) {k:Nat} {o o':Obj} (hk:H k=some o) (ho:mw o (some o')) (hlt:k<w.heap.size):
    Rel ⟨H.at_,fun b=>if b=k then some o' else H.real b,H.on⟩ v { w with heap:=w.heap.setIfInBounds k o' }:=by
 have hg: ∀ b:Nat,(w.heap.setIfInBounds k o')[b]? =if b=k then some o' else w.heap[b]? :=fun b=>by
    rw [fy1];by_cases e:k=b
    · subst e;simp [hlt]
    · rw [fx9 e,fx9 fun e'=>e e'.symm]
 refine ⟨by simp [rel.size],fun b hb=> ?_,fun b x hb=> ?_,rel.os,rel.output,rel.objs,fun b x hb=> ?_,rel.chans⟩
 · have hne:b≠k:=by rintro rfl;simp only at hb;rw [hk] at hb;cases hb
   show _=(w.heap.setIfInBounds k o')[b]?;rw [hg,fx9 hne];exact rel.same b hb
 · show _∧mw x (w.heap.setIfInBounds k o')[b]?;rw [hg];split
   · rename_i e;subst e;simp only at hb;rw [hk] at hb;cases hb;exact ⟨(rel.laid b o hk).1,ho⟩
   · exact rel.laid b x hb
 · show (w.heap.setIfInBounds k o')[b]? =_;rw [hg];simp only;split
   · rfl
   · exact rel.kept b x hb
end
def virt57:rg[57]? =some lockV:=by rw [wy,Tryz.func57];rfl
def virt58:rg[58]? =some unlockV:=by rw [wy,Tryz.func58];rfl
section
variable {Stop:Frame→List Frame→World→Prop} {g:Frame} {l:List Frame} {v:World} {args:Array Value} {kind:CallKind}
def mh {args:Array Value} {L:List Value} (h: ∀ i,L.getD i undef=args.getD i undef) {x0:Value} {tl:List Value} (e:L=x0::tl):args.getD 0 undef=x0:=by
 subst e;exact (h 0).symm
def v_lock (A:VS Tryz.prog rg Stop) (L:Lv Tryz.prog rg Stop (Frame.enter PV 57 args kind,g::l,v)):
    ∃ d v',fo8 0 1 (args.getD 0 undef) (reW v v.tape d) v'∧Ahead PV Stop (Frame.enter PV 57 args kind,g::l,v) (ur kind (.tuple #[]) g,l,v'):=by
 obtain ⟨x,v',⟨rfl,d,hR⟩,ha⟩:=fgw (R:=fun x v'=>x= .tuple #[]∧ ∃ d,fo8 0 1 (args.getD 0 undef) (reW v v.tape d) v') A virt57 rfl L (by
    obtain ⟨Ls,hlen,hL,h0⟩:=fa5 args 3;show VW Tryz.prog rg Stop (.seq chkR fql) _ { tmps:=args++Array.replicate (3-args.size) undef,defers:=[] } v;rw [hL];rcases Ls with _ | ⟨x0,_ | ⟨x1,_ | ⟨x2,tl⟩⟩⟩ <;>first | (simp at hlen;done) | skip
    refine fmm A fun d hv=> ?_;have h:=v_lockB A x0 x1 x2 tl (v:=reW v v.tape d) (fun p hp=>hv p hp);intro b k l hl L;obtain ⟨e,a',v',fr',⟨rfl,hd,hR⟩,harr,ha⟩:=h b k l hl L;refine ⟨_,a',v',fr',⟨.inr rfl,hd,.tuple #[],f2g rfl _ _ _,rfl,d,?_⟩,harr,ha⟩;rw [mh h0 rfl];exact hR)
 exact ⟨d,v',hR,ha⟩
def fuc (A:VS Tryz.prog rg Stop) (L:Lv Tryz.prog rg Stop (Frame.enter PV 58 args kind,g::l,v)):
    ∃ d v',fo8 1 0 (args.getD 0 undef) (reW v v.tape d) v'∧Ahead PV Stop (Frame.enter PV 58 args kind,g::l,v) (ur kind (.tuple #[]) g,l,v'):=by
 obtain ⟨x,v',⟨rfl,d,hR⟩,ha⟩:=fgw (R:=fun x v'=>x= .tuple #[]∧ ∃ d,fo8 1 0 (args.getD 0 undef) (reW v v.tape d) v') A virt58 rfl L (by
    obtain ⟨Ls,hlen,hL,h0⟩:=fa5 args 3;show VW Tryz.prog rg Stop (.seq chkR fe5) _ { tmps:=args++Array.replicate (3-args.size) undef,defers:=[] } v;rw [hL];rcases Ls with _ | ⟨x0,_ | ⟨x1,_ | ⟨x2,tl⟩⟩⟩ <;>first | (simp at hlen;done) | skip
    refine fmm A fun d hv=> ?_;have h:=fqp A x0 x1 x2 tl (v:=reW v v.tape d) (fun p hp=>hv p hp);intro b k l hl L;obtain ⟨e,a',v',fr',⟨rfl,hd,hR⟩,harr,ha⟩:=h b k l hl L;refine ⟨_,a',v',fr',⟨.inr rfl,hd,.tuple #[],f2g rfl _ _ _,rfl,d,?_⟩,harr,ha⟩;rw [mh h0 rfl];exact hR)
 exact ⟨d,v',hR,ha⟩
end
def spec_lock:SpecOk Tryz.prog rg 57:=by
 intro Stop WS Shun Φ args kind g l v A hR Fx Sx H S St h X cs gs w T q hk hlt L I C hD hcont;obtain ⟨d,v',⟨p,hp,hc,hz,rfl⟩,ha⟩:=v_lock A L;have hc:v.cell? p=some (.int .i32 0):=hc;have hz:v.frozen? p=false:=hz;have hH:=I.rel.hidden_cell hc;have hcw:=I.rel.cell hc;have hzw:=(I.rel.frozen hH).trans hz;have hog:=fqr (main:=h==0) (H:=H) (Shun:=Shun) (w:=w) (n:=0) (c:=X) (cs:=cs) (Φ:=fun a w' k=>a=G (ur kind (.tuple #[]) X) cs∧(∃ d,w'=(w.setCell p (.int .i32 1)).at d)∧k=0) hk hp hH hcw hzw (.now fun d=>⟨rfl,⟨d,rfl⟩,rfl⟩);refine (C.og I.prot hog hD).trans fun gs' w' T' hh=> ?_;obtain ⟨a',q',⟨rfl,⟨d',rfl⟩,hD'⟩,hsz,C'⟩:=hh;have rel':Rel H ((reW v v.tape d).setCell p (.int .i32 1)) ((w.setCell p (.int .i32 1)).at d'):=(((I.rel.re' v.tape d).setCell hH _).re _ _);exact hcont _ _ _ _ _ _ _ _ _ ha (I.step rel') hsz C' hD'
def spec_unlock:SpecOk Tryz.prog rg 58:=by
 intro Stop WS Shun Φ args kind g l v A hR Fx Sx H S St h X cs gs w T q hk hlt L I C hD hcont;obtain ⟨d,v',⟨p,hp,hc,hz,rfl⟩,ha⟩:=fuc A L;have hc:v.cell? p=some (.int .i32 1):=hc;have hz:v.frozen? p=false:=hz;have hH:=I.rel.hidden_cell hc;have hcw:=I.rel.cell hc;have hzw:=(I.rel.frozen hH).trans hz;have hog:=fqs (main:=h==0) (H:=H) (Shun:=Shun) (w:=w) (n:=0) (c:=X) (cs:=cs) (Φ:=fun a w' k=>a=G (ur kind (.tuple #[]) X) cs∧(∃ d,w'=(w.setCell p (.int .i32 0)).at d)∧k=0) hk hp hH hcw hzw (.now fun d=>⟨rfl,⟨d,rfl⟩,rfl⟩);refine (C.og I.prot hog hD).trans fun gs' w' T' hh=> ?_;obtain ⟨a',q',⟨rfl,⟨d',rfl⟩,hD'⟩,hsz,C'⟩:=hh;have rel':Rel H ((reW v v.tape d).setCell p (.int .i32 0)) ((w.setCell p (.int .i32 0)).at d'):=(((I.rel.re' v.tape d).setCell hH _).re _ _);exact hcont _ _ _ _ _ _ _ _ _ ha (I.step rel') hsz C' hD'
end Go.Proofs.YtelecjnabeokeaaGreatDoor
namespace Go.Proofs.YtelecjnabeokeaaGreatDoor
open Go Go.Conc
open Go.ConcN (sumTo upd sumTo_upd upd_ne upd_same)
section
variable {P:Program} {Φ:Array Goroutine→World→Trace→Prop} {St:Nat→Loc→Prop} {Shun:Loc→Prop} {Hear:Nat→Prop} {S:Nat→Option SeatD} {h:Nat} {a a' a₂:Goroutine} {T:Trace} {gs gs':Array Goroutine} {w w':World} {q:Nat→Nat}
def Hold.quiet {ops:Array MemOp} (C:Hold P St Shun Hear S h a T gs w q) (hsz:gs'.size=gs.size) (hh:gs'[h]? =some a') (ho: ∀ x,x≠h→gs'[x]? =gs[x]?) (h1:w.heap.size≤w'.heap.size)
    (h2: ∀ i s,S i=some s→w'.heap[s.c]? =w.heap[s.c]? ∧Keeps s.D w') (hops: ∀ op∈ops,op.g=h) (hmute: ∀ op∈ops,op.act.touch? =Option.none) (hq: ∀ g,∀ op∈ops,∀ d,deafStep g d op=d) (hl: ∀ op∈ops,op.act.low w'.heap.size):
    Hold P St Shun Hear S h a' (T++ops) gs' w' q∧Deaf (T++ops) h=Deaf T h:=by
 have hD: ∀ g,Deaf (T++ops) g=Deaf T g:=fun g=>Deaf_quiet (hq g);refine ⟨⟨⟨fun x y hx hy=> ?_,fun i s e=> ?_,C.crew.rows,fun i s e=>(h2 i s e).2,C.crew.inj,fun i s e=> ?_,fun i s e=> ?_,fun j hj=> ?_⟩,hh,?_,C.hears,C.none⟩,hD h⟩
 · rw [ho x hx] at hy;have hi:=C.crew.idle x y hx hy;cases es:S x with
   | none=>rw [es] at hi;exact ⟨hi.1,by rw [hD];exact hi.2⟩
   | some s=>rw [es] at hi;exact hi
 · obtain ⟨k,hk⟩:=C.crew.chans i s e;exact ⟨k,by rw [(h2 i s e).1];exact hk⟩
 · exact ⟨f08 (C.crew.low i s e).1 h1,f0f (C.crew.low i s e).2 h1⟩
 · rw [hD];exact C.crew.hear i s e
 · rw [hD];exact C.crew.above j fe
 · exact (C.past.mono h1).appMute hops hmute (fun hh=>by rw [hD];exact C.past.hears h hh) hl
def Hold.lone_recv (C:Hold P St Shun Hear S h a T gs w q) {c:Nat} (hno: ∀ i s,S i=some s→s.c≠c):partners (gs.setIfInBounds h ph) c false=[]:=by
 refine partners_nil fun x y hy=> ?_;rcases th hy with rfl | ⟨hx,hy'⟩
 · exact offersAt_ph _ _
 · exact C.crew.noRecv hx hy' c fun s hs=>hno x s hs
def Hold.lone_send (C:Hold P St Shun Hear S h a T gs w q) (c:Nat):partners (gs.setIfInBounds h ph) c true=[]:=by
 refine partners_nil fun x y hy=> ?_;rcases th hy with rfl | ⟨hx,hy'⟩
 · exact offersAt_ph _ _
 · exact C.crew.noSend hx hy' c
def Hold.till (C:Hold P St Shun Hear S h a T gs w q) (hrun:a.status= .running) (hD:Deaf T h=0)
    (own: ∀ gs1 T q d sl,gs1.size=gs.size→Deaf T h=0→Hold P St Shun Hear S h a T gs1 (w.at d) q→ ∃ gs' w' ops,runT P (crowd gs1 (w.at d) sl) h=(.next (crowd gs' w' sl),ops)∧Φ gs' w' (T++ops)) (hNo: ∀ g,¬ Hear g):Leads P Φ gs w T:=by
 have key: ∀ (μ:Nat) (gs1:Array Goroutine) (T:Trace) (q:Nat→Nat) (d:Nat),sumTo gs1.size q=μ→gs1.size=gs.size→Deaf T h=0→Hold P St Shun Hear S h a T gs1 (w.at d) q→Leads P Φ gs1 (w.at d) T:=by
    intro μ
    induction μ using Nat.strongRecOn with
    | _ μ ih2=>
      intro gs1 T q d hμ hsz hk C
      have hSp: ∀ x gx,x=h→gs1[x]? =some gx→gx=a:=fun x gx hx hgx=>by
        subst hx;rw [C.here] at hgx;exact (fy7 hgx).symm
      refine Leads.pick (C.crew.awake fun x gx hx hgx=> .inl kp) ⟨h,a,C.here,hrun⟩ fun i y d' sl hi hy=> ?_;have C':Hold P St Shun Hear S h a T gs1 (w.at d') q:=by have:=C.at d';exact this
      by_cases e:i=h
      · subst e;obtain ⟨gs',w',ops,e1,e2⟩:=own gs1 T q d' sl hsz hk C';exact ⟨gs',w',ops,e1,.done e2⟩
      · obtain ⟨gs',ops,q',s1,s2,s3,s4,s5,s6,s7,_,s8⟩:=C'.crew.by_step (sl:=sl) hi e hy (fun x gx hx hgx=>by rw [hSp x gx hx hgx];exact yf hrun _)
          (fun s g₂ hs _ x gx hx hgx=>f0l kq _ _)
        refine ⟨gs',w.at d',ops,s1,ih2 (sumTo gs'.size q') (by rw [s2];omega) gs' (T++ops) q' d' rfl (by rw [s2,hsz]) pz ⟨s5,?_,?_,C'.hears,C'.none⟩⟩
        · rw [s3 h (fun e'=>e e'.symm)];exact C'.here
        · exact s8 Shun Hear h (fun hh=>(hNo i hh).elim) C'.past
 exact key _ gs T q w.drawn rfl rfl hD (C.at _)
def Hold.send_room {c cap s r:Nat} {buf:Array Value} {tm:Bool} {x z:Value} {bl:Bool} {sh:CommShape} (C:Hold P St Shun u5 S h a T gs w q) (hrun:a.status= .running) (hD:Deaf T h=0)
    (hst: ∀ d,stepG P (h==0) a (w.at d)= .comm a₂ #[scase c x z] bl sh (w.at d) #[]) (hc:w.heap[c]? =some (.chan cap buf false s r tm)) (hroom:buf.size<cap) (hno: ∀ i s,S i=some s→s.c≠c∧s.D c=Option.none):
    Leads P (fun gs' w' T'=> ∃ q' d,w'=(w.at d).setChan c cap (buf.push x) false (s+1) r tm∧gs'.size=gs.size∧Deaf T' h=0∧Hold P St Shun u5 S h (a₂.finishComm P #[scase c x z] sh 0 undef false) T' gs' w' q') gs w T:=by
 have hlt:c<w.heap.size:=(fx5.1 hc).1;refine C.till hrun hD (fun gs1 T q d sl hsz hk C1=> ?_) (fun g hg=>hg);have hr:=crowd_send_room (sl:=sl) C1.here (hst d) hc hroom (C1.lone_recv fun i s1 hs=>(hno i s1 hs).1);refine ⟨_,_,_,hr,q,d,rfl,by simpa using hsz,?_⟩;have hlt2:h<gs1.size:=(fx5.1 C1.here).1
 obtain ⟨C2,e⟩:=C1.quiet (gs':=gs1.setIfInBounds h (a₂.finishComm P #[scase c x z] sh 0 undef false)) (a':=a₂.finishComm P #[scase c x z] sh 0 undef false) (w':=(w.at d).setChan c cap (buf.push x) false (s+1) r tm)
    (ops:=MemOp.ofEvents h a.frame.fn a.frame.place #[]++ #[{ g:=h,fn:=a₂.frame.fn,pos:=a₂.frame.place,act:= .send c s },{ g:=h,fn:=a₂.frame.fn,pos:=a₂.frame.place,act:= .sendDone c s }])
    fi (fy5 hlt2) (fun x hx=>fy4 (fun e=>hx e.symm)) (by simp [World.setChan])
    (fun i s1 hs=>⟨w8 (hno i s1 hs).1 _ _ _ _ _ _,fun b o hb=>by
      have hne:b≠c:=by rintro rfl;rw [(hno i s1 hs).2] at hb;cases hb
      rw [w8 hne];exact C1.crew.keeps i s1 hs b o hb⟩)
    (fun op hop=>by simp [MemOp.ofEvents] at hop;rcases hop with rfl | rfl <;>rfl) (fun op hop=>by simp [MemOp.ofEvents] at hop;rcases hop with rfl | rfl <;>rfl)
    (fun g op hop d=>by simp [MemOp.ofEvents] at hop;rcases hop with rfl | rfl <;>rfl) (fun op hop=>by simp [MemOp.ofEvents] at hop;rcases hop with rfl | rfl <;>(show c<_;simp only [World.setChan,f00];exact hlt))
 exact ⟨by rw [e];exact hk,C2⟩
def Hold.recv_buf {c cap s r:Nat} {buf:Array Value} {cl tm:Bool} {z:Value} {bl:Bool} {sh:CommShape} (C:Hold P St Shun u5 S h a T gs w q) (hrun:a.status= .running) (hD:Deaf T h=0)
    (hst: ∀ d,stepG P (h==0) a (w.at d)= .comm a₂ #[rcase c z] bl sh (w.at d) #[]) (hc:w.heap[c]? =some (.chan cap buf cl s r tm)) (hsome:0<buf.size) (hno: ∀ i s,S i=some s→s.c≠c∧s.D c=Option.none):
    Leads P (fun gs' w' T'=> ∃ q' d,w'=(w.at d).setChan c cap (buf.extract 1 buf.size) cl s (r+1) tm∧gs'.size=gs.size∧Deaf T' h=0∧Hold P St Shun u5 S h (a₂.finishComm P #[rcase c z] sh 0 (buf.getD 0 undef) true) T' gs' w' q') gs w T:=by
 have hlt:c<w.heap.size:=(fx5.1 hc).1;refine C.till hrun hD (fun gs1 T q d sl hsz hk C1=> ?_) (fun g hg=>hg);have hr:=crowd_recv_buf (sl:=sl) C1.here (hst d) hc hsome (C1.lone_send c);refine ⟨_,_,_,hr,q,d,rfl,by simpa using hsz,?_⟩;have hlt2:h<gs1.size:=(fx5.1 C1.here).1
 obtain ⟨C2,e⟩:=C1.quiet (gs':=gs1.setIfInBounds h (a₂.finishComm P #[rcase c z] sh 0 (buf.getD 0 undef) true)) (a':=a₂.finishComm P #[rcase c z] sh 0 (buf.getD 0 undef) true) (w':=(w.at d).setChan c cap (buf.extract 1 buf.size) cl s (r+1) tm)
    (ops:=MemOp.ofEvents h a.frame.fn a.frame.place #[]++ #[{ g:=h,fn:=a₂.frame.fn,pos:=a₂.frame.place,act:= .recv c r cap },{ g:=h,fn:=a₂.frame.fn,pos:=a₂.frame.place,act:= .recvDone c r }])
    fi (fy5 hlt2) (fun x hx=>fy4 (fun e=>hx e.symm)) (by simp [World.setChan])
    (fun i s1 hs=>⟨w8 (hno i s1 hs).1 _ _ _ _ _ _,fun b o hb=>by
      have hne:b≠c:=by rintro rfl;rw [(hno i s1 hs).2] at hb;cases hb
      rw [w8 hne];exact C1.crew.keeps i s1 hs b o hb⟩)
    (fun op hop=>by simp [MemOp.ofEvents] at hop;rcases hop with rfl | rfl <;>rfl) (fun op hop=>by simp [MemOp.ofEvents] at hop;rcases hop with rfl | rfl <;>rfl)
    (fun g op hop d=>by simp [MemOp.ofEvents] at hop;rcases hop with rfl | rfl <;>rfl) (fun op hop=>by simp [MemOp.ofEvents] at hop;rcases hop with rfl | rfl <;>(show c<_;simp only [World.setChan,f00];exact hlt))
 exact ⟨by rw [e];exact hk,C2⟩
def Hold.recv_closed {c cap s r:Nat} {tm:Bool} {z:Value} {bl:Bool} {sh:CommShape} (C:Hold P St Shun u5 S h a T gs w q) (hrun:a.status= .running) (hD:Deaf T h=0)
    (hst: ∀ d,stepG P (h==0) a (w.at d)= .comm a₂ #[rcase c z] bl sh (w.at d) #[]) (hc:w.heap[c]? =some (.chan cap #[] true s r tm)):
    Leads P (fun gs' w' T'=> ∃ q' d,w'=w.at d∧gs'.size=gs.size∧Deaf T' h=0∧Hold P St Shun u5 S h (a₂.finishComm P #[rcase c z] sh 0 z false) T' gs' w' q') gs w T:=by
 have hlt:c<w.heap.size:=(fx5.1 hc).1;refine C.till hrun hD (fun gs1 T q d sl hsz hk C1=> ?_) (fun g hg=>hg);have hr:=crowd_recv_closed (sl:=sl) C1.here (hst d) hc (C1.lone_send c);refine ⟨_,_,_,hr,q,d,rfl,by simpa using hsz,?_⟩;have hlt2:h<gs1.size:=(fx5.1 C1.here).1
 obtain ⟨C2,e⟩:=C1.quiet (gs':=gs1.setIfInBounds h (a₂.finishComm P #[rcase c z] sh 0 z false)) (a':=a₂.finishComm P #[rcase c z] sh 0 z false) (w':=w.at d)
    (ops:=MemOp.ofEvents h a.frame.fn a.frame.place #[]++ #[{ g:=h,fn:=a₂.frame.fn,pos:=a₂.frame.place,act:= .recvClosed c }])
    fi (fy5 hlt2) (fun x hx=>fy4 (fun e=>hx e.symm)) (fx8 _)
    (fun i s1 hs=>⟨rfl,C1.crew.keeps i s1 hs⟩)
    (fun op hop=>by simp [MemOp.ofEvents] at hop;rcases hop with rfl;rfl) (fun op hop=>by simp [MemOp.ofEvents] at hop;rcases hop with rfl;rfl)
    (fun g op hop d=>by simp [MemOp.ofEvents] at hop;rcases hop with rfl;rfl) (fun op hop=>by simp [MemOp.ofEvents] at hop;rcases hop with rfl;exact hlt)
 exact ⟨by rw [e];exact hk,C2⟩
def Hold.recv_default {c cap s r:Nat} {tm:Bool} {z:Value} {sh:CommShape} (C:Hold P St Shun u5 S h a T gs w q) (hrun:a.status= .running) (hD:Deaf T h=0)
    (hst: ∀ d,stepG P (h==0) a (w.at d)= .comm a₂ #[rcase c z] false sh (w.at d) #[]) (hc:w.heap[c]? =some (.chan cap #[] false s r tm)):
    Leads P (fun gs' w' T'=> ∃ q' d,w'=w.at d∧gs'.size=gs.size∧Deaf T' h=0∧Hold P St Shun u5 S h (a₂.finishComm P #[rcase c z] sh (-1) undef false) T' gs' w' q') gs w T:=by
 refine C.till hrun hD (fun gs1 T q d sl hsz hk C1=> ?_) (fun g hg=>hg)
 have hr:=crowd_default (sl:=sl) C1.here (hst d) (fun cc hcc=>by
    obtain rfl:cc=rcase c z:=by simpa using hcc
    exact ways_recv_none (w₁:=w.at d) hc (C1.lone_send c))
 refine ⟨_,_,_,hr,q,d,rfl,by simpa using hsz,?_⟩;have hlt2:h<gs1.size:=(fx5.1 C1.here).1
 obtain ⟨C2,e⟩:=C1.quiet (gs':=gs1.setIfInBounds h (a₂.finishComm P #[rcase c z] sh (-1) undef false)) (a':=a₂.finishComm P #[rcase c z] sh (-1) undef false) (w':=w.at d)
    (ops:=MemOp.ofEvents h a.frame.fn a.frame.place #[])
    fi (fy5 hlt2) (fun x hx=>fy4 (fun e=>hx e.symm)) (fx8 _)
    (fun i s1 hs=>⟨rfl,C1.crew.keeps i s1 hs⟩)
    (fun op hop=>by simp [MemOp.ofEvents] at hop) (fun op hop=>by simp [MemOp.ofEvents] at hop)
    (fun g op hop d=>by simp [MemOp.ofEvents] at hop) (fun op hop=>by simp [MemOp.ofEvents] at hop)
 exact ⟨by rw [e];exact hk,C2⟩
end
end Go.Proofs.YtelecjnabeokeaaGreatDoor
namespace Go.Proofs.YtelecjnabeokeaaGreatDoor
open Go Go.Conc Go.RowKit
attribute [local go_sem] z3 xz zn
def cT:Code→Code
 | .cond _ x _=>x
 | _=> .skip
def opr_ld {P:Program} {ρ:Operand→Value} {o:Oper} {t:TypeId} {y:Operand} {x:Value} {u u':World} (ho:o.op= .load t y) (h:(Instr.loadAt t (ρ y)).run P u= .ok x u'):(execOp ρ o).run P u= .ok (.value x) u':=by
 unfold execOp;rw [ho];exact qw h
def opr_st {P:Program} {ρ:Operand→Value} {o:Oper} {t:TypeId} {y z:Operand} {u u':World} (ho:o.op= .store t y z) (h:(Instr.storeAt t (ρ y) (ρ z)).run P u= .ok () u'):(execOp ρ o).run P u= .ok .skip u':=by
 unfold execOp;rw [ho];exact qw h
def fg2 {P:Program} {ρ:Operand→Value} {o:Oper} {e:TypeId} {y:Operand} {z:Value} {w:World} (ho:o.op= .select #[{ chan:=y,send:=none,elem:=e }] false) (hz:(zeroValue e).runT P w #[]=(.ok z w,#[])):
    (execOp ρ o).runT P w #[]=(.ok (.comm #[{ chan:=ρ y,send:=none,zero:=z }] false .select) w,#[]):=by
 unfold execOp;rw [ho];have h1:(zeroValue e).run P w= .ok z w:=by rw [← f0d _ _ _ #[],hz]
 have h2:(zeroValue e).events P w #[]= #[]:=by rw [show (zeroValue e).events P w #[]=((zeroValue e).runT P w #[]).2 from rfl,hz]
 dsimp only;rw [f3y];simp only [List.mapM_cons,List.mapM_nil];refine f2v ?_ ?_
 · rw [f0d];simp [go_sem,h1]
 · show Sem.events P _ w #[]= #[];simp [go_sem,h1,h2]
def Tryz.zero110 (w:World):(zeroValue 110).runT Tryz.prog w #[]=(.ok (.agg zero110) w,#[]):=by
 refine f2v ?_ ?_
 · rw [f0d];go_simp
 · show Sem.events Tryz.prog _ w #[]= #[];simp [go_sem]
section
variable {main:Bool} {H:Hide} {Shun:Loc→Prop} {Φ:Goroutine→World→Nat→Prop} {v v' w:World} {n:Nat} {X:Frame} {cs:List Frame} {b:Frame} {a:Act} {k:List Item} {ops:Array Oper} {i:Nat} {rest:List Nat} {o:Oper} {x:Value} {t:TypeId} {y z:Operand}
def fg3 {P:Program} {id:Nat} (h:OG P main H Shun Φ (G (b.at a k) cs) w n):OG P main H Shun Φ (G (b.at a (.inBlock id::k)) cs) w n:=io rfl (fun _=>stepG_inBlock) h
def frb (rel:Rel H v w) (ho:ops[i]? =some o) (hop:o.op= .load t y) (hw:Region.wanted o (yielded ops a.tmps)=true) (hk:b.kind≠ .early) (hv:(Instr.loadAt t (a.eval y)).run PV v= .ok x v)
    (h: ∀ w1,Rel H v w1→OG Tryz.prog main H Shun Φ (G (b.at (a.put o.dst x) (.inRegion ops rest::k)) cs) w1 n):OG Tryz.prog main H Shun Φ (G (b.at a (.inRegion ops (i::rest)::k)) cs) w n:=
 fqd (F:=rg) rel ho hw hk (af md _ (by simp [okOp,hop])) (opr_ld hop hv) rfl h
def og_st (rel:Rel H v w) (ho:ops[i]? =some o) (hop:o.op= .store t y z) (hw:Region.wanted o (yielded ops a.tmps)=true) (hk:b.kind≠ .early) (hv:(Instr.storeAt t (a.eval y) (a.eval z)).run PV v= .ok () v')
    (h: ∀ w1,Rel H v' w1→OG Tryz.prog main H Shun Φ (G (b.at (a.put o.dst undef) (.inRegion ops rest::k)) cs) w1 n):OG Tryz.prog main H Shun Φ (G (b.at a (.inRegion ops (i::rest)::k)) cs) w n:=
 fky (F:=rg) rel ho hw hk (af md _ (by simp [okOp,hop])) (opr_st hop hv) (ffc _ _ _ v rel.objs _ _ hv) h
end
noncomputable abbrev pkC:Code:=zw Tryz.f116
noncomputable abbrev fay:Code:=cR (cR pkC)
noncomputable abbrev pkA:Code:=cT (cR (cL (cR pkC)))
noncomputable abbrev ir:Array Oper:=cOps (cL (cR pkA))
noncomputable abbrev fc5:Code:=cR (cR pkA)
abbrev pB (kind:CallKind):Frame:={ (default:Frame) with fn:=116,kind:=kind }
section
variable {main:Bool} {H:Hide} {Shun:Loc→Prop} {Φ:Goroutine→World→Nat→Prop} {v v' w:World} {n:Nat} {X:Frame} {cs:List Frame}
def fh7 {kind:CallKind} {p:Addr} {res:Value} {a:Act} (hk:kind= .normal∨kind= .deferred) (rel:Rel H v w) (h0:a.eval (.tmp 0)= .pointer (some p)) (hd:a.defers=[]) (hsz:24≤a.tmps.size) (hl:(Instr.loadAt 147 (.pointer (some (p.add 1)))).run PV v= .ok res v)
    (h: ∀ w1,Rel H v w1→OG Tryz.prog main H Shun Φ (G (ur kind res X) cs) w1 n):OG Tryz.prog main H Shun Φ (G ((pB kind).at a [.code fay]) (X::cs)) w n:=by
 have hk':kind≠ .early:=by rcases hk with rfl | rfl <;>simp
 obtain ⟨L,ds0,hlen,rfl⟩:=wb a hsz;rcases L with _ | ⟨x0,_ | ⟨x1,_ | ⟨x2,_ | ⟨x3,_ | ⟨x4,_ | ⟨x5,_ | ⟨x6,_ | ⟨x7,_ | ⟨x8,_ | ⟨x9,_ | ⟨x10,_ | ⟨x11,_ | ⟨x12,_ | ⟨x13,_ | ⟨x14,_ | ⟨x15,_ | ⟨x16,_ | ⟨x17,_ | ⟨x18,_ | ⟨x19,_ | ⟨x20,_ | ⟨x21,_ | ⟨x22,_ | ⟨x23,tl⟩⟩⟩⟩⟩⟩⟩⟩⟩⟩⟩⟩⟩⟩⟩⟩⟩⟩⟩⟩⟩⟩⟩⟩ <;>first | (simp at hlen;done) | skip
 have h0:x0= .pointer (some p):=h0;have hd:ds0=[]:=hd;subst h0;subst hd;refine uv (rm ?_);refine ov (.pointer (some p)) w ?_;refine ov (.pointer (some p)) w ?_;refine ov (.pointer (some (p.add 1))) w ?_;walk_nrm;refine frb (t:=147) (y:= .tmp 22) rel rfl rfl rfl hk' hl fun w1 rel1=> ?_;walk_nrm;refine ox res w1 ?_;walk_nrm;refine u7 (fiv (ze hk rfl Tryz.func116 (x:=res) ?_ (h w1 rel1)));exact resultsC_tmp (t:=2) (show Tryz.f116.results= #[.tmp 2] from rfl) _
def frc (p:Addr) (k:Nat) (a:Act):Prop:=a.eval (.tmp 0)= .pointer (some p)∧a.eval (.tmp 12)= .chan (some k)∧a.defers=[]∧24≤a.tmps.size
def frd {kind:CallKind} {p:Addr} {hd:Option Addr} {args:Array Value} (hk:kind= .normal∨kind= .deferred) (rel:Rel H v w) (hp:args.getD 0 undef= .pointer (some p)) (hl:(Instr.loadAt 147 (.pointer (some (p.add 1)))).run PV v= .ok (.pointer hd) v)
    (h1: ∀ q,hd=some q→ ∀ w1,Rel H v w1→OG Tryz.prog main H Shun Φ (G (ur kind (.pointer (some q)) X) cs) w1 n)
    (h2:hd=none→ ∃ k,(Instr.loadAt 146 (.pointer (some p))).run PV v= .ok (.chan (some k)) v∧ ∀ a w1,Rel H v w1→frc p k a→OG Tryz.prog main H Shun Φ (G ((pB kind).at a [.inRegion ir [0,1,2],.code fc5,.code fay]) (X::cs)) w1 n):
    OG Tryz.prog main H Shun Φ (G (Frame.enter Tryz.prog 116 args kind) (X::cs)) w n:=by
 have hk':kind≠ .early:=by rcases hk with rfl | rfl <;>simp
 rw [enter_at Tryz.func116 rfl];obtain ⟨L,hlen,hL,hg⟩:=fa5 args Tryz.f116.ntmps;rw [hL];have hlen:24≤L.length:=hlen;rcases L with _ | ⟨x0,_ | ⟨x1,_ | ⟨x2,_ | ⟨x3,_ | ⟨x4,_ | ⟨x5,_ | ⟨x6,_ | ⟨x7,_ | ⟨x8,_ | ⟨x9,_ | ⟨x10,_ | ⟨x11,_ | ⟨x12,_ | ⟨x13,_ | ⟨x14,_ | ⟨x15,_ | ⟨x16,_ | ⟨x17,_ | ⟨x18,_ | ⟨x19,_ | ⟨x20,_ | ⟨x21,_ | ⟨x22,_ | ⟨x23,tl⟩⟩⟩⟩⟩⟩⟩⟩⟩⟩⟩⟩⟩⟩⟩⟩⟩⟩⟩⟩⟩⟩⟩⟩ <;>first | (simp at hlen;done) | skip
 have hx0:=(hg 0).trans hp;simp only [f1y] at hx0;subst hx0;refine uv (rm ?_);refine ov (.pointer none) w ?_;walk_nrm;refine u7 (uv (uv (rm ?_)));refine ov (.pointer (some p)) w ?_;refine ov (.pointer (some p)) w ?_;refine ov (.pointer (some (p.add 1))) w ?_;walk_nrm;refine frb (t:=147) (y:= .tmp 6) rel rfl rfl rfl hk' hl fun w1 rel1=> ?_;walk_nrm;cases hd with
 | some q=>
   refine ov (.bool false) w1 ?_;walk_nrm;refine u7 (xl (t:=false) rfl (oa ?_));exact fh7 hk rel1 rfl rfl fi hl fun w2 rel2=>h1 q rfl w2 rel2
 | none=>
   obtain ⟨k,hch,h2⟩:=h2 rfl;refine ov (.bool true) w1 ?_;walk_nrm;refine u7 (xl (t:=true) rfl (uv (rm ?_)));refine ov (.pointer (some p)) w1 ?_;refine ov (.pointer (some p)) w1 ?_;refine ov (.pointer (some p)) w1 ?_;walk_nrm;refine frb (t:=146) (y:= .tmp 11) rel1 rfl rfl rfl hk' hch fun w2 rel2=> ?_;walk_nrm;refine u7 (uv (rm ?_));exact h2 _ w2 rel2 ⟨rfl,rfl,rfl,by simp⟩
end
end Go.Proofs.YtelecjnabeokeaaGreatDoor
namespace Go.Proofs.YtelecjnabeokeaaGreatDoor
open Go Go.Conc Go.RowKit
attribute [local go_sem] z3 xz zn
section
variable {main:Bool} {H:Hide} {Shun:Loc→Prop} {Φ:Goroutine→World→Nat→Prop} {v v' w:World} {n:Nat} {X:Frame} {cs:List Frame}
def fw4 {kind:CallKind} {p:Addr} {k:Nat} {y res:Value} {ok:Bool} {a:Act} {v3:World} (hk:kind= .normal∨kind= .deferred) (rel:Rel H v w) (ha:frc p k a)
    (hs3:(Instr.storeAt 110 (.pointer (some ⟨v.heap.size,0,none⟩)) y).run PV (v.alloc (.cells zero110 110))= .ok () v3) (hs4:(Instr.storeAt 147 (.pointer (some (p.add 1))) (.pointer (some ⟨v.heap.size,0,none⟩))).run PV v3= .ok () v') (hl:(Instr.loadAt 147 (.pointer (some (p.add 1)))).run PV v'= .ok res v')
    (h: ∀ w1,Rel H v' w1→OG Tryz.prog main H Shun Φ (G (ur kind res X) cs) w1 n):
    OG Tryz.prog main H Shun Φ (G ((pB kind).at (a.put (some 13) (.tuple #[goInt 0,.bool ok,y])) [.inRegion ir [1,2],.code fc5,.code fay]) (X::cs)) w n:=by
 have hk':kind≠ .early:=by rcases hk with rfl | rfl <;>simp
 obtain ⟨h0,h12,hd,hsz⟩:=ha;obtain ⟨L,ds0,hlen,rfl⟩:=wb a hsz;rcases L with _ | ⟨x0,_ | ⟨x1,_ | ⟨x2,_ | ⟨x3,_ | ⟨x4,_ | ⟨x5,_ | ⟨x6,_ | ⟨x7,_ | ⟨x8,_ | ⟨x9,_ | ⟨x10,_ | ⟨x11,_ | ⟨x12,_ | ⟨x13,_ | ⟨x14,_ | ⟨x15,_ | ⟨x16,_ | ⟨x17,_ | ⟨x18,_ | ⟨x19,_ | ⟨x20,_ | ⟨x21,_ | ⟨x22,_ | ⟨x23,tl⟩⟩⟩⟩⟩⟩⟩⟩⟩⟩⟩⟩⟩⟩⟩⟩⟩⟩⟩⟩⟩⟩⟩⟩ <;>first | (simp at hlen;done) | skip
 have h0:x0= .pointer (some p):=h0;have hd:ds0=[]:=hd;subst h0;subst hd;dsimp only [ir,pkA,pkC,zw,cOps,cL,cR,cT,Tryz.f116];walk_nrm;refine ox (goInt 0) w ?_;refine ov (.bool true) w ?_;walk_nrm;refine u7 (fcf (xl (t:=true) rfl (uv (rm ?_))));refine ox y w ?_;walk_nrm;refine fqd (F:=rg) (v1:=v.alloc (.cells zero110 110)) (x:= .pointer (some ⟨v.heap.size,0,none⟩)) rel rfl rfl hk' (af md _ rfl) gw rfl fun w1 rel1=> ?_;walk_nrm;refine og_st (t:=110) (y:= .tmp 3) (z:= .tmp 16) rel1 rfl rfl rfl hk' hs3 fun w2 rel2=> ?_;walk_nrm;refine u7 (rm ?_);refine ov (.pointer (some p)) w2 ?_;refine ov (.pointer (some p)) w2 ?_;refine ov (.pointer (some (p.add 1))) w2 ?_;walk_nrm;refine og_st (t:=147) (y:= .tmp 19) (z:= .tmp 3) rel2 rfl rfl rfl hk' hs4 fun w3 rel3=> ?_;walk_nrm;refine u7 (fg3 ?_);exact fh7 hk rel3 rfl rfl fi hl h
def og_pk3 {kind:CallKind} {p:Addr} {k:Nat} {res z:Value} {a:Act} (hk:kind= .normal∨kind= .deferred) (rel:Rel H v w) (ha:frc p k a) (hl:(Instr.loadAt 147 (.pointer (some (p.add 1)))).run PV v= .ok res v)
    (h: ∀ w1,Rel H v w1→OG Tryz.prog main H Shun Φ (G (ur kind res X) cs) w1 n):
    OG Tryz.prog main H Shun Φ (G ((pB kind).at (a.put (some 13) (.tuple #[goInt (-1),.bool false,z])) [.inRegion ir [1,2],.code fc5,.code fay]) (X::cs)) w n:=by
 have hk':kind≠ .early:=by rcases hk with rfl | rfl <;>simp
 obtain ⟨h0,h12,hd,hsz⟩:=ha;obtain ⟨L,ds0,hlen,rfl⟩:=wb a hsz;rcases L with _ | ⟨x0,_ | ⟨x1,_ | ⟨x2,_ | ⟨x3,_ | ⟨x4,_ | ⟨x5,_ | ⟨x6,_ | ⟨x7,_ | ⟨x8,_ | ⟨x9,_ | ⟨x10,_ | ⟨x11,_ | ⟨x12,_ | ⟨x13,_ | ⟨x14,_ | ⟨x15,_ | ⟨x16,_ | ⟨x17,_ | ⟨x18,_ | ⟨x19,_ | ⟨x20,_ | ⟨x21,_ | ⟨x22,_ | ⟨x23,tl⟩⟩⟩⟩⟩⟩⟩⟩⟩⟩⟩⟩⟩⟩⟩⟩⟩⟩⟩⟩⟩⟩⟩⟩ <;>first | (simp at hlen;done) | skip
 have h0:x0= .pointer (some p):=h0;have hd:ds0=[]:=hd;subst h0;subst hd;dsimp only [ir,pkA,pkC,zw,cOps,cL,cR,cT,Tryz.f116];walk_nrm;refine ox (goInt (-1)) w ?_;refine ov (.bool false) w ?_;walk_nrm;refine u7 (fcf (xl (t:=false) rfl (oa (fg3 ?_))));exact fh7 hk rel rfl rfl fi hl h
end
end Go.Proofs.YtelecjnabeokeaaGreatDoor
namespace Go.Proofs.YtelecjnabeokeaaGreatDoor
open Go Go.Conc Go.RowKit
def fh8 {H:Hide} {v w:World} (rel:Rel H v w) {k cap s r:Nat} {buf:Array Value} {cl:Bool} (hk:v.heap[k]? =some (.chan cap buf cl s r false)) (hcap:cap≠0):H k=none:=by
 cases e:H k with
 | none=>rfl
 | some o=>
   obtain ⟨h1,h2⟩:=rel.laid k o e;rw [hk] at h1;cases h1;rcases h2 with ⟨_,_,h,_⟩ | ⟨h,_⟩ | ⟨x,j,h,_⟩
   · cases h
   · cases h
   · injection h with h1 h2 h3 h4 h5 h6
     rcases x.ok with ⟨h,_⟩ | ⟨_,h,_⟩
     · exact absurd (h1.trans h) hcap
     · rw [h] at h6;cases h6
def virt116:rg[116]? =some peekV:=by rw [wy,Tryz.func116];rfl
section
variable {Stop:Frame→List Frame→World→Prop} {g:Frame} {l:List Frame} {v:World} {args:Array Value} {kind:CallKind}
def v_peek (A:VS Tryz.prog rg Stop) (L:Lv Tryz.prog rg Stop (Frame.enter PV 116 args kind,g::l,v)):
    ∃ x v',(∃ d p,args.getD 0 undef= .pointer (some p)∧PeekR p (reW v v.tape d) v' x)∧Ahead PV Stop (Frame.enter PV 116 args kind,g::l,v) (ur kind x g,l,v'):=by
 obtain ⟨x,v',⟨d,p,h1,h2⟩,ha⟩:=fgw (R:=fun x v'=> ∃ d p,args.getD 0 undef= .pointer (some p)∧PeekR p (reW v v.tape d) v' x) A virt116 rfl L (by
    obtain ⟨Ls,hlen,hL,h0⟩:=fa5 args 24;show VW Tryz.prog rg Stop (.seq chkR fo6) _ { tmps:=args++Array.replicate (24-args.size) undef,defers:=[] } v;rw [hL];rcases Ls with _ | ⟨x0,_ | ⟨x1,_ | ⟨x2,_ | ⟨x3,_ | ⟨x4,_ | ⟨x5,_ | ⟨x6,_ | ⟨x7,_ | ⟨x8,_ | ⟨x9,_ | ⟨x10,_ | ⟨x11,_ | ⟨x12,_ | ⟨x13,_ | ⟨x14,_ | ⟨x15,_ | ⟨x16,tl⟩⟩⟩⟩⟩⟩⟩⟩⟩⟩⟩⟩⟩⟩⟩⟩⟩ <;>first | (simp at hlen;done) | skip
    refine fmm A fun d hv=> ?_;have h:=v_peekB A x0 x1 x2 x3 x4 x5 x6 x7 x8 x9 x10 x11 x12 x13 x14 x15 x16 tl (v:=reW v v.tape d);intro b k l hl L;obtain ⟨e,a',v',fr',⟨rfl,hd,p,hp,hR⟩,harr,ha⟩:=h b k l hl L;refine ⟨_,a',v',fr',⟨.inr rfl,hd,_,f0x (t:=2) (show peekV.results= #[.tmp 2] from rfl) _ _ _,d,p,?_,hR⟩,harr,ha⟩;rw [mh h0 rfl];exact hp)
 exact ⟨x,v',⟨d,p,h1,h2⟩,ha⟩
end
def fed (k:Nat) (z y:Value) (ok:Bool):commResult #[rcase k z] .select 0 y ok= .tuple #[goInt 0,.bool ok,y]:=by simp [commResult,rcase]
def fjk (k:Nat) (z y:Value) (ok:Bool):commResult #[rcase k z] .select (-1) y ok= .tuple #[goInt (-1),.bool ok,z]:=by simp [commResult,rcase]
def fli {P:Program} {kind:CallKind} {a:Act} {k:Nat} {z y:Value} {ok:Bool} {cs:List Frame} {j:Int}:(G ((pB kind).at a [.inRegion ir [0,1,2],.code fc5,.code fay]) cs).finishComm P #[rcase k z] .select j y ok=
    G ((pB kind).at (a.put (some 13) (commResult #[rcase k z] .select j y ok)) [.inRegion ir [1,2],.code fc5,.code fay]) cs:=by
 unfold Goroutine.finishComm;generalize commResult #[rcase k z] .select j y ok=x;show G (((pB kind).at a [.inRegion ir [0,1,2],.code fc5,.code fay]).finish x) cs=_;rw [f0i];rfl
def spec_peek:SpecOk Tryz.prog rg 116:=by
 intro Stop WS Shun Φ args kind g l v A hR Fx Sx H S St h X cs gs w T q hk hlt L I C hD hcont;obtain ⟨x,v',⟨d,p,hp,hcase⟩,ha⟩:=v_peek A L;have relu:Rel H (reW v v.tape d) w:=I.rel.re' v.tape d;generalize reW v v.tape d=u at hcase relu;have hk':kind≠ .early:=by rcases hk with rfl | rfl <;>simp
 have fin: ∀ {x:Value} {v' w':World} {gs':Array Goroutine} {T':Trace} {q':Nat→Nat} {g':Goroutine},Ahead PV Stop (Frame.enter PV 116 args kind,g::l,v) (ur kind x g,l,v')→(OG Tryz.prog (h==0) H Shun (fun a w' k=>a=G (ur kind x X) cs∧Rel H v' w'∧k=0) g' w' 0)→gs'.size=gs.size→Deaf T' h=0→Hold Tryz.prog St Shun u5 S h g' T' gs' w' q'→
  Leads Tryz.prog Φ gs' w' T':=fun {x v' w' gs' T' q' g'} ha hog hsz hD C=>by
    refine (C.og I.prot hog hD).trans fun gs' w' T' hh=> ?_;obtain ⟨a',q',⟨rfl,rel',hD'⟩,hsz2,C'⟩:=hh;exact hcont _ _ _ _ _ _ _ _ _ ha (I.step rel') (hsz2.trans hsz) C' hD'
 cases hcase with
 | has q0 hl=>
   refine fin ha (frd hk relu hp hl (fun q1 e w1 rel1=> ?_) (fun e=>by cases e)) rfl hD C;cases e;exact .now fun d=>⟨rfl,rel1.re _ _,rfl⟩
 | empty k cap s r hl hch hkk hcap=>
   have hog:=frd (main:=h==0) (Shun:=Shun) (X:=X) (cs:=cs) (n:=0) (Φ:=fun a w' n=>(∃ a0,a=G ((pB kind).at a0 [.inRegion ir [0,1,2],.code fc5,.code fay]) (X::cs)∧frc p k a0)∧Rel H v' w'∧n=0) hk relu hp hl (fun q1 e=>by cases e)
    (fun _=>⟨k,hch,fun a w1 rel1 hat=> .now fun d=>⟨⟨a,rfl,hat⟩,rel1.re _ _,rfl⟩⟩)
   refine (C.og I.prot hog hD).trans fun gs1 w1 T1 hh=> ?_;obtain ⟨g1,q1,⟨⟨a0,rfl,hat⟩,rel1,hD1⟩,hsz1,C1⟩:=hh;have hHk:=fh8 rel1 hkk hcap;have hc:w1.heap[k]? =some (.chan cap #[] false s r false):=by rw [← rel1.same _ hHk];exact hkk
   have hst: ∀ d,stepG Tryz.prog (h==0) (G ((pB kind).at a0 [.inRegion ir [0,1,2],.code fc5,.code fay]) (X::cs)) (w1.at d)= .comm (G ((pB kind).at a0 [.inRegion ir [0,1,2],.code fc5,.code fay]) (X::cs)) #[rcase k (.agg zero110)] false .select (w1.at d) #[]:=fun d=>by
    have hr:=fg2 (P:=Tryz.prog) (ρ:=a0.eval) (o:=ir[0]) (e:=110) (y:= .tmp 12) (w:=w1.at d) rfl (Tryz.zero110 _);rw [hat.2.1] at hr;rw [stepG_comm (o:=ir[0]) rfl rfl hk' qa,listed_none pu];rfl
   refine (C1.recv_default rfl hD1 hst hc).trans fun gs2 w2 T2 hh=> ?_;obtain ⟨q2,d2,rfl,hsz2,hD2,C2⟩:=hh;rw [fli,fjk] at C2;exact fin ha (og_pk3 hk (rel1.re w1.tape d2) hat hl fun w3 rel3=> .now fun d=>⟨rfl,rel3.re _ _,rfl⟩) (hsz2.trans hsz1) hD2 C2
 | gets k cap s r buf cl y ok v1 v3 v' res hl hch hkk hcap hcond hs3 hs4 hres=>
   have hog:=frd (main:=h==0) (Shun:=Shun) (X:=X) (cs:=cs) (n:=0) (Φ:=fun a w' n=>(∃ a0,a=G ((pB kind).at a0 [.inRegion ir [0,1,2],.code fc5,.code fay]) (X::cs)∧frc p k a0)∧Rel H u w'∧n=0) hk relu hp hl (fun q1 e=>by cases e)
    (fun _=>⟨k,hch,fun a w1 rel1 hat=> .now fun d=>⟨⟨a,rfl,hat⟩,rel1.re _ _,rfl⟩⟩)
   refine (C.og I.prot hog hD).trans fun gs1 w1 T1 hh=> ?_;obtain ⟨g1,q1,⟨⟨a0,rfl,hat⟩,rel1,hD1⟩,hsz1,C1⟩:=hh;have hHk:=fh8 rel1 hkk hcap;have hc:w1.heap[k]? =some (.chan cap buf cl s r false):=by rw [← rel1.same _ hHk];exact hkk
   have hst: ∀ d,stepG Tryz.prog (h==0) (G ((pB kind).at a0 [.inRegion ir [0,1,2],.code fc5,.code fay]) (X::cs)) (w1.at d)= .comm (G ((pB kind).at a0 [.inRegion ir [0,1,2],.code fc5,.code fay]) (X::cs)) #[rcase k (.agg zero110)] false .select (w1.at d) #[]:=fun d=>by
    have hr:=fg2 (P:=Tryz.prog) (ρ:=a0.eval) (o:=ir[0]) (e:=110) (y:= .tmp 12) (w:=w1.at d) rfl (Tryz.zero110 _);rw [hat.2.1] at hr;rw [stepG_comm (o:=ir[0]) rfl rfl hk' qa,listed_none pu];rfl
   rcases hcond with ⟨hb,rfl,rfl,rfl⟩ | ⟨rfl,rfl,rfl,rfl,rfl⟩
   · refine (C1.recv_buf rfl hD1 hst hc hb (fun i s hs=>⟨fun e=>(I.prot.seats i s hs).1 (by rw [e];exact hHk),?_⟩)).trans fun gs2 w2 T2 hh=> ?_
     · cases e:s.D k with
       | none=>rfl
       | some o=>exact absurd hHk ((I.prot.seats i s hs).2 k o e)
     obtain ⟨q2,d2,rfl,hsz2,hD2,C2⟩:=hh;have hbs:sg (.chan cap buf cl s r false)=true:=rel1.chans I.on k _ hHk hkk;have rel2:Rel H (u.setChan k cap (buf.extract 1 buf.size) cl s (r+1) false) ((w1.at d2).setChan k cap (buf.extract 1 buf.size) cl s (r+1) false):=
      (rel1.re w1.tape d2).setBlock hHk rfl fun _=>by
        simp [sg] at hbs ⊢;omega
     rw [fli,fed] at C2;exact fin ha (fw4 (ok:=true) hk rel2 hat hs3 hs4 hres fun w3 rel3=> .now fun d=>⟨rfl,rel3.re _ _,rfl⟩) (hsz2.trans hsz1) hD2 C2
   · refine (C1.recv_closed rfl hD1 hst hc).trans fun gs2 w2 T2 hh=> ?_;obtain ⟨q2,d2,rfl,hsz2,hD2,C2⟩:=hh;rw [fli,fed] at C2;exact fin ha (fw4 (ok:=false) hk (rel1.re w1.tape d2) hat hs3 hs4 hres fun w3 rel3=> .now fun d=>⟨rfl,rel3.re _ _,rfl⟩) (hsz2.trans hsz1) hD2 C2
attribute [local go_sem] z3 xz zn
def fjl {P:Program} {ρ:Operand→Value} {o:Oper} {f:FuncId} {fn:Func} {y:Operand} {ts:Array TypeId} (ho:o.op= .call { callee:= .value (.func f),args:= #[y],argTypes:=ts }) (hf:P.funcs[f]? =some fn) (hn:(fn.name== "runtime.NumGoroutine")=false) (hb:fn.body.isNone=false) (hρ:ρ (.func f)= .func (.func f) #[] #[]) (w:World):
    (execOp ρ o).runT P w #[]=(.ok (.enter f #[ρ y]) w,#[]):=by
 have e:execOp ρ o=callFunc f #[ρ y]:=by
    unfold execOp;rw [ho];show (Deferred.ofValue (ρ (.func f)) (#[y].map ρ) >>= fun d=>invoke d.target d.args)=_;rw [hρ];show callFunc f (#[]++ #[y].map ρ++ #[])=_;simp
 rw [e]
 have e1 : (callFunc f #[ρ y]).runT P w #[]=(match P.funcs[f]? with
        | none=>Go.stuck "call: no such function"
        | some fn=>if fn.name== "runtime.NumGoroutine" then Pure.pure Next.numGoroutine else if fn.body.isNone then (do
           mark (.extern f)
           if let some e:=Extern.findNext fn then return ← e #[ρ y]
           match Extern.find fn with
           | some e=>Pure.pure (.value (← e #[ρ y]))
           | none=>if fn.name.endsWith ".init" && !fn.name.startsWith "(" && !fn.name.startsWith "gosem." then Pure.pure (.value (.tuple #[])) else unsupported (.extern fn.name)) else Pure.pure (.enter f #[ρ y]):Sem Next).runT P w #[]:=rfl
 rw [e1,hf];simp only [hn,hb,f0g,f0s];rfl
def flj {P:Program} {ρ:Operand→Value} {o:Oper} {e:TypeId} {y x:Operand} {z:Value} {w:World} (ho:o.op= .select #[{ chan:=y,send:=some x,elem:=e }] false) (hz:(zeroValue e).runT P w #[]=(.ok z w,#[])):
    (execOp ρ o).runT P w #[]=(.ok (.comm #[{ chan:=ρ y,send:=some (ρ x),zero:=z }] false .select) w,#[]):=by
 unfold execOp;rw [ho];have h1:(zeroValue e).run P w= .ok z w:=by rw [← f0d _ _ _ #[],hz]
 have h2:(zeroValue e).events P w #[]= #[]:=by rw [show (zeroValue e).events P w #[]=((zeroValue e).runT P w #[]).2 from rfl,hz]
 dsimp only;rw [f3y];simp only [List.mapM_cons,List.mapM_nil];refine f2v ?_ ?_
 · rw [f0d];simp [go_sem,h1]
 · show Sem.events P _ w #[]= #[];simp [go_sem,h1,h2]
noncomputable abbrev ptC:Code:=zw Tryz.f90
noncomputable abbrev ptR1:Array Oper:=cOps (cL (cL (cR ptC)))
noncomputable abbrev fee:Code:=cR (cL (cR ptC))
noncomputable abbrev ip:Code:=cR (cR ptC)
noncomputable abbrev fwl:Code:=cR ip
noncomputable abbrev fef:Array Oper:=cOps (cL fwl)
noncomputable abbrev fjm:Code:=cR fwl
abbrev tB (kind:CallKind):Frame:={ (default:Frame) with fn:=90,kind:=kind }
def fmv (x0 q:Value) (a:Act):Prop:=a.eval (.tmp 0)=x0∧a.eval (.tmp 3)=q∧a.defers=[]∧15≤a.tmps.size
def fre (k:Nat) (f:Value) (a:Act):Prop:=a.eval (.tmp 10)= .chan (some k)∧a.eval (.tmp 11)=f∧a.defers=[]∧15≤a.tmps.size
section
variable {main:Bool} {H:Hide} {Shun:Loc→Prop} {Φ:Goroutine→World→Nat→Prop} {v v' w:World} {n:Nat} {X:Frame} {cs:List Frame}
def og_pt1 {kind:CallKind} {args:Array Value} {x0 x1:Value} (hk:kind= .normal∨kind= .deferred) (rel:Rel H v w) (h0:args.getD 0 undef=x0) (h1:args.getD 1 undef=x1)
    (h: ∀ a w1,Rel H (v.alloc (.cells x1.cells 110)) w1→fmv x0 (.pointer (some ⟨v.heap.size,0,none⟩)) a→OG Tryz.prog main H Shun Φ (G (Frame.enter Tryz.prog 87 #[x0] .normal) ((tB kind).at a [.inRegion ptR1 [1],.code fee,.code ip]::X::cs)) w1 n):
    OG Tryz.prog main H Shun Φ (G (Frame.enter Tryz.prog 90 args kind) (X::cs)) w n:=by
 have hk':kind≠ .early:=by rcases hk with rfl | rfl <;>simp
 rw [enter_at Tryz.func90 rfl];obtain ⟨L,hlen,hL,hg⟩:=fa5 args Tryz.f90.ntmps;rw [hL];have hlen:15≤L.length:=hlen;rcases L with _ | ⟨x0,_ | ⟨x1,_ | ⟨x2,_ | ⟨x3,_ | ⟨x4,_ | ⟨x5,_ | ⟨x6,_ | ⟨x7,_ | ⟨x8,_ | ⟨x9,_ | ⟨x10,_ | ⟨x11,_ | ⟨x12,_ | ⟨x13,_ | ⟨x14,tl⟩⟩⟩⟩⟩⟩⟩⟩⟩⟩⟩⟩⟩⟩⟩ <;>first | (simp at hlen;done) | skip
 have hx0:=(hg 0).trans h0;have hx1:=(hg 1).trans h1;simp only [f1y,List.getD_cons_succ] at hx0 hx1;subst hx0;subst hx1;refine uv (rm ?_);refine fqd (F:=rg) (v1:=v.alloc (.cells x1.cells 110)) (x:= .pointer (some ⟨v.heap.size,0,none⟩)) rel rfl rfl hk' (af md _ rfl) rfl rfl fun w1 rel1=> ?_;walk_nrm;refine ox (.bool false) w1 ?_;walk_nrm;refine u7 (uv (uv (rm ?_)));refine ox x0 w1 ?_;walk_nrm;have hc: ∀ d,_:=fun d=>fjl (P:=Tryz.prog) (ρ:=Act.eval { tmps:=(x0::x1::x2:: .pointer (some ⟨v.heap.size,0,none⟩):: .bool false::x0::x6::x7::x8::x9::x10::x11::x12::x13::x14::tl).toArray,defers:=[] }) (o:=ptR1[1]) (y:= .tmp 5) rfl Tryz.func87 fd fd rfl (w1.at d);refine fmn (o:=ptR1[1]) rfl rfl hk' (fun d=>by rw [← f0d _ _ _ #[]];exact f3q Prod.fst (hc d)) (fun d e he=> ?_) (h _ _ rel1 ⟨rfl,rfl,rfl,by simp⟩);rw [show (execOp _ ptR1[1]).events Tryz.prog (w1.at d) #[]=_ from f3q Prod.snd (hc d)] at he;simp at he
def fw5 {kind:CallKind} {a:Act} {x:Value}:((tB kind).at a [.inRegion ptR1 [1],.code fee,.code ip]).finish x=(tB kind).at (a.put (some 6) x) [.inRegion ptR1 [],.code fee,.code ip]:=by rw [f0i];rfl
def og_pt2 {kind:CallKind} {x0 q:Value} {a:Act} (hk:kind= .normal∨kind= .deferred) (ha:fmv x0 q a) (h:OG Tryz.prog main H Shun Φ (G (ur kind (.bool false) X) cs) w n):
    OG Tryz.prog main H Shun Φ (G (((tB kind).at a [.inRegion ptR1 [1],.code fee,.code ip]).finish (.bool true)) (X::cs)) w n:=by
 have hk':kind≠ .early:=by rcases hk with rfl | rfl <;>simp
 obtain ⟨h0a,h3a,hda,hsza⟩:=ha;obtain ⟨L,ds0,hlen,rfl⟩:=wb a hsza;rcases L with _ | ⟨x0,_ | ⟨x1,_ | ⟨x2,_ | ⟨x3,_ | ⟨x4,_ | ⟨x5,_ | ⟨x6,_ | ⟨x7,_ | ⟨x8,_ | ⟨x9,_ | ⟨x10,_ | ⟨x11,_ | ⟨x12,_ | ⟨x13,_ | ⟨x14,tl⟩⟩⟩⟩⟩⟩⟩⟩⟩⟩⟩⟩⟩⟩⟩ <;>first | (simp at hlen;done) | skip
 have hd:ds0=[]:=hda;subst hd;rw [fw5];walk_nrm;refine u7 (xl (t:=true) rfl (uv (rm ?_)));refine ox (.bool false) w ?_;walk_nrm;refine u7 (fiv (ze hk rfl Tryz.func90 (x:= .bool false) ?_ h));exact resultsC_tmp (t:=4) (show Tryz.f90.results= #[.tmp 4] from rfl) _
def og_pt3 {kind:CallKind} {p:Addr} {q f:Value} {k:Nat} {a:Act} (hk:kind= .normal∨kind= .deferred) (rel:Rel H v w) (ha:fmv (.pointer (some p)) q a) (hch:(Instr.loadAt 146 (.pointer (some p))).run PV v= .ok (.chan (some k)) v) (hf:(Instr.loadAt 110 q).run PV v= .ok f v)
    (h: ∀ a w1,Rel H v w1→fre k f a→OG Tryz.prog main H Shun Φ (G ((tB kind).at a [.inRegion fef [0,1,2],.code fjm]) (X::cs)) w1 n):
    OG Tryz.prog main H Shun Φ (G (((tB kind).at a [.inRegion ptR1 [1],.code fee,.code ip]).finish (.bool false)) (X::cs)) w n:=by
 have hk':kind≠ .early:=by rcases hk with rfl | rfl <;>simp
 obtain ⟨h0a,h3a,hda,hsza⟩:=ha;obtain ⟨L,ds0,hlen,rfl⟩:=wb a hsza;rcases L with _ | ⟨x0,_ | ⟨x1,_ | ⟨x2,_ | ⟨x3,_ | ⟨x4,_ | ⟨x5,_ | ⟨x6,_ | ⟨x7,_ | ⟨x8,_ | ⟨x9,_ | ⟨x10,_ | ⟨x11,_ | ⟨x12,_ | ⟨x13,_ | ⟨x14,tl⟩⟩⟩⟩⟩⟩⟩⟩⟩⟩⟩⟩⟩⟩⟩ <;>first | (simp at hlen;done) | skip
 have hd:ds0=[]:=hda;have h0:x0= .pointer (some p):=h0a;have h3:x3=q:=h3a;subst hd;subst h0;subst h3;rw [fw5];have hR:ip=ip:=rfl
 conv at hR=>lhs;dsimp only [ip,ptC,zw,cOps,cL,cR,Tryz.f90]
 rw [← hR];clear hR;walk_nrm;refine u7 (xl (t:=false) rfl (oa (uv (uv (rm ?_)))));refine qz (x:= .pointer (some p)) (w1:=w) rfl rfl hk' (fun d=>by clear h0a h3a hch hf h hlen;go_simp) (fx8 _) (fun _ _=>rfl) (fun d e he=>by first | (simp [go_sem] at he;done) | (have he:e∈(#[]:Array Event):=he;simp at he)) ?_;refine qz (x:= .pointer (some p)) (w1:=w) rfl rfl hk' (fun d=>by clear h0a h3a hch hf h hlen;go_simp) (fx8 _) (fun _ _=>rfl) (fun d e he=>by first | (simp [go_sem] at he;done) | (have he:e∈(#[]:Array Event):=he;simp at he)) ?_;refine qz (x:= .pointer (some p)) (w1:=w) rfl rfl hk' (fun d=>by clear h0a h3a hch hf h hlen;go_simp) (fx8 _) (fun _ _=>rfl) (fun d e he=>by first | (simp [go_sem] at he;done) | (have he:e∈(#[]:Array Event):=he;simp at he)) ?_;walk_nrm;refine frb (t:=146) (y:= .tmp 9) rel rfl rfl rfl hk' hch fun w1 rel1=> ?_;walk_nrm;refine u7 (rm ?_);refine frb (t:=110) (y:= .tmp 3) rel1 rfl rfl rfl hk' hf fun w2 rel2=> ?_;walk_nrm;refine u7 (uv (rm ?_));exact h _ w2 rel2 ⟨rfl,rfl,rfl,by simp⟩
def og_pt4 {kind:CallKind} {k:Nat} {f:Value} {a:Act} {bb:Value} (hk:kind= .normal∨kind= .deferred) (ha:fre k f a) (h:OG Tryz.prog main H Shun Φ (G (ur kind (.bool true) X) cs) w n):
    OG Tryz.prog main H Shun Φ (G ((tB kind).at (a.put (some 12) (.tuple #[goInt 0,bb])) [.inRegion fef [1,2],.code fjm]) (X::cs)) w n:=by
 have hk':kind≠ .early:=by rcases hk with rfl | rfl <;>simp
 obtain ⟨h0a,h3a,hda,hsza⟩:=ha;obtain ⟨L,ds0,hlen,rfl⟩:=wb a hsza;rcases L with _ | ⟨x0,_ | ⟨x1,_ | ⟨x2,_ | ⟨x3,_ | ⟨x4,_ | ⟨x5,_ | ⟨x6,_ | ⟨x7,_ | ⟨x8,_ | ⟨x9,_ | ⟨x10,_ | ⟨x11,_ | ⟨x12,_ | ⟨x13,_ | ⟨x14,tl⟩⟩⟩⟩⟩⟩⟩⟩⟩⟩⟩⟩⟩⟩⟩ <;>first | (simp at hlen;done) | skip
 have hd:ds0=[]:=hda;subst hd;dsimp only [fef,fwl,ip,ptC,zw,cOps,cL,cR,Tryz.f90];walk_nrm;refine ox (goInt 0) w ?_;refine ov (.bool true) w ?_;walk_nrm;refine u7 (fcf (xl (t:=true) rfl (uv (rm ?_))));refine ox (.bool true) w ?_;walk_nrm;refine u7 (fiv (ze hk rfl Tryz.func90 (x:= .bool true) ?_ h));exact resultsC_tmp (t:=4) (show Tryz.f90.results= #[.tmp 4] from rfl) _
def pt_comm {P:Program} {kind:CallKind} {a:Act} {k:Nat} {z f y:Value} {ok:Bool} {cs:List Frame} {j:Int}:(G ((tB kind).at a [.inRegion fef [0,1,2],.code fjm]) cs).finishComm P #[scase k f z] .select j y ok=
    G ((tB kind).at (a.put (some 12) (commResult #[scase k f z] .select j y ok)) [.inRegion fef [1,2],.code fjm]) cs:=by
 unfold Goroutine.finishComm;generalize commResult #[scase k f z] .select j y ok=x;show G (((tB kind).at a [.inRegion fef [0,1,2],.code fjm]).finish x) cs=_;rw [f0i];rfl
def flk (k:Nat) (z y f:Value) (ok:Bool):commResult #[scase k f z] .select 0 y ok= .tuple #[goInt 0,.bool ok]:=by simp [commResult,scase]
end
end Go.Proofs.YtelecjnabeokeaaGreatDoor
namespace Go.Proofs.YtelecjnabeokeaaGreatDoor
open Go Go.Conc Go.RowKit
structure WsOk (WS:Nat→Option SeatD) (Shun:Loc→Prop):Prop where
 ok: ∀ j s,WS j=some s→s.ok=true∧s.z= .nilFunc∧ ∃ ds c0,c0≠[]∧ ∀ g,s.home g↔fbr ds c0 s.c g
 inj: ∀ i j s s',WS i=some s→WS j=some s'→s.c=s'.c→i=j
section
variable {P:Program} {main:Bool} {K:World→Prop} {Still Still':Loc→Prop} {B:Nat} {n:Nat} {g:Goroutine} {s:Seat}
def fjn (h: ∀ l,Still l→Still' l) {e:Event} (he:EvC Still B e):EvC Still' B e:=by
 obtain ⟨a,rfl,h1,h2⟩:=he;exact ⟨a,rfl,h _ h1,h2⟩
def faz (h: ∀ l,Still l→Still' l) {g2:Goroutine} (ha:AtIn P main K Still B s g g2):AtIn P main K Still' B s g g2:=by
 obtain ⟨h1,h2,h3,h4,h5,es,h6,h7⟩:=ha;exact ⟨h1,h2,h3,h4,h5,es,fun e he=>fjn h (h6 e he),h7⟩
def fof (h: ∀ l,Still l→Still' l) {k:Nat} {w:World} (hg:Goes P main (RK K) (DS Still B) (fun g _=> ∃ g₂,AtIn P main K Still B s g g₂) k g w):Goes P main (RK K) (DS Still' B) (fun g _=> ∃ g₂,AtIn P main K Still' B s g g₂) k g w:=by
 induction k generalizing g w with
 | zero=>exact fun w1 h1=>(hg w1 h1).imp fun _=>faz h
 | succ k ih=>
   rcases hg with hs | ⟨hr,hs⟩
   · exact .inl fun w1 h1=>(hs w1 h1).imp fun _=>faz h
   · refine .inr ⟨hr,fun w1 h1=> ?_⟩;have hs:=hs w1 h1;cases hgo:stepG P main g w1 with
     | go g' w' es=>
       rw [hgo,goes_go] at hs;rw [goes_go];exact ⟨⟨hs.1.1,fun e he=>fjn h (hs.1.2 e he)⟩,ih hs.2⟩
     | _=>rw [hgo] at hs;exact hs.elim
def fb0 (h: ∀ l,Still l→Still' l) (hs:Sits P main K Still B s n g):Sits P main K Still' B s n g:=by
 rcases hs with ⟨k,w,hn,hg⟩ | ⟨hn,g0,g2,hg,ha⟩
 · exact .inl ⟨k,w,hn,fof h hg⟩
 · exact .inr ⟨hn,g0,g2,hg,faz h ha⟩
end
section
variable {P:Program} {St:Nat→Loc→Prop} {Shun:Loc→Prop} {S:Nat→Option SeatD} {h:Nat} {a:Goroutine} {T:Trace} {gs:Array Goroutine} {w:World} {q:Nat→Nat}
def Hold.grow {Hear:Nat→Prop} (C:Hold P St Shun Hear S h a T gs w q) {p:Addr} (hn: ¬ Shun (.cell p)):Hold P (fun g' l'=>St g' l'∨(g'=h∧l'= .cell p)) Shun Hear S h a T gs w q:=by
 refine ⟨⟨fun i g hi hg=> ?_,C.crew.chans,C.crew.rows,C.crew.keeps,C.crew.inj,C.crew.low,C.crew.hear,C.crew.above⟩,C.here,C.past.grow (fun i a ha hw e=> ?_) hn,C.hears,C.none⟩
 · have:=C.crew.idle i g hi hg;cases e:S i with
   | none=>rw [e] at this;exact this
   | some s=>rw [e] at this;exact fb0 (fun l hl=> .inl hl) this
 · rcases C.past.known i a ha qe with h1 | ⟨h1,_⟩ | ⟨h1,_⟩
   · exact h1
   · rw [h1] at hw;cases hw
   · rw [e] at h1;exact absurd h1 hn
def Hold.drop {Hear:Nat→Prop} (C:Hold P St Shun Hear S h a T gs w q) (K:Prop):Hold P (fun g l=>St g l∧(g=h→K)) Shun Hear S h a T gs w q:=by
 refine ⟨⟨fun i g hi hg=> ?_,C.crew.chans,C.crew.rows,C.crew.keeps,C.crew.inj,C.crew.low,C.crew.hear,C.crew.above⟩,C.here,⟨C.past.clean,fun i a ha hm=> ?_,fun i a ha hw g hs=>C.past.wrote i a ha hw g hs.1,fun g l hs=>C.past.apart g l hs.1,C.past.hears,C.past.seen⟩,C.hears,C.none⟩
 · have:=C.crew.idle i g hi hg;cases e:S i with
   | none=>rw [e] at this;exact this
   | some s=>rw [e] at this;exact fb0 (fun l hl=>⟨hl,fun e=>absurd e hi⟩) this
 · rcases C.past.known i a ha hm with h1 | ⟨h1,g,h2,h3,h4⟩ | h1
   · exact .inl h1
   · by_cases e:g=h
     · subst e;obtain ⟨x,hx,hxg⟩:=fy8.1 h2;exact .inl (hxg▸knows_own hx)
     · exact .inr (.inl ⟨h1,g,h2,⟨h3,fun e'=>absurd e' e⟩,h4⟩)
   · exact .inr (.inr h1)
end
def fg4 {P:Program} {main:Bool} {b:Frame} {a:Act} {k:List Item} {cs:List Frame} {w:World} {ops:Array Oper} {i c:Nat} {rest:List Nat} {o:Oper} {y z:Operand} {x:Value} (ho:ops[i]? =some o) (hop:o.op= .send y z) (hw:Region.wanted o (yielded ops a.tmps)=true) (hk:b.kind≠ .early)
    (hy:a.eval y= .chan (some c)) (hz:a.eval z=x):stepG P main (G (b.at a (.inRegion ops (i::rest)::k)) cs) w= .comm (G (b.at a (.inRegion ops (i::rest)::k)) cs) #[scase c x (.tuple #[])] true .send w #[]:=by
 have e:execOp a.eval o=(Pure.pure (.comm #[scase c x (.tuple #[])] true .send):Sem Next):=by
    unfold execOp;rw [hop];show (Pure.pure (.comm #[{ chan:=a.eval y,send:=some (a.eval z),zero:= .tuple #[] }] true .send):Sem Next)=_;rw [hy,hz];rfl
 rw [stepG_comm ho hw hk qe,listed_none qe]
abbrev mkC (buf:Array Value) (s q:Nat):HidC:={ cap:=1,buf,s,q,tm:=true,rt:=false,ok:= .inr ⟨rfl,rfl,rfl⟩ }
abbrev mkD:HidC:={ cap:=0,buf:= #[],s:=0,q:=0,tm:=false,rt:=false,ok:= .inl ⟨rfl,rfl,rfl,rfl,rfl⟩ }
abbrev fac (Sx:Nat→Option SeatD) (h:Nat) (s:SeatD):Nat→Option SeatD:=fun i=>if i=h then some s else Sx i
def do_back {Stop:Frame→List Frame→World→Prop} {WS Sx:Nat→Option SeatD} {Shun:Loc→Prop} {Φ:Array Goroutine→World→Trace→Prop} {Fx Fx':Nat→Option (Obj×Option Obj)} {s0:St} {h j n k s r kc sz:Nat} {kind:CallKind} {X g:Frame} {cs l:List Frame} {sj:SeatD} {a' a2 a3:Act} {rest:List Nat} {x1:Value}
    {ds:List Deferred} {c0:List Frame} {rk:Option Obj}
    (A:VS Tryz.prog rg Stop) (hW:WsOk WS Shun) (hk:kind= .normal∨kind= .deferred) (hh:h<sz) (hj:WS j=some sj) (hjc:sj.c=k) (hjh:j≠h) (hSxj:Sx j=none) (hSxh:Sx h=none) (hxs: ∀ i s,Sx i=some s→s.c≠k)
    (hhome: ∀ g,sj.home g↔fbr ds c0 sj.c g) (hF: ∀ b x,Fx b=some x→Fx' b=some x∧b≠k∧b≠n+1) (hFxk:Fx k=none) (hkn:k≠n+1)
    (hFk:Fx' k=some (.chan 1 #[] false s r true,some (.chan 0 #[] false kc kc false))) (hFd:Fx' (n+1)=some (.chan 0 #[] false 0 0 false,rk)) (hFc:Fx' (n+2)=some (.cells #[] 163,some (.cells #[.chan (some (n+1))] 163)))
    (hFD: ∀ b o,sj.D b=some o→ ∃ o',Fx' b=some (o',some o)) (hrow: ∀ b o,sj.D b=some o→ ∃ c e f,o= .cells c e f) (hB:sj.B≤n+2) (hsh: ¬ Shun (.cell ⟨n+2,0,none⟩))
    (hd':a'.defers=[]) (h0':a'.tmps.getD 0 undef= .chan (some k)) (hsz':11≤a'.tmps.size) (hd2:a2.defers=ds) (h62:a2.tmps.getD 6 undef= .chan (some k)) (hsz2:a2.tmps.size=12) (hAt:fmo ⟨n+2,0,none⟩ (n+1) x1 rest a3)
    (L0:Lv Tryz.prog rg Stop s0) (hcont:fl0 Tryz.prog rg Stop WS Shun Φ Fx Sx h sz s0 (fun x=>ur kind x g) l (fun x=>ur kind x X) cs):
    fl0 Tryz.prog rg Stop WS Shun Φ Fx' (fac Sx h (uw kind X cs n)) j sz s0 ((mB kind).at a' [.inRegion oe [0],.code zx]).finish (g::l) (dB.at a3 [.inRegion dOps (2::rest)]).finish (wB.at a2 callK::c0):=by
 intro x v' w' H' S' St' gs' T' q' ha I' hsz C' hD'
 have hreal: ∀ b o ro,Fx' b=some (o,ro)→v'.heap[b]? =some o∧w'.heap[b]? =ro∧H' b=some o:=fun b o ro e=>by
    obtain ⟨e1,e2⟩:=I'.fix b _ e;exact ⟨(I'.rel.laid b o e1).1,by rw [I'.rel.kept b o e1];exact e2,e1⟩
 have hc2:w'.cell? ⟨n+2,0,none⟩=some (.chan (some (n+1))):=by
    have:=(hreal _ _ _ hFc).2.1;simp [World.cell?,this]
 have hog:=og_back (main:=j==0) (H:=H') (Shun:=Shun) (w:=w') (n:=0) (cs:=wB.at a2 callK::c0) (x:=x) hc2 (.inr hsh) hAt
    (Φ:=fun a w1 k1=> ∃ a4:Act,a=G (dB.at a4 [.inRegion dOps [3]]) (wB.at a2 callK::c0)∧a4.eval (.tmp 2)= .chan (some (n+1))∧a4.eval (.tmp 4)=x∧a4.defers=[]∧(∃ d,w1=w'.at d)∧k1=0)
    (fun a4 e2 e4 ed=> .now fun d=>⟨a4,rfl,e2,e4,ed,⟨d,rfl⟩,rfl⟩)
 refine (C'.og I'.prot hog hD').trans fun gs1 w1 T1 hh1=> ?_;obtain ⟨_,q1,⟨a4,rfl,e2,e4,ed,⟨d1,rfl⟩,hD1⟩,hsz1,C1⟩:=hh1;have hSh:S' h=some (uw kind X cs n):=I'.sus h _ fi;have hSj:S' j=none:=C1.none;obtain ⟨hok,hzz,_⟩:=hW.ok j sj hj;have hkw:w'.heap[k]? =some (.chan 0 #[] false kc kc false):=(hreal _ _ _ hFk).2.1
 have hN :o8 Tryz.prog St' S' j (w'.at d1) sj:=by
    refine ⟨⟨kc,by rw [hjc];exact hkw⟩,hrow,fun b o hb=> ?_,fun i s1 hs1 e=> ?_,?_⟩
    · obtain ⟨o',e⟩:=hFD b o hb;exact (hreal _ _ _ e).2.1
    · rcases I'.only i s1 hs1 with h1 | h1
      · have:=hW.inj i j s1 sj h1 hj e;subst this;rw [hSj] at hs1;cases hs1
      · simp only [fac] at h1;split at h1
        · cases h1;exact hkn (by rw [← hjc,← e];rfl)
        · exact hxs i s1 h1 (e.trans hjc)
    · have h1:n+2<w'.heap.size:=by
       have:=(hreal _ _ _ hFc).2.1;exact (fx5.1 this).1
      have h2:k<w'.heap.size:=(fx5.1 hkw).1;refine ⟨?_,?_⟩
      · show sj.B≤w'.heap.size;omega
      · show sj.c<w'.heap.size;rw [hjc];exact h2
 have hafter:Sits Tryz.prog (j==0) (Keeps sj.D) (St' j) sj.B sj.seat 10 (Go.Conc.served (G (dB.at a4 [.inRegion dOps [3]]) (wB.at a2 callK::c0)) undef):=
    fqz hok hzz (fun g hg=>(hhome g).2 hg) ed hd2 (by rw [hjc];exact h62) hsz2
 refine (fio (s':=sj) (v:=x) (z':= .tuple #[]) C1 rfl hSh (by rw [hsz1,hsz];exact hh) (fun d=> ?_) hD1 hN hafter).trans fun gs2 w2 T2 hh2=> ?_
 · exact fg4 rfl rfl rfl fu e2 e4
 obtain ⟨g2,q2,kd,d2,hhome2,hkd,rfl,hsz2',hD2,C2⟩:=hh2;have hkd:w'.heap[n+1]? =some (.chan 0 #[] false kd kd false):=hkd;have hn1:n+1<w'.heap.size:=(fx5.1 hkd).1;obtain ⟨hvd,_,hHd⟩:=hreal _ _ _ hFd;obtain ⟨hvk,_,hHk⟩:=hreal _ _ _ hFk
 have rel2:Rel ⟨H'.at_,fun b=>if b=n+1 then some (.chan 0 #[] false (kd+1) (kd+1) false) else H'.real b,H'.on⟩ v' (((w'.at d1).at d2).setChan (n+1) 0 #[] false (kd+1) (kd+1) false):=
    (((I'.rel.re w'.tape d1).re w'.tape d2).reReal (o':= .chan 0 #[] false (kd+1) (kd+1) false) hHd (.inr (.inr ⟨mkD,kd+1,rfl,rfl⟩)) hn1:Rel _ v' _)
 generalize hH2:(⟨H'.at_,fun b=>if b=n+1 then some (.chan 0 #[] false (kd+1) (kd+1) false) else H'.real b,H'.on⟩:Hide)=H2 at rel2;have hat2: ∀ b,H2 b=H' b:=fun b=>by subst hH2;rfl
 have hreal2: ∀ b,b≠n+1→H2.real b=H'.real b:=fun b hb=>by subst hH2;simp [hb]
 have hon2:H2.on=true:=by subst hH2;exact I'.on
 have hS2: ∀ i s1,az S' j h sj i=some s1→(i=j∧s1=sj)∨(i≠j∧i≠h∧S' i=some s1):=by
    intro i s1 e;unfold az at e;split at e
    · rename_i e1;cases e;exact .inl ⟨e1,rfl⟩
    · split at e
      · cases e
      · exact .inr ⟨by assumption,by assumption,e⟩
 have prot2:Prot H2 (az S' j h sj) St' Shun:=by
    refine ⟨fun i s1 e=> ?_,fun g l hl=> ?_,fun l hl=> ?_⟩
    · rcases hS2 i s1 e with ⟨rfl,rfl⟩ | ⟨_,_,e1⟩
      · refine ⟨by rw [hat2,hjc,hHk];simp,fun b o hb=> ?_⟩;obtain ⟨o',e'⟩:=hFD b o hb;rw [hat2,(hreal _ _ _ e').2.2];simp
      · obtain ⟨p1,p2⟩:=I'.prot.seats i s1 e1;exact ⟨by rw [hat2];exact p1,fun b o hb=>by rw [hat2];exact p2 b o hb⟩
    · obtain ⟨a,e,h1⟩:=I'.prot.still g l hl;exact ⟨a,e,by rw [hat2];exact h1⟩
    · obtain ⟨a,e,h1⟩:=I'.prot.shun l hl;exact ⟨a,e,by rw [hat2];exact h1⟩
 rw [show (uw kind X cs n).c=n+1 from rfl] at C2 ⊢;have hw2k:(((w'.at d1).at d2).setChan (n+1) 0 #[] false (kd+1) (kd+1) false).heap[k]? =w'.heap[k]? :=w8 hkn _ _ _ _ _ _;generalize ((w'.at d1).at d2).setChan (n+1) 0 #[] false (kd+1) (kd+1) false=w2 at C2 rel2 hw2k ⊢
 have hog2:=og_done (main:=h==0) (H:=H2) (Shun:=Shun) (w:=w2) (n:=0) (x:=x) hk hhome2
    (Φ:=fun a w1 k1=>a=G (ur kind x X) cs∧(∃ d,w1=w2.at d)∧k1=0) (.now fun d=>⟨rfl,⟨d,rfl⟩,rfl⟩)
 refine (C2.og prot2 hog2 hD2).trans fun gs3 w3 T3 hh3=> ?_;obtain ⟨_,q3,⟨rfl,⟨d3,rfl⟩,hD3⟩,hsz3,C3⟩:=hh3;have efin:((mB kind).at a' [.inRegion oe [0],.code zx]).finish x=(mB kind).at (a'.put (some 4) x) [.inRegion oe [],.code zx]:=by rw [f0i];rfl
 rw [efin] at ha
 have hput:(a'.put (some 4) x).defers=[]∧(a'.put (some 4) x).tmps.getD 0 undef= .chan (some k)∧(a'.put (some 4) x).tmps.getD 4 undef=x:=by
    obtain ⟨L,ds0,hlen,rfl⟩:=wb a' hsz';rcases L with _ | ⟨y0,_ | ⟨y1,_ | ⟨y2,_ | ⟨y3,_ | ⟨y4,tl⟩⟩⟩⟩⟩ <;>first | (simp at hlen;done) | skip
    exact ⟨hd',h0',rfl⟩
 have ha2:=v_do2 (Stop:=Stop) (a:=a'.put (some 4) x) (v:=v') (b:=mB kind) (g:=g) (l:=l) A (k:=k) (x:=x) (cap:=1) (s:=s) (r:=r) (buf:= #[]) (cl:=false) (tm:=true) (ks:=[]) rfl hk hput.1 hput.2.1 hput.2.2 hvk (vn A L0 ha)
 have rel3:Rel ⟨fun b=>if b=k then some (.chan 1 #[.bool true] false (s+1) r true) else H2 b,H2.real,H2.on⟩ (v'.setChan k 1 #[.bool true] false (s+1) r true) (w2.at d3):=
    ((rel2.re w2.tape d3).remark (k:=k) (o:= .chan 1 #[] false s r true) (o':= .chan 1 #[.bool true] false (s+1) r true) (by rw [hat2];exact hHk) (.inr (.inr ⟨mkC #[.bool true] (s+1) r,kc,rfl,?_⟩)) rfl:Rel _ _ _)
 · refine hcont x (v'.setChan k 1 #[.bool true] false (s+1) r true) (w2.at d3) _ _ _ gs3 T3 q3 (ha.desc ha2.to_desc) ⟨rel3,?_,hon2,fun b y hb=> ?_,fun i s1 hi=> ?_,fun i s1 hi=> ?_,fun b cap buf cl s1 q1 hb hbuf=> ?_,fun g l hl=> ?_⟩ (by rw [hsz3,hsz2',hsz1,hsz]) (C3.drop (h=0∨WS h≠none)) hD3
   · refine ⟨fun i s1 e=> ?_,fun g l hl=> ?_,fun l hl=> ?_⟩
     · obtain ⟨p1,p2⟩:=prot2.seats i s1 e
       exact ⟨by simp only; split <;> simp_all, fun b o hb => by simp only;split;· simp
                                                                 · exact p2 b o hb⟩
     · obtain ⟨a,e,h1⟩:=prot2.still g l hl.1
       exact ⟨a, e, by simp only;split;· simp
                       · exact h1⟩
     · obtain ⟨a,e,h1⟩:=prot2.shun l hl
       exact ⟨a, e, by simp only;split;· simp
                       · exact h1⟩
   · obtain ⟨h1,h2,h3⟩:=hF b y hb;obtain ⟨e1,e2⟩:=I'.fix b y h1;exact ⟨by simp only;rw [fx9 h2,hat2];exact e1,by show H2.real b=_;rw [hreal2 b h3];exact e2⟩
   · have hih:i≠h:=by rintro rfl;rw [hSxh] at hi;cases hi
     have hij:i≠j:=by rintro rfl;rw [hSxj] at hi;cases hi
     have:=I'.sus i s1 (by simp only [fac,fx9 hih];exact hi);simp only [az,fx9 hih,fx9 hij];exact this
   · rcases hS2 i s1 hi with ⟨rfl,rfl⟩ | ⟨h1,h2,e1⟩
     · exact .inl hj
     · rcases I'.only i s1 e1 with h3 | h3
       · exact .inl h3
       · simp only [fac,fx9 h2] at h3;exact .inr h3
   · simp only at hb;split at hb
     · rename_i e;subst e;cases hb;exact ⟨rfl,j,sj,hj,hjc,by simp [az],hSxj,hFxk⟩
     · rw [hat2] at hb;obtain ⟨e1,j2,s2,h1,h2,h3,h4,h5⟩:=I'.marks b cap buf cl s1 q1 hb hbuf;have hjh2:j2≠h:=by rintro rfl;simp [fac] at h4
       have hjj:j2≠j:=by rintro rfl;rw [hSj] at h3;cases h3
       refine ⟨e1,j2,s2,h1,h2,by simp only [az,fx9 hjj,fx9 hjh2];exact h3,by simpa [fac,hjh2] using h4,?_⟩;cases e:Fx b with
       | none=>rfl
       | some y=>rw [(hF b y e).1] at h5;cases h5
   · by_cases e:g=h
     · subst e;exact (hl.2 rfl).imp id .inl
     · rcases I'.who g l hl.1 with h1 | h1 | h1
       · exact .inl h1
       · exact .inr (.inl h1)
       · simp only [fac,fx9 e] at h1;exact .inr (.inr h1)
 · show w2.heap[k]? =_;rw [hw2k];exact hkw
def fud {i:Nat} {fn:Func} (hi:i∈rowsKept) (h:Tryz.prog.funcs[i]? =some fn):fn.body=none:=by
 have hb: ∀ {f:Func},f.body.isNone=true→f.body=none:=fun h=>by simpa using h
 simp only [rowsKept,fy3,fz8,f0z] at hi;rcases hi with rfl | rfl | rfl | rfl | rfl | rfl | rfl | rfl | rfl | rfl | rfl | rfl
 · rw [Tryz.func80] at h;cases h;exact hb fd
 · rw [Tryz.func81] at h;cases h;exact hb fd
 · rw [Tryz.func82] at h;cases h;exact hb fd
 · rw [Tryz.func84] at h;cases h;exact hb fd
 · rw [Tryz.func113] at h;cases h;exact hb fd
 · rw [Tryz.func114] at h;cases h;exact hb fd
 · rw [Tryz.func130] at h;cases h;exact hb fd
 · rw [Tryz.func146] at h;cases h;exact hb fd
 · rw [Tryz.func157] at h;cases h;exact hb fd
 · rw [Tryz.func158] at h;cases h;exact hb fd
 · rw [Tryz.func159] at h;cases h;exact hb fd
 · rw [Tryz.func160] at h;cases h;exact hb fd
def fg5 {f:FuncId} (h: ∀ fn,rg[f]? =some fn→fn.body=none) (args:Array Value) (kind:CallKind) (v:World):Dead PV (Frame.enter PV f args kind) v:=by
 intro main c cs
 have e:(Frame.enter PV f args kind).todo=[.code (.refuse "unsupported: a function without a Go body is entered")]:=by
    have e0:PV.funcs[f]? =rg[f]? :=rfl;unfold Frame.enter;rw [e0];cases hf:rg[f]? with
    | none=>rfl
    | some fn=>simp [h fn hf]
 have em:(Frame.enter PV f args kind).mode= .run:=rfl;refine ⟨.unsupported (.elab "unsupported: a function without a Go body is entered") ((Frame.enter PV f args kind).pos PV),v,#[],?_⟩;simp [G,stepG,em,stepG.exec,e]
def feg (f:Nat) (hs:f∉specials):(Tryz.prog.funcs[f]? =rg[f]? ∧ ∀ fn c,rg[f]? =some fn→fn.body=some c→yb c=true)∨ ∀ args kind v,Dead PV (Frame.enter PV f args kind) v:=by
 rcases far f with hn | ⟨fn,h,⟨hs',_⟩ | hg | ⟨hg,h1,h2⟩⟩
 · exact .inr (fg5 fun fn e=>by rw [hn] at e;cases e)
 · exact absurd hs' hs
 · exact .inr (fg5 fun fn e=>by rw [hg] at e;cases e;rfl)
 · refine .inl ⟨by rw [h,hg],fun fn' c e hb=> ?_⟩;rw [hg] at e;cases e;rcases h2 with h2 | ⟨c',h2,_,h3⟩
   · rw [fud h2 h] at hb;cases hb
   · rw [h2] at hb;cases hb;exact h3
def virt_nc:Nc Tryz.prog rg:=by
 intro e;have h:Tryz.prog.funcs[46]? =rg[46]? :=by rw [e]
 rw [fra,Tryz.func46] at h;have h1:=fy7 h;have h2:(Tryz.f46.name==doV.name)=false:=by kernel_rfl
 rw [h1] at h2;simp at h2
def do_call {Stop:Frame→List Frame→World→Prop} {WS Sx S:Nat→Option SeatD} {Sl:Nat→Loc→Prop} {Shun:Loc→Prop} {Φ:Array Goroutine→World→Trace→Prop} {Fx:Nat→Option (Obj×Option Obj)} {H:Hide} {s0:St} {j:Nat} {kind:CallKind} {cX g:Frame} {cs l:List Frame} {a' a3:Act} {rest:List Nat} {x1:Value}
    {v w:World} {gs:Array Goroutine} {T:Trace} {q:Nat→Nat}
    (A:VS Tryz.prog rg Stop) (ih: ∀ s',Ahead PV Stop s0 s'→fme Tryz.prog rg Stop WS Shun Φ s'∧tu Tryz.prog rg (· ∈specials) Stop WS Shun Φ s') (hk:kind= .normal∨kind= .deferred)
    (ha0:Ahead PV Stop s0 ((mB kind).at a' [.inRegion oe [0],.code zx],g::l,v)) (L:Lv Tryz.prog rg Stop ((mB kind).at a' [.inRegion oe [0],.code zx],g::l,v)) (hx:a'.eval (.tmp 1)=x1) (hx3:a3.eval (.tmp 3)=x1)
    (hlt: ∀ j s,WS j=some s→j<gs.size) (I:Inv WS Fx Sx H S Sl Shun v w) (C:Hold Tryz.prog Sl Shun u5 S j (G (dB.at a3 [.inRegion dOps (2::rest)]) (cX::cs)) T gs w q) (hD:Deaf T j=0)
    (hcont:fl0 Tryz.prog rg Stop WS Shun Φ Fx Sx j gs.size s0 ((mB kind).at a' [.inRegion oe [0],.code zx]).finish (g::l) (dB.at a3 [.inRegion dOps (2::rest)]).finish (cX::cs)):Leads Tryz.prog Φ gs w T:=by
 refine C.lead' hD rfl fun gs1 T1 q1 d sl hsz hD C1=> ?_;obtain ⟨x,v1,w1,es,hc,hv,hsize,hls,htp,rel1,hes⟩:=fqu (b:=mB kind) (a:=a') (k:=[.code zx]) (b':=dB) (a':=a3) (k':=[]) (ops:=oe) (ops':=dOps) (i:=0) (rest:=[]) (i':=2) (rest':=rest) A md I.rel d rfl rfl hx rfl rfl rfl hx3 rfl (.inl rfl) fi fd L
 have hn: ∀ a b c d,zr (dB.at a3 [.inRegion dOps (2::rest)]) x≠ .comm a b c d:=by
    rcases hc with ⟨y,rfl⟩ | ⟨f,xs,rfl⟩ | ⟨lo,f,ts,ca,cb,rfl,_⟩ <;>intro a b c d e <;>cases e
 obtain ⟨gs',ops,e1,e2,C2,e3⟩:=C1.ord (sl:=sl) I.prot (I.rel.re w.tape d) rel1 hsize hls hn hes;refine ⟨gs',w1,ops,e1,?_⟩;have I1:Inv WS Fx Sx H S Sl Shun v1 w1:=I.step rel1;have hD1:Deaf (T1++ops) j=0:=by rw [e3];exact hD
 have hsz1:gs'.size=gs.size:=e2.trans hsz;have hlt1: ∀ j s,WS j=some s→j<gs'.size:=by rw [hsz1];exact hlt
 rcases hc with ⟨y,rfl⟩ | ⟨f,xs,rfl⟩ | ⟨lo,f,ts,ca,cb,rfl,hok⟩
 · exact hcont y v1 w1 H S Sl gs' (T1++ops) q1 (ha0.desc hv.to_desc) I1 hsz1 C2 hD1
 · have ha1:=ha0.desc (hv:Ahead _ _ _ _).to_desc;have L1:=vn A L (hv:Ahead _ _ _ _);by_cases hsp:f∈specials
   · refine (ih _ ha1).2 f xs .normal _ (g::l) hsp rfl rfl Fx Sx H S Sl j (dB.at a3 [.inRegion dOps (2::rest)]) (cX::cs) gs' w1 (T1++ops) q1 (.inl rfl) hlt1 L1 I1 C2 hD1 ?_;rw [hsz1];exact bd ha1 hcont
   · rcases feg f hsp with ⟨hsame,hnc⟩ | hdead
     · have henter:Frame.enter Tryz.prog f xs .normal=Frame.enter PV f xs .normal:=by
        show Frame.enter Tryz.prog f xs .normal=Frame.enter (V Tryz.prog rg) f xs .normal;unfold Frame.enter;rw [hsame]
       have C3:Hold Tryz.prog Sl Shun u5 S j (G (Frame.enter PV f xs .normal) (tq [] (cX::cs) (some ((mB kind).at a' [.inRegion oe [0],.code zx],g::l,dB.at a3 [.inRegion dOps (2::rest)])))) (T1++ops) gs' w1 q1:=by
        rw [← henter];exact C2
       have oke:FrOk Tryz.prog rg (Frame.enter PV f xs .normal):=by
        rw [← henter];exact t9 A.code hsame xs (.inl rfl) fun _=>hnc
       refine (ih _ ha1).1 Fx Sx H S Sl j [] _ (cX::cs) gs' w1 (T1++ops) q1 rfl oke fi (fun y hy=>by simp at hy;subst hy;rfl) hlt1 L1 I1 C3 hD1 ?_;rw [hsz1];exact bd ha1 hcont
     · exfalso;obtain ⟨c',cs',hcs'⟩:=fc9 ((mB kind).at a' [.inRegion oe [0],.code zx]::g::l);obtain ⟨o,u,es',he⟩:=hdead xs .normal v1 true c' cs';exact mc A L1 fi ⟨o,u,es',by rw [hcs'];exact he⟩
 · have ha1:=ha0.desc (hv:Ahead _ _ _ _).to_desc;have L1:=vn A L (hv:Ahead _ _ _ _);refine (ih _ ha1).1 Fx Sx H S Sl j [] (some ((mB kind).at a' [.inRegion oe [0],.code zx],g::l,dB.at a3 [.inRegion dOps (2::rest)])) (cX::cs) gs' w1 (T1++ops) q1 rfl (fgr lo f ts hok (.inl rfl)) fi (fun y hy=>by simp at hy;subst hy;rfl) hlt1 L1 I1 C2 hD1 ?_;rw [hsz1];exact bd ha1 hcont
section
variable {WS Sx S:Nat→Option SeatD} {Sl:Nat→Loc→Prop} {Shun:Loc→Prop} {Fx:Nat→Option (Obj×Option Obj)} {H:Hide} {v w:World} {k cap s r:Nat} {buf:Array Value} {cl tm:Bool}
def frf (I:Inv WS Fx Sx H S Sl Shun v w) (hk:v.heap[k]? =some (.chan cap buf cl s r tm)) (h1:tm=true∨cap=0) (h2:0<buf.size):
    cap=1∧cl=false∧tm=true∧H k=some (.chan 1 buf false s r true)∧(∃ k',w.heap[k]? =some (.chan 0 #[] false k' k' false))∧buf.size=1∧ ∃ j sj,WS j=some sj∧sj.c=k∧S j=some sj∧Sx j=none∧Fx k=none:=by
 cases hH:H k with
 | none=>
   have:=I.rel.chans I.on k _ hH hk;simp only [sg,f04,f2y,f1r] at this;rcases h1 with rfl | rfl
   · cases this.1
   · omega
 | some o=>
   obtain ⟨e1,e2⟩:=I.rel.laid k o hH;rw [hk] at e1;obtain rfl:=(fy7 e1).symm;rcases e2 with ⟨e,c,h,_⟩ | ⟨h,_⟩ | ⟨x,k',h,e3⟩
   · cases h
   · cases h
   · obtain ⟨xc,xb,xs,xq,xt,xr,xok⟩:=x;simp only [Obj.chan.injEq] at h;obtain ⟨rfl,rfl,rfl,rfl,rfl,rfl⟩:=h;rcases xok with ⟨_,rfl,_⟩ | ⟨rfl,rfl,rfl⟩
     · simp at h2
     · obtain ⟨f1,f2⟩:=I.marks k 1 buf false s r hH h2;exact ⟨rfl,rfl,rfl,rfl,⟨k',e3⟩,f1,f2⟩
end
section
variable {H:Hide} {v w:World} {k s r:Nat} {buf:Array Value} {x1:Value}
def fue (w:World) (x1:Value):(doW w x1).heap.size=w.heap.size+3:=by
 unfold doW;rw [xd,xd,xd]
def fh9 (w:World) (x1:Value) (b:Nat):(doW w x1).heap[b]? =if b=w.heap.size+2 then some (.cells #[.chan (some (w.heap.size+1))] 163) else if b=w.heap.size+1 then some (.chan 0 #[] false 0 0 false) else if b=w.heap.size then some (.cells x1.cells 116) else w.heap[b]? :=by
 show (((w.heap.push (.cells x1.cells 116)).push (.chan 0 #[] false 0 0 false)).push (.cells #[.chan (some (w.heap.size+1))] 163))[b]? =_;rw [f05,f05,f05];simp only [f2a]
def do_rel (rel:Rel H v w) (hk:H k=some (.chan 1 buf false s r true)) (hw: ∃ k',w.heap[k]? =some (.chan 0 #[] false k' k' false)):
    ∃ HD:Hide,Rel HD ((((v.setChan k 1 #[] false s (r+1) true).alloc (.cells x1.cells 116)).alloc (.chan 0 #[] false 0 0 false)).alloc (.cells #[] 163)) (doW w x1)∧HD.on=H.on∧
      (∀ b,HD b=if b=w.heap.size+2 then some (.cells #[] 163) else if b=w.heap.size+1 then some (.chan 0 #[] false 0 0 false) else if b=k then some (.chan 1 #[] false s (r+1) true) else H b)∧
      ∀ b,HD.real b=if b=w.heap.size+2 then some (.cells #[.chan (some (w.heap.size+1))] 163) else if b=w.heap.size+1 then some (.chan 0 #[] false 0 0 false) else H.real b:=by
 obtain ⟨k',hw⟩:=hw;have relA:=rel.remark (o':= .chan 1 #[] false s (r+1) true) hk (.inr (.inr ⟨mkC #[] s (r+1),k',rfl,hw⟩)) rfl;have relB:=relA.push (o:= .cells x1.cells 116) rfl (relA.above (fx8 _));have relC:=relB.pushHid (o:= .chan 0 #[] false 0 0 false) (o':= .chan 0 #[] false 0 0 false) (.inr (.inr ⟨mkD,0,rfl,rfl⟩)) rfl;have relD:=relC.pushHid (o:= .cells #[] 163) (o':= .cells #[.chan (some (w.heap.size+1))] 163) (.inl ⟨163,_,rfl,rfl⟩) rfl;refine ⟨_,relD,rfl,fun b=> ?_,fun b=> ?_⟩
 · simp only [f2a,f00,rel.size]
 · simp only [f2a,f00,rel.size]
end
noncomputable def fixH (H:Hide) (p:Nat→Prop):Nat→Option (Obj×Option Obj):=fun b=>by
 classical exact if p b then (H b).map fun o=>(o,H.real b) else none
def fixH_some {H:Hide} {p:Nat→Prop} {b:Nat} {x:Obj×Option Obj}:fixH H p b=some x↔p b∧H b=some x.1∧H.real b=x.2:=by
 unfold fixH;split
 · rename_i hp;constructor
   · intro h;obtain ⟨o,ho,rfl⟩:=fy8.1 h;exact ⟨hp,ho,rfl⟩
   · rintro ⟨_,h1,h2⟩;rw [h1,h2];rfl
 · rename_i hp;exact ⟨fun h=>je,fun h=>absurd h.1 hp⟩
def spec_do : fmf Tryz.prog rg (· ∈specials) WsOk 46:=by
 intro Stop WS Shun Φ args kind g l v A hR hW ih Fx Sx H S Sl h X cs gs w T q hk hlt L I C hD hcont;have hent:Frame.enter (V Tryz.prog rg) 46 args kind=(mB kind).at { tmps:=args++Array.replicate (doV.ntmps-args.size) undef,defers:=[] } [.code (zw doV)]:=enter_at (P:=PV) fra rfl;have hstart:=L;obtain ⟨Ls,hlen,hL,hg⟩:=fa5 args doV.ntmps;rw [hL] at hent;have hlen:11≤Ls.length:=hlen;rcases Ls with _ | ⟨x0,_ | ⟨x1,_ | ⟨x2,_ | ⟨x3,_ | ⟨x4,_ | ⟨x5,_ | ⟨x6,_ | ⟨x7,_ | ⟨x8,_ | ⟨x9,_ | ⟨x10,tl⟩⟩⟩⟩⟩⟩⟩⟩⟩⟩⟩ <;>first | (simp at hlen;done) | skip
 have hx0:args.getD 0 undef=x0:=(hg 0).symm;have hx1:args.getD 1 undef=x1:=(hg 1).symm;obtain ⟨c,hc,hvx⟩:=v_do1 (v:=v) A x0 x1 x2 x3 x4 x5 x6 x7 x8 x9 x10 tl;have hcc:zw doV=c:=by unfold zw;rw [hc];rfl
 rw [hcc] at hent;rw [hent] at L hcont ih hstart;obtain ⟨a',v1,hdo,hdesc⟩:=hvx (mB kind) [] (g::l) fi L;generalize hfr0:(mB kind).at { tmps:=(x0::x1::x2::x3::x4::x5::x6::x7::x8::x9::x10::tl).toArray,defers:=[] } [.code c]=fr0 at*;obtain ⟨k,cap,buf,cl,s,r,tm,rfl,hkv,hct,hbuf,hv1,hd',h0',h1',hsz'⟩:=hdo;obtain ⟨rfl,rfl,rfl,hHk,⟨kr,hkw⟩,hb1,j,sj,hj,hjc,hSj,hSxj,hFxk⟩:=frf I hkv hct hbuf
 have hbuf0:buf.extract 1 buf.size= #[]:=by
    apply f4y;simp [hb1]
 rw [hbuf0] at hv1;have Ld:=fkx A hdesc L;obtain ⟨l1,e1,L1,ha1⟩:=cy A Ld fi f4d;obtain rfl:=fz2 e1;obtain ⟨l2,e2,L2,ha2⟩:=cy A L1 fi f2o;obtain rfl:=fz2 e2;have haD:Ahead PV Stop (fr0,g::l,v) ((mB kind).at a' [.inRegion oe [0],.code zx],g::l,v1):=hdesc.ahead (ha1.desc ha2.to_desc);have hx1':a'.eval (.tmp 1)=x1:=h1';obtain ⟨fv,f1,f2,hfv⟩:=fjb (b:=mB kind) (a:=a') (k:=[.code zx]) (ops:=oe) (i:=0) (rest:=[]) A rfl rfl rfl L2;rw [hx1'] at hfv;subst hfv
 have hHlt: ∀ b,H b≠none→b<w.heap.size:=fun b hb=>by
    by_cases e:b<w.heap.size
    · exact e
    · exact absurd (I.rel.above (by rw [I.rel.size];omega)) hb
 obtain ⟨HD,relD,hDon,hDat,hDreal⟩:=do_rel (x1:= .func fv f1 f2) I.rel hHk ⟨kr,hkw⟩;rw [← hv1] at relD
 have hsh: ¬ Shun (.cell ⟨w.heap.size+2,0,none⟩):=fun hs=>by
    obtain ⟨a,e,ha⟩:=I.prot.shun _ hs;cases e;have:w.heap.size+2<w.heap.size:=hHlt _ ha;omega
 have hog:=og_do (main:=h==0) (H:=H) (Shun:=Shun) (w:=w) (n:=0) (c:=X) (cs:=cs) hk hx0 hx1 hHlt
    (Φ:=fun a w' k'=> ∃ aa:Act,a=G ((mB kind).at aa [.inRegion R2 [2],.code C3]) (X::cs)∧aa.defers=[]∧aa.tmps.getD 5 undef= .pointer (some ⟨w.heap.size+2,0,none⟩)∧11≤aa.tmps.size∧aa.eval (.tmp 7)= .chan (some k)∧aa.eval (.tmp 8)=fu1 w.heap.size∧(∃ d,w'=(doW w (.func fv f1 f2)).at d)∧k'=0)
    (fun aa e1 e2 e3 e4 e5=> .now fun d=>⟨aa,rfl,e1,e2,e3,e4,e5,⟨d,rfl⟩,rfl⟩)
 refine (C.og I.prot hog hD).trans fun gs1 w1 T1 hh1=> ?_;obtain ⟨_,q1,⟨aa,rfl,b1,b2,b3,b4,b5,⟨d1,rfl⟩,hD1⟩,hsz1,C1⟩:=hh1;have C2:=C1.grow hsh;subst hjc;have hjh:j≠h:=fun e=>by subst e;rw [C.none] at hSj;cases hSj
 obtain ⟨hok,hzz,ds,c0,hc0,hhome⟩:=hW.ok j sj hj;have hclt:sj.c<w.heap.size:=(fx5.1 hkw).1
 have hN:o8 Tryz.prog (fun g' l'=>Sl g' l'∨(g'=h∧l'= .cell ⟨w.heap.size+2,0,none⟩)) S h ((doW w (.func fv f1 f2)).at d1) (uw kind X cs w.heap.size):=by
    refine ⟨⟨0,?_⟩,fun b o hb=> ?_,fun b o hb=> ?_,fun i s1 hs1 e=> ?_,?_⟩
    · show (doW w (.func fv f1 f2)).heap[w.heap.size+1]? =_;rw [fh9,fx9 fe,f02 rfl]
    · simp only [uw] at hb;split at hb
      · cases hb;exact ⟨_,_,_,rfl⟩
      · cases hb
    · simp only [uw] at hb;split at hb
      · rename_i e;cases hb;subst e;show (doW w (.func fv f1 f2)).heap[w.heap.size+2]? =_;rw [fh9,f02 rfl]
      · cases hb
    · have:=(C.crew.low i s1 hs1).2;rw [e] at this;simp [uw] at this;omega
    · show w.heap.size+3≤(doW w (.func fv f1 f2)).heap.size∧w.heap.size+1<(doW w (.func fv f1 f2)).heap.size;rw [fue];omega
 have hafter:=fqx (main:=h==0) (X:=X) (cs:=cs) (m:=w.heap.size) (a:=aa) (Still:=fun l'=>Sl h l'∨(h=h∧l'= .cell ⟨w.heap.size+2,0,none⟩)) hk (.inr ⟨rfl,rfl⟩) b2 b1 b3;refine (fio (s':=uw kind X cs w.heap.size) (v:=fu1 w.heap.size) (z':= .tuple #[]) C2 rfl hSj (by rw [hsz1];exact hlt j sj hj) (fun d=> ?_) hD1 hN hafter).trans fun gs2 w2 T2 hh2=> ?_
 · exact fg4 rfl rfl rfl (by rcases hk with rfl | rfl <;>simp) b4 b5
 obtain ⟨g2,q2,kd,d2,hhome2,hkd,rfl,hsz2',hD2,C3⟩:=hh2;generalize hn:w.heap.size=n at*;have hkd:(doW w (.func fv f1 f2)).heap[sj.c]? =some (.chan 0 #[] false kd kd false):=hkd;have hDk:HD sj.c=some (.chan 1 #[] false s (r+1) true):=by rw [hDat,fx9 fe,fx9 fe,f02 rfl]
 have rel3:Rel ⟨HD.at_,fun b=>if b=sj.c then some (.chan 0 #[] false (kd+1) (kd+1) false) else HD.real b,HD.on⟩ v1 ((((doW w (.func fv f1 f2)).at d1).at d2).setChan sj.c 0 #[] false (kd+1) (kd+1) false):=
    (((relD.re w.tape d1).re w.tape d2).reReal (o':= .chan 0 #[] false (kd+1) (kd+1) false) hDk (.inr (.inr ⟨mkC #[] s (r+1),kd+1,rfl,rfl⟩)) (fx5.1 hkd).1:Rel _ v1 _)
 generalize hH3:(⟨HD.at_,fun b=>if b=sj.c then some (.chan 0 #[] false (kd+1) (kd+1) false) else HD.real b,HD.on⟩:Hide)=H3 at rel3;have hat3: ∀ b,H3 b=if b=n+2 then some (.cells #[] 163) else if b=n+1 then some (.chan 0 #[] false 0 0 false) else if b=sj.c then some (.chan 1 #[] false s (r+1) true) else H b:=fun b=>by subst hH3;exact hDat b
 have hreal3: ∀ b,H3.real b=if b=sj.c then some (.chan 0 #[] false (kd+1) (kd+1) false) else if b=n+2 then some (.cells #[.chan (some (n+1))] 163) else if b=n+1 then some (.chan 0 #[] false 0 0 false) else H.real b:=fun b=>by
    subst hH3;show (if b=sj.c then _ else HD.real b)=_;rw [hDreal]
 have hon3:H3.on=true:=by subst hH3;exact hDon.trans I.on
 have hmono: ∀ b,H b≠none→H3 b≠none:=fun b hb=>by
    rw [hat3];split
    · simp
    · split
      · simp
      · split
        · simp
        · exact hb
 have hold3: ∀ b,b<n→b≠sj.c→H3 b=H b∧H3.real b=H.real b:=fun b h1 h2=>by
    rw [hat3,hreal3,fx9 fe,fx9 fe,fx9 h2,fx9 h2,fx9 fe,fx9 fe];exact ⟨rfl,rfl⟩
 have hFxb: ∀ b x,Fx b=some x→b<n∧b≠sj.c:=fun b x e=>by
    refine ⟨hHlt b (by rw [(I.fix b x e).1];simp),?_⟩;rintro rfl;rw [hFxk] at e;cases e
 have hDb: ∀ b o,sj.D b=some o→b<n∧b≠sj.c∧w.heap[b]? =some o∧ ∃ o',H b=some o':=fun b o e=>by
    have h1:=(I.prot.seats j sj hSj).2 b o e;have h2:=C.crew.keeps j sj hSj b o e;obtain ⟨c',e',f',rfl⟩:=C.crew.rows j sj b o hSj e;exact ⟨hHlt b h1,fkv hkw h2 ⟨_,_,_,rfl⟩,h2,Option.ne_none_iff_exists'.1 h1⟩
 let p:Nat→Prop:=fun b=>b=sj.c∨b=n+1∨b=n+2∨Fx b≠none∨sj.D b≠none
 have hSxh:Sx h=none:=by
    cases e:Sx h with
    | none=>rfl
    | some y=>have:=I.sus h y e;rw [C.none] at this;cases this
 have hxs: ∀ i s,Sx i=some s→s.c≠sj.c:=fun i s1 e e2=>by
    have:=C.crew.inj i j s1 sj (I.sus i s1 e) hSj e2;subst this;rw [hSxj] at e;cases e
 have hF: ∀ b x,Fx b=some x→fixH H3 p b=some x∧b≠sj.c∧b≠n+1:=fun b x e=>by
    obtain ⟨h1,h2⟩:=hFxb b x e;obtain ⟨h3,h4⟩:=hold3 b h1 h2;exact ⟨fixH_some.2 ⟨.inr (.inr (.inr (.inl pb))),by rw [h3];exact (I.fix b x e).1,by rw [h4];exact (I.fix b x e).2⟩,h2,by omega⟩
 have hFk:fixH H3 p sj.c=some (.chan 1 #[] false s (r+1) true,some (.chan 0 #[] false (kd+1) (kd+1) false)):=
    fixH_some.2 ⟨.inl rfl,by rw [hat3,fx9 fe,fx9 fe,f02 rfl],by rw [hreal3,f02 rfl]⟩
 have hFd:fixH H3 p (n+1)=some (.chan 0 #[] false 0 0 false,some (.chan 0 #[] false 0 0 false)):=
    fixH_some.2 ⟨.inr (.inl rfl),by rw [hat3,fx9 fe,f02 rfl],by rw [hreal3,fx9 fe,fx9 fe,f02 rfl]⟩
 have hFc:fixH H3 p (n+2)=some (.cells #[] 163,some (.cells #[.chan (some (n+1))] 163)):=
    fixH_some.2 ⟨.inr (.inr (.inl rfl)),by rw [hat3,f02 rfl],by rw [hreal3,fx9 fe,f02 rfl]⟩
 have hFD: ∀ b o,sj.D b=some o→ ∃ o',fixH H3 p b=some (o',some o):=fun b o e=>by
    obtain ⟨h1,h2,h5,o',h6⟩:=hDb b o e;obtain ⟨h3,h4⟩:=hold3 b h1 h2;exact ⟨o',fixH_some.2 ⟨.inr (.inr (.inr (.inr pb))),by rw [h3];exact h6,by rw [h4,← I.rel.kept b o' h6];exact h5⟩⟩
 have hS3: ∀ i s1,az S h j (uw kind X cs n) i=some s1→(i=h∧s1=uw kind X cs n)∨(i≠h∧i≠j∧S i=some s1):=by
    intro i s1 e;unfold az at e;split at e
    · rename_i e1;cases e;exact .inl ⟨e1,rfl⟩
    · split at e
      · cases e
      · exact .inr ⟨by assumption,by assumption,e⟩
 have hw3: ∀ b,b≠sj.c→((((doW w (.func fv f1 f2)).at d1).at d2).setChan sj.c 0 #[] false (kd+1) (kd+1) false).heap[b]? =(doW w (.func fv f1 f2)).heap[b]? :=fun b hb=>w8 hb _ _ _ _ _ _;generalize (((doW w (.func fv f1 f2)).at d1).at d2).setChan sj.c 0 #[] false (kd+1) (kd+1) false=w3 at C3 rel3 hw3 ⊢
 have I3 : Inv WS (fixH H3 p) (fac Sx h (uw kind X cs n)) H3 (az S h j (uw kind X cs n)) (fun g' l'=>Sl g' l'∨(g'=h∧l'= .cell ⟨n+2,0,none⟩)) Shun v1 w3:=by
    refine ⟨rel3,⟨fun i s1 e=> ?_,fun g l hl=> ?_,fun l hl=> ?_⟩,hon3,fun b x hb=>⟨(fixH_some.1 hb).2.1,(fixH_some.1 hb).2.2⟩,fun i s1 hi=> ?_,fun i s1 hi=> ?_,fun b cap buf cl s1 q1 hb hbuf=> ?_,fun g l hl=> ?_⟩
    · rcases hS3 i s1 e with ⟨rfl,rfl⟩ | ⟨_,_,e1⟩
      · refine ⟨?_,fun b o hb=> ?_⟩
        · show H3 (n+1)≠none;rw [hat3,fx9 fe,f02 rfl];simp
        · simp only [uw] at hb;split at hb
          · rename_i e;subst e;rw [hat3,f02 rfl];simp
          · cases hb
      · obtain ⟨p1,p2⟩:=I.prot.seats i s1 e1;exact ⟨hmono _ p1,fun b o hb=>hmono _ (p2 b o hb)⟩
    · rcases hl with hl | ⟨rfl,rfl⟩
      · obtain ⟨a,e,h1⟩:=I.prot.still g l hl;exact ⟨a,e,hmono _ h1⟩
      · exact ⟨_,rfl,by show H3 (n+2)≠none;rw [hat3,f02 rfl];simp⟩
    · obtain ⟨a,e,h1⟩:=I.prot.shun l hl;exact ⟨a,e,hmono _ h1⟩
    · simp only [fac] at hi;split at hi
      · rename_i e;simp only [az,f02 e];exact hi
      · rename_i e;have hij:i≠j:=by rintro rfl;rw [hSxj] at hi;cases hi
        simp only [az,fx9 e,fx9 hij];exact I.sus i s1 hi
    · rcases hS3 i s1 hi with ⟨rfl,rfl⟩ | ⟨h1,h2,e1⟩
      · exact .inr (by simp [fac])
      · rcases I.only i s1 e1 with h3 | h3
        · exact .inl h3
        · exact .inr (by simp only [fac,fx9 h1];exact h3)
    · rw [hat3] at hb;split at hb
      · cases hb
      · split at hb
        · cases hb
        · split at hb
          · cases hb;exact absurd hbuf fi
          · rename_i hb2 hb1 hbk;obtain ⟨f1,j2,s2,h1,h2,h3,h4,h5⟩:=I.marks b cap buf cl s1 q1 hb hbuf;have hj2h:j2≠h:=by rintro rfl;rw [C.none] at h3;cases h3
            have hj2j:j2≠j:=by
              rintro rfl;rw [hSj] at h3;cases h3;exact hbk h2.symm
            refine ⟨f1,j2,s2,h1,h2,by simp only [az,fx9 hj2h,fx9 hj2j];exact h3,by simp only [fac,fx9 hj2h];exact h4,?_⟩;cases e:fixH H3 p b with
            | none=>rfl
            | some y=>
              exfalso;obtain ⟨hp,_⟩:=fixH_some.1 e;rcases hp with hp | hp | hp | hp | hp
              · exact hbk hp
              · exact hb1 hp
              · exact hb2 hp
              · exact hp h5
              · obtain ⟨o,ho⟩:=Option.ne_none_iff_exists'.1 hp;obtain ⟨_,_,h6,_⟩:=hDb b o ho;obtain ⟨c',e',f',rfl⟩:=C.crew.rows j sj b o hSj ho;obtain ⟨_,h7⟩:=I.rel.laid b _ hb;rw [h6] at h7;rcases h7 with ⟨_,_,h8,_⟩ | ⟨h8,_⟩ | ⟨_,_,_,h8⟩ <;>cases h8
    · rcases hl with hl | ⟨rfl,_⟩
      · rcases I.who g l hl with h1 | h1 | h1
        · exact .inl h1
        · exact .inr (.inl h1)
        · refine .inr (.inr ?_);unfold fac;split
          · simp
          · exact h1
      · exact .inr (.inr (by simp [fac]))
 have hc2:w3.cell? ⟨n+2,0,none⟩=some (.chan (some (n+1))):=by
    have:w3.heap[n+2]? =some (.cells #[.chan (some (n+1))] 163):=by rw [hw3 _ fe,fh9,hn,f02 rfl]
    simp [World.cell?,this]
 have hc1:w3.cell? ⟨n,0,none⟩=some (.func fv f1 f2):=by
    have:w3.heap[n]? =some (.cells #[.func fv f1 f2] 116):=by rw [hw3 _ fe,fh9,hn,fx9 fe,fx9 fe,f02 rfl];rfl
    simp [World.cell?,this]
 have hHn:H n=none:=by
    cases e:H n with
    | none=>rfl
    | some o=>have:=hHlt n pb;omega
 rw [hok] at C3
 have hog3:=fu3 (main:=j==0) (H:=H3) (Shun:=Shun) (w:=w3) (n:=0) (ds:=ds) (c0:=c0) (k:=sj.c) (g:=g2) (cap:= #[.pointer (some ⟨n+2,0,none⟩),.pointer (some ⟨n,0,none⟩)]) ((hhome g2).1 hhome2)
    (Φ:=fun a w' k'=> ∃ (a2 a3:Act) (rest:List Nat),a=G (dB.at a3 [.inRegion dOps (2::rest)]) (wB.at a2 callK::c0)∧a2.defers=ds∧a2.tmps.getD 6 undef= .chan (some sj.c)∧a2.tmps.size=12∧fmo ⟨n+2,0,none⟩ (n+1) (.func fv f1 f2) rest a3∧(∃ d,w'=w3.at d)∧k'=0)
    (fun a2 e1 e2 e3=>og_do1 (c1:=⟨n,0,none⟩) (c2:=⟨n+2,0,none⟩) (dc:=n+1) hc2 hc1 (.inr hsh) (.inl (by show H3 n=none;rw [hat3,fx9 fe,fx9 fe,fx9 fe];exact hHn))
      (fun a3 rest hAt=> .now fun d=>⟨a2,a3,rest,rfl,e1,e2,e3,hAt,⟨d,rfl⟩,rfl⟩))
 refine (C3.og I3.prot hog3 hD2).trans fun gs4 w4 T4 hh4=> ?_;obtain ⟨_,q4,⟨a2,a3,rest,rfl,m1,m2,m3,hAt,⟨d4,rfl⟩,hD4⟩,hsz4,C4⟩:=hh4;have hsz5:gs4.size=gs.size:=by rw [hsz4,hsz2',hsz1]
 refine do_call (x1:= .func fv f1 f2) (rest:=rest) A ih hk haD L2 hx1' hAt.1 (by rw [hsz5];exact hlt) (I3.step (rel3.re w3.tape d4)) C4 hD4 ?_;rw [hsz5];exact do_back (n:=n) (kc:=kd+1) A hW hk (fx5.1 C.here).1 hj rfl hjh hSxj hSxh hxs hhome hF hFxk fe hFk hFd hFc hFD (fun b o e=>C.crew.rows j sj b o hSj e) (by have:=(C.crew.low j sj hSj).1;omega) hsh hd' h0' hsz' m1 m2 m3 hAt L hcont
def fw6:rg[90]? =some putV:=by rw [wy,Tryz.func90];rfl
def pv87:PV.funcs[87]? =some Tryz.f87:=rd 87 Tryz.f87 (zw Tryz.f87) Tryz.func87 fu fu rfl fd
def AtV (x0 q:Value) (a:Act):Prop:=a.tmps.getD 0 undef=x0∧a.tmps.getD 3 undef=q∧a.defers=[]∧16≤a.tmps.size
abbrev putCall:Code:= .seq (.region 1 zm false) putT
section
variable {Stop:Frame→List Frame→World→Prop} {g:Frame} {l:List Frame} {v:World} {args:Array Value} {kind:CallKind}
def v_put1 (A:VS Tryz.prog rg Stop) (x0 x1 x2 x3 x4 x5 x6 x7 x8 x9 x10 x11 x12 x13 x14 x15:Value) (tl:List Value):
    VX Stop (.seq chkR putB) putCall (fun a' v'=>(∃ d,v'=(reW v v.tape d).alloc (.cells x1.cells 110))∧AtV x0 (.pointer (some ⟨v.heap.size,0,none⟩)) a')
     { tmps:=(x0::x1::x2::x3::x4::x5::x6::x7::x8::x9::x10::x11::x12::x13::x14::x15::tl).toArray,defers:=[] } v:=by
 refine fg1 A (ue A (fml A rfl fun d h1=>fml A rfl fun d' h2=>vi A ⟨rfl,?_⟩));refine fg1 A (ue A (bz A rfl (fun _=>rfl) (r:= .ok (.value (.pointer (some ⟨v.heap.size,0,none⟩))) ((reW v v.tape d').alloc (.cells x1.cells 110))) rfl (vi A ⟨rfl,fr9 ⟨⟨d',rfl⟩,rfl,rfl,rfl,?_⟩⟩)));simp [Act.put,oper]
def v_put2 (A:VS Tryz.prog rg Stop) {a:Act} {x0 q x:Value} (hk:kind= .normal∨kind= .deferred) (ha:AtV x0 q a) (L:Lv Tryz.prog rg Stop (((tB kind).at a [.inRegion zm [0],.code putT]).finish x,g::l,v)):
    ∃ res v',PutTR x0 q x v v' res∧Ahead PV Stop (((tB kind).at a [.inRegion zm [0],.code putT]).finish x,g::l,v) (ur kind res g,l,v'):=by
 obtain ⟨h0,h3,hd,hsz⟩:=ha;have efin:((tB kind).at a [.inRegion zm [0],.code putT]).finish x=(tB kind).at (a.put (some 6) x) [.inRegion zm [],.code putT]:=by rw [f0i];rfl
 rw [efin] at L ⊢;obtain ⟨l1,e,L1,h1⟩:=cy A L fi f1o;obtain rfl:=fz2 e;obtain ⟨Ls,ds0,hlen,rfl⟩:=wb a hsz;rcases Ls with _ | ⟨x0,_ | ⟨x1,_ | ⟨x2,_ | ⟨x3,_ | ⟨x4,_ | ⟨x5,_ | ⟨x6,_ | ⟨x7,_ | ⟨x8,_ | ⟨x9,_ | ⟨x10,_ | ⟨x11,_ | ⟨x12,_ | ⟨x13,_ | ⟨x14,_ | ⟨x15,tl⟩⟩⟩⟩⟩⟩⟩⟩⟩⟩⟩⟩⟩⟩⟩⟩ <;>first | (simp at hlen;done) | skip
 have hd:ds0=[]:=hd;have h0:x0=_:=h0;have h3:x3=_:=h3;subst hd;subst h0;subst h3;have hv:=v_putT (v:=v) A x0 x1 x2 x3 x4 x5 x x7 x8 x9 x10 x11 x12 x13 x14 x15 tl;obtain ⟨e,a',v',fr',⟨rfl,hd',hR⟩,⟨todo,rfl⟩,h2⟩:=hv (tB kind) [] (g::l) fi L1;have L2:=vn A L1 h2;have h3:=fmu (fn:=putV) (x:=a'.tmps.getD 4 undef) A fw6 hk hd' (by rw [f0x rfl]) L2;exact ⟨_,v',hR,h1.desc (h2.desc h3.to_desc).to_desc⟩
end
def fuf : fmf Tryz.prog rg (· ∈specials) WsOk 90:=by
 intro Stop WS Shun Φ args kind g l v A hR hW ih Fx Sx H S Sl h X cs gs w T q hk hlt L I C hD hcont;have hk':kind≠ .early:=by rcases hk with rfl | rfl <;>simp
 have hent:Frame.enter (V Tryz.prog rg) 90 args kind=(tB kind).at { tmps:=args++Array.replicate (putV.ntmps-args.size) undef,defers:=[] } [.code (.seq chkR putB)]:=enter_at (P:=PV) fw6 rfl;obtain ⟨Ls,hlen,hL,hg⟩:=fa5 args putV.ntmps;rw [hL] at hent;have hlen:16≤Ls.length:=hlen;rcases Ls with _ | ⟨x0,_ | ⟨x1,_ | ⟨x2,_ | ⟨x3,_ | ⟨x4,_ | ⟨x5,_ | ⟨x6,_ | ⟨x7,_ | ⟨x8,_ | ⟨x9,_ | ⟨x10,_ | ⟨x11,_ | ⟨x12,_ | ⟨x13,_ | ⟨x14,_ | ⟨x15,tl⟩⟩⟩⟩⟩⟩⟩⟩⟩⟩⟩⟩⟩⟩⟩⟩ <;>first | (simp at hlen;done) | skip
 have hx0:args.getD 0 undef=x0:=(hg 0).symm;have hx1:args.getD 1 undef=x1:=(hg 1).symm;rw [hent] at L hcont ih;obtain ⟨a',v1,⟨⟨d,rfl⟩,hat'⟩,hdesc⟩:=v_put1 (v:=v) A x0 x1 x2 x3 x4 x5 x6 x7 x8 x9 x10 x11 x12 x13 x14 x15 tl (tB kind) [] (g::l) fi L;generalize hfr0:(tB kind).at { tmps:=(x0::x1::x2::x3::x4::x5::x6::x7::x8::x9::x10::x11::x12::x13::x14::x15::tl).toArray,defers:=[] } [.code (.seq chkR putB)]=fr0 at*;have Ld:=fkx A hdesc L;obtain ⟨l1,e1,L1,ha1⟩:=cy A Ld fi f4d;obtain rfl:=fz2 e1;obtain ⟨l2,e2,L2,ha2⟩:=cy A L1 fi f2o;obtain rfl:=fz2 e2;have L2:Lv Tryz.prog rg Stop ((tB kind).at a' [.inRegion zm [0],.code putT],g::l,(reW v v.tape d).alloc (.cells x1.cells 110)):=L2;have hx0':a'.eval (.tmp 0)=x0:=hat'.1;have hcall:=fjl (P:=PV) (ρ:=a'.eval) (o:=zm[0]) (y:= .tmp 0) (ts:= #[87]) rfl pv87 fd fd rfl ((reW v v.tape d).alloc (.cells x1.cells 110));rw [hx0'] at hcall;have hstE:=stepG_enter (P:=PV) (main:=true) (b:=tB kind) (a:=a') (k:=[.code putT]) (cs:=(g::l)++[botF]) (ops:=zm) (i:=0) (rest:=[]) (o:=zm[0]) (w:=(reW v v.tape d).alloc (.cells x1.cells 110)) rfl rfl hk' (by rw [← f0d _ _ _ #[],hcall]);obtain ⟨l3,e3,L3,ha3⟩:=cy (fr:=(tB kind).at a' [.inRegion zm [0],.code putT]) A L2 fi hstE;rw [show (tB kind).at a' [.inRegion zm [0],.code putT]::(g::l++[botF])=((tB kind).at a' [.inRegion zm [0],.code putT]::g::l)++[botF] from rfl] at e3;obtain rfl:=fz2 e3
 have haD:Ahead PV Stop (fr0,g::l,v) (Frame.enter PV 87 #[x0] .normal,(tB kind).at a' [.inRegion zm [0],.code putT]::g::l,(reW v v.tape d).alloc (.cells x1.cells 110)):=
    hdesc.ahead (ha1.desc (ha2.desc ha3.to_desc).to_desc)
 have relu:Rel H (reW v v.tape d) w:=I.rel.re' v.tape d
 have hog:=og_pt1 (main:=h==0) (H:=H) (Shun:=Shun) (w:=w) (v:=reW v v.tape d) (n:=0) (X:=X) (cs:=cs) hk relu hx0 hx1
    (Φ:=fun aa w' k'=>(∃ a3,aa=G (Frame.enter Tryz.prog 87 #[x0] .normal) ((tB kind).at a3 [.inRegion ptR1 [1],.code fee,.code ip]::X::cs)∧fmv x0 (.pointer (some ⟨v.heap.size,0,none⟩)) a3)∧Rel H ((reW v v.tape d).alloc (.cells x1.cells 110)) w'∧k'=0)
    (fun a3 w1 rel1 hat=> .now fun d=>⟨⟨a3,rfl,hat⟩,rel1.re _ _,rfl⟩)
 refine (C.og I.prot hog hD).trans fun gs1 w1 T1 hh1=> ?_;obtain ⟨_,q1,⟨⟨a3,rfl,hat3⟩,rel1,hD1⟩,hsz1,C1⟩:=hh1;have I1:Inv WS Fx Sx H S Sl Shun ((reW v v.tape d).alloc (.cells x1.cells 110)) w1:=I.step rel1;rcases feg 87 fu with ⟨hsame,hnc⟩ | hdead
 · have henter:Frame.enter Tryz.prog 87 #[x0] .normal=Frame.enter PV 87 #[x0] .normal:=by
    show Frame.enter Tryz.prog 87 #[x0] .normal=Frame.enter (V Tryz.prog rg) 87 #[x0] .normal;unfold Frame.enter;rw [hsame]
   have C3:Hold Tryz.prog Sl Shun u5 S h (G (Frame.enter PV 87 #[x0] .normal) (tq [] (X::cs) (some ((tB kind).at a' [.inRegion zm [0],.code putT],g::l,(tB kind).at a3 [.inRegion ptR1 [1],.code fee,.code ip])))) T1 gs1 w1 q1:=by
    rw [← henter];exact C1
   have oke:FrOk Tryz.prog rg (Frame.enter PV 87 #[x0] .normal):=by
    rw [← henter];exact t9 A.code hsame _ (.inl rfl) fun _=>hnc
   refine (ih _ haD).1 Fx Sx H S Sl h [] _ (X::cs) gs1 w1 T1 q1 rfl oke fi (fun y hy=>by simp at hy;subst hy;rfl) pw L3 I1 C3 hD1 ?_;rw [hsz1];intro x v' w' H' S' St' gs' T' q' ha I' hsz C' hD';have haf:=haD.desc (ha:Ahead _ _ _ _).to_desc;obtain ⟨res,v2,hput,ha2⟩:=v_put2 A hk hat' (vn A L3 ha);have hafin:=haf.desc ha2.to_desc;rcases hput with ⟨rfl,rfl,rfl⟩ | ⟨rfl,rfl,p,rfl,k,cap,buf,s,r,f,hch,hkk,hcap,hroom,hf,rfl⟩
   · have hog2:=og_pt2 (main:=h==0) (H:=H') (Shun:=Shun) (w:=w') (n:=0) (X:=X) (cs:=cs) hk hat3 (Φ:=fun a w1 k1=>a=G (ur kind (.bool false) X) cs∧(∃ d,w1=w'.at d)∧k1=0) (.now fun d=>⟨rfl,⟨d,rfl⟩,rfl⟩);refine (C'.og I'.prot hog2 hD').trans fun gs2 w2 T2 hh2=> ?_;obtain ⟨_,q2,⟨rfl,⟨d2,rfl⟩,hD2⟩,hsz2,C2⟩:=hh2;exact hcont _ _ _ _ _ _ _ _ _ hafin (I'.step (I'.rel.re _ _)) (hsz2.trans hsz) C2 hD2
   · have hog2:=og_pt3 (main:=h==0) (H:=H') (Shun:=Shun) (w:=w') (v:=v') (n:=0) (X:=X) (cs:=cs) hk I'.rel hat3 hch hf
        (Φ:=fun aa w1 k1=>(∃ a4,aa=G ((tB kind).at a4 [.inRegion fef [0,1,2],.code fjm]) (X::cs)∧fre k f a4)∧Rel H' v' w1∧k1=0) (fun a4 w4 rel4 hat4=> .now fun d=>⟨⟨a4,rfl,hat4⟩,rel4.re _ _,rfl⟩)
     refine (C'.og I'.prot hog2 hD').trans fun gs2 w2 T2 hh2=> ?_;obtain ⟨_,q2,⟨⟨a4,rfl,hat4⟩,rel2,hD2⟩,hsz2,C2⟩:=hh2;have hHk:=fh8 rel2 hkk hcap;have hc:w2.heap[k]? =some (.chan cap buf false s r false):=by rw [← rel2.same _ hHk];exact hkk
     have hst: ∀ d,stepG Tryz.prog (h==0) (G ((tB kind).at a4 [.inRegion fef [0,1,2],.code fjm]) (X::cs)) (w2.at d)= .comm (G ((tB kind).at a4 [.inRegion fef [0,1,2],.code fjm]) (X::cs)) #[scase k f (.agg zero110)] false .select (w2.at d) #[]:=fun d=>by
        have hr:=flj (P:=Tryz.prog) (ρ:=a4.eval) (o:=fef[0]) (e:=110) (y:= .tmp 10) (x:= .tmp 11) (w:=w2.at d) rfl (Tryz.zero110 _);rw [hat4.1,hat4.2.1] at hr;rw [stepG_comm (o:=fef[0]) rfl rfl hk' qa,listed_none pu];rfl
     refine (C2.send_room rfl hD2 hst hc hroom (fun i s hs=>⟨fun e=>(I'.prot.seats i s hs).1 (by rw [e];exact hHk),?_⟩)).trans fun gs3 w3 T3 hh3=> ?_
     · cases e:s.D k with
       | none=>rfl
       | some o=>exact absurd hHk ((I'.prot.seats i s hs).2 k o e)
     obtain ⟨q3,d3,rfl,hsz3,hD3,C3⟩:=hh3;rw [pt_comm,flk] at C3
     have rel3:Rel H' (v'.setChan k cap (buf.push f) false (s+1) r false) ((w2.at d3).setChan k cap (buf.push f) false (s+1) r false):=
        (rel2.re w2.tape d3).setBlock hHk rfl fun _=>by
          simp [sg];omega
     generalize (w2.at d3).setChan k cap (buf.push f) false (s+1) r false=w3 at C3 rel3 ⊢;have hog4:=og_pt4 (main:=h==0) (H:=H') (Shun:=Shun) (w:=w3) (n:=0) (X:=X) (cs:=cs) (bb:= .bool false) hk hat4 (Φ:=fun a w1 k1=>a=G (ur kind (.bool true) X) cs∧(∃ d,w1=w3.at d)∧k1=0) (.now fun d=>⟨rfl,⟨d,rfl⟩,rfl⟩);refine (C3.og I'.prot hog4 hD3).trans fun gs4 w4 T4 hh4=> ?_;obtain ⟨_,q4,⟨rfl,⟨d4,rfl⟩,hD4⟩,hsz4,C4⟩:=hh4;exact hcont _ _ _ _ _ _ _ _ _ hafin (I'.step (rel3.re _ _)) (by rw [hsz4,hsz3,hsz2,hsz]) C4 hD4
 · exfalso;obtain ⟨c',cs',hcs'⟩:=fc9 ((tB kind).at a' [.inRegion zm [0],.code putT]::g::l);obtain ⟨o,u,es',he⟩:=hdead #[x0] .normal ((reW v v.tape d).alloc (.cells x1.cells 110)) true c' cs';exact mc A L3 fi ⟨o,u,es',by rw [hcs'];exact he⟩
attribute [local go_sem] xz
def Tryz.room102:(Tryz.prog.info? 102).map (fun i=>decide (i.size=0))=some false:=by kernel_rfl
def fmw {w:World} {p:Addr} {x:Value} (hc:w.cell? p=some x) (hl:fo9 w p):(convert 132 99 (.pointer (some p))).runT Tryz.prog w #[]=(.ok (.pointer (some p)) w,#[]):=by
 obtain ⟨e,n,hsh,hb⟩:=hl
 have hva:(variablesAt p 102 1).run Tryz.prog w= .ok true w:=by
    have:(Go.shape p.block:Sem _).run Tryz.prog w= .ok (some (e,n)) w:=by simp [Go.shape,Sem.run,hsh]
    show ((Go.program >>= fun p'=>Go.shape p.block >>= fun s=>(match s with
     | some (e,cells)=>Pure.pure (liesAt p' p'.depth e (cells / p'.cellsOf e) p.off 102 1)
     | none=>Pure.pure false):Sem Bool)).run Tryz.prog w=_
    simp [Go.program,fz9,this,Result.andThen,Sem.run,Pure.pure,hb]
 have hvae: ∀ es,(variablesAt p 102 1).events Tryz.prog w es=es:=fun es=>by
    show Sem.events Tryz.prog (match w.shape? p.block with
     | some (e,cells)=>Pure.pure (liesAt Tryz.prog Tryz.prog.depth e (cells / Tryz.prog.cellsOf e) p.off 102 1)
     | none=>Pure.pure false:Sem Bool) w es=es
    rw [hsh];rfl
 have hsa:(Conv.seenAt p).run Tryz.prog w= .ok p w:=by
    have:(Go.shape p.block:Sem _).run Tryz.prog w= .ok (some (e,n)) w:=by simp [Go.shape,Sem.run,hsh]
    simp [Conv.seenAt,viewAt,fz9,this,Result.andThen,Pure.pure,Sem.run]
 have hsae: ∀ es,(Conv.seenAt p).events Tryz.prog w es=es:=fun es=>by
    have:(Go.shape p.block:Sem _).run Tryz.prog w= .ok (some (e,n)) w:=by simp [Go.shape,Sem.run,hsh]
    simp [go_sem,Conv.seenAt,viewAt,this]
 have hsz:=Tryz.sizeOf102 w;refine f2v ?_ ?_
 · rw [f0d];simp [convert,Conv.unsafePointer,fz9,f0u Tryz.underlying132,f0u Tryz.underlying99,Result.andThen,hsa,hsz,hva,Pure.pure,Sem.run]
 · show Sem.events Tryz.prog _ w #[]= #[];simp [go_sem,convert,Conv.unsafePointer,f0u Tryz.underlying132,f0u Tryz.underlying99,hsa,hsae,hsz,hva,hvae]
section
variable {main:Bool} {H:Hide} {Shun:Loc→Prop} {Φ:Goroutine→World→Nat→Prop} {w:World} {n:Nat} {c:Frame} {cs:List Frame}
def og_cc {p:Addr} {args:Array Value} {kind:CallKind} (hk:kind= .normal∨kind= .deferred) (hp:args.getD 0 undef= .pointer (some p)) (hH:H p.block=none) (hc:w.cell? p=some (.pointer none)) (hz:w.frozen? p=false) (hl:fo9 w p)
    (h:OG Tryz.prog main H Shun Φ (G (ur kind (.tuple #[]) c) cs) (w.setCell p (.pointer (some p))) n):OG Tryz.prog main H Shun Φ (G (Frame.enter Tryz.prog 75 args kind) (c::cs)) w n:=by
 have hk':kind≠ .early:=by rcases hk with rfl | rfl <;>simp
 have hlt:p.block<w.heap.size:=zq hc;rw [enter_at Tryz.func75 rfl];obtain ⟨L,hlen,hL,h0⟩:=fa5 args Tryz.f75.ntmps;rw [hL];have hlen:20≤L.length:=hlen;rcases L with _ | ⟨x0,_ | ⟨x1,_ | ⟨x2,_ | ⟨x3,_ | ⟨x4,_ | ⟨x5,_ | ⟨x6,_ | ⟨x7,_ | ⟨x8,_ | ⟨x9,_ | ⟨x10,_ | ⟨x11,_ | ⟨x12,_ | ⟨x13,tl⟩⟩⟩⟩⟩⟩⟩⟩⟩⟩⟩⟩⟩⟩ <;>first | (simp at hlen;done) | skip
 have hx0:=(h0 0).trans hp;simp only [f1y] at hx0;subst hx0;have hcd: ∀ d,(w.at d).cell? p=some (.pointer none):=fun d=>hc;have hzd: ∀ d,(w.at d).frozen? p=false:=fun d=>hz;refine uv (rm ?_);refine ov (.pointer (some p)) w ?_;refine ov (.pointer (some p)) w ?_;refine ov (.pointer (some p)) w ?_;refine qz (x:= .pointer none) (w1:=w) rfl rfl hk' (fun d=>by have:=hcd d;go_simp) (fx8 _) (fun _ _=>rfl) (fun d e he=>by simp [go_sem,hcd] at he;subst he;exact ⟨xh hH hlt _ _,by simp [vl]⟩) ?_;refine ov (.bool true) w ?_;walk_nrm;refine u7 (xl (t:=true) rfl (rm ?_));refine ov (.pointer (some p)) w ?_;refine ov (.pointer (some p)) w ?_;have hcv:=fun d=>f3v (P:=Tryz.prog) (src:=99) (dst:=132) (w:=w.at d) Tryz.underlying99 Tryz.underlying132 Tryz.room102 hc;have hce:=fun d es=>f4u (P:=Tryz.prog) (src:=99) (dst:=132) (w:=w.at d) Tryz.underlying99 Tryz.underlying132 Tryz.room102 hc es;refine qz (x:= .pointer (some p)) (w1:=w) rfl rfl hk' (fun d=>by have:=hcv d;go_simp) (fx8 _) (fun _ _=>rfl) (fun d e he=>by simp [go_sem,hcv,hce] at he) ?_;walk_nrm;refine ll (w1:=w) (es:= #[]) rfl (fun d=>stepG_entry (v:= .pointer (some p)) (evs:= #[]) rfl rfl hk' rfl Tryz.func104 fd fd fd (e:=Extern.AbiNoEscape.same) fd jz jz fi) ⟨fx8 _,fun _ _=>rfl,by simp⟩ ?_;have hb: ∀ d,(convert 132 99 (.pointer (some p))).run Tryz.prog (w.at d)= .ok (.pointer (some p)) (w.at d):=fun d=>by rw [← f0d _ _ _ #[],fmw (w:=w.at d) hc hl]
 have hbe: ∀ d,(convert 132 99 (.pointer (some p))).events Tryz.prog (w.at d) #[]= #[]:=fun d=>by show (Sem.runT _ _ _ _).2=_;rw [fmw (w:=w.at d) hc hl]
 refine qz (x:= .pointer (some p)) (w1:=w) rfl rfl hk' (fun d=>by have:=hb d;go_simp) (fx8 _) (fun _ _=>rfl) (fun d e he=>by simp [go_sem,hb,hbe] at he) ?_;walk_nrm;refine ov (.pointer (some p)) w ?_;refine ov (.pointer (some p)) w ?_;walk_nrm;obtain ⟨s1,s2⟩:=ai (w:=w) hH (.pointer (some p))
 refine fl5 (w1:=w.setCell p (.pointer (some p))) rfl rfl hk' (fun d=>by have:=hzd d;have:=hcd d;clear h;go_simp;rfl) s1 s2 (fun d e he=>by
    simp [go_sem,hzd,hcd] at he;rw [events_store Tryz.prog (w.at d) #[] p (.pointer (some p)) .plain rfl] at he;simp [storedEv,hzd,hcd] at he;subst he;exact ⟨xh hH jy _ _,by simp [vl]⟩) ?_
 walk_nrm;refine u7 (fiu (ze hk rfl Tryz.func75 (f2z rfl _) ?_));exact h
def feh (p:Addr) (w:World):(binOp .neq 99 (.pointer (some p)) (.pointer (some p))).runT Tryz.prog w #[]=(.ok (.bool false) w,#[]):=by
 have hu: ∀ w,(underlying 99).run Tryz.prog w= .ok (.pointer 102) w:=Tryz.runUnderlying99;have hform:binOp .neq 99 (.pointer (some p)) (.pointer (some p))=(Op.equal 99 (.pointer (some p)) (.pointer (some p)) >>= fun b=>Pure.pure (.bool (!b)):Sem Value):=rfl;have heq:Op.equal 99 (.pointer (some p)) (.pointer (some p))=Op.equalIn (9999+1) 99 (.pointer (some p)) (.pointer (some p)):=by simp only [Op.equal,Op.maxDepth]
 have hin: ∀ D,(Op.equalIn (D+1) 99 (.pointer (some p)) (.pointer (some p))).run Tryz.prog w= .ok true w:=fun D=>by
    simp [Op.equalIn,fz9,hu,Result.andThen,samePointer,sameAddr,Pure.pure,Sem.run]
 have hine: ∀ D,(Op.equalIn (D+1) 99 (.pointer (some p)) (.pointer (some p))).events Tryz.prog w #[]= #[]:=fun D=>by
    simp [go_sem,Op.equalIn,hu,samePointer,sameAddr]
 have h1:=hin 9999;have h2:=hine 9999;rw [hform,heq];generalize 9999=D at h1 h2 ⊢;refine f2v ?_ ?_
 · rw [f0d];exact (qw h1).trans rfl
 · show Sem.events Tryz.prog _ w #[]= #[];simp [go_sem,h1,h2]
def og_cc2 {p:Addr} {args:Array Value} {kind:CallKind} (hk:kind= .normal∨kind= .deferred) (hp:args.getD 0 undef= .pointer (some p)) (hH:H p.block=none) (hc:w.cell? p=some (.pointer (some p)))
    (h:OG Tryz.prog main H Shun Φ (G (ur kind (.tuple #[]) c) cs) w n):OG Tryz.prog main H Shun Φ (G (Frame.enter Tryz.prog 75 args kind) (c::cs)) w n:=by
 have hk':kind≠ .early:=by rcases hk with rfl | rfl <;>simp
 have hlt:p.block<w.heap.size:=zq hc;rw [enter_at Tryz.func75 rfl];obtain ⟨L,hlen,hL,h0⟩:=fa5 args Tryz.f75.ntmps;rw [hL];have hlen:20≤L.length:=hlen;rcases L with _ | ⟨x0,_ | ⟨x1,_ | ⟨x2,_ | ⟨x3,_ | ⟨x4,_ | ⟨x5,_ | ⟨x6,_ | ⟨x7,_ | ⟨x8,_ | ⟨x9,_ | ⟨x10,_ | ⟨x11,_ | ⟨x12,_ | ⟨x13,_ | ⟨x14,_ | ⟨x15,_ | ⟨x16,_ | ⟨x17,_ | ⟨x18,_ | ⟨x19,tl⟩⟩⟩⟩⟩⟩⟩⟩⟩⟩⟩⟩⟩⟩⟩⟩⟩⟩⟩⟩ <;>first | (simp at hlen;done) | skip
 have hx0:=(h0 0).trans hp;simp only [f1y] at hx0;subst hx0;have hcd: ∀ d,(w.at d).cell? p=some (.pointer (some p)):=fun d=>hc;refine uv (rm ?_);refine ov (.pointer (some p)) w ?_;refine ov (.pointer (some p)) w ?_;refine ov (.pointer (some p)) w ?_;refine qz (x:= .pointer (some p)) (w1:=w) rfl rfl hk' (fun d=>by have:=hcd d;go_simp) (fx8 _) (fun _ _=>rfl) (fun d e he=>by simp [go_sem,hcd] at he;subst he;exact ⟨xh hH hlt _ _,by simp [vl]⟩) ?_;refine ov (.bool false) w ?_;walk_nrm;refine u7 (xl (t:=false) rfl (uv (rm ?_)));refine ov (.pointer (some p)) w ?_;refine ov (.pointer (some p)) w ?_;refine ov (.pointer (some p)) w ?_;refine qz (x:= .pointer (some p)) (w1:=w) rfl rfl hk' (fun d=>by have:=hcd d;go_simp) (fx8 _) (fun _ _=>rfl) (fun d e he=>by simp [go_sem,hcd] at he;subst he;exact ⟨xh hH hlt _ _,by simp [vl]⟩) ?_;refine ov (.pointer (some p)) w ?_;walk_nrm;have hq: ∀ d,(binOp .neq 99 (.pointer (some p)) (.pointer (some p))).run Tryz.prog (w.at d)= .ok (.bool false) (w.at d):=fun d=>by rw [← f0d _ _ _ #[],feh]
 have hqe: ∀ d,(binOp .neq 99 (.pointer (some p)) (.pointer (some p))).events Tryz.prog (w.at d) #[]= #[]:=fun d=>by show (Sem.runT _ _ _ _).2=_;rw [feh]
 refine qz (x:= .bool false) (w1:=w) rfl rfl hk' (fun d=>by have:=hq d;go_simp) (fx8 _) (fun _ _=>rfl) (fun d e he=>by simp [go_sem,hq,hqe] at he) ?_;walk_nrm;refine u7 (xl (t:=false) rfl (oa (fiu (ze hk rfl Tryz.func75 (f2z rfl _) ?_))));exact h
end
def virt75:rg[75]? =some ccV:=by rw [wy,Tryz.func75];rfl
section
variable {Stop:Frame→List Frame→World→Prop} {g:Frame} {l:List Frame} {v:World} {args:Array Value} {kind:CallKind}
def v_cc (A:VS Tryz.prog rg Stop) (hR: ∀ fr l v t d,Stop fr l v→Stop fr l (reW v t d)) (L:Lv Tryz.prog rg Stop (Frame.enter PV 75 args kind,g::l,v)):
    ∃ d v',CcR (args.getD 0 undef) (reW v v.tape d) v'∧Ahead PV Stop (Frame.enter PV 75 args kind,g::l,v) (ur kind (.tuple #[]) g,l,v'):=by
 obtain ⟨x,v',⟨rfl,d,hR⟩,ha⟩:=fgw (R:=fun x v'=>x= .tuple #[]∧ ∃ d,CcR (args.getD 0 undef) (reW v v.tape d) v') A virt75 rfl L (by
    obtain ⟨Ls,hlen,hL,h0⟩:=fa5 args 5;show VW Tryz.prog rg Stop (.seq chkR ccB) _ { tmps:=args++Array.replicate (5-args.size) undef,defers:=[] } v;rw [hL];rcases Ls with _ | ⟨x0,_ | ⟨x1,_ | ⟨x2,_ | ⟨x3,_ | ⟨x4,tl⟩⟩⟩⟩⟩ <;>first | (simp at hlen;done) | skip
    refine fmm A fun d hv=> ?_;have h:=v_ccB A hR x0 x1 x2 x3 x4 tl (v:=reW v v.tape d) (fun p hp=>hv p hp);intro b k l hl L;obtain ⟨e,a',v',fr',⟨rfl,hd,hR⟩,harr,ha⟩:=h b k l hl L;refine ⟨_,a',v',fr',⟨.inr rfl,hd,.tuple #[],f2g rfl _ _ _,rfl,d,?_⟩,harr,ha⟩;rw [mh h0 rfl];exact hR)
 exact ⟨d,v',hR,ha⟩
end
def spec_cc:SpecOk Tryz.prog rg 75:=by
 intro Stop WS Shun Φ args kind g l v A hR Fx Sx H S St h X cs gs w T q hk hlt L I C hD hcont;obtain ⟨d,v',⟨p,hp,hcase⟩,ha⟩:=v_cc A hR L;rcases hcase with ⟨hc,hz,hl,rfl⟩ | ⟨hc,t,d2,rfl⟩
 · have hc:v.cell? p=some (.pointer none):=hc;have hz:v.frozen? p=false:=hz;have hl:fo9 v p:=hl;have hH:=I.rel.hidden_cell hc;have hcw:=I.rel.cell hc;have hzw:=(I.rel.frozen hH).trans hz;have hlw:fo9 w p:=by
    obtain ⟨e,n,h1,h2⟩:=hl;refine ⟨e,n,?_,h2⟩;rw [← h1];unfold World.shape?;rw [I.rel.same _ hH]
   have hog:=og_cc (main:=h==0) (H:=H) (Shun:=Shun) (w:=w) (n:=0) (c:=X) (cs:=cs) (Φ:=fun a w' k=>a=G (ur kind (.tuple #[]) X) cs∧(∃ d,w'=(w.setCell p (.pointer (some p))).at d)∧k=0) hk hp hH hcw hzw hlw (.now fun d=>⟨rfl,⟨d,rfl⟩,rfl⟩);refine (C.og I.prot hog hD).trans fun gs' w' T' hh=> ?_;obtain ⟨a',q',⟨rfl,⟨d',rfl⟩,hD'⟩,hsz,C'⟩:=hh;have rel':Rel H ((reW v v.tape d).setCell p (.pointer (some p))) ((w.setCell p (.pointer (some p))).at d'):=(((I.rel.re' v.tape d).setCell hH _).re _ _);exact hcont _ _ _ _ _ _ _ _ _ ha (I.step rel') hsz C' hD'
 · have hc:v.cell? p=some (.pointer (some p)):=hc;have hH:=I.rel.hidden_cell hc;have hcw:=I.rel.cell hc;have hog:=og_cc2 (main:=h==0) (H:=H) (Shun:=Shun) (w:=w) (n:=0) (c:=X) (cs:=cs) (Φ:=fun a w' k=>a=G (ur kind (.tuple #[]) X) cs∧(∃ d,w'=w.at d)∧k=0) hk hp hH hcw (.now fun d=>⟨rfl,⟨d,rfl⟩,rfl⟩);refine (C.og I.prot hog hD).trans fun gs' w' T' hh=> ?_;obtain ⟨a',q',⟨rfl,⟨d',rfl⟩,hD'⟩,hsz,C'⟩:=hh;have rel':Rel H (reW (reW v v.tape d) t d2) (w.at d'):=(((I.rel.re' v.tape d).re' t d2).re _ _);exact hcont _ _ _ _ _ _ _ _ _ ha (I.step rel') hsz C' hD'
end Go.Proofs.YtelecjnabeokeaaGreatDoor
namespace Go.Proofs.YtelecjnabeokeaaGreatDoor
open Go Go.Conc Go.RowKit
def lp:LP Tryz.prog rg (· ∈specials) WsOk where
 fok:=md
 nc:=virt_nc
 same:=feg
 spec:=fun f hf=>by
    simp only [specials,fy3,fz8,f0z] at hf;rcases hf with rfl | rfl | rfl | rfl | rfl | rfl
    · exact spec_do
    · exact spec_lock.ofDo _ _
    · exact spec_unlock.ofDo _ _
    · exact spec_cc.ofDo _ _
    · exact fuf
    · exact spec_peek.ofDo _ _
def vs {Stop:Frame→List Frame→World→Prop} (h1: ∀ fr l v,Stop fr l v→l=[]) (h2: ∀ fr l v,Stop fr l v→ ¬ PanS (fr::l)):VS Tryz.prog rg Stop:=⟨fqo,fqm,h1,h2⟩
open Go.Conc.Lib
def MarkAt (v:World) (c:Nat):Prop:= ∃ x s r,v.heap[c]? =some (.chan 1 #[x] false s r true)
structure SesV (b sb ab n cp c0:Nat) (kb ch:Nat→Nat) (v:World):Prop where
 ses: ∃ c e,v.heap[b]? =some (.cells c e (0,0))∧c.size=8∧c[0]? =some (.int .i32 0)∧c[2]? =some (.slice (some ⟨ab,0,none⟩) n cp)∧c[3]? =some (.pointer (some ⟨sb,0,none⟩))∧c[5]? =some (.bool false)∧c[6]? =some (.int .u64 ((n+1:Nat)*K32))∧c[7]? =some (.int .u32 0)
 srv:v.cell? ⟨sb,5,none⟩=some (.chan (some c0))
 cl: ∀ i,i<n→v.cell? ⟨ab,i,none⟩=some (.pointer (some ⟨kb i,0,none⟩))∧v.cell? ⟨kb i,10,none⟩=some (.chan (some (ch i)))
 apart:sb≠b∧ab≠b∧ ∀ i,i<n→kb i≠b
 small:n<1000
 one:1≤n
 m0:MarkAt v c0
 ms: ∀ i,i<n→MarkAt v (ch i)
 ne: ∀ i,i<n→ch i≠c0
structure SesW (b j0 n c0:Nat) (ch:Nat→Nat) (WS:Nat→Option SeatD) (N:Nat):Prop where
 pos:1≤j0
 fits:j0+(n+1)≤N
 srv: ∃ s,WS j0=some s∧s.c=c0
 cl: ∀ i,i<n→ ∃ s,WS (j0+1+i)=some s∧s.c=ch i
 no: ∀ k,WS k≠none→j0≤k∧k<j0+(n+1)
 home: ∀ j s,WS j=some s→s.ok=true∧s.z= .nilFunc∧ ∀ g,s.home g↔fbr [dcall 79 #[.pointer (some (stC b))]] [fau] s.c g
 inj: ∀ i j s s',WS i=some s→WS j=some s'→s.c=s'.c→i=j
def SesW.ok {b j0 n c0:Nat} {ch:Nat→Nat} {WS:Nat→Option SeatD} {N:Nat} {Shun:Loc→Prop} (W:SesW b j0 n c0 ch WS N):WsOk WS Shun:=
 ⟨fun j s h=>⟨(W.home j s h).1,(W.home j s h).2.1,_,_,by simp,(W.home j s h).2.2⟩,W.inj⟩
structure fll (C:Nat→Prop) (v v':World):Prop where
 size:v'.heap.size=v.heap.size
 same: ∀ x,¬ C x→v'.heap[x]? =v.heap[x]?
 os:v'.os=v.os
 output:v'.output=v.output
abbrev vb:Nat→Option SeatD:=fun _=>none
def fug (Fx:Nat→Option (Obj×Option Obj)):Prop:= ∀ b x,Fx b=some x→ ∀ cap buf cl s q tm,x.1≠ .chan cap buf cl s q tm
section
variable {b sb ab n cp c0 j0:Nat} {kb ch:Nat→Nat} {WS:Nat→Option SeatD} {H:Hide} {Shun:Loc→Prop} {St:Nat→Loc→Prop} {S:Nat→Option SeatD} {v w:World} {X:Frame} {cs:List Frame} {gs:Array Goroutine} {q:Nat→Nat} {T:Trace}
 {Φ:Array Goroutine→World→Trace→Prop} {Fx:Nat→Option (Obj×Option Obj)}
def fei {c:Nat} (I:Inv WS Fx vb H S St Shun v w) (hm:MarkAt v c): ∃ o,H c=some o:=by
 obtain ⟨x,s,r,h⟩:=hm;cases e:H c with
 | some o=>exact ⟨o,rfl⟩
 | none=>
   have:=I.rel.chans I.on c _ e h;simp [sg] at this
def fjp {c:Nat} (I:Inv WS Fx vb H S St Shun v w) (hm:MarkAt v c): ∃ j s,WS j=some s∧s.c=c∧S j=some s:=by
 obtain ⟨o,ho⟩:=fei I hm;obtain ⟨x,s,r,h⟩:=hm;obtain ⟨h1,_⟩:=I.rel.laid c o ho;rw [h] at h1;obtain rfl:=fy7 h1;obtain ⟨_,j,s,h1,h2,h3,_⟩:=I.marks c _ _ _ _ _ ho fi;exact ⟨j,s,h1,h2,h3⟩
def frg (W:SesW b j0 n c0 ch WS gs.size) (V:SesV b sb ab n cp c0 kb ch v) (I:Inv WS Fx vb H S St Shun v w):fw3 b j0 n c0 ch S gs.size:=by
 have hSW: ∀ j s,S j=some s→WS j=some s:=fun j s h=>(I.only j s h).resolve_right fi;refine ⟨W.pos,W.fits,?_,fun i hi=> ?_,fun k hk=> ?_,fun j s h=> ?_⟩
 · obtain ⟨s,h1,h2⟩:=W.srv;obtain ⟨j,s',h3,h4,h5⟩:=fjp I V.m0;have:=W.inj _ _ _ _ h3 h1 (h4.trans h2.symm);subst this;exact ⟨s',h5,h4⟩
 · obtain ⟨s,h1,h2⟩:=W.cl i hi;obtain ⟨j,s',h3,h4,h5⟩:=fjp I (V.ms i hi);have:=W.inj _ _ _ _ h3 h1 (h4.trans h2.symm);subst this;exact ⟨s',h5,h4⟩
 · cases e:S k with
   | none=>exact absurd e hk
   | some s=>exact W.no k (by rw [hSW k s e];simp)
 · obtain ⟨h1,h2,h3⟩:=W.home j s (hSW j s h);exact ⟨h1,h2,fun g hg=>(h3 g).1 hg⟩
open Classical in
noncomputable def ci (b:Nat) (e:TypeId) (C:Nat→Prop) (v:World):World:={ v with heap:=v.heap.mapIdx fun i o=>if i=b then .cells #[] e (0,0) else if C i then hidO else o }
open Classical in
noncomputable def xy (b:Nat) (e:TypeId) (C:Nat→Prop) (H:Hide) (w:World):Hide:=⟨fun i=>if i=b then some (.cells #[] e (0,0)) else if C i then some hidO else H i,fun i=>w.heap[i]?,H.on⟩
open Classical in
def flm {e:TypeId} {C:Nat→Prop} {w':World} (rel:Rel H v w) (hb: ∃ c,w'.heap[b]? =some (.cells c e (0,0))) (hC: ∀ x,C x→ ∃ k,w'.heap[x]? =some (.chan 0 #[] true k k false)) (hsame: ∀ x,x≠b→ ¬ C x→w'.heap[x]? =w.heap[x]?)
    (hsz:w'.heap.size=w.heap.size) (hos:w'.os=w.os) (hou:w'.output=w.output):Rel (xy b e C H w') (ci b e C v) w':=by
 have hlt: ∀ {x:Nat} {o:Obj},w'.heap[x]? =some o→x<v.heap.size:=fun h=>by
    rw [rel.size,← hsz];exact (fx5.1 h).1
 have hv: ∀ x,(ci b e C v).heap[x]? =(v.heap[x]?).map fun o=>if x=b then Obj.cells #[] e (0,0) else if C x then hidO else o:=fun x=>by simp [ci,f4x]
 refine ⟨by simp [ci,rel.size,hsz],fun x hx=> ?_,fun x o hx=> ?_,by rw [hos];exact rel.os,by rw [hou];exact rel.output,fun x o hx=> ?_,fun x o hx=>rfl,fun hon x o hx ho=> ?_⟩
 · simp only [xy] at hx;split at hx
   · cases hx
   · rename_i h1;split at hx
     · cases hx
     · rename_i h2;rw [hv,hsame x h1 h2,← rel.same x hx];cases v.heap[x]? <;>simp [h1,h2]
 · simp only [xy] at hx;split at hx
   · rename_i h1;subst h1;obtain ⟨c,hc⟩:=hb;obtain rfl:=fy7 hx;have:=hlt hc;exact ⟨by rw [hv,fz1 this];simp,.inl ⟨e,c,rfl,hc⟩⟩
   · rename_i h1;split at hx
     · rename_i h2;obtain ⟨k,hk⟩:=hC x h2;obtain rfl:=fy7 hx;have:=hlt hk;exact ⟨by rw [hv,fz1 this];simp [h1,h2],.inr (.inl ⟨rfl,_,rfl,hk⟩)⟩
     · rename_i h2;obtain ⟨h3,h4⟩:=rel.laid x o hx;exact ⟨by rw [hv,h3];simp [h1,h2],by rw [hsame x h1 h2];exact h4⟩
 · rw [hv] at hx;obtain ⟨o',ho',rfl⟩:=fy8.1 hx;split
   · rfl
   · split
     · rfl
     · exact rel.objs x o' ho'
 · simp only [xy] at hx;rw [hv] at ho;obtain ⟨o',ho',rfl⟩:=fy8.1 ho;split at hx
   · cases hx
   · rename_i h1;split at hx
     · cases hx
     · rename_i h2;simp only [h1,h2,f0s];exact rel.chans hon x o' hx ho'
def stop_co (hFx:fug Fx) (W:SesW b j0 n c0 ch WS gs.size) (V:SesV b sb ab n cp c0 kb ch v) (I:Inv WS Fx vb H S St Shun v w) (C:Hold Tryz.prog St Shun u5 S 0 (G (Frame.enter Tryz.prog 12 #[.pointer (some ⟨b,0,none⟩)] .normal) (X::cs)) T gs w q) (hD:Deaf T 0=0)
    (hcont: ∀ v' w' H' St' gs' T' q',fll (fun x=>x=b∨x=c0∨ ∃ i,i<n∧x=ch i) v v'→Inv vb Fx vb H' vb St' (fax b Shun) v' w'→gs'.size=gs.size→Hold Tryz.prog St' (fax b Shun) u5 vb 0 (G (ur .normal (.tuple #[]) X) cs) T' gs' w' q'→Deaf T' 0=0→Leads Tryz.prog Φ gs' w' T'):
    Leads Tryz.prog Φ gs w T:=by
 obtain ⟨cc,e,hb,hsz,h0,h2,h3,h5,h6,h7⟩:=V.ses;have hcell: ∀ o x,cc[o]? =some x→v.cell? ⟨b,o,none⟩=some x:=fun o x h=>by simp [World.cell?,hb,h]
 have hHb:H b=none:=I.rel.hidden_cell (hcell 0 _ h0);have hbw:w.heap[b]? =some (.cells cc e (0,0)):=by rw [← I.rel.same b hHb];exact hb
 have hHs:H sb=none:=I.rel.hidden_cell V.srv;have hHk: ∀ i,i<n→H ab=none∧H (kb i)=none:=fun i hi=>⟨I.rel.hidden_cell (V.cl i hi).1,I.rel.hidden_cell (V.cl i hi).2⟩
 have hHc: ∀ x,MarkAt v x→x≠b:=fun x hx e'=>by
    obtain ⟨o,ho⟩:=fei I hx;subst e';rw [hHb] at ho;cases ho
 have hCr:=frg W V I;obtain ⟨w0,hw0⟩: ∃ w0,w0=(w.setCell ⟨b,0,none⟩ (.int .i32 1)).setCell ⟨b,5,none⟩ (.bool true):=⟨_,rfl⟩;have hb0:w0.heap[b]? =some (.cells ((cc.setIfInBounds 0 (.int .i32 1)).setIfInBounds 5 (.bool true)) e (0,0)):=by rw [hw0];simp [World.setCell,fy6,hbw]
 have hne0: ∀ x,x≠b→w0.heap[x]? =w.heap[x]? :=fun x hx=>by rw [hw0];simp [World.setCell,fy6,f3w hx]
 have hsz0:w0.heap.size=w.heap.size:=by rw [hw0];simp [World.setCell]
 have hos0:w0.os=w.os∧w0.output=w.output:=by rw [hw0];exact ⟨rfl,rfl⟩
 have hce0: ∀ (p:Addr) (x:Value),p.block≠b→v.cell? p=some x→w0.cell? p=some x:=fun p x hp h=>by
    rw [← I.rel.cell h];unfold World.cell?;rw [hne0 _ hp]
 have hcc: ∀ o x,cc[o]? =some x→o≠0→o≠5→((cc.setIfInBounds 0 (.int .i32 1)).setIfInBounds 5 (.bool true))[o]? =some x:=fun o x h h1 h2=>by
    simp [fy1,f3w h1,f3w h2,h]
 have hc1:((cc.setIfInBounds 0 (.int .i32 1)).setIfInBounds 5 (.bool true))[0]? =some (.int .i32 1):=by simp [fy1,hsz]
 have Z: ∀ d,StopW b sb ab n cp c0 kb ch (w0.at d):=fun d=>⟨⟨_,e,hb0,by simp [hsz],hc1,hcc 2 _ h2 fi fi,hcc 3 _ h3 fi fi⟩,hce0 _ _ V.apart.1 V.srv,fun i hi=>⟨hce0 _ _ V.apart.2.1 (V.cl i hi).1,hce0 _ _ (V.apart.2.2 i hi) (V.cl i hi).2⟩,V.apart,by have:=V.small;omega⟩
 have hca: ∀ d,CellsAt b (w0.at d) ((n+1:Nat)*K32) 0:=fun d=>by
    have h6':=hcc 6 _ h6 fi fi;have h7':=hcc 7 _ h7 fi fi;refine ⟨?_,?_,?_,?_⟩
    · show w0.cell? (stC b)=_;simp only [World.cell?,hb0];simpa using h6'
    · show w0.cell? (smC b)=_;simp only [World.cell?,hb0];simpa using h7'
    · show w0.frozen? (stC b)=_;simp [World.frozen?,hb0]
    · show w0.frozen? (smC b)=_;simp [World.frozen?,hb0]
 refine (C.og I.prot (fu9 (Φ:=fun g w' d=> ∃ T0:Array Value,T0.size=43∧T0[0]? =some (.pointer (some ⟨b,0,none⟩))∧g=G ((base 12).at ⟨T0,ffw b⟩ [.code ffb]) (X::cs)∧(∃ d',w'=w0.at d')∧d=0) hHb hbw h0 h5 (n:=0) fun T hT h0=> .now fun d=>⟨T,hT,h0,rfl,⟨d,by rw [hw0]⟩,rfl⟩) hD).trans fun gs1 w1 T1 hh=> ?_;obtain ⟨a',q',⟨T0,hT0,h00,rfl,⟨d',rfl⟩,hd'⟩,hsz1,C1⟩:=hh;refine (fr8 hT0 h00 I.prot ⟨hHb,hHs,(hHk 0 V.one).1,fun i hi=>(hHk i hi).2⟩ ⟨hHc _ V.m0,fun i hi=>hHc _ (V.ms i hi)⟩ V.ne (by rw [hsz1];exact hCr) (Z d') (hca d') V.small C1 hd').trans fun gs2 u2 T2 hh=> ?_;obtain ⟨w1,hclo,a2,w2,q2,d2,rfl,hsz2,hs2,C2,rfl,rfl,hd2⟩:=hh
 have hCb: ¬ (b=c0∨ ∃ i,i<n∧b=ch i):=by
    rintro (h | ⟨i,hi,h⟩)
    · exact hHc _ V.m0 h.symm
    · exact hHc _ (V.ms i hi) h.symm
 have hb1:w1.heap[b]? =some (.cells ((cc.setIfInBounds 0 (.int .i32 1)).setIfInBounds 5 (.bool true)) e (0,0)):=(hclo.same b hCb).trans hb0;have hb2: ∃ c,(w1.setCell ⟨b,0,none⟩ (.int .i32 0)).heap[b]? =some (.cells c e (0,0)):=⟨_,by simp [World.setCell,fy6,hb1];rfl⟩
 have hne2: ∀ x,x≠b→((wgw b (w1.setCell ⟨b,0,none⟩ (.int .i32 0)) 0 0).at d2).heap[x]? =w1.heap[x]? :=fun x hx=>by
    show (wgw b (w1.setCell ⟨b,0,none⟩ (.int .i32 0)) 0 0).heap[x]? =_;rw [yz hx];simp [World.setCell,fy6,f3w hx]
 have hrel:Rel (xy b e (fun x=>x=c0∨ ∃ i,i<n∧x=ch i) H ((wgw b (w1.setCell ⟨b,0,none⟩ (.int .i32 0)) 0 0).at d2)) (ci b e (fun x=>x=c0∨ ∃ i,i<n∧x=ch i) v) ((wgw b (w1.setCell ⟨b,0,none⟩ (.int .i32 0)) 0 0).at d2):=by
    refine flm I.rel ?_ (fun x hx=> ?_) (fun x h1 h2=> ?_) ?_ ?_ ?_
    · obtain ⟨c,hc⟩:=hb2;exact ⟨_,fqh hc⟩
    · obtain ⟨k,hk⟩:=hclo.muted x hx;exact ⟨k,by rw [hne2 x fun e=>hCb (e▸hx)];exact hk⟩
    · rw [hne2 x h1,hclo.same x h2];exact hne0 x h1
    · show (wgw b (w1.setCell ⟨b,0,none⟩ (.int .i32 0)) 0 0).heap.size=_;rw [fgx];simp only [World.setCell,f5u];rw [hclo.size];exact hsz0
    · show w1.os=_;rw [hclo.os];exact hos0.1
    · show w1.output=_;rw [hclo.output];exact hos0.2
 refine hcont (ci b e (fun x=>x=c0∨ ∃ i,i<n∧x=ch i) v) _ (xy b e (fun x=>x=c0∨ ∃ i,i<n∧x=ch i) H ((wgw b (w1.setCell ⟨b,0,none⟩ (.int .i32 0)) 0 0).at d2)) _ _ _ _ ⟨by simp [ci],fun x hx=> ?_,rfl,rfl⟩ ⟨hrel,⟨fun i s h=>je,fun g l hl=> ?_,fun l hl=> ?_⟩,I.on,fun x y hx=> ?_,fun _ _ h=>je,fun _ _ h=>je,fun x cap buf cl s q hx hbuf=> ?_,fun g l hl=> ?_⟩ fe C2 hd2
 · have h1:x≠b:=fun h=>hx (.inl h);have h2: ¬ (x=c0∨ ∃ i,i<n∧x=ch i):=fun h=>hx (.inr h);simp only [ci,f4x,h1,h2,f0s];cases v.heap[x]? <;>rfl
 · obtain ⟨a,ha,hh⟩:=I.prot.still g l hl.1;refine ⟨a,ha,?_⟩;simp only [xy];split
   · simp
   · split
     · simp
     · exact hh
 · rcases hl with hl | rfl | rfl
   · obtain ⟨a,ha,hh⟩:=I.prot.shun l hl;refine ⟨a,ha,?_⟩;simp only [xy];split
     · simp
     · split
       · simp
       · exact hh
   · exact ⟨_,rfl,by simp [xy]⟩
   · exact ⟨_,rfl,by simp [xy]⟩
 · obtain ⟨e1,e2⟩:=I.fix x y hx;have h1:x≠b:=fun h=>by rw [h,hHb] at e1;cases e1
   have hv:=(I.rel.laid x _ e1).1;have h2: ¬ (x=c0∨ ∃ i,i<n∧x=ch i):=by
    have hm: ¬ MarkAt v x:=by
     rintro ⟨_,_,_,h⟩;rw [hv] at h;exact hFx x y hx _ _ _ _ _ _ (fy7 h)
    rintro (rfl | ⟨i,hi,rfl⟩)
    · exact hm V.m0
    · exact hm (V.ms i hi)
   refine ⟨by simp only [xy];rw [fx9 h1,fx9 h2];exact e1,?_⟩;show ((wgw b (w1.setCell ⟨b,0,none⟩ (.int .i32 0)) 0 0).at d2).heap[x]? =_;rw [hne2 x h1,hclo.same x h2];exact (hne0 x h1).trans ((I.rel.kept x _ e1).trans e2)
 · simp only [xy] at hx;split at hx
   · cases hx
   · split at hx
     · cases hx
     · rename_i h1 h2;obtain ⟨_,j,s',h3,h4,h5,_⟩:=I.marks x cap buf cl s q hx hbuf;exfalso;apply h2;have hjr:=W.no j (by rw [h3];simp);by_cases e:j=j0
       · subst e;obtain ⟨s1,h6,h7⟩:=W.srv;rw [h3] at h6;cases h6;exact .inl (h4.symm.trans h7)
       · obtain ⟨s1,h6,h7⟩:=W.cl (j-j0-1) fe;rw [show j0+1+(j-j0-1)=j from by omega,h3] at h6;cases h6;exact .inr ⟨j-j0-1,by omega,h4.symm.trans h7⟩
 · rcases I.who g l hl.1 with h1 | h1 | h1
   · exact .inl h1
   · exfalso;apply hl.2;have hjr:=W.no g h1;by_cases e:g=j0
     · subst e;obtain ⟨s1,h2,_⟩:=hCr.srv;rw [h2];simp
     · obtain ⟨s1,h2,_⟩:=hCr.cl (g-j0-1) fe;rw [show j0+1+(g-j0-1)=g from by omega] at h2;rw [h2];simp
   · exact absurd rfl h1
end
end Go.Proofs.YtelecjnabeokeaaGreatDoor
namespace Go.Proofs.YtelecjnabeokeaaGreatDoor
open Go Go.RowKit
def fsp:doV.ntmps=11:=rfl
def cap78 {k cap s r:Nat} {buf:Array Value} {cl tm:Bool} {v:World} (hk:v.heap[k]? =some (.chan cap buf cl s r tm)):(Builtin.cap_ #[78] 3 #[.chan (some k)]).run PV v= .ok (goInt (if tm then 0 else cap)) v:=by
 obtain ⟨e,d,hd⟩: ∃ d e,Tryz.prog.underlying 78=some (.chan d e):=⟨_,_,Tryz.underlying78⟩;have hu:(underlying 78).run PV v= .ok (.chan e d) v:=by rw [ua];exact f0u hd v
 have hst:(Builtin.cap_ #[78] 3 #[.chan (some k)]).run PV v=(Go.getObj k >>= fun o=>match o with
    | .chan n _ _ _ _ timer=>Pure.pure (goInt (if timer then 0 else n))
    | _=>Go.stuck "cap: channel expected" :Sem Value).run PV v:=by
    simp [Builtin.cap_,fz9,hu,Result.andThen];rfl
 rw [hst];simp [Go.getObj,Sem.run,Bind.bind,Sem.bind,hk,Pure.pure]
def info49:(PV.info? 49).map (·.bytes)=some 16:=by kernel_rfl
def mkDone (w:World):(Instr.makeChan 163 (.int .i64 0)).run PV w= .ok (.chan (some w.heap.size)) (w.alloc (.chan 0 #[] false 0 0 false)):=by
 obtain ⟨i,hi,hs⟩: ∃ i,PV.info? 49=some i∧i.bytes=16:=by
    have:=info49;cases hi:PV.info? 49 with
    | none=>rw [hi] at this;cases this
    | some i=>rw [hi] at this;exact ⟨i,rfl,by simpa using this⟩
 have:=Conc.run_makeChan (P:=PV) (w:=w) (show PV.underlying 163=_ from Tryz.underlying163) hi .i64 0 fe (by rw [hs];omega);exact this
structure Busy (w:World) (k:Nat):Prop where
 at_: ∃ s r,w.heap[k]? =some (.chan 1 #[] false s r true)
def do_any (k f:Nat) {fn:Func} (hfn:PV.funcs[f]? =some fn) (hnm:(fn.name== "runtime.NumGoroutine")=false) (hbd:fn.body.isNone=false) (bound free:Array Value) (w:World) (hm:MarkAt w k) {R:Value→World→Prop}
    (hf: ∀ W,Ch (fun y=>y=k) w W→Busy W k→Calls PV f (bound++ #[]++free) W fun x w'=>Busy w' k∧ ∃ v,x= .returned v∧R v w'):
    Calls PV 46 #[.chan (some k),.func (.func f) bound free] w fun x w2=> ∃ v w',x= .returned v∧R v w'∧MarkAt w2 k∧Ch (fun y=>y=k) w' w2∧w2.heap.size=w'.heap.size:=by
 obtain ⟨x,s,r,hk⟩:=hm;have hcap:=cap78 hk;simp only [f0e] at hcap;have hlt:k<w.heap.size:=(fx5.1 hk).1;go_enter PV.func46,fsp;simp only [oper];go_upto_region 101 with fail
 refine yr ?_;refine bn (c:=⟨.chan (some k),none,.nilFunc⟩) (w1:=w) rfl rfl fd (.inl ⟨rfl,rfl,rfl⟩) (val:= .tuple #[goInt 0,.bool true,x]) (w':=w.setChan k 1 #[] false s (r+1) true) ?_ ?_
 · simp only [uk,hk];rfl
 refine xg rfl rfl (v:= .bool true) (w':=w.setChan k 1 #[] false s (r+1) true) rfl ?_;refine dz ?_;simp only [Act.put,f2x,f2j,f2k,f1m,f3i,f3j];have hC:Ch (fun y=>y=k) w (w.setChan k 1 #[] false s (r+1) true):=(Ch.rf (fun y=>y=k) w).sc (.inl rfl);have hBy:Busy (w.setChan k 1 #[] false s (r+1) true) k:=⟨s,r+1,Conc.heap_setChan _ _ _ _ _ _ _ _ hlt⟩
 have hf':=fx6 (fun W (hW:Bl (w.setChan k 1 #[] false s (r+1) true) W)=>hf W (hC.cl hW) (by
    obtain ⟨s',r',h'⟩:=hBy.at_;exact ⟨s',r',(hW.block k (by simpa [World.setChan] using hlt)).trans h'⟩))
 clear hk hcap hf hC hBy;generalize w.setChan k 1 #[] false s (r+1) true=w1 at hf' ⊢;have hmk:=fun W=>mkDone W;go_upto_region 103 with fail
 refine wp_region_list (wpList_plain rfl fun K' hK'=> ?_)
 have e: ∀ (a:Act) (W:World),a.eval (.tmp 1)= .func (.func f) bound free→(execOp a.eval { dst:=some 4,op:= .call { callee:= .value (.tmp 1),args:= #[],argTypes:= #[] },type:=49,pos:= "",after:= #[],guard:=none }).run PV W= .ok (.enter f (bound++ #[]++free)) W:=fun a W h=>by
    have hc:(callFunc f (bound++ #[]++free)).run PV W= .ok (.enter f (bound++ #[]++free)) W:=by
     unfold callFunc;simp only [Go.program,Bind.bind,Sem.bind,Sem.run,hfn,hnm,hbd,f0g,f0s,Pure.pure]
    rw [← hc];simp only [execOp,resolve,invoke,h];simp [Deferred.ofValue,fz9,Result.andThen,Pure.pure,Sem.run]
 unfold Oper.wp;rw [e _ _ rfl,Oper.upon_enter];refine (hf'.out _ (((Bl.rf _).al _).al _ |>.al _)).mono ?_;rintro y w3 ⟨⟨s3,r3,h3⟩,v,rfl,hR⟩;refine hK' _ _ (wpList_nil ?_);have hl3:k<w3.heap.size:=(fx5.1 h3).1;simp only [Act.put,f2x,f2j,f2k,f1m,f3i,f3j];clear hf' hmk e;go_upto_region 104 with fail
 refine yr ?_;refine bn (c:=⟨.chan (some k),some (.bool true),undef⟩) (w1:=w3) rfl rfl rfl (.inr ⟨rfl,rfl,_,rfl⟩) (val:=undef) (w':=w3.setChan k 1 #[.bool true] false (s3+1) r3 true) ?_ ?_
 · simp only [uk,h3];rfl
 refine dz ?_;simp only [Act.put,f2x,f2j,f2k,f1m,f3i,f3j];have g1:MarkAt (w3.setChan k 1 #[.bool true] false (s3+1) r3 true) k:=⟨_,_,_,Conc.heap_setChan _ _ _ _ _ _ _ _ hl3⟩;have g2:Ch (fun y=>y=k) w3 (w3.setChan k 1 #[.bool true] false (s3+1) r3 true):=(Ch.rf (fun y=>y=k) w3).sc (.inl rfl);have g3:(w3.setChan k 1 #[.bool true] false (s3+1) r3 true).heap.size=w3.heap.size:=by simp [World.setChan]
 generalize w3.setChan k 1 #[.bool true] false (s3+1) r3 true=w4 at*;clear h3 hl3;go_wp2;go_ret;exact ⟨v,rfl,w3,hR,g1,g2,g3⟩
def Txt.slice {w:World} {v:Value} {t:List Plain.El} (h:Txt w v t): ∃ A cc,v= .slice A t.length cc:=by
 rcases h.form with ⟨h1,h2⟩ | ⟨g,cap,h1,_⟩
 · subst h2;exact ⟨_,_,h1⟩
 · exact ⟨_,_,h1⟩
section
variable {L:Lay} {V:Vals} {S:Plain.Ses} {m:Int} {ow:Nat→Nat} {w:World} {E:Nat→Value}
structure Done (L:Lay) (E:Nat→Value) (R:Nat×Plain.Ses) (m:Int) (ow:Nat→Nat) (w:World) (x:Ending) (w':World):Prop where
 out:x= .returned (errV E R.1)∧ ∃ V' ow',Mem L V' R.2 m ow' w'∧Ex ow ow' w w'
def Done.bl {R:Nat×Plain.Ses} {w1 w':World} {x:Ending} (hb:Bl w w1) (h:Done L E R m ow w1 x w'):Done L E R m ow w x w':=
 ⟨h.out.1,let ⟨V',ow',hM,hE⟩:=h.out.2;⟨V',ow',hM,(Ex.bl hb).tr hE⟩⟩
def clo_ins (h:Mem L V S m ow w) (hG:Plain.Good S) (hB:Plain.Bnd S) (hE:Errs E w) {c:Nat} (hc:c<S.n) (pos:Int) (r:Int) (bs:Nat) (bk:Nat) (ba:Nat) (br:Nat) (hbs:Bk w bs 26 #[.pointer (some ⟨L.b,0,none⟩)]) (hbk:Bk w bk 83 #[.pointer (some ⟨L.kb c,0,none⟩)]) (hba:Bk w ba 3 #[.int .i64 pos]) (hbr:Bk w br 21 #[.int .i32 r]):
    Calls PV 47 #[.pointer (some ⟨bs,0,none⟩),.pointer (some ⟨bk,0,none⟩),.pointer (some ⟨ba,0,none⟩),.pointer (some ⟨br,0,none⟩)] w (Done L E (Plain.change S c 1 pos r) m ow w):=by
 obtain ⟨A,cc,hv⟩:=(h.tx c hc).slice;have hkk:Bk w (L.kb c) 89 #[.int .i64 (c:Int),.slice A (S.cl c).text.length cc,.int .i64 (S.cl c).cur,.int .i64 (S.cl c).en.mine,.int .i64 (S.cl c).en.other,.int .i64 (S.cl c).en.acked,V.rv c,.pointer (some ⟨L.ul c,0,none⟩),.pointer (some ⟨L.dl c,0,none⟩),.int .i64 (S.cl c).typed,.chan (some (L.wc c))]:=by rw [← hv];exact h.kk c hc
 have hl:=hG.cl_len hc;have hw1:IntKind.i64.wrap (((S.cl c).text.length:Int)-1)=((S.cl c).text.length:Int)-1:=f0t _ fe;have hI:=fx6 (fun W (hW:Bl w W)=>mem_ins (h.bl hW) hG ⟨fun i hi=>(f0h (a:=⟨i,0,none⟩) (hW.block i qi)).trans (hE.at_ i hi),hE.form⟩ hc pos r);have hM:=fx6 h;clear h hG hB hE hl hv;go_enter PV.func47,Tryz.ntmps47;go_upto_region 1 with fail
 refine rn (sel [fun w'=>Bk w' bs 26 #[.pointer (some ⟨L.b,0,none⟩)],fun w'=>Bk w' bk 83 #[.pointer (some ⟨L.kb c,0,none⟩)],fun w'=>Bk w' ba 3 #[.int .i64 pos],fun w'=>Bk w' br 21 #[.int .i32 r],fun w'=>Bk w' (L.kb c) 89 #[.int .i64 (c:Int),.slice A (S.cl c).text.length cc,.int .i64 (S.cl c).cur,.int .i64 (S.cl c).en.mine,.int .i64 (S.cl c).en.other,.int .i64 (S.cl c).en.acked,V.rv c,.pointer (some ⟨L.ul c,0,none⟩),.pointer (some ⟨L.dl c,0,none⟩),.int .i64 (S.cl c).typed,.chan (some (L.wc c))]]) [(.h 0,0),(.h 1,1),(.h 2,2),(.h 3,3),(.h 9,4),(.h 9,5),(.h 1,6),(.h 9,7),(.h 9,8),(.h 4,9),(.h 9,10),(.c [9],11),(.h 9,12)] fd fd (qy (Bk.dr hbs) (qy (Bk.dr hbk) (qy (Bk.dr hba) (qy (Bk.dr hbr) (qy (Bk.dr hkk) (fun _=>un)))))) ?_;simp only [vg,fy9,fz4,fz3,fy2,fx7,fy0];iterate 11 (refine oH ?_;try simp only [aps])
 (refine rx (fun K hK=> ?_);go_simp;go_at_call 48;refine (hI.out _ ga).mono ?_;rintro e w3 ⟨rfl,gD2⟩;refine hK _ _ (rh trivial ry) ?_;clear hK K;try simp only [aps])
 (refine oH ?_;try simp only [aps]);refine ub ?_;go_wp2;go_ret;exact Done.bl ((Bl.rf _).dr) ⟨rfl,gD2⟩
def clo_del (h:Mem L V S m ow w) (hG:Plain.Good S) (hB:Plain.Bnd S) (hE:Errs E w) {c:Nat} (hc:c<S.n) (pos:Int) (bs:Nat) (bk:Nat) (ba:Nat) (hbs:Bk w bs 26 #[.pointer (some ⟨L.b,0,none⟩)]) (hbk:Bk w bk 83 #[.pointer (some ⟨L.kb c,0,none⟩)]) (hba:Bk w ba 3 #[.int .i64 pos]):
    Calls PV 50 #[.pointer (some ⟨bs,0,none⟩),.pointer (some ⟨bk,0,none⟩),.pointer (some ⟨ba,0,none⟩)] w (Done L E (Plain.change S c 2 pos 0) m ow w):=by
 obtain ⟨A,cc,hv⟩:=(h.tx c hc).slice;have hkk:Bk w (L.kb c) 89 #[.int .i64 (c:Int),.slice A (S.cl c).text.length cc,.int .i64 (S.cl c).cur,.int .i64 (S.cl c).en.mine,.int .i64 (S.cl c).en.other,.int .i64 (S.cl c).en.acked,V.rv c,.pointer (some ⟨L.ul c,0,none⟩),.pointer (some ⟨L.dl c,0,none⟩),.int .i64 (S.cl c).typed,.chan (some (L.wc c))]:=by rw [← hv];exact h.kk c hc
 have hl:=hG.cl_len hc;have hw1:IntKind.i64.wrap (((S.cl c).text.length:Int)-1)=((S.cl c).text.length:Int)-1:=f0t _ fe;have hI:=fx6 (fun W (hW:Bl w W)=>mem_del (h.bl hW) hG ⟨fun i hi=>(f0h (a:=⟨i,0,none⟩) (hW.block i qi)).trans (hE.at_ i hi),hE.form⟩ hc pos);have hM:=fx6 h;clear h hG hB hE hl hv;go_enter PV.func50,Tryz.ntmps50;go_upto_region 1 with fail
 refine rn (sel [fun w'=>Bk w' bs 26 #[.pointer (some ⟨L.b,0,none⟩)],fun w'=>Bk w' bk 83 #[.pointer (some ⟨L.kb c,0,none⟩)],fun w'=>Bk w' ba 3 #[.int .i64 pos],fun w'=>Bk w' (L.kb c) 89 #[.int .i64 (c:Int),.slice A (S.cl c).text.length cc,.int .i64 (S.cl c).cur,.int .i64 (S.cl c).en.mine,.int .i64 (S.cl c).en.other,.int .i64 (S.cl c).en.acked,V.rv c,.pointer (some ⟨L.ul c,0,none⟩),.pointer (some ⟨L.dl c,0,none⟩),.int .i64 (S.cl c).typed,.chan (some (L.wc c))]]) [(.h 0,0),(.h 1,1),(.h 2,2),(.h 9,3),(.h 1,4),(.h 9,5),(.h 9,6),(.h 3,7),(.h 9,8),(.h 9,9),(.c [9],10),(.h 9,11)] fd fd (qy (Bk.dr hbs) (qy (Bk.dr hbk) (qy (Bk.dr hba) (qy (Bk.dr hkk) (fun _=>un))))) ?_;simp only [vg,fy9,fz4,fz3,fy2,fx7,fy0];iterate 10 (refine oH ?_;try simp only [aps])
 (refine rx (fun K hK=> ?_);go_simp;go_at_call 48;refine (hI.out _ ga).mono ?_;rintro e w3 ⟨rfl,gD2⟩;refine hK _ _ (rh trivial ry) ?_;clear hK K;try simp only [aps])
 (refine oH ?_;try simp only [aps]);refine ub ?_;go_wp2;go_ret;exact Done.bl ((Bl.rf _).dr) ⟨rfl,gD2⟩
def clo_mov (h:Mem L V S m ow w) (hG:Plain.Good S) (hB:Plain.Bnd S) (hE:Errs E w) {c:Nat} (hc:c<S.n) (pos:Int) (bs:Nat) (bk:Nat) (ba:Nat) (hbs:Bk w bs 26 #[.pointer (some ⟨L.b,0,none⟩)]) (hbk:Bk w bk 83 #[.pointer (some ⟨L.kb c,0,none⟩)]) (hba:Bk w ba 3 #[.int .i64 pos]):
    Calls PV 52 #[.pointer (some ⟨bs,0,none⟩),.pointer (some ⟨bk,0,none⟩),.pointer (some ⟨ba,0,none⟩)] w (Done L E (Plain.change S c 3 pos 0) m ow w):=by
 obtain ⟨A,cc,hv⟩:=(h.tx c hc).slice;have hkk:Bk w (L.kb c) 89 #[.int .i64 (c:Int),.slice A (S.cl c).text.length cc,.int .i64 (S.cl c).cur,.int .i64 (S.cl c).en.mine,.int .i64 (S.cl c).en.other,.int .i64 (S.cl c).en.acked,V.rv c,.pointer (some ⟨L.ul c,0,none⟩),.pointer (some ⟨L.dl c,0,none⟩),.int .i64 (S.cl c).typed,.chan (some (L.wc c))]:=by rw [← hv];exact h.kk c hc
 have hl:=hG.cl_len hc;have hw1:IntKind.i64.wrap (((S.cl c).text.length:Int)-1)=((S.cl c).text.length:Int)-1:=f0t _ fe;have hI:=fx6 (fun W (hW:Bl w W)=>mem_mov (h.bl hW) hG ⟨fun i hi=>(f0h (a:=⟨i,0,none⟩) (hW.block i qi)).trans (hE.at_ i hi),hE.form⟩ hc pos);have hM:=fx6 h;clear h hG hB hE hl hv;go_enter PV.func52,Tryz.ntmps52;go_upto_region 1 with fail
 refine rn (sel [fun w'=>Bk w' bs 26 #[.pointer (some ⟨L.b,0,none⟩)],fun w'=>Bk w' bk 83 #[.pointer (some ⟨L.kb c,0,none⟩)],fun w'=>Bk w' ba 3 #[.int .i64 pos],fun w'=>Bk w' (L.kb c) 89 #[.int .i64 (c:Int),.slice A (S.cl c).text.length cc,.int .i64 (S.cl c).cur,.int .i64 (S.cl c).en.mine,.int .i64 (S.cl c).en.other,.int .i64 (S.cl c).en.acked,V.rv c,.pointer (some ⟨L.ul c,0,none⟩),.pointer (some ⟨L.dl c,0,none⟩),.int .i64 (S.cl c).typed,.chan (some (L.wc c))]]) [(.h 0,0),(.h 1,1),(.h 2,2),(.h 9,3),(.h 1,4),(.h 9,5),(.h 9,6),(.h 3,7),(.h 9,8),(.c [9],9),(.h 9,10)] fd fd (qy (Bk.dr hbs) (qy (Bk.dr hbk) (qy (Bk.dr hba) (qy (Bk.dr hkk) (fun _=>un))))) ?_;simp only [vg,fy9,fz4,fz3,fy2,fx7,fy0];iterate 9 (refine oH ?_;try simp only [aps])
 (refine rx (fun K hK=> ?_);go_simp;go_at_call 48;refine (hI.out _ ga).mono ?_;rintro e w3 ⟨rfl,gD2⟩;refine hK _ _ (rh trivial ry) ?_;clear hK K;try simp only [aps])
 (refine oH ?_;try simp only [aps]);refine ub ?_;go_wp2;go_ret;exact Done.bl ((Bl.rf _).dr) ⟨rfl,gD2⟩
def fsq (h:Mem L V S m ow w) (hG:Plain.Good S) (hB:Plain.Bnd S) (hE:Errs E w) {c:Nat} (hc:c<S.n):
    Calls PV 55 #[.pointer (some ⟨L.b,0,none⟩),.pointer (some ⟨L.kb c,0,none⟩)] w (Done L E (Plain.serve S c) m ow w):=by
 cases hu:(S.cl c).up with
 | nil=>
   refine (flr h hE hc hu).mono ?_;rintro x w' ⟨rfl,rfl⟩;have e:Plain.serve S c=(7,S):=by unfold Plain.serve;rw [hu]
   rw [e];exact ⟨rfl,V,ow,h,Ex.rf⟩
 | cons f U=>exact (serve1 h hG hB hE hc hu).mono fun x w' hs=>⟨hs.out.1,hs.out.2⟩
def clo_up (h:Mem L V S m ow w) (hG:Plain.Good S) (hB:Plain.Bnd S) (hE:Errs E w) {c:Nat} (hc:c<S.n) (bs bk:Nat) (hbs:Bk w bs 26 #[.pointer (some ⟨L.b,0,none⟩)]) (hbk:Bk w bk 83 #[.pointer (some ⟨L.kb c,0,none⟩)]):
    Calls PV 54 #[.pointer (some ⟨bs,0,none⟩),.pointer (some ⟨bk,0,none⟩)] w (Done L E (Plain.serve S c) m ow w):=by
 have hI:=fx6 (fsq h hG hB hE hc);obtain ⟨c1,d1⟩:=hbs.ceF;obtain ⟨c2,d2⟩:=hbk.ceF;clear h hG hB hE;go_enter PV.func54,Tryz.ntmps54;go_wp2_with (first | (go_at_call 55;refine hI.out.mono ?_;rintro e w3 gD;obtain ⟨rfl,gD2⟩:=gD.out));go_ret;exact ⟨rfl,gD2⟩
end
def flt:lockV.ntmps=3:=rfl
def fhg:unlockV.ntmps=3:=rfl
section
variable {w:World} {b:Nat} {t:TypeId} {cs:Array Value}
def lock57 (hb:Base w) (hB:Bk w b t cs) (h2:2≤b) (h0:cs[0]? =some (.int .i32 0)):Calls PV 57 #[.pointer (some ⟨b,0,none⟩)] w fun x w'=>x= .returned (.tuple #[])∧w'=w.setCell ⟨b,0,none⟩ (.int .i32 1):=by
 obtain ⟨k0,k1⟩:=hb.chk hB h2 0;have c:=(hB.ce 0).trans h0;have d:=hB.fz 0;clear hb hB;go_enter PV.func57,flt;simp only [fql,chkR,chk,oper];go_wp2
 first | (go_end0;exact ⟨rfl,rfl⟩) | (refine f0q (f2g rfl _ _ _) rfl ?_;exact ⟨rfl,rfl⟩)
def fvc (hb:Base w) (hB:Bk w b t cs) (h2:2≤b) (h0:cs[0]? =some (.int .i32 1)):Calls PV 58 #[.pointer (some ⟨b,0,none⟩)] w fun x w'=>x= .returned (.tuple #[])∧w'=w.setCell ⟨b,0,none⟩ (.int .i32 0):=by
 obtain ⟨k0,k1⟩:=hb.chk hB h2 0;have c:=(hB.ce 0).trans h0;have d:=hB.fz 0;clear hb hB;go_enter PV.func58,fhg;simp only [fe5,chkR,chk,oper];go_wp2
 first | (go_end0;exact ⟨rfl,rfl⟩) | (refine f0q (f2g rfl _ _ _) rfl ?_;exact ⟨rfl,rfl⟩)
def lock25 (hb:Base w) (hB:Bk w b t cs) (h2:2≤b) (h0:cs[0]? =some (.int .i32 0)):Calls PV 25 #[.pointer (some ⟨b,0,none⟩)] w fun x w'=>x= .returned (.tuple #[])∧w'=w.setCell ⟨b,0,none⟩ (.int .i32 1):=by
 have hL:=lock57 hb hB h2 h0;have hL':=fx6 hL;clear hb hB hL;go_enter PV.func25,Tryz.ntmps25;go_wp2_with (first | (go_at_call 57;refine hL'.out.mono ?_;rintro e w1 ⟨rfl,rfl⟩))
 first | (go_end0;exact ⟨rfl,rfl⟩) | (refine f0q (f2g rfl _ _ _) rfl ?_;exact ⟨rfl,rfl⟩)
def fne (u:FrameMode) (hb:Base w) (hB:Bk w b t cs) (h2:2≤b) (h0:cs[0]? =some (.int .i32 1)):CallsD PV 26 #[.pointer (some ⟨b,0,none⟩)] u w fun x u' w'=>u'=u∧(x= .returned (.tuple #[])∧w'=w.setCell ⟨b,0,none⟩ (.int .i32 0)):=by
 have hL:=fvc hb hB h2 h0;have hL':=fx6 hL;clear hb hB hL
 go_enter_d PV.func26,Tryz.ntmps26
 go_wp2_with (first | (go_at_call 58;refine hL'.out.mono ?_;rintro e w1 ⟨rfl,rfl⟩))
 first | (go_end0;exact ⟨rfl,rfl⟩) | (refine f0q (f2g rfl _ _ _) rfl ?_;exact ⟨rfl,rfl⟩)
end
structure Marks (L:Lay) (n:Nat) (w:World):Prop where
 m0:MarkAt w L.c0
 ms: ∀ i,i<n→MarkAt w (L.wc i)
structure Ey (ow ow':Nat→Nat) (w w':World):Prop where
 ch:Ch (fun x=>ow x≠0) w w'
 own: ∀ x,x<w.heap.size→ow' x=ow x
section
variable {ow ow' ow2:Nat→Nat} {w w' w2:World} {E:Nat→Value}
def Ex.ey (h:Ex ow ow' w w'):Ey ow ow' w w':=⟨h.ch,h.own⟩
def Ey.rf:Ey ow ow w w:=⟨Ch.rf _ _,fun _ _=>rfl⟩
def Ey.tr (h:Ey ow ow' w w') (h2:Ey ow' ow2 w' w2):Ey ow ow2 w w2:=
 ⟨h.ch.tr h2.ch (fun x hx=>by
  rcases f01 x w.heap.size with h' | h'
  · exact .inl (by rw [← h.own x h'];exact hx)
  · exact .inr h'),
  fun x hx=>(h2.own x (f0f hx h.ch.size)).trans (h.own x hx)⟩
def Ey.bl (hb:Bl w w'):Ey ow ow w w':=(Ex.bl hb).ey
def Ey.of {K:Nat→Prop} (hC:Ch K w w') (hK: ∀ x,x<w.heap.size→K x→ow x≠0):Ey ow ow w w':=
 ⟨⟨hC.os,hC.tape,hC.output,hC.size,fun x hx hn=>hC.block x hx fun hk=>hn (hK x hx hk)⟩,fun _ _=>rfl⟩
def Errs.ey (h:Errs E w) (hx:Ey ow ow' w w') (hlo: ∀ x,x<12→ow x=0) (hsz:12≤w.heap.size):Errs E w':=
 ⟨fun i hi=>(f0h (a:=⟨i,0,none⟩) (hx.ch.block i fe (fun hn=>hn (hlo i hi)))).trans (h.at_ i hi),h.form⟩
def Bk.ey {g:Nat} {t:TypeId} {cs:Array Value} (h:Bk w g t cs) (hx:Ey ow ow' w w') (h0:ow g=0):Bk w' g t cs:=h.ch hx.ch (fun hn=>hn h0)
end
section
variable {L:Lay} {V:Vals} {S:Plain.Ses} {m:Int} {ow ow':Nat→Nat} {w w':World} {E:Nat→Value}
def Mem.mark (h:Mem L V S m ow w) {k:Nat} (hk:ow k=6∨ ∃ c,ow k=16*c+21) (hC:Ch (fun y=>y=k) w w') {a c d:Nat} {b:Array Value} {f g:Bool} (ho:w.heap[k]? =some (.chan a b f c d g)):Mem L V S m ow w':=by
 have t:=h.tag;have h12:12≤k:=t.ge fe
 have tg: ∀ x,(ow x≠6∧ ∀ c,ow x≠16*c+21)→ ¬ x=k:=fun x hx e=>by
    subst e;rcases hk with hk | ⟨c,hk⟩
    · exact hx.1 hk
    · exact hx.2 c hk
 have hT:NT (fun y=>y=k) w:=⟨fun v t hv x hx hk=>uz hv ho (fun _ _ _ e=>by cases e) x hx hk⟩
 exact ⟨h.base.ch hC fe fe,t,fun x hx=>h.fresh x (f08 hC.size hx),h.bb.ch hC (tg _ (by rw [t.b];exact ⟨by omega,fun c=>by omega⟩)),h.ss.ch hC (tg _ (by rw [t.sb];exact ⟨by omega,fun c=>by omega⟩)),h.ee.ch hC (tg _ (by rw [t.eb];exact ⟨by omega,fun c=>by omega⟩)),h.nn.ch hC (tg _ (by rw [t.nb];exact ⟨by omega,fun c=>by omega⟩)),h.mp.ch hC (tg _ (by rw [t.mb];exact ⟨by omega,fun c=>by omega⟩)),
    qx hC h.ar (fun x hx=>tg _ (by rw [t.ar x hx];exact ⟨by omega,fun c=>by omega⟩)),qx hC h.st (hT.out _ _ h.st),qx hC h.lg (fun x hx=>tg _ (by rw [t.lg x hx];exact ⟨by omega,fun c=>by omega⟩)),fun c hc=>(h.kk c hc).ch hC (tg _ (by rw [t.kb c hc];exact ⟨by omega,fun c=>by omega⟩)),fun c hc=>(h.up c hc).ch_ hC (tg _ (by rw [t.ul c hc];exact ⟨by omega,fun c=>by omega⟩)) (tg _ (by rw [t.uc c hc];exact ⟨by omega,fun c=>by omega⟩)),
    fun c hc=>(h.dn c hc).ch_ hC (tg _ (by rw [t.dl c hc];exact ⟨by omega,fun c=>by omega⟩)) (tg _ (by rw [t.dc c hc];exact ⟨by omega,fun c=>by omega⟩)),fun c hc=>qx hC (h.tx c hc) (hT.out _ _ (h.tx c hc)),fun c hc=>qx hC (h.rw c hc) (fun x hx=>tg _ (by rw [t.rv c hc x hx];exact ⟨by omega,fun c=>by omega⟩)),fun c hc=>qx hC (h.er c hc) (fun x hx=>tg _ (by rw [t.er c hc x hx];exact ⟨by omega,fun c=>by omega⟩))⟩
def Marks.get (h:Marks L S.n w) {k:Nat} (hk:k=L.c0∨ ∃ c,c<S.n∧k=L.wc c):MarkAt w k:=by
 rcases hk with rfl | ⟨c,hc,rfl⟩
 · exact h.m0
 · exact h.ms c hc
def Mem.mtag (h:Mem L V S m ow w) {k:Nat} (hk:k=L.c0∨ ∃ c,c<S.n∧k=L.wc c):ow k=6∨ ∃ c,ow k=16*c+21:=by
 rcases hk with rfl | ⟨c,hc,rfl⟩
 · exact .inl h.tag.c0
 · exact .inr ⟨c,h.tag.wc c hc⟩
def MarkAt.lt {k:Nat} (h:MarkAt w k):k<w.heap.size:=by
 obtain ⟨x,s,r,h⟩:=h;exact (fx5.1 h).1
def MarkAt.to {k:Nat} (h:MarkAt w k) (e:w'.heap[k]? =w.heap[k]?):MarkAt w' k:=by
 obtain ⟨x,s,r,h⟩:=h;exact ⟨x,s,r,e.trans h⟩
structure Done2 (L:Lay) (E:Nat→Value) (R:Nat×Plain.Ses) (m:Int) (ow:Nat→Nat) (w:World) (x:Ending) (w':World):Prop where
 out:x= .returned (errV E R.1)∧ ∃ V' ow',Mem L V' R.2 m ow' w'∧Marks L R.2.n w'∧Ey ow ow' w w'
def Done2.bl {R:Nat×Plain.Ses} {w1 w':World} {x:Ending} (hb:Bl w w1) (h:Done2 L E R m ow w1 x w'):Done2 L E R m ow w x w':=
 ⟨h.out.1,let ⟨V',ow',hM,hm,hE⟩:=h.out.2;⟨V',ow',hM,hm,(Ey.bl hb).tr hE⟩⟩
def fk0 (h:Mem L V S m ow w) (hM:Marks L S.n w) {k:Nat} (hk:k=L.c0∨ ∃ c,c<S.n∧k=L.wc c) (f:Nat) {fn:Func} (hfn:PV.funcs[f]? =some fn) (hnm:(fn.name== "runtime.NumGoroutine")=false) (hbd:fn.body.isNone=false) (bound free:Array Value) {R:Nat×Plain.Ses} (hRn:R.2.n=S.n)
    (hf: ∀ W,Mem L V S m ow W→Ch (fun y=>y=k) w W→Calls PV f (bound++ #[]++free) W (Done L E R m ow W)):
    Calls PV 46 #[.chan (some k),.func (.func f) bound free] w (Done2 L E R m ow w):=by
 have ht:=h.mtag hk;have hm:=hM.get hk;obtain ⟨x0,s0,r0,ho⟩:=id hm;refine (do_any k f hfn hnm hbd bound free w hm (R:=fun v w'=>v=errV E R.1∧ ∃ V' ow',Mem L V' R.2 m ow' w'∧Busy w' k∧ow' k=ow k∧(∀ j,(j=L.c0∨ ∃ c,c<S.n∧j=L.wc c)→j≠k→MarkAt w' j)∧Ey ow ow' w w') ?_).mono ?_
 · intro W hC hBy;refine (hf W (h.mark ht hC ho) hC).mono ?_;intro x w' hD;obtain ⟨rfl,V',ow',hM',hX⟩:=hD.out;have hlt:k<W.heap.size:=f0f hm.lt hC.size;have hb2:Busy w' k:=by
    obtain ⟨s,r,hb⟩:=hBy.at_;exact ⟨s,r,(hX.marks k hlt ht).trans hb⟩
   refine ⟨hb2,_,rfl,rfl,V',ow',hM',hb2,hX.own k hlt,fun j hj hne=> ?_,(Ey.of hC (fun y _ e=>by subst e;omega)).tr hX.ey⟩;have hj1:=hM.get hj;have hj2:=hC.block j hj1.lt hne;exact (hj1.to hj2).to (hX.marks j (f0f hj1.lt hC.size) (h.mtag hj))
 · rintro x w2 ⟨v,w',rfl,⟨rfl,V',ow',hM',hb,hok,hms,hE⟩,hmk,hC,hsz⟩;obtain ⟨s,r,hb⟩:=hb.at_;have hM2:=hM'.mark (by rw [hok];exact ht) hC hb;have hall: ∀ j,(j=L.c0∨ ∃ c,c<S.n∧j=L.wc c)→MarkAt w2 j:=fun j hj=>by
    by_cases e:j=k
    · subst e;exact hmk
    · exact (hms j hj e).to (hC.block j (hms j hj e).lt e)
   exact ⟨rfl,V',ow',hM2,⟨hall _ (.inl rfl),fun i hi=>hall _ (.inr ⟨i,by rw [← hRn];exact hi,rfl⟩)⟩,hE.tr (Ey.of hC (fun y _ e=>by subst e;omega))⟩
end
end Go.Proofs.YtelecjnabeokeaaGreatDoor
