/- Orders. Part 5 of 6. -/
import Derived.Test.YtelecjnabeokeaaGreatDoorO4
set_option maxRecDepth 100000
set_option maxHeartbeats 16000000
set_option linter.defProp false
set_option linter.unusedVariables false
set_option linter.unusedSimpArgs false
namespace Go.Proofs.YtelecjnabeokeaaGreatDoor
open Go Go.RowKit
structure EV (E:Nat->Value) (A:Nat->Addr) (w:World):Prop where
 cell: ∀i,i<12->w.cell? ⟨i,0,none⟩=some (E i)
 ev: ∀i,i<12->i≠2->E i=ev (A i)
 ne: ∀i j,i<12->j<12->i≠2->j≠2->i≠j->A i≠A j
 row: ∀i,i<12->i≠2-> ∃c t,w.heap[(A i).block]? =some (.cells c t (0,0))
 ty:E 2=.iface 192 (.agg #[.pointer (some ⟨13,49,none⟩)])
def EV.errs {E:Nat->Value} {A:Nat->Addr} {w:World} (h:EV E A w):Errs E w:=⟨h.cell,λi hi h2=>⟨_,_,h.ev i hi h2⟩⟩
def EV.ch {E:Nat->Value} {A:Nat->Addr} {w w':World} {K:Nat->Prop} (h:EV E A w) (hC:Ch K w w') (h1: ∀x,x<12-> ¬K x) (h2: ∀i,i<12->i≠2-> ¬K (A i).block):EV E A w':=
 ⟨λi hi=>(f0h (a:=⟨i,0,none⟩) (hC.block i (by
  have:=h.cell i hi;rcases f01 i w.heap.size with h'|h'
  ·exact h'
  ·simp[World.cell?,f09 h'] at this) (h1 i hi))).trans (h.cell i hi),h.ev,h.ne,λi hi j=>by
   obtain⟨c,t,hr⟩:=h.row i hi j;exact⟨c,t,(hC.block _ (fx5.1 hr).1 (h2 i hi j)).trans hr⟩,h.ty⟩
def EV.bl {E:Nat->Value} {A:Nat->Addr} {w w':World} (h:EV E A w) (hb:Bl w w'):EV E A w':=h.ch (K:=λ_=>False) (Ch.ba hb) (λ_ _ h=>h) (λ_ _ _ h=>h)
def EV.size {E:Nat->Value} {A:Nat->Addr} {w:World} (h:EV E A w):12<=w.heap.size:=by
 have:=h.cell 11 fe;rcases f01 11 w.heap.size with h'|h'
 ·exact h'
 ·simp[World.cell?,f09 h'] at this
def gix (j:Nat):Nat:=[0,3,1,4,5,6,7,8,9,10,11].getD j 0
def feq {j:Nat} (h:j<11):gix j<12/\gix j≠2:=by
 rcases(by omega:j=0\/j=1\/j=2\/j=3\/j=4\/j=5\/j=6\/j=7\/j=8\/j=9\/j=10) with rfl|rfl|rfl|rfl|rfl|rfl|rfl|rfl|rfl|rfl|rfl <;>decide
def gix_inj {i j:Nat} (hi:i<11) (hj:j<11) (e:gix i=gix j):i=j:=by
 rcases(by omega:j=0\/j=1\/j=2\/j=3\/j=4\/j=5\/j=6\/j=7\/j=8\/j=9\/j=10) with rfl|rfl|rfl|rfl|rfl|rfl|rfl|rfl|rfl|rfl|rfl <;>
 rcases(by omega:i=0\/i=1\/i=2\/i=3\/i=4\/i=5\/i=6\/i=7\/i=8\/i=9\/i=10) with rfl|rfl|rfl|rfl|rfl|rfl|rfl|rfl|rfl|rfl|rfl <;>first|rfl|(exfalso;revert e;decide)
def fsz {k:Nat} (h0:2<=k) (h:k<=7):fhf k=gix (k-1):=by
 rcases(by omega:k=2\/k=3\/k=4\/k=5\/k=6\/k=7) with rfl|rfl|rfl|rfl|rfl|rfl <;>rfl
section
variable {E:Nat->Value} {A:Nat->Addr} {w:World}
def all_any (h:EV E A w):Calls PV 41 #[] w λx w'=>x=.returned (.slice (some ⟨w.heap.size,0,none⟩) 11 11)/\w'=w.alloc (.cells #[E 0,E 3,E 1,E 4,E 5,E 6,E 7,E 8,E 9,E 10,E 11] 49):=by
 have h0:=h.cell 0 fe;have h1:=h.cell 1 fe;have h3:=h.cell 3 fe;have h4:=h.cell 4 fe;have h5:=h.cell 5 fe;have h6:=h.cell 6 fe;have h7:=h.cell 7 fe;have h8:=h.cell 8 fe;have h9:=h.cell 9 fe;have j:=h.cell 10 fe;have m:=h.cell 11 fe;rw[h.ev 0 fe fe] at h0 ⊢;rw[h.ev 1 fe fe] at h1 ⊢;rw[h.ev 3 fe fe] at h3 ⊢;rw[h.ev 4 fe fe] at h4 ⊢;rw[h.ev 5 fe fe] at h5 ⊢;rw[h.ev 6 fe fe] at h6 ⊢;rw[h.ev 7 fe fe] at h7 ⊢;rw[h.ev 8 fe fe] at h8 ⊢;rw[h.ev 9 fe fe] at h9 ⊢;rw[h.ev 10 fe fe] at j ⊢;rw[h.ev 11 fe fe] at m ⊢;clear h;go_enter PV.func41,Tryz.ntmps41;go_wp2;go_ret;exact⟨rfl,rfl⟩
def fvl (h:EV E A w) {i:Nat} (hi:i<11):(#[E 0,E 3,E 1,E 4,E 5,E 6,E 7,E 8,E 9,E 10,E 11]:Array Value)[i]? =some (ev (A (gix i))):=by
 rw[<- h.ev _ (feq hi).1 (feq hi).2];rcases(by omega:i=0\/i=1\/i=2\/i=3\/i=4\/i=5\/i=6\/i=7\/i=8\/i=9\/i=10) with rfl|rfl|rfl|rfl|rfl|rfl|rfl|rfl|rfl|rfl|rfl <;>rfl
def zf {w1 w2:World} {K:Nat->Prop} (h:Bl w w1) (hC:Ch K w1 w2) (hK: ∀x,K x->w.heap.size<=x):Bl w w2:=by
 have:=(Ch.ba (K:=λ_=>False) h).tr hC (λx hx=>.inr (hK x hx));exact⟨this.os,this.tape,this.output,this.size,λx hx=>this.block x hx (λh=>h)⟩
def as_bk (h:EV E A w) (g:Nat) {t:Nat} (hT:Bk w t 111 #[.pointer none]):Calls PV 39 #[.iface 111 (.pointer (some ⟨g,0,none⟩)),.iface 113 (.pointer (some ⟨t,0,none⟩))] w λx w'=>x=.returned (.bool true)/\Bk w' t 111 #[.pointer (some ⟨g,0,none⟩)]/\Ch (λy=>y=t) w w':=by
 refine(as_hit ⟨g,0,none⟩ ⟨t,0,none⟩ (.pointer none) w (by rw[h.cell 2 fe,h.ty]) (by rw[hT.ce];rfl) (hT.fz 0)).mono ?_;rintro x w' ⟨rfl,rfl⟩;have hb:Bl w ((((w.alloc (.cells #[.pointer (some ⟨t,0,none⟩)] 113)).alloc (.cells #[.pointer (some ⟨13,113,none⟩),.pointer (some ⟨w.heap.size,0,none⟩),.int .u64 150] 152)).alloc (.cells #[.pointer (some ⟨13,113,none⟩),.pointer (some ⟨w.heap.size,0,none⟩),.int .u64 150] 152)).alloc (.cells #[.pointer (some ⟨g,0,none⟩)] 111)):=((((Bl.rf _).al _).al _).al _).al _;exact⟨rfl,((Bk.bl hb hT).st _).cv fi,(Ch.ba (K:=λy=>y=t) hb).st (.inl rfl) _⟩
def fni (w:World):Calls PV 19 #[.nilIface] w λx w'=>x=.returned (.tuple #[.int .i64 0,.string ⟨#[]⟩,.int .i64 0])/\w'=w:=by
 have h:=λw=>fvg w;go_enter PV.func19,Tryz.ntmps19;go_wp2;refine f0q (v:=.tuple #[.int .i64 0,.string ⟨#[]⟩,.int .i64 0]) (by simp[results,Tryz.results19,go_sem]) rfl ⟨rfl,rfl⟩
end
def flu (g:Addr) (w:World):(binOp .neq 49 (.iface 111 (.pointer (some g))) (.iface 111 (.pointer (some g)))).run PV w=.ok (.bool false) w:=by
 obtain⟨m,hu⟩:=fhj;obtain⟨i,hi,hc⟩:=fy8.1 As.c111;obtain⟨j,hj,hs⟩:=fy8.1 As.s115;simp only[binOp];simp[Op.equal,Op.maxDepth,run_equalIn_iface_ptr_same w 9998 g hu As.u111 hi hc hj]
def flv (g:Addr) (w:World):(binOp .neq 49 (ev g) (ev g)).run PV w=.ok (.bool false) w:=by
 obtain⟨m,hu⟩:=fhj;obtain⟨i,hi,hc⟩:=fy8.1 As.c227;obtain⟨j,hj,hs⟩:=fy8.1 As.s246;simp only[binOp];simp[Op.equal,Op.maxDepth,run_equalIn_iface_ptr_same w 9998 g hu As.u227 hi hc hj]
section
variable {E:Nat->Value} {A:Nat->Addr} {w:World}
def fvm (h:EV E A w) (g:Nat) (nm:ByteArray) (c:Int) {k:Nat} (h2:2<=k) (h7:k<=7) (hB:Bk w g 115 #[.string nm,.int .i64 c,E (fhf k)]):
    Calls PV 19 #[.iface 111 (.pointer (some ⟨g,0,none⟩))] w λx w'=>x=.returned (.tuple #[.int .i64 (k:Int),.string nm,.int .i64 c])/\Bl w w':=by
 have hk:=feq (j:=k-1) fe;rw[fsz h2 h7,h.ev _ hk.1 hk.2] at hB;have c1:=λw=>fhk 111 (.pointer (some ⟨g,0,none⟩)) w;have c2:=λw=>flu ⟨g,0,none⟩ w;have c3:=λw=>flv (A (gix (k-1))) w;have O:=hB.lt;have hT:Bk (w.alloc (.cells #[.pointer none] 111)) w.heap.size 111 #[.pointer none]:=Bk.nw rfl;have B:=fx6 (as_bk (h.bl ((Bl.rf _).al (.cells #[.pointer none] 111))) g hT);have hH:=fx6 h;have C:=fx6 hB;clear h hB hT;go_enter PV.func19,Tryz.ntmps19;go_wp2_with (first|(go_at_call 39;refine B.out.mono ?_;rintro e w1 ⟨rfl,gT,gC⟩;have gW:=zf ((Bl.rf w).al (.cells #[.pointer none] 111)) gC (by rintro x rfl;exact fx8 _)));have gB:=Bk.bl gW C.out;have hU:=fx6 (λ(W:World) (hW:W.heap=w1.heap)=>fgd g nm c (ev (A (gix (k-1)))) (w:=W) ⟨by rw[hW];exact gB.at_⟩);obtain⟨d1,f1⟩:=gT.ceF;obtain⟨d2,f2⟩:=gB.ceF;have hW:=fx6 gW;have kT:=fx6 gT;have kB:=fx6 gB;clear gT gC gB gW
 go_quiet (fail)
 go_upto_region 7 with fail
 refine vy (F:=λW=>Bl w1 W/\W.heap=w1.heap) ⟨⟨rfl,rfl,rfl,fx8 _,λ_ _=>rfl⟩,rfl⟩ ?_;clear d1 f1 d2 f2;rintro W ⟨hb,hh⟩;obtain⟨d1,f1⟩:=(Bk.bl hb kT.out).ceF;obtain⟨d2,f2⟩:=(Bk.bl hb kB.out).ceF;have I:=fx6 (λW (hb:Bl w1 W)=>all_any (hH.out.bl (hW.out.cl hb)));have D:=fx6 (λn=>hU.out (W.drewN n) hh)
 go_quiet ((go_at_call 40;exact Calls.quiet_of_same (D.out _)))
 go_wp2_with (first|(go_at_call 41;refine(I.out _ (by exact⟨hb.os,hb.tape,hb.output,hb.size,hb.block⟩)).mono ?_;rintro e w2 ⟨rfl,rfl⟩));refine vy (F:=λW2=>Bl w W2/\Bk W2 w1.heap.size 49 #[E 0,E 3,E 1,E 4,E 5,E 6,E 7,E 8,E 9,E 10,E 11]) ⟨(hW.out.cl hb).cl (by exact⟨rfl,rfl,rfl,by simp[World.alloc,World.drewN],λx hx=>f7l _ _ _ hx⟩),Bk.nw (by show W.heap.size=_;rw[hh])⟩ ?_;generalize w1.heap.size=xa;clear d1 f1 d2 f2 I D hU hb hh kT kB hW B;rintro W2 ⟨gW,gA⟩;have gE:=hH.out.bl gW;have gB:=Bk.bl gW C.out
 go_loopw [40] (λiv wr=> ∃i:Nat,i<=k-1/\iv=.int .i64 (i:Int)/\wr=W2) (λiv _=>11-(intOf iv).toNat)
 case atStart => exact⟨0,f1n _,rfl,rfl⟩
 case round=>
    obtain⟨i,hi,rfl,rfl⟩:=hrel;have m:i<11:=by omega
    have R:(i:Int)<11:=by omega
    have M:=(gA.ce i).trans (fvl gE m);have q:=fx6 (is_any g nm c (A (gix (k-1))) (A (gix i)) gB (gE.row _ hk.1 hk.2) (gE.row _ (feq m).1 (feq m).2));have U:IntKind.i64.wrap ((i:Int)+1)=(i:Int)+1:=f0t _ fe;have hE:=fx6 gE;clear gE gB gA;by_cases e:i=k-1
    ·have hd:decide (A (gix (k-1))=A (gix i))=true:=by rw[e];simp
     rw[hd] at q;have J:=fx6 (show(i:Int)+1=(k:Int) by omega);clear hd e;go_wp2_with (first|(go_at_call 42;refine q.out.mono ?_;rintro e w2 ⟨rfl,rfl⟩));try simp only[Exit.inBlock,Exit.then]
     refine f0q (v:=.tuple #[.int .i64 ((i:Int)+1),.string nm,.int .i64 c]) (by simp[results,Tryz.results19,go_sem]) rfl ⟨?_,gW⟩;rw[J.out]
    ·have hd:decide (A (gix (k-1))=A (gix i))=false:=by
       simp only[f1u];exact hE.out.ne _ _ hk.1 (feq m).1 hk.2 (feq m).2 (λh=>e (gix_inj m fe h.symm))
     rw[hd] at q;clear hd;go_wp2_with (first|(go_at_call 42;refine q.out.mono ?_;rintro e w2 ⟨rfl,rfl⟩))
     go_roundw
     case rel => exact⟨i+1,by omega,by simp,trivial⟩
     case measure => simp[intOf];omega
end
section
variable {E:Nat->Value} {A:Nat->Addr} {w:World}
def ly (nm:ByteArray) (c:Int) (w:World):Calls PV 20 #[.nilIface,.string nm,.int .i64 c] w λx w'=>x=.returned (.int .i64 0)/\w'=w:=by
 have hC:=λw=>fni w;have j:=fx6 hC;clear hC;go_enter PV.func20,Tryz.ntmps20;go_wp2_with (first|(go_at_call 19;refine(j.out _).mono ?_;rintro e w1 ⟨rfl,rfl⟩));go_ret;exact⟨rfl,rfl⟩
def lz (h:EV E A w) (g:Nat) (nm:ByteArray) (c:Int) {k:Nat} (h2:2<=k) (h7:k<=7) (hB:Bk w g 115 #[.string nm,.int .i64 c,E (fhf k)]):
    Calls PV 20 #[.iface 111 (.pointer (some ⟨g,0,none⟩)),.string nm,.int .i64 c] w λx w'=>x=.returned (.int .i64 (k:Int))/\Bl w w':=by
 have hC:=fx6 (fvm h g nm c h2 h7 hB);have b1:(0:Int)<(k:Int):=by omega
 have b2:(k:Int)<12:=by omega
 clear h hB;go_enter PV.func20,Tryz.ntmps20;go_wp2_with (first|(go_at_call 19;refine hC.out.mono ?_;rintro e w1 ⟨rfl,gb⟩));go_ret;exact⟨rfl,gb⟩
end
structure Live (L:Lay) (E:Nat->Value) (A:Nat->Addr) (S:Plain.Ses) (ow:Nat->Nat) (w:World):Prop where
 mem: ∃V,Mem L V S 0 ow w
 marks:Marks L S.n w
 ev:EV E A w
 good:Plain.Good S
 bnd:Plain.Bnd S
 low: ∀i,i<12->i≠2->ow (A i).block=0
section
variable {L:Lay} {V V':Vals} {S S':Plain.Ses} {ow ow':Nat->Nat} {w w':World} {E:Nat->Value} {A:Nat->Addr}
def Live.to (h:Live L E A S ow w) (hM:Mem L V' S' 0 ow' w') (hm:Marks L S'.n w') (hE:Ey ow ow' w w') (hG:Plain.Good S') (hB:Plain.Bnd S'):Live L E A S' ow' w':=by
 obtain⟨V,j⟩:=h.mem;refine⟨⟨V',hM⟩,hm,h.ev.ch hE.ch (λx hx hn=>hn (j.tag.lo x hx)) (λi hi h2 hn=>hn (h.low i hi h2)),hG,hB,λi hi h2=>?_⟩;obtain⟨c,t,hr⟩:=h.ev.row i hi h2;exact(hE.own _ (fx5.1 hr).1).trans (h.low i hi h2)
def Live.bl (h:Live L E A S ow w) (hb:Bl w w'):Live L E A S ow w':=by
 obtain⟨V,j⟩:=h.mem;exact h.to (j.bl hb) (h.marks.bl hb) (Ey.bl hb) h.good h.bnd
def ou {S:Plain.Ses} {c:Nat} {k pos r:Int}:(Plain.change S c k pos r).1=0\/2<=(Plain.change S c k pos r).1:=by
 unfold Plain.change;repeat' split
 all_goals first|exact .inl rfl|exact .inr fi
def m5 {S:Plain.Ses} {k c pos r:Int}:(Plain.call S k c pos r).1<=7/\((Plain.call S k c pos r).1=0\/2<=(Plain.call S k c pos r).1):=by
 unfold Plain.call;split
 ·simp
 split
 ·split
  ·exact⟨f6u,ou⟩
  ·simp
 split
 ·exact⟨f6u,ou⟩
 split
 ·exact⟨f6u,ou⟩
 split
 ·refine⟨fng,?_⟩;unfold Plain.serve;split
  ·simp
  ·split <;>simp
 ·refine⟨fwb,?_⟩;unfold Plain.get;split <;>simp
def fvn (h:Live L E A S ow w) (k c pos r:Int) (h1:1<=k) (h5:k<=5):
    Calls PV 9 #[.pointer (some ⟨L.b,0,none⟩),.int .i64 k,.int .i64 c,.int .i64 pos,.int .i64 r] w λx w'=>x=.returned (.int .i64 ((Plain.call S k c pos (IntKind.i32.wrap r)).1:Int))/\ ∃ow',Live L E A (Plain.call S k c pos (IntKind.i32.wrap r)).2 ow' w'/\Ey ow ow' w w':=by
 obtain⟨V,hM⟩:=h.mem;have hG:=fx6 (Plain.call_good h.good (k:=k) (c:=c) (pos:=pos) (r:=IntKind.i32.wrap r));have hB:=fx6 (Plain.call_bnd h.good h.bnd (k:=k) (c:=c) (pos:=pos) (r:=IntKind.i32.wrap r));have q:=m5 (S:=S) (k:=k) (c:=c) (pos:=pos) (r:=IntKind.i32.wrap r);generalize hR:Plain.call S k c pos (IntKind.i32.wrap r)=R at*;rcases(by omega:k=1\/k=2\/k=3\/k=4\/k=5) with rfl|rfl|rfl|rfl|rfl;(have hI:=fp3 hM h.marks h.good h.bnd h.ev.errs c pos (IntKind.i32.wrap r));rotate_left
 (have hI:=fp4 hM h.marks h.good h.bnd h.ev.errs c pos (IntKind.i32.wrap r));rotate_left
 (have hI:=fvh hM h.marks h.good h.bnd h.ev.errs c pos (IntKind.i32.wrap r));rotate_left
 (have hI:=up_any hM h.marks h.good h.bnd h.ev.errs c pos (IntKind.i32.wrap r));rotate_left
 (have hI:=fvi hM h.marks h.good h.bnd h.ev.errs c pos (IntKind.i32.wrap r));rotate_left
 all_goals
    rw[hR] at hI;replace hI:=fx6 hI;clear hR;obtain⟨m,B⟩:=q;have hL:=fx6 h;clear h hM;have j:wrap32 r=IntKind.i32.wrap r:=by rw[f5h];unfold wrap32;omega
    go_enter PV.func9,Tryz.ntmps9;go_wp2_with (first|((first|go_at_call 21|go_at_call 22|go_at_call 23|go_at_call 24);(try rw[j]);refine hI.out.mono ?_;rintro e w1 gD;obtain⟨V',ow',g1,g2,g3,g4⟩:=gD.out;have gL:=fx6 (hL.out.to g1 g2 g3 hG.out hB.out);rcases g4 with⟨g5,rfl⟩|⟨g5,g,rfl,g6,g7⟩;(have gN:=fx6 (λnm=>ly nm c w1));rotate_left;(have gN:=fx6 (lz gL.out.ev g _ _ fe m g6));rotate_left;all_goals (replace g1:=fx6 g1;replace g2:=fx6 g2;replace g3:=fx6 g3))|(go_at_call 20;refine(gN.out _).mono ?_;rintro e w2 ⟨rfl,rfl⟩)|(go_at_call 20;refine gN.out.mono ?_;rintro e w2 ⟨rfl,gb⟩))
    ·go_ret;exact⟨by rw[g5];rfl,ow',gL.out,g3.out⟩
    ·go_ret;exact⟨rfl,ow',gL.out.bl gb,g3.out.tr (Ey.bl gb)⟩
end
def txV (V:Vals) (n:Nat) (c:Int):Value:=if c= -1 then V.st else if 0<=c/\c<n then V.tv c.toNat else .slice none 0 0
def Plain.textOf (S:Plain.Ses) (c:Int):List Plain.El:=if c= -1 then S.text else if 0<=c/\c<S.n then (S.cl c.toNat).text else []
section
variable {L:Lay} {V:Vals} {S:Plain.Ses} {ow ow':Nat->Nat} {w w':World} {E:Nat->Value} {A:Nat->Addr}
def Mem.textAt {m:Int} (h:Mem L V S m ow w) (c:Int):Txt w (txV V S.n c) (Plain.textOf S c):=by
 unfold txV Plain.textOf;split
 ·exact h.st
 split
 ·rename_i h1 h2;exact h.tx _ fe
 ·exact Txt.nil w
def zc (h:Mem L V S 1 ow w) (u:FrameMode):CallsD PV 26 #[.pointer (some ⟨L.b,0,none⟩)] u w λx u' w'=>u'=u/\(x=.returned (.tuple #[])/\(∃ow',Mem L V S 0 ow' w')/\Ch (λy=>y=L.b) w w'):=by
 refine(fne u h.base h.bb kh rfl).mono ?_;rintro x u' w' ⟨rfl,rfl,rfl⟩;obtain⟨ow',h1,h2,h3⟩:=fhl h 0;exact⟨rfl,rfl,⟨ow',h1⟩,h3⟩
def aq {j:Nat->Nat} {w4:World} (h:Mem L V S 0 ow w) (h4:Mem L V S 0 j w4) (hC:Ch (λx=>x=L.b) w w4):Bl w w4:=
 ⟨hC.os,hC.tape,hC.output,hC.size,λx hx=>by
    by_cases e:x=L.b
    ·subst e;rw[h4.bb.at_,h.bb.at_]
    ·exact hC.block x hx e⟩
def fnl (h:Mem L V S 0 ow w) (hM:Marks L S.n w) (hE:Errs E w) (D:1<=S.n) (O:S.n<=6) (c:Int):
    Calls PV 60 #[.pointer (some ⟨L.b,0,none⟩),.int .i64 c] w λx w'=>x=.returned (txV V S.n c)/\Bl w w':=by
 obtain⟨ab,cap,j,_⟩:=h.cls_ D;have A:=fx6 (gl h hM hE);have hh:=fx6 h;clear h hM hE;by_cases hc:c= -1
 ·subst hc
  go_enter_defers PV.func60,Tryz.ntmps60
  go_wp2_with (first|(go_at_call 25;refine A.out.mono ?_;rintro e w1 ⟨rfl,B,g1⟩;obtain⟨cB,dB⟩:=g1.mem.bb.ceF;simp only[sesC,j] at cB;obtain⟨cS,dS⟩:=g1.mem.ss.ceF;replace g1:=fx6 g1));refine f1p (f:=26) (args:=#[.pointer (some ⟨L.b,0,none⟩)]) fi jg ?_;refine(zc g1.out.mem .returning).mono ?_;rintro e u' w4 ⟨rfl,rfl,⟨C,q⟩,m⟩;exact⟨_,f0x rfl _ _ _,by simp[txV],aq hh.out q (g1.out.ch.tr m (λx hx=>.inl hx))⟩
 by_cases hr:0<=c/\c<(S.n:Int)
 ·obtain⟨i,rfl⟩: ∃i:Nat,c=i:=⟨c.toNat,by omega⟩;have hi:i<S.n:=by omega
  have M:(i:Int)<(S.n:Int):=by omega
  have hz:((i:Int)== -1)=false:=by simp
  have J:(0:Int)<=(i:Int):=by omega
  have e:txV V S.n i=V.tv i:=by unfold txV;rw[fx9 hc,f02 hr];simp
  rw[e];clear e hr hc
  go_enter_defers PV.func60,Tryz.ntmps60
  go_wp2_with (first|(go_at_call 25;refine A.out.mono ?_;rintro e w1 ⟨rfl,B,g1⟩;obtain⟨cB,dB⟩:=g1.mem.bb.ceF;simp only[sesC,j] at cB;obtain⟨cK,dK⟩:=(g1.mem.kk i hi).ceF;have I:=g1.mem.cls_at j i hi;replace g1:=fx6 g1));refine f1p (f:=26) (args:=#[.pointer (some ⟨L.b,0,none⟩)]) fi jg ?_;refine(zc g1.out.mem .returning).mono ?_;rintro e u' w4 ⟨rfl,rfl,⟨C,q⟩,m⟩;exact⟨_,f0x rfl _ _ _,rfl,aq hh.out q (g1.out.ch.tr m (λx hx=>.inl hx))⟩
 ·have e:txV V S.n c=.slice none 0 0:=by unfold txV;rw[fx9 hc,fx9 hr]
  rw[e];clear e;have hz:(c== -1)=false:=by simpa using hc
  by_cases h0:0<=c
  ·have h1:(S.n:Int)<=c:=by omega
   clear hr hc
   go_enter_defers PV.func60,Tryz.ntmps60
   go_wp2_with (first|(go_at_call 25;refine A.out.mono ?_;rintro e w1 ⟨rfl,B,g1⟩;obtain⟨cB,dB⟩:=g1.mem.bb.ceF;simp only[sesC,j] at cB;replace g1:=fx6 g1));refine f1p (f:=26) (args:=#[.pointer (some ⟨L.b,0,none⟩)]) fi jg ?_;refine(zc g1.out.mem .returning).mono ?_;rintro e u' w4 ⟨rfl,rfl,⟨C,q⟩,m⟩;exact⟨_,f0x rfl _ _ _,rfl,aq hh.out q (g1.out.ch.tr m (λx hx=>.inl hx))⟩
  ·have h1:c<0:=by omega
   clear hr hc
   go_enter_defers PV.func60,Tryz.ntmps60
   go_wp2_with (first|(go_at_call 25;refine A.out.mono ?_;rintro e w1 ⟨rfl,B,g1⟩;obtain⟨cB,dB⟩:=g1.mem.bb.ceF;simp only[sesC,j] at cB;replace g1:=fx6 g1));refine f1p (f:=26) (args:=#[.pointer (some ⟨L.b,0,none⟩)]) fi jg ?_;refine(zc g1.out.mem .returning).mono ?_;rintro e u' w4 ⟨rfl,rfl,⟨C,q⟩,m⟩;exact⟨_,f0x rfl _ _ _,rfl,aq hh.out q (g1.out.ch.tr m (λx hx=>.inl hx))⟩
end
attribute [local go_sem] f5q
def fhr {t:List Plain.El} {k:Nat} {e:Plain.El} (h:t[k]? =some e):(flat t)[k*3]? =some (.int .i32 e.r)/\(flat t)[k*3+1]? =some (.int .i64 e.c)/\(flat t)[k*3+2]? =some (.int .i64 e.n):=by
 induction t generalizing k with
 | nil=>simp at h
 | cons x t ih=>
   cases k with
   | zero=>simp at h;subst h;simp[flat]
   | succ k=>
     simp at h;have:=ih h;simp only[flat];rw[show(k+1)*3=k*3+1+1+1 by omega];simpa using this
section
variable {L:Lay} {V:Vals} {S:Plain.Ses} {ow ow':Nat->Nat} {w w':World} {E:Nat->Value}
def fta (n:Nat) {w0:World} (h:Mem L V S 0 ow w0) (hM:Marks L S.n w0) (hE:Errs E w0) (q:Bl w0 w) (U:1<=S.n) (X:S.n<=6) (c:Int) (bs bc l:Nat) (R:Bk w bs 26 #[.pointer (some ⟨L.b,0,none⟩)]) (O:Bk w bc 3 #[.int .i64 c]) (Y:(Plain.textOf S c).length<=4000)
    (J:Nat->World->Prop) (C: ∀W,Bl w W->J 0 W) (M: ∀k W,J k W->Bl w0 W) (I: ∀k W o,J k W->J k (W.alloc o))
    (hY: ∀k W e,J k W->(Plain.textOf S c)[k]? =some e->YieldAt Fence.wide (n-1) PV l #[.int .i64 (k:Int),elV e] W λx W'=>x=.returned (.bool true)/\J (k+1) W'):
    CallsIn Fence.wide n PV 59 #[.func (.yield l) #[] #[],.pointer (some ⟨bs,0,none⟩),.pointer (some ⟨bc,0,none⟩)] w λx W'=>(∃v,x=.returned v)/\J (Plain.textOf S c).length W':=by
 have hT:=h.textAt c;obtain⟨A,cc,hv⟩:=hT.slice;have hX:=fx6 (fnl (h.bl q) (hM.bl q) (hE.bl h.size q) U X c);rw[hv] at hT hX;have B:=fx6 hT;obtain⟨c1,d1⟩:=R.ceF;obtain⟨c2,d2⟩:=O.ceF;clear h hM hE hv hT;generalize Plain.textOf S c=t at*;refine callsIn_of_wp PV.func59 rfl trivial ?_ rfl;simp only[Tryz.ntmps59,f3s,fz6,f06,Nat.reduceAdd,Nat.reduceSub,Array.replicate_succ,Array.replicate_zero,List.push_toArray,List.append_toArray,f2h,f0j]
 gi_wp2_with (first|(refine⟨trivial,λhh=>absurd hh fu,?_⟩;gi_at_call 60;refine(f4j.2 hX.out).mono ?_;rintro e w1 ⟨rfl,hb⟩))
 gi_loopw [10] (λi wr=> ∃k:Nat,k<=t.length/\i=.int .i64 (k:Int)/\J k wr) (λi _=>t.length-(intOf i).toNat)
 case atStart => exact⟨0,f1n _,rfl,C _ hb⟩
 case round=>
    obtain⟨k,hk,rfl,j⟩:=hrel;by_cases hlt:k<t.length
    ·have m:=B.out.bl (M k wr j);obtain⟨e,he⟩: ∃e,t[k]? =some e:=⟨t[k],f0r hlt⟩
     obtain⟨g,rfl⟩: ∃g,A=some ⟨g,0,none⟩:=by
       rcases m.form with⟨_,h2⟩|⟨g,cap,h1,_⟩
       ·rw[h2] at hlt;simp at hlt
       ·injection h1 with h1;exact⟨g,h1⟩
     have hc:=m.cells;obtain⟨f0,f1,f2⟩:=fhr he;have q0:=hc _ _ f0;have q1:=hc _ _ f1;have q2:=hc _ _ f2;simp only[f2u,f1k] at q0 q1 q2;have aa:(k:Int)<(t.length:Int):=by omega
     have ab:IntKind.i64.wrap ((k:Int)+1)=(k:Int)+1:=f0t _ fe;obtain⟨fn,tmps,assign,body,hy,hR⟩:=hY k (wr.alloc (.cells #[.int .i32 e.r,.int .i64 e.c,.int .i64 e.n] 38)) e (I _ _ _ j) he;clear B m hc f0 f1 f2 hY
     gi_wp2
     refine⟨λhh=>absurd hh fu,hR.mono ?_⟩;rintro x W3 ⟨rfl,D⟩
     gi_wp2
     go_roundw
     case rel => exact⟨k+1,by omega,by simp,D⟩
     case measure => simp[intOf];omega
    ·obtain rfl:k=t.length:=by omega
     gi_wp2
     go_end0
     exact⟨⟨_,rfl⟩,j⟩
def ftb (c:Int) (b:Addr) (w:World):Calls PV 27 #[.pointer (some b),.int .i64 c] w λx w'=>x=.returned (.func (.func 59) #[] #[.pointer (some ⟨w.heap.size,0,none⟩),.pointer (some ⟨w.heap.size+1,0,none⟩)])/\w'=(w.alloc (.cells #[.pointer (some b)] 26)).alloc (.cells #[.int .i64 c] 3):=by
 go_enter PV.func27,Tryz.ntmps27;go_wp2;go_ret;exact⟨rfl,rfl⟩
end
section
open Go.Shelf
def fk5 {g:Operand} {ps:Array Tmp} {assign body:Code} {Q:Exit->Act->World->Prop} {a:Act} {w:World} {n gf:Nat} {lb:Array Value} (hg:a.eval g=.func (.func gf) #[] lb)
    (eg: ∀args w,(callFunc gf args).run PV w=.ok (.enter gf args) w) (Z:World->Prop)
    (j: ∀(r:Loop),r.state=.ready->r.pending=none->r.tmps=a.tmps->r.params=ps->r.assign=assign->r.body=body-> ∀W1,W1=(w.alloc (.deferred (some []))).alloc (.loop r)->
      CallsIn Fence.wide (n-1) PV gf (#[.func (.yield (w.heap.size+1)) #[] #[]]++lb) W1 (λe W2=>(∃v,e=.returned v)/\W2.heap[w.heap.size+1]? =some (.loop r)/\Z W2))
    (m: ∀(r:Loop) W2,Z W2->W2.heap[w.heap.size+1]? =some (.loop r)->Q .normal { a with defers:={ target:=.collected w.heap.size,args:=#[] }::a.defers } (W2.putObj (w.heap.size+1) (.loop { r with state:=.exhausted }))):
    (Code.rangeFunc g ps assign body).wpIn Fence.wide n PV Q a w:=by
 refine wpIn_rangeFunc ?_;intro fn A;obtain⟨r,hr⟩: ∃r:Loop,r={ state:=.ready,pending:=none,fn:=fn,tmps:=a.tmps,params:=ps,assign:=assign,body:=body,defers:=w.heap.size }:=⟨_,rfl⟩;have hc:=j r (by rw[hr]) (by rw[hr]) (by rw[hr]) (by rw[hr]) (by rw[hr]) (by rw[hr]) _ rfl
 refine⟨w.heap.size+1,[{ target:=.collected w.heap.size,args:=#[] }],(w.alloc (.deferred (some []))).alloc (.loop r),{ target:=.fn (.func gf) lb,args:=#[.func (.yield (w.heap.size+1)) #[] #[]] },(w.alloc (.deferred (some []))).alloc (.loop r),gf,
    #[.func (.yield (w.heap.size+1)) #[] #[]]++lb,(w.alloc (.deferred (some []))).alloc (.loop r),?_,?_,?_,?_,λhh=>absurd hh fu,?_⟩
 ·rw[hr];exact run_enterLoop_outer _ _ _ _ _
 ·simp only[resolve,hg];simp[go_sem]
 ·intro f' q;trivial
 ·simp[invoke,go_sem,eg]
 ·refine hc.mono ?_;rintro e W2 ⟨⟨v,rfl⟩,hl,hz⟩;refine⟨none,W2.putObj (w.heap.size+1) (.loop { r with state:=.exhausted }),?_,m r W2 hz hl⟩;have:=_root_.Go.run_endLoop (P:=PV) hl (by rw[hr];simp);rw[this,hr]
def fk6 {W:World} {l m:Nat} {r:Loop} {args:Array Value} {R:World->Prop} (hl:W.heap[l]? =some (.loop r)) (hr:r.state=.ready) (hp:r.pending=none) (hs:args.size=r.params.size)
    (h: ∀rb:Loop,r.assign.wpIn (Fence.wide.inRound l) m PV (Exit.then (λa₁ w₁=>w₁.heap[l]? =some (.loop r)/\r.body.wpIn (Fence.wide.inRound l) m PV (λe _ w2=>e=.normal/\w2.heap[l]? =some (.loop rb)/\R (w2.putObj l (.loop r))) a₁ (w₁.putObj l (.loop rb))) (λ_ _ _=>False))
      { tmps:=(r.params.zip args).foldl (λt (p,v)=>t.setIfInBounds p v) r.tmps,defers:=[] } W):
    YieldAt Fence.wide m PV l args W λx W'=>x=.returned (.bool true)/\R W':=by
 refine⟨_,_,_,_,run_yield hl hs,roundIn_of_wpIn trivial (wpIn_mono (h { r with state:=.busy }) ?_)⟩;intro e a1 w1 hq;cases e with
 | normal=>
   obtain⟨h1,h2⟩:=hq;refine⟨_,run_beginRound h1 hr,wpIn_mono h2 ?_⟩;rintro e2 a2 w2 ⟨rfl,h3,h4⟩;have e:({ r with state:=.ready,pending:=none }:Loop)=r:=by cases r;simp_all
   refine⟨_,_,run_endRound none h3,rfl,?_⟩;simp only[Option.isNone_none,f0e];rw[e];exact h4
 | ret=>exact hq.elim
 | exit _=>exact hq.elim
 | goto _=>exact hq.elim
 | panic _=>exact hq.elim
 | outgrown=>exact hq.elim
end
def fly {w:World} {base n size:Nat} {e:TypeId} {v:Value} {xs:List Value} (h:w.ownsRow base e size v n xs): ∃A c,v=.slice A n c:=by
 rcases h.2 with⟨rfl,h2⟩|⟨g,cap,cur,rfl,_⟩
 ·subst h2;exact⟨_,_,rfl⟩
 ·exact⟨_,_,rfl⟩
def Ch.po {K:Nat->Prop} {w w1:World} (h:Ch K w w1) {l:Nat} (hl:K l\/w.heap.size<=l) (o:Obj):Ch K w (w1.putObj l o):=
 h.tr (K':=λx=>x=l) ⟨rfl,rfl,rfl,by simp[World.putObj],λx _ hn=>World.putObj_heap_other hn⟩ λx hx=>by subst hx;exact hl
end Go.Proofs.YtelecjnabeokeaaGreatDoor
namespace Go.Proofs.YtelecjnabeokeaaGreatDoor
open Go Go.RowKit
def m7 (c:Int) (n:Nat):Nat:=((if c<0 then -(c+1) else c)%(n:Int)).toNat
def fht {c:Int} {n:Nat} (hn:0<n):m7 c n<n:=by
 unfold m7;have h1:=Int.emod_nonneg (if c<0 then -(c+1) else c) (show(n:Int)≠0 by omega);have h2:=Int.emod_lt_of_pos (if c<0 then -(c+1) else c) (show(0:Int)<n by omega);omega
def fvp {c:Int} {n:Nat} (hn:0<n):(if c<0 then -(c+1) else c)%(n:Int)=(m7 c n:Int):=by
 unfold m7;have h1:=Int.emod_nonneg (if c<0 then -(c+1) else c) (show(n:Int)≠0 by omega);omega
def fno (c:Int) (n:Nat) (h0: -9223372036854775808<=c) (h1:c<=9223372036854775807) (hn:0<n) (m:n<1000) (w:World):
    Calls PV 17 #[.int .i64 c,.int .i64 (n:Int)] w λx w'=>x=.returned (.int .i64 (m7 c n:Int))/\w'=w:=by
 have j: ¬(n:Int)=0:=by omega
 have hp:=fvp (c:=c) hn;have hl:=fht (c:=c) hn;have hq:IntKind.i64.wrap (m7 c n:Int)=(m7 c n:Int):=f0t _ fe;by_cases hc:c<0
 ·have e1:IntKind.i64.wrap (c+1)=c+1:=f0t _ fe;have e2:IntKind.i64.wrap (-(c+1))= -(c+1):=f0t _ fe;have e3:Int.tmod (-(c+1)) n=(m7 c n:Int):=by rw[Int.tmod_eq_emod_of_nonneg fe];rw[f02 hc] at hp;exact hp
  go_enter PV.func17,Tryz.ntmps17;go_wp2;go_ret;simp[hq]
 ·have e3:Int.tmod c n=(m7 c n:Int):=by rw[Int.tmod_eq_emod_of_nonneg fe];rw[fx9 hc] at hp;exact hp
  go_enter PV.func17,Tryz.ntmps17;go_wp2;go_ret;simp[hq]
structure Scr (w:World) (p:Option Addr) (n cap:Nat) (f:Nat->Nat->Int) (s:Nat->ByteArray):Prop where
 le:n<=cap
 capm:cap<=maxLen
 wf: ∀i j,i<n->j<6-> -9223372036854775808<=f i j/\f i j<=9223372036854775807
 at_:0<n-> ∃b o,p=some ⟨b,o,none⟩/\b<w.heap.size/\ ∀i,i<n->(∀j,j<6->w.cell? ⟨b,o+i*7+j,none⟩=some (.int .i64 (f i j)))/\w.cell? ⟨b,o+i*7+6,none⟩=some (.string (s i))
section
variable {w w':World} {p:Option Addr} {n cap:Nat} {f:Nat->Nat->Int} {s:Nat->ByteArray}
def Scr.keep (h:Scr w p n cap f s) (hs:w.heap.size<=w'.heap.size) (hb: ∀x,x<w.heap.size->w'.heap[x]? =w.heap[x]?):Scr w' p n cap f s:=
 ⟨h.le,h.capm,h.wf,λh0=>by
    obtain⟨b,o,h1,h2,h3⟩:=h.at_ h0;refine⟨b,o,h1,by omega,λi hi=>⟨λj hj=>?_,?_⟩⟩
    ·exact(f0h (a:=⟨b,_,none⟩) (hb b h2)).trans ((h3 i hi).1 j hj)
    ·exact(f0h (a:=⟨b,_,none⟩) (hb b h2)).trans (h3 i hi).2⟩
def Scr.bl (h:Scr w p n cap f s) (hb:Bl w w'):Scr w' p n cap f s:=h.keep hb.size hb.block
def SizeR (w:World) (x:Ending) (w':World):Prop:=(∃nn room:Nat,1<=nn/\nn<=6/\1<=room/\room<=16/\x=.returned (.tuple #[.int .i64 (nn:Int),.int .i64 (room:Int)]))/\Bl w w'
def fvq (h:Scr w p n cap f s):Calls PV 7 #[.slice p n cap] w (SizeR w):=by
 have I:n<=9223372036854775807:=by have h1:=h.le;have h2:=h.capm;simp only[maxLen] at h2;omega
 have hH:=fx6 h;clear h;go_enter PV.func7,Tryz.ntmps7;go_wp2
 go_loopw [4] (λiv wr=> ∃i:Nat,i<=n/\iv=.int .i64 (i:Int)/\wr=w) (λiv _=>n-(intOf iv).toNat)
 case atStart => exact⟨0,f1n _,rfl,rfl⟩
 case round=>
    obtain⟨i,hi,rfl,rfl⟩:=hrel;by_cases hlt:i<n
    ·have J:(i:Int)<(n:Int):=by omega
     obtain⟨b,o,rfl,hb,hc⟩:=hH.out.at_ fe;obtain⟨hc,_⟩:=hc i hlt;have q0:=hc 0 fe;have q2:=hc 2 fe;have q3:=hc 3 fe;simp only[f5p] at q0;have D:IntKind.i64.wrap ((i:Int)+1)=(i:Int)+1:=f0t _ fe;obtain⟨a1,a2⟩:=hH.out.wf i 2 hlt fe;obtain⟨b1,b2⟩:=hH.out.wf i 3 hlt fe;by_cases e:f i 0=1
     ·have e1: ∃y,IntKind.i64.wrap (f i 2-1)=y/\ -9223372036854775808<=y/\y<=9223372036854775807:=⟨_,rfl,by rw[f3h];omega,by rw[f3h];omega⟩;have e2: ∃y,IntKind.i64.wrap (f i 3-1)=y/\ -9223372036854775808<=y/\y<=9223372036854775807:=⟨_,rfl,by rw[f3h];omega,by rw[f3h];omega⟩;obtain⟨y1,C,j,q⟩:=e1;obtain⟨y2,B,m,A⟩:=e2;have l1:=fht (c:=y1) (n:=6) fe;have l2:=fht (c:=y2) (n:=16) fe;have p1:=fx6 (λW=>fno y1 6 j q fe fe W);have p2:=fx6 (λW=>fno y2 16 m A fe fe W);have s1:IntKind.i64.wrap (1+(m7 y1 6:Int))=1+(m7 y1 6:Int):=f0t _ fe;have s2:IntKind.i64.wrap (1+(m7 y2 16:Int))=1+(m7 y2 16:Int):=f0t _ fe;rw[e] at q0;go_wp2_with fail
      go_quiet ((go_at_call 17;first|exact Calls.quiet_of_same (p1.out _)|exact Calls.quiet_of_same (p2.out _)))
      go_wp2_with fail;try simp only[Exit.inBlock,Exit.then]
      refine f0q (v:=.tuple #[.int .i64 (1+(m7 y1 6:Int)),.int .i64 (1+(m7 y2 16:Int))]) (by simp[results,Tryz.results7,go_sem]) rfl ⟨⟨1+m7 y1 6,1+m7 y2 16,by omega,by omega,by omega,by omega,by simp⟩,?_⟩;exact⟨rfl,rfl,rfl,fx8 _,λ_ _=>rfl⟩
     ·go_wp2
      go_roundw
      case rel => exact⟨i+1,by omega,by simp,trivial⟩
      case measure => simp[intOf];omega
    ·obtain rfl:i=n:=by omega
     go_wp2;try simp only[Exit.inBlock,Exit.then]
     exact f0q (v:=.tuple #[.int .i64 3,.int .i64 5]) (by simp[results,Tryz.results7,go_sem]) rfl ⟨⟨3,5,by omega,by omega,by omega,by omega,rfl⟩,Bl.rf _⟩
end
def fld38:PV.underlying 38=some (.struct (PV.fieldsOf 38)):=by kernel_rfl
def stood38:PV.stoodInHeld 38=false:=by kernel_rfl
def eqg38:PV.eqGuardType PV.depth 38=false:=by kernel_rfl
@[go_sem] def eqGuard38 (op:BinOp) (x y:Operand) (xs ys:Array Value) (w:World):(eqGuard op 38 x y (.agg xs) (.agg ys)).run PV w=.ok () w:=run_eqGuard_agg w op 38 x y xs ys eqg38
def flds38:(PV.fieldsOf 38).toList.map (λf=>(f.type,f.offset,decide (f.name≠ "_")))=[(21,0,true),(3,1,true),(3,2,true)]:=by kernel_rfl
def und21:PV.underlying 21=some (.int .i32):=by kernel_rfl
def c3:PV.cellsOf 3=1:=by kernel_rfl
def eq38 (d:Nat) (a b c a' b' c':Int) (w:World):(Op.equalIn (d+1+1) 38 (.agg #[.int .i32 a,.int .i64 b,.int .i64 c]) (.agg #[.int .i32 a',.int .i64 b',.int .i64 c'])).run PV w=.ok (a==a'&&(b==b'&&c==c')) w:=by
 rw[run_equalIn_agg w (d+1) 38 _ _ fld38 stood38];have h:=flds38;generalize (PV.fieldsOf 38).toList=fs at h;have hl:fs.length=3:=by have:=f3q List.length h;simpa using this
 match fs,hl with
 | [f0,f1,f2],_=>
   simp only[f3c,List.map_nil,f0n,f2e,f1r,f2i] at h;obtain⟨⟨t0,o0,n0⟩,⟨t1,o1,n1⟩,t2,o2,n2⟩:=h;have p0: ∀x y z:Value,(part 21 #[x,y,z] 0).run PV w=.ok x w:=λx y z=>by go_simp
   have p1: ∀x y z:Value,(part 3 #[x,y,z] 1).run PV w=.ok y w:=λx y z=>by go_simp
   have p2: ∀x y z:Value,(part 3 #[x,y,z] 2).run PV w=.ok z w:=λx y z=>by go_simp
   have e0:=run_equalIn_int (P:=PV) w d 21 .i32 .i32 a a' und21;have e1:=run_equalIn_int (P:=PV) w d 3 .i64 .i64 b b' und3;have e2:=run_equalIn_int (P:=PV) w d 3 .i64 .i64 c c' und3;simp only[Op.eqFields,t0,o0,t1,o1,t2,o2,f02 n0,f02 n1,f02 n2,fz9,p0,p1,p2,Result.andThen_ok,e0,e1,e2];cases h0:(a==a') <;>cases h1:(b==b') <;>cases h2:(c==c') <;>simp[p1,p2,e1,e2,h1,h2]
open Go.Conc Go.Conc.Lib Go.ConcR.Gen
section
variable {main:Bool} {H:Hide} {Shun:Loc->Prop} {Φ:Goroutine->World->Nat->Prop} {w:World}
def fwm {P:Program} {K:World->Prop} {E:Event->Prop} {g:Goroutine} {d:Nat} (hK: ∀t,K (w.at t)) (hE: ∀e,E e->EvP H Shun w.heap.size e) (h:WKE P main K E (λg d=>OG P main H Shun Φ g w d) g d):OG P main H Shun Φ g w d:=by
 obtain⟨n,h⟩:=h
 induction n generalizing g d with
 | zero=>exact h
 | succ n ih=>
   rcases h with h|⟨h1,g',es,h2,h3,h4⟩
   ·exact h
   ·exact ll h1 (λt=>h3 _ (hK t)) ⟨fx8 _,λ_ _=>rfl,λe he=>hE e (h2 e he)⟩ (ih h4)
def fuh {n:Nat} {e:Event} (he:e.mute=true):EvP H Shun n e:=by
 obtain⟨l,wr,sy⟩:=e;cases l with
 | mark m=>
   cases m with
   | disable=>exact⟨λt ht a ha=>pg,by cases wr <;>cases sy <;>trivial⟩
   | enable=>exact⟨λt ht a ha=>pg,by cases wr <;>cases sy <;>trivial⟩
   | _=>simp[Event.mute] at he
 | _=>simp[Event.mute] at he
variable {b:Nat} {b₀:Frame} {a₀:Act} {k₀:List Item} {cs:List Frame} {ops₀:Array Oper} {i₀:Nat} {rest₀:List Nat}
def AddE (b:Nat) (e:Event):Prop:=e.mute=true\/e=⟨.mark (.read (smC b)),false,true⟩
def og_add1 {c:Array Value} {e:TypeId} {m:Nat} {y:Int} {cd:Code} (hH:H b=none) (hb:w.heap[b]? =some (.cells c e (0,0))) (hsz:c.size=8) (h6:c[6]? =some (.int .u64 ((m:Nat)*K32))) (h7:c[7]? =some (.int .u32 y)) (hm:m<1000) (B:Tryz.f77.body=some cd)
    (h:OG Tryz.prog main H Shun Φ (G (b₀.at (a₀.put ((ops₀[i₀]?).bind (·.dst)) (.tuple #[])) (.inRegion ops₀ rest₀::k₀)) cs) (w.setCell (stC b) (.int .u64 ((m+1:Nat)*K32))) 0):
    OG Tryz.prog main H Shun Φ (G ((base 77).at ⟨#[.pointer (some (stC b)),.int .i64 1]++Array.replicate 115 undef,[]⟩ [.code cd]) (b₀.at a₀ (.inRegion ops₀ (i₀::rest₀)::k₀)::cs)) w 0:=by
 obtain rfl:_=cd:=fy7 B;have hlt:b<w.heap.size:=(fx5.1 hb).1;have A:w.cell? (stC b)=some (.int .u64 ((m:Nat)*K32)):=by simp only[World.cell?,hb];simpa using h6
 have hz:w.frozen? (stC b)=false:=by simp[World.frozen?,hb]
 have eS:IntKind.u64.wrap ((m:Nat)*K32+4294967296)=((m+1:Nat):Int)*K32:=by rw[IntKind.wrap_u64];show(((m:Nat):Int)*4294967296+4294967296)%18446744073709551616=((m+1:Nat):Int)*4294967296;omega
 have q:(w.setCell (stC b) (.int .u64 ((m+1:Nat)*K32))).cell? (smC b)=some (.int .u32 y):=by
    simp[World.setCell,World.cell?,fy6,hb,fy1,h7]
 have hE: ∀(w:World),b<w.heap.size-> ∀e,AddE b e->EvP H Shun w.heap.size e:=λw hlt e he=>by
    rcases he with he|rfl
    ·exact fuh he
    ·exact⟨λt ht a ha=>(by simp[MemAct.ofEvent,MemAct.touch?] at ht;subst ht;cases ha;exact .inl hH),hlt⟩
 obtain⟨s1,s2⟩:=ai (w:=w) (p:=stC b) hH (.int .u64 ((m+1:Nat)*K32));have j:b<(w.setCell (stC b) (.int .u64 ((m+1:Nat)*K32))).heap.size:=f0f hlt s1;walk_nrm;refine fwm (K:=λu=> ∃t,u=w.at t) (E:=AddE b) (λt=>⟨t,rfl⟩) (hE w hlt) ?_;refine wq (wt ?_);refine wq (wq ?_);refine wr ?_;simp only[szs];refine wv (.int .i64 1) ?_;walk_nrm;refine wv (.bool false) ?_;walk_nrm;refine we (wf ?_);refine ws (wq ?_);refine wr ?_;simp only[szs];refine i8 .disable fi (.inl rfl) rfl rfl gh rfl wgLib.f_disable (x_disable_n Lw) (x_disable_b Lw) (x_disable_x Lw) (x_disable_f Lw) ?_;walk_nrm;refine we (wr ?_);simp only[szs];refine fmj rfl rfl gh rfl ?_;walk_nrm;refine we (wq ?_);refine wr ?_;simp only[szs];refine wv (.bool false) ?_;walk_nrm;refine we (wq ?_);refine wq (wr ?_);simp only[szs];refine fqk (.bool false) rfl rfl gh rfl wgLib.f_inBubble (x_inBubble_n Lw) (x_inBubble_b Lw) (x_inBubble_x Lw) (x_inBubble_f Lw) ?_;walk_nrm;refine we (wf ?_);refine ws (wq ?_);refine wr ?_;simp only[szs];refine wv (.pointer (some (stC b))) ?_;(iterate 2 walk_nrm;refine wv (.pointer (some (stC b))) ?_);walk_nrm;refine wv (.int .i64 1) ?_;walk_nrm;refine ww (.int .u64 1) rfl rfl gh (λ_ _=>by go_simp;try decide) (λ_ _=>by simp[go_sem]) ?_;walk_nrm;refine ww (.int .u64 4294967296) rfl rfl gh (λ_ _=>by go_simp;try decide) (λ_ _=>by simp[go_sem]) ?_;walk_nrm;refine i7 rfl rfl gh rfl Tryz.func109 fd rfl ?_;simp only[show Tryz.f109.ntmps=10 from rfl];walk_nrm;refine wq (wr ?_);simp only[szs];refine wv (.int .u64 0) ?_;walk_nrm;refine we (wq ?_);refine wr ?_;simp only[szs];refine wv (.pointer (some (stC b))) ?_;(iterate 2 walk_nrm;refine wv (.pointer (some (stC b))) ?_);walk_nrm;refine wv (.int .u64 4294967296) ?_;walk_nrm;obtain⟨S,hS⟩: ∃S:Int,S=((m+1:Nat):Int)*K32:=⟨_,rfl⟩;rw[<- hS] at eS h q j s1 s2;refine ug ?_;show OG Tryz.prog main H Shun Φ _ _ _
 refine ll (w1:=w.setCell (stC b) (.int .u64 S)) (es:=#[rdE (stC b),wrE (stC b)]) rfl (λt=>(stepG_add_atomic (w:=w.at t) (v:=(m:Nat)*K32) (d:=4294967296) rfl rfl gh rfl wgLib.f_addU64 (x_addU64_n Lw) (x_addU64_b Lw) (x_addU64_x Lw) .u64 (x_addU64_f Lw) rfl rfl (show(w.at t).cell? (stC b)=_ from A) (show(w.at t).frozen? (stC b)=false from hz)).trans (by rw[eS];rfl))
    ⟨s1,s2,λe he=>(by simp at he;rcases he with rfl|rfl <;>exact xh hH j _ _)⟩ ?_
 have a1:S / 4294967296=((m+1:Nat):Int):=by rw[hS];show((m+1:Nat):Int)*4294967296 / _=_;omega
 have a2:0<=S/\S<9223372036854775808:=by rw[hS];show 0<=((m+1:Nat):Int)*4294967296/\((m+1:Nat):Int)*4294967296<_;omega
 have b1:bits .and .u64 S 2147483648=0:=by rw[hS,show((m+1:Nat):Int)*K32=((m+1:Nat):Int)*4294967296+((0:Nat):Int) from(Int.add_zero _).symm];exact Go.ConcN.st_flag (m+1) 0 fe fe
 have b2:bits .and .u64 S 2147483647=0:=by rw[hS,show((m+1:Nat):Int)*K32=((m+1:Nat):Int)*4294967296+((0:Nat):Int) from(Int.add_zero _).symm];exact Go.ConcN.st_waiters (m+1) 0 fe fe
 clear eS A;refine fwm (K:=λu=> ∃t,u=(w.setCell (stC b) (.int .u64 S)).at t) (E:=AddE b) (λt=>⟨t,rfl⟩) (hE _ j) ?_;rcases Nat.eq_zero_or_pos m with rfl|D
 ·obtain rfl:S=4294967296:=by rw[hS];decide
  clear hS a1 a2 b1 b2;walk_nrm;refine wv (.int .u64 4294967296) ?_;walk_nrm;refine we ?_;refine ri rfl (λ_=>f1w) ?_;refine vw (t:=4) rfl rfl Tryz.func109 rfl ?_;walk_nrm;refine wv (.int .u64 4294967296) ?_;walk_nrm;refine we (wq ?_);refine wq (wr ?_);simp only[szs];refine wv (.int .u64 4294967296) ?_;walk_nrm;refine wu (.int .u64 0) ?_;walk_nrm;refine wu (.bool false) ?_;walk_nrm;refine wv (.bool false) ?_;(iterate 2 walk_nrm;refine wz ?_);walk_nrm;refine wv (.bool false) ?_;walk_nrm;refine we (wf ?_);refine ws (wq ?_);refine wr ?_;simp only[szs];refine wv (.int .u64 4294967296) ?_;walk_nrm;refine wu (.int .u64 1) ?_;walk_nrm;refine wu (.int .i32 1) ?_;walk_nrm;refine wv (.int .i32 1) ?_;walk_nrm;refine we (wq ?_);refine wr ?_;simp only[szs];refine wv (.int .u64 4294967296) ?_;walk_nrm;refine wu (.int .u64 0) ?_;walk_nrm;refine wu (.int .u32 0) ?_;walk_nrm;refine wv (.int .u32 0) ?_;walk_nrm;refine we (wq ?_);refine wq (wr ?_);simp only[szs];refine wv (.bool true) ?_;walk_nrm;refine wv (.int .i64 1) ?_;(iterate 3 walk_nrm;refine wv (.bool true) ?_);walk_nrm;refine wv (.int .i32 1) ?_;walk_nrm;refine wv (.int .i64 1) ?_;walk_nrm;refine ww (.int .i32 1) rfl rfl gh (λ_ _=>by go_simp;try decide) (λ_ _=>by simp[go_sem]) ?_;walk_nrm;refine wu (.bool true) ?_;walk_nrm;refine wv (.bool true) ?_;walk_nrm;refine we (wt ?_);refine wr ?_;simp only[szs];(iterate 2 refine wv (.pointer (some (stC b))) ?_;walk_nrm);refine wv (.pointer (some (smC b))) ?_;walk_nrm;refine faq (p:=smC b) rfl rfl Tryz.underlying136 wgLib.room_tU32 (λu hu=>?_) rfl rfl gh ?_
  ·obtain⟨t,rfl⟩:=hu;exact⟨_,q⟩
  walk_nrm;refine fe4 ⟨.mark (.read (smC b)),false,true⟩ (.inr rfl) rfl (λu _=>f4t .read fi rfl rfl gh rfl wgLib.f_raceRead (x_raceRead_n Lw) (x_raceRead_b Lw) (x_raceRead_x Lw) (x_raceRead_f Lw) (ad:=smC b) jh) ?_;walk_nrm;refine we (wq ?_);refine wq (wr ?_);simp only[szs];refine wv (.int .i32 1) ?_;walk_nrm;refine wu (.bool false) ?_;walk_nrm;refine we (wf ?_);refine ws (wq ?_);refine wq (wr ?_);simp only[szs];refine wv (.int .u32 0) ?_;(iterate 2 walk_nrm;refine wv (.bool false) ?_);(iterate 2 walk_nrm;refine wz ?_);(iterate 2 walk_nrm;refine wv (.bool false) ?_);(iterate 4 walk_nrm;refine wz ?_);walk_nrm;refine wv (.bool false) ?_;walk_nrm;refine we (wf ?_);refine ws (wq ?_);refine wq (wr ?_);simp only[szs];refine wv (.int .i32 1) ?_;walk_nrm;refine wu (.bool true) ?_;walk_nrm;refine wv (.bool true) ?_;(iterate 2 walk_nrm;refine wz ?_);walk_nrm;refine wv (.bool true) ?_;walk_nrm;refine we (wt ?_);refine ri rfl (λ_=>f1w) ?_;refine dm .enable (.inl rfl) fi rfl wgLib.f_enable (x_enable_n Lw) (x_enable_b Lw) (x_enable_x Lw) (x_enable_f Lw) ?_;refine yo rfl rfl Tryz.func77 rfl ?_;walk_nrm;exact ug h
 ·clear hS;obtain⟨V,hV⟩: ∃V:Int,V=((m+1:Nat):Int):=⟨_,rfl⟩;rw[<- hV] at a1;have C:2<=V/\V<2000:=by omega
  clear hV;walk_nrm;refine wv (.int .u64 S) ?_;walk_nrm;refine we ?_;refine ri rfl (λ_=>f1w) ?_;refine vw (t:=4) rfl rfl Tryz.func109 rfl ?_;walk_nrm;refine wv (.int .u64 S) ?_;walk_nrm;refine we (wq ?_);refine wq (wr ?_);simp only[szs];refine wv (.int .u64 S) ?_;walk_nrm;refine wu (.int .u64 0) ?_;walk_nrm;refine wu (.bool false) ?_;walk_nrm;refine wv (.bool false) ?_;(iterate 2 walk_nrm;refine wz ?_);walk_nrm;refine wv (.bool false) ?_;walk_nrm;refine we (wf ?_);refine ws (wq ?_);refine wr ?_;simp only[szs];refine wv (.int .u64 S) ?_;walk_nrm;refine wu (.int .u64 V) ?_;walk_nrm;refine wu (.int .i32 V) ?_;walk_nrm;refine wv (.int .i32 V) ?_;walk_nrm;refine we (wq ?_);refine wr ?_;simp only[szs];refine wv (.int .u64 S) ?_;walk_nrm;refine wu (.int .u64 0) ?_;walk_nrm;refine wu (.int .u32 0) ?_;walk_nrm;refine wv (.int .u32 0) ?_;walk_nrm;refine we (wq ?_);refine wq (wr ?_);simp only[szs];refine wv (.bool true) ?_;walk_nrm;refine wv (.int .i64 1) ?_;(iterate 3 walk_nrm;refine wv (.bool true) ?_);walk_nrm;refine wv (.int .i32 V) ?_;walk_nrm;refine wv (.int .i64 1) ?_;walk_nrm;refine ww (.int .i32 1) rfl rfl gh (λ_ _=>by go_simp;try decide) (λ_ _=>by simp[go_sem]) ?_;walk_nrm;refine wu (.bool false) ?_;walk_nrm;refine wv (.bool false) ?_;walk_nrm;refine we (wf ?_);refine ws (wq ?_);refine wq (wr ?_);simp only[szs];refine wv (.int .i32 V) ?_;walk_nrm;refine wu (.bool false) ?_;walk_nrm;refine we (wf ?_);refine ws (wq ?_);refine wq (wr ?_);simp only[szs];refine wv (.int .u32 0) ?_;(iterate 2 walk_nrm;refine wv (.bool false) ?_);(iterate 2 walk_nrm;refine wz ?_);(iterate 2 walk_nrm;refine wv (.bool false) ?_);(iterate 4 walk_nrm;refine wz ?_);walk_nrm;refine wv (.bool false) ?_;walk_nrm;refine we (wf ?_);refine ws (wq ?_);refine wq (wr ?_);simp only[szs];refine wv (.int .i32 V) ?_;walk_nrm;refine wu (.bool true) ?_;walk_nrm;refine wv (.bool true) ?_;(iterate 2 walk_nrm;refine wz ?_);walk_nrm;refine wv (.bool true) ?_;walk_nrm;refine we (wt ?_);refine ri rfl (λ_=>f1w) ?_;refine dm .enable (.inl rfl) fi rfl wgLib.f_enable (x_enable_n Lw) (x_enable_b Lw) (x_enable_x Lw) (x_enable_f Lw) ?_;refine yo rfl rfl Tryz.func77 rfl ?_;walk_nrm;exact ug h
end
end Go.Proofs.YtelecjnabeokeaaGreatDoor
namespace Go.Proofs.YtelecjnabeokeaaGreatDoor
open Go Go.Conc
open Go.ConcN (sumTo upd sumTo_upd upd_ne upd_same)
section
variable {P:Program} {Φ:Array Goroutine->World->Trace->Prop} {St:Nat->Loc->Prop} {Shun:Loc->Prop} {S:Nat->Option SeatD} {a a' child:Goroutine} {T:Trace} {gs:Array Goroutine} {w:World} {q:Nat->Nat}
abbrev StN (St:Nat->Loc->Prop) (c:Nat) (L:Loc->Prop):Nat->Loc->Prop:=λg l=>St g l\/(g=c/\L l)
def Hold.hire {s:SeatD} {L:Loc->Prop} {k n:Nat} (C:Hold P St Shun u5 S 0 a T gs w q) (hD:Deaf T 0=0) (hrun:a.status=.running) (Y: ∀d,stepG P true a (w.at d)=.spawn a' child (w.at d) #[])
    (hc:w.heap[s.c]? =some (.chan 0 #[] false k k false)) (W: ∀b o,s.D b=some o-> ∃c e f,o=.cells c e f) (M:Keeps s.D w) (I: ∀i s',S i=some s'->s'.c≠s.c) (hB:s.B<=w.heap.size)
    (hL: ∀l,L l-> ¬Shun l/\l.isMemory=true) (X:Sits P false (Keeps s.D) (StN St gs.size L gs.size) s.B s.seat n child)
    (J: ∀gs' T' q' d,gs'.size=gs.size+1->Hold P (StN St gs.size L) Shun u5 (upd S gs.size (some s)) 0 a' T' gs' (w.at d) q'->Deaf T' 0=0->Leads P Φ gs' (w.at d) T'):Leads P Φ gs w T:=by
 refine C.lead' hD hrun λm T1 q1 d sl hsz R C1=>?_;have hlt:0<m.size:=(fx5.1 C1.here).1;have hr:=runT_crowd_spawn (sl:=sl) C1.here (show stepG P (0==0) a (w.at d)=_ from Y d);have e0:((MemOp.ofEvents 0 a.frame.fn a.frame.place #[]).push { g:=0,fn:=a.frame.fn,pos:=a.frame.place,act:=.go m.size }).push { g:=m.size,fn:=child.frame.fn,pos:=a.frame.place,act:=.start }=
  #[{ g:=0,fn:=a.frame.fn,pos:=a.frame.place,act:=.go m.size },{ g:=m.size,fn:=child.frame.fn,pos:=a.frame.place,act:=.start }]:=by simp[MemOp.ofEvents]
 rw[e0] at hr;refine⟨_,_,_,hr,?_⟩;generalize hu:(#[{ g:=0,fn:=a.frame.fn,pos:=a.frame.place,act:=.go m.size },{ g:=m.size,fn:=child.frame.fn,pos:=a.frame.place,act:=.start }]:Trace)=u
 have hq: ∀g,∀op∈u,∀d,deafStep g d op=d:=by
    intro g op U d;subst hu;simp only[f4b,fy3,fz8,f0z] at U;rcases U with rfl|rfl <;>rfl
 have A: ∀g,Deaf (T1++u) g=Deaf T1 g:=λg=>Deaf_quiet (hq g)
 have O:PastS (StN St gs.size L) Shun u5 (w.at d).heap.size 0 (T1++u):=by
    have:=PastS.hire (c:=m.size) (L:=L) C1.past R (C1.crew.above _ (fx8 _)) (λi t ht hw hl=>?_) (λl hl=>(hL l hl).1) a.frame.fn a.frame.place child.frame.fn
    ·rw[hu,hsz] at this;exact this.fewer λg h=>h.elim
    ·rcases C1.past.known i t ht (hL _ hl).2 with h|⟨h,_⟩|⟨h,_⟩
     ·exact h
     ·rw[h] at hw;cases hw
     ·exact absurd h (hL _ hl).1
 have hS: ∀i s',upd S gs.size (some s) i=some s'->(i=gs.size/\s'=s)\/(i≠gs.size/\S i=some s'):=λi s' h=>by
    by_cases e:i=gs.size
    ·subst e;rw[f0b] at h;exact .inl ⟨rfl,(fy7 h).symm⟩
    ·rw[f0p S _ e] at h;exact .inr ⟨e,h⟩
 refine J _ _ (upd q1 gs.size n) d (by simp[hsz]) ⟨⟨λx y hx hy=>?_,λi s' h=>?_,λi s' b o h=>?_,λi s' h=>?_,λi i' s1 s2 h1 h2 he=>?_,λi s' h=>?_,λi s' h=>?_,λj hj=>?_⟩,?_,O,λi h=>h.elim,?_⟩ (by rw[A];exact R)
 ·by_cases e:x=gs.size
  ·subst e;rw[f05,f02 (by simp[hsz])] at hy;obtain rfl:=fy7 hy;rw[f0b,f0b];have aa:(gs.size==0)=false:=by simp only[beq_eq_false_iff_ne,ne_eq];exact hx
   show Sits P (gs.size==0) _ _ _ _ _ _;rw[aa];exact X
  ·rw[f05,fx9 (by simp[hsz,e]),fy4 (λz=>hx z.symm)] at hy;have hi:=C1.crew.idle x y hx hy;rw[f0p S _ e,f0p q1 _ e];cases es:S x with
   | none=>rw[es] at hi;exact⟨hi.1,by rw[A];exact hi.2⟩
   | some s'=>rw[es] at hi;exact fb0 (λl hl=>.inl hl) hi
 ·rcases hS i s' h with⟨_,rfl⟩|⟨_,h⟩
  ·exact⟨k,hc⟩
  ·exact C1.crew.chans i s' h
 ·intro ho;rcases hS i s' h with⟨_,rfl⟩|⟨_,h⟩
  ·exact W b o ho
  ·exact C1.crew.rows i s' b o h ho
 ·rcases hS i s' h with⟨_,rfl⟩|⟨_,h⟩
  ·exact M
  ·exact C1.crew.keeps i s' h
 ·rcases hS i s1 h1 with⟨e1,e2⟩|⟨e1,h3⟩
  ·rcases hS i' s2 h2 with⟨e3,_⟩|⟨_,h4⟩
   ·omega
   ·rw[e2] at he;exact absurd he.symm (I i' s2 h4)
  ·rcases hS i' s2 h2 with⟨_,e4⟩|⟨_,h4⟩
   ·rw[e4] at he;exact absurd he (I i s1 h3)
   ·exact C1.crew.inj i i' s1 s2 h3 h4 he
 ·rcases hS i s' h with⟨_,rfl⟩|⟨_,h⟩
  ·exact⟨hB,(fx5.1 hc).1⟩
  ·exact C1.crew.low i s' h
 ·rw[A];rcases hS i s' h with⟨rfl,rfl⟩|⟨_,h⟩
  ·exact C1.crew.above _ fe
  ·exact C1.crew.hear i s' h
 ·rw[A];simp only[f2a,f00] at hj;exact C1.crew.above j fe
 ·rw[f05,fx9 ja];exact fy5 hlt
 ·rw[f0p S _ fe];exact C1.none
end
end Go.Proofs.YtelecjnabeokeaaGreatDoor
namespace Go.Proofs.YtelecjnabeokeaaGreatDoor
open Go Go.Conc Go.RowKit
abbrev fmx (n:Nat):Deferred:={ target:=.fn (.func 78) #[.pointer (some ⟨n,0,none⟩),.pointer (some ⟨n+1,0,none⟩)],args:=#[] }
abbrev fci (n:Nat):Array Value:=#[.pointer (some ⟨n,0,none⟩),.pointer (some ⟨n+1,0,none⟩)]
def boxD (n b c:Nat):Nat->Option Obj:=λx=>if x=n then some (.cells #[.pointer (some ⟨b,0,none⟩)] 26 (0,0)) else if x=n+1 then some (.cells #[.chan (some c)] 78 (0,0)) else none
def boxL (n:Nat) (l:Loc):Prop:=l=.cell ⟨n,0,none⟩\/l=.cell ⟨n+1,0,none⟩
noncomputable def vc (n b c:Nat):SeatD:={ c:=c,z:=.nilFunc,ok:=true,D:=boxD n b c,B:=n+2,home:=fbr [dcall 79 #[.pointer (some (stC b))]] [fau] c }
def fog (n:Nat) (main:Bool) (w:World):stepG Tryz.prog main (born Tryz.prog (fmx n)) w=.go (G (Frame.enter Tryz.prog 78 (fci n) .deferred) [fau]) w #[]:=by
 have h1: ¬Tryz.f78.name= "runtime.NumGoroutine" :=by decide
 obtain⟨c,h2⟩: ∃c,Tryz.f78.body=some c:=⟨_,rfl⟩;simp[born,stepG,unwind,callDeferred,invoke,callFunc,Tryz.func78,h1,h2,GStep.after,seen_none,G,fau]
section
variable {Still:Loc->Prop} {n b c B:Nat}
def fmy {w:World} (h:Keeps (boxD n b c) w):w.cell? ⟨n,0,none⟩=some (.pointer (some ⟨b,0,none⟩)):=by
 have:=h n _ (by simp[boxD];rfl);simp[World.cell?,this]
def fmz {w:World} (h:Keeps (boxD n b c) w):w.cell? ⟨n+1,0,none⟩=some (.chan (some c)):=by
 have:=h (n+1) _ (by simp[boxD];rfl);simp[World.cell?,this]
def frh {p:Addr} (hS:Still (.cell p)) (hB:p.block<B):EvC Still B ⟨.cell p,false,false⟩:=⟨p,rfl,hS,hB⟩
def fri (hS: ∀l,boxL n l->Still l):Sits Tryz.prog false (Keeps (vc n b c).D) Still (vc n b c).B (vc n b c).seat 17 (born Tryz.prog (fmx n)):=by
 refine .inl ⟨16,default,rfl,?_⟩;refine fe8 rfl (λw=>fog n false w) ?_;rw[enter_at Tryz.func78 rfl];simp only[show Tryz.f78.ntmps=12 from rfl];walk_nrm;refine fqv (fa8 ?_);simp only[szs];refine fj9 (x:=.pointer (some ⟨b,0,none⟩)) rfl rfl gh (λw hw=>by have:=fmy hw;go_simp) (λw hw e he=>by have:=fmy hw;simp[go_sem,this] at he;subst he;exact frh (hS _ (.inl rfl)) (by show n<n+2;omega)) ?_;walk_nrm;refine fj9 (x:=.pointer (some ⟨b,0,none⟩)) rfl rfl gh (λw hw=>by go_simp) (λw hw e he=>by simp[go_sem] at he) ?_;walk_nrm;refine fj9 (x:=.pointer (some (stC b))) rfl rfl gh (λw hw=>by go_simp) (λw hw e he=>by simp[go_sem] at he) ?_;walk_nrm;refine fe8 rfl (λw=>stepG_defer rfl rfl gh rfl) ?_;walk_nrm;refine fj8 (fqv (fa8 ?_));simp only[szs];refine fj9 (x:=.chan (some c)) rfl rfl gh (λw hw=>by have:=fmz hw;go_simp) (λw hw e he=>by have:=fmz hw;simp[go_sem,this] at he;subst he;exact frh (hS _ (.inr rfl)) (by show n+1<n+2;omega)) ?_;walk_nrm;refine fj8 (fe8 rfl (λ_=>f5i) (fe8 rfl (λ_=>stepG_loop) ?_));refine fqv (fa8 (Goes.stop λw h=>⟨_,atIn_of (s:=(vc n b c).seat) (i:=0) (rest:=[1]) rfl rfl fu (λw=>?_) (λw=>?_) ⟨_,rfl,rfl,rfl,rfl⟩⟩))
 ·rw[<- f0d _ _ _ #[],mg (t:=78) (y:=.tmp 6) (ok:=true) rfl Tryz.underlying78 (Tryz.zero1 w)];rfl
 ·show(Sem.runT _ _ w #[]).2=_;rw[mg (t:=78) (y:=.tmp 6) (ok:=true) rfl Tryz.underlying78 (Tryz.zero1 w)]
end
def ve (w:World) (b k m:Nat):World:=((w.alloc (.cells #[.pointer (some ⟨b,0,none⟩)] 26)).alloc (.cells #[.chan (some k)] 78)).setCell (stC b) (.int .u64 ((m+1:Nat)*K32))
noncomputable abbrev goOps:Array Oper:=cOps (cR (cR (zw Tryz.f37)))
noncomputable def fej (b k n:Nat) (rest:List Nat):Frame:=(base 37).at ⟨#[.pointer (some ⟨b,0,none⟩),.chan (some k),.pointer (some ⟨n,0,none⟩),.pointer (some ⟨n+1,0,none⟩),.pointer (some ⟨b,0,none⟩),.pointer (some ⟨b,0,none⟩),.pointer (some (stC b)),.tuple #[],.func (.func 78) #[] (fci n)],[]⟩ [.inRegion goOps rest]
section
variable {main:Bool} {H:Hide} {Shun:Loc->Prop} {Φ:Goroutine->World->Nat->Prop} {w:World} {X:Frame} {cs:List Frame} {b k m:Nat}
def foh {c:Array Value} {e:TypeId} (hb:w.heap[b]? =some (.cells c e (0,0))):(ve w b k m).heap[b]? =some (.cells (c.setIfInBounds 6 (.int .u64 ((m+1:Nat)*K32))) e (0,0)):=by
 have hlt:b<w.heap.size:=(fx5.1 hb).1;unfold ve;simp only[World.setCell,World.alloc,fy6,f05,f0e,f2a];rw[fx9 fe,fx9 fe,hb];rfl
def dq {x:Nat} (hx:x≠b) (hlt:x<w.heap.size):(ve w b k m).heap[x]? =w.heap[x]? :=by
 unfold ve;simp only[World.setCell,World.alloc,fy6,f05,f2a];rw[fx9 (f3w hx),fx9 fe,fx9 fe]
def fg6 (hb:b<w.heap.size):Keeps (boxD w.heap.size b k) (ve w b k m):=by
 intro x o hx;unfold boxD at hx;unfold ve;simp only[World.setCell,World.alloc,fy6,f05,f2a];split at hx
 ·rename_i e;subst e;cases hx;rw[fx9 fe,fx9 fe,f02 rfl]
 ·split at hx
  ·rename_i e1 e;subst e;cases hx;rw[fx9 fe,f02 rfl]
  ·cases hx
def oh:(ve w b k m).heap.size=w.heap.size+2:=by
 unfold ve;simp only[World.setCell,World.alloc,f5u,f2a]
def fui {b₀:Frame} {a₀:Act} {k₀:List Item} {ops₀:Array Oper} {i₀:Nat} {rest₀:List Nat} {args:Array Value} {c:Array Value} {e:TypeId} {y:Int} (ha:args=#[.pointer (some (stC b)),.int .i64 1]) (hH:H b=none) (hb:w.heap[b]? =some (.cells c e (0,0))) (hsz:c.size=8) (h6:c[6]? =some (.int .u64 ((m:Nat)*K32))) (h7:c[7]? =some (.int .u32 y)) (hm:m<1000)
    (h:OG Tryz.prog main H Shun Φ (G (b₀.at (a₀.put ((ops₀[i₀]?).bind (·.dst)) (.tuple #[])) (.inRegion ops₀ rest₀::k₀)) cs) (w.setCell (stC b) (.int .u64 ((m+1:Nat)*K32))) 0):
    OG Tryz.prog main H Shun Φ (G (Frame.enter Tryz.prog 77 args .normal) (b₀.at a₀ (.inRegion ops₀ (i₀::rest₀)::k₀)::cs)) w 0:=by
 subst ha;rw[enter_at Tryz.func77 rfl,show Tryz.f77.ntmps-(#[Value.pointer (some (stC b)),Value.int .i64 1]).size=115 from rfl];exact og_add1 hH hb hsz h6 h7 hm rfl h
def fuj {c:Array Value} {e:TypeId} {y:Int} (hH:H b=none) (j: ∀x,H x≠none->x<w.heap.size) (hb:w.heap[b]? =some (.cells c e (0,0))) (hsz:c.size=8) (h6:c[6]? =some (.int .u64 ((m:Nat)*K32))) (h7:c[7]? =some (.int .u32 y)) (hm:m<1000)
    (h:OG Tryz.prog main H Shun Φ (G (fej b k w.heap.size [1]) (X::cs)) (ve w b k m) 0):OG Tryz.prog main H Shun Φ (G (Frame.enter Tryz.prog 37 #[.pointer (some ⟨b,0,none⟩),.chan (some k)] .normal) (X::cs)) w 0:=by
 have hlt:b<w.heap.size:=(fx5.1 hb).1;rw[enter_at Tryz.func37 rfl];simp only[show Tryz.f37.ntmps=9 from rfl];walk_nrm;refine uv (rm ?_);simp only[szs];obtain⟨s1,s2,s3⟩:=fa6 j (.cells #[.pointer (some ⟨b,0,none⟩)] 26);refine qz (x:=.pointer (some ⟨w.heap.size,0,none⟩)) (w1:=w.alloc (.cells #[.pointer (some ⟨b,0,none⟩)] 26)) rfl rfl gh (λd=>by clear h;go_simp;rfl) s1 s2 (λd e he=>by simp[go_sem] at he) ?_;walk_nrm;have e1:=xd w (.cells #[.pointer (some ⟨b,0,none⟩)] 26);obtain⟨u,hu⟩: ∃u,u=w.alloc (.cells #[.pointer (some ⟨b,0,none⟩)] 26):=⟨_,rfl⟩;have hW:ve w b k m=(u.alloc (.cells #[.chan (some k)] 78)).setCell (stC b) (.int .u64 ((m+1:Nat)*K32)):=by rw[hu];rfl
 rw[hW] at h;rw[<- hu] at e1 s3 ⊢;have D:u.heap[b]? =some (.cells c e (0,0)):=by rw[hu];simp only[World.alloc,f05];rw[fx9 fe];exact hb
 have I:u.heap[w.heap.size]? =some (.cells #[.pointer (some ⟨b,0,none⟩)] 26 (0,0)):=by rw[hu];simp only[World.alloc,f05,f0e]
 have C:H w.heap.size=none:=by
    cases e:H w.heap.size with
    | none=>rfl
    | some o=>have:=j w.heap.size pb;omega
 clear hu hW s1 s2;obtain⟨t1,t2,t3⟩:=fa6 s3 (.cells #[.chan (some k)] 78);refine qz (x:=.pointer (some ⟨u.heap.size,0,none⟩)) (w1:=u.alloc (.cells #[.chan (some k)] 78)) rfl rfl gh (λd=>by clear h;go_simp;rfl) t1 t2 (λd e he=>by simp[go_sem] at he) ?_;rw[e1];walk_nrm;have e2:=xd u (.cells #[.chan (some k)] 78);have q:(u.alloc (.cells #[.chan (some k)] 78)).heap[b]? =some (.cells c e (0,0)):=by simp only[World.alloc,f05];rw[fx9 fe];exact D
 have B:(u.alloc (.cells #[.chan (some k)] 78)).heap[w.heap.size]? =some (.cells #[.pointer (some ⟨b,0,none⟩)] 26 (0,0)):=by simp only[World.alloc,f05];rw[fx9 fe];exact I
 generalize u.alloc (.cells #[.chan (some k)] 78)=u2 at*;have A: ∀d,(u2.at d).cell? ⟨w.heap.size,0,none⟩=some (.pointer (some ⟨b,0,none⟩)):=λd=>by show u2.cell? _=_;simp[World.cell?,B]
 clear t1 t2;refine u7 (uv (rm ?_));simp only[szs];refine qz (x:=.pointer (some ⟨b,0,none⟩)) (w1:=u2) rfl rfl gh (λd=>by have:=A d;clear h;go_simp) (fx8 _) (λ_ _=>rfl) (λd e he=>by simp[go_sem,A] at he;subst he;exact⟨xh C (by show w.heap.size<u2.heap.size;omega) _ _,by simp[vl]⟩) ?_;walk_nrm;refine qz (x:=.pointer (some ⟨b,0,none⟩)) (w1:=u2) rfl rfl gh (λd=>by clear h;go_simp) (fx8 _) (λ_ _=>rfl) (λd e he=>by simp[go_sem] at he) ?_;walk_nrm;refine qz (x:=.pointer (some (stC b))) (w1:=u2) rfl rfl gh (λd=>by clear h;go_simp) (fx8 _) (λ_ _=>rfl) (λd e he=>by simp[go_sem] at he) ?_;walk_nrm;refine flb rfl rfl gh rfl Tryz.func77 fd rfl ?_;refine fui jh hH q hsz h6 h7 hm ?_;walk_nrm;refine u7 (rm ?_);simp only[szs];refine qz (x:=.func (.func 78) #[] (fci w.heap.size)) (w1:=u2.setCell (stC b) (.int .u64 ((m+1:Nat)*K32))) rfl rfl gh (λd=>by clear h;go_simp) (fx8 _) (λ_ _=>rfl) (λd e he=>by have he:e∈(#[]:Array Event):=he;simp at he) ?_;walk_nrm;exact h
end
open Go.ConcN (sumTo upd sumTo_upd upd_ne upd_same)
structure StartV (b k m:Nat) (v v':World):Prop where
 size:v'.heap.size=v.heap.size+2
 ses: ∀c e,v.heap[b]? =some (.cells c e (0,0))->v'.heap[b]? =some (.cells (c.setIfInBounds 6 (.int .u64 ((m+1:Nat)*K32))) e (0,0))
 mark:v'.heap[k]? =some (.chan 1 #[.bool true] false 0 0 true)
 same: ∀x,x<v.heap.size->x≠b->x≠k->v'.heap[x]? =v.heap[x]?
 os:v'.os=v.os
 output:v'.output=v.output
section
variable {b k m:Nat} {WS:Nat->Option SeatD} {H:Hide} {Shun:Loc->Prop} {St:Nat->Loc->Prop} {S:Nat->Option SeatD} {v w:World} {X:Frame} {cs:List Frame} {gs:Array Goroutine} {q:Nat->Nat} {T:Trace}
 {Φ:Array Goroutine->World->Trace->Prop}
def fw7 (m:Nat):Obj->Obj
 | .cells c e f=>.cells (c.setIfInBounds 6 (.int .u64 ((m+1:Nat)*K32))) e f
 | o=>o
def dt (v:World) (b k m:Nat):World:={ v with heap:=(((v.heap.push (.cells #[] 26)).push (.cells #[] 78)).modify b (fw7 m)).setIfInBounds k (.chan 1 #[.bool true] false 0 0 true) }
noncomputable abbrev goOp:Oper:={ dst:=none,op:=.go { callee:=.value (.tmp 8),args:=#[],argTypes:=#[] },type:=0,pos:= "coedit.go:96",after:=#[{ on:=0,ground:=.data }],guard:=none }
def cn (H:Hide) (n k:Nat) (u:World):Hide:=⟨λx=>if x=n then some (.cells #[] 26) else if x=n+1 then some (.cells #[] 78) else if x=k then some (.chan 1 #[.bool true] false 0 0 true) else H x,λx=>u.heap[x]?,H.on⟩
def f6q {x:Nat} (hk:k<v.heap.size):(dt v b k m).heap[x]? =if x=k then some (Obj.chan 1 #[.bool true] false 0 0 true) else if x=b then (((v.heap.push (.cells #[] 26)).push (.cells #[] 78))[x]?).map (fw7 m) else ((v.heap.push (.cells #[] 26)).push (.cells #[] 78))[x]? :=by
 unfold dt;simp only[fy1,f5u,f2a,fy6];by_cases e:k=x
 ·subst e;simp only[f0e];rw[f02 fe]
 ·simp only[fx9 e,fx9 (f3w e)];by_cases e2:b=x
  ·subst e2;simp only[f0e]
  ·simp only[fx9 e2,fx9 (f3w e2)]
def dw {x:Nat} {a:Array Obj} {o o':Obj}:((a.push o).push o')[x]? =if x=a.size+1 then some o' else if x=a.size then some o else a[x]? :=by
 simp only[f05,f2a]
def mi {x:Nat} (hk:k<v.heap.size) (hx:x<v.heap.size) (hb:x≠b) (j:x≠k):(dt v b k m).heap[x]? =v.heap[x]? :=by
 rw[f6q hk,fx9 j,fx9 hb,dw,fx9 fe,fx9 fe]
def fb2 {c:Array Value} {e:TypeId} (hk:k<v.heap.size) (j:k≠b) (hb:v.heap[b]? =some (.cells c e (0,0))):(dt v b k m).heap[b]? =some (.cells (c.setIfInBounds 6 (.int .u64 ((m+1:Nat)*K32))) e (0,0)):=by
 have hlt:b<v.heap.size:=(fx5.1 hb).1;rw[f6q hk,fx9 (f3w j),f02 rfl,dw,fx9 fe,fx9 fe,hb];rfl
def frj (hk:k<v.heap.size) (j:k≠b):StartV b k m v (dt v b k m) where
 size:=by simp[dt]
 ses:=λc e h=>fb2 hk j h
 mark:=by rw[f6q hk,f02 rfl]
 same:=λx hx h1 h2=>mi hk hx h1 h2
 os:=rfl
 output:=rfl
def frk {c:Array Value} {e:TypeId} {kk d:Nat} (rel:Rel H v w) (A:H b=none) (hb:v.heap[b]? =some (.cells c e (0,0))) (hk:k<v.heap.size) (q:k≠b) (I:w.heap[k]? =some (.chan 0 #[] false kk kk false)):
    Rel (cn H v.heap.size k ((ve w b k m).at d)) (dt v b k m) ((ve w b k m).at d):=by
 have B:b<v.heap.size:=(fx5.1 hb).1;have D:w.heap[b]? =some (.cells c e (0,0)):=by rw[<- rel.same b A];exact hb
 have hu: ∀x:Nat,((ve w b k m).at d).heap[x]? =(ve w b k m).heap[x]? :=λx=>rfl;have j:=fg6 (w:=w) (b:=b) (k:=k) (m:=m) (by rw[<- rel.size];exact B);have J:(ve w b k m).heap[v.heap.size]? =some (.cells #[.pointer (some ⟨b,0,none⟩)] 26 (0,0)):=j _ _ (by rw[rel.size];simp[boxD]);have M:(ve w b k m).heap[v.heap.size+1]? =some (.cells #[.chan (some k)] 78 (0,0)):=j _ _ (by rw[rel.size];simp[boxD]);refine⟨?_,λx hx=>?_,λx o hx=>?_,rel.os,rel.output,λx o hx=>?_,λx o hx=>rfl,λO x o hx ho=>?_⟩
 ·show(dt v b k m).heap.size=(ve w b k m).heap.size;rw[oh,<- rel.size];simp[dt]
 ·simp only [cn] at hx;split at hx
  ·cases hx
  ·rename_i h1;split at hx
   ·cases hx
   ·rename_i h2;split at hx
    ·cases hx
    ·rename_i h3;rw[hu];by_cases h4:x=b
     ·subst h4;rw[fb2 hk q hb,foh D]
     ·rcases f01 x v.heap.size with h5|h5
      ·rw[mi hk h5 h4 h3,dq h4 (by rw[<- rel.size];exact h5)];exact rel.same x hx
      ·rw[f09 (by simp[dt];omega),f09 (by rw[oh,<- rel.size];omega)]
 ·simp only[cn] at hx;rw[hu];split at hx
  ·rename_i h1;subst h1;cases hx;refine⟨?_,.inl ⟨26,_,rfl,J⟩⟩;rw[f6q hk,fx9 fe,fx9 fe,dw,fx9 fe,f02 rfl]
  ·rename_i h1;split at hx
   ·rename_i h2;subst h2;cases hx;refine⟨?_,.inl ⟨78,_,rfl,M⟩⟩;rw[f6q hk,fx9 fe,fx9 fe,dw,f02 rfl]
   ·rename_i h2;split at hx
    ·rename_i h3;subst h3;cases hx;refine⟨by rw[f6q hk,f02 rfl],.inr (.inr ⟨mkC #[.bool true] 0 0,kk,rfl,?_⟩)⟩;rw[dq q (by rw[<- rel.size];exact hk)];exact I
    ·rename_i h3;obtain⟨h5,h6⟩:=rel.laid x o hx;have C:x<v.heap.size:=(fx5.1 h5).1;have h4:x≠b:=λe=>by subst e;rw[A] at hx;cases hx
     rw[mi hk C h4 h3,dq h4 (by rw[<- rel.size];exact C)];exact⟨h5,h6⟩
 ·rw [f6q hk] at hx;split at hx
  ·cases hx;rfl
  ·split at hx
   ·rename_i h2;subst h2;rw[dw,fx9 fe,fx9 fe,hb] at hx;cases hx;rfl
   ·rw[dw] at hx;split at hx
    ·cases hx;rfl
    ·split at hx
     ·cases hx;rfl
     ·exact rel.objs x o hx
 ·simp only [cn] at hx;split at hx
  ·cases hx
  ·rename_i h1;split at hx
   ·cases hx
   ·rename_i h2;split at hx
    ·cases hx
    ·rename_i h3;by_cases h4:x=b
     ·subst h4;rw[fb2 hk q hb] at ho;cases ho;rfl
     ·rcases f01 x v.heap.size with h5|h5
      ·rw[mi hk h5 h4 h3] at ho;exact rel.chans O x o hx ho
      ·rw[f09 (by simp[dt];omega)] at ho;cases ho
def foi (rel:Rel H v w) (hk:v.heap[k]? =some (.chan 0 #[] false 0 0 false)): ∃kk,w.heap[k]? =some (.chan 0 #[] false kk kk false):=by
 cases e:H k with
 | none=>exact⟨0,by rw[<- rel.same k e];exact hk⟩
 | some o=>
   obtain⟨h1,h2⟩:=rel.laid k o e;rw[hk] at h1;obtain rfl:=fy7 h1;rcases h2 with⟨e,c,h,_⟩|⟨h,_⟩|⟨x,kk,h,h3⟩
   ·cases h
   ·cases h
   ·refine⟨kk,?_⟩;have j:x.tm=false:=by injection h with _ _ _ _ _ h6;exact h6.symm
    rcases x.ok with⟨_,_,_,_,h7⟩|⟨_,h7,_⟩
    ·rw[h3,<- h7,j]
    ·rw[j] at h7;cases h7
def fuk {Fx : Nat->Option (Obj×Option Obj)} (an:fug Fx) {c:Array Value} {e:TypeId} (hlt: ∀j s,WS j=some s->j<gs.size) (hb:v.heap[b]? =some (.cells c e (0,0))) (hsz:c.size=8) (h6:c[6]? =some (.int .u64 ((m:Nat)*K32))) (h7:c[7]? =some (.int .u32 0)) (hm:m<1000) (hk:v.heap[k]? =some (.chan 0 #[] false 0 0 false))
    (aC: ∀j s,WS j=some s->s.c≠k) (I:Inv WS Fx vb H S St Shun v w) (C:Hold Tryz.prog St Shun u5 S 0 (G (Frame.enter Tryz.prog 37 #[.pointer (some ⟨b,0,none⟩),.chan (some k)] .normal) (X::cs)) T gs w q) (hD:Deaf T 0=0)
    (M: ∀v' w' H' S' St' gs' T' q',StartV b k m v v'->Inv (upd WS gs.size (some (vc v.heap.size b k))) Fx vb H' S' St' Shun v' w'->gs'.size=gs.size+1->Hold Tryz.prog St' Shun u5 S' 0 (G (ur .normal (.tuple #[]) X) cs) T' gs' w' q'->Deaf T' 0=0->Leads Tryz.prog Φ gs' w' T'):
    Leads Tryz.prog Φ gs w T:=by
 have J:H b=none:=I.rel.hidden_cell (a:=⟨b,6,none⟩) (x:=.int .u64 ((m:Nat)*K32)) (by simp only[World.cell?,hb];simpa using h6);have ap:w.heap[b]? =some (.cells c e (0,0)):=by rw[<- I.rel.same b J];exact hb
 have B:k<v.heap.size:=(fx5.1 hk).1;have O:k≠b:=λe=>by subst e;rw[hb] at hk;cases hk
 obtain⟨kk,ac⟩:=foi I.rel hk
 have A: ∀x,H x≠none->x<w.heap.size:=λx hx=>by
    cases e:H x with
    | none=>exact absurd e hx
    | some o=>rw[<- I.rel.size];exact(fx5.1 (I.rel.laid x o e).1).1
 have W: ∀j s,S j=some s->WS j=some s:=λj s h=>(I.only j s h).resolve_right fi
 have U: ∀x y,Fx x=some y->x≠k:=λx y hx e=>by
    subst e;have hv:=(I.rel.laid x _ (I.fix x y hx).1).1;rw[hk] at hv;exact an x y hx _ _ _ _ _ _ (fy7 hv).symm
 refine(C.og I.prot (fuj (k:=k) (m:=m) (Φ:=λg w' d=>g=G (fej b k w.heap.size [1]) (X::cs)/\(∃d',w'=(ve w b k m).at d')/\d=0) J A ap hsz h6 h7 hm (.now λd=>⟨rfl,⟨d,rfl⟩,rfl⟩)) hD).trans λaG w1 T1 hh=>?_;obtain⟨a',q',⟨rfl,⟨d',rfl⟩,aA⟩,hsz1,C1⟩:=hh;have aa:=fg6 (w:=w) (b:=b) (k:=k) (m:=m) (by rw[<- I.rel.size];exact(fx5.1 hb).1);have ad:(ve w b k m).heap[k]? =some (.chan 0 #[] false kk kk false):=by rw[dq O (by rw[<- I.rel.size];exact B)];exact ac
 have R: ∀l,boxL w.heap.size l-> ¬Shun l/\l.isMemory=true:=λl hl=>by
    have: ∀a:Addr,l=.cell a->w.heap.size<=a.block-> ¬Shun l:=λa ha aJ hs=>by
     obtain⟨a2,Y,hh⟩:=I.prot.shun l hs;rw[ha] at Y;cases Y;have:=A _ hh;omega
    rcases hl with rfl|rfl
    ·exact⟨this _ rfl fi,rfl⟩
    ·exact⟨this _ rfl fi,rfl⟩
 refine Hold.hire (s:=vc w.heap.size b k) (L:=boxL w.heap.size) (k:=kk) (n:=17) (a':=G (fej b k w.heap.size []) (X::cs)) (child:=born Tryz.prog (fmx w.heap.size)) C1 aA rfl (λd=>?_) ad (λx o ho=>?_) (λx o ho=>aa x o ho) (λi s' h=>aC i s' (W i s' h)) (by show w.heap.size+2<=((ve w b k m).at d').heap.size;rw[show((ve w b k m).at d').heap.size=(ve w b k m).heap.size from rfl,oh];exact fx8 _) R (fri λl hl=>.inr ⟨rfl,hl⟩) ?_
 ·unfold fej;rw[stepG_spawn (o:=goOp) (f:=.func 78) (c:=fci w.heap.size) (d:=fmx w.heap.size) rfl rfl gh (w':=((ve w b k m).at d').at d) gw rfl,listed_none jg];rfl
 ·change boxD w.heap.size b k x=some o at ho;unfold boxD at ho;split at ho
  ·cases ho;exact⟨_,_,_,rfl⟩
  ·split at ho
   ·cases ho;exact⟨_,_,_,rfl⟩
   ·cases ho
 ·intro aH T2 q2 d2 ah C2 ak;rw[hsz1] at ah C2;have hrel:=frk (m:=m) (d:=d2) I.rel J hb B O ac;have D: ∀x,H x≠none->cn H v.heap.size k ((ve w b k m).at d2) x≠none:=λx hx=>by
   simp only[cn];split
   ·simp
   ·split
    ·simp
    ·split
     ·simp
     ·exact hx
  have I' : Inv (upd WS gs.size (some (vc v.heap.size b k))) Fx vb (cn H v.heap.size k ((ve w b k m).at d2)) (upd S gs.size (some (vc w.heap.size b k))) (StN St gs.size (boxL w.heap.size)) Shun (dt v b k m) ((ve w b k m).at d2):=by
   refine⟨hrel,⟨λi s h=>?_,λg l hl=>?_,λl hl=>?_⟩,I.on,λx y hx=>?_,λ_ _ h=>je,λi s h=>?_,λx cap buf cl s q hx ab=>?_,λg l hl=>?_⟩
   ·by_cases e:i=gs.size
    ·subst e;rw[f0b] at h;cases h;refine⟨by simp only[cn,vc];split <;>(try split) <;>simp,λx o ho=>?_⟩;change boxD w.heap.size b k x=some o at ho;unfold boxD at ho;rw[<- I.rel.size] at ho;simp only[cn];split at ho
     ·rename_i h1;rw[f02 h1];simp
     ·rename_i h1;split at ho
      ·rename_i h2;rw[fx9 h1,f02 h2];simp
      ·cases ho
    ·rw[f0p S _ e] at h;obtain⟨h1,h2⟩:=I.prot.seats i s h;exact⟨D _ h1,λx o ho=>D _ (h2 x o ho)⟩
   ·rcases hl with hl|⟨_,hl⟩
    ·obtain⟨a,ha,hh⟩:=I.prot.still g l hl;exact⟨a,ha,D _ hh⟩
    ·rcases hl with rfl|rfl
     ·exact⟨_,rfl,by simp[cn,I.rel.size]⟩
     ·exact⟨_,rfl,by simp[cn,I.rel.size]⟩
   ·obtain⟨a,ha,hh⟩:=I.prot.shun l hl;exact⟨a,ha,D _ hh⟩
   ·obtain⟨e1,e2⟩:=I.fix x y hx;have ae:x<v.heap.size:=by rw[I.rel.size];exact A x (by rw[e1];simp)
    have aE:x≠k:=λh=>U x y hx h;have aD:x≠b:=λh=>by rw[h,J] at e1;cases e1
    refine⟨by simp only[cn];rw[fx9 fe,fx9 fe,fx9 aE];exact e1,?_⟩;show((ve w b k m).at d2).heap[x]? =_;rw[show((ve w b k m).at d2).heap=(ve w b k m).heap from rfl,dq aD (by rw[<- I.rel.size];exact ae),I.rel.kept x _ e1];exact e2
   ·by_cases e:i=gs.size
    ·subst e;rw[f0b] at h;rw[f0b,I.rel.size];exact .inl h
    ·rw[f0p S _ e] at h;rw[f0p WS _ e];exact .inl (W i s h)
   ·simp only[cn] at hx;split at hx
    ·cases hx
    ·split at hx
     ·cases hx
     ·split at hx
      ·rename_i h3;subst h3;cases hx
       exact⟨rfl,gs.size,_,f0b _ _ _,rfl,by rw[f0b,I.rel.size],rfl,(by cases e:Fx x with
         | none=>rfl
         | some y=>exact absurd rfl (U x y e))⟩
      ·obtain⟨h1,j,s',h3,h4,h5,h8,h9⟩:=I.marks x cap buf cl s q hx ab;have hj:j≠gs.size:=λe=>by have:=hlt j s' h3;omega
       exact⟨h1,j,s',by rw[f0p WS _ hj];exact h3,h4,by rw[f0p S _ hj];exact h5,h8,h9⟩
   ·rcases hl with hl|⟨rfl,_⟩
    ·by_cases e:g=gs.size
     ·subst e;exact .inr (.inl (by rw[f0b];simp))
     ·rcases I.who g l hl with h1|h1|h1
      ·exact .inl h1
      ·exact .inr (.inl (by rw[f0p WS _ e];exact h1))
      ·exact absurd rfl h1
    ·exact .inr (.inl (by rw[f0b];simp))
  refine(C2.og I'.prot (Φ:=λg w' d=>g=G (ur .normal (.tuple #[]) X) cs/\(∃d',w'=(ve w b k m).at d')/\d=0) (k:=0) ?_ ak).trans λaI w3 T3 hh=>?_
  ·unfold fej;exact u7 (fiu (ze (.inl rfl) rfl Tryz.func37 (f2z Tryz.results37 _) (.now λd=>⟨rfl,⟨d,rfl⟩,rfl⟩)))
  ·obtain⟨a3,q3,⟨rfl,⟨d3,rfl⟩,aB⟩,aF,C3⟩:=hh;have I3:Inv (upd WS gs.size (some (vc v.heap.size b k))) Fx vb (cn H v.heap.size k ((ve w b k m).at d2)) (upd S gs.size (some (vc w.heap.size b k))) (StN St gs.size (boxL w.heap.size)) Shun (dt v b k m) ((ve w b k m).at d3):=I'.step (I'.rel.re _ _);exact M _ _ _ _ _ _ _ _ (frj B O) I3 fe C3 aB
end
structure Goal where
 at_:Array Goroutine->World->Trace->Prop
 fx:Nat->Option (Obj×Option Obj)
 ok:fug fx
def fha (Fx:Nat->Option (Obj×Option Obj)) (WS:Nat->Option SeatD) (Shun:Loc->Prop) (v:World) (g:Goroutine) (gs:Array Goroutine) (w:World) (T:Trace):Prop:=
 ∃H S St q,(∀j s,WS j=some s->j<gs.size)/\Inv WS Fx vb H S St Shun v w/\Hold Tryz.prog St Shun u5 S 0 g T gs w q/\Deaf T 0=0
def Co (Φ:Goal) (WS:Nat->Option SeatD) (Shun:Loc->Prop) (v:World) (N:Nat) (g:Goroutine):Prop:=
 ∀gs w T,gs.size=N->fha Φ.fx WS Shun v g gs w T->Leads Tryz.prog Φ.at_ gs w T
def KV (v u:World):Prop:= ∀p x,v.cell? p=some x->u.cell? p=some x
def EvV (v:World) (e:Event):Prop:= ∃p x,e=⟨.cell p,false,false⟩/\v.cell? p=some x
section
variable {Φ:Goal} {WS:Nat->Option SeatD} {Shun:Loc->Prop} {v:World} {N:Nat} {g:Goroutine} {cs:List Frame} {X:Frame}
def co_wk (h:WKE Tryz.prog true (KV v) (EvV v) (λg d=>d=0/\Co Φ WS Shun v N g) g 0):Co Φ WS Shun v N g:=by
 rintro gs w T hN ⟨H,S,St,q,hlt,I,C,hD⟩
 have B:OG Tryz.prog (0==0) H Shun (λg w' d=>d=0/\(∃d',w'=w.at d')/\Co Φ WS Shun v N g) g w 0:=by
    refine fwm (K:=KV v) (E:=EvV v) (λt p x hp=>I.rel.cell hp) (λe he=>?_) (h.mono λg d hh=>ug (.now λd'=>⟨hh.1,⟨d',rfl⟩,hh.2⟩));obtain⟨p,x,rfl,hp⟩:=he;exact xh (I.rel.hidden_cell hp) (zq (I.rel.cell hp)) _ _
 refine(C.og I.prot B hD).trans λm w1 T1 hh=>?_;obtain⟨a',q',⟨hd,⟨d',rfl⟩,A⟩,hsz,C1⟩:=hh;exact A m _ T1 (hsz.trans hN) ⟨H,S,St,q',λj s hj=>by rw[hsz];exact hlt j s hj,I.step (I.rel.re _ _),C1,hd⟩
def frl {b sb ab n cp c0 j0:Nat} {kb ch:Nat->Nat} (W:SesW b j0 n c0 ch WS N) (V:SesV b sb ab n cp c0 kb ch v) (m: ∀v',fll (λx=>x=b\/x=c0\/ ∃i,i<n/\x=ch i) v v'->Co Φ vb (fax b Shun) v' N (G (ur .normal (.tuple #[]) X) cs)):
    Co Φ WS Shun v N (G (Frame.enter Tryz.prog 12 #[.pointer (some ⟨b,0,none⟩)] .normal) (X::cs)):=by
 rintro gs w T hN ⟨H,S,St,q,hlt,I,C,hD⟩;refine stop_co Φ.ok (by rw[hN];exact W) V I C hD λv' w' H' St' gs' T' q' hv I' hsz C' A=>?_;exact m v' hv gs' w' T' (hsz.trans hN) ⟨H',vb,St',q',λj s hj=>(by cases hj),I',C',A⟩
def fn1 {b k m:Nat} {c:Array Value} {e:TypeId} (hb:v.heap[b]? =some (.cells c e (0,0))) (hsz:c.size=8) (h6:c[6]? =some (.int .u64 ((m:Nat)*K32))) (h7:c[7]? =some (.int .u32 0)) (hm:m<1000) (hk:v.heap[k]? =some (.chan 0 #[] false 0 0 false))
    (J: ∀j s,WS j=some s->s.c≠k) (B: ∀v',StartV b k m v v'->Co Φ (upd WS N (some (vc v.heap.size b k))) Shun v' (N+1) (G (ur .normal (.tuple #[]) X) cs)):
    Co Φ WS Shun v N (G (Frame.enter Tryz.prog 37 #[.pointer (some ⟨b,0,none⟩),.chan (some k)] .normal) (X::cs)):=by
 rintro gs w T hN ⟨H,S,St,q,hlt,I,C,hD⟩;refine fuk Φ.ok hlt hb hsz h6 h7 hm hk J I C hD λv' w' H' S' St' gs' T' q' hv I' A C' D=>?_;rw[hN] at I' A;refine B v' hv gs' w' T' A ⟨H',S',St',q',λj s hj=>?_,I',C',D⟩;by_cases e:j=N
 ·omega
 ·rw[f0p WS _ e] at hj;have:=hlt j s hj;omega
structure SesN (b j0 n:Nat) (ch:Nat->Nat) (WS:Nat->Option SeatD):Prop where
 at_: ∀i,i<n-> ∃m,WS (j0+i)=some (vc m b (ch i))
 no: ∀k,WS k≠none->j0<=k/\k<j0+n
 inj: ∀i i',i<n->i'<n->ch i=ch i'->i=i'
def SesN.none {b j0:Nat} {ch:Nat->Nat}:SesN b j0 0 ch vb:=⟨λi hi=>by omega,λk h=>absurd rfl h,λi i' hi=>by omega⟩
def SesN.more {b j0 n m:Nat} {ch:Nat->Nat} {WS:Nat->Option SeatD} (W:SesN b j0 n ch WS) (j: ∀i,i<n->ch i≠ch n):SesN b j0 (n+1) ch (upd WS (j0+n) (some (vc m b (ch n)))):=by
 refine⟨λi hi=>?_,λk hk=>?_,λi i' hi A h=>?_⟩
 ·by_cases e:i=n
  ·subst e;exact⟨m,f0b _ _ _⟩
  ·obtain⟨m',q⟩:=W.at_ i fe;exact⟨m',by rw[f0p WS _ fe];exact q⟩
 ·by_cases e:k=j0+n
  ·omega
  ·rw[f0p WS _ e] at hk;have:=W.no k hk;omega
 ·by_cases e:i=n
  ·by_cases e':i'=n
   ·omega
   ·subst e;exact absurd h.symm (j i' fe)
  ·by_cases e':i'=n
   ·subst e';exact absurd h (j i fe)
   ·exact W.inj i i' fe fe h
def SesN.seat {b j0 n:Nat} {ch:Nat->Nat} {WS:Nat->Option SeatD} (W:SesN b j0 n ch WS) {j:Nat} {s:SeatD} (h:WS j=some s): ∃i m,i<n/\j=j0+i/\s=vc m b (ch i):=by
 have hr:=W.no j (by rw[h];simp);obtain⟨m,hm⟩:=W.at_ (j-j0) fe;rw[show j0+(j-j0)=j from by omega,h] at hm;exact⟨j-j0,m,by omega,by omega,fy7 hm⟩
def SesN.ok {b j0 n:Nat} {ch:Nat->Nat} {WS:Nat->Option SeatD} {Shun:Loc->Prop} (W:SesN b j0 n ch WS):WsOk WS Shun:=by
 refine⟨λj s h=>?_,λi j s s' h h' hc=>?_⟩
 ·obtain⟨i,m,_,_,rfl⟩:=W.seat h;exact⟨rfl,rfl,_,[fau],by simp,λg=>Iff.rfl⟩
 ·obtain⟨i1,m1,h1,rfl,rfl⟩:=W.seat h;obtain⟨i2,m2,h2,rfl,rfl⟩:=W.seat h';have:=W.inj i1 i2 h1 h2 hc;omega
def bg {Shun:Loc->Prop}:WsOk vb Shun:=⟨λ_ _ h=>je,λ_ _ _ _ h=>je⟩
def SesN.all {b j0 n:Nat} {ch:Nat->Nat} {WS:Nat->Option SeatD} (W:SesN b j0 (n+1) ch WS) (hp:1<=j0) (hN:j0+(n+1)<=N):SesW b j0 n (ch 0) (λi=>ch (i+1)) WS N:=by
 refine⟨hp,hN,?_,λi hi=>?_,λk hk=>W.no k hk,λj s h=>?_,(SesN.ok (Shun:=λ_=>False) W).inj⟩
 ·obtain⟨m,hm⟩:=W.at_ 0 fe;exact⟨_,hm,rfl⟩
 ·obtain⟨m,hm⟩:=W.at_ (i+1) fe;exact⟨_,by rw[show j0+1+i=j0+(i+1) from by omega];exact hm,rfl⟩
 ·obtain⟨i,m,_,_,rfl⟩:=W.seat h;exact⟨rfl,rfl,λg=>Iff.rfl⟩
end
section
variable {w:World}
def Bk.re {g:Nat} {ty:TypeId} {cs:Array Value} (h:Bk w g ty cs) (t:Nat->Question->Nat) (d:Nat):Bk (reW w t d) g ty cs:=⟨h.at_⟩
def Mp.re {b n:Nat} {f:Nat->Int} (h:Mp w b n f) (t:Nat->Question->Nat) (d:Nat):Mp (reW w t d) b n f:=⟨h.at_⟩
def Base.re (h:Base w) (t:Nat->Question->Nat) (d:Nat):Base (reW w t d):=⟨by obtain⟨a,b,h⟩:=h.b0;exact⟨a,b,h.re t d⟩,by obtain⟨a,b,h⟩:=h.b1;exact⟨a,b,h.re t d⟩⟩
def Lnk.re {l c room:Nat} {U:List Plain.Frm} (h:Lnk w l c room U) (t:Nat->Question->Nat) (d:Nat):Lnk (reW w t d) l c room U:=⟨h.lb.re t d,h.ch⟩
def Ends.re {L:Lay} {n:Nat} {es:Nat->Plain.EndS} {er:Nat->Value} (h:Ends w L n es er) (t:Nat->Question->Nat) (d:Nat):Ends (reW w t d) L n es er:=⟨by obtain⟨cs,h1,h2⟩:=h.bk;exact⟨cs,h1.re t d,h2⟩⟩
def Mem.re {L:Lay} {V:Vals} {S:Plain.Ses} {m:Int} {ow:Nat->Nat} (h:Mem L V S m ow w) (t:Nat->Question->Nat) (d:Nat):Mem L V S m ow (reW w t d):=
 ⟨h.base.re t d,h.tag,h.fresh,h.bb.re t d,h.ss.re t d,h.ee.re t d,h.nn.re t d,h.mp.re t d,h.ar,h.st,h.lg,λc hc=>(h.kk c hc).re t d,λc hc=>(h.up c hc).re t d,λc hc=>(h.dn c hc).re t d,h.tx,h.rw,h.er,⟨h.far.lt,h.far.st,h.far.tv⟩⟩
def Marks.re {L:Lay} {n:Nat} (h:Marks L n w) (t:Nat->Question->Nat) (d:Nat):Marks L n (reW w t d):=⟨h.m0,h.ms⟩
def EV.re {E:Nat->Value} {A:Nat->Addr} (h:EV E A w) (t:Nat->Question->Nat) (d:Nat):EV E A (reW w t d):=⟨h.cell,h.ev,h.ne,h.row,h.ty⟩
def Live.re {L:Lay} {E:Nat->Value} {A:Nat->Addr} {S:Plain.Ses} {ow:Nat->Nat} (h:Live L E A S ow w) (t:Nat->Question->Nat) (d:Nat):Live L E A S ow (reW w t d):=
 ⟨by obtain⟨V,h⟩:=h.mem;exact⟨V,h.re t d⟩,h.marks.re t d,h.ev.re t d,h.good,h.bnd,h.low⟩
end
structure Old (n:Nat) (v v':World):Prop where
 le:n<=v.heap.size
 size:v.heap.size<=v'.heap.size
 block: ∀x,x<n->v'.heap[x]? =v.heap[x]?
 os:v'.os=v.os
 output:v'.output=v.output
def Old.rf {n:Nat} {v:World} (h:n<=v.heap.size):Old n v v:=⟨h,fx8 _,λ_ _=>rfl,rfl,rfl⟩
def Old.tr {n:Nat} {v v1 v2:World} (h:Old n v v1) (h2:Old n v1 v2):Old n v v2:=⟨h.le,f08 h.size h2.size,λx hx=>(h2.block x hx).trans (h.block x hx),h2.os.trans h.os,h2.output.trans h.output⟩
def Old.mo {n m:Nat} {v v':World} (h:Old n v v') (hm:m<=n):Old m v v':=⟨f08 hm h.le,h.size,λx hx=>h.block x (f0f hx hm),h.os,h.output⟩
def Old.ch {n:Nat} {v v':World} {K:Nat->Prop} (hn:n<=v.heap.size) (h:Ch K v v') (hK: ∀x,x<n-> ¬K x):Old n v v':=⟨hn,h.size,λx hx=>h.block x (f0f hx hn) (hK x hx),h.os,h.output⟩
def Old.bl {n:Nat} {v v':World} (hn:n<=v.heap.size) (h:Bl v v'):Old n v v':=Old.ch (K:=λ_=>False) hn (Ch.ba h) λ_ _ h=>h
def Old.re {n:Nat} {v v':World} (h:Old n v v') (t:Nat->Question->Nat) (d:Nat):Old n v (reW v' t d):=⟨h.le,h.size,h.block,h.os,h.output⟩
def Old.re' {n:Nat} {v v':World} {t:Nat->Question->Nat} {d:Nat} (h:Old n (reW v t d) v'):Old n v v':=⟨h.le,h.size,h.block,h.os,h.output⟩
def Old.but {n:Nat} {v v':World} {C:Nat->Prop} (hn:n<=v.heap.size) (h:fll C v v') (hK: ∀x,x<n-> ¬C x):Old n v v':=⟨hn,Nat.le_of_eq h.size.symm,λx hx=>h.same x (hK x hx),h.os,h.output⟩
def EV.old {E:Nat->Value} {A:Nat->Addr} {n:Nat} {v v':World} (h:EV E A v) (hO:Old n v v') (m:12<=n) (hA: ∀i,i<12->i≠2->(A i).block<n):EV E A v':=
 ⟨λi hi=>(f0h (a:=⟨i,0,none⟩) (hO.block i fe)).trans (h.cell i hi),h.ev,h.ne,λi hi j=>by
    obtain⟨c,t,hr⟩:=h.row i hi j;exact⟨c,t,(hO.block _ (hA i hi j)).trans hr⟩,h.ty⟩
structure RunTo (Z:Frame->World->Prop) (fr:Frame) (v:World):Prop where
 out: ∃fr' v',Steps PV (lone fr [botF] v) (lone fr' [botF] v')/\Z fr' v'
section
variable {Z:Frame->World->Prop} {fr fr1:Frame} {v v1:World} {b:Frame} {a:Act} {k:List Item} {x y c:Code} {ops:Array Oper} {i:Nat} {rest:List Nat} {o:Oper}
def zt (h:Z fr v):RunTo Z fr v:=⟨fr,v,.refl _ _,h⟩
def za (hs:step PV (lone fr [botF] v)=.next (lone fr1 [botF] v1)) (h:RunTo Z fr1 v1):RunTo Z fr v:=by
 obtain⟨fr',v',h1,h2⟩:=h.out;exact⟨fr',v',.head hs h1,h2⟩
def rl (h:RunTo Z (b.at a (.code x:: .code y::k)) v):RunTo Z (b.at a (.code (.seq x y)::k)) v:=za step_seq h
def bo (h:RunTo Z (b.at a k) v):RunTo Z (b.at a (.code .skip::k)) v:=za step_skip h
def ya {y':Operand} {t:Bool} (hc:a.eval y'=.bool t) (h:RunTo Z (b.at a (.code (if t then x else y)::k)) v):RunTo Z (b.at a (.code (.cond y' x y)::k)) v:=za (step_cond hc) h
def yt {id:Nat} (h:RunTo Z (b.at a (.inRegion ops (List.range ops.size)::k)) v):RunTo Z (b.at a (.code (.region id ops false)::k)) v:=za step_region h
def ie (h:RunTo Z (b.at a k) v):RunTo Z (b.at a (.inRegion ops []::k)) v:=za step_region_end h
def yv {id:Nat} (h:RunTo Z (b.at a (.code c:: .inBlock id::k)) v):RunTo Z (b.at a (.code (.block id c)::k)) v:=za step_block h
def zb {id:Nat} (h:RunTo Z (b.at a k) v):RunTo Z (b.at a (.inBlock id::k)) v:=za step_inBlock h
def fhm (h:RunTo Z (b.at a (.code c:: .inLoop c::k)) v):RunTo Z (b.at a (.code (.loop c)::k)) v:=za step_loop h
def bt (h:RunTo Z (b.at a (.code c:: .inLoop c::k)) v):RunTo Z (b.at a (.inLoop c::k)) v:=za step_inLoop h
def fhn {id:Nat} {k':List Item} (hk:exitTo id k=some k') (h:RunTo Z (b.at a k') v):RunTo Z (b.at a (.code (.exit id)::k)) v:=za (step_exit hk) h
def fnj (h:RunTo Z { b.at a (.code .ret::k) with mode:=.returning } v):RunTo Z (b.at a (.code .ret::k)) v:=za step_ret h
def uy {u:Value} (ho:ops[i]? =some o) (hg:o.guard=none) (hr:(execOp a.eval o).run PV v=.ok (.value u) v1) (h:RunTo Z (b.at (a.put o.dst u) (.inRegion ops rest::k)) v1):RunTo Z (b.at a (.inRegion ops (i::rest)::k)) v:=by
 have hg:=stepG_op (P:=PV) (b:=b) (k:=k) (cs:=[botF]) (w:=v) (rest:=rest) ho (by simp[Region.wanted,hg]:Region.wanted o (yielded ops a.tmps)=true)
 have j: ∀v,(b.at a (.inRegion ops (i::rest)::k)).finish v=b.at (a.put o.dst v) (.inRegion ops rest::k):=by
    intro v;rw[f0i,ho];rfl
 refine za (f3t ?_) h;rw[hg,<- j];simp[stepG.apply,hr]
def rj (hc:c.wp PV (λe a' v'=>(e=.normal/\RunTo Z (b.at a' k) v')\/(e=.ret/\ ∀todo,RunTo Z { b.at a' todo with mode:=.returning } v')) a v):RunTo Z (b.at a (.code c::k)) v:=by
 obtain⟨e,a',w',h,j⟩:=hc b k [botF];rcases h with⟨rfl,h⟩|⟨rfl,h⟩
 ·obtain⟨fr',v',h1,h2⟩:=h.out;exact⟨fr',v',Steps.trans j h1,h2⟩
 ·obtain⟨todo,j⟩:=j;obtain⟨fr',v',h1,h2⟩:=(h todo).out;exact⟨fr',v',Steps.trans j h1,h2⟩
end
def zu {f:FuncId} {fn:Func} {a:Act} {k:List Item} (h1:Tryz.prog.funcs[f]? =some fn) (h2:PV.funcs[f]? =some fn) (hi:(k.all λi=>wk i&&fdk i)=true) (hd:a.defers=[]):FrOk Tryz.prog rg ((base f).at a k):=by
 have hk: ∀i∈k,wk i=true/\fdk i=true:=λi hm=>by
    have:=f1x.1 hi i hm;simpa using this
 exact {
    kind:=.inl rfl
    todo:=λi hi=>(hk i hi).1
    round:=λi hi=>⟨λhr=>(by cases hr),λ_=>(hk i hi).2⟩
    defers:=λd hm=>by
     have:d∈a.defers:=hm;rw[hd] at this;cases this
    chain:=λch hm=>by cases hm
    fn:=λ_=>by rw[fl2] at h2;exact h1.trans h2.symm
    back:=λhr=>by cases hr }
section
variable {Φ:Goal} {WS:Nat->Option SeatD} {Shun:Loc->Prop} {v:World} {N:Nat} {g:Goroutine} {cs:List Frame} {X:Frame}
def co_re {t:Nat->Question->Nat} {d:Nat} (h:Co Φ WS Shun (reW v t d) N g):Co Φ WS Shun v N g:=by
 rintro gs w T hN ⟨H,S,St,q,hlt,I,C,hD⟩;refine h gs w T hN ⟨H,S,St,q,hlt,⟨?_,I.prot,I.on,I.fix,I.sus,I.only,I.marks,I.who⟩,C,hD⟩;exact⟨I.rel.size,I.rel.same,I.rel.laid,I.rel.os,I.rel.output,I.rel.objs,I.rel.kept,I.rel.chans⟩
def fge {Z:Frame->World->Prop} {fr:Frame} (hW:WsOk WS Shun) (hp: ∀fr v,Z fr v->vt fr=false) (M:FrOk Tryz.prog rg fr) (hk:fr.kind=.normal) (h: ∀t d,RunTo Z fr (reW v t d)) (D: ∀fr' v',Z fr' v'->Co Φ WS Shun v' N (G fr' cs)):Co Φ WS Shun v N (G fr cs):=by
 rintro gs w T hN ⟨H,S,St,q,hlt,I,C,hD⟩
 let Y:Frame->List Frame->World->Prop:=λfr l v=>l=[]/\ ∃t d,Z fr (reW v t d)
 have A:VS Tryz.prog rg Y:=vs (λ_ _ _ h=>h.1) λfr l v hy=>by
    obtain⟨rfl,t,d,hz⟩:=hy;rintro⟨f,hf,hpan⟩;simp only[fy3,fz8,f0z] at hf;subst hf;rw[hp _ _ hz] at hpan;cases hpan
 have hR: ∀fr l v t d,Y fr l v->Y fr l (reW v t d):=λfr l v t d ⟨h1,t',d',h2⟩=>⟨h1,t',d',h2⟩
 have B:i5 PV rg [fr]:=λf hf=>by
    simp only[fy3,fz8,f0z] at hf;subst hf;exact fis M
 have m:Fin PV Y fr [] v:=by
    refine fdt A.fok A.code A.stopCalm hR B I.rel.objs λt d=>?_;obtain⟨fr',v',⟨n,hn⟩,hz⟩:=(h t d).out;exact⟨n,fr',[],v',hn,rfl,v'.tape,v'.drawn,hz⟩
 have L:Lv Tryz.prog rg Y (fr,[],v):=⟨m,B,I.rel.objs⟩;refine(lift lp A hR hW (s:=(fr,[],v)) m).1 Φ.fx vb H S St 0 [] none cs gs w T q rfl M fi (λy hy=>by simp at hy;subst hy;exact hk) hlt L I C hD ?_;intro fr' v' w' H' S' St' gs' T' q' R J I' hsz C' O;obtain⟨_,t,d,hz⟩:=J;exact co_re (t:=t) (d:=d) (D fr' _ hz) gs' w' T' (hsz.trans hN) ⟨H',S',St',q',λj s hj=>by rw[hsz];exact hlt j s hj,I',C',O⟩
variable {b:Frame} {a:Act} {k:List Item} {ops:Array Oper} {i:Nat} {rest:List Nat} {o:Oper}
def f8w {f:FuncId} {fn:Func} {c:Code} {args:Array Operand} {m:Array TypeId} (ho:ops[i]? =some o) (hw:Region.wanted o (yielded ops a.tmps)=true) (hk:b.kind≠ .early) (q:o.op=.call { callee:=.value (.func f),args:=args,argTypes:=m })
    (hf:Tryz.prog.funcs[f]? =some fn) (j:(fn.name== "runtime.NumGoroutine")=false) (hb:fn.body=some c) (h:Co Φ WS Shun v N (G (Frame.enter Tryz.prog f (args.map a.eval) .normal) (b.at a (.inRegion ops (i::rest)::k)::cs))):
    Co Φ WS Shun v N (G (b.at a (.inRegion ops (i::rest)::k)) cs):=co_wk (fmp ho hw hk q hf j hb (ug ⟨rfl,h⟩))
def fho {u:Value} (ho:ops[i]? =some o):ur .normal u (b.at a (.inRegion ops (i::rest)::k))=b.at (a.put o.dst u) (.inRegion ops rest::k):=by
 simp only[ur,f0e,Touch.on,f0i,ho];rfl
def fhp {fn:Func} {todo:List Item} {u:Value} (hk:b.kind=.normal) (hd:a.defers=[]) (hf:Tryz.prog.funcs[b.fn]? =some fn) (hr:ResultsC Tryz.prog fn a.tmps u) (h:Co Φ WS Shun v N (G (ur .normal u X) cs)):
    Co Φ WS Shun v N (G { b.at a todo with mode:=.returning } (X::cs)):=co_wk (faa (.inl hk) hd hf hr (ug ⟨rfl,by rw[hk];exact h⟩))
end
structure Fc (WS:Nat->Option SeatD) (Shun:Loc->Prop) (v:World) (N:Nat) (f:FuncId) (args:Array Value) (R:Value->(Nat->Option SeatD)->(Loc->Prop)->World->Nat->Prop):Prop where
 out: ∀(Φ:Goal) (X:Frame) (cs:List Frame),(∀x WS' Shun' v' N',R x WS' Shun' v' N'->Co Φ WS' Shun' v' N' (G (ur .normal x X) cs))->Co Φ WS Shun v N (G (Frame.enter Tryz.prog f args .normal) (X::cs))
def ea {f:FuncId} {fn:Func} {cd:Code} {args:Array Value} (hf:Tryz.prog.funcs[f]? =some fn) (hb:fn.body=some cd):
    Frame.enter Tryz.prog f args .normal=(base f).at { tmps:=args++Array.replicate (fn.ntmps-args.size) undef,defers:=[] } [.code cd]:=enter_at hf hb
end Go.Proofs.YtelecjnabeokeaaGreatDoor
namespace Go.Proofs.YtelecjnabeokeaaGreatDoor
open Go Go.Conc Go.RowKit
def und77:PV.underlying 77=some (.slice 86):=by kernel_rfl
def und46:PV.underlying 46=some (.slice 3):=by kernel_rfl
def inf86:(PV.info? 86).map (λi=>(i.bytes,i.size))=some (48,4):=by kernel_rfl
def inf86z:(PV.info? 86).bind (λi=>i.zero)=some (.agg #[.int .i64 0,.int .i64 0,.int .i64 0,.slice none 0 0]):=by kernel_rfl
def inf3:(PV.info? 3).map (λi=>(i.bytes,i.size))=some (8,1):=by kernel_rfl
def inf3z:(PV.info? 3).bind (λi=>i.zero)=some (.int .i64 0):=by kernel_rfl
def inf1:(PV.info? 1).map (λi=>i.bytes)=some 8:=by kernel_rfl
def und78:PV.underlying 78=some (.chan .both 1):=by kernel_rfl
def mkEnds (n:Nat) (hn:n<=6) (w:World):(Instr.makeSlice 77 (.int .i64 (n:Int)) (.int .i64 (n:Int))).run PV w=.ok (.slice (some ⟨w.heap.size,0,none⟩) n n) (w.alloc (.cells (madeCells #[.int .i64 0,.int .i64 0,.int .i64 0,.slice none 0 0] (n*4)) 86)):=by
 obtain⟨i,hi,hb,hs⟩: ∃i,PV.info? 86=some i/\i.bytes=48/\i.size=4:=by
    have:=inf86;cases hi:PV.info? 86 with
    | none=>rw[hi] at this;cases this
    | some i=>rw[hi] at this;exact⟨i,rfl,by simpa using this⟩
 have hz:i.zero=some (.agg #[.int .i64 0,.int .i64 0,.int .i64 0,.slice none 0 0]):=by have:=inf86z;rw[hi] at this;exact this
 rw[run_makeSlice w 77 86 i _ und77 hi hz .i64 .i64 n n fe fe (by rw[hs];omega) (by rw[hb];omega) fe,hs];rfl
def f6c (n:Nat) (hn:n<=6) (w:World):(Instr.makeSlice 46 (.int .i64 (n:Int)) (.int .i64 (n:Int))).run PV w=.ok (.slice (some ⟨w.heap.size,0,none⟩) n n) (w.alloc (.cells (madeCells #[.int .i64 0] (n*1)) 3)):=by
 obtain⟨i,hi,hb,hs⟩: ∃i,PV.info? 3=some i/\i.bytes=8/\i.size=1:=by
    have:=inf3;cases hi:PV.info? 3 with
    | none=>rw[hi] at this;cases this
    | some i=>rw[hi] at this;exact⟨i,rfl,by simpa using this⟩
 have hz:i.zero=some (.int .i64 0):=by have:=inf3z;rw[hi] at this;exact this
 rw[run_makeSlice w 46 3 i _ und46 hi hz .i64 .i64 n n fe fe (by rw[hs];omega) (by rw[hb];omega) fe,hs];rfl
def fwc (w:World):(Instr.makeChan 78 (.int .i64 0)).run PV w=.ok (.chan (some w.heap.size)) (w.alloc (.chan 0 #[] false 0 0 false)):=by
 obtain⟨i,hi,hs⟩: ∃i,PV.info? 1=some i/\i.bytes=8:=by
    have:=inf1;cases hi:PV.info? 1 with
    | none=>rw[hi] at this;cases this
    | some i=>rw[hi] at this;exact⟨i,rfl,by simpa using this⟩
 exact Conc.run_makeChan (show PV.underlying 78=_ from und78) hi .i64 0 fe fe
def pv18:PV.funcs[18]? =some Tryz.f18:=rd 18 _ _ Tryz.func18 fd fd rfl fd
def i4 (w:World) (o:Obj) (x:Nat):(w.alloc o).heap[x]? =if x=w.heap.size then some o else w.heap[x]? :=by
 show(w.heap.push o)[x]? =_;rw[f05]
def vp (w:World) (o:Obj):(w.alloc o).heap.size=w.heap.size+1:=by show(w.heap.push o).size=_;simp
def fer (w:World) (x:Nat):w.drew.heap[x]? =w.heap[x]? :=rfl
abbrev endZ (n:Nat):Array Value:=madeCells #[.int .i64 0,.int .i64 0,.int .i64 0,.slice none 0 0] (n*4)
abbrev ft0 (n:Nat):Array Value:=madeCells #[.int .i64 0] n
structure NewA (n:Nat) (v w:World) (bm es ns ch sb b:Nat):Prop where
 old:Bl v w
 ge:v.heap.size<=bm/\v.heap.size<=es/\v.heap.size<=ns/\v.heap.size<=ch/\v.heap.size<=sb/\v.heap.size<=b
 ne1:bm≠es/\bm≠ns/\bm≠ch/\bm≠sb/\bm≠b
 ne2:es≠ns/\es≠ch/\es≠sb/\es≠b
 ne3:ns≠ch/\ns≠sb/\ns≠b
 ne4:ch≠sb/\ch≠b/\sb≠b
 m_:w.heap[bm]? =some (.map #[] 0)
 e_:Bk w es 86 (endZ n)
 n_:Bk w ns 3 (ft0 n)
 c_:w.heap[ch]? =some (.chan 0 #[] false 0 0 false)
 s_:Bk w sb 80 #[.slice none 0 0,.slice none 0 0,.map (some bm),.slice (some ⟨es,0,none⟩) n n,.slice (some ⟨ns,0,none⟩) n n,.chan (some ch)]
 b_:Bk w b 75 #[.int .i32 0,.int .u32 0,.slice none 0 0,.pointer (some ⟨sb,0,none⟩),.int .i64 0,.bool false,.int .u64 0,.int .u32 0]
noncomputable def new4:Code:=match Tryz.f18.body with|some (.seq _ (.seq _ (.seq _ c)))=>c|_=>.skip
def new_a {Z:Frame->World->Prop} (n room:Nat) (bs:1<=n) (j:n<=6) (bu:1<=room) (br:room<=16) (v:World)
    (hk: ∀(x2 x3 x7 x8 x9 m q A B C D I J M O R U X Y aa ab ac ad ae ah ak an ap aA aB aC aD aE aF aG aH aI aJ aK aL aM aN aO aP aQ aR aS aT aU aV aW aX aY aZ a0 a1 a2 a3 a4 a5 a6 a7 a8 a9 ba bb bc be bk bp bq:Value) (bm es ns ch sb b:Nat) (w:World),NewA n v w bm es ns ch sb b->RunTo Z ((base 18).at ⟨(.int .i64 (n:Int):: .int .i64 (room:Int)::x2::x3:: .pointer none:: .nilIface:: .pointer (some ⟨b,0,none⟩)::x7::x8::x9::m::q::A::B::C::D::I::J::M::O::R::U::X::Y:: .map (some bm)::aa:: .slice (some ⟨es,0,none⟩) n n::ab:: .slice (some ⟨ns,0,none⟩) n n:: .chan (some ch)::ac:: .pointer (some ⟨sb,0,none⟩)::ad::ae::ah::ak::an::ap::aA::aB::aC::aD::aE::aF::aG::aH::aI::aJ::aK::aL::aM::aN::aO::aP::aQ::aR::aS::aT::aU::aV::aW::aX::aY::aZ::a0::a1::a2::a3::a4::a5::a6::a7::a8::a9::ba::bb::bc::be::bk::bp::bq::[]).toArray,[]⟩ [.code new4]) w):
    RunTo Z (Frame.enter Tryz.prog 18 #[.int .i64 (n:Int),.int .i64 (room:Int)] .normal) v:=by
 have h1:=fx6 (mkEnds n j);have h2:=fx6 (f6c n j);have hK:=fx6 hk;clear hk;rw[ea Tryz.func18 rfl];simp only[show Tryz.f18.ntmps=81 from rfl];walk_nrm;have e1: ¬((n:Int)<1):=by omega
 have e2: ¬((n:Int)>6):=by omega
 have e3: ¬((room:Int)<1):=by omega
 have e4: ¬((room:Int)>16):=by omega
 refine rl (rj ?_);go_wp2;refine rl (rj ?_);go_wp2;refine rl (rj ?_);have h3:=fwc;have h4: ∀W,(Instr.makeMap 76 none).run PV W=.ok (.map (some W.heap.size)) (W.alloc (.map #[] 0)):=λW=>run_makeMap 76 W;replace h1:=h1.out;replace h2:=h2.out
 go_region
 all_goals clear h1 h2 h3 h4
 all_goals (refine .inl ⟨rfl,hK.out _ _ _ _ _ _ _ _ _ _ _ _ _ _ _ _ _ _ _ _ _ _ _ _ _ _ _ _ _ _ _ _ _ _ _ _ _ _ _ _ _ _ _ _ _ _ _ _ _ _ _ _ _ _ _ _ _ _ _ _ _ _ _ _ _ _ _ _ _ _ _ _ _ _ _ _ _ _ ⟨ga,fe,fe,fe,fe,fe,f3z,⟨f3z⟩,⟨f3z⟩,f3z,⟨f3z⟩,⟨f3z⟩⟩⟩)
end Go.Proofs.YtelecjnabeokeaaGreatDoor
namespace Go.Proofs.YtelecjnabeokeaaGreatDoor
open Go Go.RowKit
def und91:PV.underlying 91=some (.slice 140):=by kernel_rfl
def und140:PV.underlying 140=some (.slice 4):=by kernel_rfl
def info140:(PV.info? 140).map (λi=>(i.zero,i.size,i.bytes))=some (some (.slice none 0 0),1,24):=by kernel_rfl
def info4:(PV.info? 4).map (λi=>(i.zero,i.size,i.bytes))=some (some (.bool false),1,1):=by kernel_rfl
def info3':(PV.info? 3).map (λi=>(i.zero,i.size,i.bytes))=some (some (.int .i64 0),1,8):=by kernel_rfl
structure OrM (w:World) (base ob:Nat) (oo:Nat->Nat) (lv fv:Value) (rv:Nat->Value) (l:List Plain.El) (m:Nat->List Bool):Prop where
 bk:Bk w ob 93 #[lv,fv]
 lt:w.ownsRow 0 38 3 lv l.length (flat l)
 ft:w.ownsRow 0 140 1 fv l.length ((List.range l.length).map rv)
 rt: ∀k,k<l.length->w.ownsRow 0 4 1 (rv k) (m k).length ((m k).map Value.bool)
 tob:oo ob=1
 tl: ∀x,lv.ownBlock=some x->oo x=2
 tf: ∀x,fv.ownBlock=some x->oo x=3
 tr: ∀k,k<l.length-> ∀x,(rv k).ownBlock=some x->oo x=4+k
 ge: ∀x,oo x≠0->base<=x/\x<w.heap.size
section
variable {w w':World} {base ob:Nat} {oo:Nat->Nat} {lv fv:Value} {rv:Nat->Value} {l:List Plain.El} {m:Nat->List Bool}
def OrM.ch {K:Nat->Prop} (h:OrM w base ob oo lv fv rv l m) (hC:Ch K w w') (hK: ∀x,K x->oo x=0):OrM w' base ob oo lv fv rv l m:=
 ⟨h.bk.ch hC (λhk=>by have:=hK _ hk;have:=h.tob;omega),qx hC h.lt (λx hx hk=>by have:=hK _ hk;have:=h.tl x hx;omega),qx hC h.ft (λx hx hk=>by have:=hK _ hk;have:=h.tf x hx;omega),
    λk hk=>qx hC (h.rt k hk) (λx hx j=>by have:=hK _ j;have:=h.tr k hk x hx;omega),h.tob,h.tl,h.tf,h.tr,λx hx=>⟨(h.ge x hx).1,f0f (h.ge x hx).2 hC.size⟩⟩
def OrM.bl (h:OrM w base ob oo lv fv rv l m) (hb:Bl w w'):OrM w' base ob oo lv fv rv l m:=h.ch (K:=λ_=>False) (Ch.ba hb) (λ_ h=>h.elim)
def f8e {w:World} {b n sz:Nat} {e:TypeId} {v:Value} {xs:List Value} (h:w.ownsRow b e sz v n xs):(v=.slice none 0 0/\n=0)\/ ∃g cap,v=.slice (some ⟨g,0,none⟩) n cap/\(∀j u,xs[j]? =some u->w.cell? ⟨g,j,none⟩=some u)/\(∀j,w.frozen? ⟨g,j,none⟩=false):=by
 rcases h.2 with h1|⟨g,cap,cur,rfl,h2,h3,h4⟩
 ·exact .inl h1
 ·refine .inr ⟨g,cap,rfl,λj u hu=>?_,λj=>by simp[World.frozen?,h3]⟩;have:=f3g h rfl j u hu;rwa[f2u,f1k] at this
def OrM.row (h:OrM w base ob oo lv fv rv l m) {k:Nat} (hk:k<l.length): ∃g cap,fv=.slice (some ⟨g,0,none⟩) l.length cap/\w.cell? ⟨g,k,none⟩=some (rv k)/\(∀j,w.frozen? ⟨g,j,none⟩=false):=by
 rcases f8e h.ft with⟨_,h0⟩|⟨g,cap,h1,h2,h3⟩
 ·omega
 ·exact⟨g,cap,h1,h2 k _ (by rw[f1s,f5k hk];rfl),h3⟩
def was_any (h:OrM w base ob oo lv fv rv l m) {i j:Nat} (hi:i<l.length) (hj:j<l.length) (hl:l.length<=2000) (hm:(m i).length<=2000):
    Calls PV 72 #[.pointer (some ⟨ob,0,none⟩),.int .i64 (i:Int),.int .i64 (j:Int)] w λx w'=>x=.returned (.bool (((m i)[j]?).getD false))/\w'=w:=by
 obtain⟨g,cap,rfl,hc,hf⟩:=h.row hi;obtain⟨cO,dO⟩:=h.bk.ceF;have I:(i:Int)<(l.length:Int):=by omega
 rcases f8e (h.rt i hi) with⟨e0,h0⟩|⟨g2,B,e0,q,D⟩
 ·rw[e0] at hc;have e1:m i=[]:=f1a h0;have A: ¬(j:Int)<0:=by omega
  clear h;go_enter PV.func72,Tryz.ntmps72;go_wp2;go_ret;simp[e1]
 ·rw[e0] at hc;clear h;by_cases hlt:j<(m i).length
  ·have A:(j:Int)<((m i).length:Int):=by omega
   have C:=q j (.bool (m i)[j]) (by rw[f1s,f0r hlt];rfl);clear q;go_enter PV.func72,Tryz.ntmps72;go_wp2;go_ret;rw[f0r hlt];exact⟨rfl,rfl⟩
  ·have A: ¬(j:Int)<((m i).length:Int):=by omega
   clear q;go_enter PV.func72,Tryz.ntmps72;go_wp2;go_ret;exact⟨rfl,rfl⟩
def eql38 (a b:Plain.El) (w:World):(binOp .eql 38 (.agg #[.int .i32 a.r,.int .i64 a.c,.int .i64 a.n]) (.agg #[.int .i32 b.r,.int .i64 b.c,.int .i64 b.n])).run PV w=.ok (.bool (decide (a=b))) w:=by
 rw[run_eql_struct,eq38 9998];rcases a with⟨a1,a2,a3⟩;rcases b with⟨b1,b2,b3⟩;simp only[Result.andThen_ok,Plain.El.mk.injEq]
 congr 2
 by_cases h1:a1=b1 <;>by_cases h2:a2=b2 <;>by_cases h3:a3=b3 <;>simp[h1,h2,h3]
end
section
variable {w w':World} {base ob:Nat} {oo:Nat->Nat} {lv fv lv' fv':Value} {rv:Nat->Value} {l:List Plain.El} {m:Nat->List Bool} {e:Plain.El}
def OrM.push (h:OrM w base ob oo lv fv rv l m) (hs:base<=w.heap.size) (hC:Ch (λx=>x=ob\/lv.ownBlock=some x\/fv.ownBlock=some x) w w') (hb:Bk w' ob 93 #[lv',fv'])
    (hl:w'.ownsRow 0 38 3 lv' (l.length+1) (flat l++[.int .i32 e.r,.int .i64 e.c,.int .i64 e.n])) (C: ∀x,lv'.ownBlock=some x->lv.ownBlock=some x\/w.heap.size<=x)
    (hf:w'.ownsRow 0 140 1 fv' (l.length+1) ((List.range l.length).map rv++[.slice none 0 0])) (A: ∀x,fv'.ownBlock=some x->fv.ownBlock=some x\/w.heap.size<=x):
    ∃q J,OrM w' base ob q lv' fv' J (l++[e]) (Plain.put m l.length [])/\ ∀x,x<w.heap.size->q x=oo x:=by
 have D: ∀x,lv'.ownBlock=some x->fv'.ownBlock≠some x:=vo hl hf fu;have I:=(h.ge ob (by rw[h.tob];omega)).2
 have j: ∀x,x<w.heap.size->(if lv'.ownBlock=some x then 2 else if fv'.ownBlock=some x then 3 else oo x)=oo x:=λx hx=>by
    by_cases e1:lv'.ownBlock=some x
    ·rw[f02 e1];rcases C x e1 with e2|e2
     ·exact(h.tl x e2).symm
     ·omega
    ·rw[fx9 e1];by_cases e2:fv'.ownBlock=some x
     ·rw[f02 e2];rcases A x e2 with e3|e3
      ·exact(h.tf x e3).symm
      ·omega
     ·rw[fx9 e2]
 refine⟨λx=>if lv'.ownBlock=some x then 2 else if fv'.ownBlock=some x then 3 else oo x,Plain.put rv l.length (.slice none 0 0),⟨hb,?_,?_,λk hk=>?_,(j ob I).trans h.tob,λx hx=>f02 hx,λx hx=>?_,λk hk x hx=>?_,λx hx=>?_⟩,j⟩
 ·rw[ol,f0a];exact hl
 ·rw[f0a,fz6,f06,f1k,List.range_succ,List.map_append];have:(List.range l.length).map (Plain.put rv l.length (.slice none 0 0))=(List.range l.length).map rv:=f5j λi hi=>Plain.put_ne _ _ (by have:=f2s.1 hi;omega);rw[this];simp only[f3c,List.map_nil,Plain.put_same];exact hf
 ·rw[f0a,fz6,f06] at hk;by_cases ek:k=l.length
  ·subst ek;simp only[Plain.put_same];exact f0w _ _ _ _
  ·simp only[Plain.put_ne _ _ ek];refine qx hC (h.rt k fe) λx hx B=>?_;have h4:=h.tr k fe x hx;rcases B with rfl|e1|e1
   ·have:=h.tob;omega
   ·have:=h.tl x e1;omega
   ·have:=h.tf x e1;omega
 ·show(if _ then _ else _)=3;rw[fx9 (λe1=>D x e1 hx),f02 hx]
 ·rw[f0a,fz6,f06] at hk;by_cases ek:k=l.length
  ·subst ek;simp[Plain.put_same,Value.ownBlock] at hx
  ·simp only[Plain.put_ne _ _ ek] at hx;have h4:=h.tr k fe x hx;have h5:=(h.ge x fe).2;exact(j x h5).trans h4
 ·have hx:(if lv'.ownBlock=some x then 2 else if fv'.ownBlock=some x then 3 else oo x)≠0:=hx;rcases f01 x w.heap.size with h'|h'
  ·rw[j x h'] at hx;exact⟨(h.ge x hx).1,f0f h' hC.size⟩
  ·refine⟨by omega,?_⟩;split at hx
   ·exact lr hl x ‹_›
   ·split at hx
    ·exact lr hf x ‹_›
    ·have:=(h.ge x hx).2;omega
def PlaceR (w:World) (base ob:Nat) (oo:Nat->Nat) (l:List Plain.El) (m:Nat->List Bool) (e:Plain.El) (x:Ending) (w':World):Prop:=
 ∃(k:Nat) (lv' fv':Value) (q:Nat->Value) (l':List Plain.El) (m':Nat->List Bool) (j:Nat->Nat),x=.returned (.int .i64 (k:Int))/\OrM w' base ob j lv' fv' q l' m'/\l'[k]? =some e/\((l'=l/\m'=m)\/(e∉l/\l'=l++[e]/\m'=Plain.put m l.length []))/\Ch (λx=>oo x≠0) w w'/\ ∀x,x<w.heap.size->j x=oo x
def f8x (h:OrM w base ob oo lv fv rv l m) (hs:base<=w.heap.size) (hl:l.length<=2000) (e:Plain.El):
    Calls PV 71 #[.pointer (some ⟨ob,0,none⟩),.agg #[.int .i32 e.r,.int .i64 e.c,.int .i64 e.n]] w (PlaceR w base ob oo l m e):=by
 have hH:=fx6 h;have aB: ∀u,(Builtin.len_ #[32] 3 #[lv]).run PV u=.ok (.int .i64 (l.length:Int)) u:=f8f h.lt fe;have a4: ¬ob=w.heap.size:=by have:=h.bk.lt;omega
 clear h;go_enter PV.func71,Tryz.ntmps71;go_wp2;refine vy (F:=λW=>Bl w W/\Bk W w.heap.size 38 #[.int .i32 e.r,.int .i64 e.c,.int .i64 e.n]) ⟨(Bl.rf _).al _,Bk.nw rfl⟩ ?_;rintro W0 ⟨ac,ad⟩
 go_loopw [5] (λiv wr=> ∃i:Nat,i<=l.length/\iv=.int .i64 (i:Int)/\Bl w wr/\Bk wr w.heap.size 38 #[.int .i32 e.r,.int .i64 e.c,.int .i64 e.n]/\ ∀j:Nat,j<i->l[j]? ≠some e) (λiv _=>l.length-(intOf iv).toNat)
 case atStart => exact⟨0,f1n _,rfl,ac,ad,λj hj=>by omega⟩
 case round=>
    obtain⟨i,hi,rfl,gb,gX,Y⟩:=hrel;clear ac ad;have gO:=hH.out.bk.bl gb;obtain⟨cO,dO⟩:=gO.ceF;obtain⟨cX,dX⟩:=gX.ceF;by_cases hlt:i<l.length
    ·have a2:(i:Int)<(l.length:Int):=by omega
     obtain⟨y,hy⟩: ∃y,l[i]? =some y:=⟨l[i],f0r hlt⟩;have a7:IntKind.i64.wrap ((i:Int)+1)=(i:Int)+1:=f0t _ fe
     obtain⟨g,cap,e0⟩: ∃g cap,lv=.slice (some ⟨g,0,none⟩) l.length cap:=by
       rcases f8e hH.out.lt with⟨_,h2⟩|⟨g,cap,h1,_⟩
       ·omega
       ·exact⟨g,cap,h1⟩
     subst e0;obtain⟨f0,f1,f2⟩:=fhr hy;have hc:=f3g (hH.out.bl gb).lt rfl;have q0:=hc _ _ f0;have q1:=hc _ _ f1;have q2:=hc _ _ f2;simp only[f2u,f1k] at q0 q1 q2;have ap:=λW=>eql38 y e W;clear hc f0 f1 f2 aB;by_cases aa:y=e
     ·subst aa;simp only[decide_true] at ap;go_wp2_with fail
      go_quiet (fail)
      go_wp2_with fail;go_ret;exact⟨i,_,_,_,l,m,oo,by simp,(hH.out.bl gb).bl ⟨rfl,rfl,rfl,fx8 _,λ_ _=>rfl⟩,hy,.inl ⟨rfl,rfl⟩,Ch.ba (gb.cl ⟨rfl,rfl,rfl,fx8 _,λ_ _=>rfl⟩),λ_ _=>rfl⟩
     ·have hd:decide (y=e)=false:=by simpa using aa
      simp only[hd] at ap;go_wp2_with fail
      go_quiet (fail)
      go_wp2_with fail
      go_roundw
      case rel=>
       refine⟨i+1,by omega,by simp,gb.cl ⟨rfl,rfl,rfl,fx8 _,λ_ _=>rfl⟩,Bk.bl (show Bl wr _ from⟨rfl,rfl,rfl,fx8 _,λ_ _=>rfl⟩) gX,λj hj=>?_⟩;rcases f01 j i with h'|h'
       ·exact Y j h'
       ·obtain rfl:j=i:=by omega
        rw[hy];intro h2;exact aa (fy7 h2)
      case measure => simp[intOf];omega
    ·obtain rfl:i=l.length:=by omega
     have aE:e∉l:=λhm=>by
       obtain⟨j,hj⟩:=List.mem_iff_getElem?.1 hm;exact Y j (f1c.1 hj).1 hj
     obtain⟨i0,aA,I,ab,aF⟩:=f4i frt;have hI:=fx6 aA;have aM:=fx6 I;have aN:=fx6 ab;have aO:=fx6 aF;obtain⟨j0,aG,J,aH,aI⟩:=f4i info140;have jI:=fx6 aG;have aU:=fx6 J;have aV:=fx6 aH;have aW:=fx6 aI;clear aA I ab aF aG J aH aI Y;have aK:=fx6 (hH.out.bl gb).lt;have aR:=fx6 (rp (hH.out.bl gb).lt gO fu);have aD:=fx6 (rp (hH.out.bl gb).ft gO fu);have aQ:=fx6 (vo (hH.out.bl gb).ft (hH.out.bl gb).lt fu);have a8:=gb.size;have a9:=gO.lt;have bb:=gX.lt;have a6:=fx6 (lr (hH.out.bl gb).lt);have a5:=fx6 (lr (hH.out.bl gb).ft);go_upto_region 6 with fail
     clear aB;refine rn (sel [λw'=>Bk w' ob 93 #[lv,fv],λw'=>Bk w' w.heap.size 38 #[.int .i32 e.r,.int .i64 e.c,.int .i64 e.n]]) [(.h 9,0),(.h 9,1),(.h 9,2),(.h 9,3),(.h 0,4),(.h 1,5),(.c [0,9],6),(.c [9],7),(.h 9,8),(.h 9,9),(.c [],10)] fd fd (qy (Bk.dr gO) (qy (Bk.dr gX) (λ_=>un))) ?_;simp only[vg,fy9,fz4,fz3,fy2,fx7,fy0];iterate 6 (refine oH ?_;try simp only[aps])
     (refine rx (λK hK=>?_);go_simp;refine hK _ _ (rh ff (rh trivial ry)) ?_;clear hK K;try simp only[aps])
     (refine rx (λK hK=>?_);refine wp_append_lies _ (.tmp 29) (.tmp 31) _ rfl 0 38 i0 _ 3 24 fru hI.out aM.out aN.out aO.out rfl fe lv l.length (flat l) rfl (qx (K:=λ_=>False) (Ch.ba ga) aK.out (λ_ _ h=>h)) ⟨_,0,none⟩ 1 1 [.int .i32 e.r,.int .i64 e.c,.int .i64 e.n] rfl rfl (f2m (cs:=#[.int .i32 e.r,.int .i64 e.c,.int .i64 e.n]) (t:=38) (fr:=(0,0)) (Bk.nw fi).at_) p9 fe jq fe fi _ rfl ?_;intro gg B w4 q U D aC;have k4:=Bk.gr U (λe=>aR.out _ e.symm rfl) (Bk.al (Bk.dr gO) _);obtain⟨c4,d4⟩:=k4.ceF;refine hK _ _ (rh trivial ry) ?_;clear hK K;try simp only[aps]);iterate 2 (refine oH ?_;try simp only[aps])
     (refine rx (λK hK=>?_);go_simp;refine hK _ _ ry ?_;clear hK K;try simp only[aps]);refine ub ?_;refine vy (F:=λW'=>Bk W' ob 93 #[.slice (some ⟨gg,0,none⟩) (l.length+1) B,fv]/\W'.ownsRow 0 38 3 (.slice (some ⟨gg,0,none⟩) (l.length+1) B) (l.length+1) (flat l++[.int .i32 e.r,.int .i64 e.c,.int .i64 e.n])/\Ch (λx=>x=ob\/lv.ownBlock=some x) wr W') ⟨?_,?_,?_⟩ ?_
     ·exact(k4.st _).cv fi
     ·exact qx (K:=λx=>x=ob) ((Ch.rf (λx=>x=ob) w4).st (.inl rfl) _) q (rp q k4 fu)
     ·exact(((Ch.rf _ wr).dr.al _).gr U (λk hk=>.inl (.inr hk))).st (.inl (.inl rfl)) _
     have ah:lv.ownBlock=some gg\/wr.heap.size<=gg:=D.imp id (λe=>by rw[e];simp);clear c4 d4 k4 q U D aC cO dO cX dX w4;rintro W1 ⟨R,O,gC1⟩;obtain⟨a0,a1⟩:=R.ceF;have M:W1.ownsRow 0 140 1 fv l.length ((List.range l.length).map rv):=qx gC1 (hH.out.bl gb).ft (λx hx=>by rintro(h|h);exact aD.out x hx h;exact aQ.out x hx h);have aJ:=fx6 M;have a3:((List.range l.length).map rv).length=l.length:=by simp
     have aS:=fx6 (rp O R fu);have aT:=fx6 (vo O M fu);clear M;go_wp2_with (first|(at_builtin;refine wpList_append_lies _ rfl (.tmp 39) (.tmp 40) _ rfl 0 140 j0 _ 1 24 und91 jI.out aU.out aV.out aW.out rfl fe fv l.length ((List.range l.length).map rv) rfl (qx (K:=λ_=>False) (Ch.ba ((Bl.rf _).al _)) aJ.out (λ_ _ h=>h)) ⟨W1.heap.size,0,none⟩ 1 1 [.slice none 0 0] rfl rfl (f2m (cs:=#[.slice none 0 0]) (t:=140) (fr:=(0,0)) (f3n W1 _)) p9 fe jq fe fi _ rfl ?_;intro g6 A w6 C X ak aZ;have k6:=Bk.gr X (λe=>aD.out _ e.symm rfl) (Bk.al R _);obtain⟨c6,d6⟩:=k6.ceF));go_ret;have ab:=gC1.size;have an:fv.ownBlock=some g6\/wr.heap.size<=g6:=ak.imp id (λe=>by rw[e];simp;omega);have hb:=(k6.st (i:=1) (.slice (some ⟨g6,0,none⟩) (l.length+1) A)).cv (cs':=#[.slice (some ⟨gg,0,none⟩) (l.length+1) B,.slice (some ⟨g6,0,none⟩) (l.length+1) A]) fi;have ae:Ch (λx=>x=ob\/lv.ownBlock=some x\/fv.ownBlock=some x) wr (w6.setCell ⟨ob,1,none⟩ (.slice (some ⟨g6,0,none⟩) (l.length+1) A)):=(((gC1.mo (K':=λx=>x=ob\/lv.ownBlock=some x\/fv.ownBlock=some x) (λx h=>h.imp id .inl)).al _).gr X (λk hk=>.inl (.inr (.inr hk)))).st (.inl (.inl rfl)) _;have aL:Ch (λx=>x=ob\/fv.ownBlock=some x) W1 (w6.setCell ⟨ob,1,none⟩ (.slice (some ⟨g6,0,none⟩) (l.length+1) A)):=(((Ch.rf _ W1).al _).gr X (λk hk=>.inl (.inr hk))).st (.inl (.inl rfl)) _
     obtain⟨aX,aY,hP,aP⟩:=(hH.out.bl gb).push (e:=e) fe ae hb (qx aL O (λx hx=>by rintro(h|h);exact aS.out x hx h;exact aT.out x hx h)) (λx hx=>by obtain rfl:gg=x:=f7n;exact ah)
       (qx (K:=λx=>x=ob) ((Ch.rf (λx=>x=ob) w6).st (.inl rfl) _) C (rp C k6 fu)) (λx hx=>by obtain rfl:g6=x:=f7n;exact an)
     refine⟨l.length,_,_,aY,_,_,aX,by simp,hP,by simp,.inr ⟨aE,rfl,rfl⟩,(Ch.ba gb).tr ae (λx hx=>?_),λx hx=>aP x fe⟩;have hh:=hH.out;rcases hx with rfl|h1|h1
     ·exact .inl (by rw[hh.tob];omega)
     ·exact .inl (by rw[hh.tl x h1];omega)
     ·exact .inl (by rw[hh.tf x h1];omega)
end
section
variable {w w' wa wb:World} {base ob:Nat} {oo:Nat->Nat} {lv fv v2:Value} {rv:Nat->Value} {l:List Plain.El} {m:Nat->List Bool}
def set_put {n i:Nat} (rv:Nat->Value) (v:Value):((List.range n).map rv).set i v=(List.range n).map (Plain.put rv i v):=by
 apply List.ext_getElem?;intro k;rw[List.getElem?_set,f1s,List.length_map,List.length_range,f1s];by_cases hk:k<n
 ·rw[f5k hk];by_cases e:i=k
  ·subst e;simp[hk,Plain.put_same]
  ·simp[e,Plain.put_ne rv v (λe':k=i=>e e'.symm)]
 ·rw[f2q (by simpa using Nat.le_of_not_lt hk)];by_cases e:i=k
  ·subst e;simp[hk]
  ·simp[e]
def OrM.grow (h:OrM w base ob oo lv fv rv l m) (hs:base<=w.heap.size) {i:Nat} (hi:i<l.length) (hb:Bl w wa) (hg:wa.grownBy wb (rv i).ownBlock) (hr:wb.ownsRow 0 4 1 v2 ((m i).length+1) ((m i).map Value.bool++[.bool false]))
    (ho: ∀x,v2.ownBlock=some x->(rv i).ownBlock=some x\/w.heap.size<=x) {gf cap:Nat} (ef:fv=.slice (some ⟨gf,0,none⟩) l.length cap):
    ∃C,OrM (wb.setCell ⟨gf,i,none⟩ v2) base ob C lv fv (Plain.put rv i v2) l (Plain.put m i (m i++[false]))/\(∀x,x<w.heap.size->C x=oo x)/\Ch (λx=>oo x≠0) w (wb.setCell ⟨gf,i,none⟩ v2):=by
 have D:oo gf=3:=h.tf gf (by rw[ef];rfl);have A:Ch (λx=>(rv i).ownBlock=some x) w wb:=(Ch.ba (K:=λx=>(rv i).ownBlock=some x) hb).gr hg (λk hk=>.inl hk);have hC:Ch (λx=>(rv i).ownBlock=some x\/x=gf) w (wb.setCell ⟨gf,i,none⟩ v2):=(A.mo (λx h=>.inl h)).st (.inl (.inr rfl)) _;have B:wb.ownsRow 0 140 1 fv l.length ((List.range l.length).map rv):=qx A h.ft (λx hx hk=>by have h1:=h.tf x hx;have h2:=h.tr i hi x hk;omega);have I:=vo hr B fu
 have j: ∀x,x<w.heap.size->(if v2.ownBlock=some x then 4+i else oo x)=oo x:=λx hx=>by
    by_cases e1:v2.ownBlock=some x
    ·rw[f02 e1];rcases ho x e1 with e2|e2
     ·exact(h.tr i hi x e2).symm
     ·omega
    ·rw[fx9 e1]
 have q: ∀x,oo x≠0->x<w.heap.size:=λx hx=>(h.ge x hx).2;refine⟨λx=>if v2.ownBlock=some x then 4+i else oo x,⟨?_,?_,?_,λk hk=>?_,(j ob (q ob (by rw[h.tob];omega))).trans h.tob,λx hx=>(j x (q x (by rw[h.tl x hx];omega))).trans (h.tl x hx),λx hx=>(j x (q x (by rw[h.tf x hx];omega))).trans (h.tf x hx),λk hk x hx=>?_,λx hx=>?_⟩,j,hC.mo λx hx=>?_⟩
 ·exact h.bk.ch hC (by rintro(h1|h1);have:=h.tr i hi _ h1;have:=h.tob;omega;rw[<- h1] at D;have:=h.tob;omega)
 ·exact qx hC h.lt (λx hx=>by rintro(h1|h1);have:=h.tr i hi _ h1;have:=h.tl x hx;omega;subst h1;have:=h.tl x hx;omega)
 ·have:=(World.ownsRow.stored (ef▸B) i v2).1;rw[set_put] at this;rw[ef];exact this
 ·by_cases e:k=i
  ·subst e;simp only[Plain.put_same,f0a,fz6,f06,List.map_append,f3c,List.map_nil];exact qx (K:=λx=>x=gf) ((Ch.rf (λx=>x=gf) wb).st (.inl rfl) _) hr (λx hx e=>I x hx (by rw[e,ef];rfl))
  ·simp only[Plain.put_ne _ _ e];exact qx hC (h.rt k hk) (λx hx=>by rintro(h1|h1);have:=h.tr i hi _ h1;have:=h.tr k hk x hx;omega;subst h1;have:=h.tr k hk x hx;omega)
 ·by_cases e:k=i
  ·subst e;simp only[Plain.put_same] at hx;exact f02 hx
  ·simp only[Plain.put_ne _ _ e] at hx;have h4:=h.tr k hk x hx;exact(j x (q x fe)).trans h4
 ·have hx:(if v2.ownBlock=some x then 4+i else oo x)≠0:=hx;rcases f01 x w.heap.size with h'|h'
  ·rw[j x h'] at hx;exact⟨(h.ge x hx).1,f0f h' hC.size⟩
  ·refine⟨by omega,?_⟩;split at hx
   ·have h1:=lr hr x ‹_›;simpa[World.setCell] using h1
   ·have:=q x hx;omega
 ·rcases hx with h1|h1
  ·rw[h.tr i hi x h1];omega
  ·subst h1;omega
def OrM.mark (h:OrM w base ob oo lv fv rv l m) {i:Nat} (hi:i<l.length) {g cap:Nat} (er:rv i=.slice (some ⟨g,0,none⟩) (m i).length cap) (j:Nat):
    OrM (w.setCell ⟨g,j,none⟩ (.bool true)) base ob oo lv fv rv l (Plain.put m i ((m i).set j true))/\Ch (λx=>oo x≠0) w (w.setCell ⟨g,j,none⟩ (.bool true)):=by
 have hg:oo g=4+i:=h.tr i hi g (by rw[er];rfl);have hC:Ch (λx=>x=g) w (w.setCell ⟨g,j,none⟩ (.bool true)):=(Ch.rf (λx=>x=g) w).st (.inl rfl) _;refine⟨⟨h.bk.ch hC (λe=>by have:=h.tob;rw[e] at this;omega),qx hC h.lt (λx hx e=>by have:=h.tl x hx;rw[e] at this;omega),qx hC h.ft (λx hx e=>by have:=h.tf x hx;rw[e] at this;omega),λk hk=>?_,h.tob,h.tl,h.tf,h.tr,λx hx=>⟨(h.ge x hx).1,f0f (h.ge x hx).2 hC.size⟩⟩,hC.mo λx e=>by rw[e];omega⟩;by_cases e:k=i
 ·subst e;simp only[Plain.put_same,List.length_set];have:=(World.ownsRow.stored (er▸h.rt k hk) j (.bool true)).1;rw[er,List.map_set];exact this
 ·simp only[Plain.put_ne _ _ e];exact qx hC (h.rt k hk) (λx hx e'=>by have:=h.tr k hk x hx;rw[e'] at this;omega)
end
structure SeenOk (R:Plain.El->Plain.El->Prop) (H:Plain.El->Prop) (l:List Plain.El) (m:Nat->List Bool):Prop where
 nd:l.Nodup
 hh: ∀x∈l,H x
 len: ∀i,i<l.length->(m i).length<=l.length
 rel: ∀(i j:Nat) x y,l[i]? =some x->l[j]? =some y->(m i)[j]? =some true->R x y
section
variable {R:Plain.El->Plain.El->Prop} {H:Plain.El->Prop} {l l1:List Plain.El} {m m1 m2:Nat->List Bool} {e:Plain.El}
def SeenOk.push (h:SeenOk R H l m) (he:e∉l) (hH:H e):SeenOk R H (l++[e]) (Plain.put m l.length []):=by
 refine⟨List.nodup_append.2 ⟨h.nd,by simp,λx hx y hy=>?_⟩,λx hx=>?_,λi hi=>?_,λi j x y hx hy hm=>?_⟩
 ·obtain rfl:=f3k.1 hy;rintro rfl;exact he hx
 ·rcases fz0.1 hx with hx|hx
  ·exact h.hh x hx
  ·obtain rfl:=f3k.1 hx;exact hH
 ·rw[f0a,fz6,f06] at hi ⊢;by_cases ei:i=l.length
  ·subst ei;simp[Plain.put_same]
  ·rw[Plain.put_ne _ _ ei];have:=h.len i fe;omega
 ·by_cases ei:i=l.length
  ·subst ei;simp[Plain.put_same] at hm
  ·rw[Plain.put_ne _ _ ei] at hm;have q:i<l.length:=by
    have:=(f1c.1 hx).1;simp at this;omega
   have A:=(f1c.1 hm).1;have:=h.len i q;rw[f1d q] at hx;rw[f1d fe] at hy;exact h.rel i j x y hx hy hm
def SeenOk.grow (h:SeenOk R H l m) {i:Nat} (hl:(m i).length<l.length):SeenOk R H l (Plain.put m i (m i++[false])):=by
 refine⟨h.nd,h.hh,λk hk=>?_,λk j x y hx hy hm=>?_⟩
 ·by_cases ek:k=i
  ·subst ek;simp[Plain.put_same];omega
  ·rw[Plain.put_ne _ _ ek];exact h.len k hk
 ·by_cases ek:k=i
  ·subst ek;rw[Plain.put_same] at hm;rcases f01 j (m k).length with hj|hj
   ·rw[f1d hj] at hm;exact h.rel k j x y hx hy hm
   ·rw[f0y hj] at hm;cases hz:j-(m k).length with
    | zero=>rw[hz] at hm;simp at hm
    | succ n=>rw[hz] at hm;simp at hm
  ·rw[Plain.put_ne _ _ ek] at hm;exact h.rel k j x y hx hy hm
def SeenOk.mark (h:SeenOk R H l m) {i k:Nat} {a b:Plain.El} (ha:l[i]? =some a) (hb:l[k]? =some b) (hR:R a b):SeenOk R H l (Plain.put m i ((m i).set k true)):=by
 refine⟨h.nd,h.hh,λq hq=>?_,λq j x y hx hy hm=>?_⟩
 ·by_cases ek:q=i
  ·subst ek;simp only[Plain.put_same,List.length_set];exact h.len q hq
  ·rw[Plain.put_ne _ _ ek];exact h.len q hq
 ·by_cases ek:q=i
  ·subst ek;rw[Plain.put_same] at hm;by_cases ej:k=j
   ·subst ej;rw[hx] at ha;rw[hy] at hb;cases ha;cases hb;exact hR
   ·rw[List.getElem?_set_ne ej] at hm;exact h.rel q j x y hx hy hm
  ·rw[Plain.put_ne _ _ ek] at hm;exact h.rel q j x y hx hy hm
end
def f8s {w:World} {v:Value} {n:Nat} {xs:List Value} (h:w.ownsRow 0 4 1 v n xs) (hn:n<=4000): ∀u,(Builtin.len_ #[140] 3 #[v]).run PV u=.ok (.int .i64 (n:Int)) u:=λu=>by
 rcases h.2 with⟨rfl,h2⟩|⟨g,cap,cur,rfl,_⟩
 ·rw[h2];go_simp
 ·go_simp
def f8y {w:World} {v:Value} {n:Nat} {xs:List Value} (h:w.ownsRow 0 3 1 v n xs) (hn:n<=4000): ∀u,(Builtin.len_ #[46] 3 #[v]).run PV u=.ok (.int .i64 (n:Int)) u:=λu=>by
 rcases h.2 with⟨rfl,h2⟩|⟨g,cap,cur,rfl,_⟩
 ·rw[h2];go_simp
 ·go_simp
abbrev f8t (K:List Nat):List Value:=K.map λk:Nat=>Value.int .i64 (k:Int)
def slen (w:World) (a:Addr):Nat:=match w.cell? a with|some (.slice _ n _)=>n|_=>0
def f8p {w:World} {a:Addr} {v:Value} {n b:Nat} {xs:List Value} {e:TypeId} (hc:w.cell? a=some v) (h:w.ownsRow b e 1 v n xs):slen w a=n:=by
 unfold slen;rw[hc];rcases h.2 with⟨rfl,h2⟩|⟨g,cap,cur,rfl,_⟩
 ·exact h2.symm
 ·rfl
section
variable {w w':World} {base ob:Nat} {oo:Nat->Nat} {R:Plain.El->Plain.El->Prop} {H:Plain.El->Prop} {t:List Plain.El} {tv:Value}
structure f8z (R:Plain.El->Plain.El->Prop) (H:Plain.El->Prop) (base ob:Nat) (oo0:Nat->Nat) (w0 w:World) (X:(Nat->Nat)->List Plain.El->Prop):Prop where
 out: ∃lv fv rv l m oo,OrM w base ob oo lv fv rv l m/\SeenOk R H l m/\Ch (λx=>oo0 x≠0) w0 w/\(∀x,x<w0.heap.size->oo x=oo0 x)/\X oo l
def see_any (ha : ∀x y,R x y-> ¬R y x) (hb: ∀l:List Plain.El,l.Nodup->(∀x∈l,H x)->l.length<=2000) {lv fv:Value} {rv:Nat->Value} {l:List Plain.El} {m:Nat->List Bool} (h:OrM w base ob oo lv fv rv l m) (hS:SeenOk R H l m) (hs:base<=w.heap.size)
    (hT:Txt w tv t) (cd: ∀x,tv.ownBlock=some x->oo x=0) (hR:t.Pairwise R) (hH: ∀x∈t,H x) (bH:t.length<=4000):
    Calls PV 30 #[.pointer (some ⟨ob,0,none⟩),tv] w λx w'=>x=.returned (.bool true)/\f8z R H base ob oo w w' λ_ _=>True:=by
 have bB: ∀x,¬R x x:=λx hx=>ha x x hx hx
 have be:f8z R H base ob oo w w λaI l'=>w.ownsRow 0 3 1 (.slice none 0 0) 0 (f8t [])/\(∀j:Nat,j<0-> ∃k,([]:List Nat)[j]? =some k/\l'[k]? =t[j]?)/\ ∀x,(Value.slice none 0 0).ownBlock=some x->aI x=0/\w.heap.size<=x:=
    ⟨lv,fv,rv,l,m,oo,h,hS,Ch.rf _ _,λ_ _=>rfl,f0w _ _ _ _,λj hj=>by omega,λx hx=>by simp[Value.ownBlock] at hx⟩
 have aY: ∀W,Ch (λx=>oo x≠0) w W->Txt W tv t:=λW hC=>qx hC hT (λx hx hn=>hn (cd x hx));have cJ:=f8f hT bH;have a2:=f8e hT;have cX:=lr hT;obtain⟨i0,bA,aS,bL,bM⟩:=f4i info4;have hI:=fx6 bA;have bZ:=fx6 aS;have b0:=fx6 bL;have b1:=fx6 bM;obtain⟨j0,bN,aT,bO,bP⟩:=f4i info3';have jI:=fx6 bN;have cp:=fx6 aT;have cu:=fx6 bO;have cv:=fx6 bP;clear bA aS bL bM bN aT bO bP;replace aY:=fx6 aY;replace a2:=fx6 a2;replace hb:=fx6 hb;clear h hS hT lv fv rv l m;go_enter PV.func30,Tryz.ntmps30;go_wp2
 go_loopw [5,6] (λkw iv wr=> ∃(i:Nat) (K:List Nat) (kv:Value),kv=kw/\i<=t.length/\iv=.int .i64 (i:Int)/\K.length=i/\f8z R H base ob oo w wr λaI l'=>wr.ownsRow 0 3 1 kv i (f8t K)/\(∀j:Nat,j<i-> ∃k,K[j]? =some k/\l'[k]? =t[j]?)/\ ∀x,kv.ownBlock=some x->aI x=0/\w.heap.size<=x) (λ_ iv _=>t.length-(intOf iv).toNat)
 case atStart => exact⟨0,[],_,rfl,f1n _,rfl,rfl,be⟩
 case round=>
    obtain⟨i,K,kv,rfl,hi,rfl,bm,gI⟩:=hrel;obtain⟨lv,fv,rv,l,m,aI,gO,gS,gC,aL,gK,a5,aJ⟩:=gI.out;clear gI be;by_cases hlt:i<t.length
    ·have cM:(i:Int)<(t.length:Int):=by omega
     obtain⟨e,he⟩: ∃e,t[i]? =some e:=⟨t[i],f0r hlt⟩;have cY:IntKind.i64.wrap ((i:Int)+1)=(i:Int)+1:=f0t _ fe;obtain⟨gt,cC,et⟩: ∃g cap,tv=.slice (some ⟨g,0,none⟩) t.length cap:=by
      rcases a2.out with⟨_,h2⟩|⟨g,cap,h1,_⟩
      ·omega
      ·exact⟨g,cap,h1⟩
     subst et;obtain⟨f0,f1,f2⟩:=fhr he;have bq:=aY.out wr gC;have aN:=f3g bq rfl;have q0:=aN _ _ f0;have q1:=aN _ _ f1;have q2:=aN _ _ f2;simp only[f2u,f1k] at q0 q1 q2;have bI:=hb.out l gS.nd gS.hh;have bp:=fx6 (f8x gO (f08 hs gC.size) bI e);have hsz:=gC.size;clear aN f0 f1 f2 bq;go_wp2_with (first|(go_at_call 71;refine bp.out.mono ?_;rintro ev w1 ⟨k,U,cI,cA,l1,m1,D,rfl,aV,aD,aW,gC1,aC⟩));have aZ:k<l1.length:=(f1c.1 aD).1;have aR: ∀(k':Nat) y,l[k']? =some y->l1[k']? =some y:=λk' y hy=>by
      rcases aW with⟨h1,_⟩|⟨_,h1,_⟩
      ·rw[h1];exact hy
      ·rw[h1,f1d (f1c.1 hy).1];exact hy
     have aK:SeenOk R H l1 m1:=by
      rcases aW with⟨h1,h2⟩|⟨h0,h1,h2⟩
      ·rw[h1,h2];exact gS
      ·rw[h1,h2];exact gS.push h0 (hH e (f3x he))
     have gK1:w1.ownsRow 0 3 1 kv i (f8t K):=qx gC1 gK (λx hx hn=>hn (aJ x hx).1);have aa: ∀j:Nat,j<i-> ∃k x,K[j]? =some k/\l1[k]? =some x/\t[j]? =some x:=λj hj=>by
      obtain⟨k',h1,h2⟩:=a5 j hj;have h3:t[j]? =some (t[j]'(by omega)):=f0r fe;exact⟨k',_,h1,aR k' _ (h2.trans h3),h3⟩
     have M: ∀x,kv.ownBlock=some x->D x=0/\w.heap.size<=x:=λx hx=>⟨(aC x (lr gK x hx)).trans (aJ x hx).1,(aJ x hx).2⟩;have aU:Ch (λx=>oo x≠0) w w1:=gC.tr gC1 (λx hx=>by
      rcases f01 x w.heap.size with h'|h'
      ·exact .inl (by rw[<- aL x h'];exact hx)
      ·exact .inr h')
     have a8: ∀x,x<w.heap.size->D x=oo x:=λx hx=>(aC x (f0f hx gC.size)).trans (aL x hx);have bF:=hb.out l1 aK.nd aK.hh;have cS:=f8y gK1 fe;have cW:base<=w1.heap.size:=f08 hs aU.size;obtain⟨gf,A,ef,_,_⟩:=aV.row aZ;subst ef;clear gO gS gK a5 aJ gC gC1 aL aC aW aR bp q0 q1 q2 bI;replace aa:=fx6 aa
     go_loopw [8] (λjv wq=> ∃(j:Nat) (m2:Nat->List Bool) (aO:Nat->Value) (X:Nat->Nat),j<=i/\jv=.int .i64 (j:Int)/\OrM wq base ob X U (.slice (some ⟨gf,0,none⟩) l1.length A) aO l1 m2/\SeenOk R H l1 m2/\Ch (λx=>D x≠0) w1 wq/\ ∀x,x<w1.heap.size->X x=D x) (λjv _=>i-(intOf jv).toNat)
     case atStart => exact⟨0,m1,cA,D,f1n _,rfl,aV,aK,Ch.rf _ _,λ_ _=>rfl⟩
     case round=>
      obtain⟨j,m2,aO,X,hj,rfl,ap,aA,gC2,ab⟩:=hrel;clear aV aK;have ak:wr.ownsRow 0 3 1 kv i (f8t K):=qx gC2 gK1 (λx hx hn=>hn (M x hx).1);by_cases bC:j<i
      ·have b6:(j:Int)<(i:Int):=by omega
       have cP:IntKind.i64.wrap ((j:Int)+1)=(j:Int)+1:=f0t _ fe;obtain⟨kj,x,bE,aG,cg⟩:=aa.out j bC
       obtain⟨gk,a3,ek⟩: ∃g cap,kv=.slice (some ⟨g,0,none⟩) i cap:=by
          rcases f8e ak with⟨_,h2⟩|⟨g,cap,h1,_⟩
          ·omega
          ·exact⟨g,cap,h1⟩
       subst ek;have I:wr.cell? ⟨gk,j,none⟩=some (.int .i64 (kj:Int)):=(ak.cellAt j fe).trans (by rw[f1s,bE];rfl);have q:kj<l1.length:=(f1c.1 aG).1;have cD:(kj:Int)<(l1.length:Int):=by omega
       have aX:R x e:=by
          obtain⟨h1,h2⟩:=f1c.1 cg;obtain⟨h3,h4⟩:=f1c.1 he;have:=List.pairwise_iff_getElem.1 hR j i h1 h3 bC;rw[h2,h4] at this;exact this
       have bK:((m2 k)[kj]?).getD false=false:=by
          cases hh:(m2 k)[kj]? with
          | none=>rfl
          | some b=>
            cases b with
            | false=>rfl
            | true=>exact absurd (aA.rel k kj e x aD aG hh) (ha _ _ aX)
       have cc: ¬(kj:Int)=(k:Int):=λh=>by
          obtain rfl:kj=k:=by omega
          rw[aD] at aG;cases aG;exact bB _ aX
       have cV:((kj:Int)==(k:Int))=false:=by simpa using cc
       have hW:=was_any ap aZ q bF (f08 (aA.len k aZ) bF);rw[bK] at hW;replace hW:=fx6 hW;have a4: ∃(m3:Nat->List Bool) (C:Nat->Value) (Y:Nat->Nat),OrM wr base ob Y U (.slice (some ⟨gf,0,none⟩) l1.length A) C l1 m3/\SeenOk R H l1 m3/\Ch (λx=>D x≠0) w1 wr/\ ∀x,x<w1.heap.size->Y x=D x:=⟨m2,aO,X,ap,aA,gC2,ab⟩;go_wp2_with (first|(go_at_call 72;refine hW.out.mono ?_;rintro ev w2 ⟨rfl,rfl⟩));clear hW ap aA gC2 ab bK ak I
       go_loopw [56] (λ_ wz=> ∃(m3:Nat->List Bool) (C:Nat->Value) (Y:Nat->Nat),OrM wz base ob Y U (.slice (some ⟨gf,0,none⟩) l1.length A) C l1 m3/\SeenOk R H l1 m3/\Ch (λx=>D x≠0) w1 wz/\ ∀x,x<w1.heap.size->Y x=D x) (λ_ wz=>k+1-slen wz ⟨gf,kj,none⟩)
       case atStart => exact a4
       case round=>
          obtain⟨m3,C,Y,B,aB,ad,ac⟩:=hrel;clear a4;have an:wr.ownsRow 0 3 1 (.slice (some ⟨gk,0,none⟩) i a3) i (f8t K):=qx ad gK1 (λx hx hn=>hn (M x hx).1);have I:wr.cell? ⟨gk,j,none⟩=some (.int .i64 (kj:Int)):=(an.cellAt j fe).trans (by rw[f1s,bE];rfl);have ae:wr.ownsRow 0 140 1 (.slice (some ⟨gf,0,none⟩) l1.length A) l1.length ((List.range l1.length).map C):=B.ft;have O:wr.cell? ⟨gf,kj,none⟩=some (C kj):=(ae.cellAt kj fe).trans (by rw[f1s,f5k q];rfl);have cU:=aB.len kj q;have b9:=f8s (B.rt kj q) fe;have gB:=B.bk;obtain⟨cO,dO⟩:=gB.ceF;have cK:=gB.lt;have bu:=lr an gk rfl;have b5:=lr ae gf rfl;have a7:=fx6 (B.rt kj q);have bT:=fx6 ae;have cj:=fx6 (vo ae (B.rt kj q) fu);have ck:=fx6 (vo (B.rt kj q) an fu);have cm:=fx6 (rp (B.rt kj q) gB fu);have cG:=ad.size;go_upto_region 12 with fail
          refine rn (sel [λw'=>Bk w' ob 93 #[U,.slice (some ⟨gf,0,none⟩) l1.length A],λw'=>w'.cell? ⟨gk,j,none⟩=some (.int .i64 (kj:Int)),λw'=>w'.cell? ⟨gf,kj,none⟩=some (C kj)]) [(.h 9,0),(.h 9,1),(.h 9,2),(.h 0,3),(.h 9,4),(.h 9,5),(.h 9,6),(.h 1,7),(.h 9,8),(.h 2,9),(.h 9,11),(.c [9],10),(.h 9,12)] fd fd (qy (Bk.dr gB) (qy I (qy O (λ_=>un)))) ?_;simp only[vg,fy9,fz4,fz3,fy2,fx7,fy0];iterate 11 (refine oH ?_;try simp only[aps])
          (refine rx (λK hK=>?_);go_simp;refine hK _ _ (rh trivial ry) ?_;clear hK K;try simp only[aps])
          (refine oH ?_;try simp only[aps]);refine ub ?_;clear b9;by_cases hle:(m3 kj).length<=k
          ·have bG:((m3 kj).length:Int)<=(k:Int):=by omega
           go_upto_region 13 with fail
           refine rn (sel [λw'=>Bk w' ob 93 #[U,.slice (some ⟨gf,0,none⟩) l1.length A],λw'=>w'.cell? ⟨gk,j,none⟩=some (.int .i64 (kj:Int)),λw'=>w'.cell? ⟨gf,kj,none⟩=some (C kj)]) [(.h 9,0),(.h 9,1),(.h 9,2),(.h 0,3),(.h 9,4),(.h 9,5),(.h 9,6),(.h 1,7),(.h 9,8),(.h 9,9),(.h 9,10),(.h 0,11),(.h 9,12),(.h 9,13),(.h 9,14),(.h 1,15),(.h 9,16),(.h 2,17),(.c [0,1,2,9],18),(.c [0,1,9],19),(.h 9,20),(.c [],21)] fd fd (qy (Bk.dr (Bk.dr gB)) (qy I (qy O (λ_=>un)))) ?_;simp only[vg,fy9,fz4,fz3,fy2,fx7,fy0];iterate 18 (refine oH ?_;try simp only[aps])
           (refine rx (λK hK=>?_);go_simp;refine hK _ _ (rh (by change Bk _ _ _ _;(repeat' (first|with_reducible assumption|with_reducible exact Bk.nw fi|with_reducible refine Bk.dr ?_|with_reducible refine Bk.al ?_ _|with_reducible refine Bk.bl fq ?_|with_reducible refine Bk.gr fq ?_ ?_|with_reducible refine Bk.fr _ fw ?_|exact gB)) <;>(first|done|fail)) (rh (by change World.cell? _ _=_;exact(f0h (a:=⟨gk,j,none⟩) (f7l _ _ _ bu)).trans I) (rh (by change World.cell? _ _=_;exact(f0h (a:=⟨gf,kj,none⟩) (f7l _ _ _ b5)).trans O) (rh trivial ry)))) ?_;clear hK K;try simp only[aps])
           (refine rx (λK hK=>?_);refine wp_append_lies _ (.tmp 74) (.tmp 75) _ rfl 0 4 i0 _ 1 1 und140 hI.out bZ.out b0.out b1.out rfl fe (C kj) (m3 kj).length ((m3 kj).map Value.bool) rfl (qx (K:=λ_=>False) (Ch.ba ga) a7.out (λ_ _ h=>h)) ⟨_,0,none⟩ 1 1 [.bool false] rfl rfl (f2m (cs:=#[.bool false]) (t:=4) (fr:=(0,0)) (Bk.nw fi).at_) p9 fe jq fe fi _ rfl ?_;intro gg J w4 aH aE aP bJ;have aF:w4.ownsRow 0 140 1 (.slice (some ⟨gf,0,none⟩) l1.length A) l1.length ((List.range l1.length).map C):=qx (K:=λx=>(C kj).ownBlock=some x) ((Ch.ba ga).gr aE (λk hk=>.inl hk)) bT.out (λx hx e=>cj.out x hx e);have c4:w4.cell? ⟨gf,kj,none⟩=some (C kj):=(aF.cellAt kj fe).trans (by rw[f1s,f5k q];rfl);have d4:=aF.frozenAt kj;refine hK _ _ (rh (Bk.gr aE (λe=>cm.out _ e.symm rfl) (Bk.al (Bk.dr (Bk.dr gB)) _)) (rh (by change World.cell? _ _=_;exact((f0h (a:=⟨gk,j,none⟩) (aE.block gk ja (λe=>ck.out _ e.symm rfl))).trans (f0h (a:=⟨gk,j,none⟩) (f7l _ _ _ bu))).trans I) (rh trivial ry))) ?_;clear hK K;try simp only[aps])
           (refine oH ?_;try simp only[aps])
           (refine rx (λK hK=>?_);go_simp;refine hK _ _ ry ?_;clear hK K;try simp only[aps]);refine ub ?_;obtain⟨cx,aM,br,a9⟩:=B.grow (v2:=.slice (some ⟨gg,0,none⟩) ((m3 kj).length+1) J) fe q ((Bl.rf _).dr.dr.al _) aE aH (λx hx=>by obtain rfl:gg=x:=f7n;exact aP.imp id (λe=>by rw[e];simp)) rfl;have bV:=aB.grow (i:=kj) fe
           have bQ:Ch (λx=>D x≠0) w1 (w4.setCell ⟨gf,kj,none⟩ (.slice (some ⟨gg,0,none⟩) ((m3 kj).length+1) J)):=ad.tr a9 (λx hx=>by
             rcases f01 x w1.heap.size with h'|h'
             ·exact .inl (by rw[<- ac x h'];exact hx)
             ·exact .inr h')
           have ca:slen wr ⟨gf,kj,none⟩=(m3 kj).length:=f8p O (B.rt kj q)
           have cb:slen (w4.setCell ⟨gf,kj,none⟩ (.slice (some ⟨gg,0,none⟩) ((m3 kj).length+1) J)) ⟨gf,kj,none⟩=(m3 kj).length+1:=by
             have h1:(w4.setCell ⟨gf,kj,none⟩ (.slice (some ⟨gg,0,none⟩) ((m3 kj).length+1) J)).ownsRow 0 140 1 (.slice (some ⟨gf,0,none⟩) l1.length A) l1.length ((List.range l1.length).map (Plain.put C kj (.slice (some ⟨gg,0,none⟩) ((m3 kj).length+1) J))):=aM.ft;have h2:=(h1.cellAt kj fe).trans (by rw[f1s,f5k q]);have h3:=aM.rt kj q;rw[Plain.put_same] at h3;have h4:=f8p h2 (aM.rt kj q);rw[h4,Plain.put_same,f0a];rfl
           clear aH aE aP bJ aF c4 d4 I O ae an cO dO gB B aB ad a9;go_wp2_with fail
           go_roundw
           case rel=>
             exact⟨_,_,cx,aM,bV,bQ,λx hx=>(br x fe).trans (ac x hx)⟩
           case measure => rw[cb,ca];omega
          ·have bG: ¬((m3 kj).length:Int)<=(k:Int):=by omega
           have cQ:(k:Int)<((m3 kj).length:Int):=by omega
           obtain⟨g3,ah,e3⟩: ∃g cap,C kj=.slice (some ⟨g,0,none⟩) (m3 kj).length cap:=by
             rcases f8e (B.rt kj q) with⟨_,h2⟩|⟨g,cap,h1,_⟩
             ·omega
             ·exact⟨g,cap,h1⟩
           have aQ:wr.cell? ⟨gf,kj,none⟩=some (.slice (some ⟨g3,0,none⟩) (m3 kj).length ah):=O.trans (by rw[e3]);have a1:wr.ownsRow 0 4 1 (.slice (some ⟨g3,0,none⟩) (m3 kj).length ah) (m3 kj).length ((m3 kj).map Value.bool):=e3▸B.rt kj q;have b2:wr.cell? ⟨g3,k,none⟩=some (.bool (m3 kj)[k]):=(a1.cellAt k fe).trans (by rw[f1s,f0r fe];rfl);have b3:=a1.frozenAt k;go_upto_region 14 with fail
           refine rn (sel [λw'=>Bk w' ob 93 #[U,.slice (some ⟨gf,0,none⟩) l1.length A],λw'=>w'.cell? ⟨gk,j,none⟩=some (.int .i64 (kj:Int)),λw'=>w'.cell? ⟨gf,kj,none⟩=some (.slice (some ⟨g3,0,none⟩) (m3 kj).length ah)]) [(.h 9,0),(.h 9,1),(.h 9,2),(.h 0,3),(.h 9,4),(.h 9,5),(.h 9,6),(.h 1,7),(.h 9,8),(.h 2,9),(.h 9,10),(.h 9,11),(.c [],12)] fd fd (qy (Bk.dr (Bk.dr gB)) (qy I (qy aQ (λ_=>un)))) ?_;simp only[vg,fy9,fz4,fz3,fy2,fx7,fy0];iterate 12 (refine oH ?_;try simp only[aps])
           (refine rx (λK hK=>?_);go_simp;refine hK _ _ ry ?_;clear hK K;try simp only[aps]);refine ub ?_;obtain⟨bY,bb⟩:=B.mark q e3 k;have bW:=aB.mark (i:=kj) aG aD aX
           have bR:Ch (λx=>D x≠0) w1 (wr.setCell ⟨g3,k,none⟩ (.bool true)):=ad.tr bb (λx hx=>by
             rcases f01 x w1.heap.size with h'|h'
             ·exact .inl (by rw[<- ac x h'];exact hx)
             ·exact .inr h')
           clear I O aQ ae an cO dO gB B aB ad bb b2 b3 a1;go_wp2_with fail
           go_roundw
           case rel => exact⟨j+1,_,_,Y,by omega,by simp,bY.bl ((Bl.rf _).dr.dr),bW,bR.dr.dr,ac⟩
           case measure => simp[intOf];omega
      ·obtain rfl:j=i:=by omega
       have b6: ¬(j:Int)<(j:Int):=by omega
       have a6:=fx6 ak;have b8:=lr gK1;clear ak;go_wp2_with (first|(at_builtin;refine wpList_append_lies _ rfl (.tmp 90) (.tmp 92) _ rfl 0 3 j0 _ 1 8 und46 jI.out cp.out cu.out cv.out rfl fe kv j (f8t K) rfl (qx (K:=λ_=>False) (Ch.ba ((Bl.rf _).al _)) a6.out (λ_ _ h=>h)) ⟨wr.heap.size,0,none⟩ 1 1 [.int .i64 (k:Int)] rfl rfl (f2m (cs:=#[.int .i64 (k:Int)]) (t:=3) (fr:=(0,0)) (f3n wr _)) p9 fe jq fe fi _ rfl ?_;intro g8 cB w8 a0 bX bs cE));have bc:Ch (λx=>kv.ownBlock=some x) wr w8:=((Ch.rf _ wr).al _).gr bX (λk hk=>.inl hk);have bD: ∀x,kv.ownBlock=some x->X x=0:=λx hx=>(ab x (b8 x hx)).trans (M x hx).1;have cF:=gC2.size;have cH:=aU.size
       have b4:X g8=0/\w.heap.size<=g8:=by
          rcases bs with e8|e8
          ·exact⟨bD g8 e8,(M g8 e8).2⟩
          ·have e9:wr.heap.size<g8:=by rw[e8];simp
           refine⟨f1e λh0=>?_,by omega⟩;have:=(ap.ge g8 h0).2;omega
       have bU:=ap.ch bc bD
       have bS:Ch (λx=>oo x≠0) w w8:=(aU.tr gC2 (λx hx=>by
          rcases f01 x w.heap.size with h'|h'
          ·exact .inl (by rw[<- a8 x h'];exact hx)
          ·exact .inr h')).tr bc (λx hx=>.inr (M x hx).2)
       go_roundw
       case rel=>
          refine⟨j+1,K++[k],_,rfl,by omega,by simp,by simp[bm],U,_,aO,l1,m2,X,bU,aA,bS,λx hx=>(ab x fe).trans (a8 x hx),by simpa using a0,λj' cN=>?_,λx hx=>by obtain rfl:g8=x:=f7n;exact b4⟩;rcases f01 j' j with h'|h'
          ·obtain⟨k',x,h1,h2,h3⟩:=aa.out j' h';exact⟨k',by rw[f1d fe];exact h1,h2.trans h3.symm⟩
          ·obtain rfl:j'=j:=by omega
           exact⟨k,by rw[f0y fe];simp[bm],aD.trans he.symm⟩
       case measure => simp[intOf];omega
    ·obtain rfl:i=t.length:=by omega
     go_wp2_with fail;go_ret;exact⟨rfl,lv,fv,rv,l,m,aI,gO,gS,gC,aL,trivial⟩
end
end Go.Proofs.YtelecjnabeokeaaGreatDoor
namespace Go.Proofs.YtelecjnabeokeaaGreatDoor
namespace Plain
variable {Φ Φ':List El->Prop} {T Tc Ts E E':List El} {P Q:List Sent} {a:Chg} {x z:El}
def Row (Φ:List El->Prop):List El->List Sent->Prop
 | T,[]=>Φ T
 | T,s::P=>Φ T/\Row Φ (apply s.chg T) P
def Grid (Φ:List El->Prop):List El->List Sent->List Sent->Prop
 | T,P,[]=>Row Φ T P
 | T,P,q::Q=>Row Φ T P/\Grid Φ (apply q.chg T) (turn q.chg 0 P).2.2 Q
def edge:List Sent->List Sent->List Sent
 | _,[]=>[]
 | P,q::Q=>⟨(turn q.chg 0 P).1,0⟩::edge (turn q.chg 0 P).2.2 Q
def bot:List Sent->List Sent->List Sent
 | P,[]=>P
 | P,q::Q=>bot (turn q.chg 0 P).2.2 Q
def Row.head (h:Row Φ T P):Φ T:=by cases P with|nil=>exact h|cons s P=>exact h.1
def Row.last (h:Row Φ T P) (r:Runs T P Tc):Φ Tc:=by
 induction P generalizing T with
 | nil=>obtain rfl:T=Tc:=r;exact h
 | cons s P ih=>exact ih h.2 r.2
def Row.mono (h:Row Φ T P) (hm: ∀t,Φ t->Φ' t):Row Φ' T P:=by
 induction P generalizing T with
 | nil=>exact hm _ h
 | cons s P ih=>exact⟨hm _ h.1,ih h.2⟩
def Grid.mono (h:Grid Φ T P Q) (hm: ∀t,Φ t->Φ' t):Grid Φ' T P Q:=by
 induction Q generalizing T P with
 | nil=>exact Row.mono h hm
 | cons q Q ih=>exact⟨h.1.mono hm,ih h.2⟩
def Grid.row (h:Grid Φ T P Q):Row Φ T P:=by cases Q with|nil=>exact h|cons q Q=>exact h.1
def Row.snoc {s:Sent} (h:Row Φ T P) (r:Runs T P Tc) (hs:Φ (apply s.chg Tc)):Row Φ T (P++[s]):=by
 induction P generalizing T with
 | nil=>obtain rfl:T=Tc:=r;exact⟨h,hs⟩
 | cons s P ih=>exact⟨h.1,ih h.2 r.2⟩
def Grid.bot (h:Grid Φ T P Q) (r:Runs T Q Ts):Row Φ Ts (bot P Q):=by
 induction Q generalizing T P with
 | nil=>obtain rfl:T=Ts:=r;exact h
 | cons q Q ih=>exact ih h.2 r.2
def f9a (r:Runs T P Tc) (rs:Runs T Q Ts) (hc: ∀p∈P,∀q∈Q,p.chg.cl≠q.chg.cl): ∃X,Runs Ts (Plain.bot P Q) X:=by
 induction Q generalizing T P Tc with
 | nil=>obtain rfl:T=Ts:=rs;exact⟨_,r⟩
 | cons q Q ih=>
   have h1:=r.turn 0 rs.1 λs hs=>hc s hs q fz5;exact ih h1.2 rs.2 (λp hp q' j=>fn7 (Pr:=λc=>c≠q'.chg.cl) (λs hs=>hc s hs q' (f0c _ j)) p hp)
def Grid.edge (h:Grid Φ T P Q) (r:Runs T P Tc) (rs:Runs T Q Ts) (hc: ∀p∈P,∀q∈Q,p.chg.cl≠q.chg.cl):Row Φ Tc (edge P Q)/\ ∃X,Runs Tc (Plain.edge P Q) X:=by
 induction Q generalizing T P Tc with
 | nil=>exact⟨Row.last h r,_,rfl⟩
 | cons q Q ih=>
   have h1:=r.turn 0 rs.1 λs hs=>hc s hs q fz5;obtain⟨h2,X,h3⟩:=ih h.2 h1.2 rs.2 (λp hp q' j=>fn7 (Pr:=λc=>c≠q'.chg.cl) (λs hs=>hc s hs q' (f0c _ j)) p hp);exact⟨⟨h.1.last r,h2⟩,X,h1.1,h3⟩
def Grid.snoc {s:Sent} {k:Int} (h:Grid Φ T P Q) (r:Runs T P Tc) (rs:Runs T Q Ts) (hc: ∀p∈P++[s],∀q∈Q,p.chg.cl≠q.chg.cl) (hf:Fits s.chg Tc.length)
    (hr:Row Φ (apply s.chg Tc) (turn s.chg k (Plain.edge P Q)).2.2):Grid Φ T (P++[s]) Q:=by
 induction Q generalizing T P Tc s k with
 | nil=>exact Row.snoc h r hr
 | cons q Q ih=>
   refine⟨h.1.snoc r hr.head,?_⟩;have hq: ∀s∈P,s.chg.cl≠q.chg.cl:=λp hp=>hc p (List.mem_append_left _ hp) q fz5;have h1:=r.turn 0 rs.1 hq;rw[turn_append];have m:s.chg.cl≠(turn q.chg 0 P).1.cl:=by rw[frz];exact hc s fi q fz5
   refine ih (s:=⟨past s.chg (turn q.chg 0 P).1,s.mine⟩) (k:=index (past (turn q.chg 0 P).1 s.chg) k) h.2 h1.2 rs.2 ?_ ?_ ?_
   ·intro p hp q' j;rcases fz0.1 hp with hp|hp
    ·exact fn7 (Pr:=λc=>c≠q'.chg.cl) (λs hs=>hc s (List.mem_append_left _ hs) q' (f0c _ j)) p hp
    ·obtain rfl:=f3k.1 hp;rw[past_cl];exact hc s fi q' (f0c _ j)
   ·rw[f4k h1.1];exact lq hf h1.1
   ·rw[<- fw8 hf h1.1 m];exact hr.2
def Grid.more {s:Sent} {k:Int} (h:Grid Φ T P Q) (rs:Runs T Q Ts) (hr:Row Φ (apply s.chg Ts) (turn s.chg k (Plain.bot P Q)).2.2):Grid Φ T P (Q++[s]):=by
 induction Q generalizing T P with
 | nil=>obtain rfl:T=Ts:=rs;exact⟨h,by rw[f8j _ 0 k];exact hr⟩
 | cons q Q ih=>exact⟨h.1,ih h.2 rs.2 hr⟩
def Grid.left {p:Sent} {k:Int} (h:Grid Φ T (p::P) Q) (r:Runs T (p::P) Tc) (rs:Runs T Q Ts) (hc: ∀s∈p::P,∀q∈Q,s.chg.cl≠q.chg.cl):Grid Φ (apply p.chg T) P (turn p.chg k Q).2.2:=by
 induction Q generalizing T P Tc p k with
 | nil=>exact(show Row Φ T (p::P) from h).2
 | cons q Q ih=>
   have hq: ∀s∈p::P,s.chg.cl≠q.chg.cl:=λs hs=>hc s hs q fz5;have h1:=r.turn 0 rs.1 hq;refine⟨h.1.2,?_⟩;have h2:=h.2;have h3:=ih (p:=⟨past p.chg q.chg,p.mine⟩) (k:=index (past q.chg p.chg) k) h2 h1.2 rs.2 (λs hs q' j=>fn7 (Pr:=λc=>c≠q'.chg.cl) (λs hs=>hc s hs q' (f0c _ j)) s hs);simp only[] at h3;rw[<- fw8 r.1 rs.1 (hq p fz5)] at h3;rw[f8j _ 0 (index (past p.chg q.chg) 0)];exact h3
def ins (P:List Sent):List El:=(P.filter λs=>decide (s.chg.kind=1)).map λs=>s.chg.e
def f7o (s:Sent) (P:List Sent):ins (s::P)=if s.chg.kind=1 then s.chg.e::ins P else ins P:=by
 unfold ins;rw[List.filter_cons];by_cases h:s.chg.kind=1 <;>simp[h]
def f7r (P Q:List Sent):ins (P++Q)=ins P++ins Q:=by unfold ins;rw[List.filter_append,List.map_append]
def f7q (a b:Chg):(past a b).kind=1↔a.kind=1:=by
 unfold past;repeat' split
 all_goals simp_all
def f8q {a b:Chg} (h:a.kind=1):(past a b).e=a.e:=by unfold past;rw[f02 h]
def f7y (a:Chg) (k:Int) (P:List Sent):ins (turn a k P).2.2=ins P:=by
 induction P generalizing a k with
 | nil=>rfl
 | cons s P ih=>
   simp only[turn];rw[f7o,f7o,ih];by_cases h:s.chg.kind=1
   ·rw[f02 ((f7q _ _).2 h),f02 h];rw[f8q h]
   ·rw[fx9 (λh'=>h ((f7q _ _).1 h')),fx9 h]
def f7w (a:Chg) (k:Int) (P:List Sent):(turn a k P).1.kind=1↔a.kind=1:=by
 induction P generalizing a k with
 | nil=>exact Iff.rfl
 | cons s P ih=>simp only[turn];rw[ih,f7q]
def f8r {a:Chg} (k:Int) (P:List Sent) (h:a.kind=1):(turn a k P).1.e=a.e:=by
 induction P generalizing a k with
 | nil=>rfl
 | cons s P ih=>simp only[turn];rw[ih _ ((f7q _ _).2 h),f8q h]
def f8k (P Q:List Sent):ins (bot P Q)=ins P:=by
 induction Q generalizing P with
 | nil=>rfl
 | cons q Q ih=>exact(ih _).trans (f7y _ _ _)
def f8l (P Q:List Sent):ins (edge P Q)=ins Q:=by
 induction Q generalizing P with
 | nil=>rfl
 | cons q Q ih=>
   simp only[edge];rw[f7o,f7o,ih];by_cases h:q.chg.kind=1
   ·rw[f02 ((f7w _ _ _).2 h),f02 h];rw[f8r _ _ h]
   ·rw[fx9 (λh'=>h ((f7w _ _ _).1 h')),fx9 h]
def edge_cl {c:Int} (h: ∀s∈Q,s.chg.cl≠c): ∀s∈edge P Q,s.chg.cl≠c:=by
 induction Q generalizing P with
 | nil=>intro s hs;cases hs
 | cons q Q ih=>
   intro s hs;rcases fy3.1 hs with rfl|hs
   ·rw[frz];exact h q fz5
   ·exact ih (λs hs=>h s (f0c _ hs)) s hs
def bot_cl {c:Int} (h: ∀s∈P,s.chg.cl=c): ∀s∈bot P Q,s.chg.cl=c:=by
 induction Q generalizing P with
 | nil=>exact h
 | cons q Q ih=>exact ih (fn7 (Pr:=λx=>x=c) h)
def f7z (h:x∈apply a E):x∈E\/a.kind=1/\x=a.e:=by
 unfold apply at h;split at h
 ·rename_i k;rcases fz0.1 h with h|h
  ·exact .inl (List.mem_of_mem_take h)
  ·rcases fy3.1 h with h|h
   ·exact .inr ⟨k,h⟩
   ·exact .inl (List.mem_of_mem_drop h)
 ·split at h
  ·rcases fz0.1 h with h|h
   ·exact .inl (List.mem_of_mem_take h)
   ·exact .inl (List.mem_of_mem_drop h)
  ·exact .inl h
def Runs.mem (r:Runs E P E') (h:x∈E'):x∈E\/x∈ins P:=by
 induction P generalizing E with
 | nil=>obtain rfl:E=E':=r;exact .inl h
 | cons s P ih=>
   rcases ih r.2 with h|h
   ·rcases f7z h with h|⟨k,e⟩
    ·exact .inl h
    ·right;rw[f7o,f02 k,e];exact fz5
   ·right;rw[f7o];split
    ·exact f0c _ h
    ·exact h
def LeftOf (a:Chg) (x:El):List El->List Sent->Prop
 | E,[]=>x∈E.take a.pos.toNat
 | E,s::P=>x∈E.take a.pos.toNat\/LeftOf (past a s.chg) x (apply s.chg E) P
def RightOf (a:Chg) (x:El):List El->List Sent->Prop
 | E,[]=>x∈E.drop a.pos.toNat
 | E,s::P=>x∈E.drop a.pos.toNat\/RightOf (past a s.chg) x (apply s.chg E) P
def f9b {E:List El} {n:Nat} (h:x∈E.take n): ∃i,i<n/\E[i]? =some x:=by
 obtain⟨i,hi⟩:=List.mem_iff_getElem?.1 h;rw[f5r] at hi;split at hi
 ·exact⟨i,‹_›,hi⟩
 ·cases hi
def f9c {E:List El} {n:Nat} (h:x∈E.drop n): ∃i,n<=i/\E[i]? =some x:=by
 obtain⟨i,hi⟩:=List.mem_iff_getElem?.1 h;rw[List.getElem?_drop] at hi;exact⟨n+i,by omega,hi⟩
def f8a {E:List El} {n i:Nat} (h:i<n) (h':E[i]? =some x):x∈E.take n:=by
 refine List.mem_iff_getElem?.2 ⟨i,?_⟩;rw[f5r,f02 h,h']
def f8b {E:List El} {n i:Nat} (h:n<=i) (h':E[i]? =some x):x∈E.drop n:=by
 refine List.mem_iff_getElem?.2 ⟨i-n,?_⟩;rw[List.getElem?_drop,show n+(i-n)=i by omega,h']
def f8m {b:Chg} (ha:Fits a E.length) (hb:Fits b E.length) (hk:a.kind=1) (h:x∈(apply b E).take (past a b).pos.toNat):x∈E.take a.pos.toNat\/b.kind=1/\x=b.e:=by
 obtain⟨i,hi,hx⟩:=f9b h;rw[fad hb] at hx;have hp:(past a b).pos=insPast a.pos a.cl b:=by unfold past;rw[f02 hk]
 rw[hp] at hi;have h1:=ha.1 hk;unfold insPast at hi;by_cases k1:b.kind=1
 ·have h2:=hb.1 k1;rw[f02 k1] at hx hi;by_cases c1:(i:Int)<b.pos
  ·rw[f02 c1] at hx;exact .inl (f8a f7m hx)
  ·rw[fx9 c1] at hx;by_cases c2:(i:Int)=b.pos
   ·rw[f02 c2] at hx;exact .inr ⟨k1,(fy7 hx).symm⟩
   ·rw[fx9 c2] at hx;exact .inl (f8a f7m hx)
 ·rw [fx9 k1] at hx hi;by_cases k2:b.kind=2
  ·have h2:=hb.2 k2;rw[f02 k2] at hx hi;by_cases c1:(i:Int)<b.pos
   ·rw[f02 c1] at hx;exact .inl (f8a f7m hx)
   ·rw[fx9 c1] at hx;exact .inl (f8a f7m hx)
  ·rw[fx9 k2] at hx hi;exact .inl (f8a hi hx)
def f8h {b:Chg} (ha:Fits a E.length) (hb:Fits b E.length) (hk:a.kind=1) (h:x∈(apply b E).drop (past a b).pos.toNat):x∈E.drop a.pos.toNat\/b.kind=1/\x=b.e:=by
 obtain⟨i,hi,hx⟩:=f9c h;rw[fad hb] at hx;have hp:(past a b).pos=insPast a.pos a.cl b:=by unfold past;rw[f02 hk]
 rw[hp] at hi;have h1:=ha.1 hk;unfold insPast at hi;by_cases k1:b.kind=1
 ·have h2:=hb.1 k1;rw[f02 k1] at hx hi;by_cases c1:(i:Int)<b.pos
  ·rw[f02 c1] at hx;exact .inl (f8b f7m hx)
  ·rw[fx9 c1] at hx;by_cases c2:(i:Int)=b.pos
   ·rw[f02 c2] at hx;exact .inr ⟨k1,(fy7 hx).symm⟩
   ·rw[fx9 c2] at hx;exact .inl (f8b f7m hx)
 ·rw [fx9 k1] at hx hi;by_cases k2:b.kind=2
  ·have h2:=hb.2 k2;rw[f02 k2] at hx hi;by_cases c1:(i:Int)<b.pos
   ·rw[f02 c1] at hx;exact .inl (f8b f7m hx)
   ·rw[fx9 c1] at hx;exact .inl (f8b f7m hx)
  ·rw[fx9 k2] at hx hi;exact .inl (f8b hi hx)
def f8c {b:Chg} (ha:Fits a E.length) (hb:Fits b E.length):Fits (past a b) (apply b E).length:=by rw[f4k hb];exact lq ha hb
def LeftOf.of (h:LeftOf a x E P) (r:Runs E P E') (hf:Fits a E.length) (hk:a.kind=1):x∈E.take a.pos.toNat\/x∈ins P:=by
 induction P generalizing E a with
 | nil=>exact .inl h
 | cons s P ih=>
   rcases h with h|h
   ·exact .inl h
   ·rcases ih h r.2 (f8c hf r.1) ((f7q _ _).2 hk) with h|h
    ·rcases f8m hf r.1 hk h with h|⟨k,e⟩
     ·exact .inl h
     ·right;rw[f7o,f02 k,e];exact fz5
    ·right;rw[f7o];split
     ·exact f0c _ h
     ·exact h
def RightOf.of (h:RightOf a x E P) (r:Runs E P E') (hf:Fits a E.length) (hk:a.kind=1):x∈E.drop a.pos.toNat\/x∈ins P:=by
 induction P generalizing E a with
 | nil=>exact .inl h
 | cons s P ih=>
   rcases h with h|h
   ·exact .inl h
   ·rcases ih h r.2 (f8c hf r.1) ((f7q _ _).2 hk) with h|h
    ·rcases f8h hf r.1 hk h with h|⟨k,e⟩
     ·exact .inl h
     ·right;rw[f7o,f02 k,e];exact fz5
    ·right;rw[f7o];split
     ·exact f0c _ h
     ·exact h
def f7u {E:List El} {n:Nat} (h:E.Nodup) (h1:x∈E.take n) (h2:x∈E.drop n):False:=by
 rw[<- List.take_append_drop n E] at h;exact(List.nodup_append.1 h).2.2 x h1 x h2 rfl
def sides (hl:LeftOf a x E P) (hr:RightOf a x E P) (r:Runs E P E') (hf:Fits a E.length) (hk:a.kind=1) (hn:Row List.Nodup E P) (hi:(ins P).Nodup) (hd: ∀y∈ins P,y∉E):False:=by
 induction P generalizing E a with
 | nil=>exact f7u hn hl hr
 | cons s P ih=>
   have m: ∀y∈ins P,y∉E:=λy hy=>hd y (by rw[f7o];split;exact f0c _ hy;exact hy);have B:s.chg.kind=1->s.chg.e∉E:=λk=>hd _ (by rw[f7o,f02 k];exact fz5);have D:(ins P).Nodup:=by rw[f7o] at hi;split at hi;exact(List.nodup_cons.1 hi).2;exact hi
   have C:s.chg.kind=1->s.chg.e∉ins P:=λk=>by rw[f7o,f02 k] at hi;exact(List.nodup_cons.1 hi).1
   have q:=f8c hf r.1;have A:(past a s.chg).kind=1:=(f7q _ _).2 hk;rcases hl with hl|hl
   ·rcases hr with hr|hr
    ·exact f7u hn.1 hl hr
    ·have j:=List.mem_of_mem_take hl;rcases hr.of r.2 q A with h|h
     ·rcases f8h hf r.1 hk h with h|⟨k,e⟩
      ·exact f7u hn.1 hl h
      ·exact B k (e▸j)
     ·exact m _ h j
   ·rcases hr with hr|hr
    ·have j:=List.mem_of_mem_drop hr;rcases hl.of r.2 q A with h|h
     ·rcases f8m hf r.1 hk h with h|⟨k,e⟩
      ·exact f7u hn.1 h hr
      ·exact B k (e▸j)
     ·exact m _ h j
    ·refine ih hl hr r.2 q A hn.2 D λy hy I=>?_;rcases f7z I with h|⟨k,e⟩
     ·exact m y hy h
     ·exact C k (e▸hy)
def Std (R:El->El->Prop) (t:List El):Prop:=t.Pairwise R
variable {R:El->El->Prop}
def Std.apply_other (h:Std R E) (hk:a.kind≠1):Std R (apply a E):=by
 unfold apply;rw[fx9 hk];split
 ·refine List.Pairwise.sublist ?_ h;rw[<- List.take_append_drop a.pos.toNat E];simp only[List.take_append_drop]
  conv=>rhs;rw[<- List.take_append_drop a.pos.toNat E]
  refine List.Sublist.append (List.Sublist.refl _) ?_;rw[<- List.drop_drop];exact List.drop_sublist _ _
 ·exact h
def Std.apply_ins (h:Std R E) (hk:a.kind=1) (hl: ∀y∈E.take a.pos.toNat,R y a.e) (hr: ∀y∈E.drop a.pos.toNat,R a.e y):Std R (apply a E):=by
 unfold apply Std;rw[f02 hk,f0m,f1h];have h':(E.take a.pos.toNat++E.drop a.pos.toNat).Pairwise R:=by rw[List.take_append_drop];exact h
 obtain⟨h1,h2,h3⟩:=f0m.1 h';refine⟨h1,⟨hr,h2⟩,λy hy w hw=>?_⟩;rcases fy3.1 hw with rfl|hw
 ·exact hl y hy
 ·exact h3 y hy w hw
def Row.lay {k:Int} (h:Row (Std R) E P) (r:Runs E P E') (hf:Fits a E.length) (hc: ∀s∈P,s.chg.cl≠a.cl)
    (hl:a.kind=1-> ∀y,LeftOf a y E P->R y a.e) (hr:a.kind=1-> ∀y,RightOf a y E P->R a.e y):Row (Std R) (apply a E) (turn a k P).2.2:=by
 have one: ∀{a E},Std R E->(a.kind=1-> ∀y∈E.take a.pos.toNat,R y a.e)->(a.kind=1-> ∀y∈E.drop a.pos.toNat,R a.e y)->Std R (apply a E):=λ{a E} h hl hr=>by
    by_cases k:a.kind=1
    ·exact h.apply_ins k (hl k) (hr k)
    ·exact h.apply_other k
 induction P generalizing E a k with
 | nil=>exact one h (λk y hy=>hl k y hy) (λk y hy=>hr k y hy)
 | cons s P ih=>
   refine⟨one h.1 (λk y hy=>hl k y (.inl hy)) (λk y hy=>hr k y (.inl hy)),?_⟩;show Row _ (apply (past s.chg a) (apply a E)) _;rw[fw8 hf r.1 (f3w (hc s fz5))];refine ih h.2 r.2 (f8c hf r.1) (λs' j=>by rw[past_cl];exact hc s' (f0c _ j)) (λk y hy=>?_) (λk y hy=>?_)
   ·rw[f8q ((f7q _ _).1 k)];exact hl ((f7q _ _).1 k) y (.inr hy)
   ·rw[f8q ((f7q _ _).1 k)];exact hr ((f7q _ _).1 k) y (.inr hy)
def Std.nodup (h:Std R E) (hR: ∀x,¬R x x):E.Nodup:=by
 unfold List.Nodup;refine List.Pairwise.imp (λj e=>?_) h;subst e;exact hR _ j
end Plain
namespace Plain
structure Ok (R:El->El->Prop) (N:List El) (c ty:Int) (T:List El) (Pc Ps:List Sent):Prop where
 grid:Grid (Std R) T Pc Ps
 got: ∃G,(N.filter λx=>decide (x.c≠c))=G++ins Ps/\ ∀x∈T,(x∈N/\x.c=c)\/x∈G
 own:((N.filter λx=>decide (x.c=c))++ins Pc).Nodup
 ownc: ∀x∈ins Pc,x.c=c/\x.n<=ty
def inl (L:List Chg):List El:=ins (L.map λa=>⟨a,0⟩)
def f7x (L:List Chg) (a:Chg) (m:Int):inl (L++[a])=inl L++ins [⟨a,m⟩]:=by
 unfold inl;rw[List.map_append,f7r];refine f3q (_++ ·) ?_;show ins [_]=_;rw[f7o,f7o]
def f7s (a:Chg) (m:Int):ins [⟨a,m⟩]=if a.kind=1 then [a.e] else []:=by rw[f7o];rfl
def Old (S:Ses) (x:El):Prop:=0<=x.c/\x.n<=(S.cl x.c.toNat).typed
def f7p (S:Ses) (c:Nat):List Sent:=unseen (S.ends c).other (S.cl c).en.row
def f7t (S:Ses) (c:Nat):List Sent:=unseen (S.cl c).en.other (S.ends c).row
structure Sorted (S:Ses) (R:El->El->Prop):Prop where
 anti: ∀x y,R x y-> ¬R y x
 old: ∀x y,R x y->Old S x/\Old S y
 mix: ∀x y,R x y->x∈inl S.log\/y∈inl S.log\/x.c=y.c
 nodup:(inl S.log).Nodup
 nold: ∀x∈inl S.log,Old S x
 pair: ∀c,c<S.n->Pair (Ok R (inl S.log) c (S.cl c).typed) c (S.cl c).text S.text (S.cl c).cur (S.curs c) (S.cl c).en (S.ends c) (S.cl c).up (S.cl c).down
def Pair.imp {Z Z':List El->List Sent->List Sent->Prop} {cl:Int} {Tc Ts:List El} {kc ks:Int} {ec es:EndS} {U D:List Frm} (h:Pair Z cl Tc Ts kc ks ec es U D) (hi: ∀T P Q,Z T P Q->Z' T P Q):Pair Z' cl Tc Ts kc ks ec es U D:=by
 obtain⟨⟨T,Qc,Pc,Qs,Ps,hz,h⟩,h1,h2,h3,h4,h5,h6⟩:=h;exact⟨⟨T,Qc,Pc,Qs,Ps,hi _ _ _ hz,h⟩,h1,h2,h3,h4,h5,h6⟩
section
variable {R R':El->El->Prop} {N:List El} {c:Nat} {ty:Int} {T Tc Ts:List El} {P Q:List Sent} {x y:El}
def Ok.his (h:Ok R N c ty T P Q) (hx:x∈ins Q):x∈N/\x.c≠c:=by
 obtain⟨G,e,_⟩:=h.got;have:x∈N.filter λx=>decide (x.c≠(c:Int)):=by rw[e];exact f4w _ hx
 simpa using this
def Ok.base (h:Ok R N c ty T P Q) (hx:x∈T):x∈N:=by
 obtain⟨G,e,h2⟩:=h.got;rcases h2 x hx with h|h
 ·exact h.1
 ·have:x∈N.filter λx=>decide (x.c≠(c:Int)):=by rw[e];exact List.mem_append_left _ h
  exact(List.mem_filter.1 this).1
def Ok.mine (h:Ok R N c ty T P Q) (hx:x∈ins P):x∉N:=λhn=>
 (List.nodup_append.1 h.own).2.2 x (List.mem_filter.2 ⟨hn,by simpa using (h.ownc x hx).1⟩) x hx rfl
def Ok.tc (h:Ok R N c ty T P Q) (b:Base c Tc Ts T P Q) (hx:x∈Tc):x∈N\/x∈ins P:=by
 rcases b.rc.mem hx with h'|h'
 ·exact .inl (h.base h')
 ·exact .inr h'
def Ok.ts (h:Ok R N c ty T P Q) (b:Base c Tc Ts T P Q) (hx:x∈Ts):x∈N:=by
 rcases b.rs.mem hx with h'|h'
 ·exact h.base h'
 ·exact(h.his h').1
def Ok.hnodup (h:Ok R N c ty T P Q) (hN:N.Nodup):(ins Q).Nodup:=by
 obtain⟨G,e,_⟩:=h.got;have:=hN.filter λx=>decide (x.c≠(c:Int));rw[e] at this;exact(List.nodup_append.1 this).2.1
def Ok.hfar (h:Ok R N c ty T P Q) (hN:N.Nodup) (b:Base c Tc Ts T P Q) (hx:x∈ins Q):x∉Tc:=λhc=>by
 have h1:=h.his hx;rcases b.rc.mem hc with h'|h'
 ·obtain⟨G,e,h2⟩:=h.got;rcases h2 x h' with h3|h3
  ·exact h1.2 h3.2
  ·have:=hN.filter λx=>decide (x.c≠(c:Int));rw[e] at this;exact(List.nodup_append.1 this).2.2 x h3 x hx rfl
 ·exact h1.2 (h.ownc x h').1
def Base.far (b:Base c Tc Ts T P Q): ∀p∈P,∀q∈Q,p.chg.cl≠q.chg.cl:=λp hp q hq e=>b.ls q hq (e▸b.lc p hp)
def Ok.atEdge (h:Ok R N c ty T P Q) (b:Base c Tc Ts T P Q):Row (Std R) Tc (edge P Q)/\ ∃X,Runs Tc (edge P Q) X:=h.grid.edge b.rc b.rs b.far
def Ok.atBot (h:Ok R N c ty T P Q) (b:Base c Tc Ts T P Q):Row (Std R) Ts (bot P Q)/\ ∃X,Runs Ts (bot P Q) X:=⟨h.grid.bot b.rs,f9a b.rc b.rs b.far⟩
def Ok.mono {j:Int} (h:Ok R N c ty T P Q) (hR: ∀x y,R x y->R' x y) (ht:ty<=j):Ok R' N c j T P Q:=
 ⟨h.grid.mono λt ht=>List.Pairwise.imp (λ{a b} hab=>hR a b hab) ht,h.got,h.own,λx hx=>⟨(h.ownc x hx).1,by have:=(h.ownc x hx).2;omega⟩⟩
end
def Sorted.texts {S:Ses} {R:El->El->Prop} (h:Sorted S R) {c:Nat} (hc:c<S.n):Std R (S.cl c).text/\Std R S.text:=by
 obtain⟨T,hz,b⟩:=(h.pair c hc).base;exact⟨(hz.atEdge b).1.head,(hz.atBot b).1.head⟩
def Sorted.irr {S:Ses} {R:El->El->Prop} (h:Sorted S R) (x:El): ¬R x x:=λhx=>h.anti x x hx hx
def new_sorted {n room:Nat}:Sorted (new n room) λ_ _=>False:=by
 refine⟨λ_ _ h=>h.elim,λ_ _ h=>h.elim,λ_ _ h=>h.elim,List.nodup_nil,λx hx=>pl,λc _=>Pair.start ⟨?_,⟨[],rfl,λx hx=>pl⟩,List.nodup_nil,λx hx=>pl⟩⟩;exact List.Pairwise.nil
def f7v {S:Ses} {R:El->El->Prop} (hG:Good S) (h:Sorted S R) {c:Nat} (hc:c<S.n) {kind pos r:Int} (hk:kind=1\/kind=2\/kind=3):
    ∃R',(∀x y,R x y->R' x y)/\Sorted (change S c kind pos r).2 R':=by
 unfold change;split
 ·exact⟨R,λ_ _ h=>h,h⟩
 split
 ·exact⟨R,λ_ _ h=>h,h⟩
 split
 ·exact⟨R,λ_ _ h=>h,h⟩
 rename_i h1 h2 h3;have h0:0<=pos/\pos<=last (S.cl c) kind:=by omega
 have hf:=made_fits (k:=S.cl c) (c:=c) (r:=r) hk h0.1 h0.2;have hP:=h.pair c hc;have ad:=hG.pair c hc;obtain⟨T0,J,b0⟩:=hP.base
 have M:0<=index (made (S.cl c) c kind pos r) (if kind=3 then pos else (S.cl c).cur)/\index (made (S.cl c) c kind pos r) (if kind=3 then pos else (S.cl c).cur)<=(apply (made (S.cl c) c kind pos r) (S.cl c).text).length:=by
    rw[f4k hf];refine ml hf ?_ ?_
    ·split
     ·exact h0.1
     ·exact ad.kc0
    ·split
     ·rename_i e;have:=h0.2;simp[last,e] at this;exact this
     ·exact ad.kc1
 obtain⟨U,X,hrun⟩:=J.atEdge b0;have I:(made (S.cl c) c kind pos r).cl=c:=rfl
 have B:(made (S.cl c) c kind pos r).kind=1->(made (S.cl c) c kind pos r).e.c=c/\(made (S.cl c) c kind pos r).e.n=(S.cl c).typed+1:=λk=>by
    have k:kind=1:=k;subst k;exact⟨rfl,rfl⟩
 have W:kind=1->(changed (S.cl c) c kind pos r).typed=(S.cl c).typed+1:=λk=>f02 k;have ab:(S.cl c).typed<=(changed (S.cl c) c kind pos r).typed:=by show _<=if kind=1 then _ else _;split <;>omega
 have O:(made (S.cl c) c kind pos r).kind=kind:=rfl
 revert hf M I B O
 generalize ae:changed (S.cl c) c kind pos r=k' at W ab ⊢;have ek:k'=⟨apply (made (S.cl c) c kind pos r) (S.cl c).text,index (made (S.cl c) c kind pos r) (if kind=3 then pos else (S.cl c).cur),send (S.cl c).en (made (S.cl c) c kind pos r),k'.typed,(S.cl c).up++[frame (S.cl c).en (made (S.cl c) c kind pos r) (index (made (S.cl c) c kind pos r) (if kind=3 then pos else (S.cl c).cur))],(S.cl c).down⟩:=by rw[<- ae];rfl
 revert ek
 generalize made (S.cl c) c kind pos r=a;generalize index a (if kind=3 then pos else (S.cl c).cur)=k;intro ek hf M I B O
 have D: ∀x,Old S x->Old { S with cl:=put S.cl c k',calls:=S.calls+1 } x:=λx hx=>⟨hx.1,by
    show x.n<=(put S.cl c k' x.c.toNat).typed;have:=hx.2;by_cases e:x.c.toNat=c
    ·rw[e,put_same];rw[e] at this;omega
    ·rw[put_ne _ _ e];exact this⟩
 have A:a.kind=1-> ¬Old S a.e:=λk1 ho=>by
    have:=ho.2;rw[(B k1).1,(B k1).2] at this;simp at this;omega
 have Y:a.kind=1->Old { S with cl:=put S.cl c k',calls:=S.calls+1 } a.e:=λk1=>⟨by rw[(B k1).1];omega,by
    show a.e.n<=(put S.cl c k' a.e.c.toNat).typed;rw[(B k1).1,(B k1).2,show((c:Int)).toNat=c from rfl,put_same,W (O▸k1)];exact Int.le_refl _⟩
 have aa: ∀x,x∈(S.cl c).text\/x∈ins (edge (f7p S c) (f7t S c))->Old S x/\(x∈inl S.log\/x.c=c):=λx hx=>by
    rw[f8l] at hx;rcases hx with hx|hx
    ·rcases J.tc b0 hx with h'|h'
     ·exact⟨h.nold x h',.inl h'⟩
     ·have:=J.ownc x h';exact⟨⟨by omega,by rw[this.1];exact this.2⟩,.inr this.1⟩
    ·exact⟨h.nold x (J.his hx).1,.inl (J.his hx).1⟩
 have hL: ∀x,a.kind=1->LeftOf a x (S.cl c).text (edge (f7p S c) (f7t S c))->Old S x/\(x∈inl S.log\/x.c=c):=λx k1 hx=>aa x ((hx.of hrun hf k1).imp List.mem_of_mem_take id);have ac: ∀x,a.kind=1->RightOf a x (S.cl c).text (edge (f7p S c) (f7t S c))->Old S x/\(x∈inl S.log\/x.c=c):=λx k1 hx=>aa x ((hx.of hrun hf k1).imp List.mem_of_mem_drop id)
 have hS: ∀x,a.kind=1->LeftOf a x (S.cl c).text (edge (f7p S c) (f7t S c))->RightOf a x (S.cl c).text (edge (f7p S c) (f7t S c))->False:=λx k1 hl hr=>
    sides hl hr hrun hf k1 (U.mono λt ht=>ht.nodup h.irr) (by rw[f8l];exact J.hnodup h.nodup) (λy hy=>J.hfar h.nodup b0 (by rw[f8l] at hy;exact hy))
 have C: ∀x y,R x y->(R x y\/(a.kind=1/\y=a.e/\LeftOf a x (S.cl c).text (edge (f7p S c) (f7t S c)))\/(a.kind=1/\x=a.e/\RightOf a y (S.cl c).text (edge (f7p S c) (f7t S c)))):=λ_ _ h=>.inl h;refine⟨λx y=>R x y\/(a.kind=1/\y=a.e/\LeftOf a x (S.cl c).text (edge (f7p S c) (f7t S c)))\/(a.kind=1/\x=a.e/\RightOf a y (S.cl c).text (edge (f7p S c) (f7t S c))),C,?_,?_,?_,h.nodup,λx hx=>D x (h.nold x hx),?_⟩
 ·intro x y j m;rcases j with j|⟨k1,rfl,j⟩|⟨k1,rfl,j⟩
  ·rcases m with m|⟨k1,rfl,m⟩|⟨k1,rfl,m⟩
   ·exact h.anti x y j m
   ·exact A k1 (h.old _ _ j).1
   ·exact A k1 (h.old _ _ j).2
  ·rcases m with m|⟨k2,e,m⟩|⟨k2,_,m⟩
   ·exact A k1 (h.old _ _ m).1
   ·subst e;exact A k1 (hL _ k1 j).1
   ·exact hS x k1 j m
  ·rcases m with m|⟨k2,_,m⟩|⟨k2,e,m⟩
   ·exact A k1 (h.old _ _ m).2
   ·exact hS y k1 m j
   ·subst e;exact A k1 (ac _ k1 j).1
 ·intro x y j;rcases j with j|⟨k1,rfl,j⟩|⟨k1,rfl,j⟩
  ·exact⟨D x (h.old x y j).1,D y (h.old x y j).2⟩
  ·exact⟨D x (hL x k1 j).1,Y k1⟩
  ·exact⟨Y k1,D y (ac y k1 j).1⟩
 ·intro x y j;rcases j with j|⟨k1,rfl,j⟩|⟨k1,rfl,j⟩
  ·exact h.mix x y j
  ·rcases(hL x k1 j).2 with h'|h'
   ·exact .inl h'
   ·exact .inr (.inr (h'.trans (B k1).1.symm))
  ·rcases(ac y k1 j).2 with h'|h'
   ·exact .inr (.inl h')
   ·exact .inr (.inr ((B k1).1.trans h'.symm))
 ·intro o ho;by_cases e:o=c
  ·subst e;simp only[put_same];rw[ek];refine hP.change hf I M.1 M.2 λT hz b=>?_;obtain⟨U,X,hrun⟩:=hz.atEdge b;refine⟨(hz.mono C (Int.le_refl _)).grid.snoc (k:=0) b.rc b.rs ?_ hf ?_,hz.got,?_,?_⟩
   ·intro p hp q hq;rcases fz0.1 hp with hp|hp
    ·exact b.far p hp q hq
    ·obtain rfl:=f3k.1 hp;show a.cl≠_;rw[I];exact f3w (b.ls q hq)
   ·exact(U.mono λt ht=>List.Pairwise.imp (λ{a b} hab=>C a b hab) ht).lay hrun hf (λs hs=>by rw[I];exact edge_cl b.ls s hs) (λk1 y hy=>.inr (.inl ⟨k1,rfl,hy⟩)) (λk1 y hy=>.inr (.inr ⟨k1,rfl,hy⟩))
   ·rw [f7r,<- f0k,f7s];split
    ·rename_i k1;refine List.nodup_append.2 ⟨hz.own,by simp,λx hx y hy e=>?_⟩;obtain rfl:=f3k.1 hy;subst e;rcases fz0.1 hx with hx|hx
     ·exact A k1 (h.nold _ (List.mem_filter.1 hx).1)
     ·have:=hz.ownc _ hx;exact A k1 ⟨by omega,by rw[this.1];exact this.2⟩
    ·rw[f4m];exact hz.own
   ·intro x hx;rw[f7r,f7s] at hx;rcases fz0.1 hx with hx|hx
    ·have:=hz.ownc x hx;exact⟨this.1,by show x.n<=k'.typed;omega⟩
    ·split at hx
     ·rename_i k1;obtain rfl:=f3k.1 hx;have:=B k1;have:=W (O▸k1);exact⟨(B k1).1,by show a.e.n<=k'.typed;omega⟩
     ·cases hx
  ·simp only[put_ne S.cl k' e];exact(h.pair o ho).imp λT P Q hz=>hz.mono C (Int.le_refl _)
def f8u {S:Ses} {R:El->El->Prop} (h:Sorted S R) {c:Nat} (hc:c<S.n):Sorted (get S c).2 R:=by
 unfold get;split
 ·exact h
 rename_i g D hd;have hP:=h.pair c hc;rw[hd] at hP
 have j: ∀x,Old S x->Old { S with cl:=put S.cl c (got (S.cl c) g D) } x:=λx hx=>⟨hx.1,by
    show x.n<=(put S.cl c (got (S.cl c) g D) x.c.toNat).typed;have:=hx.2;by_cases e:x.c.toNat=c
    ·rw[e,put_same];rw[e] at this;exact this
    ·rw[put_ne _ _ e];exact this⟩
 refine⟨h.anti,λx y m=>⟨j x (h.old x y m).1,j y (h.old x y m).2⟩,h.mix,h.nodup,λx hx=>j x (h.nold x hx),λo ho=>?_⟩;by_cases e:o=c
 ·subst e;simp only[put_same];refine(hP.get λT q Q k hq hz b ha=>?_).2;obtain⟨G,e,h2⟩:=hz.got;refine⟨by rw[f8j _ k 0];exact hz.grid.2,⟨G++ins [q],?_,λx hx=>?_⟩,by rw[f7y];exact hz.own,by rw[f7y];exact hz.ownc⟩
  ·rw[f0k,<- f7r];exact e
  ·rcases f7z hx with hx|⟨k1,rfl⟩
   ·rcases h2 x hx with h'|h'
    ·exact .inl h'
    ·exact .inr (List.mem_append_left _ h')
   ·right;refine f4w _ ?_;rw[f7o,f02 k1];exact fz5
 ·simp only[put_ne S.cl _ e];exact h.pair o ho
def f8n {S:Ses} {R:El->El->Prop} (h:Sorted S R) {c:Nat} (hc:c<S.n):
    ∃R',(∀x y,R x y->R' x y)/\Sorted (serve S c).2 R':=by
 unfold serve;split
 ·exact⟨R,λ_ _ h=>h,h⟩
 rename_i f U hu;split
 ·exact⟨R,λ_ _ h=>h,h⟩
 have hP:=h.pair c hc;rw[hu] at hP;obtain⟨hf,aA,hk,aF⟩:=hP.serve (Z':=λT P Q=> ∃T' p k,f7p S c=p::P/\Ok R (inl S.log) c (S.cl c).typed T' (p::P) (f7t S c)/\Base c (S.cl c).text S.text T' (p::P) (f7t S c)/\(tryF (S.ends c) f).1=(turn p.chg k (f7t S c)).1/\T=apply p.chg T'/\Q=(turn p.chg k (f7t S c)).2.2) λT p P' k e hz b ha=>⟨T,p,k,e,hz,b,ha,rfl,rfl⟩;obtain⟨_,⟨T0,p,k0,ep,ad,b0,ha,_,_⟩,_⟩:=aF.base;generalize aH:unseen _ _=P0 at ep ad b0;clear aH;have aB:=b0.far;have aI:=aB p fz5;have q:(tryF (S.ends c) f).1.kind=1↔p.chg.kind=1:=by rw[ha];exact f7w _ _ _
 have O:(tryF (S.ends c) f).1.kind=1->(tryF (S.ends c) f).1.e=p.chg.e:=λk1=>by rw[ha];exact f8r _ _ (q.1 k1)
 have an:(tryF (S.ends c) f).1.kind=1->(tryF (S.ends c) f).1.e∈ins (p::P0):=λk1=>by rw[O k1,f7o,f02 (q.1 k1)];exact fz5
 have B:Std R (apply (tryF (S.ends c) f).1 S.text):=by
    have h1:=ad.grid.left (k:=k0) b0.rc b0.rs aB;have h2:=b0.rs.turn k0 b0.rc.1 λs hs=>f3w (aI s hs);rw[ha];exact(h1.bot h2.2).head
 have I: ∀d,d<S.n-> ∃T,Ok R (inl S.log) d (S.cl d).typed T (f7p S d) (f7t S d)/\Base d (S.cl d).text S.text T (f7p S d) (f7t S d):=λd hd=>(h.pair d hd).base;simp only[served];clear aF
 revert hP ha q O an B hf aA hk
 generalize hx:tryF (S.ends c) f=X;intro hP hf aA hk ha q O an B;obtain⟨a,kk,aK⟩:=X;simp only[] at*;have D:a.kind=1->a.e.c=c/\a.e.n<=(S.cl c).typed:=λk1=>ad.ownc _ (an k1);have ae:a.kind=1->a.e∉inl S.log:=λk1=>ad.mine (an k1);have J:a.kind=1->Old S a.e:=λk1=>⟨by rw[(D k1).1];omega,by rw[(D k1).1];exact(D k1).2⟩;have aa: ∀x∈S.text,x∈inl S.log:=λx hx=>ad.ts b0 hx
 have ap:a.kind=1->(∀x∈S.text.take a.pos.toNat,R x a.e)/\ ∀x∈S.text.drop a.pos.toNat,R a.e x:=λk1=>by
    unfold Std apply at B;rw[f02 k1,f0m,f1h] at B;exact⟨λx hx=>B.2.2 x hx _ fz5,B.2.1.1⟩
 let L:El->Prop:=λx=> ∃d,d<S.n/\d≠c/\LeftOf a x S.text (bot (f7p S d) (f7t S d))
 let Rt:El->Prop:=λx=> ∃d,d<S.n/\d≠c/\RightOf a x S.text (bot (f7p S d) (f7t S d))
 have ak: ∀d,d<S.n->a.kind=1-> ∀x,LeftOf a x S.text (bot (f7p S d) (f7t S d))->x∈S.text.take a.pos.toNat\/(x∈ins (f7p S d)/\x∉inl S.log/\x.c=d/\x.n<=(S.cl d).typed):=λd hd k1 x hx=>by
    obtain⟨T,hz,b⟩:=I d hd;obtain⟨_,Y,hr⟩:=hz.atBot b;rcases hx.of hr hf k1 with h'|h'
    ·exact .inl h'
    ·rw[f8k] at h';exact .inr ⟨h',hz.mine h',hz.ownc x h'⟩
 have ah: ∀d,d<S.n->a.kind=1-> ∀x,RightOf a x S.text (bot (f7p S d) (f7t S d))->x∈S.text.drop a.pos.toNat\/(x∈ins (f7p S d)/\x∉inl S.log/\x.c=d/\x.n<=(S.cl d).typed):=λd hd k1 x hx=>by
    obtain⟨T,hz,b⟩:=I d hd;obtain⟨_,Y,hr⟩:=hz.atBot b;rcases hx.of hr hf k1 with h'|h'
    ·exact .inl h'
    ·rw[f8k] at h';exact .inr ⟨h',hz.mine h',hz.ownc x h'⟩
 have F2:a.kind=1-> ∀x,L x-> ¬R a.e x:=λk1 x ⟨d,hd,M,hl⟩ hr=>by
    rcases ak d hd k1 x hl with h'|⟨_,h',h2,_⟩
    ·exact h.anti _ _ ((ap k1).1 x h') hr
    ·rcases h.mix _ _ hr with h3|h3|h3
     ·exact ae k1 h3
     ·exact h' h3
     ·have:=(D k1).1;omega
 have F3:a.kind=1-> ∀x,Rt x-> ¬R x a.e:=λk1 x ⟨d,hd,M,hl⟩ hr=>by
    rcases ah d hd k1 x hl with h'|⟨_,h',h2,_⟩
    ·exact h.anti _ _ ((ap k1).2 x h') hr
    ·rcases h.mix _ _ hr with h3|h3|h3
     ·exact h' h3
     ·exact ae k1 h3
     ·have:=(D k1).1;omega
 have F1:a.kind=1-> ∀x,L x->Rt x->False:=λk1 x hl hr=>by
    obtain⟨d,hd,M,aE⟩:=hl;rcases ak d hd k1 x aE with h'|⟨i1,_,h2,_⟩
    ·exact F3 k1 x hr ((ap k1).1 x h')
    ·obtain⟨e,he,aM,aG⟩:=hr;rcases ah e he k1 x aG with h'|⟨_,_,h4,_⟩
     ·exact F2 k1 x ⟨d,hd,M,aE⟩ ((ap k1).2 x h')
     ·obtain rfl:d=e:=by omega
      obtain⟨T,hz,b⟩:=I d hd;obtain⟨ac,Y,hrun⟩:=hz.atBot b;exact sides aE aG hrun hf k1 (ac.mono λt ht=>ht.nodup h.irr) (by rw[f8k];exact(List.nodup_append.1 hz.own).2.1) (λy hy aJ=>by rw[f8k] at hy;exact hz.mine hy (aa y aJ))
 have F4:a.kind=1-> ¬L a.e:=λk1 ⟨d,hd,M,hl⟩=>by
    rcases ak d hd k1 _ hl with h'|⟨_,_,h2,_⟩
    ·exact ae k1 (aa _ (List.mem_of_mem_take h'))
    ·have:=(D k1).1;omega
 have F5:a.kind=1-> ¬Rt a.e:=λk1 ⟨d,hd,M,hl⟩=>by
    rcases ah d hd k1 _ hl with h'|⟨_,_,h2,_⟩
    ·exact ae k1 (aa _ (List.mem_of_mem_drop h'))
    ·have:=(D k1).1;omega
 have oL:a.kind=1-> ∀x,L x->Old S x:=λk1 x ⟨d,hd,M,hl⟩=>by
    rcases ak d hd k1 _ hl with h'|⟨_,_,h2,h3⟩
    ·exact h.nold _ (aa _ (List.mem_of_mem_take h'))
    ·exact⟨by omega,by rw[h2];exact h3⟩
 have oR:a.kind=1-> ∀x,Rt x->Old S x:=λk1 x ⟨d,hd,M,hl⟩=>by
    rcases ah d hd k1 _ hl with h'|⟨_,_,h2,h3⟩
    ·exact h.nold _ (aa _ (List.mem_of_mem_drop h'))
    ·exact⟨by omega,by rw[h2];exact h3⟩
 have ab: ∀x y,R x y->(R x y\/(a.kind=1/\y=a.e/\L x)\/(a.kind=1/\x=a.e/\Rt y)):=λ_ _ h=>.inl h;have aD: ∀m:Int,a.kind=1->ins [⟨a,m⟩]=[a.e]:=λm k1=>by rw[f7s,f02 k1]
 have aL: ∀m:Int,a.kind≠1->ins [⟨a,m⟩]=[]:=λm k1=>by rw[f7s,fx9 k1]
 have W: ∀x m,x∈ins [(⟨a,m⟩:Sent)]->a.kind=1/\x=a.e:=λx m hx=>by
    rw[f7s] at hx;split at hx
    ·exact⟨‹_›,f3k.1 hx⟩
    ·cases hx
 have C: ∀x:El,Old S x->(0<=x.c/\x.n<=(if x.c.toNat=c then ({ S.cl x.c.toNat with up:=U }:Cl) else { S.cl x.c.toNat with down:=(S.cl x.c.toNat).down++[frame (S.ends x.c.toNat) a kk] }).typed):=λx hx=>⟨hx.1,by split <;>exact hx.2⟩;refine⟨λx y=>R x y\/(a.kind=1/\y=a.e/\L x)\/(a.kind=1/\x=a.e/\Rt y),ab,?_,?_,?_,?_,?_,?_⟩
 ·intro x y j A;rcases j with j|⟨k1,rfl,j⟩|⟨k1,rfl,j⟩
  ·rcases A with A|⟨k1,rfl,A⟩|⟨k1,rfl,A⟩
   ·exact h.anti x y j A
   ·exact F2 k1 _ A j
   ·exact F3 k1 _ A j
  ·rcases A with A|⟨k2,e,A⟩|⟨k2,_,A⟩
   ·exact F2 k1 _ j A
   ·subst e;exact F4 k1 j
   ·exact F1 k1 _ j A
  ·rcases A with A|⟨k2,_,A⟩|⟨k2,e,A⟩
   ·exact F3 k1 _ j A
   ·exact F1 k1 _ A j
   ·subst e;exact F5 k1 j
 ·intro x y j;rcases j with j|⟨k1,rfl,j⟩|⟨k1,rfl,j⟩
  ·exact⟨C x (h.old x y j).1,C y (h.old x y j).2⟩
  ·exact⟨C x (oL k1 x j),C _ (J k1)⟩
  ·exact⟨C _ (J k1),C y (oR k1 y j)⟩
 ·intro x y j;show x∈inl (S.log++[a])\/y∈inl (S.log++[a])\/_;rw[f7x S.log a 0];rcases j with j|⟨k1,rfl,j⟩|⟨k1,rfl,j⟩
  ·rcases h.mix x y j with h'|h'|h'
   ·exact .inl (List.mem_append_left _ h')
   ·exact .inr (.inl (List.mem_append_left _ h'))
   ·exact .inr (.inr h')
  ·refine .inr (.inl (f4w _ ?_));rw[aD 0 k1];exact fz5
  ·refine .inl (f4w _ ?_);rw[aD 0 k1];exact fz5
 ·show(inl (S.log++[a])).Nodup;rw[f7x S.log a 0];refine List.nodup_append.2 ⟨h.nodup,?_,λx hx y hy e=>?_⟩
  ·rw[f7s];split <;>simp
  ·obtain⟨k1,rfl⟩:=W y 0 hy;subst e;exact ae k1 hx
 ·intro x hx;have hx:x∈inl (S.log++[a]):=hx;rw[f7x S.log a 0] at hx;rcases fz0.1 hx with hx|hx
  ·exact C x (h.nold x hx)
  ·obtain⟨k1,rfl⟩:=W x 0 hx;exact C _ (J k1)
 ·intro o ho;have aC: ∀{t},Std R t->Std (λx y=>R x y\/(a.kind=1/\y=a.e/\L x)\/(a.kind=1/\x=a.e/\Rt y)) t:=λht=>List.Pairwise.imp (λ{a b} hab=>ab a b hab) ht;show Pair (Ok _ (inl (S.log++[a])) _ _) _ _ _ _ _ _ _ _ _;rw[f7x S.log a 0];by_cases e:o=c
  ·subst e;simp only[f0e];have hh:=hP.serve (Z':=Ok (λx y=>R x y\/(a.kind=1/\y=a.e/\L x)\/(a.kind=1/\x=a.e/\Rt y)) (inl S.log++ins [⟨a,0⟩]) o (S.cl o).typed) λT p P' k e hz b ha=>?_
   ·rw[hx] at hh;exact hh.2.2.2
   ·rw [hx] at ha;simp only[] at ha;have q:a.kind=1↔p.chg.kind=1:=by rw[ha];exact f7w _ _ _
    have O:a.kind=1->a.e=p.chg.e:=λk1=>by rw[ha];exact f8r _ _ (q.1 k1)
    obtain⟨G,e,h2⟩:=hz.got;refine⟨(hz.grid.left (k:=k) b.rc b.rs b.far).mono λt ht=>aC ht,⟨G,?_,λx hx=>?_⟩,?_,λx hx=>hz.ownc x ?_⟩
    ·rw[List.filter_append,f7y,e]
     have:(ins [(⟨a,0⟩:Sent)]).filter (λx=>decide (x.c≠(o:Int)))=[]:=by
       rw[List.filter_eq_nil_iff];intro x hx;obtain⟨k1,rfl⟩:=W x 0 hx;simp[(D k1).1]
     rw[this,f4m]
    ·rcases f7z hx with hx|⟨k1,rfl⟩
     ·rcases h2 x hx with h'|h'
      ·exact .inl ⟨List.mem_append_left _ h'.1,h'.2⟩
      ·exact .inr h'
     ·refine .inl ⟨f4w _ ?_,?_⟩
      ·rw[aD 0 (q.2 k1),O (q.2 k1)];exact fz5
      ·rw[<- O (q.2 k1)];exact(D (q.2 k1)).1
    ·have:(ins [(⟨a,0⟩:Sent)]).filter (λx=>decide (x.c=(o:Int)))++ins P'=ins (p::P'):=by
       rw[f7s,f7o];by_cases k1:a.kind=1
       ·rw[f02 k1,f02 (q.1 k1),List.filter_cons,f02 (by simp[(D k1).1])];simp[O k1]
       ·rw[fx9 k1,fx9 (λh'=>k1 (q.2 h'))];rfl
     rw[List.filter_append,f0k,this];exact hz.own
    ·rw[f7o];split
     ·exact f0c _ hx
     ·exact hx
  ·simp only[fx9 e];refine(h.pair o ho).tell hf (by rw[aA];omega) hk.1 hk.2 λT hz b=>?_;obtain⟨ac,Y,hrun⟩:=hz.atBot b;obtain⟨G,eG,h2⟩:=hz.got;refine⟨(hz.grid.mono λt ht=>aC ht).more (k:=0) b.rs ?_,⟨G,?_,λx hx=>?_⟩,?_,hz.ownc⟩
   ·exact(ac.mono λt ht=>aC ht).lay hrun hf (λs hs=>by rw[aA,bot_cl b.lc s hs];omega) (λk1 y hy=>.inr (.inl ⟨k1,rfl,o,ho,e,hy⟩)) (λk1 y hy=>.inr (.inr ⟨k1,rfl,o,ho,e,hy⟩))
   ·rw[List.filter_append,eG,f7r,f0k]
    congr 2
    rw[f7s,f7s];split
    ·rename_i k1;rw[List.filter_cons,f02 (by have:=(D k1).1;simp;omega)];rfl
    ·rfl
   ·rcases h2 x hx with h'|h'
    ·exact .inl ⟨List.mem_append_left _ h'.1,h'.2⟩
    ·exact .inr h'
   ·have:(ins [(⟨a,0⟩:Sent)]).filter (λx=>decide (x.c=(o:Int)))=[]:=by
      rw[List.filter_eq_nil_iff];intro x hx;obtain⟨k1,rfl⟩:=W x 0 hx;have:=(D k1).1;simp;omega
    rw[List.filter_append,this,f4m];exact hz.own
def call_sorted {S:Ses} {R:El->El->Prop} (hG:Good S) (h:Sorted S R) {k c pos r:Int}: ∃R',(∀x y,R x y->R' x y)/\Sorted (call S k c pos r).2 R':=by
 have m: ∃R',(∀x y,R x y->R' x y)/\Sorted S R':=⟨R,λ_ _ h=>h,h⟩;unfold call;split
 ·exact m
 rename_i hc;have j:c.toNat<S.n:=by omega
 split
 ·split
  ·exact f7v hG h j (.inl rfl)
  ·exact m
 split
 ·exact f7v hG h j (.inr (.inl rfl))
 split
 ·exact f7v hG h j (.inr (.inr rfl))
 split
 ·exact f8n h j
 ·exact⟨R,λ_ _ h=>h,f8u h j⟩
end Plain
namespace Plain
structure Stay (t:List El) (k:Int) (u:List El) (c:Int):Prop where
 r1:0<=k/\k<=t.length
 r2:0<=c/\c<=u.length
 st: ∀x,t[k.toNat]? =some x-> ∀i:Nat,u[i]? =some x->c=i
def f8d {t:List El} (h:t.Nodup) {i j:Nat} {x:El} (h1:t[i]? =some x) (h2:t[j]? =some x):i=j:=by
 obtain⟨h3,h4⟩:=f1c.1 h1;obtain⟨h5,h6⟩:=f1c.1 h2;rcases Nat.lt_trichotomy i j with e|e|e
 ·exact absurd (h4.trans h6.symm) (List.pairwise_iff_getElem.1 h i j h3 h5 e)
 ·exact e
 ·exact absurd (h6.trans h4.symm) (List.pairwise_iff_getElem.1 h j i h5 h3 e)
def f95 {t:List El} {k:Int} (h:t.Nodup) (h0:0<=k) (h1:k<=t.length):Stay t k t k:=
 ⟨⟨h0,h1⟩,⟨h0,h1⟩,λx hx i hi=>by have:=f8d h hx hi;omega⟩
def f8i {t:List El} {k:Int} {a:Chg} (hf:Fits a t.length) (h:t.Nodup) (h':(apply a t).Nodup) (h0:0<=k) (h1:k<=t.length):Stay t k (apply a t) (index a k):=by
 have hi:=ml hf h0 h1;rw[<- f4k hf] at hi;refine⟨⟨h0,h1⟩,hi,λx hx i j=>?_⟩;have hg:=fad hf (index a k).toNat
 have m:a.kind=2->a.pos=k->False:=λk2 e=>by
    have h2:=hf.2 k2;rw[fad hf,fx9 fe,f02 k2] at j;split at j
    ·have:=f8d h hx j;omega
    ·have:=f8d h hx j;omega
 have hx':(apply a t)[(index a k).toNat]? =some x:=by
    rw[hg];unfold index;by_cases k1:a.kind=1
    ·have h2:=hf.1 k1;simp only[k1,f0e];by_cases e:a.pos<=k
     ·rw[f02 e,fx9 fe,fx9 fe,show(k+1).toNat-1=k.toNat by omega];exact hx
     ·rw[fx9 e,f02 fe];exact hx
    ·by_cases k2:a.kind=2
     ·have h2:=hf.2 k2;rw[fx9 k1,fx9 k1,f02 k2,f02 k2];by_cases e:a.pos<k
      ·rw[f02 e,fx9 fe,show(k-1).toNat+1=k.toNat by omega];exact hx
      ·have:a.pos≠k:=λe=>m k2 e;rw[fx9 e,f02 fe];exact hx
     ·rw[fx9 k1,fx9 k1,fx9 k2,fx9 k2];exact hx
 have:=f8d h' hx' j;omega
def call_stay {S:Ses} {R:El->El->Prop} (hG:Good S) (h:Sorted S R) {k c pos r:Int} (hk:1<=k/\k<=5) (h3:k≠3) (h0:0<=c) (h1:c<S.n):
    Stay (S.cl c.toNat).text (S.cl c.toNat).cur ((call S k c pos r).2.cl c.toNat).text ((call S k c pos r).2.cl c.toNat).cur:=by
 obtain⟨R',_,h'⟩:=call_sorted hG h (k:=k) (c:=c) (pos:=pos) (r:=r);have hc:c.toNat<S.n:=by omega
 have hn:(call S k c pos r).2.n=S.n:=by
    unfold call change serve get served;repeat' split
    all_goals rfl
 have ht:=(h.texts hc).1.nodup h.irr;have j:=(h'.texts (c:=c.toNat) fe).1.nodup h'.irr;have hP:=hG.pair _ hc;have m:=hP.kc0;have q:=hP.kc1;have hs:=f95 ht m q
 have A: ∀kind pos r,kind=1\/kind=2->((change S c.toNat kind pos r).2.cl c.toNat).text.Nodup->Stay (S.cl c.toNat).text (S.cl c.toNat).cur ((change S c.toNat kind pos r).2.cl c.toNat).text ((change S c.toNat kind pos r).2.cl c.toNat).cur:=λkind pos r hk hn=>by
    unfold change at hn ⊢;split
    ·exact hs
    rename_i h1;split
    ·exact hs
    rename_i h2;split
    ·exact hs
    rename_i h3;rw[fx9 h1,fx9 h2,fx9 h3] at hn;simp only[put_same] at hn ⊢;have e3:kind≠3:=by omega
    have:=f8i (made_fits (k:=S.cl c.toNat) (c:=c.toNat) (r:=r) (kind:=kind) (pos:=pos) fe fe fe) ht hn m q;simp only[changed,fx9 e3];exact this
 unfold call at j ⊢;rw[fx9 fe] at j ⊢;by_cases k1:k=1
 ·rw[f02 k1] at j ⊢;split
  ·rename_i hv;rw[f02 hv] at j;exact A 1 pos r (.inl rfl) j
  ·exact hs
 rw[fx9 k1] at j ⊢;by_cases k2:k=2
 ·rw[f02 k2] at j ⊢;exact A 2 pos 0 (.inr rfl) j
 rw[fx9 k2,fx9 h3] at j ⊢;by_cases k4:k=4
 ·rw[f02 k4];unfold serve;split
  ·exact hs
  split
  ·exact hs
  simp only[served,f0e];exact hs
 rw[fx9 k4] at j ⊢;unfold get at j ⊢;split
 ·exact hs
 rename_i g D hd;rw[hd] at j;rw[hd] at hP;simp only[put_same] at j ⊢;exact f8i (hP.get (Z':=λ_ _ _=>True) λ_ _ _ _ _ _ _ _=>trivial).1 ht j m q
end Plain
namespace Plain
def Hist (S:Ses) (x:El):Prop:=x∈inl S.log\/ ∃c,c<S.n/\x∈ins (f7p S c)
def Sorted.hist {S:Ses} {R:El->El->Prop} (h:Sorted S R) {c:Nat} (hc:c<S.n) {x:El}:(x∈(S.cl c).text->Hist S x)/\(x∈S.text->Hist S x):=by
 obtain⟨T,hz,b⟩:=(h.pair c hc).base;exact⟨λhx=>(hz.tc b hx).imp id λh'=>⟨c,hc,h'⟩,λhx=>.inl (hz.ts b hx)⟩
def Pair.mlen {Z:List El->List Sent->List Sent->Prop} {cl:Int} {Tc Ts:List El} {kc ks:Int} {ec es:EndS} {U D:List Frm} (h:Pair Z cl Tc Ts kc ks ec es U D):(unseen es.other ec.row).length=U.length:=by
 obtain⟨⟨T,Qc,Pc,Qs,Ps,hz,e1,e2,r1,r2,c1,c2,m1,m2,_⟩,_⟩:=h;rw[f3f e1 m1 λs hs=>(m2 s hs).1];exact c1.length.symm
def f96 (P:List Sent):(ins P).length<=P.length:=by unfold ins;rw[List.length_map];exact List.length_filter_le _ _
def f97 {l:List El}: ∀{H:List El},l.Nodup->(∀x∈l,x∈H)->l.length<=H.length:=by
 induction l with
 | nil=>intro H _ _;simp
 | cons x l ih=>
   intro H hn hs;obtain⟨h1,h2⟩:=List.nodup_cons.1 hn;have hx:=hs x fz5;have:=ih (H:=H.erase x) h2 λy hy=>(List.mem_erase_of_ne (λe:y=x=>h1 (e▸hy))).2 (hs y (f0c _ hy));rw[List.length_erase_of_mem hx] at this;have:=List.length_pos_of_mem hx;simp only[fz6];omega
def f9d (f:Nat->List El) (g:Nat->Nat) (n:Nat) (h: ∀c,c<n->(f c).length<=g c):((List.range n).flatMap f).length<=sumN g n:=by
 induction n with
 | zero=>simp
 | succ n ih=>
   rw[List.range_succ,List.flatMap_append];have h1:=ih λc hc=>h c fe;have h2:=h n fe;simp only[f0a,List.flatMap_cons,List.flatMap_nil,f4m,sumN];omega
def hist_bound {S:Ses} (hG:Good S) {l:List El} (hn:l.Nodup) (hl: ∀x∈l,Hist S x):l.length<=2000:=by
 have h1:=f97 (H:=inl S.log++(List.range S.n).flatMap λc=>ins (f7p S c)) hn λx hx=>by
    rcases hl x hx with h'|⟨c,hc,h'⟩
    ·exact List.mem_append_left _ h'
    ·exact f4w _ (List.mem_flatMap.2 ⟨c,f2s.2 hc,h'⟩)
 have h2:=f9d (λc=>ins (f7p S c)) (λc=>(S.cl c).up.length) S.n λc hc=>by
    have:=f96 (f7p S c);have h3:=(hG.pair c hc).mlen;unfold f7p at this ⊢;omega
 have h3:=f96 (S.log.map λa=>(⟨a,0⟩:Sent));have h4:=hG.count;have h5:=hG.calls;rw[f0a] at h1;simp only[List.length_map] at h3;unfold inl at h1;omega
def call_hist {S:Ses} {R:El->El->Prop} (h:Sorted S R) {k c pos r:Int} {x:El} (hx:Hist S x):Hist (call S k c pos r).2 x:=by
 have j: ∀c kind pos r,Hist (change S c kind pos r).2 x:=λc kind pos r=>by
    unfold change;split
    ·exact hx
    split
    ·exact hx
    split
    ·exact hx
    refine hx.imp id λ⟨o,ho,h'⟩=>⟨o,ho,?_⟩;unfold f7p at h' ⊢;simp only[];by_cases e:o=c
    ·subst e;rw[put_same];show x∈ins (unseen _ ((S.cl o).en.row++[_]));rw[unseen_append,f7r];exact List.mem_append_left _ h'
    ·rw[put_ne _ _ e];exact h'
 unfold call;split
 ·exact hx
 rename_i hc;have A:c.toNat<S.n:=by omega
 split
 ·split
  ·exact j _ _ _ _
  ·exact hx
 split
 ·exact j _ _ _ _
 split
 ·exact j _ _ _ _
 have hP:=h.pair _ A;split
 ·unfold serve;split
  ·exact hx
  rename_i f U hu;split
  ·exact hx
  rw[hu] at hP;obtain⟨_,_,_,m⟩:=hP.serve (Z':=λT P Q=> ∃p k,f7p S c.toNat=p::P/\(tryF (S.ends c.toNat) f).1=(turn p.chg k (f7t S c.toNat)).1) λT p P' k e hz b ha=>⟨p,k,e,ha⟩;obtain⟨_,⟨p,k0,ep,ha⟩,_⟩:=m.base;rcases hx with h'|⟨o,ho,h'⟩
  ·left;show x∈inl (S.log++[_]);rw[f7x _ _ 0];exact List.mem_append_left _ h'
  ·by_cases e:o=c.toNat
   ·subst e;rw[ep,f7o] at h';have q:x∈ins (f7p (served S c.toNat f U) c.toNat)->Hist (served S c.toNat f U) x:=λh=>.inr ⟨_,ho,h⟩;have hm:f7p (served S c.toNat f U) c.toNat=unseen (take (S.ends c.toNat) f).other (S.cl c.toNat).en.row:=by
     unfold f7p served;simp only[f0e]
    rw[hm] at q;split at h'
    ·rename_i k1;rcases fy3.1 h' with h'|h'
     ·left;show x∈inl (S.log++[_]);rw[f7x _ _ 0,f7s,ha];refine f4w _ ?_;rw[f02 ((f7w _ _ _).2 k1),f8r _ _ k1,h'];exact fz5
     ·exact q h'
    ·exact q h'
   ·refine .inr ⟨o,ho,?_⟩;unfold f7p at h' ⊢;simp only[served,fx9 e];exact h'
 ·unfold get;split
  ·exact hx
  rename_i g D hd;rw[hd] at hP;obtain⟨_,m⟩:=hP.get (Z':=λT P Q=> ∃p k,P=(turn p k (f7p S c.toNat)).2.2) λT p P' k e hz b ha=>⟨p.chg,k,rfl⟩;obtain⟨_,⟨p,k0,ep⟩,_⟩:=m.base;refine hx.imp id λ⟨o,ho,h'⟩=>⟨o,ho,?_⟩;by_cases e:o=c.toNat
  ·subst e;have hm:f7p { S with cl:=put S.cl c.toNat (got (S.cl c.toNat) g D) } c.toNat=unseen (S.ends c.toNat).other (take (S.cl c.toNat).en g).row:=by
    unfold f7p;simp only[put_same];rfl
   rw[hm,ep,f7y];exact h'
  ·unfold f7p at h' ⊢;simp only[put_ne _ _ e];exact h'
end Plain
open Go Go.RowKit
def f98 {w:World} {t u:List Plain.El} {v1 v2:Value} {k c:Int} (h1:Txt w v1 t) (h2:Txt w v2 u) (hl:t.length<=4000) (A:u.length<=4000) (hs:Plain.Stay t k u c):
    Calls PV 31 #[v1,.int .i64 k,v2,.int .i64 c] w λx w'=>x=.returned (.bool true)/\Bl w w':=by
 obtain⟨⟨r1,r2⟩,⟨r3,r4⟩,st⟩:=hs;have n1:=f8f h1 hl;have n2:=f8f h2 A;have q1: ¬k<0:=by omega
 have q2: ¬(t.length:Int)<k:=by omega
 have q3: ¬c<0:=by omega
 have q4: ¬(u.length:Int)<c:=by omega
 have H1:=fx6 h1;have H2:=fx6 h2;clear h1 h2;by_cases hk:k=(t.length:Int)
 ·subst hk;go_enter PV.func31,Tryz.ntmps31;go_wp2;go_ret;exact⟨rfl,Bl.rf _⟩
 ·obtain⟨k,rfl⟩: ∃n:Nat,k=(n:Int):=⟨k.toNat,by omega⟩;have q:k<t.length:=by omega
  have C:(k:Int)<(t.length:Int):=by omega
  obtain⟨x,hx⟩: ∃x,t[k]? =some x:=⟨t[k],f0r q⟩;obtain⟨g1,p1,e1⟩: ∃g cap,v1=.slice (some ⟨g,0,none⟩) t.length cap:=by
   rcases f8e H1.out with⟨_,h⟩|⟨g,cap,h,_⟩
   ·omega
   ·exact⟨g,cap,h⟩
  subst e1;replace st:=st x (by simpa using hx);go_enter PV.func31,Tryz.ntmps31;go_wp2
  go_loopw [9] (λiv wr=> ∃i:Nat,i<=u.length/\iv=.int .i64 (i:Int)/\Bl w wr) (λiv _=>u.length-(intOf iv).toNat)
  case atStart => exact⟨0,f1n _,rfl,Bl.rf _⟩
  case round=>
   obtain⟨i,hi,rfl,gb⟩:=hrel;by_cases hlt:i<u.length
   ·have B:(i:Int)<(u.length:Int):=by omega
    obtain⟨y,hy⟩: ∃y,u[i]? =some y:=⟨u[i],f0r hlt⟩;have D:IntKind.i64.wrap ((i:Int)+1)=(i:Int)+1:=f0t _ fe;obtain⟨g2,p2,e2⟩: ∃g cap,v2=.slice (some ⟨g,0,none⟩) u.length cap:=by
     rcases f8e H2.out with⟨_,h⟩|⟨g,cap,h,_⟩
     ·omega
     ·exact⟨g,cap,h⟩
    subst e2;obtain⟨f0,f1,f2⟩:=fhr hx;obtain⟨f3,f4,f5⟩:=fhr hy;have c1:=f3g (Txt.bl H1.out gb) rfl;have c2:=f3g (Txt.bl H2.out gb) rfl;have z0:=c1 _ _ f0;have z1:=c1 _ _ f1;have z2:=c1 _ _ f2;have z3:=c2 _ _ f3;have z4:=c2 _ _ f4;have z5:=c2 _ _ f5;simp only[f2u,f1k] at z0 z1 z2 z3 z4 z5;have j:=λW=>eql38 y x W;clear c1 c2 f0 f1 f2 f3 f4 f5;by_cases m:y=x
    ·subst m;obtain rfl:c=(i:Int):=st i hy;simp only[decide_true] at j;go_wp2_with fail
     go_quiet (fail)
     go_wp2_with fail;go_ret;exact⟨by simp,gb.cl ⟨rfl,rfl,rfl,fx8 _,λ_ _=>rfl⟩⟩
    ·have hd:decide (y=x)=false:=by simpa using m
     simp only[hd] at j;go_wp2_with fail
     go_quiet (fail)
     go_wp2_with fail
     go_roundw
     case rel => exact⟨i+1,by omega,by simp,gb.cl ⟨rfl,rfl,rfl,fx8 _,λ_ _=>rfl⟩⟩
     case measure => simp[intOf];omega
   ·obtain rfl:i=u.length:=by omega
    go_wp2_with fail;go_ret;exact⟨rfl,gb⟩
def PV.func102:PV.funcs[102]? =some Tryz.f102:=pf Tryz.func102
section
variable {L:Lay} {V:Vals} {S:Plain.Ses} {m:Int} {ow ow':Nat->Nat} {w w':World} {E:Nat->Value} {i:Nat}
def f67 (h:Mem L V S 0 ow w) (hM:Marks L S.n w) (hE:Errs E w) (B:1<=S.n) (I:S.n<=6) (hi:i<S.n):
    Calls PV 29 #[.pointer (some ⟨L.b,0,none⟩),.int .i64 (i:Int)] w λx w'=>x=.returned (.int .i64 (S.cl i).cur)/\Bl w w':=by
 obtain⟨ab,cap,j,_⟩:=h.cls_ B;have A:=fx6 (gl h hM hE);have hh:=fx6 h;clear h hM hE;have D:(i:Int)<(S.n:Int):=by omega
 have J: ¬(i:Int)<0:=by omega
 go_enter_defers PV.func29,Tryz.ntmps29
 go_wp2_with (first|(go_at_call 25;refine A.out.mono ?_;rintro e w1 ⟨rfl,M,g1⟩;obtain⟨cB,dB⟩:=g1.mem.bb.ceF;simp only[sesC,j] at cB;obtain⟨cK,dK⟩:=(g1.mem.kk i hi).ceF;have C:=g1.mem.cls_at j i hi;replace g1:=fx6 g1));refine f1p (f:=26) (args:=#[.pointer (some ⟨L.b,0,none⟩)]) fi jg ?_;refine(zc g1.out.mem .returning).mono ?_;rintro e u' w4 ⟨rfl,rfl,⟨O,q⟩,m⟩;exact⟨_,f0x rfl _ _ _,rfl,aq hh.out q (g1.out.ch.tr m (λx hx=>.inl hx))⟩
def f64 (h:Mem L V S m ow w) (q:1<=S.n) (C:S.n<=6) (hi:i<S.n) (up:Bool):
    Calls PV 102 #[.pointer (some ⟨L.b,0,none⟩),.int .i64 (i:Int),.bool up] w λx w'=>x=.returned (.pointer (some ⟨if up then L.ul i else L.dl i,0,none⟩))/\w'=w:=by
 obtain⟨ab,cap,j,_⟩:=h.cls_ q;have B:(i:Int)<(S.n:Int):=by omega
 have D: ¬(i:Int)<0:=by omega
 obtain⟨cB,dB⟩:=h.bb.ceF;simp only[sesC,j] at cB;obtain⟨cK,dK⟩:=(h.kk i hi).ceF;have A:=h.cls_at j i hi;clear h;cases up <;>(go_enter PV.func102,Tryz.ntmps102;go_wp2;go_ret;exact⟨rfl,rfl⟩)
end
open Go.Conc
noncomputable def ft1:Code:=match new4 with | .seq c _=>c|_=>.skip
noncomputable def new5:Code:=match new4 with | .seq _ c=>c|_=>.skip
noncomputable def da:Code->Array Oper | .region _ ops _=>ops|_=>#[]
def ft2 (n room:Nat) (v:World) (fr:Frame) (w:World):Prop:=
 ∃(x2 x3 x7 x8 x9 j m q A B C D I J M O R U W X Y aa ab ac ad ae ah ak an ap aA aB aC aD aE aF aG aH aI aJ aK aL aM aN aO aP aQ aR aS aT aU aV aW aX aY aZ a0 a1 a2 a3 a4 a5 a6 a7 a8 a9 ba bb bc be bk bp bq br:Value) (bm es ns ch sb b:Nat),NewA n v w bm es ns ch sb b/\fr=(base 18).at ⟨(.int .i64 (n:Int):: .int .i64 (room:Int)::x2::x3:: .pointer none:: .nilIface:: .pointer (some ⟨b,0,none⟩)::x7::x8::x9::j::m::q::A::B::C::D::I::J::M::O::R::U::W::X::Y::aa::ab::ac::ad::ae::ah::ak::an:: .pointer (some ⟨b,0,none⟩)::ap::aA::aB::aC::aD::aE:: .chan (some ch)::aF::aG::aH::aI::aJ::aK::aL::aM::aN::aO::aP::aQ::aR::aS::aT::aU::aV::aW::aX::aY::aZ::a0::a1::a2::a3::a4::a5::a6::a7::a8::a9::ba::bb::bc::be::bk::bp::bq::br::[]).toArray,[]⟩ [.inRegion (da ft1) [8],.code new5]
def new_1 (n room:Nat) (m:1<=n) (q:n<=6) (A:1<=room) (j:room<=16) (v:World):RunTo (ft2 n room v) (Frame.enter Tryz.prog 18 #[.int .i64 (n:Int),.int .i64 (room:Int)] .normal) v:=by
 refine new_a n room m q A j v ?_;intro x2 x3 x7 x8 x9 B C D I J M O R U W X Y aa ab ac ad ae ah ak an ap aA aB aC aD aE aF aG aH aI aJ aK aL aM aN aO aP aQ aR aS aT aU aV aW aX aY aZ a0 a1 a2 a3 a4 a5 a6 a7 a8 a9 ba bb bc be bk bp bq br bs bm es ns ch sb b w hA;obtain⟨c0,d0⟩:=hA.b_.ceF;obtain⟨c1,d1⟩:=hA.s_.ceF;have hL:=fx6 hA;clear hA;refine rl (yt ?_);simp only[szs];refine uy rfl rfl (u:=.pointer (some ⟨b,0,none⟩)) (v1:=w) gw ?_;walk_nrm;refine uy rfl rfl (u:=.pointer (some ⟨b,0,none⟩)) (v1:=w) gw ?_;walk_nrm;refine uy rfl rfl (u:=.pointer (some ⟨b,0,none⟩)) (v1:=w) gw ?_;walk_nrm;refine uy rfl rfl (u:=.pointer (some ⟨b,3,none⟩)) (v1:=w) gw ?_;walk_nrm;refine uy rfl rfl (u:=.pointer (some ⟨sb,0,none⟩)) (v1:=w) gw ?_;walk_nrm;refine uy rfl rfl (u:=.pointer (some ⟨sb,0,none⟩)) (v1:=w) gw ?_;walk_nrm;refine uy rfl rfl (u:=.pointer (some ⟨sb,5,none⟩)) (v1:=w) gw ?_;walk_nrm;refine uy rfl rfl (u:=.chan (some ch)) (v1:=w) gw ?_;walk_nrm;exact zt ⟨_,_,_,_,_,_,_,_,_,_,_,_,_,_,_,_,_,_,_,_,_,_,_,_,_,_,_,_,_,_,_,_,_,_,_,_,_,_,_,_,_,_,_,_,_,_,_,_,_,_,_,_,_,_,_,_,_,_,_,_,_,_,_,_,_,_,_,_,_,_,_,_,_,_,bm,es,ns,ch,sb,b,hL.out,rfl⟩
def RtQ (Z:Frame->World->Prop) (b:Frame) (k:List Item):Exit->Act->World->Prop
 | .normal,a,v=>RunTo Z (b.at a k) v
 | .ret,a,v=> ∀todo,RunTo Z { b.at a todo with mode:=.returning } v
 | _,_,_=>False
def ig (w:World):w.drew.heap.size=w.heap.size:=rfl
def rt_q {Z:Frame->World->Prop} {b:Frame} {k:List Item} {c:Code} {a:Act} {v:World} (h:c.wp PV (RtQ Z b k) a v):RunTo Z (b.at a (.code c::k)) v:=by
 refine rj (wp_mono h λe a' v' h=>?_);cases e with
 | normal=>exact .inl ⟨rfl,h⟩
 | ret=>exact .inr ⟨rfl,h⟩
 | _=>exact h.elim
def rt_n {Z:Frame->World->Prop} {b:Frame} {k:List Item} {a:Act} {v:World} (h:RunTo Z (b.at a k) v):RtQ Z b k .normal a v:=h
noncomputable def ft3:Code:=match new5 with | .seq (.seq _ (.block _ (.loop c))) _=>c|_=>.skip
noncomputable def new13:Code:=match new5 with | .seq _ c=>c|_=>.skip
abbrev nilS:Value:=.slice none 0 0
def V0:Vals:=⟨λ_=>nilS,λ_=>nilS,λ_=>nilS,nilS,nilS⟩
def cl0:Plain.Cl:=⟨[],0,⟨0,0,0,[]⟩,0,[],[]⟩
def fes (n room i:Nat) (L:Lay) (fr:Frame):Prop:=
 ∃(x2 x3 x7 x8 x9 j m q A B C D I J M O R U W X Y aa ab ac ad ae ah ak an ap aA aB aC aD aE aF aG aH aI aJ aK aL aM aN aO aP aQ aR aS aT aU aV aW aX aY aZ a0 a1 a2 a3 a4 a5 a6 a7 a8 a9 ba bb bc be bk bm bp bq:Value),fr=(base 18).at ⟨(.int .i64 (n:Int):: .int .i64 (room:Int)::x2::x3:: .pointer none:: .nilIface:: .pointer (some ⟨L.b,0,none⟩)::x7::x8::x9::j::m::q::A::B::C::D::I::J::M::O::R::U::W::X::Y::aa::ab::ac::ad::ae::ah::ak::an::ap::aA::aB::aC::aD::aE::aF::aG::aH:: .int .i64 (n:Int):: .int .i64 (i:Int)::aI::aJ::aK::aL::aM::aN::aO::aP::aQ::aR::aS::aT::aU::aV::aW::aX::aY::aZ::a0::a1::a2::a3::a4::a5::a6::a7::a8::a9::ba::bb::bc::be::bk::bm::bp::bq::[]).toArray,[]⟩ [.code ft3,.inLoop ft3,.inBlock 0,.code new13]
structure NewK (i room:Nat) (w w':World) (k uc dc ch:Nat):Prop where
 old:Bl w w'
 ge:w.heap.size<=k/\w.heap.size<=uc/\w.heap.size<=dc/\w.heap.size<=ch
 ne1:k≠uc/\k≠uc+1/\k≠dc/\k≠dc+1/\k≠ch
 ne2:uc≠dc/\uc≠dc+1/\uc≠ch
 ne3:uc+1≠dc/\uc+1≠ch
 ne4:dc≠ch/\dc+1≠ch
 k_:Bk w' k 89 #[.int .i64 (i:Int),nilS,.int .i64 0,.int .i64 0,.int .i64 0,.int .i64 0,nilS,.pointer (some ⟨uc+1,0,none⟩),.pointer (some ⟨dc+1,0,none⟩),.int .i64 0,.chan (some ch)]
 up:Lnk w' (uc+1) uc room []
 dn:Lnk w' (dc+1) dc room []
 c_:w'.heap[ch]? =some (.chan 0 #[] false 0 0 false)
noncomputable def newB1:Code:=match ft3 with | .seq _ (.seq _ (.seq (.block _ c) _))=>c|_=>.skip
noncomputable def new12:Code:=match ft3 with | .seq _ (.seq _ (.seq _ c))=>c|_=>.skip
noncomputable def new9:Code:=match newB1 with | .seq _ (.seq _ c)=>c|_=>.skip
noncomputable def fp5:List Item:=[.inBlock 1,.code new12,.inLoop ft3,.inBlock 0,.code new13]
def new_2 {Z:Frame->World->Prop} (n room i:Nat) (L:Lay) (hi:i<n) (bC:n<=6) (bD:1<=room) (bB:room<=16) (w:World) {fr:Frame} (bA:fes n room i L fr)
    (hk: ∀(x2 x3 x9 C D I J M O R U X Y aa ab ac ad ae ah ak an ap aA aB aC aD aE aF aG aH aI aJ aK aL aM aN aO aP aQ aR aS aT aU aV aW aX aY aZ a0 a1 a2 a3 a4 a5 a6 a7 a8 a9 ba bb bc be bk bm bp bq br bs bu:Value) (k uc dc ch:Nat) (w':World),NewK i room w w' k uc dc ch->RunTo Z ((base 18).at ⟨(.int .i64 (n:Int):: .int .i64 (room:Int)::x2::x3:: .pointer none:: .nilIface:: .pointer (some ⟨L.b,0,none⟩):: .int .i64 (i:Int):: .pointer (some ⟨k,0,none⟩)::x9::C::D::I::J::M::O::R::U::X::Y::aa::ab::ac::ad::ae::ah::ak::an::ap::aA::aB::aC::aD::aE::aF::aG::aH::aI::aJ::aK::aL::aM::aN:: .int .i64 (n:Int):: .int .i64 (i:Int)::aO::aP::aQ::aR:: .pointer (some ⟨uc+1,0,none⟩)::aS:: .pointer (some ⟨dc+1,0,none⟩):: .chan (some ch)::aT::aU::aV::aW::aX::aY::aZ::a0::a1::a2::a3::a4::a5::a6::a7::a8::a9::ba::bb::bc::be::bk::bm::bp::bq::br::bs::bu::[]).toArray,[]⟩ (.code new9::fp5)) w'):RunTo Z fr w:=by
 obtain⟨x2,x3,x7,x8,x9,C,D,I,J,M,O,R,U,X,Y,aa,ab,ac,ad,ae,ah,ak,an,ap,aA,aB,aC,aD,aE,aF,aG,aH,aI,aJ,aK,aL,aM,aN,aO,aP,aQ,aR,bE,aS,bF,bG,aT,aU,aV,aW,aX,aY,aZ,a0,a1,a2,a3,a4,a5,a6,a7,a8,a9,ba,bb,bc,be,bk,bm,bp,bq,br,bs,bu,rfl⟩:=bA;have e1:(i:Int)<n:=by omega
 have B:=fx6 (λW=>newlink room W fe);have h3:=fx6 fwc;have hK:=fx6 hk;clear hk;refine rl (rj ?_);go_wp2;refine rl (ya (t:=true) rfl (bo (rl (yv (rl (rj ?_))))));go_wp2;refine rl (rt_q ?_);replace h3:=h3.out
 go_region_with (first|(go_at_call 38;refine(B.out _).mono ?_;rintro e w1 ⟨rfl,j,hB1⟩;replace j:=fx6 j;replace hB1:=fx6 hB1))
 all_goals clear h3 B
 all_goals walk_nrm
 all_goals rename_i wa A hBa
 all_goals (have la:=A.out.lb.lt;have lb:=j.out.lb.lt;have sa:=hBa.out.size;have sb:=hB1.out.size)
 all_goals try simp only[ig,vp] at la lb sa sb
 all_goals (have m:=A.out;have q:=j.out)
 all_goals try simp only[ig,vp] at m
 all_goals try simp only[ig,vp] at q
 all_goals exact rt_n (hK.out _ _ _ _ _ _ _ _ _ _ _ _ _ _ _ _ _ _ _ _ _ _ _ _ _ _ _ _ _ _ _ _ _ _ _ _ _ _ _ _ _ _ _ _ _ _ _ _ _ _ _ _ _ _ _ _ _ _ _ _ _ _ _ _ _ _ _ _ _ _ _ _ _ _ ⟨gn,f4g,f4g,f4g,f4g,f4g,Bk.nw (by first|rfl|exact vp _ _),(m.bl gn),(q.bl gn),(by
    rw[i4]
    first
     | (rw[fx9 (by simp only[vp];omega),i4,f02 rfl];done)
     | (rw[fx9 fe];exact(hB1.out.block _ (by simp only[vp];omega)).trans (by rw[i4,f02 rfl]))
     | (rw[fx9 fe];exact(hB1.out.block _ fe).trans ((hBa.out.block _ (by simp only[ig,vp];omega)).trans (by rw[fer,i4,f02 rfl]))))⟩)
structure Part (n room i m j:Nat) (L:Lay) (ow:Nat->Nat) (n0:Nat) (w:World):Prop where
 base:Base w
 n12:12<=n0
 low: ∀x,x<n0->ow x=0
 le:n0<=w.heap.size
 fresh: ∀x,w.heap.size<=x->ow x=0
 tag:Tags L V0 i ow
 bb:Bk w L.b 75 #[.int .i32 0,.int .u32 0,L.cls,.pointer (some ⟨L.sb,0,none⟩),.int .i64 0,.bool false,.int .u64 ((m:Nat)*K32),.int .u32 0]
 ss:Bk w L.sb 80 (srvC L n nilS nilS)
 ee:Bk w L.eb 86 (endZ n)
 nn:Bk w L.nb 3 (ft0 n)
 mp:Mp w L.mb i (λ_=>0)
 ar:w.ownsRow 0 83 1 L.cls i (clsL L i)
 kk: ∀c,c<i->Bk w (L.kb c) 89 (cliC L c nilS nilS cl0)
 up: ∀c,c<i->Lnk w (L.ul c) (L.uc c) room []
 dn: ∀c,c<i->Lnk w (L.dl c) (L.dc c) room []
 m0:MarkAt w L.c0
 ms: ∀c,c<j->MarkAt w (L.wc c)
def MarkAt.lt' {v:World} {c:Nat} (h:MarkAt v c):c<v.heap.size:=by
 obtain⟨x,s,r,h⟩:=h;exact(fx5.1 h).1
def fb9 (L:Lay) (i k uc dc ch g cap:Nat):Lay:=
 { L with cls:=.slice (some ⟨g,0,none⟩) (i+1) cap,kb:=Plain.put L.kb i k,ul:=Plain.put L.ul i (uc+1),uc:=Plain.put L.uc i uc,dl:=Plain.put L.dl i (dc+1),dc:=Plain.put L.dc i dc,wc:=Plain.put L.wc i ch }
def zz (ow:Nat->Nat) (i k uc dc ch g:Nat) (x:Nat):Nat:=
 if x=k then 16*i+16 else if x=uc+1 then 16*i+17 else if x=uc then 16*i+18 else if x=dc+1 then 16*i+19 else if x=dc then 16*i+20 else if x=ch then 16*i+21 else if x=g then 9 else ow x
def fk3 {ow:Nat->Nat} {i k uc dc ch g x:Nat} (h1:x≠k) (h2:x≠uc+1) (h3:x≠uc) (h4:x≠dc+1) (h5:x≠dc) (h6:x≠ch) (h7:x≠g):zz ow i k uc dc ch g x=ow x:=by
 simp only[zz,fx9 h1,fx9 h2,fx9 h3,fx9 h4,fx9 h5,fx9 h6,fx9 h7]
section
variable {n room i m j:Nat} {L:Lay} {ow:Nat->Nat} {n0:Nat} {w w1 w2:World} {k uc dc ch g cap:Nat}
def ft4 (L:Lay) (i k uc dc ch g cap:Nat):clsL (fb9 L i k uc dc ch g cap) (i+1)=clsL L i++[.pointer (some ⟨k,0,none⟩)]:=by
 unfold clsL;rw[List.range_succ,List.map_append]
 congr 1
 ·apply f5j;intro c hc;have:=f2s.1 hc;simp only[fb9,Plain.put_ne _ _ (show c≠i by omega)]
 ·simp[fb9,Plain.put_same]
def ft5 (hi:i<n) (hn:n<=6) (hP:Part n room i m j L ow n0 w) (hN:NewK i room w w1 k uc dc ch) (hj:j<=i)
    (hC:Ch (λx=>x=L.mb\/x=L.b\/L.cls.ownBlock=some x) w1 w2)
    (R:Bk w2 L.b 75 #[.int .i32 0,.int .u32 0,.slice (some ⟨g,0,none⟩) (i+1) cap,.pointer (some ⟨L.sb,0,none⟩),.int .i64 0,.bool false,.int .u64 ((m:Nat)*K32),.int .u32 0])
    (X:Mp w2 L.mb (i+1) (Plain.put (λ_=>0) i 0)) (O:w2.ownsRow 0 83 1 (.slice (some ⟨g,0,none⟩) (i+1) cap) (i+1) (clsL L i++[.pointer (some ⟨k,0,none⟩)]))
    (hg:L.cls.ownBlock=some g\/w1.heap.size<=g) (ah:g<w2.heap.size):
    Part n room (i+1) m j (fb9 L i k uc dc ch g cap) (zz ow i k uc dc ch g) n0 w2/\w2.heap[ch]? =some (.chan 0 #[] false 0 0 false):=by
 obtain⟨g1,g2,g3,g4⟩:=hN.ge;obtain⟨a1,a2,a3,a4,a5⟩:=hN.ne1;obtain⟨b1,b2,b3⟩:=hN.ne2;obtain⟨c1,c2⟩:=hN.ne3;obtain⟨d1,d2⟩:=hN.ne4;have T:=hP.tag;have lk:=hN.k_.lt;have lu:=hN.up.lb.lt;have ld:=hN.dn.lb.lt;have lc:ch<w1.heap.size:=(fx5.1 hN.c_).1;have ak:=hN.old.size;have an:=hC.size
 have J: ∀x,ow x≠0->x<w.heap.size:=λx hx=>by
    rcases f01 x w.heap.size with h|h
    ·exact h
    ·exact absurd (hP.fresh x h) hx
 have M:g<w.heap.size->ow g=9:=λh=>by
    rcases hg with h'|h'
    ·exact T.ar g h'
    ·omega
 have W:g<w.heap.size\/w1.heap.size<=g:=by
    rcases hg with h'|h'
    ·exact .inl (J g (by rw[T.ar g h'];omega))
    ·exact .inr h'
 have old: ∀x,x<w.heap.size->zz ow i k uc dc ch g x=ow x:=λx hx=>by
    by_cases e:x=g
    ·subst e;have:=M hx;simp only[zz,fx9 (show x≠k by omega),fx9 (show x≠uc+1 by omega),fx9 (show x≠uc by omega),fx9 (show x≠dc+1 by omega),fx9 (show x≠dc by omega),fx9 (show x≠ch by omega),f0e,this]
    ·exact fk3 fe fe fe fe fe fe e
 have tk:zz ow i k uc dc ch g k=16*i+16:=by simp[zz]
 have ae:zz ow i k uc dc ch g (uc+1)=16*i+17:=by simp only[zz,fx9 (show uc+1≠k by omega),f0e]
 have ad:zz ow i k uc dc ch g uc=16*i+18:=by simp only[zz,fx9 (show uc≠k by omega),fx9 (show uc≠uc+1 by omega),f0e]
 have ac:zz ow i k uc dc ch g (dc+1)=16*i+19:=by simp only[zz,fx9 (show dc+1≠k by omega),fx9 (show dc+1≠uc+1 by omega),fx9 (show dc+1≠uc by omega),f0e]
 have ab:zz ow i k uc dc ch g dc=16*i+20:=by simp only[zz,fx9 (show dc≠k by omega),fx9 (show dc≠uc+1 by omega),fx9 (show dc≠uc by omega),fx9 (show dc≠dc+1 by omega),f0e]
 have aa:zz ow i k uc dc ch g ch=16*i+21:=by simp only[zz,fx9 (show ch≠k by omega),fx9 (show ch≠uc+1 by omega),fx9 (show ch≠uc by omega),fx9 (show ch≠dc+1 by omega),fx9 (show ch≠dc by omega),f0e]
 have tg:zz ow i k uc dc ch g g=9:=by
    rcases W with h|h
    ·rw[old g h];exact M h
    ·simp only[zz,fx9 (show g≠k by omega),fx9 (show g≠uc+1 by omega),fx9 (show g≠uc by omega),fx9 (show g≠dc+1 by omega),fx9 (show g≠dc by omega),fx9 (show g≠ch by omega),f0e]
 have nz: ∀x y,ow x=y->y≠0->x<w.heap.size:=λx y h hy=>J x (by rw[h];exact hy)
 have C: ∀x,x<w.heap.size->ow x≠5->ow x≠1->ow x≠9->w2.heap[x]? =w.heap[x]? :=λx hx h5 h1 h9=>by
    refine(hC.block x fe ?_).trans (hN.old.block x hx);rintro(rfl|rfl|h)
    ·exact h5 T.mb
    ·exact h1 T.b
    ·exact h9 (T.ar x h)
 have A: ∀x,w.heap.size<=x->x<w1.heap.size->w2.heap[x]? =w1.heap[x]? :=λx hx hx'=>by
    refine hC.block x hx' ?_;rintro(rfl|rfl|h)
    ·have:=nz _ _ T.mb fe;omega
    ·have:=nz _ _ T.b fe;omega
    ·have:=nz _ _ (T.ar x h) fe;omega
 have q: ∀{x t cs},Bk w x t cs->ow x≠5->ow x≠1->ow x≠9->Bk w2 x t cs:=λhb h5 h1 h9=>⟨(C _ hb.lt h5 h1 h9).trans hb.at_⟩
 have I: ∀{l c U},Lnk w l c room U->ow l≠5->ow l≠1->ow l≠9->ow c≠5->ow c≠1->ow c≠9->Lnk w2 l c room U:=λhl h5 h1 h9 k5 k1 k9=>⟨q hl.lb h5 h1 h9,by
    obtain⟨s,r,h⟩:=hl.ch;exact⟨s,r,(C _ (fx5.1 h).1 k5 k1 k9).trans h⟩⟩
 refine⟨?_,(A ch fe lc).trans hN.c_⟩;refine⟨?_,hP.n12,λx hx=>?_,by have:=hP.le;omega,λx hx=>?_,?_,R,?_,?_,?_,?_,?_,?_,?_,?_,?_,?_⟩
 ·obtain⟨⟨t0,q0,h0⟩,⟨t1,q1,h1⟩⟩:=hP.base;have z0:=T.lo 0 fe;have z1:=T.lo 1 fe;exact⟨⟨t0,q0,q h0 fe fe fe⟩,⟨t1,q1,q h1 fe fe fe⟩⟩
 ·have:=hP.le;rw[old x fe];exact hP.low x hx
 ·rw[fk3 fe fe fe fe fe fe fe];exact hP.fresh x fe
 ·have D: ∀x y,ow x=y+1->zz ow i k uc dc ch g x=y+1:=λx y h=>by rw[old x (nz x _ h fe)];exact h
  have pick: ∀{f:Nat->Nat} {y:Nat} {o:Nat},(∀c,c<i->ow (f c)=16*c+o)->16<=o->zz ow i k uc dc ch g y=16*i+o-> ∀c,c<i+1->zz ow i k uc dc ch g (Plain.put f i y c)=16*c+o:=λ{f y o} h ho hy c hc=>by
   by_cases e:c=i
   ·subst e;rw[Plain.put_same];exact hy
   ·rw[Plain.put_ne _ _ e,old _ (nz _ _ (h c fe) fe)];exact h c fe
  refine⟨λx hx=>?_,D _ _ T.b,D _ _ T.sb,D _ _ T.eb,D _ _ T.nb,D _ _ T.mb,D _ _ T.c0,λx hx=>pl,λx hx=>?_,pick T.kb fe tk,pick T.ul fe ae,pick T.uc fe ad,pick T.dl fe ac,pick T.dc fe ab,pick T.wc fe aa,λc _ x hx=>pl,λc _ x hx=>pl⟩
  ·have:=hP.n12;have:=hP.le;rw[old x fe];exact T.lo x hx
  ·obtain rfl:g=x:=by simpa[fb9,Value.ownBlock] using hx
   exact tg
 ·exact q hP.ss (by have:=T.sb;show ow L.sb≠5;omega) (by have:=T.sb;show ow L.sb≠1;omega) (by have:=T.sb;show ow L.sb≠9;omega)
 ·exact q hP.ee (by have:=T.eb;show ow L.eb≠5;omega) (by have:=T.eb;show ow L.eb≠1;omega) (by have:=T.eb;show ow L.eb≠9;omega)
 ·exact q hP.nn (by have:=T.nb;show ow L.nb≠5;omega) (by have:=T.nb;show ow L.nb≠1;omega) (by have:=T.nb;show ow L.nb≠9;omega)
 ·exact X.cv λc hc=>by
   by_cases e:c=i
   ·subst e;rw[Plain.put_same]
   ·rw[Plain.put_ne _ _ e]
 ·rw[ft4];exact O
 ·intro c hc;by_cases e:c=i
  ·subst e;show Bk w2 (Plain.put L.kb c k c) 89 (cliC (fb9 L c k uc dc ch g cap) c nilS nilS cl0);rw[Plain.put_same];refine Bk.cv ⟨(A k g1 lk).trans hN.k_.at_⟩ ?_;simp[cliC,fb9,Plain.put_same,cl0]
  ·show Bk w2 (Plain.put L.kb i k c) 89 (cliC (fb9 L i k uc dc ch g cap) c nilS nilS cl0);rw[Plain.put_ne _ _ e];have B:c<i:=by omega
   have ht:=T.kb c B;refine Bk.cv (q (hP.kk c B) fe fe fe) ?_;simp[cliC,fb9,Plain.put_ne _ _ e]
 ·intro c hc;by_cases e:c=i
  ·subst e;show Lnk w2 (Plain.put L.ul c (uc+1) c) (Plain.put L.uc c uc c) room [];rw[Plain.put_same,Plain.put_same];refine⟨⟨(A (uc+1) fe lu).trans hN.up.lb.at_⟩,?_⟩;obtain⟨s,r,h⟩:=hN.up.ch;exact⟨s,r,(A uc g2 fe).trans h⟩
  ·show Lnk w2 (Plain.put L.ul i (uc+1) c) (Plain.put L.uc i uc c) room [];rw[Plain.put_ne _ _ e,Plain.put_ne _ _ e];have B:c<i:=by omega
   have ht:=T.ul c B;have Y:=T.uc c B;exact I (hP.up c B) fe fe fe fe fe fe
 ·intro c hc;by_cases e:c=i
  ·subst e;show Lnk w2 (Plain.put L.dl c (dc+1) c) (Plain.put L.dc c dc c) room [];rw[Plain.put_same,Plain.put_same];refine⟨⟨(A (dc+1) fe ld).trans hN.dn.lb.at_⟩,?_⟩;obtain⟨s,r,h⟩:=hN.dn.ch;exact⟨s,r,(A dc g3 fe).trans h⟩
  ·show Lnk w2 (Plain.put L.dl i (dc+1) c) (Plain.put L.dc i dc c) room [];rw[Plain.put_ne _ _ e,Plain.put_ne _ _ e];have B:c<i:=by omega
   have ht:=T.dl c B;have Y:=T.dc c B;exact I (hP.dn c B) fe fe fe fe fe fe
 ·have:=T.c0;exact hP.m0.to (C _ hP.m0.lt' (by show ow L.c0≠5;omega) (by show ow L.c0≠1;omega) (by show ow L.c0≠9;omega))
 ·intro c hc;show MarkAt w2 (Plain.put L.wc i ch c);rw[Plain.put_ne _ _ (show c≠i by omega)];have ht:=T.wc c fe;exact(hP.ms c hc).to (C _ (hP.ms c hc).lt' fe fe fe)
end
section
variable {n room i:Nat} {L:Lay} {ow:Nat->Nat} {n0:Nat} {w w1 w2 v:World}
def StartV.keep {b k m:Nat} (h:StartV b k m w w1): ∀x,x<w.heap.size->x≠b->x≠k->w1.heap[x]? =w.heap[x]? :=h.same
def fk4 (hi:i<n) (hP:Part n room (i+1) (i+1) i L ow n0 w) (hS:StartV L.b (L.wc i) (i+1) w w1):Part n room (i+1) (i+2) (i+1) L ow n0 w1:=by
 have T:=hP.tag;have hk:ow (L.wc i)=16*i+21:=T.wc i fe;have m: ∀x,x<w.heap.size->ow x≠1->ow x≠16*i+21->w1.heap[x]? =w.heap[x]? :=λx hx h1 h2=>hS.same x hx (λe=>h1 (by rw[e];exact T.b)) (λe=>h2 (by rw[e];exact hk));have j: ∀{x t cs},Bk w x t cs->ow x≠1->ow x≠16*i+21->Bk w1 x t cs:=λhb h1 h2=>⟨(m _ hb.lt h1 h2).trans hb.at_⟩
 have q: ∀{l c U},Lnk w l c room U->ow l≠1->ow l≠16*i+21->ow c≠1->ow c≠16*i+21->Lnk w1 l c room U:=λhl h1 h2 h3 h4=>⟨j hl.lb h1 h2,by
    obtain⟨s,r,h⟩:=hl.ch;exact⟨s,r,(m _ (fx5.1 h).1 h3 h4).trans h⟩⟩
 have I:=T.sb;have B:=T.eb;have D:=T.nb;have C:=T.mb;have A:=T.c0;have z0:=T.lo 0 fe;have z1:=T.lo 1 fe;refine⟨?_,hP.n12,hP.low,by have:=hP.le;have:=hS.size;omega,λx hx=>hP.fresh x (by have:=hS.size;omega),T,?_,?_,?_,?_,?_,?_,?_,?_,?_,?_,?_⟩
 ·obtain⟨⟨t0,q0,h0⟩,⟨t1,q1,h1⟩⟩:=hP.base;exact⟨⟨t0,q0,j h0 fe fe⟩,⟨t1,q1,j h1 fe fe⟩⟩
 ·have:=hS.ses _ _ hP.bb.at_;exact⟨this⟩
 ·exact j hP.ss fe fe
 ·exact j hP.ee fe fe
 ·exact j hP.nn fe fe
 ·exact⟨(m _ hP.mp.lt fe fe).trans hP.mp.at_⟩
 ·refine⟨hP.ar.1,?_⟩;rcases hP.ar.2 with h|⟨g,cap,cur,h1,h2,h3,h4⟩
  ·exact .inl h
  ·have hg:=T.ar g (by rw[h1];rfl);exact .inr ⟨g,cap,cur,h1,h2,(m g (fx5.1 h3).1 fe fe).trans h3,h4⟩
 ·intro c hc;have:=T.kb c hc;exact j (hP.kk c hc) fe fe
 ·intro c hc;have:=T.ul c hc;have:=T.uc c hc;exact q (hP.up c hc) fe fe fe fe
 ·intro c hc;have:=T.dl c hc;have:=T.dc c hc;exact q (hP.dn c hc) fe fe fe fe
 ·exact hP.m0.to (m _ hP.m0.lt' fe fe)
 ·intro c hc;by_cases e:c=i
  ·subst e;exact⟨_,_,_,hS.mark⟩
  ·have:=T.wc c fe;exact(hP.ms c fe).to (m _ (hP.ms c fe).lt' fe fe)
def L0 (b sb es ns bm ch:Nat):Lay:=⟨b,sb,es,ns,bm,ch,nilS,.int .u32 0,.int .u64 0,.int .u32 0,λ_=>0,λ_=>0,λ_=>0,λ_=>0,λ_=>0,λ_=>0,λ_=>False⟩
def O0 (b sb es ns bm ch:Nat) (x:Nat):Nat:=if x=b then 1 else if x=sb then 2 else if x=es then 3 else if x=ns then 4 else if x=bm then 5 else if x=ch then 6 else 0
def fp6 {bm es ns ch sb b:Nat} (hb:Base v) (m:12<=v.heap.size) (hA:NewA n v w bm es ns ch sb b) (hS:StartV b ch 0 w w1):
    Part n room 0 1 0 (L0 b sb es ns bm ch) (O0 b sb es ns bm ch) v.heap.size w1:=by
 obtain⟨g1,g2,g3,g4,g5,g6⟩:=hA.ge;obtain⟨a1,a2,a3,a4,a5⟩:=hA.ne1;obtain⟨b1,b2,b3,b4⟩:=hA.ne2;obtain⟨c1,c2,c3⟩:=hA.ne3;obtain⟨d1,d2,d3⟩:=hA.ne4;have l1:=(fx5.1 hA.m_).1;have l2:=hA.e_.lt;have l3:=hA.n_.lt;have l4:=(fx5.1 hA.c_).1;have l5:=hA.s_.lt;have l6:=hA.b_.lt;have hsz:=hA.old.size;have q:=hS.size
 have zero: ∀x,x≠b->x≠sb->x≠es->x≠ns->x≠bm->x≠ch->O0 b sb es ns bm ch x=0:=λx h1 h2 h3 h4 h5 h6=>by
    simp only[O0,fx9 h1,fx9 h2,fx9 h3,fx9 h4,fx9 h5,fx9 h6]
 have j: ∀{x t cs},Bk v x t cs->Bk w1 x t cs:=λ{x t cs} hb=>⟨by
    have:=hb.lt;rw[hS.same x fe fe fe,hA.old.block x fe];exact hb.at_⟩
 refine⟨?_,m,λx hx=>zero x fe fe fe fe fe fe,by omega,λx hx=>zero x fe fe fe fe fe fe,?_,?_,?_,?_,?_,?_,?_,λc hc=>by omega,λc hc=>by omega,λc hc=>by omega,?_,λc hc=>by omega⟩
 ·obtain⟨⟨t0,q0,h0⟩,⟨t1,q1,h1⟩⟩:=hb;exact⟨⟨t0,q0,j h0⟩,⟨t1,q1,j h1⟩⟩
 ·refine⟨λx hx=>zero x fe fe fe fe fe fe,?_,?_,?_,?_,?_,?_,λx hx=>pl,λx hx=>pl,λc hc=>by omega,λc hc=>by omega,λc hc=>by omega,λc hc=>by omega,λc hc=>by omega,λc hc=>by omega,λc _ x hx=>pl,λc _ x hx=>pl⟩
  ·simp[O0,L0]
  ·simp only[O0,L0,fx9 (show sb≠b by omega),f0e]
  ·simp only[O0,L0,fx9 (show es≠b by omega),fx9 (show es≠sb by omega),f0e]
  ·simp only[O0,L0,fx9 (show ns≠b by omega),fx9 (show ns≠sb by omega),fx9 (show ns≠es by omega),f0e]
  ·simp only[O0,L0,fx9 (show bm≠b by omega),fx9 (show bm≠sb by omega),fx9 (show bm≠es by omega),fx9 (show bm≠ns by omega),f0e]
  ·simp only[O0,L0,fx9 (show ch≠b by omega),fx9 (show ch≠sb by omega),fx9 (show ch≠es by omega),fx9 (show ch≠ns by omega),fx9 (show ch≠bm by omega),f0e]
 ·have:=hS.ses _ _ hA.b_.at_;exact⟨this⟩
 ·exact⟨(hS.same sb l5 fe fe).trans hA.s_.at_⟩
 ·exact⟨(hS.same es l2 fe fe).trans hA.e_.at_⟩
 ·exact⟨(hS.same ns l3 fe fe).trans hA.n_.at_⟩
 ·refine⟨(hS.same bm l1 fe fe).trans ?_⟩;rw[hA.m_];rfl
 ·exact f0w w1 0 83 1
 ·exact⟨_,_,_,hS.mark⟩
def finL (n:Nat) (L:Lay):Lay:={ L with y1:=.int .u32 0,y6:=.int .u64 ((n+1:Nat)*K32),y7:=.int .u32 0,far:=λ_=>False }
def ft6:ft0 n=cr n (λ_=>0):=by
 apply Array.ext';rw[toList_madeCells_one];unfold cr;simp only[List.map_const',List.length_range]
def fcp {c o:Nat} (hc:c<n) (ho:o<4):(endZ n)[c*4+o]? =(#[.int .i64 0,.int .i64 0,.int .i64 0,.slice none 0 0]:Array Value)[o]? :=by
 have h:c*4+o<n*4:=by omega
 unfold endZ madeCells;rw[f2c,Array.getElem?_range,f02 h];simp only[fz3]
 have e:(c*4+o)%(#[Value.int .i64 0,.int .i64 0,.int .i64 0,.slice none 0 0]:Array Value).size=o:=by
    show(c*4+o)%4=o;omega
 simp only[e];rcases(by omega:o=0\/o=1\/o=2\/o=3) with rfl|rfl|rfl|rfl <;>rfl
def ft7 (hP:Part n room n (n+1) n L ow n0 w):Mem (finL n L) V0 (Plain.new n room) 0 ow w/\Marks (finL n L) n w:=by
 have T:=hP.tag;refine⟨⟨hP.base,?_,hP.fresh,?_,hP.ss,⟨⟨endZ n,hP.ee,size_madeCells _ _,λc hc=>⟨fcp (o:=0) hc fe,fcp (o:=1) hc fe,fcp (o:=2) hc fe,fcp (o:=3) hc fe⟩⟩⟩,?_,hP.mp,hP.ar,Txt.nil w,f0w w 0 40 6,λc hc=>hP.kk c hc,hP.up,hP.dn,λc hc=>Txt.nil w,λc hc=>f0w w 0 209 7,λc hc=>f0w w 0 209 7,⟨λx h=>h.elim,λx _ h=>h,λc _ x _ h=>h⟩⟩,⟨hP.m0,hP.ms⟩⟩
 ·exact⟨T.lo,T.b,T.sb,T.eb,T.nb,T.mb,T.c0,T.lg,T.ar,T.kb,T.ul,T.uc,T.dl,T.dc,T.wc,T.rv,T.er⟩
 ·exact hP.bb
 ·exact Bk.cv hP.nn ft6
end
noncomputable def ft8:Code:=match new9 with | .seq _ (.seq _ c)=>c|_=>.skip
structure fwp (i:Nat) (L L':Lay):Prop where
 b:L'.b=L.b
 c0:L'.c0=L.c0
 wc: ∀c,c<i->L'.wc c=L.wc c
def flw (n room i:Nat) (L:Lay) (n0:Nat) (w0:World) (fr:Frame) (w:World):Prop:=
 ∃ (L':Lay) (ow':Nat->Nat),fwp i L L'/\Part n room (i+1) (i+1) i L' ow' n0 w/\w.heap[L'.wc i]? =some (.chan 0 #[] false 0 0 false)/\(∀c,c<i->L'.wc c≠L'.wc i)/\L'.c0≠L'.wc i/\Old n0 w0 w/\
   ∃(x2 x3 x7 x8 x9 j m q A B C D I J M O R U W X Y aa ab ac ad ae ah ak an ap aA aB aC aD aE aF aG aH aI aJ aK aL aM aN aO aP aQ aR aS aT aU aV aW aX aY aZ a0 a1 a2 a3 a4 a5 a6 a7 a8 a9 ba bb bc be bk bm:Value),fr=(base 18).at ⟨(.int .i64 (n:Int):: .int .i64 (room:Int)::x2::x3:: .pointer none:: .nilIface:: .pointer (some ⟨L'.b,0,none⟩)::x7::x8::x9::j::m::q::A::B::C::D::I::J::M::O::R::U::W::X::Y::aa::ab::ac::ad::ae::ah::ak::an::ap::aA::aB::aC::aD::aE::aF::aG::aH:: .int .i64 (n:Int):: .int .i64 (i:Int)::aI::aJ::aK::aL::aM::aN::aO::aP::aQ::aR::aS::aT::aU::aV::aW::aX::aY::aZ::a0::a1::a2::a3::a4::a5::a6::a7::a8::a9:: .pointer (some ⟨L'.b,0,none⟩)::ba::bb::bc:: .chan (some (L'.wc i))::be::bk::bm::[]).toArray,[]⟩ (.inRegion (da ft8) [5]::fp5)
def info83:(PV.info? 83).map (λi=>(i.zero,i.size,i.bytes))=some (some (.pointer none),1,8):=by kernel_rfl
def und65:PV.underlying 65=some (.slice 83):=by kernel_rfl
def new_3 (n room i:Nat) (L:Lay) (ow:Nat->Nat) (n0:Nat) (hi:i<n) (aF:n<=6) (w0 w:World) (hP:Part n room i (i+1) i L ow n0 w0) {k uc dc ch:Nat} (hN:NewK i room w0 w k uc dc ch)
    (x2 x3 x9 aG aH aI aJ aK aL aM aN aO aP aQ aR aS aT aU aV aW aX aY aZ a0 a1 a2 a3 a4 a5 a6 a7 a8 a9 bc be bk bm bp bq br bs bu bA bB bC bD bE bF bG bH bI bJ bK bL bM bN bO bP bQ bR bS bT bU bV bW bX bY bZ b0:Value):RunTo (flw n room i L n0 w0) ((base 18).at ⟨(.int .i64 (n:Int):: .int .i64 (room:Int)::x2::x3:: .pointer none:: .nilIface:: .pointer (some ⟨L.b,0,none⟩):: .int .i64 (i:Int):: .pointer (some ⟨k,0,none⟩)::x9::aG::aH::aI::aJ::aK::aL::aM::aN::aO::aP::aQ::aR::aS::aT::aU::aV::aW::aX::aY::aZ::a0::a1::a2::a3::a4::a5::a6::a7::a8::a9::bc::be::bk:: .int .i64 (n:Int):: .int .i64 (i:Int)::bm::bp::bq::br:: .pointer (some ⟨uc+1,0,none⟩)::bs:: .pointer (some ⟨dc+1,0,none⟩):: .chan (some ch)::bu::bA::bB::bC::bD::bE::bF::bG::bH::bI::bJ::bK::bL::bM::bN::bO::bP::bQ::bR::bS::bT::bU::bV::bW::bX::bY::bZ::b0::[]).toArray,[]⟩ (.code new9::fp5)) w:=by
 have hb:Bk w L.b 75 #[.int .i32 0,.int .u32 0,L.cls,.pointer (some ⟨L.sb,0,none⟩),.int .i64 0,.bool false,.int .u64 ((i+1:Nat)*K32),.int .u32 0]:=hP.bb.bl hN.old;have hs:Bk w L.sb 80 (srvC L n nilS nilS):=hP.ss.bl hN.old;have Y:Mp w L.mb i (λ_=>0):=hP.mp.ch (Ch.ba (K:=λ_=>False) hN.old) (λh=>h);have O:w.ownsRow 0 83 1 L.cls i (clsL L i):=qx (Ch.ba (K:=λ_=>False) hN.old) hP.ar (λ_ _ h=>h);have T:=hP.tag;have n1:L.b≠L.mb:=λe=>by have h1:=T.b;have h2:=T.mb;rw[e] at h1;omega
 have n2:L.sb≠L.mb:=λe=>by have h1:=T.sb;have h2:=T.mb;rw[e] at h1;omega
 have n3: ∀x,L.cls.ownBlock=some x->x≠L.b/\x≠L.mb:=λx hx=>by
    have h0:=T.ar x hx;have h1:=T.b;have h2:=T.mb;exact⟨λe=>by rw[e] at h0;omega,λe=>by rw[e] at h0;omega⟩
 have I:k≠L.mb/\k≠L.b/\ ∀x,L.cls.ownBlock=some x->x≠k:=by
    have h1:=hN.ge.1;have h2:=hP.mp.lt;have h3:=hP.bb.lt;exact⟨by omega,by omega,λx hx=>by have:=lr hP.ar x hx;omega⟩
 obtain⟨cB,dB⟩:=hb.ceF;obtain⟨cS,dS⟩:=hs.ceF;have aE:=mp_push Y fe 0;obtain⟨i0,W,q,aa,ab⟩:=f4i info83;have hI:=fx6 W;have ah:=fx6 q;have ak:=fx6 aa;have an:=fx6 ab;clear W q aa ab;have gP:=fx6 hP;have gN:=fx6 hN;have gT:=fx6 T;have aC:=fx6 hN.k_;have gA:=fx6 O;clear hP hN T O;refine rl (rj ?_);go_wp2;refine vy (F:=λw3=>Bk w3 L.b 75 #[.int .i32 0,.int .u32 0,L.cls,.pointer (some ⟨L.sb,0,none⟩),.int .i64 0,.bool false,.int .u64 ((i+1:Nat)*K32),.int .u32 0]/\Mp w3 L.mb (i+1) (Plain.put (λ_=>0) i 0)/\Ch (λx=>x=L.mb) w w3) ⟨?_,?_,?_⟩ ?_
 ·exact hb.ch ((Ch.rf (λx=>x=L.mb) w).sb (.inl rfl) _) n1
 ·exact⟨by
   have:=Y.lt;simp[Go.ChangeMaps.setBlock,fy1,this]⟩
 ·exact(Ch.rf (λx=>x=L.mb) w).sb (.inl rfl) _
 clear aE cB dB cS dS;rintro w3 ⟨C,D,B⟩;obtain⟨cB,dB⟩:=C.ceF;have D:=fx6 D;have ac:=fx6 (qx B gA.out (λx hx e=>(n3 x hx).2 e));refine rl (rj ?_);go_wp2_with (first|(at_builtin;refine wpList_append_lies _ rfl (.tmp 67) (.tmp 69) _ rfl 0 83 i0 _ 1 8 und65 hI.out ah.out ak.out an.out rfl fe L.cls i (clsL L i) rfl (qx (K:=λ_=>False) (Ch.ba ((Bl.rf _).al _)) ac.out (λ_ _ h=>h)) ⟨w3.heap.size,0,none⟩ 1 1 [.pointer (some ⟨k,0,none⟩)] rfl rfl (f2m (cs:=#[.pointer (some ⟨k,0,none⟩)]) (t:=83) (fr:=(0,0)) (Bk.nw rfl).at_) p9 fe jq fe fi _ rfl ?_;intro g cap w4 J A m X;have k4:=Bk.gr A (λe=>(n3 _ e.symm).1 rfl) (Bk.al C _);obtain⟨c4,d4⟩:=k4.ceF));refine vy (F:=λw5=>Part n room (i+1) (i+1) i (fb9 L i k uc dc ch g cap) (zz ow i k uc dc ch g) n0 w5/\w5.heap[ch]? =some (.chan 0 #[] false 0 0 false)/\Old n0 w0 w5/\Bk w5 k 89 #[.int .i64 (i:Int),nilS,.int .i64 0,.int .i64 0,.int .i64 0,.int .i64 0,nilS,.pointer (some ⟨uc+1,0,none⟩),.pointer (some ⟨dc+1,0,none⟩),.int .i64 0,.chan (some ch)]) ?_ ?_
 ·have ad:Ch (λx=>x=L.mb\/L.cls.ownBlock=some x) w w4:=((B.mo λx hx=>.inl hx).al _).gr A λx hx=>.inl (.inr hx);have ae:=ad.mo (K':=λx=>x=L.mb\/x=L.b\/L.cls.ownBlock=some x) λx hx=>hx.imp id .inr;have j:=ae.st (p:=⟨L.b,2,none⟩) (.inl (.inr (.inl rfl))) (.slice (some ⟨g,0,none⟩) (i+1) cap);have ap:=Bk.st (i:=2) (.slice (some ⟨g,0,none⟩) (i+1) cap) k4;have aD:Mp (w4.setCell ⟨L.b,2,none⟩ (.slice (some ⟨g,0,none⟩) (i+1) cap)) L.mb (i+1) (Plain.put (λ_=>0) i 0):=by
   have h0:Ch (λx=>L.cls.ownBlock=some x) w3 w4:=((Ch.rf _ w3).al _).gr A λx hx=>.inl hx;have h1:=D.out.ch h0 (λe=>(n3 _ e).2 rfl);exact h1.ch ((Ch.rf (λx=>x=L.b) w4).st (.inl rfl) _) (λe=>n1 e.symm)
  have aA:g≠L.b:=by
   rcases m with h|h
   ·exact(n3 g h).1
   ·have:=C.lt;have h':=h;simp only[vp] at h';omega
  have R:(w4.setCell ⟨L.b,2,none⟩ (.slice (some ⟨g,0,none⟩) (i+1) cap)).ownsRow 0 83 1 (.slice (some ⟨g,0,none⟩) (i+1) cap) (i+1) (clsL L i++[.pointer (some ⟨k,0,none⟩)]):=
   qx ((Ch.rf (λx=>x=L.b) w4).st (.inl rfl) _) J (λx hx e=>by
    obtain rfl:g=x:=by simpa[Value.ownBlock] using hx
    exact aA e)
  have b1:=B.size;obtain⟨r1,r2⟩:=ft5 (w2:=w4.setCell ⟨L.b,2,none⟩ (.slice (some ⟨g,0,none⟩) (i+1) cap)) hi aF gP.out gN.out (fx8 _) j (by simpa using ap) aD R (m.imp id λe=>by simp only[vp] at e;omega) (by simpa[World.setCell] using X);refine⟨r1,r2,⟨gP.out.le,f08 gN.out.old.size j.size,λx hx=>(j.block x ?_ ?_).trans (gN.out.old.block x ?_),j.os.trans gN.out.old.os,j.output.trans gN.out.old.output⟩,aC.out.ch j ?_⟩
  ·have:=gP.out.le;have:=gN.out.old.size;omega
  ·have h0:=gP.out.low x hx;rintro(rfl|rfl|h)
   ·have:=gT.out.mb;omega
   ·have:=gT.out.b;omega
   ·have:=gT.out.ar x h;omega
  ·have:=gP.out.le;omega
  ·rintro(h|h|h)
   ·exact I.1 h
   ·exact I.2.1 h
   ·exact I.2.2 k h rfl
 rintro w5 ⟨M,U,hO,aB⟩;obtain⟨cK,dK⟩:=aB.ceF;refine yt ?_;simp only[szs];refine uy rfl rfl (u:=.pointer (some ⟨L.b,0,none⟩)) (v1:=w5) gw ?_;walk_nrm;refine uy rfl rfl (u:=.pointer (some ⟨k,0,none⟩)) (v1:=w5) gw ?_;walk_nrm;refine uy rfl rfl (u:=.pointer (some ⟨k,0,none⟩)) (v1:=w5) gw ?_;walk_nrm;refine uy rfl rfl (u:=.pointer (some ⟨k,10,none⟩)) (v1:=w5) gw ?_;walk_nrm;refine uy rfl rfl (u:=.chan (some ch)) (v1:=w5) gw ?_;walk_nrm;have e:(fb9 L i k uc dc ch g cap).wc i=ch:=by simp[fb9,Plain.put_same]
 have T5:=M.tag;rw[<- e] at U;rw[<- e];refine zt ⟨fb9 L i k uc dc ch g cap,zz ow i k uc dc ch g,⟨rfl,rfl,λc hc=>Plain.put_ne _ _ (show c≠i by omega)⟩,M,U,λc hc h=>?_,λh=>?_,hO,_,_,_,_,_,_,_,_,_,_,_,_,_,_,_,_,_,_,_,_,_,_,_,_,_,_,_,_,_,_,_,_,_,_,_,_,_,_,_,_,_,_,_,_,_,_,_,_,_,_,_,_,_,_,_,_,_,_,_,_,_,_,_,_,_,_,_,_,_,_,_,_,rfl⟩
 ·have h1:=T5.wc c fe;have h2:=T5.wc i fe;rw[h] at h1;omega
 ·have h1:=T5.c0;have h2:=T5.wc i fe;rw[h] at h1;omega
open Go.ConcN (sumTo upd sumTo_upd upd_ne upd_same)
def RunTo.mono {Z Z':Frame->World->Prop} {fr:Frame} {v:World} (h:RunTo Z fr v) (h': ∀fr v,Z fr v->Z' fr v):RunTo Z' fr v:=by
 obtain⟨fr',v',h1,h2⟩:=h.out;exact⟨fr',v',h1,h' _ _ h2⟩
def NewEnd (L:Lay) (fr:Frame):Prop:= ∃(todo:List Item) (x0 x1 x2 x3 x6 x7 x8 x9 j m q A B C D I J M O R U W X Y aa ab ac ad ae ah ak an ap aA aB aC aD aE aF aG aH aI aJ aK aL aM aN aO aP aQ aR aS aT aU aV aW aX aY aZ a0 a1 a2 a3 a4 a5 a6 a7 a8 a9 ba bb bc be bk bm bp bq br bs:Value),fr={ (base 18).at ⟨(x0::x1::x2::x3:: .pointer (some ⟨L.b,0,none⟩):: .nilIface::x6::x7::x8::x9::j::m::q::A::B::C::D::I::J::M::O::R::U::W::X::Y::aa::ab::ac::ad::ae::ah::ak::an::ap::aA::aB::aC::aD::aE::aF::aG::aH::aI::aJ::aK::aL::aM::aN::aO::aP::aQ::aR::aS::aT::aU::aV::aW::aX::aY::aZ::a0::a1::a2::a3::a4::a5::a6::a7::a8::a9::ba::bb::bc::be::bk::bm::bp::bq::br::bs::[]).toArray,[]⟩ todo with mode:=.returning }
def new_end (n room i:Nat) (L:Lay) (hi:i=n) (m:n<=6) (w:World) {fr:Frame} (j:fes n room i L fr):RunTo (λfr w'=>NewEnd L fr/\w'=w) fr w:=by
 obtain⟨x2,x3,x7,x8,x9,q,A,B,C,D,I,J,M,O,R,U,W,X,Y,aa,ab,ac,ad,ae,ah,ak,an,ap,aA,aB,aC,aD,aE,aF,aG,aH,aI,aJ,aK,aL,aM,aN,aO,aP,aQ,aR,aS,aT,aU,aV,aW,aX,aY,aZ,a0,a1,a2,a3,a4,a5,a6,a7,a8,a9,ba,bb,bc,be,bk,bm,bp,bq,br,bs,rfl⟩:=j;have e1: ¬((i:Int)<n):=by omega
 clear hi;refine rl (rj ?_);go_wp2;refine rl (ya (t:=false) rfl (fhn rfl ?_));refine rl (rj ?_);go_wp2;refine fnj (zt ⟨⟨_,_,_,_,_,_,_,_,_,_,_,_,_,_,_,_,_,_,_,_,_,_,_,_,_,_,_,_,_,_,_,_,_,_,_,_,_,_,_,_,_,_,_,_,_,_,_,_,_,_,_,_,_,_,_,_,_,_,_,_,_,_,_,_,_,_,_,_,_,_,_,_,_,_,_,_,_,_,_,_,rfl⟩,rfl⟩)
def fwd (n room:Nat) (L:Lay) (fr:Frame):Prop:= ∃(x2 x3 x7 x8 x9 j m q A B C D I J M O R U W X Y aa ab ac ad ae ah ak an ap aA aB aC aD aE aF aG aH aI aJ aK aL aM aN aO aP aQ aR aS aT aU aV aW aX aY aZ a0 a1 a2 a3 a4 a5 a6 a7 a8 a9 ba bb bc be bk bm bp bq br bs:Value),fr=(base 18).at ⟨(.int .i64 (n:Int):: .int .i64 (room:Int)::x2::x3:: .pointer none:: .nilIface:: .pointer (some ⟨L.b,0,none⟩)::x7::x8::x9::j::m::q::A::B::C::D::I::J::M::O::R::U::W::X::Y::aa::ab::ac::ad::ae::ah::ak::an::ap::aA::aB::aC::aD::aE::aF::aG::aH::aI::aJ::aK::aL::aM::aN::aO::aP::aQ::aR::aS::aT::aU::aV::aW::aX::aY::aZ::a0::a1::a2::a3::a4::a5::a6::a7::a8::a9::ba::bb::bc::be::bk::bm::bp::bq::br::bs::[]).toArray,[]⟩ [.inRegion (da ft1) [],.code new5]
def fp7 {Z:Frame->World->Prop} (n room:Nat) (L:Lay) (w:World) {fr:Frame} (j:fwd n room L fr) (h: ∀fr',fes n room 0 L fr'->RunTo Z fr' w):RunTo Z fr w:=by
 obtain⟨x2,x3,x7,x8,x9,m,q,A,B,C,D,I,J,M,O,R,U,W,X,Y,aa,ab,ac,ad,ae,ah,ak,an,ap,aA,aB,aC,aD,aE,aF,aG,aH,aI,aJ,aK,aL,aM,aN,aO,aP,aQ,aR,aS,aT,aU,aV,aW,aX,aY,aZ,a0,a1,a2,a3,a4,a5,a6,a7,a8,a9,ba,bb,bc,be,bk,bm,bp,bq,br,bs,bu,rfl⟩:=j;have hh:=fx6 h;clear h;refine ie (rl (rl (rj ?_)));go_wp2;refine yv (fhm ?_);exact hh.out _ ⟨_,_,_,_,_,_,_,_,_,_,_,_,_,_,_,_,_,_,_,_,_,_,_,_,_,_,_,_,_,_,_,_,_,_,_,_,_,_,_,_,_,_,_,_,_,_,_,_,_,_,_,_,_,_,_,_,_,_,_,_,_,_,_,_,_,_,_,_,_,_,_,_,_,_,rfl⟩
def ft9 (n room i:Nat) (L:Lay) (fr:Frame):Prop:= ∃(x2 x3 x7 x8 x9 j m q A B C D I J M O R U W X Y aa ab ac ad ae ah ak an ap aA aB aC aD aE aF aG aH aI aJ aK aL aM aN aO aP aQ aR aS aT aU aV aW aX aY aZ a0 a1 a2 a3 a4 a5 a6 a7 a8 a9 ba bb bc be bk bm bp bq:Value),fr=(base 18).at ⟨(.int .i64 (n:Int):: .int .i64 (room:Int)::x2::x3:: .pointer none:: .nilIface:: .pointer (some ⟨L.b,0,none⟩)::x7::x8::x9::j::m::q::A::B::C::D::I::J::M::O::R::U::W::X::Y::aa::ab::ac::ad::ae::ah::ak::an::ap::aA::aB::aC::aD::aE::aF::aG::aH:: .int .i64 (n:Int):: .int .i64 (i:Int)::aI::aJ::aK::aL::aM::aN::aO::aP::aQ::aR::aS::aT::aU::aV::aW::aX::aY::aZ::a0::a1::a2::a3::a4::a5::a6::a7::a8::a9::ba::bb::bc::be::bk::bm::bp::bq::[]).toArray,[]⟩ (.inRegion (da ft8) []::fp5)
def flx {Z:Frame->World->Prop} (n room i:Nat) (L:Lay) (w:World) (hi:i<1000) {fr:Frame} (j:ft9 n room i L fr) (h: ∀fr',fes n room (i+1) L fr'->RunTo Z fr' w):RunTo Z fr w:=by
 obtain⟨x2,x3,x7,x8,x9,m,q,A,B,C,D,I,J,M,O,R,U,W,X,Y,aa,ab,ac,ad,ae,ah,ak,an,ap,aA,aB,aC,aD,aE,aF,aG,aH,aI,aJ,aK,aL,aM,aN,aO,aP,aQ,aR,aS,aT,aU,aV,aW,aX,aY,aZ,a0,a1,a2,a3,a4,a5,a6,a7,a8,a9,ba,bb,bc,be,bk,bm,bp,bq,br,rfl⟩:=j;have hh:=fx6 h;clear h;have e:IntKind.i64.wrap ((i:Int)+1)=((i+1:Nat):Int):=by rw[f3h];omega
 refine ie (zb (yt ?_));simp only[szs];refine uy rfl rfl (u:=.int .i64 ((i+1:Nat):Int)) (v1:=w) (by go_simp;try rw[e];try omega) ?_;walk_nrm;refine uy rfl rfl (u:=.int .i64 ((i+1:Nat):Int)) (v1:=w) gw ?_;walk_nrm;refine ie (bt ?_);exact hh.out _ ⟨_,_,_,_,_,_,_,_,_,_,_,_,_,_,_,_,_,_,_,_,_,_,_,_,_,_,_,_,_,_,_,_,_,_,_,_,_,_,_,_,_,_,_,_,_,_,_,_,_,_,_,_,_,_,_,_,_,_,_,_,_,_,_,_,_,_,_,_,_,_,_,_,_,_,rfl⟩
end Go.Proofs.YtelecjnabeokeaaGreatDoor
namespace Go.Proofs.YtelecjnabeokeaaGreatDoor
open Go Go.Conc Go.RowKit
def NewEnd.form {L:Lay} {fr:Frame} (h:NewEnd L fr): ∃T todo,fr={ (base 18).at ⟨T,[]⟩ todo with mode:=.returning }/\T.getD 4 undef=.pointer (some ⟨L.b,0,none⟩)/\T.getD 5 undef=.nilIface:=by
 obtain⟨todo,y0,y1,y2,y3,y6,y7,y8,y9,j,m,q,A,B,C,D,I,J,M,O,R,U,W,X,Y,aa,ab,ac,ad,ae,ah,ak,an,ap,aA,aB,aC,aD,aE,aF,aG,aH,aI,aJ,aK,aL,aM,aN,aO,aP,aQ,aR,aS,aT,aU,aV,aW,aX,aY,aZ,a0,a1,a2,a3,a4,a5,a6,a7,a8,a9,ba,bb,bc,be,bk,bm,bp,bq,br,bs,rfl⟩:=h;exact⟨_,todo,rfl,rfl,rfl⟩
def fwe {n room i:Nat} {L:Lay} {n0:Nat} {w0:World} {fr:Frame} {w:World} (h:flw n room i L n0 w0 fr w): ∃(L':Lay) (ow':Nat->Nat) (T:Array Value),fwp i L L'/\Part n room (i+1) (i+1) i L' ow' n0 w/\w.heap[L'.wc i]? =some (.chan 0 #[] false 0 0 false)/\(∀c,c<i->L'.wc c≠L'.wc i)/\L'.c0≠L'.wc i/\Old n0 w0 w/\
    fr=(base 18).at ⟨T,[]⟩ (.inRegion (da ft8) [5]::fp5)/\T.getD 73 undef=.pointer (some ⟨L'.b,0,none⟩)/\T.getD 77 undef=.chan (some (L'.wc i))/\ ∀u,ft9 n room i L' ((base 18).at (Act.put ⟨T,[]⟩ (some 78) u) (.inRegion (da ft8) []::fp5)):=by
 obtain⟨L',ow',hS,q,A,B,j,m,y2,y3,y7,y8,y9,C,D,I,J,M,O,R,U,W,X,Y,aa,ab,ac,ad,ae,ah,ak,an,ap,aA,aB,aC,aD,aE,aF,aG,aH,aI,aJ,aK,aL,aM,aN,aO,aP,aQ,aR,aS,aT,aU,aV,aW,aX,aY,aZ,a0,a1,a2,a3,a4,a5,a6,a7,a8,a9,ba,bb,bc,be,bk,bm,bp,bq,br,bs,bu,rfl⟩:=h;refine⟨L',ow',_,hS,q,A,B,j,m,rfl,rfl,rfl,λu=>?_⟩;walk_nrm;exact⟨_,_,_,_,_,_,_,_,_,_,_,_,_,_,_,_,_,_,_,_,_,_,_,_,_,_,_,_,_,_,_,_,_,_,_,_,_,_,_,_,_,_,_,_,_,_,_,_,_,_,_,_,_,_,_,_,_,_,_,_,_,_,_,_,_,_,_,_,_,_,_,_,_,_,rfl⟩
def form4 {n room:Nat} {v:World} {fr:Frame} {w:World} (h:ft2 n room v fr w): ∃(bm es ns ch sb b:Nat) (T:Array Value),NewA n v w bm es ns ch sb b/\fr=(base 18).at ⟨T,[]⟩ [.inRegion (da ft1) [8],.code new5]/\T.getD 34 undef=.pointer (some ⟨b,0,none⟩)/\T.getD 41 undef=.chan (some ch)/\ ∀u (L:Lay),L.b=b->fwd n room L ((base 18).at (Act.put ⟨T,[]⟩ (some 42) u) [.inRegion (da ft1) [],.code new5]):=by
 obtain⟨y2,y3,y7,y8,y9,j,m,q,A,B,C,D,I,J,M,O,R,U,W,X,Y,aa,ab,ac,ad,ae,ah,ak,an,ap,aA,aB,aC,aD,aE,aF,aG,aH,aI,aJ,aK,aL,aM,aN,aO,aP,aQ,aR,aS,aT,aU,aV,aW,aX,aY,aZ,a0,a1,a2,a3,a4,a5,a6,a7,a8,a9,ba,bb,bc,be,bk,bp,bq,br,bm,es,ns,ch,sb,b,hA,rfl⟩:=h;refine⟨bm,es,ns,ch,sb,b,_,hA,rfl,rfl,rfl,λu L e=>?_⟩;subst e;walk_nrm;exact⟨_,_,_,_,_,_,_,_,_,_,_,_,_,_,_,_,_,_,_,_,_,_,_,_,_,_,_,_,_,_,_,_,_,_,_,_,_,_,_,_,_,_,_,_,_,_,_,_,_,_,_,_,_,_,_,_,_,_,_,_,_,_,_,_,_,_,_,_,_,_,_,_,_,_,_,_,rfl⟩
open Go.ConcN (sumTo upd sumTo_upd upd_ne upd_same)
def Part.re {n room i m j:Nat} {L:Lay} {ow:Nat->Nat} {n0:Nat} {w:World} (h:Part n room i m j L ow n0 w) (t:Nat->Question->Nat) (d:Nat):Part n room i m j L ow n0 (reW w t d):=
 ⟨h.base.re t d,h.n12,h.low,h.le,h.fresh,h.tag,h.bb.re t d,h.ss.re t d,h.ee.re t d,h.nn.re t d,h.mp.re t d,h.ar,λc hc=>(h.kk c hc).re t d,λc hc=>(h.up c hc).re t d,λc hc=>(h.dn c hc).re t d,h.m0,h.ms⟩
def Old.ge2 {n:Nat} {v v':World} (h:Old n v v'):n<=v'.heap.size:=f08 h.le h.size
def Old.sv {n0 b k m:Nat} {v v':World} (h:StartV b k m v v') (hn:n0<=v.heap.size) (hb:n0<=b) (hk:n0<=k):Old n0 v v':=
 ⟨hn,by have:=h.size;omega,λx hx=>h.same x fe fe fe,h.os,h.output⟩
def chs (L:Lay) (x:Nat):Nat:=if x=0 then L.c0 else L.wc (x-1)
def SesN.cg {b j0 n:Nat} {ch j:Nat->Nat} {WS:Nat->Option SeatD} (W:SesN b j0 n ch WS) (h: ∀i,i<n->j i=ch i):SesN b j0 n j WS:=
 ⟨λi hi=>by obtain⟨m,hm⟩:=W.at_ i hi;exact⟨m,by rw[h i hi];exact hm⟩,W.no,λi i' hi q e=>W.inj i i' hi q (by rw[<- h i hi,<- h i' q];exact e)⟩
def fnk {i:Nat} {L L':Lay} (h:fwp i L L'): ∀x,x<i+1->chs L' x=chs L x:=λx hx=>by
 unfold chs;by_cases e:x=0
 ·rw[f02 e,f02 e];exact h.c0
 ·rw[fx9 e,fx9 e];exact h.wc _ fe
structure Made (n room N:Nat) (v0:World) (L:Lay) (ow:Nat->Nat) (WS:Nat->Option SeatD) (v:World):Prop where
 mem:Mem L V0 (Plain.new n room) 0 ow v
 marks:Marks L n v
 y1:L.y1=.int .u32 0
 y6:L.y6=.int .u64 ((n+1:Nat)*K32)
 y7:L.y7=.int .u32 0
 seats:SesN L.b N (n+1) (chs L) WS
 old:Old v0.heap.size v0 v
 low: ∀x,x<v0.heap.size->ow x=0
def NewR (n room N:Nat) (Shun:Loc->Prop) (v0:World) (x:Value) (m:Nat->Option SeatD) (j:Loc->Prop) (v':World) (N':Nat):Prop:=
 j=Shun/\N'=N+(n+1)/\ ∃L ow,x=.tuple #[.pointer (some ⟨L.b,0,none⟩),.nilIface]/\Made n room N v0 L ow m v'
def NewEnd.calm {L:Lay} {fr:Frame} (h:NewEnd L fr):vt fr=false:=by
 obtain⟨_,_,rfl,_⟩:=h.form;rfl
section
variable {Φ:Goal} {WS:Nat->Option SeatD} {Shun:Loc->Prop} {v v0:World} {n room N:Nat} {X:Frame} {cs:List Frame}
def fhq {b:Frame} {a:Act} {k:List Item} {ops:Array Oper} {i:Nat} {rest:List Nat} {o:Oper} {f:FuncId} {fn:Func} {c:Code} {args:Array Operand} {m:Array TypeId} (xs:Array Value) (hx:args.map a.eval=xs) (ho:ops[i]? =some o) (hw:o.guard=none) (hk:b.kind≠ .early) (q:o.op=.call { callee:=.value (.func f),args:=args,argTypes:=m })
    (hf:Tryz.prog.funcs[f]? =some fn) (j:(fn.name== "runtime.NumGoroutine")=false) (hb:fn.body=some c) (h:Co Φ WS Shun v N (G (Frame.enter Tryz.prog f xs .normal) (b.at a (.inRegion ops (i::rest)::k)::cs))):
    Co Φ WS Shun v N (G (b.at a (.inRegion ops (i::rest)::k)) cs):=f8w ho (by simp[Region.wanted,hw]) hk q hf j hb (by rw[hx];exact h)
noncomputable def call11:Oper:=(da ft8)[5]?.getD default
noncomputable def call4:Oper:=(da ft1)[8]?.getD default
def fvo (D:n<=6) (ae:1<=room) (U:room<=16) (hc: ∀x J q v' N',NewR n room N Shun v0 x J q v' N'->Co Φ J q v' N' (G (ur .normal x X) cs)):
    ∀ (d i:Nat),i+d=n-> ∀(L:Lay) (ow:Nat->Nat) (WS:Nat->Option SeatD) (w:World) (fr:Frame),Part n room i (i+1) i L ow v0.heap.size w->SesN L.b N (i+1) (chs L) WS->Old v0.heap.size v0 w->
      FrOk Tryz.prog rg fr->fr.kind=.normal->(∀Z t d,(∀fr',fes n room i L fr'->RunTo Z fr' (reW w t d))->RunTo Z fr (reW w t d))->Co Φ WS Shun w (N+(i+1)) (G fr (X::cs)):=by
 intro d
 induction d with
 | zero=>
   intro i hi L ow WS w fr hP hW hO I hk hrun;obtain rfl:i=n:=by omega
   refine fge (Z:=λfr w'=>NewEnd L fr/\ ∃t d,w'=reW w t d) hW.ok (λfr v h=>h.1.calm) I hk (λt d=>hrun _ t d λfr' B=>(new_end i room i L rfl D (reW w t d) B).mono λfr v h=>⟨h.1,t,d,h.2⟩) ?_;rintro fr' w' ⟨he,t,d,rfl⟩;obtain⟨T,todo,rfl,h4,h5⟩:=he.form;refine fhp (fn:=Tryz.f18) rfl rfl Tryz.func18 (resultsC_tmp2 (t:=4) (u:=5) rfl T) ?_;rw[h4,h5];obtain⟨hM,aa⟩:=ft7 hP;exact hc _ _ _ _ _ ⟨rfl,rfl,finL i L,ow,rfl,hM.re t d,aa.re t d,rfl,rfl,rfl,hW.cg λx _=>rfl,hO.re t d,hP.low⟩
 | succ d ih=>
   intro i hi L ow WS w fr hP hW hO I hk hrun;have hlt:i<n:=by omega
   refine fge (Z:=λfr w'=> ∃w0,(∃t d,w0=reW w t d)/\flw n room i L v0.heap.size w0 fr w') hW.ok (λfr v h=>?_) I hk (λt d=>hrun _ t d λfr' B=>?_) ?_
   ·obtain⟨w0,_,h⟩:=h;obtain⟨_,_,_,_,_,_,_,_,_,rfl,_⟩:=fwe h;rfl
   ·refine new_2 n room i L hlt D ae U _ B ?_;intros;rename_i hN;exact(new_3 n room i L ow v0.heap.size hlt D (reW w t d) _ (hP.re t d) hN _ _ _ _ _ _ _ _ _ _ _ _ _ _ _ _ _ _ _ _ _ _ _ _ _ _ _ _ _ _ _ _ _ _ _ _ _ _ _ _ _ _ _ _ _ _ _ _ _ _ _ _ _ _ _ _ _ _ _ _ _ _ _ _ _ _ _ _ _).mono λfr v h=>⟨_,⟨t,d,rfl⟩,h⟩
   ·rintro fr' w' ⟨w0,⟨t,d',rfl⟩,B⟩;obtain⟨L',ow',T,hS,A,ad,R,C,O,rfl,W,Y,M⟩:=fwe B;refine fhq (o:=call11) (f:=37) (fn:=Tryz.f37) (args:=#[.tmp 73,.tmp 77]) #[.pointer (some ⟨L'.b,0,none⟩),.chan (some (L'.wc i))] (by simp only[List.map_toArray,f3c,List.map_nil,Act.eval,W,Y]) rfl rfl gh rfl Tryz.func37 fd rfl ?_;refine fn1 (b:=L'.b) (k:=L'.wc i) (m:=i+1) A.bb.at_ rfl rfl rfl fe ad (λj s hj=>?_) ?_
    ·obtain⟨x,m,hx,_,rfl⟩:=hW.seat hj;show chs L x≠L'.wc i;rw[<- fnk hS x hx];unfold chs;by_cases e:x=0
     ·rw[f02 e];exact C
     ·rw[fx9 e];exact R _ fe
    ·intro v' hV;rw[fho (o:=call11) rfl];have T':=A.tag;have ab:=fk4 hlt A hV;have ac:SesN L'.b N (i+1+1) (chs L') (upd WS (N+(i+1)) (some (vc w'.heap.size L'.b (L'.wc i)))):=by
      have h1:SesN L'.b N (i+1) (chs L') WS:=by rw[hS.b];exact hW.cg (fnk hS)
      have h2:=h1.more (m:=w'.heap.size) (λx hx=>by
       show chs L' x≠L'.wc i;unfold chs;by_cases e:x=0
       ·rw[f02 e];exact C
       ·rw[fx9 e];exact R _ fe)
      exact h2
     refine ih (i+1) fe L' ow' _ v' _ ab ac ((hO.tr O.re').tr (Old.sv hV O.ge2 ?_ ?_)) (zu Tryz.func18 pv18 fd rfl) rfl ?_
     ·rcases f01 L'.b v0.heap.size with h|h
      ·have h1:=A.low _ h;have h2:=T'.b;omega
      ·exact h
     ·rcases f01 (L'.wc i) v0.heap.size with h|h
      ·have h1:=A.low _ h;have h2:=T'.wc i fe;omega
      ·exact h
     ·intro Z t d h;exact flx n room i L' _ fe (M _) h
def fp8 {f:FuncId} {fn:Func} {cd:Code} {args:Array Value} (h1:Tryz.prog.funcs[f]? =some fn) (h2:PV.funcs[f]? =some fn) (hb:fn.body=some cd) (hi:(va cd&&yb cd)=true):FrOk Tryz.prog rg (Frame.enter Tryz.prog f args .normal):=by
 rw[ea h1 hb];refine zu h1 h2 ?_ rfl;simp only[List.all_cons,List.all_nil,Bool.and_true];exact hi
def new_fc (M:1<=n) (B:n<=6) (C:1<=room) (q:room<=16) (hB:Base v0) (D:12<=v0.heap.size):Fc vb Shun v0 N 18 #[.int .i64 (n:Int),.int .i64 (room:Int)] (NewR n room N Shun v0):=by
 refine⟨λΦ X cs hc=>?_⟩;refine fge (Z:=λfr w=> ∃t d,ft2 n room (reW v0 t d) fr w) bg (λfr v h=>?_) (fp8 Tryz.func18 pv18 rfl fd) rfl (λt d=>(new_1 n room M B C q (reW v0 t d)).mono λfr v h=>⟨t,d,h⟩) ?_
 ·obtain⟨t,d,h⟩:=h;obtain⟨_,_,_,_,_,_,_,_,rfl,_⟩:=form4 h;rfl
 ·rintro fr w ⟨t,d,h⟩;obtain⟨bm,es,ns,ch,sb,b,T,hA,rfl,I,J,A⟩:=form4 h;refine fhq (o:=call4) (f:=37) (fn:=Tryz.f37) (args:=#[.tmp 34,.tmp 41]) #[.pointer (some ⟨b,0,none⟩),.chan (some ch)] (by simp only[List.map_toArray,f3c,List.map_nil,Act.eval,I,J]) rfl rfl gh rfl Tryz.func37 fd rfl ?_;refine fn1 (b:=b) (k:=ch) (m:=0) hA.b_.at_ rfl fi rfl fe hA.c_ (λj s hj=>by cases hj) ?_;intro v' hV;rw[fho (o:=call4) rfl];have hP:=fp6 (room:=room) (hB.re t d) D hA hV;have hW:SesN b N (0+1) (chs (L0 b sb es ns bm ch)) (upd vb (N+0) (some (vc w.heap.size b ch))):=SesN.none.more (λx hx=>by omega);obtain⟨g1,g2,g3,g4,g5,g6⟩:=hA.ge;refine fvo B C q hc n 0 fe _ _ _ v' _ hP hW (((Old.bl (v:=reW v0 t d) (fx8 _) hA.old).re').tr (Old.sv hV hA.old.size g6 g4)) (zu Tryz.func18 pv18 fd rfl) rfl ?_;intro Z t d h;exact fp7 n room _ _ (A _ _ rfl) h
end
end Go.Proofs.YtelecjnabeokeaaGreatDoor
namespace Go.Proofs.YtelecjnabeokeaaGreatDoor
open Go Go.Conc Go.RowKit
structure Sess (n N n0:Nat) (L:Lay) (E:Nat->Value) (A:Nat->Addr) (S:Plain.Ses) (ow:Nat->Nat) (WS:Nat->Option SeatD) (v:World):Prop where
 live:Live L E A S ow v
 num:S.n=n
 y6:L.y6=.int .u64 ((n+1:Nat)*K32)
 y7:L.y7=.int .u32 0
 seats:SesN L.b N (n+1) (chs L) WS
 low: ∀x,x<n0->ow x=0
def PNewR (n room N:Nat) (Shun:Loc->Prop) (E:Nat->Value) (A:Nat->Addr) (v0:World) (x:Value) (m:Nat->Option SeatD) (j:Loc->Prop) (v':World) (N':Nat):Prop:=
 j=Shun/\N'=N+(n+1)/\ ∃L ow,x=.tuple #[.pointer (some ⟨L.b,0,none⟩),.int .i64 0]/\Sess n N v0.heap.size L E A (Plain.new n room) ow m v'/\Old v0.heap.size v0 v'
def pv8:PV.funcs[8]? =some Tryz.f8:=rd 8 _ _ Tryz.func8 fd fd rfl fd
section
variable {Φ:Goal} {WS:Nat->Option SeatD} {Shun:Loc->Prop} {v v0:World} {n room N:Nat} {X:Frame} {cs:List Frame} {E:Nat->Value} {A:Nat->Addr}
def fet {fr:Frame} (hW:WsOk WS Shun) (j:FrOk Tryz.prog rg fr) (hk:fr.kind=.normal) (h: ∃F,(∀t d,RunTo (λfr w=>fr=F/\ ∃t d,w=reW v t d) fr (reW v t d))/\vt F=false/\ ∀t d,Co Φ WS Shun (reW v t d) N (G F cs)):Co Φ WS Shun v N (G fr cs):=by
 obtain⟨F,h1,h2,h3⟩:=h;exact fge (Z:=λfr w=>fr=F/\ ∃t d,w=reW v t d) hW (λfr v h=>by rw[h.1];exact h2) j hk h1 (by rintro _ _ ⟨rfl,t,d,rfl⟩;exact h3 t d)
def fba {f:FuncId} {args:Array Value} {R:Value->(Nat->Option SeatD)->(Loc->Prop)->World->Nat->Prop} (h:Fc WS Shun v N f args R) {b:Frame} {a:Act} {k:List Item} {ops:Array Oper} {i:Nat} {rest:List Nat} {o:Oper} {fn:Func} {c:Code} {A:Array Operand} {B:Array TypeId}
    (hx:A.map a.eval=args) (ho:ops[i]? =some o) (hw:o.guard=none) (hk:b.kind≠ .early) (C:o.op=.call { callee:=.value (.func f),args:=A,argTypes:=B })
    (hf:Tryz.prog.funcs[f]? =some fn) (q:(fn.name== "runtime.NumGoroutine")=false) (hb:fn.body=some c)
    (hc: ∀x m j v' N',R x m j v' N'->Co Φ m j v' N' (G (b.at (a.put o.dst x) (.inRegion ops rest::k)) cs)):
    Co Φ WS Shun v N (G (b.at a (.inRegion ops (i::rest)::k)) cs):=by
 refine fhq args hx ho hw hk C hf q hb (h.out Φ _ cs λx m j v' N' hr=>?_);rw[fho ho];exact hc x m j v' N' hr
def feu (B:1<=n) (C:n<=6) (D:1<=room) (j:room<=16) (hB:Base v0) (hE:EV E A v0) (hA: ∀i,i<12->i≠2->(A i).block<v0.heap.size):
    Fc vb Shun v0 N 8 #[.int .i64 (n:Int),.int .i64 (room:Int)] (PNewR n room N Shun E A v0):=by
 refine⟨λΦ X cs hc=>?_⟩;have q:=hE.size;rw[ea Tryz.func8 rfl];simp only[show Tryz.f8.ntmps=27 from rfl];walk_nrm;refine fet bg (zu Tryz.func8 pv8 fd rfl) rfl ?_;apply Exists.intro
 case' h => refine And.intro ?ha (And.intro ?hp ?hc)
 case ha=>
    intro t d;refine rl (rj ?_);go_wp2;refine rl (yt ?_);simp only[szs];refine uy rfl rfl (u:=.int .i64 (n:Int)) (v1:=reW v0 t d) gw ?_;walk_nrm;refine uy rfl rfl (u:=.int .i64 (room:Int)) (v1:=reW v0 t d) gw ?_;walk_nrm;exact zt ⟨rfl,t,d,rfl⟩
 case hp => rfl
 case hc=>
    intro t d;refine fba (new_fc (N:=N) B C D j (hB.re t d) q) jh rfl rfl gh rfl Tryz.func18 fd rfl ?_;rintro x J I v1 N' ⟨rfl,rfl,L,ow,rfl,hM⟩;have hO:Old v0.heap.size v0 v1:=hM.old.re';have m:Live L E A (Plain.new n room) ow v1:=⟨⟨V0,hM.mem⟩,hM.marks,hE.old hO q hA,Plain.new_good B C D j,Plain.new_bnd,λi hi h2=>hM.low _ (hA i hi h2)⟩;walk_nrm;refine fet hM.seats.ok (zu Tryz.func8 pv8 fd rfl) rfl ?_;apply Exists.intro
    case' h => refine And.intro ?ha (And.intro ?hp ?hc)
    case ha=>
     intro t d;refine uy rfl rfl (u:=.tuple #[.pointer (some ⟨L.b,0,none⟩),.nilIface]) (v1:=reW v1 t d) gw ?_;walk_nrm;refine uy rfl rfl (u:=.pointer (some ⟨L.b,0,none⟩)) (v1:=reW v1 t d) gw ?_;walk_nrm;refine uy rfl rfl (u:=.nilIface) (v1:=reW v1 t d) gw ?_;walk_nrm;refine uy rfl rfl (u:=.pointer (some ⟨L.b,0,none⟩)) (v1:=reW v1 t d) gw ?_;walk_nrm;refine uy rfl rfl (u:=.nilIface) (v1:=reW v1 t d) gw ?_;walk_nrm;refine ie (rl (rj ?_));go_wp2_with (first|(go_at_call 19;refine(fni _).mono ?_;rintro e w1 ⟨rfl,rfl⟩));refine rl (rj ?_);go_wp2;refine rl (rj ?_);go_wp2;exact fnj (zt ⟨rfl,t,d,rfl⟩)
    case hp => rfl
    case hc=>
     intro t' d';refine fhp (fn:=Tryz.f8) rfl rfl Tryz.func8 (resultsC_tmp2 (t:=4) (u:=5) rfl _) ?_;exact hc _ _ _ _ _ ⟨rfl,rfl,L,ow,rfl,⟨m.re _ _,rfl,hM.y6,hM.y7,hM.seats,hM.low⟩,hO.re _ _⟩
end
section
variable {Φ:Goal} {WS:Nat->Option SeatD} {Shun:Loc->Prop} {v v0:World} {n room N N' n0:Nat} {X:Frame} {cs:List Frame} {E:Nat->Value} {A:Nat->Addr} {L:Lay} {S:Plain.Ses} {ow:Nat->Nat}
def Sess.re (h:Sess n N n0 L E A S ow WS v) (t:Nat->Question->Nat) (d:Nat):Sess n N n0 L E A S ow WS (reW v t d):=⟨h.live.re t d,h.num,h.y6,h.y7,h.seats,h.low⟩
def Sess.sesV (h:Sess n N n0 L E A S ow WS v) (h1:1<=n) (h6:n<=6): ∃ab cp,SesV L.b L.sb ab n cp L.c0 L.kb L.wc v:=by
 obtain⟨V,hM⟩:=h.live.mem;have hn:=h.num;subst hn;have T:=hM.tag;have m:=hM.ar;rcases m.2 with⟨_,h0⟩|⟨g,cap,cur,e,_,hh,_⟩
 ·omega
 ·refine⟨g,cap,⟨⟨_,_,hM.bb.at_,rfl,rfl,?_,rfl,rfl,?_,?_⟩,?_,λi hi=>⟨?_,?_⟩,⟨?_,?_,λi hi=>?_⟩,by omega,h1,h.live.marks.m0,h.live.marks.ms,λi hi=>?_⟩⟩
  ·show some L.cls=_;rw[e]
  ·show some L.y6=_;rw[h.y6]
  ·show some L.y7=_;rw[h.y7]
  ·rw[hM.ss.ce 5];rfl
  ·have:=f3g m (g:=g) qe i (.pointer (some ⟨L.kb i,0,none⟩)) (by
    unfold clsL;rw[f1s,f5k hi];rfl)
   have j:(⟨g,0,none⟩:Addr).add i=⟨g,i,none⟩:=by unfold Addr.add;split <;>simp_all
   rw[j] at this;exact this
  ·rw[(hM.kk i hi).ce 10];rfl
  ·intro e;have h1:=T.sb;have h2:=T.b;rw[e] at h1;omega
  ·intro e';have h1:=T.ar g qe;have h2:=T.b;rw[e'] at h1;omega
  ·intro e;have h1:=T.kb i hi;have h2:=T.b;rw[e] at h1;omega
  ·intro e;have h1:=T.wc i hi;have h2:=T.c0;rw[e] at h1;omega
def StopR (n0 N':Nat) (L:Lay) (Shun:Loc->Prop) (v:World) (x:Value) (m:Nat->Option SeatD) (j:Loc->Prop) (v':World) (N2:Nat):Prop:=
 x=.tuple #[]/\m=vb/\j=fax L.b Shun/\N2=N'/\Old n0 v v'
def f6d (h:Sess n N n0 L E A S ow WS v) (h1:1<=n) (h6:n<=6) (hN:1<=N) (j:N+(n+1)<=N') (B:n0<=v.heap.size):Fc WS Shun v N' 12 #[.pointer (some ⟨L.b,0,none⟩)] (StopR n0 N' L Shun v):=by
 refine⟨λΦ X cs hc=>?_⟩;obtain⟨ab,cp,hV⟩:=h.sesV h1 h6;have hW:=h.seats.all (N:=N') hN j;have q:(λi=>chs L (i+1))=L.wc:=by funext i;simp[chs]
 have m:chs L 0=L.c0:=rfl;rw[q,m] at hW;refine frl hW hV λv' hK=>?_;obtain⟨V,hM⟩:=h.live.mem;have T:=hM.tag;refine hc _ _ _ _ _ ⟨rfl,rfl,rfl,rfl,Old.but B hK λx hx=>?_⟩;have h0:=h.low x hx;rintro(rfl|rfl|⟨i,hi,rfl⟩)
 ·have:=T.b;omega
 ·have:=T.c0;omega
 ·have hn:=h.num;have:=T.wc i fe;omega
end
end Go.Proofs.YtelecjnabeokeaaGreatDoor
namespace Go.Proofs.YtelecjnabeokeaaGreatDoor
open Go Go.RowKit
attribute [local go_sem] f5q
section
variable {L:Lay} {V:Vals} {S:Plain.Ses} {ow ow':Nat->Nat} {w w':World} {E:Nat->Value}
structure EI (w:World) (s0 D:Nat) (t:List Plain.El) (k:Nat) (W:World):Prop where
 bl:Bl w W
 n0:Bk W s0 3 #[.int .i64 0]
 ok:Bk W (s0+1+1) 4 #[.bool true]
 dd:W.heap[D]? =some (.deferred (some []))
 row: ∃v,Bk W (s0+1) 32 #[v]/\W.ownsRow s0 38 3 v k (flat (t.take k))
def EI.ch {s0 D k:Nat} {t:List Plain.El} {W W':World} {K:Nat->Prop} (h:EI w s0 D t k W) (hC:Ch K W W') (hK: ∀x,K x->w.heap.size<=x) (h0: ¬K s0) (h1: ¬K (s0+1)) (h2: ¬K (s0+1+1)) (hD: ¬K D) (hR: ∀v,W.ownsRow s0 38 3 v k (flat (t.take k))-> ∀x,v.ownBlock=some x-> ¬K x):EI w s0 D t k W':=by
 obtain⟨v,hv,hr⟩:=h.row;exact⟨zf h.bl hC hK,h.n0.ch hC h0,h.ok.ch hC h2,(hC.block D (fx5.1 h.dd).1 hD).trans h.dd,v,hv.ch hC h1,qx hC hr (hR v hr)⟩
def EI.al {s0 D k:Nat} {t:List Plain.El} {W:World} (h:EI w s0 D t k W) (o:Obj):EI w s0 D t k (W.alloc o):=
 h.ch (K:=λ_=>False) ((Ch.rf _ _).al o) (λ_ h=>h.elim) (λh=>h) (λh=>h) (λh=>h) (λh=>h) (λ_ _ _ _ h=>h)
def EI.bl' {s0 D k:Nat} {t:List Plain.El} {W W':World} (h:EI w s0 D t k W) (hb:Bl W W'):EI w s0 D t k W':=
 h.ch (K:=λ_=>False) (Ch.ba hb) (λ_ h=>h.elim) (λh=>h) (λh=>h) (λh=>h) (λh=>h) (λ_ _ _ _ h=>h)
def ftc (h:Mem L V S 0 ow w) (hM:Marks L S.n w) (hE:Errs E w) (aP:1<=S.n) (aQ:S.n<=6) (c:Int) (aT:(Plain.textOf S c).length<3000):
    Calls PV 11 #[.pointer (some ⟨L.b,0,none⟩),.int .i64 c,.int .i64 0] w λx w'=> ∃v,x=.returned (.tuple #[v,.bool true])/\w'.ownsRow w.heap.size 38 3 v (Plain.textOf S c).length (flat (Plain.textOf S c))/\Bl w w':=by
 have hh:=fx6 h;have aH:=fx6 hM;have aF:=fx6 hE;clear h hM hE;refine(f4j (n:=8)).1 ?_;refine callsIn_of_wp_marks PV.func11 rfl trivial ?_ rfl;simp only[Tryz.ntmps11,f3s,fz6,f06,Nat.reduceAdd,Nat.reduceSub,Array.replicate_succ,Array.replicate_zero,List.push_toArray,List.append_toArray,f2h,f0j]
 gi_wp2_with (first|(refine⟨trivial,?_⟩;gi_at_call 27;refine(f4j.2 (ftb _ _ _)).mono ?_;rintro e w1 ⟨rfl,rfl⟩))
 refine vy (F:=λW0=>Bl w W0/\Bk W0 w.heap.size 3 #[.int .i64 0]/\Bk W0 (w.heap.size+1) 32 #[.slice none 0 0]/\Bk W0 (w.heap.size+1+1) 4 #[.bool true]/\Bk W0 (w.heap.size+1+1+1) 26 #[.pointer (some ⟨L.b,0,none⟩)]/\Bk W0 (w.heap.size+1+1+1+1) 3 #[.int .i64 c]/\W0.heap.size=w.heap.size+5) ?_ ?_
 ·refine⟨((((((Bl.rf _).al _).al _).al _).al _).al _),((((Bk.nw fi).al _).al _).al _).al _,(((Bk.nw fi).al _).al _).al _,((Bk.nw fi).al _).al _,(Bk.nw fi).al _,Bk.nw fi,by simp⟩
 rintro W0 ⟨gb,b5,b8,b9,bs,bc,hsz⟩;obtain⟨s0,aA⟩: ∃s0,w.heap.size=s0:=⟨_,rfl⟩;rw[aA] at b5 b8 b9 bs bc hsz ⊢;refine fk5 (gf:=59) (lb:=#[.pointer (some ⟨s0+1+1+1,0,none⟩),.pointer (some ⟨s0+1+1+1+1,0,none⟩)]) rfl (λargs w=>PV.call59 args w) (λW=>EI w s0 (s0+5) (Plain.textOf S c) (Plain.textOf S c).length W) ?_ ?_
 ·intro r r1 r2 r3 r4 r5 r6 W1 O;rw[hsz];have aE:W1.heap[s0+5]? =some (.deferred (some [])):=by rw[O,<- hsz];exact(f7l _ _ _ fi).trans (f3n W0 _)
  have ak:W1.heap[s0+5+1]? =some (.loop r):=by
   rw[O,<- hsz];have:=f3n (W0.alloc (.deferred (some []))) (.loop r);simpa using this
  have I:Bl W0 W1:=by rw[O];exact((Bl.rf _).al _).al _
  clear O;have h0:EI w s0 (s0+5) (Plain.textOf S c) 0 W1:=⟨gb.cl I,b5.bl I,b9.bl I,aE,.slice none 0 0,b8.bl I,f0w _ _ _ _⟩;refine(fta (8-1) hh.out aH.out aF.out (gb.cl I) aP aQ c (s0+1+1+1) (s0+1+1+1+1) (s0+5+1) (bs.bl I) (bc.bl I) fe (λk W=>EI w s0 (s0+5) (Plain.textOf S c) k W/\W.heap[s0+5+1]? =some (.loop r)) ?_ ?_ ?_ ?_).mono ?_
  ·exact λW hb=>⟨h0.bl' hb,(hb.block _ (fx5.1 ak).1).trans ak⟩
  ·exact λk W hJ=>hJ.1.bl
  ·exact λk W o hJ=>⟨hJ.1.al o,(f7l W o _ (fx5.1 hJ.2).1).trans hJ.2⟩
  ·rintro k W e ⟨hI,hl⟩ he;refine fk6 hl r1 r2 (by rw[r4];rfl) λrb=>?_;rw[r3,r4,r5,r6];have aX:k<(Plain.textOf S c).length:=(f1c.1 he).1;generalize Plain.textOf S c=t at*;have U:=(fx5.1 hl).1
   gi_wp2
   refine⟨(f7l _ _ _ U).trans hl,?_⟩;have X:(W.alloc (.cells #[.int .i32 e.r,.int .i64 e.c,.int .i64 e.n] 38)).heap[s0+5+1]? =some (.loop r):=(f7l _ _ _ U).trans hl
   have C: ∀g tt cs,Bk (W.alloc (.cells #[.int .i32 e.r,.int .i64 e.c,.int .i64 e.n] 38)) g tt cs-> ¬g=s0+5+1:=λg tt cs hg e=>by
      have:=hg.at_;rw[e,X] at this;cases this
   have M:=hI.al (.cells #[.int .i32 e.r,.int .i64 e.c,.int .i64 e.n] 38);have q:Ch (λx=>x=s0+5+1) (W.alloc (.cells #[.int .i32 e.r,.int .i64 e.c,.int .i64 e.n] 38)) ((W.alloc (.cells #[.int .i32 e.r,.int .i64 e.c,.int .i64 e.n] 38)).putObj (s0+5+1) (.loop rb)):=(Ch.rf (λx=>x=s0+5+1) _).po (.inl rfl) _;refine vy (F:=λW2=>EI w s0 (s0+5) t k W2/\W2.heap[s0+5+1]? =some (.loop rb)/\Bk W2 W.heap.size 38 #[.int .i32 e.r,.int .i64 e.c,.int .i64 e.n]) ⟨?_,?_,?_⟩ ?_
   ·exact M.ch q (λx e=>by omega) (C _ _ _ M.n0) (by obtain⟨v,hv,_⟩:=M.row;exact C _ _ _ hv) (C _ _ _ M.ok) fe (λv hv x hx e=>uz hv X (λ_ _ _ e=>by cases e) x hx e)
   ·exact f4v ja
   ·exact(Bk.nw rfl).ch q (C _ _ _ (Bk.nw rfl))
   generalize W.heap.size=xe;clear q C X M hI hl U;rintro W2 ⟨m,Y,hx⟩;obtain⟨v,hv,j⟩:=m.row;obtain⟨A,cc,rfl⟩:=fly j;obtain⟨i0,ah,aB,aC,aD⟩:=f4i frt;have aG:=fx6 ah;have aL:=fx6 aB;have aM:=fx6 aC;have aN:=fx6 aD;clear ah aB aC aD;have hR:=fx6 (λW' (hC:Ch (λx=>x=s0+1+1) W2 W')=>qx hC j (λx hx e=>rp j m.ok fu x hx e));obtain⟨c1,d1⟩:=m.n0.ceF;obtain⟨c2,d2⟩:=m.ok.ceF;obtain⟨c3,d3⟩:=hv.ceF;obtain⟨c4,d4⟩:=hx.ceF;have aU: ¬xe=s0+1+1:=hx.ne_ m.ok fu;have aV: ¬xe=s0+1:=hx.ne_ hv fu;have aJ:=fx6 (rp j hv fu);have ae:=fx6 (rp j m.n0 fu);have aS:((k:Int)+1==3000)=false:=by simp;omega
   have aR:((k:Int)+1==0)=false:=by simp;omega
   have aW:s0<=W2.heap.size:=by have:=m.n0.lt;omega
   gi_wp2_with (first|(gi_at_builtin;refine wpListIn_append_own _ rfl (.tmp 24) (.tmp 26) _ rfl s0 38 i0 _ 3 24 fru aG.out aL.out aM.out aN.out rfl fe (.slice A k cc) k (flat (t.take k)) rfl (hR.out _ (((Ch.rf (λx=>x=s0+1+1) W2).st (p:=⟨s0+1+1,0,none⟩) (.inl rfl) _).al _)) ⟨W2.heap.size,0,none⟩ 1 1 [.int .i32 e.r,.int .i64 e.c,.int .i64 e.n] rfl rfl (f2m (cs:=#[.int .i32 e.r,.int .i64 e.c,.int .i64 e.n]) (t:=38) (fr:=(0,0)) (Bk.nw (by simp[World.setCell])).at_) p9 jq fe ja ?_;intro v' w1 J B _;obtain⟨A',D,rfl⟩:=fly J;have k8:=Bk.gr B (λe=>aJ.out _ e.symm rfl) (Bk.al (Bk.fr _ fi hv) _);have k5:=Bk.gr B (λe=>ae.out _ e.symm rfl) (Bk.al (Bk.fr _ ja m.n0) _);obtain⟨c8,d8⟩:=k8.ceF;obtain⟨c5,d5⟩:=k5.ceF))
   have an:=(fx5.1 Y).1;have aK:=uz j Y (λ_ _ _ e=>by cases e)
   have ab:Ch (λx=>x=s0+1+1\/x=s0+1\/(Value.slice A k cc).ownBlock=some x) W2 (w1.setCell ⟨s0+1,0,none⟩ (.slice A' (k+1) D)):=
      ((((Ch.rf (λx=>x=s0+1+1\/x=s0+1\/(Value.slice A k cc).ownBlock=some x) W2).st (p:=⟨s0+1+1,0,none⟩) (.inl (.inl rfl)) _).al _).gr B (λx hx=>.inl (.inr (.inr hx)))).st (p:=⟨s0+1,0,none⟩) (.inl (.inr (.inl rfl))) _
   have aa:(w1.setCell ⟨s0+1,0,none⟩ (.slice A' (k+1) D)).heap[s0+5+1]? =some (.loop rb):=(ab.block _ an (by rintro(e|e|e);omega;omega;exact aK _ e rfl)).trans Y;have ap:=(fx5.1 aa).1;have R:=(ab.mo (K':=λx=>(x=s0+1+1\/x=s0+1\/(Value.slice A k cc).ownBlock=some x)\/x=s0+5+1) (λx hx=>.inl hx)).po (l:=s0+5+1) (.inl (.inr rfl)) (.loop r);have q:Ch (λx=>x=s0+5+1) (w1.setCell ⟨s0+1,0,none⟩ (.slice A' (k+1) D)) ((w1.setCell ⟨s0+1,0,none⟩ (.slice A' (k+1) D)).putObj (s0+5+1) (.loop r)):=(Ch.rf (λx=>x=s0+5+1) _).po (.inl rfl) _;have aI:=rp j m.ok fu;refine⟨aa,⟨zf m.bl R (λx hx=>?_),m.n0.ch R ?_,?_,(R.block _ (fx5.1 m.dd).1 ?_).trans m.dd,.slice A' (k+1) D,((k8.st _).cv fi).ch q fe,?_⟩,f4v ap⟩
   ·rcases hx with(e|e|e)|e
    ·omega
    ·omega
    ·have:=(j.lt x e).1;omega
    ·omega
   ·rintro((e|e|e)|e)
    ·omega
    ·omega
    ·exact ae.out _ e rfl
    ·omega
   ·have k2:=Bk.gr B (λe=>aI _ e.symm rfl) (Bk.al ((m.ok.st (i:=0) (.bool true)).cv (cs':=#[.bool true]) fi) (.cells #[.int .i32 e.r,.int .i64 e.c,.int .i64 e.n] 38));exact(Bk.fr _ fi k2).ch q fe
   ·rintro((e|e|e)|e)
    ·omega
    ·omega
    ·exact uz j m.dd (λ_ _ _ e=>by cases e) _ e rfl
    ·omega
   ·have e1:flat (t.take (k+1))=flat (t.take k)++[.int .i32 e.r,.int .i64 e.c,.int .i64 e.n]:=by
      rw[List.take_add_one,he,ol];rfl
    rw[e1];have o1:(w1.setCell ⟨s0+1,0,none⟩ (.slice A' (k+1) D)).ownsRow s0 38 3 (.slice A' (k+1) D) (k+1) (flat (t.take k)++[.int .i32 e.r,.int .i64 e.c,.int .i64 e.n]):=qx (K:=λx=>x=s0+1) ((Ch.rf (λx=>x=s0+1) _).st (p:=⟨s0+1,0,none⟩) (.inl rfl) _) J (rp J k8 fu);exact qx q o1 (λx hx e=>uz o1 aa (λ_ _ _ e=>by cases e) x hx e)
  ·rintro e W ⟨hv,hI,hl⟩;exact⟨hv,hl,hI⟩
 ·intro r W2 hI hl;rw[hsz] at hl ⊢;have q:Ch (λx=>x=s0+5+1) W2 (W2.putObj (s0+5+1) (.loop { r with state:=.exhausted })):=(Ch.rf (λx=>x=s0+5+1) _).po (.inl rfl) _;have ad:=hI.ch q (λx e=>by omega) fe fe fe fe (λv hv x hx e=>uz hv hl (λ_ _ _ e=>by cases e) x hx e);refine vy (F:=λW3=>EI w s0 (s0+5) (Plain.textOf S c) (Plain.textOf S c).length W3) ad ?_;clear ad q hI hl;rintro W3 hI;obtain⟨v,hv,j⟩:=hI.row;obtain⟨c1,d1⟩:=hI.ok.ceF;obtain⟨c2,d2⟩:=hv.ceF
  gi_wp2
  gi_region
  all_goals gi_wp2
  have aO:W3.drew.heap[s0+5]? =some (.deferred (some [])):=hI.dd;have ac:Ch (λx=>x=s0+5) W3 (W3.drew.putObj (s0+5) (.deferred none)):=((Ch.rf (λx=>x=s0+5) W3).dr).po (.inl rfl) _;refine⟨by simp,.inl ⟨_,_,rfl,run_takeDeferred aO,?_⟩⟩;refine⟨_,results_tmp2 rfl _ _ _,v,rfl,?_,zf hI.bl ac (λx e=>by omega)⟩;rw[aA];have:=qx ac j (λx hx e=>uz j hI.dd (λ_ _ _ e=>by cases e) x hx e);rwa[f4a] at this
end
end Go.Proofs.YtelecjnabeokeaaGreatDoor
namespace Go.Proofs.YtelecjnabeokeaaGreatDoor
open Go Go.RowKit
def fk7:ccV.ntmps=5:=rfl
def fnn:((PV.info? 102).map λi=>decide (i.bytes<2 ^ 64))=some true:=by kernel_rfl
def lies102:liesAt Tryz.prog Tryz.prog.depth 102 (2 / Tryz.prog.cellsOf 102) 0 102 1=true:=by kernel_rfl
def us99 {v:World} {bb:Nat} {cs:Array Value} (hB:Bk v bb 102 cs) (hs:cs.size=2):(Builtin.unsafeSlice_ #[99,3] 0 #[.pointer (some ⟨bb,0,none⟩),.int .i64 1]).run PV v=.ok (.slice (some ⟨bb,0,none⟩) 1 1) v:=by
 have m:v.shape? bb=some (102,2):=by simp[World.shape?,hB.at_,hs]
 have hu: ∀w,(underlying 99).run PV w=.ok (.pointer 102) w:=λw=>by rw[ua];exact Tryz.runUnderlying99 w
 have j: ∀w,(elemOf 99).run PV w=.ok 102 w:=λw=>by simp[elemOf,fz9,hu,Result.andThen,Pure.pure,Sem.run]
 have A:(variablesAt ⟨bb,0,none⟩ 102 1).run PV v=.ok true v:=by
    have:(Go.shape bb:Sem _).run PV v=.ok (some (102,2)) v:=by simp[Go.shape,Sem.run,m]
    show((Go.program >>= λp'=>Go.shape bb >>= λs=>(match s with
     | some (e,cells)=>Pure.pure (liesAt p' p'.depth e (cells / p'.cellsOf e) 0 102 1)
     | none=>Pure.pure false):Sem Bool)).run PV v=_
    simp[Go.program,fz9,this,Result.andThen,Sem.run,Pure.pure,m9,yw,vf,lies102]
 have hsz: ∀w,(sizeOf 102).run PV w=.ok 2 w:=λw=>by rw[fce];exact Tryz.sizeOf102 w
 obtain⟨i,hi,hb⟩:=fy8.1 fnn;have hb: ¬i.bytes>=2 ^ 64:=by simp at hb;omega
 have q: ∀w,(typeInfo 102).run PV w=.ok i w:=λw=>by simp[typeInfo,Go.program,fz9,Sem.run,hi,Result.andThen,Pure.pure]
 have key: ∀y:Value,(∀w,(asInt y).run PV w=.ok 1 w)->(Builtin.unsafeSlice_ #[99,3] 0 #[.pointer (some ⟨bb,0,none⟩),y]).run PV v=.ok (.slice (some ⟨bb,0,none⟩) 1 1) v:=λy hy=>by
    unfold Builtin.unsafeSlice_;refine(qw (hy v)).trans ?_;dsimp only;refine(qw (j v)).trans ?_;rw[fx9 fu,fx9 fu];refine(qw (q v)).trans ?_;have e1:(1:Int).toNat*i.bytes=i.bytes:=by simp
    rw[e1,fx9 hb];refine(qw (hsz v)).trans ?_;refine(qw A).trans ?_;rfl
 exact key _ λw=>rfl
section
variable {w:World} {bb:Nat} {v:Value}
def cc0 (hb:Base w) (hB:Bk w bb 102 #[.pointer none,v]) (h2:2<=bb):Calls PV 75 #[.pointer (some ⟨bb,0,none⟩)] w λx w'=>x=.returned (.tuple #[])/\w'=w.setCell ⟨bb,0,none⟩ (.pointer (some ⟨bb,0,none⟩)):=by
 obtain⟨k0,k1⟩:=hb.chk hB h2 0;obtain⟨c,d⟩:=hB.ceF;have hu:=us99 hB rfl;clear hb hB;go_enter PV.func75,fk7;simp only[ccB,chkR,chk,oper];go_wp2
 first|(go_end0;exact⟨rfl,rfl⟩)|(refine f0q (f2g rfl _ _ _) rfl ?_;exact⟨rfl,rfl⟩)
def eql99 (p:Addr) (w:World):(binOp .eql 99 (.pointer (some p)) (.pointer (some p))).run PV w=.ok (.bool true) w:=by
 obtain⟨j,hj,_⟩:=fy8.1 fnn;have hp:PV.underlying 99=some (.pointer 102):=Tryz.underlying99
 have h: ∀d:Nat,(Op.equalIn (d+1) 99 (.pointer (some p)) (.pointer (some p))).run PV w=.ok true w:=λd=>by
    simp[Op.equalIn,f1l hp,sizeOf,typeInfo,hj,run_sameAddr_same]
 simp only[binOp];simp[Op.equal,Op.maxDepth,h 9999]
def cc1 (hb:Base w) (hB:Bk w bb 102 #[.pointer (some ⟨bb,0,none⟩),v]) (h2:2<=bb):Calls PV 75 #[.pointer (some ⟨bb,0,none⟩)] w λx w'=>x=.returned (.tuple #[])/\w'=w:=by
 obtain⟨k0,k1⟩:=hb.chk hB h2 0;obtain⟨c,d⟩:=hB.ceF;have he:=λw=>eql99 ⟨bb,0,none⟩ w;clear hb hB;go_enter PV.func75,fk7;simp only[ccB,chkR,chk,oper];go_wp2
 first|(go_end0;exact⟨rfl,rfl⟩)|(refine f0q (f2g rfl _ _ _) rfl ?_;exact⟨rfl,rfl⟩)
def info5:(PV.info? 5).map (λi=>(i.zero,i.size,i.bytes))=some (some (.int .u8 0),1,1):=by kernel_rfl
def und100:PV.underlying 100=some (.slice 5):=by kernel_rfl
abbrev fk8 (l:List Nat):List Value:=l.map λ(b:Nat)=>Value.int .u8 (b:Int)
def fff (s0 r:Nat) (l:List Nat) (hr:r<=127) (hO:w.ownsRow s0 5 1 v l.length (fk8 l)) (hl:l.length<=4000) (hs:s0<=w.heap.size):
    Calls PV 76 #[v,.int .i32 (r:Int)] w λx w'=> ∃g cap,x=.returned (.slice (some ⟨g,0,none⟩) (l.length+1) cap)/\w'.ownsRow s0 5 1 (.slice (some ⟨g,0,none⟩) (l.length+1) cap) (l.length+1) (fk8 (l++[r]))/\Ch (λx=>v.ownBlock=some x) w w':=by
 obtain⟨i0,m,q,A,B⟩:=f4i info5;have hI:=fx6 m;have D:=fx6 q;have I:=fx6 A;have J:=fx6 B;clear m q A B
 have hu:IntKind.u32.wrap (r:Int)=(r:Int):=by
    simp[IntKind.wrap,IntKind.signed,IntKind.bits,IntKind.min,IntKind.max];omega
 have hb:IntKind.u8.wrap (r:Int)=(r:Int):=by
    simp[IntKind.wrap,IntKind.signed,IntKind.bits,IntKind.min,IntKind.max];omega
 have hle:(r:Int)<=127:=by omega
 have C:=fx6 hO;clear hO;go_enter PV.func76,Tryz.ntmps76;go_wp2_with (first|(at_builtin;refine wpList_append_lies _ rfl (.tmp 8) (.tmp 11) _ rfl s0 5 i0 _ 1 1 und100 hI.out D.out I.out J.out rfl fe v l.length (fk8 l) rfl (qx (K:=λ_=>False) (Ch.ba ((Bl.rf _).al _)) C.out (λ_ _ h=>h)) ⟨w.heap.size,0,none⟩ 1 1 [.int .u8 (r:Int)] rfl rfl (f2m (cs:=#[.int .u8 (r:Int)]) (t:=5) (fr:=(0,0)) (Bk.nw rfl).at_) p9 fe jq fe ja _ rfl ?_;intro g cap w1 j M O R));go_ret;exact⟨g,cap,rfl,by simpa[fk8] using j,((Ch.rf (λx=>v.ownBlock=some x) w).al _).gr M (λk hk=>.inl hk)⟩
structure BB (w:World) (bb s0:Nat) (l:List Nat):Prop where
 out: ∃p v,(p=.pointer none\/p=.pointer (some ⟨bb,0,none⟩))/\Bk w bb 102 #[p,v]/\w.ownsRow s0 5 1 v l.length (fk8 l)
def fbv (s0 r:Nat) (l:List Nat) (hb:Base w) {p:Value} (hp:p=.pointer none\/p=.pointer (some ⟨bb,0,none⟩)) (hB:Bk w bb 102 #[p,v]) (hO:w.ownsRow s0 5 1 v l.length (fk8 l)) (h2:2<=bb) (hr:r<=127) (hl:l.length<=4000) (hs:s0<=w.heap.size):
    Calls PV 34 #[.pointer (some ⟨bb,0,none⟩),.int .i32 (r:Int)] w λx w'=>(∃y,x=.returned y)/\BB w' bb s0 (l++[r])/\Ch (λx=>x=bb\/v.ownBlock=some x) w w':=by
 have B:Calls PV 75 #[.pointer (some ⟨bb,0,none⟩)] w λx w'=>x=.returned (.tuple #[])/\Bk w' bb 102 #[.pointer (some ⟨bb,0,none⟩),v]/\Ch (λx=>x=bb) w w':=by
    rcases hp with rfl|rfl
    ·refine(cc0 hb hB h2).mono ?_;rintro x w' ⟨rfl,rfl⟩;exact⟨rfl,(hB.st _).cv fi,(Ch.rf (λx=>x=bb) w).st (p:=⟨bb,0,none⟩) (.inl rfl) _⟩
    ·refine(cc1 hb hB h2).mono ?_;rintro x w' ⟨rfl,rfl⟩;exact⟨rfl,hB,Ch.rf _ _⟩
 have C:=rp hO hB fu;obtain⟨A,cc,rfl⟩:=fly hO;have J:=fx6 hO;have I:=fx6 B;have M:=fx6 hO.lt;clear B hO hB hb;go_enter PV.func34,Tryz.ntmps34;go_wp2_with (first|(go_at_call 75;refine I.out.mono ?_;rintro e w1 ⟨rfl,gB,gC⟩;have gO:=qx gC J.out C;obtain⟨c1,d1⟩:=gB.ceF;have hA:=fx6 (fff (w:=w1) s0 r l hr gO hl (f08 hs gC.size));have D:=fx6 gB;replace gC:=fx6 gC)|(go_at_call 76;refine hA.out.mono ?_;rintro e w2 ⟨g,cap,rfl,q,gC2⟩;have m:=D.out.ch gC2 (λe=>C _ e rfl);obtain⟨c2,d2⟩:=m.ceF;have j:=fx6 m));refine f0q (v:=.tuple #[.int .i64 ((l.length:Int)+1-(l.length:Int)),.nilIface]) (by simp[results,Tryz.results34,go_sem]) rfl ⟨⟨_,rfl⟩,⟨⟨_,_,.inr rfl,(j.out.st _).cv (by simp;rfl),?_⟩⟩,?_⟩
 ·have:=qx (K:=λx=>x=bb) ((Ch.rf (λx=>x=bb) w2).st (p:=⟨bb,1,none⟩) (.inl rfl) (.slice (some ⟨g,0,none⟩) (l.length+1) cap)) q (rp q j.out fu);simpa using this
 ·exact(((gC.out.mo (K':=λx=>x=bb\/(Value.slice A l.length cc).ownBlock=some x) (λx hx=>.inl hx)).tr gC2 (λx hx=>.inl (.inr hx))).st (p:=⟨bb,1,none⟩) (.inl (.inl rfl)) _)
def fhs (s0 r:Nat) (l:List Nat) (hb:Base w) (h:BB w bb s0 l) (h2:2<=bb) (hr:r<=127) (hl:l.length<=4000) (hs:s0<=w.heap.size):
    Calls PV 34 #[.pointer (some ⟨bb,0,none⟩),.int .i32 (r:Int)] w λx w'=>(∃y,x=.returned y)/\BB w' bb s0 (l++[r])/\Ch (λx=>x=bb\/s0<=x) w w':=by
 obtain⟨p,v,hp,hB,hO⟩:=h.out;exact(fbv s0 r l hb hp hB hO h2 hr hl hs).mono λx w' ⟨h1,h3,h4⟩=>⟨h1,h3,h4.mo λx hx=>hx.imp id λe=>(hO.lt x e).1⟩
def und144:PV.underlying 144=some (.pointer 5):=by kernel_rfl
def cells5:PV.cellsOf 5=1:=by kernel_rfl
def Ch.fz {K:Nat->Prop} {w w1:World} (h:Ch K w w1) {p:Addr} (hp:K p.block) (n:Nat):Ch K w (w1.freeze p n):=by
 unfold World.freeze;split
 ·exact h
 ·exact h.tr (K':=λx=>x=p.block) ⟨rfl,rfl,rfl,by simp,λx _ hn=>by simp only[fy6];rw[fx9 (λe=>hn e.symm)]⟩ λx hx=>by subst hx;exact .inl hp
def bstr (l:List Nat):ByteArray:=⟨(l.map λb=>UInt8.ofNat b).toArray⟩
def fk9 (s0:Nat) (l:List Nat) {p:Value} (hB:Bk w bb 102 #[p,v]) (hO:w.ownsRow s0 5 1 v l.length (fk8 l)) (A:l≠[]) (B: ∀b∈l,b<=255) (hl:l.length<=4000):
    Calls PV 36 #[.pointer (some ⟨bb,0,none⟩)] w λx w'=>x=.returned (.string (bstr l))/\Ch (λx=>v.ownBlock=some x) w w':=by
 obtain⟨J,C|⟨g,cap,cur,rfl,aa,m,X,Y,R,D⟩⟩:=hO
 ·exact absurd (f1a C.2) A
 have U:0<l.length:=List.length_pos_iff.2 A;have M:=λW:World=>Lib.run_unsafeSliceData_row (P:=PV) (w:=W) #[100] 144 ⟨g,0,none⟩ l.length cap fe;have q:Bk w g 5 cur:=⟨m⟩
 have O:(Builtin.unsafeString_ #[144,3] 9 #[.pointer (some ⟨g,0,none⟩),.int .i64 (l.length:Int)]).run PV w.drew=.ok (.string (bstr l)) (w.drew.freeze ⟨g,0,none⟩ l.length):=by
    have I:w.drew.shape? g=some (5,cur.size):=by
     have:w.drew.heap[g]? =some (.cells cur 5 (0,0)):=m;simp[World.shape?,this]
    have:=Lib.run_unsafeString_row (P:=PV) (w:=w.drew) 144 3 9 5 und144 cells5 g cur.size I (l.map λb=>UInt8.ofNat b) (by simpa using A) ja ja (λj x hx=>by
     simp only[f2u,f1k];rw[(q.dr).ce j];simp only[f1s,fy8] at hx;obtain⟨b,hb,rfl⟩:=hx;have hj:=(f1c.1 hb).1
     have h1:(cur.toList.take (l.length*1))[j]? =some (.int .u8 (b:Int)):=by
        rw[D];simp[fk8,hb]
     rw[f5r,f02 fe] at h1;have h2:=B b (f3x hb);rw[<- Array.getElem?_toList,h1];simp;omega)
    simpa[bstr] using this
 clear m q D J;go_enter PV.func36,Tryz.ntmps36;go_upto_region 1 with fail
 refine rn (sel [λw'=>Bk w' bb 102 #[p,.slice (some ⟨g,0,none⟩) l.length cap]]) [(.h 9,0),(.h 9,1),(.h 9,2),(.h 0,3),(.h 9,4),(.h 9,5),(.h 9,6),(.h 9,7),(.h 0,8),(.h 9,9),(.c [9],10),(.h 9,11)] fd fd (qy (Bk.dr hB) (λ_=>un)) ?_;simp only[vg,fy9,fz4,fz3,fy2,fx7,fy0];iterate 10 (refine oH ?_;try simp only[aps])
 (refine rx (λK hK=>?_);go_simp;refine hK _ _ (rh trivial ry) ?_;clear hK K;try simp only[aps])
 (refine oH ?_;try simp only[aps]);refine ub ?_;go_wp2;go_ret
 first|exact⟨rfl,((Ch.rf (λx=>(Value.slice (some ⟨g,0,none⟩) l.length cap).ownBlock=some x) w).dr).fz (p:=⟨g,0,none⟩) rfl _⟩|exact⟨rfl,((Ch.rf (λx=>(Value.slice (some ⟨g,0,none⟩) l.length cap).ownBlock=some x) w).fz (p:=⟨g,0,none⟩) rfl _).dr⟩
def fp9 (s0:Nat) (l:List Nat) (h:BB w bb s0 l) (m:l≠[]) (j: ∀b∈l,b<=255) (hl:l.length<=4000):
    Calls PV 36 #[.pointer (some ⟨bb,0,none⟩)] w λx w'=>x=.returned (.string (bstr l))/\Ch (λx=>s0<=x) w w':=by
 obtain⟨p,v,hp,hB,hO⟩:=h.out;exact(fk9 s0 l hB hO m j hl).mono λx w' ⟨h1,h2⟩=>⟨h1,h2.mo λx e=>(hO.lt x e).1⟩
end
attribute [local go_sem] f5q
abbrev vq (t:List Plain.El):List Nat:=t.map λe=>e.r.toNat
def Asc (t:List Plain.El):Prop:= ∀e∈t,0<=e.r/\e.r<=127
section
variable {L:Lay} {V:Vals} {S:Plain.Ses} {ow ow':Nat->Nat} {w w':World} {E:Nat->Value}
def text35 (h:Mem L V S 0 ow w) (hM:Marks L S.n w) (hE:Errs E w) (R:1<=S.n) (U:S.n<=6) (c:Int) (X:(Plain.textOf S c).length<=3000) (W:Plain.textOf S c≠[]) (hA:Asc (Plain.textOf S c)):
    Calls PV 35 #[.pointer (some ⟨L.b,0,none⟩),.int .i64 c] w λx w'=>x=.returned (.string (bstr (vq (Plain.textOf S c))))/\Bl w w':=by
 have hT:=h.textAt c;obtain⟨A,cc,hv⟩:=hT.slice;have q:Bl w (w.alloc (.cells #[.pointer none,.slice none 0 0] 102)):=(Bl.rf _).al _;have hX:=fx6 (fnl (h.bl q) (hM.bl q) (hE.bl h.size q) R U c);have j:=fx6 h.base;have Y:=h.size;rw[hv] at hT hX;have B:=fx6 hT;have M:BB (w.alloc (.cells #[.pointer none,.slice none 0 0] 102)) w.heap.size w.heap.size []:=⟨_,_,.inl rfl,Bk.nw rfl,f0w _ _ _ _⟩;clear h hM hE hv hT;generalize Plain.textOf S c=t at*;go_enter PV.func35,Tryz.ntmps35;go_wp2_with (first|(go_at_call 60;refine hX.out.mono ?_;rintro e w1 ⟨rfl,hb⟩))
 go_loopw [12] (λi wr=> ∃k:Nat,k<=t.length/\i=.int .i64 (k:Int)/\Bl w wr/\BB wr w.heap.size w.heap.size (vq (t.take k))) (λi _=>t.length-(intOf i).toNat)
 case atStart => exact⟨0,f1n _,rfl,q.cl hb,by obtain⟨p,v,h1,h2,h3⟩:=M.out;exact⟨p,v,h1,h2.bl hb,qx (K:=λ_=>False) (Ch.ba hb) h3 (λ_ _ h=>h)⟩⟩
 case round=>
    obtain⟨k,hk,rfl,m,D⟩:=hrel;by_cases hlt:k<t.length
    ·have C:=B.out.bl m;obtain⟨e,he⟩: ∃e,t[k]? =some e:=⟨t[k],f0r hlt⟩;obtain⟨g,rfl⟩: ∃g,A=some ⟨g,0,none⟩:=by
      rcases C.form with⟨_,h2⟩|⟨g,cap,h1,_⟩
      ·rw[h2] at hlt;simp at hlt
      ·injection h1 with h1;exact⟨g,h1⟩
     have hc:=C.cells;obtain⟨f0,f1,f2⟩:=fhr he;have q0:=hc _ _ f0;have q1:=hc _ _ f1;have q2:=hc _ _ f2;simp only[f2u,f1k] at q0 q1 q2;have ac:(k:Int)<(t.length:Int):=by omega
     have ad:IntKind.i64.wrap ((k:Int)+1)=(k:Int)+1:=f0t _ fe;obtain⟨aa,ab⟩:=hA e (f3x he);obtain⟨r,hr⟩: ∃r:Nat,e.r=r:=⟨e.r.toNat,by omega⟩;have hB1:BB (wr.alloc (.cells #[.int .i32 (r:Int),.int .i64 e.c,.int .i64 e.n] 38)) w.heap.size w.heap.size (vq (t.take k)):=by
      obtain⟨p,v,h1,h2,h3⟩:=D.out;exact⟨p,v,h1,h2.al _,qx (K:=λ_=>False) (Ch.ba ((Bl.rf _).al _)) h3 (λ_ _ h=>h)⟩
     have O:=fx6 (fhs w.heap.size r _ ((j.out.bl m).bl ((Bl.rf _).al _)) hB1 fe fe ja (by have:=m.size;simp;omega));rw[hr] at q0;have I:vq (t.take (k+1))=vq (t.take k)++[r]:=by
      rw[List.take_add_one,he];simp[vq,hr]
     have J:=fx6 I;clear B C hc f0 f1 f2 I hr;go_wp2_with (first|(go_at_call 34;refine O.out.mono ?_;rintro x w3 ⟨⟨y,rfl⟩,gB,gC⟩;have gb:=zf (m.al (.cells #[.int .i32 (r:Int),.int .i64 e.c,.int .i64 e.n] 38)) gC (λx hx=>by omega)))
     go_roundw
     case rel => exact⟨k+1,by omega,by simp,gb,by rw[J.out];exact gB⟩
     case measure => simp[intOf];omega
    ·obtain rfl:k=t.length:=by omega
     have hS:=fx6 (fp9 w.heap.size _ D (by simpa using W) (λb hb=>by
      simp only[f4a,f3p] at hb;obtain⟨e,he,rfl⟩:=hb;have:=hA e he;omega) ja)
     rw[f4a] at hS;clear B hA j;go_wp2_with (first|(go_at_call 36;refine hS.out.mono ?_;rintro x w3 ⟨rfl,gC⟩;have gb:=zf m gC (λx hx=>hx)));go_ret;exact⟨rfl,gb⟩
end
end Go.Proofs.YtelecjnabeokeaaGreatDoor
namespace Go.Proofs.YtelecjnabeokeaaGreatDoor
open Go Go.RowKit
attribute [local go_sem] f5q
section
variable {L:Lay} {V:Vals} {S:Plain.Ses} {ow ow':Nat->Nat} {w w':World} {E:Nat->Value}
structure TI (w:World) (s0 D:Nat) (t:List Plain.El) (k:Nat) (W:World):Prop where
 bl:Bl w W
 dd:W.heap[D]? =some (.deferred (some []))
 bb:BB W s0 s0 (vq (t.take k))
def TI.ch {s0 D k:Nat} {t:List Plain.El} {W W':World} {K:Nat->Prop} (h:TI w s0 D t k W) (hC:Ch K W W') (hK: ∀x,K x->w.heap.size<=x) (h0: ¬K s0) (hD: ¬K D) (hR: ∀v n xs,W.ownsRow s0 5 1 v n xs-> ∀x,v.ownBlock=some x-> ¬K x):TI w s0 D t k W':=by
 obtain⟨p,v,h1,h2,h3⟩:=h.bb.out;exact⟨zf h.bl hC hK,(hC.block D (fx5.1 h.dd).1 hD).trans h.dd,p,v,h1,h2.ch hC h0,qx hC h3 (hR _ _ _ h3)⟩
def TI.bl' {s0 D k:Nat} {t:List Plain.El} {W W':World} (h:TI w s0 D t k W) (hb:Bl W W'):TI w s0 D t k W':=
 h.ch (K:=λ_=>False) (Ch.ba hb) (λ_ h=>h.elim) (λh=>h) (λh=>h) (λ_ _ _ _ _ _ h=>h)
def eql9 (b:ByteArray) (w:World):(binOp .eql 9 (.string b) (.string b)).run PV w=.ok (.bool true) w:=by
 have hu:PV.underlying 9=some .string:=by kernel_rfl
 simp[binOp,Op.equal,Op.maxDepth,Op.equalIn,f1l hu,Op.stringOp]
def ftd (h:Mem L V S 0 ow w) (hM:Marks L S.n w) (hE:Errs E w) (aE:1<=S.n) (aF:S.n<=6) (c:Int) (aC:(Plain.textOf S c).length<3000) (ab:Plain.textOf S c≠[]) (hA:Asc (Plain.textOf S c)):
    Calls PV 16 #[.pointer (some ⟨L.b,0,none⟩),.int .i64 c] w λx w'=>x=.returned (.tuple #[.string (bstr (vq (Plain.textOf S c))),.bool true])/\Bl w w':=by
 have hh:=fx6 h;have ap:=fx6 hM;have ah:=fx6 hE;have U:=fx6 h.base;have aW:=h.size;clear h hM hE;refine(f4j (n:=8)).1 ?_;refine callsIn_of_wp_marks PV.func16 rfl trivial ?_ rfl;simp only[Tryz.ntmps16,f3s,fz6,f06,Nat.reduceAdd,Nat.reduceSub,Array.replicate_succ,Array.replicate_zero,List.push_toArray,List.append_toArray,f2h,f0j]
 gi_wp2_with (first|(refine⟨trivial,?_⟩;gi_at_call 27;refine(f4j.2 (ftb _ _ _)).mono ?_;rintro e w1 ⟨rfl,rfl⟩))
 refine vy (F:=λW0=>Bl w W0/\Bk W0 w.heap.size 102 #[.pointer none,.slice none 0 0]/\Bk W0 (w.heap.size+1) 26 #[.pointer (some ⟨L.b,0,none⟩)]/\Bk W0 (w.heap.size+1+1) 3 #[.int .i64 c]/\W0.heap.size=w.heap.size+3) ?_ ?_
 ·exact⟨((((Bl.rf _).al _).al _).al _),((Bk.nw fi).al _).al _,(Bk.nw fi).al _,Bk.nw fi,by simp⟩
 rintro W0 ⟨gb,b6,bs,bc,hsz⟩;obtain⟨s0,aV⟩: ∃s0,w.heap.size=s0:=⟨_,rfl⟩;rw[aV] at b6 bs bc hsz ⊢;refine fk5 (gf:=59) (lb:=#[.pointer (some ⟨s0+1,0,none⟩),.pointer (some ⟨s0+1+1,0,none⟩)]) rfl (λargs w=>PV.call59 args w) (λW=>TI w s0 (s0+3) (Plain.textOf S c) (Plain.textOf S c).length W) ?_ ?_
 ·intro r r1 r2 r3 r4 r5 r6 W1 I;rw[hsz];have aK:W1.heap[s0+3]? =some (.deferred (some [])):=by rw[I,<- hsz];exact(f7l _ _ _ fi).trans (f3n W0 _)
  have aB:W1.heap[s0+3+1]? =some (.loop r):=by
   rw[I,<- hsz];have:=f3n (W0.alloc (.deferred (some []))) (.loop r);simpa using this
  have C:Bl W0 W1:=by rw[I];exact((Bl.rf _).al _).al _
  clear I;have h0:TI w s0 (s0+3) (Plain.textOf S c) 0 W1:=⟨gb.cl C,aK,_,_,.inl rfl,b6.bl C,f0w _ _ _ _⟩;refine(fta (8-1) hh.out ap.out ah.out (gb.cl C) aE aF c (s0+1) (s0+1+1) (s0+3+1) (bs.bl C) (bc.bl C) fe (λk W=>TI w s0 (s0+3) (Plain.textOf S c) k W/\W.heap[s0+3+1]? =some (.loop r)) ?_ ?_ ?_ ?_).mono ?_
  ·exact λW hb=>⟨h0.bl' hb,(hb.block _ (fx5.1 aB).1).trans aB⟩
  ·exact λk W hJ=>hJ.1.bl
  ·exact λk W o hJ=>⟨hJ.1.bl' ((Bl.rf _).al o),(f7l W o _ (fx5.1 hJ.2).1).trans hJ.2⟩
  ·rintro k W e ⟨hI,hl⟩ he;refine fk6 hl r1 r2 (by rw[r4];rfl) λrb=>?_;rw[r3,r4,r5,r6];obtain⟨aX,aY⟩:=hA e (f3x he);obtain⟨r',aH⟩: ∃r:Nat,e.r=r:=⟨e.r.toNat,by omega⟩;have ac:r'<=127:=by omega
   have aT:=fx6 aH;clear aH;have aZ:k<(Plain.textOf S c).length:=(f1c.1 he).1;generalize Plain.textOf S c=t at*;have R:=(fx5.1 hl).1
   gi_wp2
   have hr:=aT.out;refine⟨(f7l _ _ _ R).trans hl,?_⟩;have X:(W.alloc (.cells #[.int .i32 e.r,.int .i64 e.c,.int .i64 e.n] 38)).heap[s0+3+1]? =some (.loop r):=(f7l _ _ _ R).trans hl
   have M: ∀g tt cs,Bk (W.alloc (.cells #[.int .i32 e.r,.int .i64 e.c,.int .i64 e.n] 38)) g tt cs-> ¬g=s0+3+1:=λg tt cs hg e=>by
      have:=hg.at_;rw[e,X] at this;cases this
   have an:=hI.bl' ((Bl.rf _).al (.cells #[.int .i32 e.r,.int .i64 e.c,.int .i64 e.n] 38));have j:Ch (λx=>x=s0+3+1) (W.alloc (.cells #[.int .i32 e.r,.int .i64 e.c,.int .i64 e.n] 38)) ((W.alloc (.cells #[.int .i32 e.r,.int .i64 e.c,.int .i64 e.n] 38)).putObj (s0+3+1) (.loop rb)):=(Ch.rf (λx=>x=s0+3+1) _).po (.inl rfl) _;refine vy (F:=λW2=>TI w s0 (s0+3) t k W2/\W2.heap[s0+3+1]? =some (.loop rb)/\Bk W2 W.heap.size 38 #[.int .i32 (r':Int),.int .i64 e.c,.int .i64 e.n]) ⟨?_,?_,?_⟩ ?_
   ·exact an.ch j (λx e=>by omega) fe fe (λv n xs hv x hx e=>uz hv X (λ_ _ _ e=>by cases e) x hx e)
   ·exact f4v ja
   ·rw[<- hr];exact(Bk.nw rfl).ch j (M _ _ _ (Bk.nw rfl))
   have aS:vq (t.take (k+1))=vq (t.take k)++[r']:=by
      rw[List.take_add_one,he];simp[vq,hr]
   generalize W.heap.size=xe;clear j M X an hI hl R;rintro W2 ⟨m,Y,hx⟩;have aD:=(fx5.1 Y).1;obtain⟨c4,d4⟩:=hx.ceF;obtain⟨p0,v0,aG,ae,A⟩:=m.bb.out;have aP:=fx6 (fbv s0 r' _ (U.out.bl m.bl) aG ae A fe ac ja (by have:=m.bl.size;omega));have aN:=fx6 (uz A Y (λ_ _ _ e=>by cases e));have O:=fx6 (uz A m.dd (λ_ _ _ e=>by cases e));have B:=fx6 A.lt;clear hr aG ae A hA
   gi_wp2_with (first|(refine⟨trivial,?_⟩;gi_at_call 34;refine(CallsIn.inRound (s0+3+1) (f4j.2 aP.out)).mono ?_;rintro x w3 ⟨⟨y,rfl⟩,gB,gC⟩))
   have aa:w3.heap[s0+3+1]? =some (.loop rb):=(gC.block _ aD (by rintro(e|e);omega;exact aN.out _ e rfl)).trans Y;have aL:w3.heap[s0+3]? =some (.deferred (some [])):=(gC.block _ (fx5.1 m.dd).1 (by rintro(e|e);omega;exact O.out _ e rfl)).trans m.dd;have aO:TI w s0 (s0+3) t (k+1) w3:=⟨zf m.bl gC (λx hx=>by rcases hx with e|e;omega;have:=(B.out x e).1;omega),aL,by rw[aS];exact gB⟩;have j:Ch (λx=>x=s0+3+1) w3 (w3.putObj (s0+3+1) (.loop r)):=(Ch.rf (λx=>x=s0+3+1) _).po (.inl rfl) _;exact⟨aa,aO.ch j (λx e=>by omega) fe fe (λv n xs hv x hx e=>uz hv aa (λ_ _ _ e=>by cases e) x hx e),f4v (fx5.1 aa).1⟩
  ·rintro e W ⟨hv,hI,hl⟩;exact⟨hv,hl,hI⟩
 ·intro r W2 hI hl;rw[hsz] at hl ⊢;have j:Ch (λx=>x=s0+3+1) W2 (W2.putObj (s0+3+1) (.loop { r with state:=.exhausted })):=(Ch.rf (λx=>x=s0+3+1) W2).po (.inl rfl) _;have ak:=hI.ch j (λx e=>by omega) fe fe (λv n xs hv x hx e=>uz hv hl (λ_ _ _ e=>by cases e) x hx e);refine vy (F:=λW3=>TI w s0 (s0+3) (Plain.textOf S c) (Plain.textOf S c).length W3) ak ?_;clear ak j hI hl;rintro W3 hI;have hX:=fx6 (text35 (hh.out.bl hI.bl) (ap.out.bl hI.bl) (ah.out.bl hh.out.size hI.bl) aE aF c fe ab hA);obtain⟨p,v,h1,h2,h3⟩:=hI.bb.out;rw[f4a] at h3
  have aA:=fx6 (λW4 (hb:Bl W3 W4)=>fk9 (w:=W4) s0 (vq (Plain.textOf S c)) (h2.bl hb) (by simpa using qx (K:=λ_=>False) (Ch.ba hb) h3 (λ_ _ h=>h)) (by simpa using ab) (λb hb=>by
       simp only[f3p] at hb;obtain⟨e,he,rfl⟩:=hb;have:=hA e he;omega) ja)
  have aR:=λW=>eql9 (bstr (vq (Plain.textOf S c))) W;have J:=hI.dd;have aQ:=fx6 hI.bl;have O:=fx6 (uz h3 J (λ_ _ _ e=>by cases e));have B:=fx6 h3.lt;clear hI h1 h2 h3 hA ab aC;obtain⟨a0,q⟩: ∃s,s=bstr (vq (Plain.textOf S c)):=⟨_,rfl⟩;rw[<- q] at hX aR;simp only[<- q] at aA;have aU:=fx6 q;clear q
  gi_wp2_with (first|(refine⟨trivial,?_⟩;gi_at_call 35;refine(f4j.2 hX.out).mono ?_;rintro x w3 ⟨rfl,D⟩)|(refine⟨trivial,?_⟩;gi_at_call 36;refine(f4j.2 (aA.out _ D)).mono ?_;rintro x w4 ⟨rfl,ad⟩))
  have aM:w4.heap[s0+3]? =some (.deferred (some [])):=(ad.block _ (f0f (fx5.1 J).1 D.size) (λe=>O.out _ e rfl)).trans ((D.block _ (fx5.1 J).1).trans J);have aJ:Ch (λx=>x=s0+3) w4 (w4.putObj (s0+3) (.deferred none)):=(Ch.rf (λx=>x=s0+3) w4).po (.inl rfl) _;have aI:Bl w w4:=zf (aQ.out.cl D) ad (λx e=>by have:=(B.out x e).1;omega);refine⟨by simp,.inl ⟨_,_,rfl,run_takeDeferred aM,?_⟩⟩;exact⟨_,results_tmp2 rfl _ _ _,by rw[<- aU.out];rfl,zf aI aJ (λx e=>by omega)⟩
end
end Go.Proofs.YtelecjnabeokeaaGreatDoor
namespace Go.Proofs.YtelecjnabeokeaaGreatDoor
open Go Go.Conc Go.RowKit
def Plain.call_n {S:Plain.Ses} {k c pos r:Int}:(Plain.call S k c pos r).2.n=S.n:=by
 unfold Plain.call Plain.change Plain.serve Plain.get;repeat' split
 all_goals rfl
section
variable {WS:Nat->Option SeatD} {w v0:World} {n N n0:Nat} {E:Nat->Value} {A:Nat->Addr} {L:Lay} {S:Plain.Ses} {ow:Nat->Nat}
def Sess.bl (h:Sess n N n0 L E A S ow WS w) {w':World} (hb:Bl w w'):Sess n N n0 L E A S ow WS w':=⟨h.live.bl hb,h.num,h.y6,h.y7,h.seats,h.low⟩
def fte (h:Sess n N n0 L E A S ow WS w) (j:n0<=w.heap.size) (k c pos r:Int) (h1:1<=k) (h5:k<=5):
    Calls PV 9 #[.pointer (some ⟨L.b,0,none⟩),.int .i64 k,.int .i64 c,.int .i64 pos,.int .i64 r] w λx w'=>x=.returned (.int .i64 ((Plain.call S k c pos (IntKind.i32.wrap r)).1:Int))/\ ∃ow',Sess n N n0 L E A (Plain.call S k c pos (IntKind.i32.wrap r)).2 ow' WS w'/\Old n0 w w'/\Ey ow ow' w w':=by
 refine(fvn h.live k c pos r h1 h5).mono ?_;rintro x w' ⟨hx,ow',hL,hE⟩;refine⟨hx,ow',⟨hL,Plain.call_n.trans h.num,h.y6,h.y7,h.seats,λx hx=>(hE.own x fe).trans (h.low x hx)⟩,Old.ch j hE.ch λx hx m=>m (h.low x hx),hE⟩
def mr (h:Sess n N n0 L E A S ow WS w) (j:n0<=w.heap.size) (k c pos r:Int) (h1:1<=k) (h5:k<=5) {S':Plain.Ses} (hc:Plain.call S k c pos (IntKind.i32.wrap r)=(0,S')):
    Calls PV 9 #[.pointer (some ⟨L.b,0,none⟩),.int .i64 k,.int .i64 c,.int .i64 pos,.int .i64 r] w λx w'=>x=.returned (.int .i64 0)/\ ∃ow',Sess n N n0 L E A S' ow' WS w'/\Old n0 w w'/\Ey ow ow' w w':=by
 refine(fte h j k c pos r h1 h5).mono ?_;rw[hc];exact λx w' h=>h
def m6 (h:Sess n N n0 L E A S ow WS w) (m:n0<=w.heap.size) (q:1<=n) (B:n<=6) (c:Int) (s:ByteArray) (hs:bstr (vq (Plain.textOf S c))=s) (j:(Plain.textOf S c).length<3000) (C:Plain.textOf S c≠[]) (hA:Asc (Plain.textOf S c)):
    Calls PV 16 #[.pointer (some ⟨L.b,0,none⟩),.int .i64 c] w λx w'=>x=.returned (.tuple #[.string s,.bool true])/\Sess n N n0 L E A S ow WS w'/\Old n0 w w'/\Bl w w':=by
 obtain⟨V,hM⟩:=h.live.mem;refine(ftd hM (h.num▸h.live.marks) h.live.ev.errs (by rw[h.num];exact q) (by rw[h.num];exact B) c j C hA).mono ?_;rintro x w' ⟨hx,hb⟩;exact⟨by rw[<- hs];exact hx,h.bl hb,Old.bl m hb,hb⟩
end
end Go.Proofs.YtelecjnabeokeaaGreatDoor
namespace Go.Proofs.YtelecjnabeokeaaGreatDoor
namespace Plain
def upN (S:Ses):Nat:=sumN (λc=>(S.cl c).up.length) S.n
def downN (S:Ses):Nat:=sumN (λc=>(S.cl c).down.length) S.n
def todo (S:Ses):Nat:=2*upN S+if downN S=0 then 0 else 1
def f4z {f:Nat->Nat} {n:Nat} (h:sumN f n=0) {c:Nat} (hc:c<n):f c=0:=by have:=sumN_le (f:=f) hc;omega
def f65 {f:Nat->Nat} {n:Nat} (h:0<sumN f n): ∃c,c<n/\0<f c:=by
 induction n with
 | zero=>simp[sumN] at h
 | succ n ih=>
   simp only[sumN] at h;by_cases e:f n=0
   ·obtain⟨c,h1,h2⟩:=ih fe;exact⟨c,by omega,h2⟩
   ·exact⟨n,by omega,by omega⟩
def sumN_bound {f:Nat->Nat} {n m:Nat} (h: ∀c,c<n->f c<=m):sumN f n<=n*m:=by
 induction n with
 | zero=>simp[sumN]
 | succ n ih=>
   simp only[sumN];have h1:=ih λc hc=>h c fe;have h2:=h n fe;rw[Nat.succ_mul];omega
def Good.upN {S:Ses} (h:Good S):upN S<=16*S.n:=by
 have:=sumN_bound (f:=λc=>(S.cl c).up.length) (n:=S.n) (m:=16) λc hc=>by have h1:=h.upR c hc;have h2:=h.room16;omega
 unfold Plain.upN;omega
def Good.downN {S:Ses} (h:Good S):downN S<=16*S.n:=by
 have:=sumN_bound (f:=λc=>(S.cl c).down.length) (n:=S.n) (m:=16) λc hc=>by have h1:=h.downR c hc;have h2:=h.room16;omega
 unfold Plain.downN;omega
structure Drn (S0:Ses) (t i L:Nat) (S:Ses):Prop where
 n:S.n=S0.n
 le:L<=16*i
 sum:upN S<=upN S0
 nil:upN S0=0->L=0
 same:upN S=upN S0->(∀j,j<i->(S.cl ((j+t)%S0.n)).down=[])/\(∀o,(S.cl o).down≠[]->(S0.cl o).down≠[])/\(∀j,j<i->(S.cl ((j+t)%S0.n)).up≠[]-> ∃o,o<S0.n/\(S0.cl o).down≠[])
def Drn.start {S:Ses} {t:Nat}:Drn S t 0 0 S:=⟨rfl,fx8 _,fx8 _,λ_=>rfl,λ_=>⟨λj hj=>by omega,λ_ h=>h,λj hj=>by omega⟩⟩
section
variable {S0 S:Ses} {t i L c:Nat}
def get_up (hc:c<S.n):upN (get S c).2=upN S:=by
 unfold get upN;split
 ·rfl
 ·refine fb6 λo ho=>?_;show(put S.cl c _ o).up.length=_;by_cases e:o=c
  ·subst e;rw[put_same];rfl
  ·rw[put_ne _ _ e]
def Drn.get (h:Drn S0 t i L S) (hc:c<S.n):Drn S0 t i L (get S c).2:=by
 have m:=get_up hc
 have hd: ∀o,((Plain.get S c).2.cl o).up=(S.cl o).up/\(((Plain.get S c).2.cl o).down≠[]->(S.cl o).down≠[]):=λo=>by
    unfold Plain.get;split
    ·exact⟨rfl,id⟩
    ·rename_i g D hd;show((put S.cl c _ o).up=_)/\((put S.cl c _ o).down≠[]->_);by_cases e:o=c
     ·subst e;rw[put_same];exact⟨rfl,λ_ h'=>by rw[hd] at h';cases h'⟩
     ·rw[put_ne _ _ e];exact⟨rfl,id⟩
 have hn:(Plain.get S c).2.n=S.n:=by unfold Plain.get;split <;>rfl
 refine⟨hn.trans h.n,h.le,by rw[m];exact h.sum,h.nil,λe=>?_⟩;rw[m] at e;obtain⟨h1,h2,h3⟩:=h.same e
 exact⟨λj hj=>by
    have:=h1 j hj;exact f1e λh'=>(hd _).2 h' this,λo ho=>h2 o ((hd o).2 ho),λj hj hu=>h3 j hj (by rw[<- (hd _).1];exact hu)⟩
def Drn.none (h:Drn S0 t i L S) (hd:(S.cl ((i+t)%S0.n)).down=[]) (hu:(S.cl ((i+t)%S0.n)).up=[]):Drn S0 t (i+1) L S:=by
 refine⟨h.n,by have:=h.le;omega,h.sum,h.nil,λe=>?_⟩;obtain⟨h1,h2,h3⟩:=h.same e;refine⟨λj hj=>?_,h2,λj hj hu'=>?_⟩
 ·rcases f01 j i with h'|h'
  ·exact h1 j h'
  ·obtain rfl:j=i:=by omega
   exact hd
 ·rcases f01 j i with h'|h'
  ·exact h3 j h' hu'
  ·obtain rfl:j=i:=by omega
   exact absurd hu hu'
def Drn.gone (hG:Good S) (h:Drn S0 t i L S) {f:Frm} {U:List Frm} (hu:(S.cl ((i+t)%S0.n)).up=f::U):Drn S0 t (i+1) (L+(S.cl ((i+t)%S0.n)).up.length-1) (served S ((i+t)%S0.n) f U):=by
 have hc:(i+t)%S0.n<S.n:=by rw[h.n];exact Nat.mod_lt _ (by rw[<- h.n];exact hG.n0)
 have hle:=hG.upR _ hc;have hr:=hG.room16
 have hs:upN S=upN (served S ((i+t)%S0.n) f U)+1:=by
    unfold upN;refine fs4 hc ?_ λo ho=>?_
    ·simp only[served,f0e,hu,fz6]
    ·simp only[served,fx9 ho]
 have:=h.sum;refine⟨h.n,by have:=h.le;omega,by omega,λe=>by omega,λe=>by omega⟩
def Drn.fin (h:Drn S0 t S0.n L S):(L+(upN S+downN S)=0->upN S=0/\downN S=0)/\(L+(upN S+downN S)≠0->todo S<todo S0):=by
 refine⟨λe=>by omega,λe=>?_⟩;have hs:=h.sum;by_cases hk:upN S=upN S0
 ·obtain⟨h1,h2,h3⟩:=h.same hk;have m: ∀o,o<S0.n-> ∃j,j<S0.n/\(j+t)%S0.n=o:=λo ho=>by
   refine⟨(o+(S0.n-t%S0.n))%S0.n,Nat.mod_lt _ fe,?_⟩;have hp:0<S0.n:=by omega
   have ht:=Nat.mod_lt t hp;rw[Nat.add_mod,Nat.mod_mod];have e2:((o+(S0.n-t%S0.n))%S0.n+t%S0.n)%S0.n=(o+(S0.n-t%S0.n)+t%S0.n)%S0.n:=Nat.mod_add_mod _ _ _;rw[e2,show o+(S0.n-t%S0.n)+t%S0.n=o+S0.n from by omega,Nat.add_mod_right,Nat.mod_eq_of_lt ho]
  have D:downN S=0:=by
   refine f1e λq=>?_;obtain⟨o,ho,hp⟩:=f65 (f:=λc=>(S.cl c).down.length) (n:=S.n) (Nat.pos_of_ne_zero q);obtain⟨j,hj,e'⟩:=m o (by rw[<- h.n];exact ho);have:=h1 j hj;rw[e'] at this;rw[this] at hp;simp at hp
  have C:upN S≠0:=λh0=>by
   have:=h.nil fe;omega
  obtain⟨o,ho,hp⟩:=f65 (f:=λc=>(S.cl c).up.length) (n:=S.n) (Nat.pos_of_ne_zero C);obtain⟨j,hj,e'⟩:=m o (by rw[<- h.n];exact ho);obtain⟨o2,B,A⟩:=h3 j hj (by rw[e'];intro h';rw[h'] at hp;simp at hp);have q:downN S0≠0:=λh0=>A (f1a (f4z (f:=λc=>(S0.cl c).down.length) h0 B));unfold todo;rw[f02 D,fx9 q];omega
 ·unfold todo;split <;>split <;>omega
def Good.todo (h:Good S):todo S<=32*S.n+1:=by
 have:=h.upN;unfold Plain.todo;split <;>omega
def Good.still (h:Good S) (hu:Plain.upN S=0) (hd:Plain.downN S=0) (hc:c<S.n):(S.cl c).text=S.text/\(S.cl c).cur=S.curs c:=by
 have hP:=h.pair c hc;rw[f1a (f4z (f:=λc=>(S.cl c).up.length) hu hc),f1a (f4z (f:=λc=>(S.cl c).down.length) hd hc)] at hP;exact hP.still
end
end Plain
open Go Go.RowKit
def Plain.call4 {S:Plain.Ses} {c:Nat} (hc:c<S.n) (p r:Int):Plain.call S 4 c p r=Plain.serve S c:=by
 unfold Plain.call;rw[fx9 fe];simp
section
variable {WS:Nat->Option SeatD} {w v0:World} {n N n0:Nat} {E:Nat->Value} {A:Nat->Addr} {L:Lay} {S S0:Plain.Ses} {ow:Nat->Nat} {i t Lq:Nat}
structure f69 (n N n0:Nat) (L:Lay) (E:Nat->Value) (A:Nat->Addr) (WS:Nat->Option SeatD) (v0 w:World) (X:Plain.Ses->Prop):Prop where
 out: ∃S ow',X S/\Sess n N n0 L E A S ow' WS w/\Old n0 v0 w
end
open Go.Conc
def Scr.old {v w:World} {k:Nat} {p:Option Addr} {n cap:Nat} {f:Nat->Nat->Int} {s:Nat->ByteArray} (h:Scr v p n cap f s) (hO:Old k v w) (hk:v.heap.size<=k):Scr w p n cap f s:=
 h.keep hO.size λx hx=>hO.block x fe
def Base.old {v w:World} {k:Nat} (h:Base v) (hO:Old k v w) (hk:2<=k):Base w:=by
 obtain⟨a,b,h0⟩:=h.b0;obtain⟨a',b',h1⟩:=h.b1;exact⟨⟨a,b,⟨(hO.block 0 fe).trans h0.at_⟩⟩,⟨a',b',⟨(hO.block 1 fe).trans h1.at_⟩⟩⟩
section
variable {Φ:Goal} {WS:Nat->Option SeatD} {Shun:Loc->Prop} {w v v0:World} {n room N N' n0:Nat} {X:Frame} {cs:List Frame} {E:Nat->Value} {A:Nat->Addr} {L:Lay} {S:Plain.Ses} {ow:Nat->Nat}
def Plain.Good.texts {S:Plain.Ses} (h:Plain.Good S) (c:Int):(Plain.textOf S c).length<3000:=by
 unfold Plain.textOf;split
 ·have h1:=h.text_len;have h2:=h.log_len;have h3:=h.calls;omega
 ·split
  ·rename_i hc;have:=h.cl_len (c:=c.toNat) fe;omega
  ·simp
def fpa (h:Sess n N n0 L E A S ow WS w) (j:n0<=w.heap.size) (m:1<=n) (q:n<=6) (c:Int):
    Calls PV 11 #[.pointer (some ⟨L.b,0,none⟩),.int .i64 c,.int .i64 0] w λx w'=> ∃v,x=.returned (.tuple #[v,.bool true])/\w'.ownsRow w.heap.size 38 3 v (Plain.textOf S c).length (flat (Plain.textOf S c))/\Sess n N n0 L E A S ow WS w'/\Old n0 w w'/\Bl w w':=by
 obtain⟨V,hM⟩:=h.live.mem;refine(ftc hM (h.num▸h.live.marks) h.live.ev.errs (by rw[h.num];exact m) (by rw[h.num];exact q) c (h.live.good.texts c)).mono ?_;rintro x w' ⟨v,hx,hr,hb⟩;exact⟨v,hx,hr,h.bl hb,Old.bl j hb,hb⟩
def flz {ι:Type} {P:ι->World->Prop} {fr:Frame} (hW:WsOk WS Shun) (j:FrOk Tryz.prog rg fr) (hk:fr.kind=.normal) (h: ∃F:ι->Frame,(∀t d,RunTo (λfr w=> ∃x,P x w/\fr=F x) fr (reW v t d))/\(∀x,vt (F x)=false)/\ ∀x w,P x w->Co Φ WS Shun w N (G (F x) cs)):Co Φ WS Shun v N (G fr cs):=by
 obtain⟨F,h1,h2,h3⟩:=h;exact fge (Z:=λfr w=> ∃x,P x w/\fr=F x) hW (λfr v h=>by obtain⟨x,_,rfl⟩:=h;exact h2 x) j hk h1 (by rintro _ _ ⟨x,h,rfl⟩;exact h3 x _ h)
end
end Go.Proofs.YtelecjnabeokeaaGreatDoor
namespace Go.Proofs.YtelecjnabeokeaaGreatDoor
open Go Go.RowKit
section
variable {WS:Nat->Option SeatD} {w v0:World} {n N n0:Nat} {E:Nat->Value} {A:Nat->Addr} {L:Lay} {S S0:Plain.Ses} {ow:Nat->Nat} {i t Lq:Nat}
def f5z (h:Sess n N n0 L E A S ow WS w) (j:1<=n) (m:n<=6) {c:Nat} (hc:c<n):
    Calls PV 29 #[.pointer (some ⟨L.b,0,none⟩),.int .i64 (c:Int)] w λx w'=>x=.returned (.int .i64 (S.cl c).cur)/\Bl w w':=by
 obtain⟨V,hM⟩:=h.live.mem;have hn:=h.num;exact f67 hM h.live.marks h.live.ev.errs fe fe fe
end
def SeenOk.mono {R R':Plain.El->Plain.El->Prop} {H H':Plain.El->Prop} {l:List Plain.El} {m:Nat->List Bool} (h:SeenOk R H l m) (hR: ∀x y,R x y->R' x y) (hH: ∀x,H x->H' x):SeenOk R' H' l m:=
 ⟨h.nd,λx hx=>hH x (h.hh x hx),h.len,λi j x y hx hy hm=>hR x y (h.rel i j x y hx hy hm)⟩
section
variable {WS:Nat->Option SeatD} {w w' v0:World} {n N n0 ob:Nat} {E:Nat->Value} {A:Nat->Addr} {L:Lay} {S:Plain.Ses} {ow oo:Nat->Nat} {K X:Nat->Prop} {R:Plain.El->Plain.El->Prop}
def Sess.refar (h:Sess n N n0 L E A S ow WS w) (hC:Ch K w w') (hK: ∀x,K x->n0<=x/\ow x=0/\L.far x) (m:12<=n0) (hA: ∀i,i<12->i≠2->(A i).block<n0) (hX: ∀x,X x->x<w'.heap.size/\(L.far x\/w.heap.size<=x)):Sess n N n0 { L with far:=X } E A S ow WS w':=by
 obtain⟨V,M⟩:=h.live.mem;have t:=M.tag;have tg: ∀x y,ow x=y+1-> ¬K x:=λx y hx hk=>by have:=(hK x hk).2.1;omega
 have lo: ∀x,x<n0-> ¬K x:=λx hx hk=>by have:=(hK x hk).1;omega
 have mk: ∀k y,ow k=y+1->MarkAt w k->MarkAt w' k:=λk y hk hm=>hm.to (hC.block k hm.lt (tg k y hk))
 refine⟨⟨⟨V,⟨M.base.ch hC (lo 0 fe) (lo 1 fe),⟨t.lo,t.b,t.sb,t.eb,t.nb,t.mb,t.c0,t.lg,t.ar,t.kb,t.ul,t.uc,t.dl,t.dc,t.wc,t.rv,t.er⟩,λx hx=>M.fresh x (f08 hC.size hx),M.bb.ch hC (tg _ _ t.b),M.ss.ch hC (tg _ _ t.sb),⟨(M.ee.ch hC (tg _ _ t.eb)).bk⟩,M.nn.ch hC (tg _ _ t.nb),M.mp.ch hC (tg _ _ t.mb),
    qx hC M.ar (λx hx=>tg _ _ (t.ar x hx)),qx hC M.st (λx hx hk=>M.far.st x hx (hK x hk).2.2),qx hC M.lg (λx hx=>tg _ _ (t.lg x hx)),λc hc=>(M.kk c hc).ch hC (tg _ _ (t.kb c hc)),λc hc=>(M.up c hc).ch_ hC (tg _ _ (t.ul c hc)) (tg _ _ (t.uc c hc)),
    λc hc=>(M.dn c hc).ch_ hC (tg _ _ (t.dl c hc)) (tg _ _ (t.dc c hc)),λc hc=>qx hC (M.tx c hc) (λx hx hk=>M.far.tv c hc x hx (hK x hk).2.2),λc hc=>qx hC (M.rw c hc) (λx hx=>tg _ _ (t.rv c hc x hx)),λc hc=>qx hC (M.er c hc) (λx hx=>tg _ _ (t.er c hc x hx)),
    ⟨λx hx=>(hX x hx).1,λx hx hx'=>(hX x hx').2.elim (M.far.st x hx) (λj=>by have:=lr M.st x hx;omega),λc hc x hx hx'=>(hX x hx').2.elim (M.far.tv c hc x hx) (λj=>by have:=lr (M.tx c hc) x hx;omega)⟩⟩⟩,
    ⟨mk _ _ t.c0 h.live.marks.m0,λi hi=>mk _ _ (t.wc i hi) (h.live.marks.ms i hi)⟩,h.live.ev.ch hC (λx hx=>lo x fe) (λi hi h2=>lo _ (hA i hi h2)),h.live.good,h.live.bnd,h.live.low⟩,h.num,h.y6,h.y7,h.seats,h.low⟩
structure Wat (n N n0:Nat) (L:Lay) (E:Nat->Value) (A:Nat->Addr) (WS:Nat->Option SeatD) (ob:Nat) (S:Plain.Ses) (R:Plain.El->Plain.El->Prop) (oo ow:Nat->Nat) (v0 w:World):Prop where
 ss:Sess n N n0 { L with far:=λx=>oo x≠0 } E A S ow WS w
 om: ∃lv fv rv l m,OrM w n0 ob oo lv fv rv l m/\SeenOk R (Plain.Hist S) l m
 so:Plain.Sorted S R
 dj: ∀x,oo x≠0->ow x=0
 old:Old n0 v0 w
def Wat.bl (h:Wat n N n0 L E A WS ob S R oo ow v0 w) (hb:Bl w w'):Wat n N n0 L E A WS ob S R oo ow v0 w':=by
 obtain⟨lv,fv,rv,l,m,h1,h2⟩:=h.om;exact⟨h.ss.bl hb,⟨lv,fv,rv,l,m,h1.bl hb,h2⟩,h.so,h.dj,h.old.tr (Old.bl h.old.ge2 hb)⟩
def Wat.fresh (h:Wat n N n0 L E A WS ob S R oo ow v0 w) {x:Nat} (hx:w.heap.size<=x):ow x=0/\oo x=0:=by
 obtain⟨V,M⟩:=h.ss.live.mem;obtain⟨lv,fv,rv,l,m,h1,h2⟩:=h.om;refine⟨M.fresh x hx,f1e λh0=>?_⟩;have:=(h1.ge x h0).2;omega
def Wat.start {room:Nat} (h:Sess n N n0 L E A (Plain.new n room) ow WS w) (q:12<=n0) (hA: ∀i,i<12->i≠2->(A i).block<n0) (hO:Old n0 v0 w):
    ∃oo,Wat n N n0 L E A WS w.heap.size (Plain.new n room) (λ_ _=>False) oo ow v0 (w.alloc (.cells #[.slice none 0 0,.slice none 0 0] 93)):=by
 have hb:Bl w (w.alloc (.cells #[.slice none 0 0,.slice none 0 0] 93)):=(Bl.rf w).al _;obtain⟨V,M⟩:=h.live.mem;have m:=hO.ge2;refine⟨λx=>if x=w.heap.size then 1 else 0,?_,⟨.slice none 0 0,.slice none 0 0,λ_=>undef,[],λ_=>[],?_,⟨List.nodup_nil,λx hx=>(by simp at hx),λi hi=>(by simp at hi),λi j x y hx=>(by simp at hx)⟩⟩,Plain.new_sorted,λx hx=>?_,hO.tr (Old.bl m hb)⟩
 ·refine h.refar (K:=λ_=>False) (Ch.ba hb) (λ_ h=>h.elim) q hA λx hx=>?_;have hx:(if x=w.heap.size then 1 else 0)≠0:=hx;split at hx
  ·subst_vars;exact⟨by simp,.inr (fx8 _)⟩
  ·exact absurd rfl hx
 ·refine⟨Bk.nw rfl,f0w _ _ _ _,f0w _ _ _ _,λk hk=>(by simp at hk),by simp,λx hx=>(by simp[Value.ownBlock] at hx),λx hx=>(by simp[Value.ownBlock] at hx),λk hk=>(by simp at hk),λx hx=>?_⟩;have hx:(if x=w.heap.size then 1 else 0)≠0:=hx;split at hx
  ·subst_vars;exact⟨m,by simp⟩
  ·exact absurd rfl hx
 ·have hx:(if x=w.heap.size then 1 else 0)≠0:=hx;split at hx
  ·subst_vars;exact M.fresh _ (fx8 _)
  ·exact absurd rfl hx
def Wat.elems (h:Wat n N n0 L E A WS ob S R oo ow v0 w) (j:1<=n) (m:n<=6) (c:Int):
    Calls PV 11 #[.pointer (some ⟨L.b,0,none⟩),.int .i64 c,.int .i64 0] w λx w'=> ∃v,x=.returned (.tuple #[v,.bool true])/\Txt w' v (Plain.textOf S c)/\(∀x,v.ownBlock=some x->w.heap.size<=x)/\Bl w w':=by
 refine(fpa h.ss h.old.ge2 j m c).mono ?_;rintro x w' ⟨v,hx,hr,_,_,hb⟩;exact⟨v,hx,OwnT.txt hr,λx hx=>(hr.lt x hx).1,hb⟩
def Wat.cursor (h:Wat n N n0 L E A WS ob S R oo ow v0 w) (j:1<=n) (m:n<=6) {c:Nat} (hc:c<n):
    Calls PV 29 #[.pointer (some ⟨L.b,0,none⟩),.int .i64 (c:Int)] w λx w'=>x=.returned (.int .i64 (S.cl c).cur)/\Bl w w':=
 f5z h.ss j m hc
def Wat.text (h:Wat n N n0 L E A WS ob S R oo ow v0 w) {c:Nat} (hc:c<n):(Plain.textOf S (c:Int)=(S.cl c).text/\Plain.textOf S (-1)=S.text)/\((Plain.textOf S (c:Int)).Pairwise R/\(Plain.textOf S (-1)).Pairwise R)/\(∀x∈Plain.textOf S (c:Int),Plain.Hist S x)/\ ∀x∈Plain.textOf S (-1),Plain.Hist S x:=by
 have hn:=h.ss.num;have e1:Plain.textOf S (-1)=S.text:=rfl
 have e2:Plain.textOf S (c:Int)=(S.cl c).text:=by
    unfold Plain.textOf;rw[fx9 fe,f02 fe];simp
 have j:c<S.n:=by omega
 have h1:=h.so.texts j;rw[e1,e2];exact⟨⟨rfl,rfl⟩,h1,λx hx=>(h.so.hist j).1 hx,λx hx=>(h.so.hist j).2 hx⟩
def Wat.do_ (h:Wat n N n0 L E A WS ob S R oo ow v0 w) (k c pos r:Int) (h1:1<=k) (h5:k<=5):
    Calls PV 9 #[.pointer (some ⟨L.b,0,none⟩),.int .i64 k,.int .i64 c,.int .i64 pos,.int .i64 r] w λx w'=> ∃y,x=.returned (.int .i64 y)/\ ∃S' R' ow',Wat n N n0 L E A WS ob S' R' oo ow' v0 w'/\Ey ow ow' w w'/\
     (k≠3-> ∀i:Nat,c=(i:Int)->i<n->Plain.Stay (Plain.textOf S (i:Int)) (S.cl i).cur (Plain.textOf S' (i:Int)) (S'.cl i).cur):=by
 refine(fte h.ss h.old.ge2 k c pos r h1 h5).mono ?_;rintro x w' ⟨hx,ow',hS,hO,hE⟩;obtain⟨lv,fv,rv,l,m,g1,g2⟩:=h.om;obtain⟨R',hR,hs⟩:=Plain.call_sorted h.ss.live.good h.so (k:=k) (c:=c) (pos:=pos) (r:=IntKind.i32.wrap r);have hW:Wat n N n0 L E A WS ob _ R' oo ow' v0 w':=⟨hS,⟨lv,fv,rv,l,m,g1.ch hE.ch (λx hx=>f1e λh0=>hx (h.dj x h0)),g2.mono hR λx hx=>Plain.call_hist h.so hx⟩,hs,λx hx=>(hE.own x (g1.ge x hx).2).trans (h.dj x hx),h.old.tr hO⟩;refine⟨_,hx,_,R',ow',hW,hE,λh3 i hi j=>?_⟩;subst hi;have hn:=h.ss.num;have:=Plain.call_stay h.ss.live.good h.so (k:=k) (c:=(i:Int)) (pos:=pos) (r:=IntKind.i32.wrap r) ⟨h1,h5⟩ h3 fe fe;rw[(h.text j).1.1,(hW.text j).1.1];exact this
def Wat.see (h:Wat n N n0 L E A WS ob S R oo ow v0 w) (I:12<=n0) (hA: ∀i,i<12->i≠2->(A i).block<n0) {tv:Value} {t:List Plain.El} (hT:Txt w tv t) (O: ∀x,tv.ownBlock=some x->oo x=0) (hR:t.Pairwise R) (hH: ∀x∈t,Plain.Hist S x) (C:t.length<=4000):
    Calls PV 30 #[.pointer (some ⟨ob,0,none⟩),tv] w λx w'=>x=.returned (.bool true)/\ ∃j,Wat n N n0 L E A WS ob S R j ow v0 w'/\Ch (λx=>oo x≠0) w w'/\ ∀x,x<w.heap.size->j x=oo x:=by
 obtain⟨lv,fv,rv,l,m,g1,g2⟩:=h.om;have B:=h.old.ge2;refine(see_any h.so.anti (λl hl hh=>Plain.hist_bound h.ss.live.good hl hh) g1 g2 B hT O hR hH C).mono ?_;rintro x w' ⟨hx,lv',fv',U,l',m',j,g3,g4,hC,q,_⟩;obtain⟨V,M⟩:=h.ss.live.mem
 have D: ∀x,j x≠0->oo x≠0\/w.heap.size<=x:=λx hx'=>by
    rcases f01 x w.heap.size with h'|h'
    ·exact .inl (by rw[<- q x h'];exact hx')
    ·exact .inr h'
 refine⟨hx,j,⟨?_,⟨lv',fv',U,l',m',g3,g4⟩,h.so,λx hx'=>(D x hx').elim (h.dj x) (M.fresh x),h.old.tr (Old.ch B hC λx hx' J=>by have:=(g1.ge x J).1;omega)⟩,hC,q⟩;have:=h.ss.refar hC (λx hx'=>⟨(g1.ge x hx').1,h.dj x hx',hx'⟩) I hA (X:=λx=>j x≠0) (λx hx'=>⟨(g3.ge x hx').2,D x hx'⟩);exact this
end
end Go.Proofs.YtelecjnabeokeaaGreatDoor
