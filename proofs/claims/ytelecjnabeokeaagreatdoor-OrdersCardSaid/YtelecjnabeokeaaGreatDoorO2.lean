/- Orders. Part 2 of 6. -/
import Derived.Test.YtelecjnabeokeaaGreatDoorO1
set_option maxRecDepth 100000
set_option maxHeartbeats 16000000
set_option linter.defProp false
set_option linter.unusedVariables false
set_option linter.unusedSimpArgs false
namespace Go.Proofs.YtelecjnabeokeaaGreatDoor
open Go Go.RowKit
@[go_sem] def VP_und (P:Program) (F:Array Func) (t:TypeId):(V P F).underlying t=P.underlying t:=rfl
@[go_sem] def VP_elem (P:Program) (F:Array Func) (t:TypeId):(V P F).elem t=P.elem t:=rfl
@[go_sem] def VP_info (P:Program) (F:Array Func) (t:TypeId):(V P F).info? t=P.info? t:=rfl
def flat:List Plain.El->List Value
 | []=>[]
 | e::t=>.int .i32 e.r:: .int .i64 e.c:: .int .i64 e.n::flat t
def fek (t:List Plain.El):(flat t).length=t.length*3:=by
 induction t with
 | nil=>rfl
 | cons e t ih=>simp only[flat,fz6,ih];omega
def ol (s t:List Plain.El):flat (s++t)=flat s++flat t:=by
 induction s with
 | nil=>rfl
 | cons e s ih=>simp only[f0j,flat,ih]
def frr (t:List Plain.El) (k:Nat):flat (t.take k)=(flat t).take (k*3):=by
 induction t generalizing k with
 | nil=>simp[flat]
 | cons e t ih=>
   cases k with
   | zero=>simp[flat]
   | succ k=>rw[show(k+1)*3=k*3+1+1+1 from by omega];simp only[List.take_succ_cons,flat,ih]
def frs (t:List Plain.El) (k:Nat):flat (t.drop k)=(flat t).drop (k*3):=by
 induction t generalizing k with
 | nil=>simp[flat]
 | cons e t ih=>
   cases k with
   | zero=>simp[flat]
   | succ k=>rw[show(k+1)*3=k*3+1+1+1 from by omega];simp only[List.drop_succ_cons,flat,ih]
def fn6 (t:List Plain.El): ∀u∈flat t,u.oneCell'=true:=by
 induction t with
 | nil=>simp[flat]
 | cons e t ih=>
   intro u hu;simp only[flat,fy3] at hu;rcases hu with rfl|rfl|rfl|hu
   ·rfl
   ·rfl
   ·rfl
   ·exact ih u hu
def Txt (w:World) (v:Value) (t:List Plain.El):Prop:=w.ownsRow 0 38 3 v t.length (flat t)
def Txt.bl {w w':World} {v:Value} {t:List Plain.El} (h:Txt w v t) (hb:Bl w w'):Txt w' v t:=
 World.ownsRow.kept (row:=none) h ⟨hb.os,hb.tape,hb.output,hb.size,λk hk _=>hb.block k hk⟩ (by cases hv:v.ownBlock <;>simp)
def Txt.nil (w:World):Txt w (.slice none 0 0) []:=f0w w 0 38 3
def RetT (w:World) (v0:Value) (t:List Plain.El) (x:Ending) (w':World):Prop:= ∃v,x=.returned v/\Txt w' v t/\Bl w w'/\ ∀x,v.ownBlock=some x->v0.ownBlock=some x\/w.heap.size<=x
def frt:(PV.info? 38).map (λi=>(i.zero,i.size,i.bytes))=some (some (.agg #[.int .i32 0,.int .i64 0,.int .i64 0]),3,24):=by kernel_rfl
def fru:PV.underlying 32=some (.slice 38):=by kernel_rfl
def at_drop {w:World} {g k:Nat} {xs:List Value} (h: ∀j u,xs[j]? =some u->w.cell? ((⟨g,0,none⟩:Addr).add j)=some u): ∀j u,(xs.drop (k*3))[j]? =some u->w.cell? ((⟨g,k*3,none⟩:Addr).add j)=some u:=by
 intro j u hu;have:=h (k*3+j) u (by rw[List.getElem?_drop] at hu;exact hu);rw[f2u] at this ⊢;rwa[f1k] at this
def at_take {w:World} {g k:Nat} {xs:List Value} (h: ∀j u,xs[j]? =some u->w.cell? ((⟨g,0,none⟩:Addr).add j)=some u): ∀j u,(xs.take (k*3))[j]? =some u->w.cell? ((⟨g,0,none⟩:Addr).add j)=some u:=by
 intro j u hu;rw[f5r] at hu;split at hu
 ·exact h j u hu
 ·cases hu
def Txt.cells {w:World} {g n cap:Nat} {t:List Plain.El} (h:Txt w (.slice (some ⟨g,0,none⟩) n cap) t): ∀j u,(flat t)[j]? =some u->w.cell? ((⟨g,0,none⟩:Addr).add j)=some u:=f3g h rfl
def Txt.form {w:World} {v:Value} {t:List Plain.El} (h:Txt w v t):(v=.slice none 0 0/\t=[])\/ ∃g cap,v=.slice (some ⟨g,0,none⟩) t.length cap/\t.length<=cap/\cap<=9223372036854775807:=by
 rcases h.2 with⟨h1,h2⟩|⟨g,cap,cur,h1,_,_,h2,h3,_⟩
 ·exact .inl ⟨h1,f1a h2⟩
 ·exact .inr ⟨g,cap,h1,h2,by simp only[maxLen] at h3;omega⟩
structure Src (w:World) (x:Value) (ys:List Plain.El):Prop where
 out:(x=.slice none 0 0/\ys=[])\/ ∃ad c,x=.slice (some ad) ys.length c/\ ∀j u,(flat ys)[j]? =some u->w.cell? (ad.add j)=some u
structure Srcs (w:World) (x:Value) (ys:List Plain.El):Prop where
 out: ∀w',Bl w w'->Src w' x ys
def Srcs.bl {w w':World} {x:Value} {ys:List Plain.El} (h:Srcs w x ys) (hb:Bl w w'):Srcs w' x ys:=⟨λw2 h2=>h.out w2 (hb.cl h2)⟩
def fcj {w:World} {v:Value} {t:List Plain.El} {k:Nat} (hT:Txt w v t) (hk:k<=t.length) (hn:t.length<=4000):
    ∃x,(∀u,(Instr.slice 32 v none (some (.int .i64 (k:Int))) none).run PV u=.ok x u)/\Srcs w x (t.take k):=by
 rcases hT.form with⟨rfl,rfl⟩|⟨g,cap,rfl,h1,h2⟩
 ·obtain rfl:k=0:=by simpa using hk
  exact⟨.slice none 0 0,λu=>by go_simp,⟨λw' _=>⟨.inl ⟨rfl,rfl⟩⟩⟩⟩
 ·refine⟨.slice (some ⟨g,0,none⟩) k cap,λu=>by go_simp;intro h;omega,⟨λw' hb=>⟨.inr ⟨_,cap,by rw[f2d,Nat.min_eq_left hk],?_⟩⟩⟩⟩;rw[frr];exact at_take (Txt.cells (hT.bl hb))
def fck {w:World} {v:Value} {t:List Plain.El} {k:Nat} (hT:Txt w v t) (hk:k<=t.length) (hn:t.length<=4000):
    ∃x,(∀u,(Instr.slice 32 v (some (.int .i64 (k:Int))) none none).run PV u=.ok x u)/\Srcs w x (t.drop k):=by
 rcases hT.form with⟨rfl,rfl⟩|⟨g,cap,rfl,h1,h2⟩
 ·obtain rfl:k=0:=by simpa using hk
  exact⟨.slice none 0 0,λu=>by go_simp,⟨λw' _=>⟨.inl ⟨rfl,rfl⟩⟩⟩⟩
 ·by_cases hc:cap=k
  ·subst hc;refine⟨.slice (some ⟨g,0,none⟩) (t.length-cap) (cap-cap),λu=>by go_simp,⟨λw' hb=>⟨.inr ⟨_,_,by rw[f2p],?_⟩⟩⟩⟩;intro j u hu;rw[List.drop_eq_nil_of_le fe] at hu;simp[flat] at hu
  ·refine⟨.slice (some ⟨g,k*3,none⟩) (t.length-k) (cap-k),λu=>by go_simp,⟨λw' hb=>⟨.inr ⟨_,_,by rw[f2p],?_⟩⟩⟩⟩;rw[frs];exact at_drop (Txt.cells (hT.bl hb))
def OwnT (b:Nat) (w:World) (v:Value) (t:List Plain.El):Prop:=w.ownsRow b 38 3 v t.length (flat t)
def OwnT.txt {b:Nat} {w:World} {v:Value} {t:List Plain.El} (h:OwnT b w v t):Txt w v t:=by
 unfold Txt OwnT at*;exact⟨h.1,h.2.imp id λ⟨g',j,cur,h1,h2,h3⟩=>⟨g',j,cur,h1,f1n _,h3⟩⟩
def xf {w:World} {ops:Array Oper} {rest:List Oper} {o:Oper} {a:Act} {Q:Exit->Act->World->Prop} (C:o.guard=none) (s x:Operand)
    (ho:o.op=.call { callee:=.builtin .append,args:=#[s,x],argTypes:=#[32,32] }) (base:Nat) {v vx:Value} {xs ys:List Plain.El} (hs:a.eval s=v) (j:OwnT base w v xs) (hx:a.eval x=vx) (A:Src w vx ys) (M:xs.length+ys.length<=5000) (q:base<=w.heap.size)
    (h: ∀v' w',OwnT base w' v' (xs++ys)->w.grownBy w' v.ownBlock->wpList PV ops Q rest (a.put o.dst v') w'):wpList PV ops Q (o::rest) a w:=by
 obtain⟨i0,B,D,J,I⟩:=f4i frt;rcases A.out with⟨rfl,rfl⟩|⟨ad,c,rfl,hc⟩
 ·refine wpList_append_own_none (P:=PV) C s x _ ho base 38 i0 3 fru B v xs.length (flat xs) hs j hx ?_;refine h v w (by rw[f4m];exact j) ⟨rfl,rfl,rfl,fx8 _,λ_ _ _=>rfl⟩
 ·refine wpList_append_own_at (P:=PV) w C s x _ ho base 38 i0 _ 3 24 fru B D J I rfl fe v xs.length (flat xs) hs j ad ys.length c (flat ys) hx (fek ys) hc (fn6 ys) jq fe q ?_;intro v' w' m hg _ _;refine h v' w' ?_ hg;unfold OwnT;rw[ol,f0a];exact m
def OwnT.nil (b:Nat) (w:World):OwnT b w (.slice none 0 0) []:=f0w w b 38 3
def frv (w:World) (r c n:Int):Src (w.alloc (.cells #[.int .i32 r,.int .i64 c,.int .i64 n] 38)) (.slice (some ⟨w.heap.size,0,none⟩) 1 1) [⟨r,c,n⟩]:=
 ⟨.inr ⟨_,1,rfl,f2m (cs:=#[.int .i32 r,.int .i64 c,.int .i64 n]) (t:=38) (fr:=(0,0)) (f3n w _)⟩⟩
def f8f {w:World} {v:Value} {t:List Plain.El} (hT:Txt w v t) (hn:t.length<=4000): ∀u,(Builtin.len_ #[32] 3 #[v]).run PV u=.ok (.int .i64 (t.length:Int)) u:=λu=>by
 rcases hT.form with⟨rfl,rfl⟩|⟨g,cap,rfl,h1,h2⟩
 ·go_simp
 ·go_simp
def ffd {P:Program} (w:World) {ops:Array Oper} {o:Oper} {a:Act} {K:Act->World->Prop} {Q:Exit->Act->World->Prop} {E:Prop} (R:o.guard=none) (s x:Operand) (t:TypeId)
    (ho:o.op=.call { callee:=.builtin .append,args:=#[s,x],argTypes:=#[t,t] })
    (base:Nat) (e:TypeId) (i:TypeInfo) (z:Value) (size bytes:Nat) (ht:P.underlying t=some (.slice e)) (hi:P.info? e=some i) (hz:i.zero=some z)
    (C:i.size=size) (O:i.bytes=bytes) (M:z.cells.size=size) (hsz:0<size)
    (v:Value) (n:Nat) (xs:List Value) (hs:a.eval s=v) (I:w.ownsRow base e size v n xs)
    (ad:Addr) (m c:Nat) (q:List Value) (hx:a.eval x=.slice (some ad) m c) (hl:q.length=m*size) (B: ∀j u,q[j]? =some u->w.cell? (ad.add j)=some u) (h1: ∀u∈q,u.oneCell'=true)
    (J:n+m<=maxLen) (A:(n+m)*bytes<=140737488355328) (D:base<=w.heap.size)
    (h: ∀v' w',w'.ownsRow base e size v' (n+m) (xs++q)->w.grownBy w' v.ownBlock->K (a.put o.dst v') w'):
    if Region.wanted o (yielded ops a.tmps)=true then Oper.wp P o a w K Q else E:=by
 rw[f02 (by simp[Region.wanted,R])];obtain⟨v',w',hr,h2,h3,_,_⟩:=run_append_own_at (P:=P) w base t o.type e i z size bytes ht hi hz C O M hsz v n xs I ad m c q hl B h1 J A D;unfold Oper.wp execOp;simp only[ho,resolve,invoke,builtin,fz9,Sem.run_pure,Result.andThen_ok,List.map_toArray,f3c,List.map_nil,hs,hx,hr];exact h v' w' h2 h3
def fjw (w:World) {ops:Array Oper} {o:Oper} {a:Act} {K:Act->World->Prop} {Q:Exit->Act->World->Prop} {E:Prop} (C:o.guard=none) (s x:Operand)
    (ho:o.op=.call { callee:=.builtin .append,args:=#[s,x],argTypes:=#[32,32] }) (base:Nat) {v vx:Value} {xs ys:List Plain.El} (hs:a.eval s=v) (j:OwnT base w v xs) (hx:a.eval x=vx) (A:Src w vx ys) (M:xs.length+ys.length<=5000) (q:base<=w.heap.size)
    (h: ∀v' w',OwnT base w' v' (xs++ys)->w.grownBy w' v.ownBlock->K (a.put o.dst v') w'):if Region.wanted o (yielded ops a.tmps)=true then Oper.wp PV o a w K Q else E:=by
 obtain⟨i0,B,D,J,I⟩:=f4i frt;rcases A.out with⟨rfl,rfl⟩|⟨ad,c,rfl,hc⟩
 ·rw[f02 (by simp[Region.wanted,C])];have hrun:=run_append_owned_none (P:=PV) (w:=w) base 32 o.type 38 i0 3 fru B v xs.length (flat xs) j;unfold Oper.wp;simp[execOp,ho,resolve,invoke,builtin,hs,hx,hrun,Result.andThen];exact h v w (by rw[f4m];exact j) ⟨rfl,rfl,rfl,fx8 _,λ_ _ _=>rfl⟩
 ·refine ffd (P:=PV) w C s x _ ho base 38 i0 _ 3 24 fru B D J I rfl fe v xs.length (flat xs) hs j ad ys.length c (flat ys) hx (fek ys) hc (fn6 ys) jq fe q ?_;intro v' w' m hg;refine h v' w' ?_ hg;unfold OwnT;rw[ol,f0a];exact m
def frw (p r c n:Int) (t:List Plain.El) (v:Value) (w:World) (hT:Txt w v t) (hf:0<=p/\p<=t.length) (hn:t.length<=4000):
    Calls PV 167 #[.agg #[.int .i64 p,.int .i32 r,.int .i64 c,.int .i64 n],v] w (RetT w v (t.take p.toNat++⟨r,c,n⟩::t.drop p.toNat)):=by
 obtain⟨k,rfl⟩:=f4o hf.1;rw[Int.toNat_natCast];obtain⟨x1,m,s1⟩:=fcj hT (k:=k) fe hn;obtain⟨x2,j,s2⟩:=fck hT (k:=k) fe hn;have l1:=fx6 (show(t.take k).length<=k by rw[f2d];omega);have l2:=fx6 (show(t.drop k).length<=t.length by rw[f2p];omega);have l3:=fx6 hf;clear hT hf;go_enter PV.func167,Tryz.ntmps167
 go_wp2_with (first
    | (at_builtin
       refine xf (v:=.slice none 0 0) (xs:=[]) (vx:=x1) rfl (.const (.slice none 0 0)) (.tmp 9) rfl (w.heap.size+1) rfl (OwnT.nil _ _) rfl (s1.out _ ((Bl.rf _).al _)) pk fi ?_;intro v1 w1 o1 g1;have b1:=((Bl.rf w).al (.cells #[.int .i64 (k:Int),.int .i32 r,.int .i64 c,.int .i64 n] 219)).gr g1 ku;have k1:=Bk.gr g1 ku (Bk.nw (t:=219) (cs:=#[.int .i64 (k:Int),.int .i32 r,.int .i64 c,.int .i64 n]) rfl);obtain⟨c1,d1⟩:=k1.ceF;have z1:=fx6 g1.size;replace o1:=fx6 o1)
    | (at_builtin
       refine xf (v:=v1) rfl (.tmp 11) (.tmp 14) rfl (w.heap.size+1) rfl (World.ownsRow.alloc o1.out _) rfl (frv _ _ _ _) pk (by have:=z1.out;simp at this ⊢;omega) ?_;intro v2 w2 o2 g2;have b2:=(b1.al (.cells #[.int .i32 r,.int .i64 c,.int .i64 n] 38)).gr g2 (λx hx=>by have:=(o1.out.lt _ hx).1;omega);have k2:=Bk.gr g2 (λe=>by have:=(o1.out.lt _ e.symm).1;omega) (Bk.al k1 _);obtain⟨c2,d2⟩:=k2.ceF;have z2:=fx6 g2.size;replace o2:=fx6 o2)
    | (at_builtin
       refine xf (v:=v2) (vx:=x2) rfl (.tmp 16) (.tmp 20) rfl (w.heap.size+1) rfl o2.out rfl (s2.out _ b2) p7 (by have h1:=z1.out;have h2:=z2.out;simp at h1 h2;omega) ?_;intro v3 w3 o3 g3;have b3:=b2.gr g3 (λx hx=>by have:=(o2.out.lt _ hx).1;omega)))
 go_ret;exact⟨v3,rfl,by simpa using OwnT.txt o3,b3,λx hx=>.inr (by have:=(o3.lt _ hx).1;omega)⟩
def frx (p:Int) (t:List Plain.El) (v:Value) (w:World) (hT:Txt w v t) (hf:0<=p/\p<t.length) (hn:t.length<=4000):
    Calls PV 172 #[.agg #[.int .i64 p],v] w (RetT w v (t.take p.toNat++t.drop (p.toNat+1))):=by
 obtain⟨k,rfl⟩:=f4o hf.1;rw[Int.toNat_natCast];obtain⟨x1,q,s1⟩:=fcj hT (k:=k) fe hn;obtain⟨x2,j,s2⟩:=fck hT (k:=k+1) fe hn;have m: ∀u:World,(Instr.slice 32 v (some (.int .i64 ((k:Int)+1))) none none).run PV u=.ok x2 u:=by simpa using j
 have l1:=fx6 (show(t.take k).length<=k by rw[f2d];omega);have l2:=fx6 (show(t.drop (k+1)).length<=t.length by rw[f2p];omega);have e1:IntKind.i64.wrap ((k:Int)+1)=(k:Int)+1:=f0t _ fe;have l3:=fx6 hf;clear hT j hf;go_enter PV.func172,Tryz.ntmps172;go_wp2_with fail
 go_region_held3 (λw'=>(∀o,w'.cell? ⟨w.heap.size,o,none⟩=(#[.int .i64 (k:Int)]:Array Value)[o]?)/\Bk w' w.heap.size 221 #[.int .i64 (k:Int)])
    (first
      | (refine(λ(h1:Bk _ w.heap.size 221 #[.int .i64 (k:Int)])=>⟨Bk.ce h1,h1⟩) ?_
         repeat' (first|with_reducible assumption|with_reducible exact Bk.nw fi|with_reducible refine Bk.dr ?_|with_reducible refine Bk.al ?_ _|with_reducible refine Bk.gr fq ?_ ?_)
         all_goals (first|(simp[Value.ownBlock];done)|(intro e;have:=(o1.lt _ e.symm).1;omega))))
    (first
      | (refine fjw (v:=.slice none 0 0) (xs:=[]) (vx:=x1) _ rfl (.const (.slice none 0 0)) (.tmp 8) rfl (w.heap.size+1) rfl (OwnT.nil _ _) rfl (s1.out _ ((Bl.rf _).al _).dr) pk fi ?_
         intro v1 w1 o1 g1)
      | (refine fjw (v:=v1) (vx:=x2) _ rfl (.tmp 9) (.tmp 14) rfl (w.heap.size+1) rfl o1 rfl (s2.out _ ((((Bl.rf w).al _).dr).gr g1 ku)) p7 (by have:=g1.size;simp at this;omega) ?_
         intro v2 w2 o2 g2))
 go_wp2_with fail;go_ret;exact⟨v2,rfl,by simpa using OwnT.txt o2,((((Bl.rf w).al _).dr).gr g1 ku).gr g2 (λk hk=>by have:=(o1.lt _ hk).1;omega),λx hx=>.inr (by have:=(o2.lt _ hx).1;omega)⟩
def fry (t:List Plain.El) (v:Value) (w:World) (hT:Txt w v t):Calls PV 177 #[.agg #[],v] w (RetT w v t):=by
 have j:=fx6 hT;clear hT;go_enter PV.func177,Tryz.ntmps177;go_wp2;go_ret;exact⟨v,rfl,Txt.bl j.out ((Bl.rf _).al _),(Bl.rf _).al _,λx hx=>.inl hx⟩
def dy (a:Plain.Chg) (t:List Plain.El) (v:Value) (w:World) (hT:Txt w v t) (hf:Plain.Fits a t.length) (hn:t.length<=4000):Calls PV 88 #[chgV a,v] w (RetT w v (Plain.apply a t)):=by
 rcases a with⟨kind,p,⟨r,c,n⟩,cl⟩;have A:=fx6 hT;clear hT;by_cases k1:kind=1
 ·subst k1;have B:=fx6 (hf.1 rfl);clear hf;go_enter PV.func88,Tryz.ntmps88;go_wp2_with (first|(go_at_call 115;refine(fn2 _ _ _ _ _ _).mono ?_;rintro e w1 ⟨rfl,j⟩)|(go_at_call 167;refine(frw _ _ _ _ t v _ (Txt.bl A.out (((Bl.rf _).al _).cl j)) B.out hn).mono ?_;rintro e w2 ⟨v2,rfl,h2,q,m⟩));go_ret;exact⟨v2,rfl,h2,(((Bl.rf _).al _).cl j).cl q,λx hx=>(m x hx).imp id (f08 (((Bl.rf _).al _).cl j).size)⟩
 ·by_cases k2:kind=2
  ·subst k2;have B:=fx6 (hf.2 rfl);clear hf;go_enter PV.func88,Tryz.ntmps88;go_wp2_with (first|(go_at_call 115;refine(fn3 _ _ _ _ _ _).mono ?_;rintro e w1 ⟨rfl,j⟩)|(go_at_call 172;refine(frx _ t v _ (Txt.bl A.out (((Bl.rf _).al _).cl j)) B.out hn).mono ?_;rintro e w2 ⟨v2,rfl,h2,q,m⟩));go_ret;exact⟨v2,rfl,h2,(((Bl.rf _).al _).cl j).cl q,λx hx=>(m x hx).imp id (f08 (((Bl.rf _).al _).cl j).size)⟩
  ·have e1:(kind==1)=false:=by simpa using k1
   have e2:(kind==2)=false:=by simpa using k2
   have e3:=fx6 (show Plain.apply ⟨kind,p,⟨r,c,n⟩,cl⟩ t=t by simp[Plain.apply,k1,k2]);clear hf;go_enter PV.func88,Tryz.ntmps88;go_wp2_with (first|(go_at_call 115;refine(fn4 _ _ _ _ _ _ e1 e2 _).mono ?_;rintro e w1 ⟨rfl,j⟩)|(go_at_call 177;refine(fry t v _ (Txt.bl A.out (((Bl.rf _).al _).cl j))).mono ?_;rintro e w2 ⟨v2,rfl,h2,q,m⟩));go_ret;exact⟨v2,rfl,by rw[e3.out];exact h2,(((Bl.rf _).al _).cl j).cl q,λx hx=>(m x hx).imp id (f08 (((Bl.rf _).al _).cl j).size)⟩
end Go.Proofs.YtelecjnabeokeaaGreatDoor
namespace Go.Proofs.YtelecjnabeokeaaGreatDoor
namespace Plain
def turn (a:Chg) (k:Int):List Sent->Chg×Int×List Sent
 | []=>(a,k,[])
 | r::rs=>
   let x:=turn (past a r.chg) (index (past r.chg a) k) rs
   (x.1,x.2.1,⟨past r.chg a,r.mine⟩::x.2.2)
def idx (k:Int) (P:List Sent):Int:=P.foldl (λk s=>index s.chg k) k
def turn_append (a:Chg) (k:Int) (A B:List Sent):turn a k (A++B)=((turn (turn a k A).1 (turn a k A).2.1 B).1,(turn (turn a k A).1 (turn a k A).2.1 B).2.1,(turn a k A).2.2++(turn (turn a k A).1 (turn a k A).2.1 B).2.2):=by
 induction A generalizing a k with
 | nil=>rfl
 | cons r A ih=>simp only[f0j,turn,ih]
def f8j (a:Chg) (k l:Int) (A:List Sent):(turn a k A).2.2=(turn a l A).2.2:=by
 induction A generalizing a k l with
 | nil=>rfl
 | cons r A ih=>simp only[turn];rw[ih (past a r.chg) _ (index (past r.chg a) l)]
def fhc (a:Chg) (k:Int) (A:List Sent):(turn a k A).2.1=idx k (turn a k A).2.2:=by
 induction A generalizing a k with
 | nil=>rfl
 | cons r A ih=>simp only[turn,idx,List.foldl_cons];exact ih _ _
def frz (a:Chg) (k:Int) (A:List Sent):(turn a k A).1.cl=a.cl:=by
 induction A generalizing a k with
 | nil=>rfl
 | cons r A ih=>simp only[turn];rw[ih,past_cl]
def aj (a:Chg) (k:Int) (A:List Sent):(turn a k A).2.2.map (·.mine)=A.map (·.mine):=by
 induction A generalizing a k with
 | nil=>rfl
 | cons r A ih=>simp only[turn,f3c];rw[ih]
def fur (a:Chg) (k:Int) (A:List Sent):(turn a k A).2.2.map (·.chg.cl)=A.map (·.chg.cl):=by
 induction A generalizing a k with
 | nil=>rfl
 | cons r A ih=>simp only[turn,f3c];rw[ih,past_cl]
def fel (a:Chg) (k:Int) (A:List Sent):(turn a k A).2.2.length=A.length:=by
 have:=f3q List.length (aj a k A);simpa using this
def foj (k:Int) (A B:List Sent):idx k (A++B)=idx (idx k A) B:=by simp[idx]
def Runs (T:List El):List Sent->List El->Prop
 | [],T'=>T=T'
 | s::P,T'=>Fits s.chg T.length/\Runs (apply s.chg T) P T'
def Runs.append {T T1 T2:List El} {A B:List Sent} (h:Runs T A T1) (h':Runs T1 B T2):Runs T (A++B) T2:=by
 induction A generalizing T with
 | nil=>obtain rfl:T=T1:=h;exact h'
 | cons s A ih=>exact⟨h.1,ih h.2⟩
def Runs.snoc {T T1:List El} {A:List Sent} {s:Sent} (h:Runs T A T1) (hf:Fits s.chg T1.length):Runs T (A++[s]) (apply s.chg T1):=
 h.append ⟨hf,rfl⟩
def Runs.turn {T T1:List El} {A:List Sent} {a:Chg} (k:Int) (h:Runs T A T1) (hf:Fits a T.length) (hc: ∀s∈A,s.chg.cl≠a.cl):
    Fits (turn a k A).1 T1.length/\Runs (apply a T) (turn a k A).2.2 (apply (turn a k A).1 T1):=by
 induction A generalizing T a k with
 | nil=>obtain rfl:T=T1:=h;exact⟨hf,rfl⟩
 | cons r A ih=>
   obtain⟨hr,h⟩:=h;have j:=hc r fz5;have h1:Fits (past a r.chg) (apply r.chg T).length:=by rw[f4k hr];exact lq hf hr
   have h2:Fits (past r.chg a) (apply a T).length:=by rw[f4k hf];exact lq hr hf
   obtain⟨h3,h4⟩:=ih (index (past r.chg a) k) h h1 (λs hs=>by rw[past_cl];exact hc s (f0c _ hs));refine⟨h3,h2,?_⟩;have:=fw8 hf hr (f3w j);simp only[this];exact h4
def Runs.len {T T1:List El} {A:List Sent} (h:Runs T A T1):T.length<=T1.length+A.length/\T1.length<=T.length+A.length:=by
 induction A generalizing T with
 | nil=>obtain rfl:T=T1:=h;simp
 | cons s A ih=>
   have h1:=ih h.2;rw[f4k h.1] at h1;have h2:=h.1;unfold Fits at h2;unfold grow at h1;simp only[fz6];by_cases k1:s.chg.kind=1
   ·simp only[k1,f0e] at h1;omega
   ·by_cases k2:s.chg.kind=2
    ·simp only[k2,f0e,fx9 (show ¬((2:Int)=1) by decide)] at h1;omega
    ·simp only[k1,k2,f0s] at h1;omega
def ml {a:Chg} {n:Nat} {k:Int} (h:Fits a n) (h0:0<=k) (h1:k<=n):0<=index a k/\index a k<=grow a n:=by
 unfold Fits at h;unfold index grow;by_cases k1:a.kind=1
 ·simp only[k1,f0e];split <;>omega
 ·by_cases k2:a.kind=2
  ·simp only[k2,f0e,fx9 (show ¬((2:Int)=1) by decide)];split <;>omega
  ·simp only[k1,k2,f0s];omega
def Runs.idx {T T1:List El} {A:List Sent} (h:Runs T A T1) {k:Int} (h0:0<=k) (h1:k<=T.length):0<=idx k A/\idx k A<=T1.length:=by
 induction A generalizing T k with
 | nil=>obtain rfl:T=T1:=h;exact⟨h0,h1⟩
 | cons s A ih=>
   have:=ml h.1 h0 h1;exact ih h.2 this.1 (by rw[f4k h.1];exact this.2)
def unseen (o:Int) (Q:List Sent):List Sent:=Q.filter λs=> !decide (s.mine<o)
def unseen_append (o:Int) (A B:List Sent):unseen o (A++B)=unseen o A++unseen o B:=List.filter_append ..
def fb3 {o:Int} {A:List Sent} (h: ∀s∈A,o<=s.mine):unseen o A=A:=by
 unfold unseen;rw[List.filter_eq_self];intro s hs;have:=h s hs;simp only[f2y,f1u];omega
def fln {o:Int} {A:List Sent} (h: ∀s∈A,s.mine<o):unseen o A=[]:=by
 unfold unseen;rw[List.filter_eq_nil_iff];intro s hs;have:=h s hs;simp only[f2y,f1u];omega
def f6r {o:Int} {A:List Sent} {s:Sent} (h:s∈unseen o A):s∈A:=(List.mem_filter.1 h).1
def f3f {o:Int} {A B R:List Sent} (e:R=A++B) (hA: ∀s∈A,s.mine<o) (hB: ∀s∈B,o<=s.mine):unseen o R=B:=by
 rw[e,unseen_append,fln hA,fb3 hB];rfl
def Carry (L:Int->Prop):List El->List Frm->List Sent->List Sent->Prop
 | _,[],_,P=>P=[]
 | T,f::U,Q,P=> ∃p P',P=p::P'/\(∃X,Runs X (unseen f.other Q) T/\Fits f.chg X.length/\0<=f.cur/\f.cur<=(apply f.chg X).length)/\(turn f.chg f.cur (unseen f.other Q)).1=p.chg/\f.mine=p.mine/\(U=[]->L (turn f.chg f.cur (unseen f.other Q)).2.1)/\
    Carry L (apply p.chg T) U (turn f.chg f.cur (unseen f.other Q)).2.2 P'
variable {L L':Int->Prop}
def fhd {a:Chg} {k o:Int} {A:List Sent} (h: ∀s∈A,s.mine<o): ∀s∈(turn a k A).2.2,s.mine<o:=by
 intro s hs;have:s.mine∈(turn a k A).2.2.map (·.mine):=f4f hs;rw[aj] at this;obtain⟨s',j,e⟩:=f3p.1 this;rw[<- e];exact h s' j
def fn7 {a:Chg} {k:Int} {A:List Sent} {Pr:Int->Prop} (h: ∀s∈A,Pr s.chg.cl): ∀s∈(turn a k A).2.2,Pr s.chg.cl:=by
 intro s hs;have:s.chg.cl∈(turn a k A).2.2.map (·.chg.cl):=f4f hs;rw[fur] at this;obtain⟨s',j,e⟩:=f3p.1 this;rw[<- e];exact h s' j
def Carry.length {T:List El} {U:List Frm} {Q P:List Sent} (h:Carry L T U Q P):U.length=P.length:=by
 induction U generalizing T Q P with
 | nil=>obtain rfl:P=[]:=h;rfl
 | cons f U ih=>
   obtain⟨p,P',rfl,_,_,_,_,h⟩:=h;simp[ih h]
def Carry.snoc {T Tc:List El} {U:List Frm} {Q P:List Sent} {f:Frm} {p:Sent} (h:Carry L T U Q P) (hr:Runs T P Tc) (hQ: ∀s∈Q,s.mine<f.other) (hc:f.chg=p.chg) (hm:f.mine=p.mine) (hf:Fits f.chg Tc.length) (h0:0<=f.cur) (h1:f.cur<=(apply f.chg Tc).length) (hL:L' f.cur):
    Carry L' T (U++[f]) Q (P++[p]):=by
 induction U generalizing T Q P with
 | nil=>
   obtain rfl:P=[]:=h;obtain rfl:T=Tc:=hr;refine⟨p,[],rfl,?_⟩;rw[fln hQ];exact⟨⟨T,rfl,hf,h0,h1⟩,hc,hm,λ_=>hL,rfl⟩
 | cons g U ih=>
   obtain⟨q,P',rfl,hx,j,h2,_,h⟩:=h;refine⟨q,P'++[p],rfl,hx,j,h2,λe=>?_,ih h hr.2 (fhd λs hs=>hQ s (f6r hs))⟩;simp at e
def Carry.past {T Tc:List El} {U:List Frm} {Q P:List Sent} {p:Sent} (k:Int) (h:Carry L T U Q P) (hr:Runs T P Tc) (hp:Fits p.chg T.length) (hP: ∀s∈P,s.chg.cl≠p.chg.cl) (hU: ∀f∈U,f.other<=p.mine) (hL: ∀x,L x->L' (index (turn p.chg k P).1 x)):
    Carry L' (apply p.chg T) U (Q++[p]) (turn p.chg k P).2.2:=by
 induction U generalizing T Q P p k with
 | nil=>obtain rfl:P=[]:=h;rfl
 | cons f U ih=>
   obtain⟨q,P',rfl,⟨X,hX,hf,h0,h1⟩,hq,hm,hl,h⟩:=h;have hu:unseen f.other (Q++[p])=unseen f.other Q++[p]:=by
    rw[unseen_append,fb3 (A:=[p]) (λs hs=>by simp only[fy3,fz8,f0z] at hs;subst hs;exact hU f fz5)]
   have j:=hP q fz5;refine⟨⟨Plain.past q.chg p.chg,q.mine⟩,(turn (Plain.past p.chg q.chg) (index (Plain.past q.chg p.chg) k) P').2.2,rfl,⟨X,?_,hf,h0,h1⟩,?_,hm,λe=>?_,?_⟩
   ·rw[hu];exact hX.snoc hp
   ·rw[hu,turn_append,hq];rfl
   ·rw[hu,turn_append,hq];subst e;obtain rfl:P'=[]:=h;exact hL _ (hl rfl)
   ·rw[hu,turn_append,hq,fw8 hp hr.1 (f3w j)];exact ih (p:=⟨Plain.past p.chg q.chg,p.mine⟩) _ h hr.2 (by rw[f4k hr.1];exact lq hp hr.1) (λs hs=>by rw[past_cl];exact hP s (f0c _ hs)) (λf hf=>hU f (f0c _ hf)) hL
structure Base (cl:Int) (Tc Ts T:List El) (Pc Ps:List Sent):Prop where
 rc:Runs T Pc Tc
 rs:Runs T Ps Ts
 lc: ∀s∈Pc,s.chg.cl=cl
 ls: ∀s∈Ps,s.chg.cl≠cl
structure Pair (Z:List El->List Sent->List Sent->Prop) (cl:Int) (Tc Ts:List El) (kc ks:Int) (ec es:EndS) (U D:List Frm):Prop where
 ex: ∃(T:List El) (Qc Pc Qs Ps:List Sent),Z T Pc Ps/\ec.row=Qc++Pc/\es.row=Qs++Ps/\Runs T Pc Tc/\Runs T Ps Ts/\
  Carry (λx=>x=kc) T U Qs Pc/\Carry (λ_=>True) T D Qc Ps/\
  (∀s∈Qc,s.mine<es.other)/\(∀s∈Pc,es.other<=s.mine/\s.mine<ec.mine)/\(∀s∈Qs,s.mine<ec.other)/\(∀s∈Ps,ec.other<=s.mine/\s.mine<es.mine)/\
  (∀s∈Qc++Pc,s.chg.cl=cl)/\(∀s∈Qs++Ps,s.chg.cl≠cl)/\(U=[]->idx kc Ps=ks)/\
  (∀(i:Nat) s,Pc[i]? =some s->s.mine=es.other+i)/\(∀(i:Nat) s,Ps[i]? =some s->s.mine=ec.other+i)
 up:es.other+U.length=ec.mine
 down:ec.other+D.length=es.mine
 uo: ∀f∈U,f.other<=ec.other
 dO: ∀f∈D,f.other<=es.other
 kc0:0<=kc
 kc1:kc<=Tc.length
def send (e:EndS) (a:Chg):EndS:=⟨e.mine+1,e.other,e.acked,e.row++[⟨a,e.mine⟩]⟩
def frame (e:EndS) (a:Chg) (k:Int):Frm:=⟨a,e.mine,e.other,k⟩
def tryF (e:EndS) (f:Frm):Chg×Int×List Sent:=turn f.chg f.cur (unseen f.other e.row)
def take (e:EndS) (f:Frm):EndS:=⟨e.mine,e.other+1,f.other,(tryF e f).2.2⟩
section
variable {Z Z':List El->List Sent->List Sent->Prop} {cl:Int} {Tc Ts:List El} {kc ks:Int} {ec es:EndS} {U D:List Frm}
def Pair.change {a:Chg} {k:Int} (h:Pair Z cl Tc Ts kc ks ec es U D) (hf:Fits a Tc.length) (m:a.cl=cl) (h0:0<=k) (h1:k<=(apply a Tc).length) (hZ: ∀T,Z T (unseen es.other ec.row) (unseen ec.other es.row)->Base cl Tc Ts T (unseen es.other ec.row) (unseen ec.other es.row)->Z' T (unseen es.other ec.row++[⟨a,ec.mine⟩]) (unseen ec.other es.row)):Pair Z' cl (apply a Tc) Ts k ks (send ec a) es (U++[frame ec a k]) D:=by
 obtain⟨⟨T,Qc,Pc,Qs,Ps,hz,e1,e2,r1,r2,c1,c2,m1,m2,m3,m4,l1,l2,ki,n1,n2⟩,up,down,uo,dO,k0,k1⟩:=h;rw[f3f e1 m1 λs hs=>(m2 s hs).1,f3f e2 m3 λs hs=>(m4 s hs).1] at hZ;refine⟨⟨T,Qc,Pc++[⟨a,ec.mine⟩],Qs,Ps,hZ T hz ⟨r1,r2,λs hs=>l1 s (f4w _ hs),λs hs=>l2 s (f4w _ hs)⟩,?_,e2,r1.snoc hf,r2,?_,c2,m1,?_,m3,m4,?_,l2,λe=>by simp at e,?_,n2⟩,?_,down,?_,dO,h0,h1⟩
 ·show ec.row++_=_;rw[e1,f0k]
 ·exact c1.snoc r1 m3 rfl rfl hf h0 h1 rfl
 ·intro s hs;rcases fz0.1 hs with hs|hs
  ·have:=m2 s hs;exact⟨this.1,by show s.mine<ec.mine+1;omega⟩
  ·simp only[fy3,fz8,f0z] at hs;subst hs;exact⟨by show es.other<=ec.mine;omega,by show ec.mine<ec.mine+1;omega⟩
 ·intro s hs;rw[<- f0k] at hs;rcases fz0.1 hs with hs|hs
  ·exact l1 s hs
  ·simp only[fy3,fz8,f0z] at hs;subst hs;exact m
 ·intro i s hs;by_cases hi:i<Pc.length
  ·rw[f1d hi] at hs;exact n1 i s hs
  ·rw[f0y fe] at hs;have hl:=c1.length;by_cases hz:i-Pc.length=0
   ·rw[hz] at hs;simp at hs;subst hs;show ec.mine=es.other+i;omega
   ·rw[f2q ja] at hs;cases hs
 ·show es.other+((U++[frame ec a k]).length:Int)=ec.mine+1;simp only[f0a,fz6,f06];omega
 ·intro f j;rcases fz0.1 j with j|j
  ·exact uo f j
  ·simp only[fy3,fz8,f0z] at j;subst j;exact Int.le_refl _
def Pair.tell {a:Chg} {k:Int} (h:Pair Z cl Tc Ts kc ks ec es U D) (hf:Fits a Ts.length) (m:a.cl≠cl) (h0:0<=k) (h1:k<=(apply a Ts).length) (hZ: ∀T,Z T (unseen es.other ec.row) (unseen ec.other es.row)->Base cl Tc Ts T (unseen es.other ec.row) (unseen ec.other es.row)->Z' T (unseen es.other ec.row) (unseen ec.other es.row++[⟨a,es.mine⟩])):Pair Z' cl Tc (apply a Ts) kc (index a ks) ec (send es a) U (D++[frame es a k]):=by
 obtain⟨⟨T,Qc,Pc,Qs,Ps,hz,e1,e2,r1,r2,c1,c2,m1,m2,m3,m4,l1,l2,ki,n1,n2⟩,up,down,uo,dO,k0,k1⟩:=h;rw[f3f e1 m1 λs hs=>(m2 s hs).1,f3f e2 m3 λs hs=>(m4 s hs).1] at hZ;refine⟨⟨T,Qc,Pc,Qs,Ps++[⟨a,es.mine⟩],hZ T hz ⟨r1,r2,λs hs=>l1 s (f4w _ hs),λs hs=>l2 s (f4w _ hs)⟩,e1,?_,r1,r2.snoc hf,c1,?_,m1,m2,m3,?_,l1,?_,λe=>?_,n1,?_⟩,up,?_,uo,?_,k0,k1⟩
 ·show es.row++_=_;rw[e2,f0k]
 ·exact c2.snoc r2 m1 rfl rfl hf h0 h1 trivial
 ·intro s hs;rcases fz0.1 hs with hs|hs
  ·have:=m4 s hs;exact⟨this.1,by show s.mine<es.mine+1;omega⟩
  ·simp only[fy3,fz8,f0z] at hs;subst hs;exact⟨by show ec.other<=es.mine;omega,by show es.mine<es.mine+1;omega⟩
 ·intro s hs;rw[<- f0k] at hs;rcases fz0.1 hs with hs|hs
  ·exact l2 s hs
  ·simp only[fy3,fz8,f0z] at hs;subst hs;exact m
 ·rw[foj,ki e];rfl
 ·intro i s hs;by_cases hi:i<Ps.length
  ·rw[f1d hi] at hs;exact n2 i s hs
  ·rw[f0y fe] at hs;have hl:=c2.length;by_cases hz:i-Ps.length=0
   ·rw[hz] at hs;simp at hs;subst hs;show es.mine=ec.other+i;omega
   ·rw[f2q ja] at hs;cases hs
 ·show ec.other+((D++[frame es a k]).length:Int)=es.mine+1;simp only[f0a,fz6,f06];omega
 ·intro f j;rcases fz0.1 j with j|j
  ·exact dO f j
  ·simp only[fy3,fz8,f0z] at j;subst j;exact Int.le_refl _
def Pair.serve {f:Frm} (h:Pair Z cl Tc Ts kc ks ec es (f::U) D) (hZ: ∀T p P' k,unseen es.other ec.row=p::P'->Z T (p::P') (unseen ec.other es.row)->Base cl Tc Ts T (p::P') (unseen ec.other es.row)->(tryF es f).1=(turn p.chg k (unseen ec.other es.row)).1->Z' (apply p.chg T) P' (turn p.chg k (unseen ec.other es.row)).2.2):
    Fits (tryF es f).1 Ts.length/\(tryF es f).1.cl=cl/\(0<=(tryF es f).2.1/\(tryF es f).2.1<=(apply (tryF es f).1 Ts).length)/\Pair Z' cl Tc (apply (tryF es f).1 Ts) kc (tryF es f).2.1 ec (take es f) U D:=by
 obtain⟨⟨T,Qc,Pc,Qs,Ps,hz,e1,e2,r1,r2,c1,c2,m1,m2,m3,m4,l1,l2,ki,n1,n2⟩,up,down,uo,dO,k0,k1⟩:=h;obtain⟨p,P',rfl,⟨X,hX,hf,h0,h1⟩,hp,hm,hl,J⟩:=c1;have R:=uo f fz5
 have I:unseen f.other es.row=unseen f.other Qs++Ps:=by
    rw[e2,unseen_append,fb3 (A:=Ps) λs hs=>by have:=m4 s hs;omega]
 have M:p.mine=es.other:=by simpa using n1 0 p rfl
 have m:p.chg.cl=cl:=l1 p fi
 have C: ∀s∈unseen f.other Qs,s.chg.cl≠f.chg.cl:=λs hs e=>by
    have:f.chg.cl=cl:=by rw[<- frz f.chg f.cur (unseen f.other Qs),hp,m]
    exact l2 s (List.mem_append_left _ (f6r hs)) (e.trans this)
 have j: ∀s∈Ps,s.chg.cl≠p.chg.cl:=λs hs=>by rw[m];exact l2 s (f4w _ hs)
 obtain⟨g1,g2⟩:=r2.turn (turn f.chg f.cur (unseen f.other Qs)).2.1 r1.1 j
 have ht:tryF es f=((turn p.chg (turn f.chg f.cur (unseen f.other Qs)).2.1 Ps).1,(turn p.chg (turn f.chg f.cur (unseen f.other Qs)).2.1 Ps).2.1,(turn f.chg f.cur (unseen f.other Qs)).2.2++(turn p.chg (turn f.chg f.cur (unseen f.other Qs)).2.1 Ps).2.2):=by
    unfold tryF;rw[I,turn_append,hp]
 rw[f3f e1 m1 λs hs=>(m2 s hs).1,f3f e2 m3 λs hs=>(m4 s hs).1,ht] at hZ;have O:=hX.turn f.cur hf C;have hk:=O.2.idx h0 h1;rw[<- fhc,hp] at hk;have B:=g2.idx hk.1 hk.2;rw[<- fhc] at B;rw[ht];refine⟨g1,(frz _ _ _).trans m,B,⟨apply p.chg T,Qc++[p],P',(turn f.chg f.cur (unseen f.other Qs)).2.2,_,hZ T p P' _ rfl hz ⟨r1,r2,λs hs=>l1 s (f4w _ hs),λs hs=>l2 s (f4w _ hs)⟩ rfl,?_,?_,r1.2,g2,?_,c2.past _ r2 r1.1 j (λg hg=>by rw[M];exact dO g hg) (λ_ _=>trivial),?_,?_,?_,?_,?_,?_,λe=>?_,?_,?_⟩,?_,down,?_,?_,k0,k1⟩
 ·rw[f0k];exact e1
 ·show(tryF es f).2.2=_;rw[ht]
 ·exact J
 ·intro s hs;rcases fz0.1 hs with hs|hs
  ·have:=m1 s hs;show s.mine<es.other+1;omega
  ·simp only[fy3,fz8,f0z] at hs;subst hs;show s.mine<es.other+1;omega
 ·intro s hs;obtain⟨i,hi⟩:=List.mem_iff_getElem?.1 hs;have:=n1 (i+1) s (by simpa using hi);have h2:=m2 s (f0c _ hs);exact⟨by show es.other+1<=s.mine;omega,h2.2⟩
 ·exact fhd λs hs=>m3 s (f6r hs)
 ·intro s hs;have:s.mine∈(Plain.turn p.chg (Plain.turn f.chg f.cur (unseen f.other Qs)).2.1 Ps).2.2.map (·.mine):=f4f hs;rw[aj] at this;obtain⟨s',q,e⟩:=f3p.1 this;rw[<- e];exact m4 s' q
 ·intro s hs;exact l1 s (by rw[f0k] at hs;exact hs)
 ·intro s hs;rcases fz0.1 hs with hs|hs
  ·exact fn7 (Pr:=(· ≠cl)) (λs hs=>l2 s (List.mem_append_left _ (f6r hs))) s hs
  ·exact fn7 (Pr:=(· ≠cl)) (λs hs=>l2 s (f4w _ hs)) s hs
 ·rw[<- hl e,<- fhc]
 ·intro i s hs;have:=n1 (i+1) s (by simpa using hs);show s.mine=es.other+1+i;omega
 ·intro i s hs;have h2:((Plain.turn p.chg (Plain.turn f.chg f.cur (unseen f.other Qs)).2.1 Ps).2.2.map (·.mine))[i]? =some s.mine:=by rw[f1s,hs];rfl
  rw[aj,f1s] at h2;obtain⟨s',q,e⟩:=fy8.1 h2;rw[<- e];exact n2 i s' q
 ·show es.other+1+(U.length:Int)=ec.mine;simp only[fz6] at up;omega
 ·exact λg hg=>uo g (f0c _ hg)
 ·intro g hg;have:=dO g hg;show g.other<=es.other+1;omega
def Pair.get {g:Frm} (h:Pair Z cl Tc Ts kc ks ec es U (g::D)) (hZ: ∀T p P' k,unseen ec.other es.row=p::P'->Z T (unseen es.other ec.row) (p::P')->Base cl Tc Ts T (unseen es.other ec.row) (p::P')->(tryF ec g).1=(turn p.chg k (unseen es.other ec.row)).1->Z' (apply p.chg T) (turn p.chg k (unseen es.other ec.row)).2.2 P'):
    Fits (tryF ec g).1 Tc.length/\Pair Z' cl (apply (tryF ec g).1 Tc) Ts (index (tryF ec g).1 kc) ks (take ec g) es U D:=by
 obtain⟨⟨T,Qc,Pc,Qs,Ps,hz,e1,e2,r1,r2,c1,c2,m1,m2,m3,m4,l1,l2,ki,n1,n2⟩,up,down,uo,dO,k0,k1⟩:=h;obtain⟨p,P',rfl,⟨X,hX,hf,h0,h1⟩,hp,hm,_,I⟩:=c2;have M:=dO g fz5
 have q:unseen g.other ec.row=unseen g.other Qc++Pc:=by
    rw[e1,unseen_append,fb3 (A:=Pc) λs hs=>by have:=m2 s hs;omega]
 have C:p.mine=ec.other:=by simpa using n2 0 p rfl
 have B:p.chg.cl≠cl:=l2 p fi
 have j: ∀s∈Pc,s.chg.cl≠p.chg.cl:=λs hs e=>by
    rw[l1 s (f4w _ hs)] at e;exact B e.symm
 obtain⟨g1,g2⟩:=r1.turn (turn g.chg g.cur (unseen g.other Qc)).2.1 r2.1 j
 have ht:tryF ec g=((turn p.chg (turn g.chg g.cur (unseen g.other Qc)).2.1 Pc).1,(turn p.chg (turn g.chg g.cur (unseen g.other Qc)).2.1 Pc).2.1,(turn g.chg g.cur (unseen g.other Qc)).2.2++(turn p.chg (turn g.chg g.cur (unseen g.other Qc)).2.1 Pc).2.2):=by
    unfold tryF;rw[q,turn_append,hp]
 have hk:=ml g1 k0 k1;rw[f3f e1 m1 λs hs=>(m2 s hs).1,f3f e2 m3 λs hs=>(m4 s hs).1,ht] at hZ;rw[ht];refine⟨g1,⟨apply p.chg T,(turn g.chg g.cur (unseen g.other Qc)).2.2,_,Qs++[p],P',hZ T p P' _ rfl hz ⟨r1,r2,λs hs=>l1 s (f4w _ hs),λs hs=>l2 s (f4w _ hs)⟩ rfl,?_,?_,g2,r2.2,c1.past _ r1 r2.1 j (λg hg=>by rw[C];exact uo g hg) (λx hx=>by rw[hx]),?_,?_,?_,?_,?_,?_,?_,λe=>?_,?_,?_⟩,up,?_,?_,?_,hk.1,by rw[f4k g1];exact hk.2⟩
 ·show(tryF ec g).2.2=_;rw[ht]
 ·rw[f0k];exact e2
 ·exact I
 ·exact fhd λs hs=>m1 s (f6r hs)
 ·intro s hs;have:s.mine∈(Plain.turn p.chg (Plain.turn g.chg g.cur (unseen g.other Qc)).2.1 Pc).2.2.map (·.mine):=f4f hs;rw[aj] at this;obtain⟨s',m,e⟩:=f3p.1 this;rw[<- e];exact m2 s' m
 ·intro s hs;rcases fz0.1 hs with hs|hs
  ·have:=m3 s hs;show s.mine<ec.other+1;omega
  ·simp only[fy3,fz8,f0z] at hs;subst hs;show s.mine<ec.other+1;omega
 ·intro s hs;obtain⟨i,hi⟩:=List.mem_iff_getElem?.1 hs;have:=n2 (i+1) s (by simpa using hi);have h2:=m4 s (f0c _ hs);exact⟨by show ec.other+1<=s.mine;omega,h2.2⟩
 ·intro s hs;rcases fz0.1 hs with hs|hs
  ·exact fn7 (Pr:=(· =cl)) (λs hs=>l1 s (List.mem_append_left _ (f6r hs))) s hs
  ·exact fn7 (Pr:=(· =cl)) (λs hs=>l1 s (f4w _ hs)) s hs
 ·intro s hs;exact l2 s (by rw[f0k] at hs;exact hs)
 ·have hz:Pc=[]:=by
   have:=c1.length;rw[e] at this;exact f1a this.symm
  subst hz;exact ki e
 ·intro i s hs;have h2:((Plain.turn p.chg (Plain.turn g.chg g.cur (unseen g.other Qc)).2.1 Pc).2.2.map (·.mine))[i]? =some s.mine:=by rw[f1s,hs];rfl
  rw[aj,f1s] at h2;obtain⟨s',m,e⟩:=fy8.1 h2;rw[<- e];exact n1 i s' m
 ·intro i s hs;have:=n2 (i+1) s (by simpa using hs);show s.mine=ec.other+1+i;omega
 ·show ec.other+1+(D.length:Int)=es.mine;simp only[fz6] at down;omega
 ·intro f J;have:=uo f J;show f.other<=ec.other+1;omega
 ·exact λg hg=>dO g (f0c _ hg)
def Pair.still (h:Pair Z cl Tc Ts kc ks ec es [] []):Tc=Ts/\kc=ks:=by
 obtain⟨⟨T,Qc,Pc,Qs,Ps,hz,e1,e2,r1,r2,c1,c2,m1,m2,m3,m4,l1,l2,ki,n1,n2⟩,up,down,uo,dO,k0,k1⟩:=h;obtain rfl:Pc=[]:=c1;obtain rfl:Ps=[]:=c2;obtain rfl:T=Tc:=r1;obtain rfl:T=Ts:=r2;exact⟨rfl,ki rfl⟩
def Pair.start (h:Z [] [] []):Pair Z cl [] [] 0 0 ⟨0,0,0,[]⟩ ⟨0,0,0,[]⟩ [] []:=by
 refine⟨⟨[],[],[],[],[],h,rfl,rfl,rfl,rfl,rfl,rfl,?_,?_,?_,?_,?_,?_,λ_=>rfl,?_,?_⟩,rfl,rfl,?_,?_,by omega,by simp⟩;all_goals (intros;simp_all)
def Pair.base (h:Pair Z cl Tc Ts kc ks ec es U D): ∃T,Z T (unseen es.other ec.row) (unseen ec.other es.row)/\Base cl Tc Ts T (unseen es.other ec.row) (unseen ec.other es.row):=by
 obtain⟨⟨T,Qc,Pc,Qs,Ps,hz,e1,e2,r1,r2,c1,c2,m1,m2,m3,m4,l1,l2,_⟩,_⟩:=h;rw[f3f e1 m1 λs hs=>(m2 s hs).1,f3f e2 m3 λs hs=>(m4 s hs).1];exact⟨T,hz,r1,r2,λs hs=>l1 s (f4w _ hs),λs hs=>l2 s (f4w _ hs)⟩
end
end Plain
open Go Go.RowKit
abbrev fb4 (s:Plain.Sent):List Value:=[.int .i64 s.chg.kind,.int .i64 s.chg.pos,.int .i32 s.chg.e.r,.int .i64 s.chg.e.c,.int .i64 s.chg.e.n,.int .i64 s.chg.cl,.int .i64 s.mine]
def rowF:List Plain.Sent->List Value
 | []=>[]
 | s::R=>fb4 s++rowF R
def fem (R S:List Plain.Sent):rowF (R++S)=rowF R++rowF S:=by
 induction R with
 | nil=>rfl
 | cons s R ih=>simp only[f0j,rowF,ih,f0k]
def RowV (w:World) (v:Value) (R:List Plain.Sent):Prop:=w.ownsRow 0 209 7 v R.length (rowF R)
abbrev frmV (f:Plain.Frm):Value:=.agg #[.int .i64 f.chg.kind,.int .i64 f.chg.pos,.int .i32 f.chg.e.r,.int .i64 f.chg.e.c,.int .i64 f.chg.e.n,.int .i64 f.chg.cl,.int .i64 f.mine,.int .i64 f.other,.int .i64 f.cur]
structure EndC (cs:Array Value) (o:Nat) (e:Plain.EndS) (rv:Value):Prop where
 mine:cs[o]? =some (.int .i64 e.mine)
 other:cs[o+1]? =some (.int .i64 e.other)
 acked:cs[o+2]? =some (.int .i64 e.acked)
 row:cs[o+3]? =some rv
def Bk.ceN {w:World} {g:Nat} {t:TypeId} {cs:Array Value} (h:Bk w g t cs) (k:Nat) (u:Value): ∀j,j≠k->(w.setCell ⟨g,k,none⟩ u).cell? ⟨g,j,none⟩=cs[j]? :=λj hj=>by
 rw[(h.st u).ce j];simp[fy1,f3w hj]
def fs0:(PV.info? 209).map (λi=>(i.zero,i.size,i.bytes))=some (some (.agg #[.int .i64 0,.int .i64 0,.int .i32 0,.int .i64 0,.int .i64 0,.int .i64 0,.int .i64 0]),7,56):=by kernel_rfl
def und84:PV.underlying 84=some (.slice 209):=by kernel_rfl
def send1 (g o:Nat) (t:TypeId) (cs:Array Value) (rv:Value) (kind pos r c n cl k m A:Int) (R:List Plain.Sent) (w:World) (hB:Bk w g t cs)
    (h0:cs[o]? =some (.int .i64 m)) (h1:cs[o+1]? =some (.int .i64 A)) (h3:cs[o+3]? =some rv) (hR:RowV w rv R) (Y:rv.ownBlock≠some g) (hm:0<=m/\m<=1000000) (hl:R.length<=4000):
    Calls PV 91 #[.pointer (some ⟨g,o,none⟩),.agg #[.int .i64 kind,.int .i64 pos,.int .i32 r,.int .i64 c,.int .i64 n,.int .i64 cl],.int .i64 k] w λx w'=> ∃C,x=.returned (.agg #[.int .i64 kind,.int .i64 pos,.int .i32 r,.int .i64 c,.int .i64 n,.int .i64 cl,.int .i64 m,.int .i64 A,.int .i64 k])/\
     Bk w' g t ((cs.setIfInBounds (o+3) C).setIfInBounds o (.int .i64 (m+1)))/\RowV w' C (R++[⟨⟨kind,pos,⟨r,c,n⟩,cl⟩,m⟩])/\(C.ownBlock=rv.ownBlock\/ ∃b,C.ownBlock=some b/\w.heap.size<=b)/\Ch (λx=>x=g\/rv.ownBlock=some x) w w':=by
 obtain⟨i0,O,U,M,W⟩:=f4i fs0;have hI:=fx6 O;have aa:=fx6 U;have ab:=fx6 M;have ad:=fx6 W;clear O U M W;have X:=fx6 hR;clear hR;have B:=fx6 Y;clear Y;obtain⟨aF,ap⟩:=hB.ceF;obtain⟨an,aG⟩:=bx g;have hlt:=hB.lt;have ak:g<w.heap.size+1:=by omega
 have ah:g<w.heap.size+1+1:=by omega
 have ae:g<w.heap.size+1+1+1:=by omega
 have H2:=fx6 (lr X.out);go_enter PV.func91,Tryz.ntmps91;go_wp2_with fail
 go_region_held3 (λw'=>(∀j,w'.cell? ⟨w.heap.size,j,none⟩=(#[.int .i64 kind,.int .i64 pos,.int .i32 r,.int .i64 c,.int .i64 n,.int .i64 cl]:Array Value)[j]?)/\(∀j,w'.cell? ⟨g,j,none⟩=cs[j]?))
    ((refine⟨Bk.ce (t:=40) ?_,Bk.ce (t:=t) ?_⟩ <;>(repeat' (first|with_reducible assumption|with_reducible exact Bk.nw fi|with_reducible refine Bk.dr ?_|with_reducible refine Bk.al ?_ _|with_reducible refine Bk.bl fq ?_|with_reducible refine Bk.gr fq ?_ ?_|with_reducible refine Bk.fr _ fw ?_)) <;>(first|done|fail)))
    (first
      | fail)
 go_wp2_with fail;refine wp_region_noPanic ?_;refine wp_region_held_drew (S:=(λw'=>(∀j,w'.cell? ⟨w.heap.size,j,none⟩=(#[.int .i64 kind,.int .i64 pos,.int .i32 r,.int .i64 c,.int .i64 n,.int .i64 cl]:Array Value)[j]?)/\(∀j,j≠o+3->w'.cell? ⟨g,j,none⟩=cs[j]?))) fd ?_ (λq=>?_);rotate_left;(refine f2w (i:=0) (v:=?_) rfl fd fd fd (λ_ _ _ h=>h) (Or.inl ⟨by rfl,?_⟩) fx4 ?_;rotate_left;(intro w hSw;(try dsimp only at hSw);go_simp;try with_reducible rfl);(try simp only[aps]))
 (refine f2w (i:=1) (v:=?_) rfl fd fd fd (λ_ _ _ h=>h) (Or.inl ⟨by rfl,?_⟩) fx4 ?_;rotate_left;(intro w hSw;(try dsimp only at hSw);go_simp;try with_reducible rfl);(try simp only[aps]))
 (refine f2w (i:=2) (v:=?_) rfl fd fd fd (λ_ _ _ h=>h) (Or.inl ⟨by rfl,?_⟩) fx4 ?_;rotate_left;(intro w hSw;(try dsimp only at hSw);go_simp;try with_reducible rfl);(try simp only[aps]))
 (refine f2w (i:=3) (v:=?_) rfl fd fd fd (λ_ _ _ h=>h) (Or.inl ⟨by rfl,?_⟩) fx4 ?_;rotate_left;(intro w hSw;(try dsimp only at hSw);go_simp;try with_reducible rfl);(try simp only[aps]))
 (refine f2w (i:=5) (v:=?_) rfl fd fd fd (λ_ _ _ h=>h) (Or.inl ⟨by rfl,?_⟩) fx4 ?_;rotate_left;(intro w hSw;(try dsimp only at hSw);go_simp;try with_reducible rfl);(try simp only[aps]))
 (refine f2w (i:=6) (v:=?_) rfl fd fd fd (λ_ _ _ h=>h) (Or.inl ⟨by rfl,?_⟩) fx4 ?_;rotate_left;(intro w hSw;(try dsimp only at hSw);go_simp;try with_reducible rfl);(try simp only[aps]))
 (refine f2w (i:=7) (v:=?_) rfl fd fd fd (λ_ _ _ h=>h) (Or.inl ⟨by rfl,?_⟩) fx4 ?_;rotate_left;(intro w hSw;(try dsimp only at hSw);go_simp;try with_reducible rfl);(try simp only[aps]))
 (refine f2w (i:=8) (v:=?_) rfl fd fd fd (λ_ _ _ h=>h) (Or.inl ⟨by rfl,?_⟩) fx4 ?_;rotate_left;(intro w hSw;(try dsimp only at hSw);go_simp;try with_reducible rfl);(try simp only[aps]))
 (refine f2w (i:=9) (v:=?_) rfl fd fd fd (λ_ _ _ h=>h) (Or.inl ⟨by rfl,?_⟩) fx4 ?_;rotate_left;(intro w hSw;(try dsimp only at hSw);go_simp;try with_reducible rfl);(try simp only[aps]))
 (refine f2w (i:=10) (v:=?_) rfl fd fd fd (λ_ _ _ h=>h) (Or.inl ⟨by rfl,?_⟩) fx4 ?_;rotate_left;(intro w hSw;(try dsimp only at hSw);go_simp;try with_reducible rfl);(try simp only[aps]));refine wpAnyH_ready (rs:=[4,11]) fd fi ?_;refine f5b rfl (λK hK=>?_) (f5b rfl (λK hK=>?_) AllReadyH.nil);go_simp;refine hK.out _ _ ?_ (λq=>?_);rotate_left;clear hK K;(try simp only[aps]);refine wpAnyH_ready (rs:=[11]) fd fi ?_;refine f5b rfl (λK hK=>?_) AllReadyH.nil;rotate_left;go_simp;refine hK.out _ _ ?_ (λq=>?_);rotate_left;clear hK K;(try simp only[aps]);refine wpAnyH_ready (rs:=[4]) fd fi ?_;refine f5b rfl (λK hK=>?_) AllReadyH.nil
 iterate 2
    go_simp;refine hK.out _ _ ?_ (λq=>?_);rotate_left;clear hK K;(try simp only[aps]);refine wpAnyH_ready (rs:=[12]) fd fi ?_;refine f5b rfl (λK hK=>?_) AllReadyH.nil
    (first
      | (refine step_append_lies _ rfl (.tmp 23) (.tmp 30) _ rfl 0 209 i0 _ 7 56 und84 hI.out aa.out ab.out ad.out rfl fe rv R.length (rowF R) rfl
           (qx (K:=λ_=>False) (Ch.ba fg) X.out (λ_ _ h=>h)) ⟨_,0,none⟩ 1 1 (fb4 ⟨⟨kind,pos,⟨r,c,n⟩,cl⟩,m⟩) rfl rfl (f2m (cs:=(fb4 ⟨⟨kind,pos,⟨r,c,n⟩,cl⟩,m⟩).toArray) (t:=209) (fr:=(0,0)) (Bk.nw fi).at_) p9 fe jq fe fi (w.heap.size+1+1+1+1) fi ?_
         intro gg cap w1 J D I _;have k1:=Bk.gr (g:=g) (t:=t) (cs:=cs) D (λe=>B.out e.symm) fy;obtain⟨aA,aD⟩:=k1.ceF;have k2:=Bk.gr (g:=w.heap.size+1+1) (t:=110) (cs:=#[.int .i64 kind,.int .i64 pos,.int .i32 r,.int .i64 c,.int .i64 n,.int .i64 cl,.int .i64 m,.int .i64 A,.int .i64 k]) D (λe=>absurd (H2.out _ e.symm) fe) fy;obtain⟨aC,aE⟩:=k2.ceF;have k3:=Bk.gr (g:=w.heap.size+1) (t:=110) (cs:=#[.int .i64 0,.int .i64 0,.int .i32 0,.int .i64 0,.int .i64 0,.int .i64 0,.int .i64 0,.int .i64 0,.int .i64 0]) D (λe=>absurd (H2.out _ e.symm) fe) fy;obtain⟨ac,aB⟩:=k3.ceF;have C1:=fx6 (Ch.gr (K:=λx=>x=g\/rv.ownBlock=some x) (Ch.ba (w:=w) fg) D (λk hk=>.inl (.inr hk)))))
    refine hK.out _ _ ?_ (λq=>?_);rotate_left;clear hK K;(try simp only[aps]);(refine f2w (i:=13) (v:=?_) rfl fd fd fd (λ_ _ _ h=>h) (Or.inl ⟨by rfl,?_⟩) fx4 ?_;rotate_left;(intro w hSw;(try dsimp only at hSw);go_simp;try with_reducible rfl);(try simp only[aps]))
    (refine f2w (i:=14) (v:=?_) rfl fd fd fd (λ_ _ _ h=>h) (Or.inl ⟨by rfl,?_⟩) fx4 ?_;rotate_left;(intro w hSw;(try dsimp only at hSw);go_simp;try with_reducible rfl);(try simp only[aps]));refine wpAnyH_ready (rs:=[15]) fd fi ?_;refine f5b rfl (λK hK=>?_) AllReadyH.nil;go_simp;refine hK.out _ _ ?_ (λq=>?_);rotate_left;clear hK K;(try simp only[aps]);refine wpAnyH_done fd ?_ _;rotate_left 3
 all_goals first
    | (first
      | (refine⟨Bk.ce (t:=40) ?_,λj _=>Bk.ce (g:=g) (t:=t) (cs:=cs) ?_ j⟩ <;>(repeat' (first|with_reducible assumption|with_reducible exact Bk.nw fi|with_reducible refine Bk.dr ?_|with_reducible refine Bk.al ?_ _|with_reducible refine Bk.bl fq ?_|with_reducible refine Bk.gr fq ?_ ?_|with_reducible refine Bk.fr _ fw ?_)) <;>(first|done|(first|exact λe=>B.out e.symm|exact λe=>absurd (H2.out _ e.symm) fe)))
      | (refine⟨Bk.ce (t:=40) ?_,λj hj=>Bk.ceN (g:=g) (t:=t) (cs:=cs) ?_ _ _ j hj⟩ <;>(repeat' (first|with_reducible assumption|with_reducible exact Bk.nw fi|with_reducible refine Bk.dr ?_|with_reducible refine Bk.al ?_ _|with_reducible refine Bk.bl fq ?_|with_reducible refine Bk.gr fq ?_ ?_|with_reducible refine Bk.fr _ fw ?_)) <;>(first|done|(first|exact λe=>B.out e.symm|exact λe=>absurd (H2.out _ e.symm) fe))))
    | refine NoPanic.normal ?_
 all_goals
    go_wp2_with fail;refine f0q (v:=.agg #[.int .i64 kind,.int .i64 pos,.int .i32 r,.int .i64 c,.int .i64 n,.int .i64 cl,.int .i64 m,.int .i64 A,.int .i64 k]) (by simp[results,Tryz.results91,go_sem,ac]) rfl ⟨.slice (some ⟨gg,0,none⟩) (R.length+1) cap,rfl,?_,?_,?_,?_⟩
    ·repeat' (first|with_reducible exact Bk.st _ (Bk.st _ k1)|with_reducible refine Bk.fr _ fw ?_)
    ·have hD: ∀x,Ending.returned (.slice (some ⟨gg,0,none⟩) (R.length+1) cap)=.returned x-> ∀b,x.ownBlock=some b-> ¬(b=g\/b=w.heap.size+1):=by
      rintro x hx b hb (rfl|rfl) <;>cases hx <;>obtain rfl:gg=_:=by simpa[Value.ownBlock] using hb
      ·rcases I with h|h
       ·exact B.out h
       ·omega
      ·rcases I with h|h
       ·have:=H2.out _ h;omega
       ·omega
     unfold RowV;rw[f0a,fem];refine qx (K:=λx=>x=g\/x=w.heap.size+1) ?_ J (hD _ rfl);repeat' (first|with_reducible exact Ch.rf _ _|with_reducible refine Ch.st ?_ fi _)
    ·rcases I with h|h
     ·exact .inl h.symm
     ·exact .inr ⟨gg,rfl,by omega⟩
    ·repeat' (first|with_reducible exact C1.out|with_reducible refine Ch.st ?_ jb _)
end Go.Proofs.YtelecjnabeokeaaGreatDoor
namespace Go.Proofs.YtelecjnabeokeaaGreatDoor
open Go
section
variable {P:Program} {ops:Array Oper} {Q:Exit->Act->World->Prop} {S:Nat->World->Prop}
def vj (ops:Array Oper) (j:Nat):List Nat:=
 match ops[j]? with
 | some o=>(o.after.toList.filter λe=>Region.binds .any e).map (·.on)
 | none=>[]
def addU (xs:List Nat):List Nat->List Nat
 | []=>xs
 | y::ys=>if xs.contains y then addU xs ys else addU (y::xs) ys
def fhe {x:Nat}: ∀{ys xs:List Nat},x∈addU xs ys->x∈xs\/x∈ys
 | [],_,h=>.inl h
 | y ::ys,xs,h=>by
   unfold addU at h;split at h
   ·exact(fhe h).imp id (f0c _)
   ·rcases fhe h with h|h
    ·rcases fy3.1 h with rfl|h
     ·exact .inr fz5
     ·exact .inl h
    ·exact .inr (f0c _ h)
def ancL (ops:Array Oper):Nat->List (List Nat)
 | 0=>[]
 | n+1=>let T:=ancL ops n
   T++[(vj ops n).foldl (λj p=>addU j (p::T.getD p [])) []]
def i9 (n:Nat):(ancL ops n).length=n:=by
 induction n with
 | zero=>rfl
 | succ n ih=>simp[ancL,ih]
def fus {T:List (List Nat)} {x:Nat} (ps:List Nat): ∀j:List Nat,x∈ps.foldl (λj p=>addU j (p::T.getD p [])) j->x∈j\/ ∃p∈ps,x=p\/x∈T.getD p []:=by
 induction ps with
 | nil=>intro j h;exact .inl h
 | cons p ps ih=>
   intro j h;rcases ih _ h with h|⟨q,hq,h⟩
   ·rcases fhe h with h|h
    ·exact .inl h
    ·exact .inr ⟨p,fz5,fy3.1 h⟩
   ·exact .inr ⟨q,f0c _ hq,h⟩
def fjx {n m j:Nat} (h:j<n) (h':n<=m):(ancL ops m).getD j []=(ancL ops n).getD j []:=by
 induction m with
 | zero=>omega
 | succ m ih=>
   by_cases e:n=m+1
   ·subst e;rfl
   ·rw[<- ih fe];simp only[ancL,f2n];rw[f1d (by rw[i9];omega)]
def fut {n j i:Nat} (hj:j<n) (h:i∈(ancL ops n).getD j []): ∃p∈vj ops j,i=p\/i∈(ancL ops j).getD p []:=by
 rw[fjx (n:=j+1) fe fe] at h;simp only[ancL,f2n] at h;rw[f0y (by rw[i9];omega),i9,Nat.sub_self] at h;simp only[fx7,Option.getD_some] at h;rcases fus _ _ h with h|h
 ·cases h
 ·simpa[f2n] using h
def fs1 (ops:Array Oper) (listed:Array Bool):Prop:= ∀j,listed.getD j false=true-> ∀p∈vj ops j,listed.getD p false=true
def fb5 {listed:Array Bool} (hc:fs1 ops listed): ∀(j i:Nat),(∀p∈vj ops j,listed.getD p false=true)->i∈(ancL ops (j+1)).getD j []->listed.getD i false=true:=by
 intro j
 induction j using Nat.strongRecOn with
 | _ j ih=>
   intro i hp h;obtain⟨p,m,h⟩:=fut fe h;rcases h with rfl|h
   ·exact hp _ m
   ·have q:p<j:=by
      rcases f01 p j with h'|h'
      ·exact h'
      ·rw[f2n,f2q (by rw[i9];exact h')] at h;cases h
    refine ih p q i (hc p (hp _ m)) ?_;rwa[fjx (n:=p+1) fe fe] at h
def fen {j:Nat} {o:Oper} (ho:ops[j]? =some o) {p:Nat}:p∈vj ops j↔ ∃e∈o.after,Region.binds .any e=true/\e.on=p:=by
 unfold vj;simp only[ho,f3p,List.mem_filter,Array.mem_toList_iff];constructor
 ·rintro⟨e,⟨h1,h2⟩,h3⟩;exact⟨e,h1,h2,h3⟩
 ·rintro⟨e,h1,h2,h3⟩;exact⟨e,⟨h1,h2⟩,h3⟩
def ready_iff {j:Nat} {listed:Array Bool}:j∈Region.ready .any ops listed↔listed.getD j true=false/\j<ops.size/\ ∀p∈vj ops j,listed.getD p false=true:=by
 rw[mem_ready];constructor
 ·rintro⟨h1,o,ho,h2⟩;refine⟨h1,(fx5.1 ho).1,λp hp=>?_⟩;obtain⟨e,he,hb,rfl⟩:=(fen ho).1 hp;exact h2 e he hb
 ·rintro⟨h1,h2,h3⟩;refine⟨h1,ops[j],fz1 h2,λe he hb=>h3 _ ((fen (fz1 h2)).2 ⟨e,he,hb,rfl⟩)⟩
def z6 (P:Program) (ops:Array Oper) (Q:Exit->Act->World->Prop) (S:Nat->World->Prop) (cls:Nat->Option Nat) (C:Nat->List Nat) (Z:Act->World->Prop):List Nat->Act->World->Prop
 | [],a,w=>Z a w
 | i::rest,a,w=>
   match cls i with
   | some c=> ∃o v,ops[i]? =some o/\YieldsIf P ops (S c) o v a/\z6 P ops Q S cls C Z rest (a.put o.dst v) w
   | none=>wpOp P ops Q i (λa' w'=>(∀c∈C i,S c w')/\z6 P ops Q S cls C Z rest a' w') a w
def xi (ops:Array Oper) (cls:Nat->Option Nat) (C:Nat->List Nat) (i j:Nat):Bool:=
 (((ancL ops (j+1)).getD j []).contains i||
   (match cls i with
    | some c=>((cls j).isSome||(C j).contains c)&&(match ops[i]?,ops[j]? with|some x,some y=>x.apart ops y|_,_=>false)
    | none=>false))&&
 (match cls i,cls j with|none,some c=>(C i).contains c|_,_=>true)&& !(vj ops i).contains j
def fbt (f:Nat->Nat->Bool):List Nat->Bool
 | []=>true
 | i::rest=>rest.all (f i)&&fbt f rest
def am {f:Nat->Nat->Bool} {l:List Nat} (h:fbt f l=true):l.Pairwise λi j=>f i j=true:=by
 induction l with
 | nil=>exact .nil
 | cons i l ih=>
   simp only[fbt,f04,f1x] at h;exact .cons h.1 (ih h.2)
def fn8:List Nat->Bool
 | []=>true
 | i::rest=> !rest.contains i&&fn8 rest
def fol {l:List Nat} (h:fn8 l=true):l.Nodup:=by
 induction l with
 | nil=>exact .nil
 | cons i l ih=>
   simp only[fn8,f04,f2y,f5e,f1u] at h;exact List.nodup_cons.2 ⟨h.1,ih h.2⟩
def fom (ops:Array Oper) (π:List Nat):Bool:=
 Region.noSelect ops&&fn8 π&&decide (π.length=ops.size)&&((List.range ops.size).all λi=>π.contains i&&(vj ops i).all λp=>decide (p<ops.size)&&p !=i)&&π.all (λi=>decide (i<ops.size))
structure Rep (ops:Array Oper) (listed:Array Bool) (R:List Nat):Prop where
 closed:fs1 ops listed
 mem: ∀i,listed.getD i true=false↔i∈R
 lt: ∀i∈R,i<ops.size
 all: ∀i,i<ops.size->i∉R->listed.getD i false=true
 nodup:R.Nodup
def feo {listed:Array Bool} {i:Nat} (h:listed.getD i true=false):listed.getD i false=false:=by
 rcases f01 i listed.size with h'|h'
 ·simp[h'] at h ⊢;exact h
 ·simp[f09 h'] at h
def Rep.step {listed:Array Bool} {A B:List Nat} {j:Nat} (h:Rep ops listed (A++j::B)) (hp: ∀p∈vj ops j,listed.getD p false=true):Rep ops (listed.setIfInBounds j true) (A++B):=by
 have hj:listed.getD j true=false:=(h.mem j).2 fi
 have hlt:j<listed.size:=by
    rcases f01 j listed.size with h'|h'
    ·exact h'
    ·simp[f09 h'] at hj
 have hn:=h.nodup;have m:=List.nodup_cons.1 ((List.perm_middle.nodup_iff).1 hn);have I:j∉A++B:=m.1;have C:(listed.setIfInBounds j true).getD j true=true:=by simp[hlt]
 have q:(listed.setIfInBounds j true).getD j false=true:=by simp[hlt]
 refine⟨λk hk p D=>?_,λi=>?_,λi hi=>h.lt i ?_,λi hi J=>?_,m.2⟩
 ·by_cases e:j=k
  ·subst e;exact getD_set_true (hp p D)
  ·rw[getD_set_ne false e] at hk;exact getD_set_true (h.closed k hk p D)
 ·by_cases e:j=i
  ·subst e;rw[C];exact⟨λh=>je,λh=>absurd h I⟩
  ·rw[getD_set_ne true e,h.mem i];simp only[fz0,fy3];constructor
   ·rintro(h|h|h)
    ·exact .inl h
    ·exact absurd h.symm e
    ·exact .inr h
   ·rintro(h|h)
    ·exact .inl h
    ·exact .inr (.inr h)
 ·simp only[fz0,fy3] at hi ⊢;rcases hi with h|h
  ·exact .inl h
  ·exact .inr (.inr h)
 ·by_cases e:j=i
  ·subst e;exact q
  ·rw[getD_set_ne false e];refine h.all i hi λh'=>J ?_;simp only[fz0,fy3] at h' ⊢;rcases h' with h|h|h
   ·exact .inl h
   ·exact absurd h.symm e
   ·exact .inr h
variable {cls:Nat->Option Nat} {C:Nat->List Nat} {Z:Act->World->Prop}
def z7 {i c:Nat} {rest:List Nat} {a:Act} {w:World} (hi:cls i=some c):z6 P ops Q S cls C Z (i::rest) a w↔ ∃o v,ops[i]? =some o/\YieldsIf P ops (S c) o v a/\z6 P ops Q S cls C Z rest (a.put o.dst v) w:=by
 conv=>lhs;unfold z6
 rw[hi]
def yp {i:Nat} {rest:List Nat} {a:Act} {w:World} (hi:cls i=none):z6 P ops Q S cls C Z (i::rest) a w↔wpOp P ops Q i (λa' w'=>(∀c∈C i,S c w')/\z6 P ops Q S cls C Z rest a' w') a w:=by
 conv=>lhs;unfold z6
 rw[hi]
def mn {listed:Array Bool} {i j:Nat} (m:fs1 ops listed) (B: ∀p∈vj ops j,listed.getD p false=true) (q:listed.getD i true=false) (A:i<ops.size) (D:j<ops.size) (h:xi ops cls C i j=true):
    ∃c,cls i=some c/\((cls j).isSome=true\/c∈C j)/\ops[i].apart ops ops[j]=true:=by
 simp only[xi,f04,f4n] at h;obtain⟨⟨h,_⟩,_⟩:=h;rcases h with h|h
 ·have:=fb5 m j i B f7k;rw[feo q] at this;cases this
 ·cases hc:cls i with
  | none=>rw[hc] at h;cases h
  | some c=>
    rw[hc,fz1 A,fz1 D] at h;simp only[f04,f4n] at h;exact⟨c,rfl,h.1.imp id (by simpa using ·),h.2⟩
def z8 {i j c:Nat} (h:xi ops cls C i j=true) (hi:cls i=none) (hj:cls j=some c):c∈C i:=by
 simp only[xi,f04] at h;have h:=h.1.2;rw[hi,hj] at h;simpa using h
def yq {i j:Nat} (h:xi ops cls C i j=true):j∉vj ops i:=by
 simp only[xi,f04,f2y,f5e,f1u] at h;exact h.2
def zo (q: ∀(j:Nat) (o:Oper) cs b,ops[j]? =some o->o.op≠ .select cs b) (hQ: ∀c (a:Act) d v w,Q (.panic c) (a.put d v) w->Q (.panic c) a w)
    {j:Nat} {oj:Oper} (hj:ops[j]? =some oj) {B:List Nat}: ∀(A:List Nat),(∀i∈A,∃c,cls i=some c/\ ∃oi,ops[i]? =some oi/\oi.apart ops oj=true)-> ∀(a:Act) (w:World),
    z6 P ops Q S cls C Z (A++j::B) a w->z6 P ops Q S cls C Z (j::(A++B)) a w
 | [],_,_,_,h=>h
 | i ::A,hA,a,w,h=>by
   obtain⟨c,hi,oi,I,J⟩:=hA i fz5;obtain⟨h1,h2,h3⟩:=Oper.apart_spec J;obtain⟨m,v,M,hy,h⟩:=(z7 hi).1 h;obtain rfl:m=oi:=fy7 (M.symm.trans I);have h:=zo q hQ hj A (λi hi=>hA i (f0c _ hi)) _ _ h;cases hjH:cls j with
   | some cj=>
     obtain⟨D,u,O,R,h⟩:=(z7 hjH).1 h;obtain rfl:D=oj:=fy7 (O.symm.trans hj);refine(z7 hjH).2 ⟨D,u,hj,?_,?_⟩
     ·exact R.of_same (execOp_put D (λcs b=>q j D cs b hj) a m.dst v h1).symm (wanted_put D a m.dst v h1).symm
     ·refine(z7 hi).2 ⟨m,v,I,hy.of_same (execOp_put m (λcs b=>q i m cs b I) a D.dst u h3) (wanted_put m a D.dst u h3),?_⟩;rw[<- Act.put_comm a v u h2];exact h
   | none=>
     refine(yp hjH).2 ?_;have h:=(yp hjH).1 h;have:=wpOp_putIf hj J (λcs b=>q i m cs b I) (λcs b=>q j oj cs b hj) (λc a w=>hQ c a m.dst v w) hy h;exact f4r (λa' w' ⟨g1,g2,g3⟩=>⟨g2,(z7 hi).2 ⟨m,v,I,g1,g3⟩⟩) this
def co (A R:List Nat): ∀(a:Act) (w:World),z6 P ops Q S cls C Z (A++R) a w↔z6 P ops Q S cls C (z6 P ops Q S cls C Z R) A a w:=by
 induction A with
 | nil=>intro a w;exact Iff.rfl
 | cons i A ih=>
   intro a w;cases hi:cls i with
   | some c=>
     rw[f0j,z7 hi,z7 hi];constructor
     ·rintro⟨o,v,h1,h2,h3⟩;exact⟨o,v,h1,h2,(ih _ _).1 h3⟩
     ·rintro⟨o,v,h1,h2,h3⟩;exact⟨o,v,h1,h2,(ih _ _).2 h3⟩
   | none=>
     rw[f0j,yp hi,yp hi];exact⟨λh=>f4r (λa' w' ⟨g1,g2⟩=>⟨g1,(ih _ _).1 g2⟩) h,λh=>f4r (λa' w' ⟨g1,g2⟩=>⟨g1,(ih _ _).2 g2⟩) h⟩
def ao {Z':Act->World->Prop} (hz: ∀a w,Z a w->Z' a w) (A:List Nat): ∀(a:Act) (w:World),z6 P ops Q S cls C Z A a w->z6 P ops Q S cls C Z' A a w:=by
 induction A with
 | nil=>intro a w h;exact hz a w h
 | cons i A ih=>
   intro a w;cases hi:cls i with
   | some c=>
     rw[z7 hi,z7 hi];rintro⟨o,v,h1,h2,h3⟩;exact⟨o,v,h1,h2,ih _ _ h3⟩
   | none=>
     rw[yp hi,yp hi];exact λh=>f4r (λa' w' ⟨g1,g2⟩=>⟨g1,ih _ _ g2⟩) h
def f2t (q: ∀(j:Nat) (o:Oper) cs b,ops[j]? =some o->o.op≠ .select cs b) (hQ: ∀c (a:Act) d v w,Q (.panic c) (a.put d v) w->Q (.panic c) a w)
    (X: ∀i,i<ops.size-> ∀p∈vj ops i,p<ops.size/\p≠i): ∀(m:Nat) (R:List Nat) (listed:Array Bool) (a:Act) (w:World),R.length=m->Rep ops listed R->
    (R.Pairwise λi j=>xi ops cls C i j=true)->(∀i∈R,∀c,cls i=some c->S c w)->z6 P ops Q S cls C (Q .normal) R a w->wpAny P .any ops Q m listed a w:=by
 intro m
 induction m with
 | zero=>
   intro R listed a w hl hR _ _ h;obtain rfl:=f1a hl;refine⟨?_,h⟩;rw[List.eq_nil_iff_forall_not_mem];intro j hj;exact absurd ((hR.mem j).1 (ready_iff.1 hj).1) fi
 | succ m ih=>
   intro R listed a w hl hR hP hS h;refine⟨λh0=>?_,λj hj=>?_⟩
   ·exfalso;cases R with
    | nil=>simp at hl
    | cons r R=>
      have hr:=hR.lt r fz5;have:r∈Region.ready .any ops listed:=by
       refine ready_iff.2 ⟨(hR.mem r).2 fz5,hr,λp hp=>?_⟩;obtain⟨Y,ab⟩:=X r hr p hp;refine hR.all p Y λhm=>?_;rcases fy3.1 hm with e|hm
       ·exact ab e
       ·exact yq ((f1h.1 hP).1 p hm) hp
      rw[h0] at this;cases this
   ·obtain⟨aa,D,J⟩:=ready_iff.1 hj;obtain⟨A,B,rfl⟩:=List.append_of_mem ((hR.mem j).1 aa);have ac:ops[j]? =some ops[j]:=fz1 D
    have hA: ∀i∈A,∃c,cls i=some c/\((cls j).isSome=true\/c∈C j)/\ ∃oi,ops[i]? =some oi/\oi.apart ops ops[j]=true:=by
       intro i hi;have U:=hR.lt i qg;obtain⟨c,g1,g2,g3⟩:=mn hR.closed J ((hR.mem i).2 qg) U D ((f0m.1 hP).2.2 i hi j fz5);exact⟨c,g1,g2,ops[i],fz1 U,g3⟩
    have h:=zo q hQ ac A (λi hi=>by obtain⟨c,g1,_,g3⟩:=hA i hi;exact⟨c,g1,g3⟩) a w h;have M:(A++B).Pairwise λi j=>xi ops cls C i j=true:=hP.sublist fi;have I:=hR.step J;have W:(A++B).length=m:=by simp at hl ⊢;omega
    cases hjH:cls j with
    | some cj=>
      obtain⟨oj,v,O,hy,h⟩:=(z7 hjH).1 h;exact hy.wpOp O (hS j fi cj hjH) (ih _ _ _ _ W I M (λi hi=>hS i kt) h)
    | none=>
      have h:=(yp hjH).1 h;refine f4r (λa' w' ⟨g1,g2⟩=>ih _ _ _ _ W I M (λi hi c hc=>g1 c ?_) g2) h;rcases fz0.1 hi with hi|hi
      ·obtain⟨c',e,g,_⟩:=hA i hi;obtain rfl:c'=c:=fy7 (e.symm.trans hc);rcases g with g|g
       ·rw[hjH] at g;cases g
       ·exact g
      ·exact z8 ((f1h.1 ((f0m.1 hP).2.1)).1 i hi) hjH hc
def fae {π:List Nat} (hB:fom ops π=true):Rep ops (Array.replicate ops.size false) π/\(∀(j:Nat) (o:Oper) cs b,ops[j]? =some o->o.op≠ .select cs b)/\(∀i,i<ops.size-> ∀p∈vj ops i,p<ops.size/\p≠i)/\π.length=ops.size:=by
 simp only[fom,f04,f1r,f1x,f2s,bne_iff_ne,ne_eq] at hB;obtain⟨⟨⟨⟨q,B⟩,A⟩,m⟩,hlt⟩:=hB
 have h0: ∀i,(Array.replicate ops.size false).getD i true=false↔i<ops.size:=λi=>by
    rcases f01 i ops.size with h|h
    ·simp[h]
    ·simp[Nat.not_lt.2 h]
 have h1: ∀i,(Array.replicate ops.size false).getD i false=false:=λi=>by
    rcases f01 i ops.size with h|h
    ·simp[h]
    ·simp[Nat.not_lt.2 h]
 refine⟨⟨λj hj=>(by rw[h1] at hj;cases hj),λi=>?_,λi hi=>hlt i hi,λi hi hn=>absurd (by simpa using (m i hi).1) hn,fol B⟩,Region.noSelect_spec q,λi hi p hp=>(m i hi).2 p hp,A⟩;rw[h0];exact⟨λhi=>by simpa using (m i hi).1,λhi=>hlt i hi⟩
inductive Kd where
 | h (c:Nat)
 | c (cs:List Nat)
def bi (π:List (Kd×Nat)) (i:Nat):Option Nat:=match π.find? λx=>x.2==i with|some (.h c,_)=>some c|_=>none
def csOf (π:List (Kd×Nat)) (i:Nat):List Nat:=match π.find? λx=>x.2==i with|some (.c cs,_)=>cs|_=>[]
def fuv (P:Program) (Q:Exit->Act->World->Prop) (S:Nat->World->Prop) (Z:Act->World->Prop):List (Kd×Oper)->Act->World->Prop
 | [],a,w=>Z a w
 | (.h c,o)::rest,a,w=> ∃v,(∀w',S c w'->(execOp a.eval o).run P w'=.ok (.value v) w')/\fuv P Q S Z rest (a.put o.dst v) w
 | (.c cs,o)::rest,a,w=>o.wp P a w (λa' w'=>(∀c∈cs,S c w')/\fuv P Q S Z rest a' w') Q
structure ordL (P:Program) (Q:Exit->Act->World->Prop) (S:Nat->World->Prop) (Z:Act->World->Prop) (l:List (Kd×Oper)) (a:Act) (w:World):Prop where
 out:fuv P Q S Z l a w
def vg (ops:Array Oper) (π:List (Kd×Nat)):List (Kd×Oper):=π.filterMap λx=>(ops[x.2]?).map λo=>(x.1,o)
def KdOk (cls:Nat->Option Nat) (C:Nat->List Nat) (x:Kd×Nat):Prop:=match x.1 with | .h c=>cls x.2=some c | .c cs=>cls x.2=none/\C x.2=cs
def cq (hg:(ops.all λo=>o.guard.isNone)=true): ∀(π:List (Kd×Nat)),(∀x∈π,x.2<ops.size/\KdOk cls C x)-> ∀(a:Act) (w:World),fuv P Q S Z (vg ops π) a w->z6 P ops Q S cls C Z (π.map (·.2)) a w
 | [],_,_,_,h=>h
 | (k,i)::π,hp,a,w,h=>by
   obtain⟨hi,hk⟩:=hp _ fz5;have ho:ops[i]? =some ops[i]:=fz1 hi;have m:ops[i].guard=none:=by
    have:=Array.all_eq_true.1 hg i hi;simpa using this
   have ih:=cq hg π (λx hx=>hp x (f0c _ hx));have hL:vg ops ((k,i)::π)=(k,ops[i])::vg ops π:=by simp[vg,ho]
   rw[hL] at h;rw[f3c];cases k with
   | h c=>
     obtain⟨v,h1,h2⟩:=h;exact(z7 hk).2 ⟨_,v,ho,.inl ⟨by simp[Region.wanted,m],h1⟩,ih _ _ h2⟩
   | c cs=>
     obtain⟨q,j⟩:=hk;refine(yp q).2 ?_;unfold wpOp;simp only[ho];rw[f02 (by simp[Region.wanted,m])];exact .inl (Oper.wp_mono (λa' w' ⟨g1,g2⟩=>⟨λc hc=>g1 c (by simp only at j;rw[<- j];exact hc),ih a' w' g2⟩) h)
def foo (ops:Array Oper) (π:List (Kd×Nat)):Bool:=(ops.all λo=>o.guard.isNone)&&π.all λx=>decide (x.2<ops.size)&&(match x.1 with | .h c=>bi π x.2==some c | .c cs=>bi π x.2==none&&csOf π x.2==cs)
def mq {π:List (Kd×Nat)} (h:foo ops π=true):(ops.all λo=>o.guard.isNone)=true/\ ∀x∈π,x.2<ops.size/\KdOk (bi π) (csOf π) x:=by
 simp only[foo,f04] at h;refine⟨h.1,λx hx=>?_⟩;have:=f1x.1 h.2 x hx;rcases x with⟨k,i⟩;cases k with
 | h c=>
   simp only[f04,f1r,f5g] at this;exact this
 | c cs=>
   simp only[f04,f1r,f5g] at this;exact this
def okL (ops:Array Oper) (π:List (Kd×Nat)):Bool:=foo ops π&&fom ops (π.map (·.2))&&fbt (xi ops (bi π) (csOf π)) (π.map (·.2))
def rn {id:Nat} {a:Act} {w:World} (S:Nat->World->Prop) (π:List (Kd×Nat)) (hm:P.follows .mixedOrders=true) (hB:okL ops π=true) (hS: ∀c,S c w.drew)
    (h:ordL P (NoPanic Q) S (NoPanic Q .normal) (vg ops π) a w.drew):(Code.region id ops true).wp P Q a w:=by
 simp only[okL,f04] at hB;obtain⟨⟨hB1,A⟩,B⟩:=hB;obtain⟨h1,h2⟩:=mq hB1;obtain⟨hR,j,q,m⟩:=fae A;exact wp_region_noPanic (wp_region_any hm (f2t j (λc a d v w h=>h.elim) q ops.size _ _ a _ m hR (am B) (λ_ _ c _=>hS c) (cq h1 π h2 _ _ h.out)))
def u6 {o:Oper} {rest:List (Kd×Oper)} {a:Act} {w:World} {c:Nat} {v:Value} (hy: ∀w',S c w'->(execOp a.eval o).run P w'=.ok (.value v) w') (h:ordL P Q S Z rest (a.put o.dst v) w):ordL P Q S Z ((.h c,o)::rest) a w:=⟨⟨v,hy,h.out⟩⟩
def oH {o:Oper} {rest:List (Kd×Oper)} {a:Act} {w:World} {c:Nat} {v:Value} (h:ordL P Q S Z rest (a.put o.dst v) w) (hy: ∀w',S c w'->(execOp a.eval o).run P w'=.ok (.value v) w':=by intro w' hSw;(try (first|(have c1:=Bk.ce hSw;clear hSw)|(change World.cell? _ _=_ at hSw)));go_simp;try with_reducible rfl):ordL P Q S Z ((.h c,o)::rest) a w:=u6 hy h
def rx {o:Oper} {rest:List (Kd×Oper)} {a:Act} {w:World} {cs:List Nat} (h: ∀K:Act->World->Prop,(∀a' w',(∀c∈cs,S c w')->ordL P Q S Z rest a' w'->K a' w')->o.wp P a w K Q):ordL P Q S Z ((.c cs,o)::rest) a w:=⟨h _ λa' w' g1 g2=>⟨g1,g2.out⟩⟩
def ub {a:Act} {w:World} (h:Q .normal a w):ordL P (NoPanic Q) S (NoPanic Q .normal) [] a w:=⟨h⟩
def fjy {Z1 Z2:Act->World->Prop} {a:Act} {w:World} (h1:Z1 a w) (h2:Z2 a w):ordL P Q S (λa w=>Z1 a w/\Z2 a w) [] a w:=⟨⟨h1,h2⟩⟩
def sel (l:List (World->Prop)) (c:Nat) (w:World):Prop:=match l[c]? with|some p=>p w|none=>True
def un {c:Nat} {w:World}:sel [] c w:=trivial
def qy {p:World->Prop} {l:List (World->Prop)} {w:World} (h:p w) (h': ∀c,sel l c w): ∀c,sel (p::l) c w
 | 0=>h
 | c+1=>h' c
def ry {Sw:Nat->Prop}: ∀c∈([]:List Nat),Sw c:=λ_ h=>by cases h
def rh {Sw:Nat->Prop} {d:Nat} {ds:List Nat} (h:Sw d) (h': ∀c∈ds,Sw c): ∀c∈d::ds,Sw c:=λc hc=>by
 rcases fy3.1 hc with rfl|hc
 ·exact h
 ·exact h' c hc
end
open Go.RowKit
def fuw {R:List Plain.Sent} {i:Nat} {s:Plain.Sent} (h:R[i]? =some s) (j:Nat) (hj:j<7):(rowF R)[i*7+j]? =(fb4 s)[j]? :=by
 induction R generalizing i with
 | nil=>simp at h
 | cons r R ih=>
   cases i with
   | zero=>
     obtain rfl:r=s:=by simpa using h
     simp only[rowF,Nat.zero_mul,f1k];rw[f1d pv]
   | succ i=>
     have:=ih (i:=i) f7k;rw[show(i+1)*7+j=7+(i*7+j) from by omega];simp only[rowF];rw[f0y pv];simpa using this
abbrev chgC (a:Plain.Chg):Array Value:=#[.int .i64 a.kind,.int .i64 a.pos,.int .i32 a.e.r,.int .i64 a.e.c,.int .i64 a.e.n,.int .i64 a.cl]
abbrev frmC (f:Plain.Frm):Array Value:=#[.int .i64 f.chg.kind,.int .i64 f.chg.pos,.int .i32 f.chg.e.r,.int .i64 f.chg.e.c,.int .i64 f.chg.e.n,.int .i64 f.chg.cl,.int .i64 f.mine,.int .i64 f.other,.int .i64 f.cur]
def z9 (f:Plain.Frm) (R:List Plain.Sent) (i:Nat):Plain.Chg×Int×List Plain.Sent:=Plain.turn f.chg f.cur (Plain.unseen f.other (R.take i))
def fop (o:Int) (s:Plain.Sent):Plain.unseen o [s]=if s.mine<o then [] else [s]:=by
 unfold Plain.unseen;by_cases h:s.mine<o <;>simp[h]
def foq (f:Plain.Frm) (R:List Plain.Sent):z9 f R 0=(f.chg,f.cur,[]):=rfl
def fg7 {f:Plain.Frm} {R:List Plain.Sent} {i:Nat} {s:Plain.Sent} (h:R[i]? =some s):z9 f R (i+1)=
    if s.mine<f.other then z9 f R i else (Plain.past (z9 f R i).1 s.chg,Plain.index (Plain.past s.chg (z9 f R i).1) (z9 f R i).2.1,(z9 f R i).2.2++[⟨Plain.past s.chg (z9 f R i).1,s.mine⟩]):=by
 unfold z9;obtain⟨hl,rfl⟩:=f1c.1 h;rw[List.take_succ_eq_append_getElem hl,Plain.unseen_append,Plain.turn_append,fop];split
 ·simp[Plain.turn]
 ·simp[Plain.turn]
def fs2 (a b:Plain.Chg) (m:Int) (h1: -m<=a.pos) (h2:a.pos<=m) (hm:0<=m): -(m+1)<=(Plain.past a b).pos/\(Plain.past a b).pos<=m+1:=by
 unfold Plain.past Plain.insPast;repeat' split
 all_goals (simp only[];omega)
def fg8 (a:Plain.Chg) (k m:Int) (h1: -m<=k) (h2:k<=m): -(m+1)<=Plain.index a k/\Plain.index a k<=m+1:=by
 unfold Plain.index;repeat' split
 all_goals omega
structure Near (f:Plain.Frm) (R:List Plain.Sent):Prop where
 pos0: -100000<=f.chg.pos
 pos1:f.chg.pos<=100000
 cur0: -100000<=f.cur
 cur1:f.cur<=100000
 row: ∀s∈R,-100000<=s.chg.pos/\s.chg.pos<=100000
def z1a {f:Plain.Frm} {R:List Plain.Sent} (h:Near f R): ∀i,i<=R.length->(-(100000+(i:Int))<=(z9 f R i).1.pos/\(z9 f R i).1.pos<=100000+i)/\(-(100000+(i:Int))<=(z9 f R i).2.1/\(z9 f R i).2.1<=100000+i)/\(z9 f R i).2.2.length<=i:=by
 intro i
 induction i with
 | zero=>intro _;rw[foq];have:=h.pos0;have:=h.pos1;have:=h.cur0;have:=h.cur1;simp;omega
 | succ i ih=>
   intro hi;obtain⟨⟨h1,h2⟩,⟨h3,h4⟩,h5⟩:=ih fe;rw[fg7 (f0r fe)];split
   ·refine⟨⟨?_,?_⟩,⟨?_,?_⟩,?_⟩ <;>omega
   ·have g1:=fs2 _ (R[i]).chg _ h1 h2 fe;have g2:=fg8 (Plain.past (R[i]).chg (z9 f R i).1) _ _ h3 h4;refine⟨⟨?_,?_⟩,⟨?_,?_⟩,?_⟩
    ·simp only[];omega
    ·simp only[];omega
    ·simp only[];omega
    ·simp only[];omega
    ·simp only[f0a,fz6,f06];omega
def fux {w wr:World} {gr n cap i:Nat} {R:List Plain.Sent} {s:Plain.Sent} (h:RowV w (.slice (some ⟨gr,0,none⟩) n cap) R) (hb:Bl w wr) (hs:R[i]? =some s) (j:Nat) (hj:j<7):wr.cell? ⟨gr,i*7+j,none⟩=(fb4 s)[j]? :=by
 have hlt:=lr h gr rfl;rw[hb.cell (p:=⟨gr,i*7+j,none⟩) hlt];have h1:=fuw hs j hj;have h2:=f3g h (g:=gr) rfl (i*7+j) ((fb4 s)[j]'(by simp only[fb4,fz6,f06];omega)) (by rw[h1];exact f0r _);rw[f2u,f1k] at h2;rw[h2];exact(f0r _).symm
structure TryI (w wr:World) (f:Plain.Frm) (R:List Plain.Sent) (i:Nat) (kv rv:Value):Prop where
 cur:kv=.int .i64 (z9 f R i).2.1
 box:Bk wr (w.heap.size+1+1) 40 (chgC (z9 f R i).1)
 fr:Bk wr w.heap.size 110 (frmC f)
 res:Bk wr (w.heap.size+1) 40 (chgC ⟨0,0,.zero,0⟩)
 row:wr.ownsRow (w.heap.size+1+1+1) 209 7 rv (z9 f R i).2.2.length (rowF (z9 f R i).2.2)
 bl:Bl w wr
def try1 (g o gr cap:Nat) (t:TypeId) (cs:Array Value) (kind pos r c n cl m j cur:Int) (R:List Plain.Sent) (w:World) (hB:Bk w g t cs)
    (h3:cs[o+3]? =some (.slice (some ⟨gr,0,none⟩) R.length cap)) (hR:RowV w (.slice (some ⟨gr,0,none⟩) R.length cap) R) (hl:R.length<=4000) (hN:Near ⟨⟨kind,pos,⟨r,c,n⟩,cl⟩,m,j,cur⟩ R):
    Calls PV 117 #[.pointer (some ⟨g,o,none⟩),.agg #[.int .i64 kind,.int .i64 pos,.int .i32 r,.int .i64 c,.int .i64 n,.int .i64 cl,.int .i64 m,.int .i64 j,.int .i64 cur]] w λx w'=> ∃aQ,x=.returned (.tuple #[chgV (z9 ⟨⟨kind,pos,⟨r,c,n⟩,cl⟩,m,j,cur⟩ R R.length).1,.int .i64 (z9 ⟨⟨kind,pos,⟨r,c,n⟩,cl⟩,m,j,cur⟩ R R.length).2.1,aQ])/\
     w'.ownsRow w.heap.size 209 7 aQ (z9 ⟨⟨kind,pos,⟨r,c,n⟩,cl⟩,m,j,cur⟩ R R.length).2.2.length (rowF (z9 ⟨⟨kind,pos,⟨r,c,n⟩,cl⟩,m,j,cur⟩ R R.length).2.2)/\Bl w w':=by
 have a0:=fx6 hR;clear hR;have aS:=fx6 hN;clear hN;obtain⟨i0,aN,aK,aM,aP⟩:=f4i fs0;have hI:=fx6 aN;have aU:=fx6 aK;have aY:=fx6 aM;have aZ:=fx6 aP;clear aN aK aM aP;obtain⟨bc,a5⟩:=hB.ceF;obtain⟨a3,be⟩:=bx g;have hlt:=hB.lt;have a2:g<w.heap.size+1:=by omega
 have a1:g<w.heap.size+1+1:=by omega
 go_enter PV.func117,Tryz.ntmps117;go_wp2_with fail;refine rn (sel [λw'=>Bk w' w.heap.size 110 #[.int .i64 kind,.int .i64 pos,.int .i32 r,.int .i64 c,.int .i64 n,.int .i64 cl,.int .i64 m,.int .i64 j,.int .i64 cur]]) [(.h 0,0),(.h 0,1),(.h 0,2),(.h 0,3),(.c [0],4),(.c [0],5),(.c [],6)] fd fd (qy ff (λ_=>un)) ?_;simp only[vg,fy9,fz4,fz3,fy2,fx7,fy0];iterate 4 (refine u6 (v:=?_) ?_ ?_;rotate_left;(intro w' hSw;(try (have c1:=Bk.ce hSw));clear hSw;go_simp;try with_reducible rfl);try simp only[aps])
 (refine rx (λK hK=>?_);go_simp;refine hK _ _ (rh ff ry) ?_;clear hK K;try simp only[aps])
 (refine rx (λK hK=>?_);go_simp;refine hK _ _ (rh ff ry) ?_;clear hK K;try simp only[aps])
 (refine rx (λK hK=>?_);go_simp;refine hK _ _ ry ?_;clear hK K;try simp only[aps]);refine ub ?_;go_wp2_with fail
 go_loopw [8,9,21] (λkv rv iv wr=> ∃i:Nat,i<=R.length/\iv=.int .i64 i/\TryI w wr ⟨⟨kind,pos,⟨r,c,n⟩,cl⟩,m,j,cur⟩ R i kv rv) (λ_ _ iv _=>R.length-(intOf iv).toNat)
 case atStart => exact⟨0,f1n _,rfl,⟨rfl,Bk.dr (Bk.nw fi),Bk.dr (Bk.al (Bk.al (Bk.nw rfl) _) _),Bk.dr (Bk.al (Bk.nw fi) _),f0w _ _ _ _,fg⟩⟩
 case round =>
    obtain⟨i,hi,rfl,I⟩:=hrel;obtain⟨rfl,C,aB,U,B,ad⟩:=I;by_cases hlt:i<R.length
    ·obtain ⟨s,hs⟩: ∃s,R[i]? =some s:=⟨_,f0r hlt⟩;have O:=fux a0.out ad hs;have Y:=fx6 (fg7 (f:=⟨⟨kind,pos,⟨r,c,n⟩,cl⟩,m,j,cur⟩) hs);have ah:=z1a aS.out i hi;have aW:=aS.out.row s (f3x hs);clear hs;have hA: ∃A,A=z9 ⟨⟨kind,pos,⟨r,c,n⟩,cl⟩,m,j,cur⟩ R i:=⟨_,rfl⟩;obtain⟨A,hA⟩:=hA;rw[<- hA] at Y ah C B ⊢;replace hA:=fx6 hA;obtain⟨⟨ak,ap,⟨ar,ac,an⟩,M⟩,kk,out⟩:=A;obtain⟨⟨sk,sp,⟨sr,sc,sn⟩,D⟩,sm⟩:=s;obtain⟨⟨n1,n2⟩,⟨n3,n4⟩,n5⟩:=ah;obtain⟨n6,n7⟩:=aW;simp only at n1 n2 n3 n4 n5 n6 n7;have r0:=O 0 fe;have r1:=O 1 fe;have r2:=O 2 fe;have r3:=O 3 fe;have r4:=O 4 fe;have r5:=O 5 fe;have r6:=O 6 fe;clear O;simp only[fb4,fx7,fy0,f5p] at r0 r1 r2 r3 r4 r5 r6;have f1:=aB.ce;have hz:w.heap.size+1+1<wr.heap.size:=C.lt;have aK:w.heap.size<wr.heap.size:=by omega
     obtain⟨a8,a6⟩:=bx w.heap.size;have Ibox':=fx6 C;have aI:=fx6 aB;have ae:=fx6 U;have aa:=fx6 B;have J:=fx6 ad;clear C aB U B ad;by_cases hm:sm<j
     ·go_wp2
      go_roundw
      case rel=>
        refine⟨i+1,by omega,by go_num,?_⟩;have e:=Y.out;rw[f02 hm] at e;refine⟨by rw[e],?_,Bk.al aI.out _,Bk.al ae.out _,?_,Bl.al J.out _⟩
        ·rw[e];exact Bk.al Ibox'.out _
        ·rw[e];exact World.ownsRow.alloc aa.out _
      case measure => simp[intOf];omega
     ·obtain ⟨⟨qk,qp,⟨qr,qc,qn⟩,aO⟩,hq⟩: ∃q,q=Plain.past ⟨ak,ap,⟨ar,ac,an⟩,M⟩ ⟨sk,sp,⟨sr,sc,sn⟩,D⟩:=⟨_,rfl⟩;obtain⟨⟨tk,tp,⟨tr,tc,tn⟩,ab⟩,ht⟩: ∃q,q=Plain.past ⟨sk,sp,⟨sr,sc,sn⟩,D⟩ ⟨ak,ap,⟨ar,ac,an⟩,M⟩:=⟨_,rfl⟩
      have P1:RowKit.Hid (∀W,Calls PV 129 #[.agg #[.int .i64 ak,.int .i64 ap,.int .i32 ar,.int .i64 ac,.int .i64 an,.int .i64 M],.agg #[.int .i64 sk,.int .i64 sp,.int .i32 sr,.int .i64 sc,.int .i64 sn,.int .i64 D]] W λx w'=>x=.returned (.agg #[.int .i64 qk,.int .i64 qp,.int .i32 qr,.int .i64 qc,.int .i64 qn,.int .i64 aO])/\Bl W w'):=
        fx6 (λW=>(fn5 ⟨ak,ap,⟨ar,ac,an⟩,M⟩ ⟨sk,sp,⟨sr,sc,sn⟩,D⟩ W qo qo).mono λx w' h=>⟨h.1.trans (f3q (λq=>Ending.returned (chgV q)) hq.symm),h.2⟩)
      have P2:RowKit.Hid (∀W,Calls PV 129 #[.agg #[.int .i64 sk,.int .i64 sp,.int .i32 sr,.int .i64 sc,.int .i64 sn,.int .i64 D],.agg #[.int .i64 ak,.int .i64 ap,.int .i32 ar,.int .i64 ac,.int .i64 an,.int .i64 M]] W λx w'=>x=.returned (.agg #[.int .i64 tk,.int .i64 tp,.int .i32 tr,.int .i64 tc,.int .i64 tn,.int .i64 ab])/\Bl W w'):=
        fx6 (λW=>(fn5 ⟨sk,sp,⟨sr,sc,sn⟩,D⟩ ⟨ak,ap,⟨ar,ac,an⟩,M⟩ W qo qo).mono λx w' h=>⟨h.1.trans (f3q (λq=>Ending.returned (chgV q)) ht.symm),h.2⟩)
      replace hq:=fx6 hq;replace ht:=fx6 ht;have Hm: ¬sm<j:=hm;go_wp2_with fail;refine rn (sel [λw'=>Bk w' (w.heap.size+1+1) 40 #[.int .i64 ak,.int .i64 ap,.int .i32 ar,.int .i64 ac,.int .i64 an,.int .i64 M],λw'=>Bk w' wr.heap.size 209 #[.int .i64 sk,.int .i64 sp,.int .i32 sr,.int .i64 sc,.int .i64 sn,.int .i64 D,.int .i64 sm]]) [(.h 0,0),(.h 9,1),(.h 1,2),(.h 9,4),(.h 1,5),(.h 0,6),(.c [0,1,9],3),(.c [9],7),(.c [9],8),(.h 9,9),(.c [],10)] fd fd (qy f7i (qy f7i (λ_=>un))) ?_;simp only[vg,fy9,fz4,fz3,fy2,fx7,fy0];iterate 6 (refine u6 (v:=?_) ?_ ?_;rotate_left;(intro w' hSw;(try (have c1:=Bk.ce hSw));clear hSw;go_simp;try with_reducible rfl);try simp only[aps])
      (refine rx (λK hK=>?_);go_simp;go_at_call 129;refine(P1.out _).mono ?_;rintro e w1 ⟨rfl,aD⟩;(try dsimp only);refine hK _ _ (rh f7i (rh f7i (rh trivial ry))) ?_;clear hK K;try simp only[aps])
      (refine rx (λK hK=>?_);go_simp;go_at_call 129;refine(P2.out _).mono ?_;rintro e w2 ⟨rfl,aE⟩;(try dsimp only);have k7:=Bk.bl aE (Bk.bl aD (Bk.dr (Bk.al Ibox'.out (.cells #[.int .i64 sk,.int .i64 sp,.int .i32 sr,.int .i64 sc,.int .i64 sn,.int .i64 D,.int .i64 sm] 209))));have aJ:=Bk.bl aE (Bk.bl aD (Bk.dr (Bk.nw (w:=wr) (t:=209) (cs:=#[.int .i64 sk,.int .i64 sp,.int .i32 sr,.int .i64 sc,.int .i64 sn,.int .i64 D,.int .i64 sm]) rfl)));obtain⟨aX,aV⟩:=k7.ceF;obtain⟨aH,aG⟩:=aJ.ceF;have a4:wr.heap.size+1<=w2.heap.size:=(by have h1:=aD.size;have h2:=aE.size;simp at h1;omega);refine hK _ _ (rh trivial ry) ?_;clear hK K;try simp only[aps])
      (refine rx (λK hK=>?_);go_simp;refine hK _ _ (rh trivial ry) ?_;clear hK K;try simp only[aps])
      (refine u6 (v:=?_) ?_ ?_;rotate_left;(intro w' hSw;(try (have c1:=Bk.ce hSw));clear hSw;go_simp;try with_reducible rfl);try simp only[aps])
      (refine rx (λK hK=>?_);go_simp;refine hK _ _ ry ?_;clear hK K;try simp only[aps]);refine ub ?_;refine vy (F:=λW=>Bk W (w.heap.size+1+1) 40 #[.int .i64 qk,.int .i64 qp,.int .i32 qr,.int .i64 qc,.int .i64 qn,.int .i64 aO]/\Bk W wr.heap.size 209 #[.int .i64 tk,.int .i64 tp,.int .i32 tr,.int .i64 tc,.int .i64 tn,.int .i64 ab,.int .i64 sm]/\Ch (λx=>x=w.heap.size+1+1) wr W) ⟨?_,?_,?_⟩ ?_
      ·repeat' (first|with_reducible exact Bk.st6 k7|with_reducible refine Bk.fr _ fw ?_)
      ·with_reducible refine Bk.st67 (x0:=.int .i64 sk) (x1:=.int .i64 sp) (x2:=.int .i32 sr) (x3:=.int .i64 sc) (x4:=.int .i64 sn) (x5:=.int .i64 D) ?_
       repeat' (first|with_reducible exact aJ|with_reducible refine Bk.fr _ fw ?_)
      ·repeat' (first|with_reducible refine Ch.st ?_ fi _)
       exact((((Ch.rf _ wr).al _).dr).cl aD).cl aE
      clear aX aV aH aG k7 aJ;rintro W ⟨g7,aR,gC⟩;have g0:=Bk.ch gC fe aI.out;have g1:=Bk.ch gC fe ae.out;have aC:=qx gC aa.out (λb hb=>by have:=(aa.out.lt b hb).1;omega);have a9:=gC.size;have gB:Bl w W:=⟨gC.os.trans J.out.os,gC.tape.trans J.out.tape,gC.output.trans J.out.output,f08 J.out.size gC.size,λx hx=>(gC.block x fe fe).trans (J.out.block x hx)⟩;obtain⟨aH,aG⟩:=aR.ceF;replace g7:=fx6 g7;replace g0:=fx6 g0;replace g1:=fx6 g1;replace aC:=fx6 aC;replace gB:=fx6 gB;replace gC:=fx6 gC;have a7:=fg8 ⟨tk,tp,⟨tr,tc,tn⟩,ab⟩ kk _ n3 n4
      go_wp2_with (first
        | (go_at_call 89;refine(bh ⟨tk,tp,⟨tr,tc,tn⟩,ab⟩ kk _ fe fe).mono ?_;rintro e w4 ⟨rfl,X⟩;have aT:=Bk.bl X aR;obtain⟨hc4,bk⟩:=aT.ceF)
        | (at_builtin
           refine wpList_append_own_at _ rfl (.tmp 43) (.tmp 45) _ rfl (w.heap.size+1+1+1) 209 i0 _ 7 56 und84 hI.out aU.out aY.out aZ.out rfl fe u9 out.length (rowF out) rfl
             (World.ownsRow.alloc (qx (K:=λ_=>False) (Ch.ba X) aC.out (λ_ _ h=>h)) _) ⟨w4.heap.size,0,none⟩ 1 1 (fb4 ⟨⟨tk,tp,⟨tr,tc,tn⟩,ab⟩,sm⟩) rfl rfl (f2m (cs:=(fb4 ⟨⟨tk,tp,⟨tr,tc,tn⟩,ab⟩,sm⟩).toArray) (t:=209) (fr:=(0,0)) (Bk.nw rfl).at_) p9 jq fe (by have:=X.size;simp;omega) ?_
           intro v5 w5 aL aF _ _))
      refine⟨⟨i+1,by omega,by go_num,?_⟩,by simp[intOf];omega⟩;have e:=Y.out;rw[fx9 fe] at e;try dsimp only at e
      rw[<- hq.out,<- ht.out] at e;have ho: ∀b,b<w.heap.size+1+1+1->some b≠u9.ownBlock:=λb hb e=>by have:=(aC.out.lt b e.symm).1;omega
      refine⟨by rw[e],?_,Bk.gr aF (ho _ fe) (Bk.al (Bk.bl X g0.out) _),Bk.gr aF (ho _ fe) (Bk.al (Bk.bl X g1.out) _),?_,((gB.out.cl X).al _).gr aF (λb hb=>by have:=(aC.out.lt b hb).1;omega)⟩
      ·rw[e];exact Bk.gr aF (ho _ fe) (Bk.al (Bk.bl X g7.out) _)
      ·rw[e,f0a,fem];exact aL
    ·obtain rfl:i=R.length:=by omega
     have f7:=C.ceF;have f1:=U.ceF;obtain⟨hA,aA⟩: ∃A,A=z9 ⟨⟨kind,pos,⟨r,c,n⟩,cl⟩,m,j,cur⟩ R R.length:=⟨_,rfl⟩;rw[<- aA] at f7 B ⊢;obtain⟨⟨ak,ap,⟨ar,ac,an⟩,M⟩,kk,out⟩:=hA;replace aA:=fx6 aA;obtain⟨c7,d7⟩:=f7;obtain⟨c1,d1⟩:=f1;simp only[chgC] at c7 c1;replace C:=fx6 C;replace aB:=fx6 aB;replace U:=fx6 U;replace B:=fx6 B;replace ad:=fx6 ad;have bb: ¬(w.heap.size+1+1=w.heap.size+1):=by omega
     go_wp2;refine f0q (v:=.tuple #[.agg #[.int .i64 ak,.int .i64 ap,.int .i32 ar,.int .i64 ac,.int .i64 an,.int .i64 M],.int .i64 kk,u9]) (by simp[results,Tryz.results117,go_sem,c1]) rfl ⟨u9,by rw[<- aA.out],?_,?_⟩
     ·rw[<- aA.out];refine mj (qx (K:=λx=>x=w.heap.size+1) ?_ B.out (λb hb=>by have:=(B.out.lt b hb).1;omega)) fe;repeat' (first|with_reducible exact Ch.rf _ _|with_reducible refine Ch.st ?_ fi _)
     ·repeat' (first|with_reducible exact ad.out|with_reducible refine Bl.st ?_ fi _)
def try0 (g o:Nat) (t:TypeId) (cs:Array Value) (kind pos r c n cl m j cur:Int) (w:World) (hB:Bk w g t cs) (h3:cs[o+3]? =some (.slice none 0 0)):
    Calls PV 117 #[.pointer (some ⟨g,o,none⟩),.agg #[.int .i64 kind,.int .i64 pos,.int .i32 r,.int .i64 c,.int .i64 n,.int .i64 cl,.int .i64 m,.int .i64 j,.int .i64 cur]] w λx w'=>x=.returned (.tuple #[.agg #[.int .i64 kind,.int .i64 pos,.int .i32 r,.int .i64 c,.int .i64 n,.int .i64 cl],.int .i64 cur,.slice none 0 0])/\Bl w w':=by
 obtain⟨C,I⟩:=hB.ceF;obtain⟨B,D⟩:=bx g;have hlt:=hB.lt;have A:g<w.heap.size+1:=by omega
 have q:g<w.heap.size+1+1:=by omega
 go_enter PV.func117,Tryz.ntmps117;go_wp2_with fail;refine rn (sel [λw'=>Bk w' w.heap.size 110 #[.int .i64 kind,.int .i64 pos,.int .i32 r,.int .i64 c,.int .i64 n,.int .i64 cl,.int .i64 m,.int .i64 j,.int .i64 cur]]) [(.h 0,0),(.h 0,1),(.h 0,2),(.h 0,3),(.c [0],4),(.c [0],5),(.c [],6)] fd fd (qy ff (λ_=>un)) ?_;simp only[vg,fy9,fz4,fz3,fy2,fx7,fy0];iterate 4 (refine u6 (v:=?_) ?_ ?_;rotate_left;(intro w' hSw;(try (have c1:=Bk.ce hSw));clear hSw;go_simp;try with_reducible rfl);try simp only[aps])
 (refine rx (λK hK=>?_);go_simp;refine hK _ _ (rh ff ry) ?_;clear hK K;try simp only[aps])
 (refine rx (λK hK=>?_);go_simp;refine hK _ _ (rh ff ry) ?_;clear hK K;try simp only[aps])
 (refine rx (λK hK=>?_);go_simp;refine hK _ _ ry ?_;clear hK K;try simp only[aps]);refine ub ?_;go_wp2_with fail;refine wp_loop_rounds 1 ?_;rw[rounds_succ];go_wp2;exact f0q (v:=.tuple #[.agg #[.int .i64 kind,.int .i64 pos,.int .i32 r,.int .i64 c,.int .i64 n,.int .i64 cl],.int .i64 cur,.slice none 0 0]) (by simp[results,Tryz.results117,go_sem]) rfl ⟨rfl,((((Bl.rf _).al _).al _).al _).dr⟩
def tryR (f:Plain.Frm) (R:List Plain.Sent):Plain.Chg×Int×List Plain.Sent:=Plain.turn f.chg f.cur (Plain.unseen f.other R)
def fs3 (f:Plain.Frm) (R:List Plain.Sent):z9 f R R.length=tryR f R:=by unfold z9 tryR;rw[f4a]
def RowV.form {w:World} {v:Value} {R:List Plain.Sent} (h:RowV w v R):(v=.slice none 0 0/\R=[])\/ ∃g cap,v=.slice (some ⟨g,0,none⟩) R.length cap:=by
 rcases h.2 with⟨h1,h2⟩|⟨g,cap,cur,h1,_⟩
 ·exact .inl ⟨h1,f1a h2⟩
 ·exact .inr ⟨g,cap,h1⟩
def try_any (g o:Nat) (t:TypeId) (cs:Array Value) (rv:Value) (f:Plain.Frm) (R:List Plain.Sent) (w:World) (hB:Bk w g t cs) (h3:cs[o+3]? =some rv) (hR:RowV w rv R) (hl:R.length<=4000) (hN:Near f R):
    Calls PV 117 #[.pointer (some ⟨g,o,none⟩),frmV f] w λx w'=> ∃q,x=.returned (.tuple #[chgV (tryR f R).1,.int .i64 (tryR f R).2.1,q])/\w'.ownsRow w.heap.size 209 7 q (tryR f R).2.2.length (rowF (tryR f R).2.2)/\Bl w w':=by
 rcases f with⟨⟨kind,pos,⟨r,c,n⟩,cl⟩,m,j,cur⟩;rw[<- fs3];rcases hR.form with⟨rfl,rfl⟩|⟨gr,cap,rfl⟩
 ·exact(try0 g o t cs kind pos r c n cl m j cur w hB h3).mono λx w' h=>⟨_,h.1,f0w _ _ _ _,h.2⟩
 ·exact try1 g o gr cap t cs kind pos r c n cl m j cur R w hB h3 hR hl hN
def bj {w:World} {base n size:Nat} {e:TypeId} {v:Value} {xs:List Value} (h:w.ownsRow base e size v n xs): ∃A m c,v=.slice A m c:=by
 rcases h.2 with⟨rfl,_⟩|⟨g,cap,cur,rfl,_⟩
 ·exact⟨_,_,_,rfl⟩
 ·exact⟨_,_,_,rfl⟩
def take1 (g o:Nat) (t:TypeId) (cs:Array Value) (rv:Value) (kind pos r c n cl B j cur eo:Int) (R:List Plain.Sent) (w:World) (hB:Bk w g t cs)
    (h1:cs[o+1]? =some (.int .i64 eo)) (h3:cs[o+3]? =some rv) (h2: ∃u,cs[o+2]? =some u) (hR:RowV w rv R) (hl:R.length<=4000) (hN:Near ⟨⟨kind,pos,⟨r,c,n⟩,cl⟩,B,j,cur⟩ R) (he:0<=eo/\eo<=1000000):
    Calls PV 94 #[.pointer (some ⟨g,o,none⟩),.agg #[.int .i64 kind,.int .i64 pos,.int .i32 r,.int .i64 c,.int .i64 n,.int .i64 cl,.int .i64 B,.int .i64 j,.int .i64 cur]] w λx w'=> ∃I,x=.returned (.tuple #[chgV (tryR ⟨⟨kind,pos,⟨r,c,n⟩,cl⟩,B,j,cur⟩ R).1,.int .i64 (tryR ⟨⟨kind,pos,⟨r,c,n⟩,cl⟩,B,j,cur⟩ R).2.1])/\
     Bk w' g t (((cs.setIfInBounds (o+3) I).setIfInBounds (o+2) (.int .i64 j)).setIfInBounds (o+1) (.int .i64 (eo+1)))/\w'.ownsRow w.heap.size 209 7 I (tryR ⟨⟨kind,pos,⟨r,c,n⟩,cl⟩,B,j,cur⟩ R).2.2.length (rowF (tryR ⟨⟨kind,pos,⟨r,c,n⟩,cl⟩,B,j,cur⟩ R).2.2)/\Ch (λx=>x=g) w w':=by
 obtain⟨u2,h2⟩:=h2;have P:=fx6 (λW (hW:Bl w W)=>try_any g o t cs rv ⟨⟨kind,pos,⟨r,c,n⟩,cl⟩,B,j,cur⟩ R W (Bk.bl hW hB) h3 (qx (K:=λ_=>False) (Ch.ba hW) hR (λ_ _ h=>h)) hl hN);clear hR hN;obtain⟨⟨⟨qk,qp,⟨qr,qc,qn⟩,J⟩,qq,out⟩,hq⟩: ∃q,q=tryR ⟨⟨kind,pos,⟨r,c,n⟩,cl⟩,B,j,cur⟩ R:=⟨_,rfl⟩;rw[<- hq] at P ⊢;clear hq;dsimp only at P ⊢;obtain⟨ah,ab⟩:=hB.ceF;have hlt:=hB.lt;go_enter PV.func94,Tryz.ntmps94;go_wp2_with (first|(go_at_call 117;refine(P.out _ fg).mono ?_;rintro e w1 ⟨I,rfl,C,D⟩;obtain⟨A,m,cc,rfl⟩:=bj C;have k0:=Bk.bl D (Bk.al (Bk.nw (w:=w) (t:=110) (cs:=#[.int .i64 kind,.int .i64 pos,.int .i32 r,.int .i64 c,.int .i64 n,.int .i64 cl,.int .i64 B,.int .i64 j,.int .i64 cur]) rfl) _);have k1:=Bk.bl D (Bk.nw (w:=w.alloc (.cells #[.int .i64 kind,.int .i64 pos,.int .i32 r,.int .i64 c,.int .i64 n,.int .i64 cl,.int .i64 B,.int .i64 j,.int .i64 cur] 110)) (t:=40) (n:=w.heap.size+1) (cs:=#[.int .i64 0,.int .i64 0,.int .i32 0,.int .i64 0,.int .i64 0,.int .i64 0]) fi);have kg:=Bk.bl D (Bk.al (Bk.al hB _) _)));obtain⟨M,O⟩:=kg.ceF;obtain⟨ac,X⟩:=bx g;have ad:g<w1.heap.size:=kg.lt;have ak:w.heap.size+1<w1.heap.size:=k1.lt;refine rn (sel [λw'=>Bk w' w.heap.size 110 #[.int .i64 kind,.int .i64 pos,.int .i32 r,.int .i64 c,.int .i64 n,.int .i64 cl,.int .i64 B,.int .i64 j,.int .i64 cur]]) [(.h 9,0),(.h 9,1),(.h 9,2),(.h 9,3),(.h 0,4),(.h 9,5),(.h 9,6),(.c [0,9],7),(.h 9,8),(.h 9,9),(.c [],10)] fd fd (qy ff (λ_=>un)) ?_;simp only[vg,fy9,fz4,fz3,fy2,fx7,fy0];iterate 7 (refine u6 (v:=?_) ?_ ?_;rotate_left;(intro w' hSw;(try (have c1:=Bk.ce hSw));clear hSw;go_simp;try with_reducible rfl);try simp only[aps])
 (refine rx (λK hK=>?_);go_simp;refine hK _ _ (rh ff (rh trivial ry)) ?_;clear hK K;try simp only[aps]);iterate 2 (refine u6 (v:=?_) ?_ ?_;rotate_left;(intro w' hSw;(try (have c1:=Bk.ce hSw));clear hSw;go_simp;try with_reducible rfl);try simp only[aps])
 (refine rx (λK hK=>?_);go_simp;refine hK _ _ ry ?_;clear hK K;try simp only[aps]);refine ub ?_
 refine vy (F:=λW=>Bk W g t ((cs.setIfInBounds (o+3) (.slice A m cc)).setIfInBounds (o+2) (.int .i64 j))/\Bk W (w.heap.size+1) 40 #[.int .i64 0,.int .i64 0,.int .i32 0,.int .i64 0,.int .i64 0,.int .i64 0]/\Bk W w1.heap.size 40 #[.int .i64 qk,.int .i64 qp,.int .i32 qr,.int .i64 qc,.int .i64 qn,.int .i64 J]/\
    W.ownsRow w.heap.size 209 7 (.slice A m cc) out.length (rowF out)/\Ch (λx=>x=g) w W) ⟨?_,?_,?_,?_,?_⟩ ?_
 ·exact Bk.dr (Bk.al (Bk.st _ (Bk.st _ kg)) _)
 ·(repeat' (first|with_reducible assumption|with_reducible exact Bk.nw fi|with_reducible refine Bk.dr ?_|with_reducible refine Bk.al ?_ _|with_reducible refine Bk.bl fq ?_|with_reducible refine Bk.gr fq ?_ ?_|with_reducible refine Bk.fr _ fw ?_|with_reducible exact k1)) <;>(first|done|fail)
 ·(repeat' (first|with_reducible assumption|with_reducible exact Bk.nw fi|with_reducible refine Bk.dr ?_|with_reducible refine Bk.al ?_ _|with_reducible refine Bk.bl fq ?_|with_reducible refine Bk.gr fq ?_ ?_|with_reducible refine Bk.fr _ fw ?_)) <;>(first|done|fail)
 ·refine qx (K:=λx=>x=g) ?_ (mj C ja) (λb hb=>by have:=(C.lt b hb).1;simp at this;omega);repeat' (first|with_reducible exact Ch.rf _ _|with_reducible refine Ch.al ?_ _|with_reducible refine Ch.dr ?_|with_reducible refine Ch.st ?_ fi _)
 ·repeat' (first|with_reducible exact Ch.rf _ _|with_reducible refine Ch.al ?_ _|with_reducible refine Ch.dr ?_|with_reducible refine Ch.cl ?_ D|with_reducible refine Ch.st ?_ fi _)
 clear M O;rintro W ⟨gg,g1,g6,grow,gC⟩;have x1:W.cell? ⟨g,o+1,none⟩=some (.int .i64 eo):=by rw[gg.ce];simpa[fy1] using h1
 have y1:=gg.fz;obtain⟨c1,d1⟩:=g1.ceF;obtain⟨c6,d6⟩:=g6.ceF;have ae: ¬(g=w.heap.size+1):=by omega
 have Y: ¬(w.heap.size+1=g):=by omega
 have aa: ¬(g=w1.heap.size):=by omega
 have U: ¬(w1.heap.size=g):=by omega
 replace gg:=fx6 gg;replace grow:=fx6 grow;replace gC:=fx6 gC;go_wp2_with fail;refine f0q (v:=.tuple #[.agg #[.int .i64 qk,.int .i64 qp,.int .i32 qr,.int .i64 qc,.int .i64 qn,.int .i64 J],.int .i64 qq]) (by simp[results,Tryz.results94,go_sem,c1]) rfl ⟨.slice A m cc,rfl,?_,?_,?_⟩
 ·repeat' (first|with_reducible exact Bk.st _ gg.out|with_reducible refine Bk.fr _ fw ?_)
 ·refine qx (K:=λx=>x=g\/x=w.heap.size+1) ?_ grow.out (λb hb=>?_)
  ·repeat' (first|with_reducible exact Ch.rf _ _|with_reducible refine Ch.st ?_ fi _)
  ·have:=(C.lt b hb).1;simp at this;omega
 ·repeat' (first|with_reducible exact gC.out|with_reducible refine Ch.st ?_ fi _)
def fn9 (g o:Nat) (t:TypeId) (cs:Array Value) (rv:Value) (e:Plain.EndS) (f:Plain.Frm) (w:World) (hB:Bk w g t cs) (hE:EndC cs o e rv) (hR:RowV w rv e.row) (hl:e.row.length<=4000) (hN:Near f e.row) (he:0<=e.other/\e.other<=1000000):
    Calls PV 94 #[.pointer (some ⟨g,o,none⟩),frmV f] w λx w'=> ∃j,x=.returned (.tuple #[chgV (Plain.tryF e f).1,.int .i64 (Plain.tryF e f).2.1])/\
     Bk w' g t (((cs.setIfInBounds (o+3) j).setIfInBounds (o+2) (.int .i64 f.other)).setIfInBounds (o+1) (.int .i64 (e.other+1)))/\w'.ownsRow w.heap.size 209 7 j (Plain.take e f).row.length (rowF (Plain.take e f).row)/\Ch (λx=>x=g) w w':=by
 rcases f with⟨⟨kind,pos,⟨r,c,n⟩,cl⟩,m,other,cur⟩;exact take1 g o t cs rv kind pos r c n cl m other cur e.other e.row w hB hE.other hE.row ⟨_,hE.acked⟩ hR hl hN he
def fcm (g o:Nat) (t:TypeId) (cs:Array Value) (rv:Value) (e:Plain.EndS) (a:Plain.Chg) (k:Int) (w:World) (hB:Bk w g t cs) (hE:EndC cs o e rv) (hR:RowV w rv e.row) (m:rv.ownBlock≠some g) (hm:0<=e.mine/\e.mine<=1000000) (hl:e.row.length<=4000):
    Calls PV 91 #[.pointer (some ⟨g,o,none⟩),chgV a,.int .i64 k] w λx w'=> ∃j,x=.returned (frmV (Plain.frame e a k))/\
     Bk w' g t ((cs.setIfInBounds (o+3) j).setIfInBounds o (.int .i64 (e.mine+1)))/\RowV w' j (Plain.send e a).row/\(j.ownBlock=rv.ownBlock\/ ∃b,j.ownBlock=some b/\w.heap.size<=b)/\Ch (λx=>x=g\/rv.ownBlock=some x) w w':=
 send1 g o t cs rv a.kind a.pos a.e.r a.e.c a.e.n a.cl k e.mine e.other e.row w hB hE.mine hE.other hE.row hR m hm hl
end Go.Proofs.YtelecjnabeokeaaGreatDoor
namespace Go.Proofs.YtelecjnabeokeaaGreatDoor
open Go Go.Conc
section
variable {P:Program} {F:Array Func} {H:Hide} {fr fr':Frame} {l l':List Frame} {v w v' w':World} {Stop:Frame->List Frame->World->Prop}
inductive Desc (Q:Program) (Stop:Frame->List Frame->World->Prop):St->St->Prop
 | refl (s:St):Desc Q Stop s s
 | step {s1 s2 s3:St} (t:Nat->Question->Nat) (d:Nat): ¬Stop s1.1 s1.2.1 s1.2.2->step Q (lone s1.1 (s1.2.1++[botF]) (reW s1.2.2 t d))=.next (lone s2.1 (s2.2.1++[botF]) s2.2.2)->Desc Q Stop s2 s3->Desc Q Stop s1 s3
def Ahead (Q:Program) (Stop:Frame->List Frame->World->Prop) (s1 s3:St):Prop:=
 ∃s2 t d,¬Stop s1.1 s1.2.1 s1.2.2/\step Q (lone s1.1 (s1.2.1++[botF]) (reW s1.2.2 t d))=.next (lone s2.1 (s2.2.1++[botF]) s2.2.2)/\Desc Q Stop s2 s3
abbrev FinS (Q:Program) (Stop:Frame->List Frame->World->Prop) (s:St):Prop:=Fin Q Stop s.1 s.2.1 s.2.2
def Desc.trans {Q:Program} {s1 s2 s3:St} (h:Desc Q Stop s1 s2) (h':Desc Q Stop s2 s3):Desc Q Stop s1 s3:=by
 induction h with
 | refl s=>exact h'
 | step t d hn hs _ ih=>exact .step t d hn hs (ih h')
def Desc.ahead {Q:Program} {s1 s2 s3:St} (h:Desc Q Stop s1 s2) (h':Ahead Q Stop s2 s3):Ahead Q Stop s1 s3:=by
 cases h with
 | refl s=>exact h'
 | step t d hn hs h=>
   obtain⟨s4,t',d',m,j,q⟩:=h';exact⟨_,t,d,hn,hs,h.trans (.step t' d' m j q)⟩
def Ahead.desc {Q:Program} {s1 s2 s3:St} (h:Ahead Q Stop s1 s2) (h':Desc Q Stop s2 s3):Ahead Q Stop s1 s3:=by
 obtain⟨s4,t,d,hn,hs,h⟩:=h;exact⟨s4,t,d,hn,hs,h.trans h'⟩
def Ahead.to_desc {Q:Program} {s1 s2:St} (h:Ahead Q Stop s1 s2):Desc Q Stop s1 s2:=by
 obtain⟨s4,t,d,hn,hs,h⟩:=h;exact .step t d hn hs h
def fir {Q:Program} {s1 s2:St} (h:FinS Q Stop s1) (hn: ¬Stop s1.1 s1.2.1 s1.2.2) {t:Nat->Question->Nat} {d:Nat} (hs:step Q (lone s1.1 (s1.2.1++[botF]) (reW s1.2.2 t d))=.next (lone s2.1 (s2.2.1++[botF]) s2.2.2)):FinS Q Stop s2:=by
 cases h with
 | stop h=>exact absurd h hn
 | step fr' l' v' h1 h2=>
   rw[h1] at hs;simp only[f0o] at hs;obtain⟨e1,e2,e3⟩:=cf hs;have:=h2 t d;rw[e1,e2,e3] at this;exact this
def fin_ind {Q:Program} {Ψ:St->Prop} (h: ∀s,FinS Q Stop s->(∀s',Ahead Q Stop s s'->Ψ s')->Ψ s) {s:St} (hf:FinS Q Stop s):Ψ s:=by
 have key: ∀{fr:Frame} {l:List Frame} {v:World},Fin Q Stop fr l v-> ∀s',Desc Q Stop (fr,l,v) s'->Ψ s':=by
    intro fr l v hf
    induction hf with
    | @stop fr l v hs=>
      intro s' hd;cases hd with
      | refl s=>exact h _ (.stop hs) λs' ⟨_,_,_,hn,_⟩=>absurd hs hn
      | step t d hn _ _=>exact absurd hs hn
    | @step fr l v fr' l' v' h1 h2 ih=>
      have ha: ∀s',Ahead Q Stop (fr,l,v) s'->Ψ s':=by
       rintro s' ⟨s2,t,d,hn,hs,hd⟩;rw[h1] at hs;simp only[f0o] at hs;obtain⟨e1,e2,e3⟩:=cf hs;refine ih t d s' ?_;rw[e1,e2,e3];exact hd
      intro s' hd;cases hd with
      | refl s=>exact h _ (.step fr' l' v' h1 h2) ha
      | step t d hn hs hd=>exact ha s' ⟨_,t,d,hn,hs,hd⟩
 exact key hf s (.refl _)
def fis (h:FrOk P F fr):FrOk (V P F) F fr:=
 ⟨h.kind,h.todo,λi hi=>⟨(h.round i hi).1,λhn=>absurd rfl hn⟩,h.defers,h.chain,λ_=>rfl,h.back⟩
def fqb (Q:Program) (l:List Frame) (fr':Frame) (l':List Frame):LRes->Prop
 | .push f ab=>fr'=f/\l'=ab++l
 | .enter f args kind g=>fr'=Frame.enter Q f args kind/\l'=g::l
 | .touch t=> ∃c0,l=c0::l'/\fr'=t.on c0
 | .comm .. =>False
def ftr (hF:FOk P F) (ae:FOk (V P F) F) (hc:nq F) (ac:Nc P F) (hS: ∀fr l v,Stop fr l v-> ¬PanS (fr::l)) (hf:Fin (V P F) Stop fr l v) (hn: ¬Stop fr l v) (aa:FrOk P F fr) (C:i5 (V P F) F l) (rel:Rel H v w):
    ∃ r v1 fr' l' w1 es,step (V P F) (lone fr (l++[botF]) (reW v w.tape w.drawn))=.next (lone fr' (l'++[botF]) v1)/\i5 (V P F) F (fr'::l')/\r.calm=true/\fgq P F r/\ffn fr.kind r/\ut v1/\v.heap.size<=v1.heap.size/\
      ff9 P fr w r w1 es/\w1.tape=w.tape/\Rel H v1 w1/\(∀e∈es,EvOK H w1.heap.size e)/\
      fqb (V P F) l fr' l' r:=by
 have ho:ut v:=rel.objs
 obtain⟨fr',l',v1,J,Y⟩: ∃fr' l' v1,step (V P F) (lone fr (l++[botF]) (reW v w.tape w.drawn))=.next (lone fr' (l'++[botF]) v1)/\Fin (V P F) Stop fr' l' v1:=by
    cases hf with
    | stop h=>exact absurd h hn
    | step fr' l' v' h1 h2=>exact⟨_,_,_,h1 w.tape w.drawn,h2 _ _⟩
 obtain⟨c,cs,q⟩: ∃c cs,l++[botF]=c::cs:=by cases l <;>exact⟨_,_,rfl⟩
 rcases s1 (H:=H) (w:=w) hF aa (rel.re' w.tape w.drawn) with hd|⟨r,ak,es,hl,hr,hk,X,hp,hm⟩
 ·obtain⟨o,u,e⟩:=fik (P:=V P F) (v:=reW v w.tape w.drawn) (c:=c) (cs:=cs) hd;rw[q,e] at J;cases J
 have U: ∀a b d e,r≠ .comm a b d e:=by
    rintro a b d e rfl;exact hr.2.1 ac
 have e:=di (P:=V P F) (c:=c) (cs:=cs) (.inl ⟨es,hl,U⟩);rw[<- q,J] at e;simp only[f0o,lone,f1q,f1z,f0n,f1j,f2i] at e;obtain⟨ev,ef,ec⟩:=e;subst ev;have ah:i5 (V P F) F l:=C
 have shape:i5 (V P F) F (fr'::l')/\(r.calm=false->PanS (fr'::l'))/\fqb (V P F) l fr' l' r:=by
    cases r with
    | push f ab=>
      have A:l'=ab++l:=by
        have:l'++[botF]=ab++c::cs:=ec;rw[<- q,<- f0k] at this;exact fz2 this
      have m:fr'=f:=ef;refine⟨λx hx=>?_,λB=>?_,m,A⟩
      ·rw[m,A] at hx;simp only[fy3,fz0] at hx;rcases hx with rfl|hx|hx
       ·exact fis hr.1
       ·exact fis (hr.2 x hx)
       ·exact C x hx
      ·rw[m,A];rcases fgt (P:=V P F) B botF [] with h1|⟨y,_,hy,h2,_⟩
       ·exact⟨f,by simp,h1⟩
       ·exact⟨y,by simp[h2 ab f rfl],hy⟩
    | enter f a k g=>
      have A:l'=g::l:=by
        have:l'++[botF]=g::c::cs:=ec;rw[<- q,<- f0j] at this;exact fz2 this
      have m:fr'=Frame.enter (V P F) f a k:=ef;refine⟨λx hx=>?_,λB=>?_,m,A⟩
      ·rw[m,A] at hx;simp only[fy3] at hx;rcases hx with rfl|rfl|hx
       ·exact t9 hc rfl a hr.2 λhn=>absurd rfl hn
       ·exact fis hr.1
       ·exact C x hx
      ·rw[m,A];simp only[LRes.calm,f3l] at B;exact⟨g,by simp,B⟩
    | touch t=>
      have m:fr'=t.on c:=ef;have I:cs=l'++[botF]:=ec.symm;cases l with
      | nil=>
        simp only[f2h,f0n] at q;rw[<- q.2] at I;simp at I
      | cons c0 l0=>
        simp only[f0j,f0n] at q;obtain⟨rfl,R⟩:=q;obtain rfl:l0=l':=fz2 (R.trans I);have h1:=td hr (C c0 fi);refine⟨λx hx=>?_,λB=>⟨t.on c0,by rw[m];simp,yn B c0⟩,c0,rfl,m⟩;rcases fy3.1 hx with rfl|hx
        ·rw[m];exact h1.1
        ·exact C x (by simp[hx])
    | comm a b d e=>exact absurd rfl (U a b d e)
 obtain⟨O,W,M⟩:=shape
 have D:r.calm=true:=by
    cases e:r.calm with
    | true=>rfl
    | false=>exact absurd (W e) (Fin.calm ae hc hS Y O X)
 obtain⟨k,h1,h2,h3,h4⟩:=hm D;obtain⟨w1,ad,g1,g2,g3,g4,g5⟩:=h4 λj _=>rfl;exact⟨r,v1,fr',l',w1,ad,J,O,D,hr,hk,X,h1,g1,g2,g4,g5,M⟩
end
structure VS (P:Program) (F:Array Func) (Stop:Frame->List Frame->World->Prop):Prop where
 fok:FOk (V P F) F
 code:nq F
 stopNil: ∀fr l v,Stop fr l v->l=[]
 stopCalm: ∀fr l v,Stop fr l v-> ¬PanS (fr::l)
structure Lv (P:Program) (F:Array Func) (Stop:Frame->List Frame->World->Prop) (s:St):Prop where
 fin:FinS (V P F) Stop s
 stk:i5 (V P F) F (s.1::s.2.1)
 objs:ut s.2.2
section
variable {P:Program} {F:Array Func} {fr fr1:Frame} {l:List Frame} {v v1:World} {Stop:Frame->List Frame->World->Prop} {s s':St} {cs1:List Frame} {es:Array Event}
def lv_next (A:VS P F Stop) (L:Lv P F Stop s) (hn: ¬Stop s.1 s.2.1 s.2.2) {t:Nat->Question->Nat} {d:Nat} (hs:step (V P F) (lone s.1 (s.2.1++[botF]) (reW s.2.2 t d))=.next (lone s'.1 (s'.2.1++[botF]) s'.2.2)):Lv P F Stop s':=by
 have hf:=fir L.fin hn hs;rcases ftp A.fok A.code L.stk (fdr L.objs t d) hs with(⟨_,j⟩|⟨t,u,ht,e⟩)|⟨fr1,l1,v1,e,q,m,_,_⟩
 ·exact absurd rfl (j _ _ _)
 ·simp only[lone,f1q,f1z,f0n,f1j,f2i] at e;obtain⟨_,_,e⟩:=e;simp at e
 ·obtain⟨e1,e2,e3⟩:=cf e;exact⟨hf,by rw[e1,e2];exact q,by rw[e3];exact m⟩
def fkx (A:VS P F Stop) (h:Desc (V P F) Stop s s'):Lv P F Stop s->Lv P F Stop s':=by
 induction h with
 | refl s=>exact id
 | step t d hn hs _ ih=>exact λL=>ih (lv_next A L hn hs)
def vn (A:VS P F Stop) (L:Lv P F Stop s) (h:Ahead (V P F) Stop s s'):Lv P F Stop s':=fkx A h.to_desc L
def fgv (A:VS P F Stop) (L:Lv P F Stop s): ¬PanS (s.1::s.2.1):=Fin.calm A.fok A.code A.stopCalm L.fin L.stk L.objs
def fdv {Q:Program} (hn: ¬Stop s.1 s.2.1 s.2.2) (hs:step Q (lone s.1 (s.2.1++[botF]) s.2.2)=.next (lone s'.1 (s'.2.1++[botF]) s'.2.2)):Ahead Q Stop s s':=
 ⟨s',s.2.2.tape,s.2.2.drawn,hn,hs,.refl _⟩
def cy (A:VS P F Stop) (L:Lv P F Stop (fr,l,v)) (hl:l≠[]) (h:stepG (V P F) true (G fr (l++[botF])) v=.go (G fr1 cs1) v1 es):
    ∃l1,cs1=l1++[botF]/\Lv P F Stop (fr1,l1,v1)/\Ahead (V P F) Stop (fr,l,v) (fr1,l1,v1):=by
 have hn: ¬Stop fr l v:=λh=>hl (A.stopNil _ _ _ h);have j:step (V P F) (lone fr (l++[botF]) v)=.next (lone fr1 cs1 v1):=f3t (by unfold G at h;rw[h];rfl);have hf:=L.fin;cases hf with
 | stop h=>exact absurd h hn
 | step fr' l' v' h1 h2=>
   have h3:=h1 v.tape v.drawn;have h3:step (V P F) (lone fr (l++[botF]) v)=_:=h3;rw[j] at h3;simp only[f0o,lone,f1q,f1z,f0n,f1j,f2i] at h3;obtain⟨e1,e2,e3⟩:=h3;refine⟨l' v.tape v.drawn,e3,?_⟩;have ha:Ahead (V P F) Stop (fr,l,v) (fr1,l' v.tape v.drawn,v1):=fdv (s:=(fr,l,v)) (s':=(fr1,l' v.tape v.drawn,v1)) hn (by show step (V P F) (lone fr (l++[botF]) v)=_;rw[j,e3]);exact⟨vn A L ha,ha⟩
def mc (A:VS P F Stop) (L:Lv P F Stop (fr,l,v)) (hl:l≠[]) (h: ∃o u es,stepG (V P F) true (G fr (l++[botF])) v=.ended o u es):False:=by
 obtain⟨o,u,es,h⟩:=h;have hn: ¬Stop fr l v:=λh=>hl (A.stopNil _ _ _ h);have j:step (V P F) (lone fr (l++[botF]) v)=.ended o u:=f3u (by unfold G at h;rw[h];rfl);have hf:=L.fin;cases hf with
 | stop h=>exact absurd h hn
 | step fr' l' v' h1 h2=>
   have h3:step (V P F) (lone fr (l++[botF]) v)=_:=h1 v.tape v.drawn;rw[j] at h3;cases h3
def lv_comm (A:VS P F Stop) (L:Lv P F Stop (fr,l,v)) (hl:l≠[]) {c:CommCase} {b:Bool} {sh:CommShape} (h:stepG (V P F) true (G fr (l++[botF])) v=.comm (G fr1 (l++[botF])) #[c] b sh v1 es) (hf:fku c b sh):
    ∃val v2,uk c v1=some (val,v2)/\Lv P F Stop (fr1.finish val,l,v2)/\Ahead (V P F) Stop (fr,l,v) (fr1.finish val,l,v2):=by
 have hn: ¬Stop fr l v:=λh=>hl (A.stopNil _ _ _ h);cases hs:uk c v1 with
 | some p=>
   obtain⟨val,v2⟩:=p;have m:=fdq h hf hs;have ha:Ahead (V P F) Stop (fr,l,v) (fr1.finish val,l,v2):=fdv (s:=(fr,l,v)) (s':=(fr1.finish val,l,v2)) hn m;exact⟨val,v2,rfl,vn A L ha,ha⟩
 | none=>
   exfalso;have j:=L.fin;cases j with
   | stop h=>exact absurd h hn
   | step fr' l' v' h1 h2=>
     have h3:step (V P F) (lone fr (l++[botF]) v)=_:=h1 v.tape v.drawn;rcases np h hf hs with⟨o,u,e⟩|⟨g,u,hg,e⟩|⟨y,u,hy,e⟩
     ·rw[e] at h3;cases h3
     ·rw[e] at h3;simp only[f0o,lone,f1q,f1z,f0n,f2i] at h3;rw[h3.2] at hg;cases hg
     ·have ha:Ahead (V P F) Stop (fr,l,v) (fr1.raise [{ v:=y,recovered:=false }],l,u):=fdv (s:=(fr,l,v)) (s':=(fr1.raise [{ v:=y,recovered:=false }],l,u)) hn e;exact fgv A (vn A L ha) ⟨_,fz5,vu _ _⟩
def Arr (b:Frame) (k:List Item):Exit->Act->Frame->Prop
 | .normal,a,fr=>fr=b.at a k
 | .ret,a,fr=> ∃todo,fr={ b.at a todo with mode:=.returning }
 | _,_,_=>False
def VW (P:Program) (F:Array Func) (Stop:Frame->List Frame->World->Prop) (c:Code) (Q:Exit->Act->World->Prop) (a:Act) (v:World):Prop:=
 ∀ (b:Frame) (k:List Item) (l:List Frame),l≠[]->Lv P F Stop (b.at a (.code c::k),l,v)->
   ∃e a' v' fr',Q e a' v'/\Arr b k e a' fr'/\Ahead (V P F) Stop (b.at a (.code c::k),l,v) (fr',l,v')
def VO (P:Program) (F:Array Func) (Stop:Frame->List Frame->World->Prop) (ops:Array Oper) (is:List Nat) (Q:Act->World->Prop) (a:Act) (v:World):Prop:=
 ∀ (b:Frame) (k:List Item) (l:List Frame),l≠[]->Lv P F Stop (b.at a (.inRegion ops is::k),l,v)->
   ∃a' v',Q a' v'/\Ahead (V P F) Stop (b.at a (.inRegion ops is::k),l,v) (b.at a' k,l,v')
def fit (o:Oper) (a:Act) (K:Act->World->Prop):Result Next->Prop
 | .ok (.value x) v'=>K (a.put o.dst x) v'
 | .ok .skip v'=>K (a.put o.dst undef) v'
 | .ok (.comm cases b sh) v1=> ∃c,cases=#[c]/\vr True (.comm cases b sh)/\ ∀val v2,uk c v1=some (val,v2)->K (a.put o.dst val) v2
 | .halt h _=>(∃x,h=.panic x)\/hard h=true
 | _=>False
variable {a:Act} {Q:Exit->Act->World->Prop} {ops:Array Oper}
def fc9 (l:List Frame): ∃c cs,l++[botF]=c::cs:=by cases l <;>exact⟨_,_,rfl⟩
def vi (A:VS P F Stop) {K:Act->World->Prop} (h:K a v):VO P F Stop ops [] K a v:=λb k l hl L=>by
 obtain⟨l1,e,_,ha⟩:=cy A L hl f1o;obtain rfl:=fz2 e;exact⟨a,v,h,ha⟩
def uf (A:VS P F Stop) {i:Nat} {rest:List Nat} {K:Act->World->Prop} {o:Oper} (ho:ops[i]? =some o) (hw: ∀ys,Region.wanted o ys=true)
    (h:fit o a (VO P F Stop ops rest K) ((execOp a.eval o).run (V P F) v)):VO P F Stop ops (i::rest) K a v:=λb k l hl L=>by
 have j:=stepG_oper (P:=V P F) (main:=true) (b:=b) (a:=a) (k:=k) (cs:=l++[botF]) (w:=v) (rest:=rest) ho (hw (yielded ops a.tmps));have B: ∀x,(b.at a (.inRegion ops (i::rest)::k)).finish x=b.at (a.put o.dst x) (.inRegion ops rest::k):=λx=>by rw[f0i,ho];rfl
 have q:=L.stk (b.at a (.inRegion ops (i::rest)::k)) fi;obtain⟨c,cs,m⟩:=fc9 l;obtain⟨es,hT⟩:=uu (rfl:(execOp a.eval o).run (V P F) v=_);generalize hr:(execOp a.eval o).run (V P F) v=r at h hT
 match r,h with
 | .ok (.value x) v',h=>
   have e:=f6y (fr:=b.at a (.inRegion ops (i::rest)::k)) (cm:=True) hT trivial q.kind q.todo c cs;rw[m,e] at j;simp only[zr,LRes.plug,B,f2h] at j;rw[<- m] at j;obtain⟨l1,e1,L',ha⟩:=cy A L hl j;obtain rfl:=fz2 e1;obtain⟨a',v2,hq,hb⟩:=h b k l hl L';exact⟨a',v2,hq,ha.desc hb.to_desc⟩
 | .ok .skip v',h=>
   have e:=f6y (fr:=b.at a (.inRegion ops (i::rest)::k)) (cm:=True) hT trivial q.kind q.todo c cs;rw[m,e] at j;simp only[zr,LRes.plug,B,f2h] at j;rw[<- m] at j;obtain⟨l1,e1,L',ha⟩:=cy A L hl j;obtain rfl:=fz2 e1;obtain⟨a',v2,hq,hb⟩:=h b k l hl L';exact⟨a',v2,hq,ha.desc hb.to_desc⟩
 | .ok (.comm cases bb sh) v',h=>
   obtain⟨cc,rfl,C,hK⟩:=h;have e:=f6y (fr:=b.at a (.inRegion ops (i::rest)::k)) (cm:=True) hT C q.kind q.todo c cs;rw[m,e] at j;simp only[zr,LRes.plug] at j;rw[<- m] at j;obtain⟨c',e',hf⟩:=fm9 C.2;obtain rfl:cc=c':=by simpa using e'
   obtain⟨val,v2,hs,L',ha⟩:=lv_comm A L hl j hf;rw[B] at L' ha;obtain⟨a',v3,hq,hb⟩:=hK val v2 hs b k l hl L';exact⟨a',v3,hq,ha.desc hb.to_desc⟩
 | .halt x v',h=>
   exfalso;rcases h with⟨y,rfl⟩|h
   ·have e:=ax (fr:=b.at a (.inRegion ops (i::rest)::k)) hT q.kind c cs;rw[m,e] at j;simp only[LRes.plug,f2h] at j;rw[<- m] at j;obtain⟨l1,_,L',_⟩:=cy A L hl j;exact fgv A L' ⟨(b.at a (.inRegion ops (i::rest)::k)).raise [{ v:=y,recovered:=false }],fz5,vu _ _⟩
   ·obtain⟨o',u,D,e⟩:=dg (fr:=b.at a (.inRegion ops (i::rest)::k)) hr h c cs;rw[m,e] at j;rw[<- m] at j;exact mc A L hl ⟨_,_,_,j⟩
 | .ok (.enter ..) _,h=>exact h.elim
 | .ok (.defer _) _,h=>exact h.elim
 | .ok (.round ..) _,h=>exact h.elim
def ue (A:VS P F Stop) {id:Nat} (h:VO P F Stop ops (List.range ops.size) (Q .normal) a v):VW P F Stop (.region id ops false) Q a v:=λb k l hl L=>by
 obtain⟨l1,e,L',ha⟩:=cy A L hl f2o;obtain rfl:=fz2 e;obtain⟨a',v',hq,hb⟩:=h b k l hl L';exact⟨.normal,a',v',_,hq,rfl,ha.desc hb.to_desc⟩
def xk (A:VS P F Stop) {x y:Code} (h:VW P F Stop x (λe a' v'=>match e with | .normal=>VW P F Stop y Q a' v'|e=>Q e a' v') a v):VW P F Stop (.seq x y) Q a v:=λb k l hl L=>by
 obtain⟨l1,e,L',ha⟩:=cy A L hl f4d;obtain rfl:=fz2 e;obtain⟨e,a',v',fr',hq,j,hb⟩:=h b (.code y::k) l hl L';cases e with
 | normal=>
   obtain rfl:=j;obtain⟨e2,a2,v2,q,B,m,C⟩:=hq b k l hl (vn A L' hb);exact⟨e2,a2,v2,q,B,m,ha.desc (hb.desc C.to_desc).to_desc⟩
 | ret=>exact⟨.ret,a',v',fr',hq,j,ha.desc hb.to_desc⟩
 | _=>exact j.elim
def yy (A:VS P F Stop) {c:Operand} {x y:Code} (h: ∀t,a.eval c=.bool t->VW P F Stop (if t then x else y) Q a v):VW P F Stop (.cond c x y) Q a v:=λb k l hl L=>by
 by_cases hb: ∃t,a.eval c=.bool t
 ·obtain⟨t,hb⟩:=hb;obtain⟨l1,e,L',ha⟩:=cy A L hl (stepG_cond hb);obtain rfl:=fz2 e;obtain⟨e,a',v',fr',hq,j,hb⟩:=h t hb b k l hl L';exact⟨e,a',v',fr',hq,j,ha.desc hb.to_desc⟩
 ·exfalso;refine mc A L hl ?_;have h': ∀t,(b.at a (.code (.cond c x y)::k)).eval c≠ .bool t:=λt=>by rw[Frame.eval_at];exact λe=>hb ⟨t,e⟩
  have: ∃o u es,stepG.exec (V P F) true true (b.at a (.code (.cond c x y)::k)) (l++[botF]) none v=.ended o u es:=by
   unfold stepG.exec;simp only[Frame.at];split
   ·rename_i t e;exact absurd e (h' t)
   ·exact⟨_,_,_,rfl⟩
  simpa[stepG,G,Frame.at] using this
def fqc (A:VS P F Stop) (h:Q .normal a v):VW P F Stop .skip Q a v:=λb k l hl L=>by
 obtain⟨l1,e,_,ha⟩:=cy A L hl stepG_skip;obtain rfl:=fz2 e;exact⟨.normal,a,v,_,h,rfl,ha⟩
def nr (A:VS P F Stop) (h:Q .ret a v):VW P F Stop .ret Q a v:=λb k l hl L=>by
 obtain⟨l1,e,_,ha⟩:=cy (fr1:={ b.at a (.code .ret::k) with mode:=.returning }) (cs1:=l++[botF]) (v1:=v) (es:=#[]) A L hl (by simp[G,stepG,stepG.exec,Frame.at]);obtain rfl:=fz2 e;exact⟨.ret,a,v,_,h,⟨_,rfl⟩,ha⟩
def zi (A:VS P F Stop) (j:String):VW P F Stop (.refuse j) Q a v:=λb k l hl L=>by
 exfalso;refine mc A L hl ?_;simp[G,stepG,stepG.exec,Frame.at]
def ur (kind:CallKind) (x:Value) (g:Frame):Frame:=(if kind=.normal then Touch.fin x else Touch.dret).on g
def fgw (A:VS P F Stop) {f:FuncId} {fn:Func} {c:Code} {args:Array Value} {kind:CallKind} {g:Frame} (hf:F[f]? =some fn) (hb:fn.body=some c) {R:Value->World->Prop}
    (L:Lv P F Stop (Frame.enter (V P F) f args kind,g::l,v)) (h:VW P F Stop c (λe a' v'=>(e=.normal\/e=.ret)/\a'.defers=[]/\ ∃x,(results fn a'.tmps).run (V P F) v'=.ok x v'/\R x v') { tmps:=args++Array.replicate (fn.ntmps-args.size) undef,defers:=[] } v):
    ∃x v',R x v'/\Ahead (V P F) Stop (Frame.enter (V P F) f args kind,g::l,v) (ur kind x g,l,v'):=by
 let b:Frame:={ (default:Frame) with fn:=f,kind:=kind }
 have O:(V P F).funcs[f]? =some fn:=hf
 have j:Frame.enter (V P F) f args kind=b.at { tmps:=args++Array.replicate (fn.ntmps-args.size) undef,defers:=[] } [.code c]:=by
    simp[Frame.enter,Frame.at,hf,hb,b]
 have D:kind=.normal\/kind=.deferred:=by
    have:=(L.stk _ fz5).kind;simpa[j,Frame.at,b] using this
 rw[j] at L ⊢;obtain⟨e,a',v',fr',⟨he,hd,x,hr,hR⟩,B,ha⟩:=h b [] (g::l) fi L;have I:=vn A L ha
 have q: ∀todo,Lv P F Stop ({ b.at a' todo with mode:=.returning },g::l,v')-> ∃x m,R x m/\Ahead (V P F) Stop ({ b.at a' todo with mode:=.returning },g::l,v') (ur kind x g,l,m):=by
    intro todo L';obtain⟨es,hT⟩:=uu hr;have M:stepG (V P F) true (G { b.at a' todo with mode:=.returning } (g::(l++[botF]))) v'=.go (G (ur kind x g) (l++[botF])) v' (seen (V P F) f es):=by
     have e1:stepG (V P F) true (G { b.at a' todo with mode:=.returning } (g::(l++[botF]))) v'=GStep.after (seen (V P F) f es) (doReturn (V P F) true { b.at a' todo with mode:=.returning } (g::(l++[botF])) none x v'):=by
        simp[-Sem.runT_eq,G,stepG,unwind,Frame.at,hd,b,O,hT]
     rw[e1,wn (by simpa[Frame.at,b] using D)];simp only[c9,ur,Frame.at,b,LRes.plug,GStep.after,f1t];rfl
    obtain⟨l1,e1,_,J⟩:=cy A L' fi (by simpa using M);obtain rfl:=fz2 e1;exact⟨x,v',hR,J⟩
 rcases he with rfl|rfl
 ·obtain rfl:=B;obtain⟨l1,e1,L1,h1⟩:=cy A I fi f4e;obtain rfl:=fz2 e1;obtain⟨x',m,C,h2⟩:=q [] L1;exact⟨x',m,C,ha.desc (h1.desc h2.to_desc).to_desc⟩
 ·obtain⟨todo,rfl⟩:=B;obtain⟨x',m,C,h2⟩:=q todo I;exact⟨x',m,C,ha.desc h2.to_desc⟩
end
open Go.RowKit
def fa5 (args:Array Value) (n:Nat): ∃L:List Value,n<=L.length/\args++Array.replicate (n-args.size) undef=L.toArray/\ ∀i,L.getD i undef=args.getD i undef:=by
 obtain⟨l⟩:=args;refine⟨l++List.replicate (n-l.length) undef,by simp;omega,by simp,λi=>?_⟩;simp only[f2n,Array.getD_eq_getD_getElem?,fy2];rcases f01 i l.length with h|h
 ·rw[f1d h]
 ·rw[f0y h,f2q h];rw[List.getElem?_replicate];split <;>rfl
attribute [go_sem] oper
def fo7 (r:Nat) (P:Program) (v:World):(∃h v',(viewAt r).run P v=.halt h v'/\hard h=true)\/(∃x,(viewAt r).run P v=.ok x v/\(x=none-> ∀a u,v.heap[r]? ≠some (.view a u))):=by
 unfold viewAt;cases hs:v.shape? r with
 | some s=>
   refine .inr ⟨none,?_,λ_ a u e=>?_⟩
   ·simp[Go.shape,Bind.bind,Sem.bind,Sem.run,hs,Pure.pure]
   ·simp[World.shape?,e] at hs
 | none=>
   cases ho:v.heap[r]? with
   | none=>exact .inl ⟨_,v,by simp[Go.shape,Go.getObj,Bind.bind,Sem.bind,Sem.run,hs,ho];rfl,rfl⟩
   | some o=>
     cases o with
     | cells c e f=>simp[World.shape?,ho] at hs
     | view a u=>exact .inr ⟨some (a,u),by simp[Go.shape,Go.getObj,Bind.bind,Sem.bind,Sem.run,hs,ho,Pure.pure],λe=>by cases e⟩
     | _=>exact .inr ⟨none,by simp[Go.shape,Go.getObj,Bind.bind,Sem.bind,Sem.run,hs,ho,Pure.pure],λ_ a u e=>by cases e⟩
def me (a:Addr) (P:Program) (v:World):(∃h v',(noView a).run P v=.halt h v'/\hard h=true)\/((noView a).run P v=.ok () v/\ ∀b u,v.heap[a.block]? ≠some (.view b u)):=by
 unfold noView;rcases fo7 a.block P v with⟨h,v',e,hh⟩|⟨x,e,hx⟩
 ·exact .inl ⟨h,v',f2r e,hh⟩
 ·cases x with
  | some x=>exact .inl ⟨_,v,(qw e).trans (by simp[Sem.run,Go.unsupported];rfl),rfl⟩
  | none=>exact .inr ⟨(qw e).trans (by simp[Sem.run,Pure.pure]),hx rfl⟩
def fbp (a b:Addr) (P:Program) (v:World):(mayBeOne a b).run P v=.ok (fcw v a b) v:=by
 rw[<- f0d P _ v #[],f6w]
def fj4 (a b:Addr) (P:Program) (v:World):(∃h v',(sameAddr a b).run P v=.halt h v'/\hard h=true)\/(∃x d,(sameAddr a b).run P v=.ok x (reW v v.tape d)/\(a.block≠b.block-> ∀c u,v.heap[a.block]? ≠some (.view c u))):=by
 unfold sameAddr;by_cases hb:a.block=b.block
 ·exact .inr ⟨a==b,v.drawn,by simp[hb,Pure.pure,Sem.run];rfl,λh=>absurd hb h⟩
 ·have j:(a.block==b.block)=false:=by simpa using hb
  simp only[j,f0g,f0s];have hf: ∀(c:Addr) (k:Bool->Sem Bool),(Go.frozen c >>= k).run P v=(k (v.frozen? c)).run P v:=λc k=>rfl;rw[hf,hf];cases h1:(v.frozen? a&&v.frozen? b) with
  | true=>exact .inl ⟨_,v,by simp[Go.unsupported,Sem.run];rfl,rfl⟩
  | false=>
    simp only[f0g,f0s];rcases me a P v with⟨h,v',e,hh⟩|⟨e,hv⟩
    ·exact .inl ⟨h,v',f2r e,hh⟩
    rw[show ∀(k:Unit->Sem Bool),(noView a >>= k).run P v=(k ()).run P v from λk=>qw e];rcases me b P v with⟨h,v',e,hh⟩|⟨e,_⟩
    ·exact .inl ⟨h,v',f2r e,hh⟩
    rw[show ∀(k:Unit->Sem Bool),(noView b >>= k).run P v=(k ()).run P v from λk=>qw e];rw[show ∀(k:Bool->Sem Bool),(mayBeOne a b >>= k).run P v=(k (fcw v a b)).run P v from λk=>qw (fbp a b P v)];cases fcw v a b with
    | false=>exact .inr ⟨false,v.drawn,by simp[Pure.pure,Sem.run];rfl,λ_=>hv⟩
    | true=>
      refine .inr ⟨(Question.extern "sameAddr.stringBytes" 2).cut (v.tape v.drawn (.extern "sameAddr.stringBytes" 2))==1,v.drawn+1,?_,λ_=>hv⟩;simp only[f0e,choose,Bind.bind,Sem.bind,Sem.run,Question.forced,f0g,f0s,Pure.pure];rfl
def fgy (a b:Addr) (P:Program) (v:World) (ht:v.tape=λ_ _=>0) {x:Bool} {v':World} (h:(sameAddr a b).run P v=.ok x v'):x=true->a=b:=by
 unfold sameAddr at h;by_cases hb:a.block=b.block
 ·simp[hb,Pure.pure,Sem.run] at h;intro hx;rw[hx] at h;simpa using h.1
 ·have m:(a.block==b.block)=false:=by simpa using hb
  simp only[m,f0g,f0s] at h;have hf: ∀(c:Addr) (k:Bool->Sem Bool),(Go.frozen c >>= k).run P v=(k (v.frozen? c)).run P v:=λc k=>rfl;rw[hf,hf] at h;cases h1:(v.frozen? a&&v.frozen? b) with
  | true=>rw[h1] at h;simp[Go.unsupported,Sem.run] at h
  | false=>
    rw[h1] at h;simp only[f0g,f0s] at h;rcases me a P v with⟨h',j,e,hh⟩|⟨e,hv⟩
    ·rw[show ∀(k:Unit->Sem Bool),(noView a >>= k).run P v=.halt h' j from λk=>f2r e] at h;cases h
    rw[show ∀(k:Unit->Sem Bool),(noView a >>= k).run P v=(k ()).run P v from λk=>qw e] at h;rcases me b P v with⟨h',j,e,hh⟩|⟨e,_⟩
    ·rw[show ∀(k:Unit->Sem Bool),(noView b >>= k).run P v=.halt h' j from λk=>f2r e] at h;cases h
    rw[show ∀(k:Unit->Sem Bool),(noView b >>= k).run P v=(k ()).run P v from λk=>qw e] at h;rw[show ∀(k:Bool->Sem Bool),(mayBeOne a b >>= k).run P v=(k (fcw v a b)).run P v from λk=>qw (fbp a b P v)] at h;cases hm:fcw v a b with
    | false=>
      rw[hm] at h;simp[Pure.pure,Sem.run] at h;intro hx;rw[hx] at h;cases h.1
    | true=>
      rw[hm] at h;simp only[f0e,choose,Bind.bind,Sem.bind,Sem.run,Question.forced,f0g,f0s,Pure.pure,ht,Question.cut] at h;simp at h;intro hx;rw[hx] at h;simp at h
def fj5 (x:Value) (q:Addr) (v:World):(∃h v',(binOp .eql 99 x (.pointer (some q))).run PV v=.halt h v'/\hard h=true)\/(∃b d,(binOp .eql 99 x (.pointer (some q))).run PV v=.ok (.bool b) (reW v v.tape d)/\(∀p,x=.pointer (some p)->p.block≠q.block-> ∀c u,v.heap[p.block]? ≠some (.view c u))/\(v.tape=(λ_ _=>0)->b=true->x=.pointer (some q))):=by
 have hu: ∀w,(underlying 99).run PV w=.ok (.pointer 102) w:=λw=>by rw[ua];exact Tryz.runUnderlying99 w
 have hz: ∀w,(sizeOf 102).run PV w=.ok 2 w:=λw=>by rw[fce];exact Tryz.sizeOf102 w
 have A: ∀y,(Op.equal 99 y (.pointer (some q))).run PV v=(Op.equalIn (9999+1) 99 y (.pointer (some q))).run PV v:=λy=>by simp only[Op.equal,Op.maxDepth]
 have key:(∃h v',(Op.equal 99 x (.pointer (some q))).run PV v=.halt h v'/\hard h=true)\/(∃b d,(Op.equal 99 x (.pointer (some q))).run PV v=.ok b (reW v v.tape d)/\(∀p,x=.pointer (some p)->p.block≠q.block-> ∀c u,v.heap[p.block]? ≠some (.view c u))/\(v.tape=(λ_ _=>0)->b=true->x=.pointer (some q))):=by
    rw[A];generalize 9999=D;have m:(∀p,x≠ .pointer p)-> ∃h,hard h=true/\(Op.equalIn (D+1) 99 x (.pointer (some q))).run PV v=.halt h v:=by
     intro hx;cases x <;>first|exact absurd rfl (hx _)|(simp[Op.equalIn,fz9,hu,Result.andThen,Go.stuck,Go.unsupported,Sem.run,hard];done)|(simp[Op.equalIn,fz9,hu,Result.andThen,Go.stuck,Go.unsupported,Sem.run,hard];rfl)
    cases x with
    | pointer p=>
      cases p with
      | none=>exact .inr ⟨false,v.drawn,by simp[Op.equalIn,fz9,hu,Result.andThen,Pure.pure,Sem.run];rfl,λp h=>je,λ_ h=>by cases h⟩
      | some p=>
        have e2:(Op.equalIn (D+1) 99 (.pointer (some p)) (.pointer (some q))).run PV v=(sameAddr p q).run PV v:=by
         simp[Op.equalIn,fz9,hu,hz,Result.andThen]
        rw[e2];rcases fj4 p q PV v with⟨h,v',e3,hh⟩|⟨b,d,e3,hv⟩
        ·exact .inl ⟨h,v',e3,hh⟩
        ·exact .inr ⟨b,d,e3,λp' hp=>(by cases hp;exact hv),λht hb=>by rw[fgy p q PV v ht e3 hb]⟩
    | _=>
      obtain⟨h,h1,h2⟩:=m (λp h=>by cases h);exact .inl ⟨h,v,h2,h1⟩
 have j:binOp .eql 99 x (.pointer (some q))=(Op.equal 99 x (.pointer (some q)) >>= λb=>Pure.pure (.bool b):Sem Value)\/ ∃h,binOp .eql 99 x (.pointer (some q))=.halt h/\hard h=true:=by
    cases x <;>first|exact .inl rfl|exact .inr ⟨_,rfl,rfl⟩
 rcases j with e|⟨h,e,hh⟩
 ·rw[e];rcases key with⟨h,v',e1,hh⟩|⟨b,d,e1,hv⟩
  ·exact .inl ⟨h,v',f2r e1,hh⟩
  ·exact .inr ⟨b,d,(qw e1).trans fx2,hv⟩
 ·exact .inl ⟨h,v,by rw[e];rfl,hh⟩
section
variable {Stop:Frame->List Frame->World->Prop} {a:Act} {v:World}
def fmk {s:St} {fr:Frame} {l:List Frame} {t:Nat->Question->Nat} {d:Nat} {Q:Program} (hR: ∀fr l v t d,Stop fr l v->Stop fr l (reW v t d)) (h:Ahead Q Stop (fr,l,reW v t d) s):Ahead Q Stop (fr,l,v) s:=by
 obtain⟨s2,t',d',hn,hs,hd⟩:=h;exact⟨s2,t',d',λh=>hn (hR _ _ _ t d h),hs,hd⟩
def lv_re {fr:Frame} {l:List Frame} (hR: ∀fr l v t d,Stop fr l v->Stop fr l (reW v t d)) (L:Lv Tryz.prog rg Stop (fr,l,v)) (t:Nat->Question->Nat) (d:Nat):Lv Tryz.prog rg Stop (fr,l,reW v t d):=
 ⟨L.fin.re hR t d,L.stk,L.objs⟩
def vo_re (hR: ∀fr l v t d,Stop fr l v->Stop fr l (reW v t d)) {ops:Array Oper} {is:List Nat} {K:Act->World->Prop} (t:Nat->Question->Nat) (d:Nat) (h:VO Tryz.prog rg Stop ops is K a (reW v t d)):VO Tryz.prog rg Stop ops is K a v:=λb k l hl L=>by
 obtain⟨a',v',hq,hb⟩:=h b k l hl (lv_re hR L t d);exact⟨a',v',hq,fmk hR hb⟩
def fml (A:VS Tryz.prog rg Stop) {ops:Array Oper} {i g:Nat} {rest:List Nat} {K:Act->World->Prop} (ho:ops[i]? =some (chk g))
    (h: ∀d,(∀p,a.eval (.tmp 0)=.pointer (some p)->p.block≠g-> ∀c u,v.heap[p.block]? ≠some (.view c u))->VO Tryz.prog rg Stop ops rest K a (reW v v.tape d)):VO Tryz.prog rg Stop ops (i::rest) K a v:=by
 refine uf A ho (λ_=>rfl) ?_
 have e:(execOp a.eval (chk g))=(binOp .eql 99 (a.eval (.tmp 0)) (.pointer (some ⟨g,0,none⟩)) >>= λy=>Pure.pure (Next.value y):Sem Next):=by
    have hg: ∀x,eqGuard .eql 99 (.tmp 0) (.const (.pointer (some ⟨g,0,none⟩))) x (.pointer (some ⟨g,0,none⟩))=Pure.pure ():=λx=>by cases x <;>rfl
    show(eqGuard .eql 99 (.tmp 0) (.const (.pointer (some ⟨g,0,none⟩))) (a.eval (.tmp 0)) (.pointer (some ⟨g,0,none⟩)) >>= λ_=>binOp .eql 99 (a.eval (.tmp 0)) (.pointer (some ⟨g,0,none⟩))) >>= (λy=>Pure.pure (Next.value y))=_;rw[hg];rfl
 rw[e];rcases fj5 (a.eval (.tmp 0)) ⟨g,0,none⟩ v with⟨h',v',e',hh⟩|⟨b,d,e',hv,_⟩
 ·rw[show ∀(k:Value->Sem Next),(binOp .eql 99 (a.eval (.tmp 0)) (.pointer (some ⟨g,0,none⟩)) >>= k).run PV v=.halt h' v' from λk=>f2r e'];exact .inr hh
 ·rw[show ∀(k:Value->Sem Next),(binOp .eql 99 (a.eval (.tmp 0)) (.pointer (some ⟨g,0,none⟩)) >>= k).run PV v=(k (.bool b)).run PV (reW v v.tape d) from λk=>qw e'];exact h d hv
def fmm (A:VS Tryz.prog rg Stop) {c:Code} {Q:Exit->Act->World->Prop} (h: ∀d,(∀p,a.eval (.tmp 0)=.pointer (some p)-> ∀c u,v.heap[p.block]? ≠some (.view c u))->VW Tryz.prog rg Stop c Q a (reW v v.tape d)):
    VW Tryz.prog rg Stop (.seq chkR c) Q a v:=by
 refine xk A (ue A (fml A rfl λd h1=>fml A rfl λd' h2=>vi A ?_));refine h d' λp hp c u=>?_;by_cases e:p.block=0
 ·exact h2 p hp (by rw[e];decide) c u
 ·exact h1 p hp e c u
def fbq (ho:ut v) {p:Addr} (hv: ∀c u,v.heap[p.block]? ≠some (.view c u)) (hc:v.cell? p=none): ∃h,v.farLoad PV p false=.error h/\hard h=true:=by
 unfold World.farLoad;split
 ·rename_i c u e;exact absurd e (hv c u)
 ·exact⟨_,rfl,(Rel.refl ho).noCell_hard p _⟩
end
section
variable {Stop:Frame->List Frame->World->Prop} {a:Act} {v:World}
def fe6 {ops:Array Oper} {is:List Nat} {K:Act->World->Prop} (h:ut v->VO Tryz.prog rg Stop ops is K a v):VO Tryz.prog rg Stop ops is K a v:=λb k l hl L=>h L.objs b k l hl L
def fj6 {t:TypeId} {k:IntKind} {n:Int} (x:Value) (v:World) (hu: ∃k,Tryz.prog.underlying t=some (.int k)):
    (∃h v',(binOp .eql t x (.int k n)).run PV v=.halt h v'/\hard h=true)\/ ∃b,(binOp .eql t x (.int k n)).run PV v=.ok (.bool b) v/\(b=true->x=.int k n):=by
 obtain⟨k',hu⟩:=hu;have hu': ∀w,(underlying t).run PV w=.ok (.int k') w:=λw=>by rw[ua];exact f0u hu w
 have A: ∀y,(Op.equal t y (.int k n)).run PV v=(Op.equalIn (9999+1) t y (.int k n)).run PV v:=λy=>by simp only[Op.equal,Op.maxDepth]
 have q: ∀y,binOp .eql t y (.int k n)=(Op.equal t y (.int k n) >>= λb=>Pure.pure (.bool b):Sem Value)->((∃h,hard h=true/\(Op.equalIn (9999+1) t y (.int k n)).run PV v=.halt h v)\/(Op.equalIn (9999+1) t y (.int k n)).run PV v=.ok false v)->
  (∃h v',(binOp .eql t y (.int k n)).run PV v=.halt h v'/\hard h=true)\/ ∃b,(binOp .eql t y (.int k n)).run PV v=.ok (.bool b) v/\(b=true->y=.int k n):=by
    intro y e h;rw[e];rcases h with⟨h,hh,e1⟩|e1
    ·exact .inl ⟨h,v,f2r ((A y).trans e1),hh⟩
    ·exact .inr ⟨false,(qw ((A y).trans e1)).trans fx2,λh=>by cases h⟩
 generalize 9999=D at q;cases x with
 | int j m=>
   by_cases hk:j=k
   ·subst hk;exact .inr ⟨m==n,by simp[binOp,Op.intCmp,Pure.pure,Sem.run],λh=>by rw[f5g.1 h]⟩
   ·exact .inl ⟨_,v,by simp[binOp,hk,Go.stuck,Sem.run];rfl,rfl⟩
 | pointer p=>
   refine q _ rfl ?_;cases p with
   | none=>exact .inl ka
   | some p=>
     by_cases hn:n=0
     ·subst hn;exact .inr (by simp[Op.equalIn,fz9,hu',Result.andThen,Pure.pure,Sem.run])
     ·exact .inl (by simp[Op.equalIn,fz9,hu',Result.andThen,Go.stuck,Go.unsupported,Sem.run,hard,hn])
 | _=>exact q _ rfl (.inl ka)
def fj7 (x:Value) (v:World):Prop:= ∀p,x=.pointer (some p)-> ∀c u,v.heap[p.block]? ≠some (.view c u)
def fgz (ho:ut v) {x:Value} {p:Addr} (hv:fj7 x v) (hx:x=.pointer (some p)) (hc:v.cell? p=none): ∃h,v.farLoad PV p false=.error h/\hard h=true:=fbq ho (hv p hx) hc
def u0 {o:Oper} {K:Act->World->Prop} {h:Halt} (hh:hard h=true):fit o a K (.halt h v):=.inr hh
def f6p (op:BinOp) (t:TypeId) (x y:Operand) (a:Value) (k:IntKind) (n:Int):eqGuard op t x y a (.int k n)=Pure.pure ():=by
 cases op <;>cases a <;>rfl
def xz (op:BinOp) (t:TypeId) (x y:Operand) (a:Value) (p:Option Addr):eqGuard op t x y a (.pointer p)=Pure.pure ():=by
 cases op <;>cases a <;>rfl
attribute [local go_sem] f6p xz
def fo8 (n m:Int) (x0:Value) (v:World) (v':World):Prop:= ∃p,x0=.pointer (some p)/\v.cell? p=some (.int .i32 n)/\v.frozen? p=false/\v'=v.setCell p (.int .i32 m)
def v_lockB (A:VS Tryz.prog rg Stop) (x0 x1 x2:Value) (tl:List Value) (hv:fj7 x0 v):VW Tryz.prog rg Stop fql (λe a' v'=>e=.ret/\a'.defers=[]/\fo8 0 1 x0 v v') { tmps:=(x0::x1::x2::tl).toArray,defers:=[] } v:=by
 unfold fql;refine xk A (ue A (fe6 λho=>uf A rfl (λ_=>rfl) ?_));cases x0 with
 | pointer p =>
   cases p with
   | none=>go_simp;exact u0 rfl
   | some p=>
     cases hc:v.cell? p with
     | none=>
       obtain⟨h,hf,hh⟩:=fgz ho hv rfl hc;have hf:World.farLoad (V Tryz.prog rg) v p (Mode.plain==Mode.atomic)=.error h:=hf;go_simp;exact u0 hh
     | some x=>
       go_simp;refine uf A rfl (λ_=>rfl) ?_;have hq:=fj6 (t:=21) (k:=.i32) (n:=0) x v ⟨_,Tryz.underlying21⟩;go_simp;rcases hq with⟨h,v',e,hh⟩|⟨b,e,hb⟩
       ·rw[e];exact u0 hh
       ·rw [e];refine vi A (yy A λt ht=>?_);cases b with
        | false=>
          obtain rfl:t=false:=by simpa[Act.eval,Act.put] using ht.symm
          exact zi A _
        | true=>
          obtain rfl:t=true:=by simpa[Act.eval,Act.put] using ht.symm
          obtain rfl:=hb rfl;refine xk A (ue A (uf A rfl (λ_=>rfl) ?_));cases hz:v.frozen? p with
          | true=>go_simp;exact u0 rfl
          | false=>
            go_simp;refine vi A (nr A ⟨rfl,rfl,p,rfl,hc,hz,rfl⟩)
 | _=>go_simp;exact u0 rfl
def fqp (A:VS Tryz.prog rg Stop) (x0 x1 x2:Value) (tl:List Value) (hv:fj7 x0 v):VW Tryz.prog rg Stop fe5 (λe a' v'=>e=.ret/\a'.defers=[]/\fo8 1 0 x0 v v') { tmps:=(x0::x1::x2::tl).toArray,defers:=[] } v:=by
 unfold fe5;refine xk A (ue A (fe6 λho=>uf A rfl (λ_=>rfl) ?_));cases x0 with
 | pointer p =>
   cases p with
   | none=>go_simp;exact u0 rfl
   | some p=>
     cases hc:v.cell? p with
     | none=>
       obtain⟨h,hf,hh⟩:=fgz ho hv rfl hc;have hf:World.farLoad (V Tryz.prog rg) v p (Mode.plain==Mode.atomic)=.error h:=hf;go_simp;exact u0 hh
     | some x=>
       go_simp;refine uf A rfl (λ_=>rfl) ?_;have hq:=fj6 (t:=21) (k:=.i32) (n:=1) x v ⟨_,Tryz.underlying21⟩;go_simp;rcases hq with⟨h,v',e,hh⟩|⟨b,e,hb⟩
       ·rw[e];exact u0 hh
       ·rw [e];refine vi A (yy A λt ht=>?_);cases b with
        | false=>
          obtain rfl:t=false:=by simpa[Act.eval,Act.put] using ht.symm
          exact zi A _
        | true=>
          obtain rfl:t=true:=by simpa[Act.eval,Act.put] using ht.symm
          obtain rfl:=hb rfl;refine xk A (ue A (uf A rfl (λ_=>rfl) ?_));cases hz:v.frozen? p with
          | true=>go_simp;exact u0 rfl
          | false=>
            go_simp;refine vi A (nr A ⟨rfl,rfl,p,rfl,hc,hz,rfl⟩)
 | _=>go_simp;exact u0 rfl
def fqq (x:Value) (v:World):(∃h v',(binOp .eql 99 x (.pointer none)).run PV v=.halt h v'/\hard h=true)\/ ∃b,(binOp .eql 99 x (.pointer none)).run PV v=.ok (.bool b) v/\(b=true->x=.pointer none)/\(b=false-> ∃p,x=.pointer (some p)):=by
 have hu: ∀w,(underlying 99).run PV w=.ok (.pointer 102) w:=λw=>by rw[ua];exact Tryz.runUnderlying99 w
 have q: ∀y,(Op.equal 99 y (.pointer none)).run PV v=(Op.equalIn (9999+1) 99 y (.pointer none)).run PV v:=λy=>by simp only[Op.equal,Op.maxDepth]
 have m: ∀y,(binOp .eql 99 y (.pointer none)=(Op.equal 99 y (.pointer none) >>= λb=>Pure.pure (.bool b):Sem Value))-> ∀r,(Op.equalIn (9999+1) 99 y (.pointer none)).run PV v=r->(binOp .eql 99 y (.pointer none)).run PV v=r.andThen λb w=>.ok (.bool b) w:=by
    intro y e r hr;rw[e];cases r with
    | ok b w=>exact(qw ((q y).trans hr)).trans fx2
    | halt h w=>exact f2r ((q y).trans hr)
 generalize 9999=D at m
 have A:(∀p,x≠ .pointer p)-> ∃h,hard h=true/\(Op.equalIn (D+1) 99 x (.pointer none)).run PV v=.halt h v:=by
    intro hx;cases x <;>first|exact absurd rfl (hx _)|(simp[Op.equalIn,fz9,hu,Result.andThen,Go.stuck,Go.unsupported,Sem.run,hard];done)|(simp[Op.equalIn,fz9,hu,Result.andThen,Go.stuck,Go.unsupported,Sem.run,hard];rfl)
 have j:binOp .eql 99 x (.pointer none)=(Op.equal 99 x (.pointer none) >>= λb=>Pure.pure (.bool b):Sem Value):=by cases x <;>rfl
 cases x with
 | pointer p=>
   cases p with
   | none=>exact .inr ⟨true,by rw[m _ j (.ok true v) j3];rfl,λ_=>rfl,λh=>by cases h⟩
   | some p=>exact .inr ⟨false,by rw[m _ j (.ok false v) j3];rfl,(λh=>by cases h),λ_=>⟨p,rfl⟩⟩
 | _=>
   obtain⟨h,h1,h2⟩:=A (λp h=>by cases h);exact .inl ⟨h,v,by rw[m _ j _ h2];rfl,h1⟩
def fo9 (v:World) (p:Addr):Prop:= ∃e cells,v.shape? p.block=some (e,cells)/\liesAt Tryz.prog Tryz.prog.depth e (cells / Tryz.prog.cellsOf e) p.off 102 1=true
def fl3 {v:World} {p:Addr} {x:Value} (hc:v.cell? p=some x):
    (∃h v',(Builtin.unsafeSlice_ #[99,3] 0 #[.pointer (some p),.int .i64 1]).run PV v=.halt h v'/\hard h=true)\/ ∃y,(Builtin.unsafeSlice_ #[99,3] 0 #[.pointer (some p),.int .i64 1]).run PV v=.ok y v/\fo9 v p:=by
 obtain⟨e,n,m,hlt,D⟩:=World.shape?_of_cell? hc;have hu: ∀w,(underlying 99).run PV w=.ok (.pointer 102) w:=λw=>by rw[ua];exact Tryz.runUnderlying99 w
 have A: ∀w,(elemOf 99).run PV w=.ok 102 w:=λw=>by simp[elemOf,fz9,hu,Result.andThen,Pure.pure,Sem.run]
 have C:(variablesAt p 102 1).run PV v=.ok (liesAt Tryz.prog Tryz.prog.depth e (n / Tryz.prog.cellsOf e) p.off 102 1) v:=by
    have:(Go.shape p.block:Sem _).run PV v=.ok (some (e,n)) v:=by simp[Go.shape,Sem.run,m]
    show((Go.program >>= λp'=>Go.shape p.block >>= λs=>(match s with
     | some (e,cells)=>Pure.pure (liesAt p' p'.depth e (cells / p'.cellsOf e) p.off 102 1)
     | none=>Pure.pure false):Sem Bool)).run PV v=_
    simp[Go.program,fz9,this,Result.andThen,Sem.run,Pure.pure,m9,yw,vf]
 have hsz: ∀w,(sizeOf 102).run PV w=.ok 2 w:=λw=>by rw[fce];exact Tryz.sizeOf102 w
 obtain⟨i,hi⟩:=Option.isSome_iff_exists.1 (show(Tryz.prog.info? 102).isSome=true by kernel_rfl);have q: ∀w,(typeInfo 102).run PV w=.ok i w:=λw=>by rw[fas];simp[typeInfo,Go.program,fz9,Sem.run,hi,Result.andThen,Pure.pure]
 have B:(viewAt p.block).run PV v=.ok none v:=by
    have:(Go.shape p.block:Sem _).run PV v=.ok (some (e,n)) v:=by simp[Go.shape,Sem.run,m]
    simp[viewAt,fz9,this,Result.andThen,Pure.pure]
 have key: ∀y:Value,(∀w,(asInt y).run PV w=.ok 1 w)->(Builtin.unsafeSlice_ #[99,3] 0 #[.pointer (some p),y]).run PV v=
  if i.bytes>=2 ^ 64 then .halt (.unsupported (.unsafePointer "Slice: so many elements that their bytes overflow")) v else
        if liesAt Tryz.prog Tryz.prog.depth e (n / Tryz.prog.cellsOf e) p.off 102 1 then .ok (.slice (some p) 1 1) v else .halt (.unsupported (.unsafePointer "Slice: not so many variables at ptr")) v:=λy hy=>by
    unfold Builtin.unsafeSlice_;refine(qw (hy v)).trans ?_;dsimp only;refine(qw (A v)).trans ?_;rw[fx9 fu,fx9 fu];refine(qw (q v)).trans ?_;have e1:(1:Int).toNat*i.bytes=i.bytes:=by simp
    rw[e1];by_cases h2:i.bytes>=2 ^ 64
    ·rw[f02 h2,f02 h2];rfl
    rw[fx9 h2,fx9 h2];refine(qw (hsz v)).trans ?_;refine(qw C).trans ?_;cases hb:liesAt Tryz.prog Tryz.prog.depth e (n / Tryz.prog.cellsOf e) p.off 102 1 with
    | true=>rfl
    | false=>
      rw[fx9 fu,fx9 fu];exact(qw B).trans rfl
 rw[key (.int .i64 1) λw=>rfl];split
 ·exact .inl ⟨_,v,rfl,rfl⟩
 ·split
  ·rename_i hb;exact .inr ⟨_,rfl,e,n,m,hb⟩
  ·exact .inl ⟨_,v,rfl,rfl⟩
def CcR (x0:Value) (v:World) (v':World):Prop:= ∃p,x0=.pointer (some p)/\
 ((v.cell? p=some (.pointer none)/\v.frozen? p=false/\fo9 v p/\v'=v.setCell p (.pointer (some p)))\/(v.cell? p=some (.pointer (some p))/\ ∃t d,v'=reW v t d))
def v_ccB (A:VS Tryz.prog rg Stop) (hR: ∀fr l v t d,Stop fr l v->Stop fr l (reW v t d)) (x0 x1 x2 x3 x4:Value) (tl:List Value) (hv:fj7 x0 v):VW Tryz.prog rg Stop ccB (λe a' v'=>e=.ret/\a'.defers=[]/\CcR x0 v v') { tmps:=(x0::x1::x2::x3::x4::tl).toArray,defers:=[] } v:=by
 unfold ccB;refine xk A (ue A (fe6 λho=>uf A rfl (λ_=>rfl) ?_));cases x0 with
 | pointer p =>
   cases p with
   | none=>go_simp;exact u0 rfl
   | some p=>
     go_simp;refine uf A rfl (λ_=>rfl) ?_;cases hc:v.cell? p with
     | none=>
       obtain⟨h,hf,hh⟩:=fgz ho hv rfl hc;have hf:World.farLoad (V Tryz.prog rg) v p (Mode.plain==Mode.atomic)=.error h:=hf;go_simp;exact u0 hh
     | some x=>
       go_simp;refine uf A rfl (λ_=>rfl) ?_;have hq:=fqq x v;go_simp;rcases hq with⟨h,v',e,hh⟩|⟨b,e,m,j⟩
       ·rw[e];exact u0 hh
       ·rw [e];refine vi A (yy A λt ht=>?_);cases b with
        | true=>
          obtain rfl:t=true:=by simpa[Act.eval,Act.put] using ht.symm
          obtain rfl:=m rfl;clear e;refine xk A (ue A (uf A rfl (λ_=>rfl) ?_));have hq:=fl3 hc;go_simp;rcases hq with⟨h,v',e,hh⟩|⟨y,e,hl⟩
          ·rw[e];exact u0 hh
          rw[e];refine uf A rfl (λ_=>rfl) ?_;clear e;cases hz:v.frozen? p with
          | true=>go_simp;exact u0 rfl
          | false=>
            go_simp;exact vi A (nr A ⟨rfl,rfl,p,rfl,.inl ⟨hc,hz,hl,rfl⟩⟩)
        | false=>
          obtain rfl:t=false:=by simpa[Act.eval,Act.put] using ht.symm
          obtain⟨p',rfl⟩:=j rfl;refine xk A (ue A (vo_re hR (λ_ _=>0) 0 (uf A rfl (λ_=>rfl) ?_)));have hq:=fj5 (.pointer (some p')) p (reW v (λ_ _=>0) 0);go_simp;rcases hq with⟨h,v',e,hh⟩|⟨b,d,e,_,hb⟩
          ·rw[e];exact u0 hh
          ·rw[e];refine vi A (yy A λt ht=>?_);cases b with
           | false=>
             obtain rfl:t=false:=by simpa[Act.eval,Act.put] using ht.symm
             exact zi A _
           | true=>
             obtain rfl:t=true:=by simpa[Act.eval,Act.put] using ht.symm
             have hp:=hb rfl rfl;simp only[Value.pointer.injEq,f03] at hp;subst hp;exact nr A ⟨rfl,rfl,p',rfl,.inr ⟨hc,_,_,rfl⟩⟩
 | _=>go_simp;exact u0 rfl
end
def zn (op:BinOp) (t:TypeId) (x y:Operand) (a:Value) (p:Option Nat):eqGuard op t x y a (.chan p)=Pure.pure ():=by
 cases op <;>cases a <;>rfl
attribute [local go_sem] f6p xz zn
def feb {α:Type} {s:Sem α} {v:World} (hs:Sim Tryz.prog rg (λ_=>False) s) (ho:ut v):(∃h v',s.run PV v=.halt h v'/\((∃y,h=.panic y)\/hard h=true))\/ ∃x v',s.run PV v=.ok x v'/\ut v':=by
 rcases ym hs (Rel.refl ho) with⟨h,v1,e,hh⟩|⟨R,⟨x,rfl⟩|⟨x,rfl⟩,v1,k,e,h1,_⟩
 ·exact .inl ⟨h,v1,e,.inr hh⟩
 ·exact .inr ⟨x,v1,e,h1⟩
 ·exact .inl ⟨_,v1,e,.inl ⟨x,rfl⟩⟩
def Still0 {α:Type} (P:Program) (s:Sem α):Prop:= ∀v x v',s.run P v=.ok x v'->v'=v
def yh {α:Type} {P:Program} (x:α):Still0 P (Pure.pure x:Sem α):=λv y v' h=>by
 simp[Pure.pure] at h;exact h.2.symm
def yi {α β:Type} {P:Program} {s:Sem β} {f:β->Sem α} (h:Still0 P s) (h': ∀x,Still0 P (f x)):Still0 P (s >>= f):=λv y v' e=>by
 cases hs:s.run P v with
 | ok x u=>
   obtain rfl:=h _ _ _ hs;exact h' x _ _ _ ((qw hs).symm.trans e)
 | halt x u=>have:=(f2r (f:=f) hs).symm.trans e;cases this
def ffz {P:Program} (a:Addr) (m:Mode):Still0 P (Go.load a m):=λv x v' e=>by
 unfold Go.load at e;simp only[Sem.run] at e;split at e
 ·cases e;rfl
 ·split at e
  ·cases e;rfl
  ·cases e
def lm {P:Program} (a:Addr): ∀(n i:Nat) (j:Array Value),Still0 P (loadCellsFrom a i n j)
 | 0,i,j=>by unfold loadCellsFrom;exact yh _
 | n+1,i,j=>by unfold loadCellsFrom;exact yi (ffz _ _) λ_=>lm a n _ _
def fc4 {P:Program} (t:TypeId):Still0 P (underlying t):=λv x v' e=>by
 simp only[underlying,Go.program,Bind.bind,Sem.bind,Sem.run] at e;cases h:P.underlying t <;>rw[h] at e <;>simp[Pure.pure,Go.stuck] at e;exact e.2.symm
def nu {P:Program} (t:TypeId):Still0 P (typeInfo t):=λv x v' e=>by
 simp only[typeInfo,Go.program,Bind.bind,Sem.bind,Sem.run] at e;cases h:P.info? t <;>rw[h] at e <;>simp[Pure.pure,Go.stuck] at e;exact e.2.symm
def fjf {P:Program} (t:TypeId) (x:Value):Still0 P (Instr.loadAt t x):=by
 unfold Instr.loadAt;refine yi ?_ λa=>?_
 ·intro v y v' e;unfold Instr.sureAddr at e;split at e
  ·exact yh _ _ _ _ e
  ·cases e
 ·unfold loadVar;refine yi ?_ λb=>?_
  ·unfold isAgg;refine yi (fc4 _) λd=>?_;cases d <;>exact yh _
  ·split
   ·refine yi (yi (nu _) λ_=>yh _) λn=>yi (lm _ _ _ _) λ_=>yh _
   ·exact ffz _ _
def fec {α:Type} (s:Sem α):Prop:= ∀v,ut v-> ∀x v',s.run PV v=.ok x v'->v'.drawn=v.drawn
def Still0.noDraw {α:Type} {s:Sem α} (h:Still0 PV s):fec s:=λv _ x v' e=>by rw[h v x v' e]
def oc {α β:Type} {s:Sem β} {f:β->Sem α} (hs:Sim Tryz.prog rg (λ_=>False) s) (h:fec s) (h': ∀x,fec (f x)):fec (s >>= f):=λv ho y v' e=>by
 rcases feb hs ho with⟨x,u,h1,_⟩|⟨x,u,h1,h2⟩
 ·have:=(f2r (f:=f) h1).symm.trans e;cases this
 ·rw[<- h v ho x u h1];exact h' x u h2 y v' ((qw h1).symm.trans e)
def fjg (a:Addr) (x:Value) (m:Mode):fec (Go.store a x m):=λv ho y v' e=>by
 by_cases hv:x.oneCell'=true
 ·rw [run_store _ _ _ _ _ hv] at e;split at e
  ·split at e
   ·cases e
   ·cases e;rfl
  ·split at e
   ·rename_i hf;cases e;obtain⟨_,_,_,_,_,h,_⟩:=(Rel.refl ho).farStore (P:=V Tryz.prog rg) hf;exact h
   ·cases e
 ·exfalso;cases x <;>first|(simp[Value.oneCell'] at hv;done)|(cases e;done)
def fod (a:Addr) (x:Value):Sim Tryz.prog rg (λ_=>False) (Go.store a x):=Sim.store' _ _ _
def dp (a:Addr): ∀(l:List Value) (i:Nat),fec (storeCells a l i)
 | [],i=>by unfold storeCells;exact(yh _).noDraw
 | x::l,i=>by unfold storeCells;exact oc (fod _ _) (fjg _ _ _) λ_=>dp a l _
def ffc (t:TypeId) (x y:Value):fec (Instr.storeAt t x y):=by
 unfold Instr.storeAt;refine oc ?_ ?_ λa=>?_
 ·unfold Instr.sureAddr;split
  ·exact Sim.pure' _
  ·exact Sim.stuck' _
 ·refine Still0.noDraw λv y v' e=>?_;unfold Instr.sureAddr at e;split at e
  ·exact yh _ _ _ _ e
  ·cases e
 ·unfold storeVar;refine oc (Sim.sizeOf' _) (Still0.noDraw (yi (nu _) λ_=>yh _)) λn=>?_;split
  ·exact λv ho u v' e=>by cases e
  ·exact dp _ _ _
section
variable {Stop:Frame->List Frame->World->Prop} {a:Act} {v:World}
def fjh (x:Value) (v:World):(∃h v',(binOp .eql 147 x (.pointer none)).run PV v=.halt h v'/\hard h=true)\/ ∃b,(binOp .eql 147 x (.pointer none)).run PV v=.ok (.bool b) v/\(b=true->x=.pointer none)/\(b=false-> ∃p,x=.pointer (some p)):=by
 have hu: ∀w,(underlying 147).run PV w=.ok (.pointer 110) w:=λw=>by rw[ua];exact Tryz.runUnderlying147 w
 have q: ∀y,(Op.equal 147 y (.pointer none)).run PV v=(Op.equalIn (9999+1) 147 y (.pointer none)).run PV v:=λy=>by simp only[Op.equal,Op.maxDepth]
 have m: ∀y,(binOp .eql 147 y (.pointer none)=(Op.equal 147 y (.pointer none) >>= λb=>Pure.pure (.bool b):Sem Value))-> ∀r,(Op.equalIn (9999+1) 147 y (.pointer none)).run PV v=r->(binOp .eql 147 y (.pointer none)).run PV v=r.andThen λb w=>.ok (.bool b) w:=by
    intro y e r hr;rw[e];cases r with
    | ok b w=>exact(qw ((q y).trans hr)).trans fx2
    | halt h w=>exact f2r ((q y).trans hr)
 generalize 9999=D at m
 have A:(∀p,x≠ .pointer p)-> ∃h,hard h=true/\(Op.equalIn (D+1) 147 x (.pointer none)).run PV v=.halt h v:=by
    intro hx;cases x <;>first|exact absurd rfl (hx _)|(simp[Op.equalIn,fz9,hu,Result.andThen,Go.stuck,Go.unsupported,Sem.run,hard];done)|(simp[Op.equalIn,fz9,hu,Result.andThen,Go.stuck,Go.unsupported,Sem.run,hard];rfl)
 have j:binOp .eql 147 x (.pointer none)=(Op.equal 147 x (.pointer none) >>= λb=>Pure.pure (.bool b):Sem Value):=by cases x <;>rfl
 cases x with
 | pointer p=>
   cases p with
   | none=>exact .inr ⟨true,by rw[m _ j (.ok true v) j3];rfl,λ_=>rfl,λh=>by cases h⟩
   | some p=>exact .inr ⟨false,by rw[m _ j (.ok false v) j3];rfl,(λh=>by cases h),λ_=>⟨p,rfl⟩⟩
 | _=>
   obtain⟨h,h1,h2⟩:=A (λp h=>by cases h);exact .inl ⟨h,v,by rw[m _ j _ h2];rfl,h1⟩
def foe (x:Value) (v:World):(∃h v',(binOp .eql 146 x (.chan none)).run PV v=.halt h v'/\hard h=true)\/ ∃b,(binOp .eql 146 x (.chan none)).run PV v=.ok (.bool b) v/\(b=false-> ∃k,x=.chan (some k)):=by
 obtain⟨e,d,hd⟩: ∃d e,Tryz.prog.underlying 146=some (.chan d e):=⟨_,_,Tryz.underlying146⟩;have hu: ∀w,(underlying 146).run PV w=.ok (.chan e d) w:=λw=>by rw[ua];exact f0u hd w
 have q: ∀y,(Op.equal 146 y (.chan none)).run PV v=(Op.equalIn (9999+1) 146 y (.chan none)).run PV v:=λy=>by simp only[Op.equal,Op.maxDepth]
 have m: ∀y,(binOp .eql 146 y (.chan none)=(Op.equal 146 y (.chan none) >>= λb=>Pure.pure (.bool b):Sem Value))-> ∀r,(Op.equalIn (9999+1) 146 y (.chan none)).run PV v=r->(binOp .eql 146 y (.chan none)).run PV v=r.andThen λb w=>.ok (.bool b) w:=by
    intro y e r hr;rw[e];cases r with
    | ok b w=>exact(qw ((q y).trans hr)).trans fx2
    | halt h w=>exact f2r ((q y).trans hr)
 generalize 9999=D at m
 have A:(∀p,x≠ .chan p)-> ∃h,hard h=true/\(Op.equalIn (D+1) 146 x (.chan none)).run PV v=.halt h v:=by
    intro hx;cases x <;>first|exact absurd rfl (hx _)|(simp[Op.equalIn,fz9,hu,Result.andThen,Go.stuck,Go.unsupported,Sem.run,hard];done)|(simp[Op.equalIn,fz9,hu,Result.andThen,Go.stuck,Go.unsupported,Sem.run,hard];rfl)
 have j:binOp .eql 146 x (.chan none)=(Op.equal 146 x (.chan none) >>= λb=>Pure.pure (.bool b):Sem Value):=by cases x <;>rfl
 cases x with
 | chan p=>
   cases p with
   | none=>exact .inr ⟨true,by rw[m _ j (.ok true v) j3];rfl,λh=>by cases h⟩
   | some p=>exact .inr ⟨false,by rw[m _ j (.ok false v) j3];rfl,λ_=>⟨p,rfl⟩⟩
 | _=>
   obtain⟨h,h1,h2⟩:=A (λp h=>by cases h);exact .inl ⟨h,v,by rw[m _ j _ h2];rfl,h1⟩
def fg0 {P:Program} {α:Type} (k:Nat) (f:Obj->Sem α) (v:World):(∃h v',(Go.getObj k >>= f).run P v=.halt h v'/\hard h=true)\/ ∃o,v.heap[k]? =some o/\(Go.getObj k >>= f).run P v=(f o).run P v:=by
 cases ho:v.heap[k]? with
 | none=>exact .inl ⟨_,v,by simp[Go.getObj,Bind.bind,Sem.bind,Sem.run,ho];rfl,rfl⟩
 | some o=>
   cases o with
   | cells c e f=>exact .inl ⟨_,v,by simp[Go.getObj,Bind.bind,Sem.bind,Sem.run,ho];rfl,rfl⟩
   | _=>exact .inr ⟨_,rfl,by simp[Go.getObj,Bind.bind,Sem.bind,Sem.run,ho]⟩
def fji (k:Nat) (v:World):(∃h v',(Builtin.cap_ #[146] 3 #[.chan (some k)]).run PV v=.halt h v'/\hard h=true)\/ ∃cap buf cl s r tm,v.heap[k]? =some (.chan cap buf cl s r tm)/\(Builtin.cap_ #[146] 3 #[.chan (some k)]).run PV v=.ok (goInt (if tm then 0 else cap)) v:=by
 obtain⟨e,d,hd⟩: ∃d e,Tryz.prog.underlying 146=some (.chan d e):=⟨_,_,Tryz.underlying146⟩;have hu:(underlying 146).run PV v=.ok (.chan e d) v:=by rw[ua];exact f0u hd v
 have j:(Builtin.cap_ #[146] 3 #[.chan (some k)]).run PV v=(Go.getObj k >>= λo=>match o with
    | .chan n _ _ _ _ timer=>Pure.pure (goInt (if timer then 0 else n))
    | _=>Go.stuck "cap: channel expected" :Sem Value).run PV v:=by
    simp[Builtin.cap_,fz9,hu,Result.andThen];rfl
 rw[j]
 rcases fg0 (P:=PV) k (λo=>match o with
    | .chan n _ _ _ _ timer=>Pure.pure (goInt (if timer then 0 else n))
    | _=>Go.stuck "cap: channel expected" :Obj->Sem Value) v with h|⟨o,ho,h⟩
 ·exact .inl h
 ·rw[h];cases o with
  | chan cap buf cl s r tm=>exact .inr ⟨cap,buf,cl,s,r,tm,ho,rfl⟩
  | _=>exact .inl ⟨_,v,rfl,rfl⟩
def len_run {k cap s r:Nat} {buf:Array Value} {cl tm:Bool} {v:World} (hk:v.heap[k]? =some (.chan cap buf cl s r tm)):(Builtin.len_ #[146] 3 #[.chan (some k)]).run PV v=.ok (goInt (if tm then 0 else buf.size)) v:=by
 obtain⟨e,d,hd⟩: ∃d e,Tryz.prog.underlying 146=some (.chan d e):=⟨_,_,Tryz.underlying146⟩;have hu:(underlying 146).run PV v=.ok (.chan e d) v:=by rw[ua];exact f0u hd v
 have j:(Builtin.len_ #[146] 3 #[.chan (some k)]).run PV v=(Go.getObj k >>= λo=>match o with
    | .chan _ buf _ _ _ timer=>Pure.pure (goInt (if timer then 0 else buf.size))
    | _=>Go.stuck "len: channel expected" :Sem Value).run PV v:=by
    simp[Builtin.len_,fz9,hu,Result.andThen];rfl
 rw[j];simp[Go.getObj,Sem.run,Bind.bind,Sem.bind,hk,Pure.pure]
def bz (A:VS Tryz.prog rg Stop) {ops:Array Oper} {i:Nat} {rest:List Nat} {K:Act->World->Prop} {o:Oper} {r:Result Next} (ho:ops[i]? =some o) (hw: ∀ys,Region.wanted o ys=true) (hr:(execOp a.eval o).run PV v=r)
    (h:fit o a (VO Tryz.prog rg Stop ops rest K) r):VO Tryz.prog rg Stop ops (i::rest) K a v:=uf A ho hw (hr▸h)
section
variable {ops:Array Oper} {i:Nat} {rest:List Nat} {o:Oper} {K:Act->World->Prop} {t:TypeId} {y z:Operand}
def od (A:VS Tryz.prog rg Stop) (ho:ops[i]? =some o) (j:o.op=.load t y) (hw: ∀ys,Region.wanted o ys=true)
    (h: ∀x,(Instr.loadAt t (a.eval y)).run PV v=.ok x v->VO Tryz.prog rg Stop ops rest K (a.put o.dst x) v):VO Tryz.prog rg Stop ops (i::rest) K a v:=fe6 λm=>by
 have e:execOp a.eval o=(Instr.loadAt t (a.eval y) >>= λx=>Pure.pure (.value x):Sem Next):=by unfold execOp;rw[j]
 rcases feb (fah t (a.eval y)) m with⟨hh,v',e1,e2⟩|⟨x,v',e1,_⟩
 ·exact bz A ho hw (r:=.halt hh v') (by rw[e];exact f2r e1) e2
 ·obtain rfl:=fjf _ _ _ _ _ e1;exact bz A ho hw (r:=.ok (.value x) v') (by rw[e];exact qw e1) (h x e1)
def fmt (A:VS Tryz.prog rg Stop) (ho:ops[i]? =some o) (j:o.op=.store t y z) (hw: ∀ys,Region.wanted o ys=true)
    (h: ∀v',(Instr.storeAt t (a.eval y) (a.eval z)).run PV v=.ok () v'->VO Tryz.prog rg Stop ops rest K (a.put o.dst undef) v'):VO Tryz.prog rg Stop ops (i::rest) K a v:=fe6 λm=>by
 have e:execOp a.eval o=(Instr.storeAt t (a.eval y) (a.eval z) >>= λ_=>Pure.pure .skip:Sem Next):=by unfold execOp;rw[j]
 rcases feb (ny t (a.eval y) (a.eval z)) m with⟨hh,v',e1,e2⟩|⟨x,v',e1,_⟩
 ·exact bz A ho hw (r:=.halt hh v') (by rw[e];exact f2r e1) e2
 ·exact bz A ho hw (r:=.ok .skip v') (by rw[e];exact qw e1) (h v' e1)
end
def SendR (p:Addr) (x3:Value) (v v':World):Prop:= ∃k cap buf s r f,(Instr.loadAt 146 (.pointer (some p))).run PV v=.ok (.chan (some k)) v/\v.heap[k]? =some (.chan cap buf false s r false)/\cap≠0/\buf.size<cap/\
 (Instr.loadAt 110 x3).run PV v=.ok f v/\v'=v.setChan k cap (buf.push f) false (s+1) r false
def PutTR (x0 x3 x6:Value) (v v':World) (j:Value):Prop:=(x6=.bool true/\v'=v/\j=.bool false)\/(x6=.bool false/\j=.bool true/\ ∃p,x0=.pointer (some p)/\SendR p x3 v v')
def v_putT (A : VS Tryz.prog rg Stop) (x0 x1 x2 x3 x4 x5 x6 x7 x8 x9 M B C I J D:Value) (tl:List Value):
    VW Tryz.prog rg Stop putT (λe a' v'=>e=.ret/\a'.defers=[]/\PutTR x0 x3 x6 v v' (a'.tmps.getD 4 undef)) { tmps:=(x0::x1::x2::x3::x4::x5::x6::x7::x8::x9::M::B::C::I::J::D::tl).toArray,defers:=[] } v:=by
 unfold putT;refine yy A λt ht=>?_;have ht:x6=.bool t:=ht;subst ht;cases t with
 | true=>
   refine xk A (ue A (uf A rfl (λ_=>rfl) ?_));go_simp;exact vi A (nr A ⟨rfl,rfl,.inl ⟨rfl,rfl,rfl⟩⟩)
 | false =>
   refine xk A (ue A (uf A rfl (λ_=>rfl) ?_));cases x0 with
   | pointer p =>
     cases p with
     | none=>go_simp;exact u0 rfl
     | some p=>
       go_simp;refine od A rfl rfl (λ_=>rfl) λc hc=>?_;have hc:(Instr.loadAt 146 (.pointer (some p))).run PV v=.ok c v:=hc;go_simp;refine uf A rfl (λ_=>rfl) ?_;have hq:=foe c v;go_simp;rcases hq with⟨h,v',e,hh⟩|⟨b,e,hb⟩
       ·rw[e];exact u0 hh
       rw[e];refine vi A (yy A λt ht=>?_);cases b with
       | true=>
         obtain rfl:t=true:=by simpa[Act.eval,Act.put] using ht.symm
         exact zi A _
       | false =>
         obtain rfl:t=false:=by simpa[Act.eval,Act.put] using ht.symm
         obtain⟨k,rfl⟩:=hb rfl;clear e hb ht;refine xk A (ue A (uf A rfl (λ_=>rfl) ?_));have hq:=fji k v;go_simp;rcases hq with⟨h,v',e,hh⟩|⟨cap,buf,cl,s,r,tm,hk,e⟩
         ·rw[e];exact u0 hh
         rw[e];refine uf A rfl (λ_=>rfl) ?_;go_simp;refine vi A (yy A λt ht=>?_);cases t with
         | true=>exact zi A _
         | false=>
           have m:tm=false/\cap≠0:=by
             cases tm with
             | true=>simp[Act.eval,Act.put] at ht
             | false=>exact⟨rfl,by simpa[Act.eval,Act.put] using ht⟩
           obtain⟨rfl,m⟩:=m;clear ht e;go_simp;refine xk A (ue A (od A rfl rfl (λ_=>rfl) λf hf=>?_));have hf:(Instr.loadAt 110 x3).run PV v=.ok f v:=hf;go_simp;refine bz A rfl (λ_=>rfl) (r:=.ok (.comm #[⟨.chan (some k),some f,undef⟩] true .send) v) rfl ?_;refine⟨⟨.chan (some k),some f,undef⟩,rfl,⟨trivial,.inr ⟨rfl,rfl,_,_,_,rfl⟩⟩,λval v2 j=>?_⟩;simp only[uk,hk] at j;cases cl with
           | true=>simp at j
           | false=>
             simp only at j;split at j
             ·rename_i q;cases j;exact bz A rfl (λ_=>rfl) rfl (vi A (nr A ⟨rfl,rfl,.inr ⟨rfl,rfl,p,rfl,k,cap,buf,s,r,f,hc,hk,m,q,hf,rfl⟩⟩))
             ·cases j
   | _=>go_simp;exact u0 rfl
def fjj (x:Value) (v:World):(∃h v',(Builtin.cap_ #[146] 3 #[x]).run PV v=.halt h v'/\hard h=true)\/(x=.chan none/\(Builtin.cap_ #[146] 3 #[x]).run PV v=.ok (goInt 0) v)\/
    ∃k cap buf cl s r tm,x=.chan (some k)/\v.heap[k]? =some (.chan cap buf cl s r tm)/\(Builtin.cap_ #[146] 3 #[x]).run PV v=.ok (goInt (if tm then 0 else cap)) v:=by
 obtain⟨e,d,hd⟩: ∃d e,Tryz.prog.underlying 146=some (.chan d e):=⟨_,_,Tryz.underlying146⟩;have hu:(underlying 146).run PV v=.ok (.chan e d) v:=by rw[ua];exact f0u hd v
 cases x with
 | chan k=>
   cases k with
   | none=>exact .inr (.inl ⟨rfl,by simp[Builtin.cap_,fz9,hu,Result.andThen,Pure.pure,Sem.run]⟩)
   | some k=>
     rcases fji k v with h|⟨cap,buf,cl,s,r,tm,hk,e⟩
     ·exact .inl h
     ·exact .inr (.inr ⟨k,cap,buf,cl,s,r,tm,rfl,hk,e⟩)
 | _=>exact .inl ⟨_,v,by simp[Builtin.cap_,fz9,hu,Result.andThen,Go.stuck,Sem.run];rfl,rfl⟩
noncomputable abbrev zero110:Array Value:=#[.int .i64 0,.int .i64 0,.int .i32 0,.int .i64 0,.int .i64 0,.int .i64 0,.int .i64 0,.int .i64 0,.int .i64 0]
inductive PeekR (p:Addr) (v:World):World->Value->Prop
 | has (q:Addr):(Instr.loadAt 147 (.pointer (some (p.add 1)))).run PV v=.ok (.pointer (some q)) v->PeekR p v v (.pointer (some q))
 | empty (k cap s r:Nat):(Instr.loadAt 147 (.pointer (some (p.add 1)))).run PV v=.ok (.pointer none) v->(Instr.loadAt 146 (.pointer (some p))).run PV v=.ok (.chan (some k)) v->
    v.heap[k]? =some (.chan cap #[] false s r false)->cap≠0->PeekR p v v (.pointer none)
 | gets (k cap s r:Nat) (buf:Array Value) (cl:Bool) (y:Value) (ok:Bool) (v1 v3 v':World) (res:Value):(Instr.loadAt 147 (.pointer (some (p.add 1)))).run PV v=.ok (.pointer none) v->(Instr.loadAt 146 (.pointer (some p))).run PV v=.ok (.chan (some k)) v->
    v.heap[k]? =some (.chan cap buf cl s r false)->cap≠0->((0<buf.size/\ok=true/\y=buf.getD 0 undef/\v1=v.setChan k cap (buf.extract 1 buf.size) cl s (r+1) false)\/(buf=#[]/\cl=true/\ok=false/\y=.agg zero110/\v1=v))->
    (Instr.storeAt 110 (.pointer (some ⟨v1.heap.size,0,none⟩)) y).run PV (v1.alloc (.cells zero110 110))=.ok () v3->(Instr.storeAt 147 (.pointer (some (p.add 1))) (.pointer (some ⟨v1.heap.size,0,none⟩))).run PV v3=.ok () v'->
    (Instr.loadAt 147 (.pointer (some (p.add 1)))).run PV v'=.ok res v'->PeekR p v v' res
def v_peekB (A:VS Tryz.prog rg Stop) (x0 x1 x2 x3 x4 x5 x6 x7 x8 x9 ak ab ac ae ah ad an:Value) (tl:List Value):
    VW Tryz.prog rg Stop fo6 (λe a' v'=>e=.ret/\a'.defers=[]/\ ∃p,x0=.pointer (some p)/\PeekR p v v' (a'.tmps.getD 2 undef)) { tmps:=(x0::x1::x2::x3::x4::x5::x6::x7::x8::x9::ak::ab::ac::ae::ah::ad::an::tl).toArray,defers:=[] } v:=by
 unfold fo6;cases x0 with
 | pointer p =>
   cases p with
   | none=>refine xk A (ue A (uf A rfl (λ_=>rfl) ?_));go_simp;exact u0 rfl
   | some p=>
     have X:(Instr.fieldAt 149 (.pointer (some p)) 1).run PV v=.ok (.pointer (some (p.add 1))) v:=by go_simp
     have hf0:(Instr.fieldAt 149 (.pointer (some p)) 0).run PV v=.ok (.pointer (some p)) v:=by go_simp
     generalize J:p.add 1=p1 at X;refine xk A (ue A (bz A rfl (λ_=>rfl) (r:=.ok (.value (.pointer (some p1))) v) (qw X) (od A rfl rfl (λ_=>rfl) λhd B=>?_)));have B:(Instr.loadAt 147 (.pointer (some p1))).run PV v=.ok hd v:=B;refine uf A rfl (λ_=>rfl) ?_;have hq:=fjh hd v;clear X;go_simp;rcases hq with⟨h,v',e,hh⟩|⟨b,e,U,R⟩
     ·rw[e];exact u0 hh
     rw[e];refine vi A (xk A (yy A λt ht=>?_));cases b with
     | false=>
       obtain rfl:t=false:=by simpa[Act.eval,Act.put] using ht.symm
       obtain⟨q,rfl⟩:=R rfl;clear ht e U R;refine fqc A ?_;refine xk A (ue A (od A rfl rfl (λ_=>rfl) λD j=>?_));have j:(Instr.loadAt 147 (.pointer (some p1))).run PV v=.ok D v:=j;rw[B] at j;cases j;refine vi A (nr A ⟨rfl,rfl,?_⟩);exact .has q (by rw[J];exact B)
     | true=>
       obtain rfl:t=true:=by simpa[Act.eval,Act.put] using ht.symm
       obtain rfl:=U rfl;clear ht e U R;refine xk A (ue A (bz A rfl (λ_=>rfl) (r:=.ok (.value (.pointer (some p))) v) (qw hf0) (od A rfl rfl (λ_=>rfl) λch I=>?_)));have I:(Instr.loadAt 146 (.pointer (some p))).run PV v=.ok ch v:=I;refine uf A rfl (λ_=>rfl) ?_;have hq:=fjj ch v;clear hf0;go_simp;rcases hq with⟨h,v',e,hh⟩|⟨rfl,e⟩|⟨k,cap,buf,cl,s,r,tm,rfl,hk,e⟩
       ·rw[e];exact u0 hh
       ·rw[e];refine uf A rfl (λ_=>rfl) ?_;go_simp;refine vi A (yy A λt ht=>?_);cases t with
        | true=>exact zi A _
        | false=>simp[Act.eval,Act.put] at ht
       ·rw [e];refine uf A rfl (λ_=>rfl) ?_;go_simp;refine vi A (yy A λt ht=>?_);cases t with
        | true=>exact zi A _
        | false =>
          have C:tm=false/\cap≠0:=by
            cases tm with
            | true=>simp[Act.eval,Act.put] at ht
            | false=>exact⟨rfl,by simpa[Act.eval,Act.put] using ht⟩
          obtain⟨rfl,C⟩:=C;clear ht e;go_simp;refine xk A (ue A (uf A rfl (λ_=>rfl) ?_));go_simp;refine⟨_,rfl,⟨trivial,.inl ⟨rfl,rfl,_,_,rfl⟩⟩,λval v2 m=>?_⟩;simp only[uk,hk] at m;have Y:(∃y ok,val=.tuple #[goInt 0,.bool ok,y]/\((0<buf.size/\ok=true/\y=buf.getD 0 undef/\v2=v.setChan k cap (buf.extract 1 buf.size) cl s (r+1) false)\/(buf=#[]/\cl=true/\ok=false/\y=.agg zero110/\v2=v)))\/
           (∃z,val=.tuple #[goInt (-1),.bool false,z]/\v2=v/\buf=#[]/\cl=false):=by
            by_cases hb:0<buf.size
            ·rw[f02 hb] at m;cases m;exact .inl ⟨_,true,rfl,.inl ⟨hb,rfl,rfl,rfl⟩⟩
            ·have aa:buf=#[]:=by
               apply f4y;omega
             rw[fx9 hb] at m;cases cl with
             | true=>
               rw[f02 rfl] at m;cases m;exact .inl ⟨_,false,rfl,.inr ⟨aa,rfl,rfl,rfl,rfl⟩⟩
             | false=>
               rw[fx9 fi] at m;cases m;exact .inr ⟨_,rfl,rfl,aa,rfl⟩
          clear m;rcases Y with⟨y,ok,rfl,O⟩|⟨z,rfl,rfl,rfl,rfl⟩
          ·refine uf A rfl (λ_=>rfl) ?_;go_simp;refine uf A rfl (λ_=>rfl) ?_;go_simp;refine vi A (yy A λt ht=>?_);obtain rfl:t=true:=by simpa[Act.eval,Act.put] using ht.symm
           clear ht;refine ue A (uf A rfl (λ_=>rfl) ?_);go_simp;refine bz A rfl (λ_=>rfl) (r:=.ok (.value (.pointer (some ⟨v2.heap.size,0,none⟩))) (v2.alloc (.cells zero110 110))) gw ?_;refine fmt A rfl rfl (λ_=>rfl) λv3 M=>?_;have M:(Instr.storeAt 110 (.pointer (some ⟨v2.heap.size,0,none⟩)) y).run PV (v2.alloc (.cells zero110 110))=.ok () v3:=M;refine fmt A rfl rfl (λ_=>rfl) λv4 W=>?_;have W:(Instr.storeAt 147 (.pointer (some p1)) (.pointer (some ⟨v2.heap.size,0,none⟩))).run PV v3=.ok () v4:=W;refine vi A ?_;refine xk A (ue A (od A rfl rfl (λ_=>rfl) λD j=>?_));have j:(Instr.loadAt 147 (.pointer (some p1))).run PV v4=.ok D v4:=j;refine vi A (nr A ⟨rfl,rfl,?_⟩);subst J;exact .gets k cap s r buf cl y ok v2 v3 v4 D B I hk C O M W j
          ·refine uf A rfl (λ_=>rfl) ?_;go_simp;refine uf A rfl (λ_=>rfl) ?_;go_simp;refine vi A (yy A λt ht=>?_);obtain rfl:t=false:=by simpa[Act.eval,Act.put] using ht.symm
           clear ht;refine fqc A ?_;refine xk A (ue A (od A rfl rfl (λ_=>rfl) λD j=>?_));have j:(Instr.loadAt 147 (.pointer (some p1))).run PV v2=.ok D v2:=j;rw[B] at j;cases j;refine vi A (nr A ⟨rfl,rfl,?_⟩);subst J;exact .empty k cap s r B I hk C
 | _=>refine xk A (ue A (uf A rfl (λ_=>rfl) ?_));go_simp;exact u0 rfl
end
end Go.Proofs.YtelecjnabeokeaaGreatDoor
namespace Go.Proofs.YtelecjnabeokeaaGreatDoor
open Go Go.RowKit
structure Lnk (w:World) (l c room:Nat) (U:List Plain.Frm):Prop where
 lb:Bk w l 149 #[.chan (some c),.pointer none]
 ch: ∃s r,w.heap[c]? =some (.chan room (U.map frmV).toArray false s r false)
def Lnk.len {w:World} {l c room:Nat} {U:List Plain.Frm} (h:Lnk w l c room U):(Builtin.len_ #[146] 3 #[.chan (some c)]).run PV w=.ok (.int .i64 U.length) w:=by
 obtain⟨s,r,h⟩:=h.ch;rw[len_run h];simp[goInt]
def cap_run {k cap s r:Nat} {buf:Array Value} {cl tm:Bool} {v:World} (hk:v.heap[k]? =some (.chan cap buf cl s r tm)):(Builtin.cap_ #[146] 3 #[.chan (some k)]).run PV v=.ok (goInt (if tm then 0 else cap)) v:=by
 obtain⟨e,d,hd⟩: ∃d e,Tryz.prog.underlying 146=some (.chan d e):=⟨_,_,Tryz.underlying146⟩;have hu:(underlying 146).run PV v=.ok (.chan e d) v:=by rw[ua];exact f0u hd v
 have j:(Builtin.cap_ #[146] 3 #[.chan (some k)]).run PV v=(Go.getObj k >>= λo=>match o with
    | .chan n _ _ _ _ timer=>Pure.pure (goInt (if timer then 0 else n))
    | _=>Go.stuck "cap: channel expected" :Sem Value).run PV v:=by
    simp[Builtin.cap_,fz9,hu,Result.andThen];rfl
 rw[j];simp[Go.getObj,Sem.run,Bind.bind,Sem.bind,hk,Pure.pure]
def Lnk.cap {w:World} {l c room:Nat} {U:List Plain.Frm} (h:Lnk w l c room U):(Builtin.cap_ #[146] 3 #[.chan (some c)]).run PV w=.ok (.int .i64 room) w:=by
 obtain⟨s,r,h⟩:=h.ch;rw[cap_run h];rfl
def flo (l c room:Nat) (U:List Plain.Frm) (w:World) (h:Lnk w l c room U) (hU:U.length<=1000):Calls PV 92 #[.pointer (some ⟨l,0,none⟩)] w λx w'=>x=.returned (.int .i64 U.length)/\w'=w:=by
 have hl:=h.len;obtain⟨hc,hf⟩:=h.lb.ceF;go_enter PV.func92,Tryz.ntmps92;go_wp2;go_ret;exact⟨rfl,rfl⟩
def Lnk.ch_ {w w':World} {l c room:Nat} {U:List Plain.Frm} {K:Nat->Prop} (h:Lnk w l c room U) (hc:Ch K w w') (h1: ¬K l) (h2: ¬K c):Lnk w' l c room U:=by
 obtain⟨s,r,h3⟩:=h.ch;exact⟨h.lb.ch hc h1,s,r,(hc.block c (fx5.1 h3).1 h2).trans h3⟩
def Lnk.bl {w w':World} {l c room:Nat} {U:List Plain.Frm} (h:Lnk w l c room U) (hb:Bl w w'):Lnk w' l c room U:=h.ch_ (K:=λ_=>False) (Ch.ba hb) (λh=>h) (λh=>h)
def ia (l c room:Nat) (U:List Plain.Frm) (w:World) (h:Lnk w l c room U) (hU:U.length<=1000) (hr:room<=1000):Calls PV 87 #[.pointer (some ⟨l,0,none⟩)] w λx w'=>x=.returned (.bool (decide ((U.length:Int)=(room:Int))))/\w'=w.drew:=by
 have hL:=fx6 (λW (hW:Bl w W)=>flo l c room U W (h.bl hW) hU);have j:=(h.bl ((Bl.rf w).dr)).cap;have hb:=h.lb;clear h;go_enter PV.func87,Tryz.ntmps87;go_wp2_with fail;refine rn (sel [λw'=>Bk w' l 149 #[.chan (some c),.pointer none]]) [(.h 9,0),(.h 9,2),(.h 9,3),(.h 9,4),(.h 0,5),(.c [0,9],1),(.c [9],6),(.h 9,7),(.h 9,8)] fd fd (qy (Bk.dr hb) (λ_=>un)) ?_;simp only[vg,fy9,fz4,fz3,fy2,fx7,fy0];iterate 5 (refine u6 (v:=?_) ?_ ?_;rotate_left;(intro w' hSw;(try (have c1:=Bk.ce hSw));clear hSw;go_simp;try with_reducible rfl);try simp only[aps])
 (refine rx (λK hK=>?_);go_simp;go_at_call 92;refine(hL.out _ (by first|exact Bl.dr (Bl.rf _)|exact Bl.rf _)).mono ?_;rintro e w1 ⟨rfl,rfl⟩;(try dsimp only);refine hK _ _ (rh (Bk.dr hb) (rh trivial ry)) ?_;clear hK K;try simp only[aps])
 (refine rx (λK hK=>?_);go_simp;refine hK _ _ (rh trivial ry) ?_;clear hK K;try simp only[aps]);iterate 2 (refine u6 (v:=?_) ?_ ?_;rotate_left;(intro w' hSw;(try (have c1:=Bk.ce hSw));clear hSw;go_simp;try with_reducible rfl);try simp only[aps])
 refine ub ?_;go_wp2_with fail;go_ret;exact⟨rfl,rfl⟩
end Go.Proofs.YtelecjnabeokeaaGreatDoor
namespace Go.Proofs.YtelecjnabeokeaaGreatDoor
open Go Go.Conc
structure fg9 (P:Program) (ops:Array Oper) (Q:Exit->Act->World->Prop) (l:List Nat) (a:Act) (w:World):Prop where
 out: ∀(b:Frame) (k:List Item) (cs:List Frame),∃e a' w',Q e a' w'/\Arrives P (lone (b.at a (.inRegion ops l::k)) cs w) b k cs e a' w'
section
variable {P:Program} {ops:Array Oper} {Q:Exit->Act->World->Prop} {a:Act} {w w':World} {i:Nat} {rest:List Nat} {o:Oper}
def dz (h:Q .normal a w):fg9 P ops Q [] a w:=⟨λb k cs=>⟨.normal,a,w,h,.one step_region_end⟩⟩
def xg {v:Value} (ho:ops[i]? =some o) (hg:o.guard=none) (hr:(execOp a.eval o).run P w=.ok (.value v) w') (h:fg9 P ops Q rest (a.put o.dst v) w'):fg9 P ops Q (i::rest) a w:=⟨λb k cs=>by
 have hg:=stepG_op (P:=P) (b:=b) (k:=k) (cs:=cs) (w:=w) (rest:=rest) ho (by simp[Region.wanted,hg]:Region.wanted o (yielded ops a.tmps)=true)
 have j: ∀v,(b.at a (.inRegion ops (i::rest)::k)).finish v=b.at (a.put o.dst v) (.inRegion ops rest::k):=by
    intro v;rw[f0i,ho];rfl
 obtain⟨e,a',q,hq,m⟩:=h.out b k cs;refine⟨e,a',q,hq,.of_steps (.one (f3t ?_)) m⟩;rw[hg,<- j];simp[stepG.apply,hr]⟩
def bn {c:CommCase} {bl:Bool} {sh:CommShape} {val:Value} {w1:World} (ho:ops[i]? =some o) (hg:o.guard=none) (hr:(execOp a.eval o).run P w=.ok (.comm #[c] bl sh) w1) (hf:fku c bl sh) (hc:uk c w1=some (val,w'))
    (h:fg9 P ops Q rest (a.put o.dst val) w'):fg9 P ops Q (i::rest) a w:=⟨λb k cs=>by
 have hg:=stepG_op (P:=P) (b:=b) (k:=k) (cs:=cs) (w:=w) (rest:=rest) ho (by simp[Region.wanted,hg]:Region.wanted o (yielded ops a.tmps)=true)
 have q: ∀v,(b.at a (.inRegion ops (i::rest)::k)).finish v=b.at (a.put o.dst v) (.inRegion ops rest::k):=by
    intro v;rw[f0i,ho];rfl
 obtain⟨e,a',A,hq,m⟩:=h.out b k cs;refine⟨e,a',A,hq,.of_steps (.one ?_) m⟩;rw[<- q]
 have j: ∃es,stepG P true (G (b.at a (.inRegion ops (i::rest)::k)) cs) w=.comm (G (b.at a (.inRegion ops (i::rest)::k)) cs) #[c] bl sh w1 es:=by
    have B:stepG P true (G (b.at a (.inRegion ops (i::rest)::k)) cs) w=stepG.apply P true (b.at a (.inRegion ops (i::rest)::k)) cs none (execOp a.eval o) w:=hg;rw[B];simp only[stepG.apply,f4h,hr,GStep.bare_after];exact⟨_,rfl⟩
 obtain⟨es,j⟩:=j;exact fdq j hf hc⟩
def yr {id:Nat} (h:fg9 P ops Q (List.range ops.size) a w):(Code.region id ops false).wp P Q a w:=
 λb k cs=>let ⟨e,a',w',q,r⟩:=h.out b k cs;⟨e,a',w',q,.of_steps (.one step_region) r⟩
end
end Go.Proofs.YtelecjnabeokeaaGreatDoor
namespace Go.Proofs.YtelecjnabeokeaaGreatDoor
open Go Go.RowKit
structure Base (w:World):Prop where
 b0: ∃t c,Bk w 0 t c
 b1: ∃t c,Bk w 1 t c
def info102:(PV.info? 102).map (·.size)=some 2:=by kernel_rfl
def und99:PV.underlying 99=some (.pointer 102):=by kernel_rfl
def Base.chk {w:World} (h:Base w) {l:Nat} {t:TypeId} {cs:Array Value} (hl:Bk w l t cs) (h2:2<=l) (o:Nat):
    (binOp .eql 99 (.pointer (some ⟨l,o,none⟩)) (.pointer (some ⟨0,0,none⟩))).run PV w=.ok (.bool false) w/\(binOp .eql 99 (.pointer (some ⟨l,o,none⟩)) (.pointer (some ⟨1,0,none⟩))).run PV w=.ok (.bool false) w:=by
 obtain⟨t0,c0,h0⟩:=h.b0;obtain⟨t1,c1,h1⟩:=h.b1
 obtain⟨i,hi,hs⟩: ∃i,PV.info? 102=some i/\i.size=2:=by
    have:=info102;cases hi:PV.info? 102 with
    | none=>rw[hi] at this;cases this
    | some i=>rw[hi] at this;exact⟨i,rfl,by simpa using this⟩
 have ne: ∀g,g<2->(⟨l,o,none⟩:Addr)≠⟨g,0,none⟩:=λg hg e=>by
    injection e with e1
    omega
 exact⟨run_eql_ptr_other w und99 hi fe (ne 0 fe) hl.at_ h0.at_,run_eql_ptr_other w und99 hi fe (ne 1 fe) hl.at_ h1.at_⟩
def fuy (c:Nat) (w:World):(binOp .eql 146 (.chan (some c)) (.chan none)).run PV w=.ok (.bool false) w:=by kernel_rfl
def fos:putV.ntmps=16:=rfl
def Ch.sc {K:Nat->Prop} {w w1:World} (h:Ch K w w1) {c cap:Nat} {buf:Array Value} {cl tm:Bool} {s r:Nat} (hc:K c\/w.heap.size<=c):Ch K w (w1.setChan c cap buf cl s r tm):=
 h.tr (K':=λx=>x=c) ⟨rfl,rfl,rfl,by simp[World.setChan],λx _ hn=>by simp[World.setChan,fy1,f3w hn]⟩ λx e=>by subst e;exact hc
def put_any (l c room:Nat) (U:List Plain.Frm) (kind pos r cc n cl m j cur:Int) (w:World) (hb:Base w) (h:Lnk w l c room U) (h2:2<=l) (hU:U.length<room) (hr:room<=1000):
    Calls PV 90 #[.pointer (some ⟨l,0,none⟩),.agg #[.int .i64 kind,.int .i64 pos,.int .i32 r,.int .i64 cc,.int .i64 n,.int .i64 cl,.int .i64 m,.int .i64 j,.int .i64 cur]] w λx w'=>x=.returned (.bool true)/\Lnk w' l c room (U++[⟨⟨kind,pos,⟨r,cc,n⟩,cl⟩,m,j,cur⟩])/\Ch (λx=>x=c) w w':=by
 obtain⟨k0,k1⟩:=hb.chk h.lb h2 0;have D:=fuy c;have hL:=fx6 h;have A:=(h.bl (((Bl.rf w).al (.cells #[.int .i64 kind,.int .i64 pos,.int .i32 r,.int .i64 cc,.int .i64 n,.int .i64 cl,.int .i64 m,.int .i64 j,.int .i64 cur] 110)).dr)).cap;have J:((room:Int)==0)=false:=by simpa using (by omega: ¬room=0)
 obtain⟨hc,hf⟩:=h.lb.ceF;obtain⟨I,M⟩:=bx l;have hlt:=h.lb.lt;clear h;go_enter PV.func90,fos;simp only[putB,putT,zm,chkR,chk,oper];go_upto_region 5 with(first|(go_at_call 87;refine(ia l c room U _ (hL.out.bl ga) fe hr).mono ?_;rintro e w1 ⟨rfl,rfl⟩))
 refine yr ?_;obtain⟨ss,rr,q⟩:=(hL.out.bl (((Bl.rf w).al (.cells #[.int .i64 kind,.int .i64 pos,.int .i32 r,.int .i64 cc,.int .i64 n,.int .i64 cl,.int .i64 m,.int .i64 j,.int .i64 cur] 110)).dr)).ch;have B:=Bk.dr (Bk.nw (w:=w) (t:=110) (cs:=#[.int .i64 kind,.int .i64 pos,.int .i32 r,.int .i64 cc,.int .i64 n,.int .i64 cl,.int .i64 m,.int .i64 j,.int .i64 cur]) rfl);refine xg rfl rfl (v:=.agg #[.int .i64 kind,.int .i64 pos,.int .i32 r,.int .i64 cc,.int .i64 n,.int .i64 cl,.int .i64 m,.int .i64 j,.int .i64 cur]) (w':=(w.alloc (.cells #[.int .i64 kind,.int .i64 pos,.int .i32 r,.int .i64 cc,.int .i64 n,.int .i64 cl,.int .i64 m,.int .i64 j,.int .i64 cur] 110)).drew) ?_ ?_
 ·obtain⟨c1,d1⟩:=B.ceF;go_simp
 refine bn (c:=⟨.chan (some c),some (.agg #[.int .i64 kind,.int .i64 pos,.int .i32 r,.int .i64 cc,.int .i64 n,.int .i64 cl,.int .i64 m,.int .i64 j,.int .i64 cur]),undef⟩) (w1:=(w.alloc (.cells #[.int .i64 kind,.int .i64 pos,.int .i32 r,.int .i64 cc,.int .i64 n,.int .i64 cl,.int .i64 m,.int .i64 j,.int .i64 cur] 110)).drew) rfl rfl rfl (.inr ⟨rfl,rfl,_,rfl⟩) (val:=undef) (w':=(w.alloc (.cells #[.int .i64 kind,.int .i64 pos,.int .i32 r,.int .i64 cc,.int .i64 n,.int .i64 cl,.int .i64 m,.int .i64 j,.int .i64 cur] 110)).drew.setChan c room ((U.map frmV).toArray.push (.agg #[.int .i64 kind,.int .i64 pos,.int .i32 r,.int .i64 cc,.int .i64 n,.int .i64 cl,.int .i64 m,.int .i64 j,.int .i64 cur])) false (ss+1) rr false) ?_ ?_
 ·simp only[uk,q];rw[f02 (by simpa using hU)]
 refine xg rfl rfl (v:=.bool true) (w':=(w.alloc (.cells #[.int .i64 kind,.int .i64 pos,.int .i32 r,.int .i64 cc,.int .i64 n,.int .i64 cl,.int .i64 m,.int .i64 j,.int .i64 cur] 110)).drew.setChan c room ((U.map frmV).toArray.push (.agg #[.int .i64 kind,.int .i64 pos,.int .i32 r,.int .i64 cc,.int .i64 n,.int .i64 cl,.int .i64 m,.int .i64 j,.int .i64 cur])) false (ss+1) rr false) rfl ?_;refine dz ?_;simp only[Act.put,f2x,f2j,f2k,f1m,f3i,f3j]
 have C:l≠c:=by
    rintro rfl;have h1:=hL.out.lb.at_;obtain⟨s1,r1,h3⟩:=hL.out.ch;rw[h3] at h1;cases h1
 have hC:Ch (λx=>x=c) w ((w.alloc (.cells #[.int .i64 kind,.int .i64 pos,.int .i32 r,.int .i64 cc,.int .i64 n,.int .i64 cl,.int .i64 m,.int .i64 j,.int .i64 cur] 110)).drew.setChan c room ((U.map frmV).toArray.push (.agg #[.int .i64 kind,.int .i64 pos,.int .i32 r,.int .i64 cc,.int .i64 n,.int .i64 cl,.int .i64 m,.int .i64 j,.int .i64 cur])) false (ss+1) rr false):=(((Ch.rf _ w).al _).dr).sc (.inl rfl);refine vy (F:=λW=>Lnk W l c room (U++[⟨⟨kind,pos,⟨r,cc,n⟩,cl⟩,m,j,cur⟩])/\Ch (λx=>x=c) w W) ⟨⟨Bk.ch hC C hL.out.lb,ss+1,rr,?_⟩,hC⟩ ?_
 ·rw[Conc.heap_setChan _ _ _ _ _ _ _ _ (fx5.1 q).1];simp[List.map_append]
 clear hC A q B;rintro W ⟨g1,g2⟩;replace g1:=fx6 g1;replace g2:=fx6 g2;go_wp2;go_ret;exact⟨rfl,g1.out,g2.out⟩
abbrev zFrm:Value:=.agg #[.int .i64 0,.int .i64 0,.int .i32 0,.int .i64 0,.int .i64 0,.int .i64 0,.int .i64 0,.int .i64 0,.int .i64 0]
def fep:peekV.ntmps=24:=rfl
def peek0 (l c room:Nat) (w:World) (hb:Base w) (h:Lnk w l c room []) (h2:2<=l) (A:1<=room):
    Calls PV 116 #[.pointer (some ⟨l,0,none⟩)] w λx w'=>x=.returned (.pointer none)/\w'=w:=by
 obtain⟨k0,k1⟩:=hb.chk h.lb h2 0;have hL:=fx6 h;have m:=h.cap;have q:((room:Int)==0)=false:=by simpa using (by omega: ¬room=0)
 obtain⟨hc,hf⟩:=h.lb.ceF;clear h;go_enter PV.func116,fep;simp only[fo6,chkR,chk,oper];go_upto_region 2 with fail
 refine yr ?_;obtain⟨ss,rr,j⟩:=hL.out.ch;refine bn (c:=⟨.chan (some c),none,zFrm⟩) (w1:=w) rfl rfl fd (.inl ⟨rfl,rfl,rfl⟩) (val:=.tuple #[goInt (-1),.bool false,zFrm]) (w':=w) ?_ ?_
 ·simp only[uk,j];rw[fx9 fi];rfl
 refine xg rfl rfl (v:=.int .i64 (-1)) (w':=w) rfl ?_;refine xg rfl rfl (v:=.bool false) (w':=w) fd ?_;refine dz ?_;simp only[Act.put,f2x,f2j,f2k,f1m,f3i,f3j];clear j;go_wp2;go_ret;exact⟨rfl,rfl⟩
def peek1 (l c room:Nat) (kind pos r cc n cl q j cur:Int) (U:List Plain.Frm) (w:World) (hb:Base w) (h:Lnk w l c room (⟨⟨kind,pos,⟨r,cc,n⟩,cl⟩,q,j,cur⟩::U)) (h2:2<=l) (Y:1<=room):
    Calls PV 116 #[.pointer (some ⟨l,0,none⟩)] w λx w'=>x=.returned (.pointer (some ⟨w.heap.size,0,none⟩))/\Bk w' w.heap.size 110 (frmC ⟨⟨kind,pos,⟨r,cc,n⟩,cl⟩,q,j,cur⟩)/\Bk w' l 149 #[.chan (some c),.pointer (some ⟨w.heap.size,0,none⟩)]/\
     (∃s r,w'.heap[c]? =some (.chan room (U.map frmV).toArray false s r false))/\Ch (λx=>x=c\/x=l) w w':=by
 obtain⟨k0,k1⟩:=hb.chk h.lb h2 0;have hL:=fx6 h;have D:=h.cap;have R:((room:Int)==0)=false:=by simpa using (by omega: ¬room=0)
 obtain⟨hc,hf⟩:=h.lb.ceF;clear h;go_enter PV.func116,fep;simp only[fo6,chkR,chk,oper];go_upto_region 2 with fail
 refine yr ?_;obtain⟨ss,rr,A⟩:=hL.out.ch;refine bn (c:=⟨.chan (some c),none,zFrm⟩) (w1:=w) rfl rfl fd (.inl ⟨rfl,rfl,rfl⟩) (val:=.tuple #[goInt 0,.bool true,frmV ⟨⟨kind,pos,⟨r,cc,n⟩,cl⟩,q,j,cur⟩]) (w':=w.setChan c room (U.map frmV).toArray false ss (rr+1) false) ?_ ?_
 ·simp only[uk,A];rw[f02 fi];simp only[f3c,f3s,fz6,List.extract_toArray];simp;rw[List.take_of_length_le fi]
 have B:l≠c:=by
    rintro rfl;have h1:=hL.out.lb.at_;rw[A] at h1;cases h1
 have hC:Ch (λx=>x=c\/x=l) w (w.setChan c room (U.map frmV).toArray false ss (rr+1) false):=(Ch.rf _ w).sc (.inl (.inl rfl));have C:Ch (λx=>x=c) w (w.setChan c room (U.map frmV).toArray false ss (rr+1) false):=(Ch.rf _ w).sc (.inl rfl);have hB:=Bk.ch C B hL.out.lb;have m:(w.setChan c room (U.map frmV).toArray false ss (rr+1) false).heap[c]? =some (.chan room (U.map frmV).toArray false ss (rr+1) false):=Conc.heap_setChan _ _ _ _ _ _ _ _ (fx5.1 A).1;have hsz:(w.setChan c room (U.map frmV).toArray false ss (rr+1) false).heap.size=w.heap.size:=by simp[World.setChan]
 clear C A D hc hf k0 k1;generalize w.setChan c room (U.map frmV).toArray false ss (rr+1) false=W at*;refine xg rfl rfl (v:=.int .i64 0) (w':=W) rfl ?_;refine xg rfl rfl (v:=.bool true) (w':=W) fd ?_;refine dz ?_;simp only[Act.put,f2x,f2j,f2k,f1m,f3i,f3j];obtain⟨hc,hf⟩:=hB.ceF;have hlt:=hB.lt;have M: ¬(l=W.heap.size):=by omega
 have J: ¬(W.heap.size=l):=by omega
 obtain⟨O,X⟩:=bx l;replace m:=fx6 m;replace hC:=fx6 hC;replace hB:=fx6 hB;replace hsz:=fx6 hsz;go_wp2;go_ret;refine⟨by simp[hsz.out],Bk.nw (by simpa[World.setCell] using hsz.out),?_,?_,?_⟩
 ·rw[<- hsz.out];exact Bk.al (Bk.cv (Bk.st _ hB.out) fi) _
 ·have I:Ch (λx=>x=l) W ((W.setCell ⟨l,1,none⟩ (.pointer (some ⟨W.heap.size,0,none⟩))).alloc (.cells (frmC ⟨⟨kind,pos,⟨r,cc,n⟩,cl⟩,q,j,cur⟩) 110)):=((Ch.rf (λx=>x=l) W).st (p:=⟨l,1,none⟩) (.inl rfl) _).al _;exact⟨ss,rr+1,(I.block c (fx5.1 m.out).1 (f3w B)).trans m.out⟩
 ·exact(hC.out.st (.inl (.inr rfl)) _).al _
def Base.bl {w w':World} (h:Base w) (hb:Bl w w'):Base w':=⟨by obtain⟨t,c,h⟩:=h.b0;exact⟨t,c,h.bl hb⟩,by obtain⟨t,c,h⟩:=h.b1;exact⟨t,c,h.bl hb⟩⟩
def Base.ch {w w':World} {K:Nat->Prop} (h:Base w) (hc:Ch K w w') (h0: ¬K 0) (h1: ¬K 1):Base w':=⟨by obtain⟨t,c,h⟩:=h.b0;exact⟨t,c,h.ch hc h0⟩,by obtain⟨t,c,h⟩:=h.b1;exact⟨t,c,h.ch hc h1⟩⟩
def uh {w:World} {l c room:Nat} {U:List Plain.Frm} (h:Lnk w l c room U) {g:Nat} {t:TypeId} {cs:Array Value} (hg:Bk w g t cs):g≠c:=by
 rintro rfl;obtain⟨s,r,h3⟩:=h.ch;rw[hg.at_] at h3;cases h3
def ltake0 (l c room:Nat) (w:World) (hb:Base w) (h:Lnk w l c room []) (h2:2<=l) (j:1<=room):
    Calls PV 93 #[.pointer (some ⟨l,0,none⟩)] w λx w'=>x=.returned (.tuple #[zFrm,.bool false])/\Lnk w' l c room []/\Ch (λx=>x=l) w w':=by
 have hP:=fx6 (λW (hW:Bl w W)=>peek0 l c room W (hb.bl hW) (h.bl hW) h2 j);obtain⟨hc,hf⟩:=h.lb.ceF;obtain⟨A,B⟩:=bx l;have hlt:=h.lb.lt;have q: ¬(l=w.heap.size):=by omega
 have m: ¬(w.heap.size=l):=by omega
 have hL:=fx6 h;clear h;go_enter PV.func93,Tryz.ntmps93;go_wp2_with (first|(go_at_call 116;refine(hP.out _ fg).mono ?_;rintro e w1 ⟨rfl,rfl⟩));have hC:Ch (λx=>x=l) w (((w.setCell ⟨l,1,none⟩ (.pointer none)).alloc (.cells #[.int .i64 0,.int .i64 0,.int .i32 0,.int .i64 0,.int .i64 0,.int .i64 0,.int .i64 0,.int .i64 0,.int .i64 0] 110)).alloc (.cells #[.int .i64 0,.int .i64 0,.int .i32 0,.int .i64 0,.int .i64 0,.int .i64 0,.int .i64 0,.int .i64 0,.int .i64 0] 110)):=((Ch.rf (λx=>x=l) w).st (p:=⟨l,1,none⟩) (.inl rfl) _ |>.al _).al _;refine f0q (v:=.tuple #[zFrm,.bool false]) (by simp[results,Tryz.results93,go_sem]) rfl ⟨rfl,⟨Bk.al (Bk.al (Bk.cv (Bk.st _ hL.out.lb) fi) _) _,?_⟩,hC⟩;obtain⟨s,r,h3⟩:=hL.out.ch;exact⟨s,r,(hC.block c (fx5.1 h3).1 (f3w (uh hL.out hL.out.lb))).trans h3⟩
def ltake1 (l c room:Nat) (kind pos r cc n cl m j cur:Int) (U:List Plain.Frm) (w:World) (hb:Base w) (h:Lnk w l c room (⟨⟨kind,pos,⟨r,cc,n⟩,cl⟩,m,j,cur⟩::U)) (h2:2<=l) (D:1<=room):
    Calls PV 93 #[.pointer (some ⟨l,0,none⟩)] w λx w'=>x=.returned (.tuple #[.agg #[.int .i64 kind,.int .i64 pos,.int .i32 r,.int .i64 cc,.int .i64 n,.int .i64 cl,.int .i64 m,.int .i64 j,.int .i64 cur],.bool true])/\Lnk w' l c room U/\Ch (λx=>x=c\/x=l) w w':=by
 have hP:=fx6 (λW (hW:Bl w W)=>peek1 l c room kind pos r cc n cl m j cur U W (hb.bl hW) (h.bl hW) h2 D);have hlt:=h.lb.lt;have R:=uh h h.lb;have ac: ¬(l=w.heap.size+1):=by omega
 have Y: ¬(w.heap.size+1=l):=by omega
 have aa: ¬(l=w.heap.size):=by omega
 have M: ¬(w.heap.size=l):=by omega
 have O:c<w.heap.size:=by obtain⟨s,r,h3⟩:=h.ch;exact(fx5.1 h3).1
 clear h;go_enter PV.func93,Tryz.ntmps93
 go_wp2_with (first | (go_at_call 116;refine(hP.out _ fg).mono ?_;rintro e w1 ⟨rfl,C,A,q,B⟩
                       rw[World.size_alloc] at C A;have I:=Bk.ch B ja (Bk.nw (w:=w) (t:=110) (cs:=#[.int .i64 0,.int .i64 0,.int .i32 0,.int .i64 0,.int .i64 0,.int .i64 0,.int .i64 0,.int .i64 0,.int .i64 0]) (n:=w.heap.size) rfl);obtain⟨cx,dx⟩:=C.ceF;obtain⟨X,ab⟩:=A.ceF;obtain⟨c0,d0⟩:=I.ceF))
 obtain⟨s1,r1,q⟩:=q;refine f0q (v:=.tuple #[.agg #[.int .i64 kind,.int .i64 pos,.int .i32 r,.int .i64 cc,.int .i64 n,.int .i64 cl,.int .i64 m,.int .i64 j,.int .i64 cur],.bool true]) (by simp[results,Tryz.results93,go_sem,c0]) rfl ⟨rfl,⟨?_,s1,r1,?_⟩,?_⟩
 ·iterate 9 (with_reducible refine Bk.fr _ fw ?_)
  exact Bk.cv (Bk.st _ A) fi
 ·have J:c<w1.heap.size:=(fx5.1 q).1;refine(Ch.block (K:=λx=>x=l\/x=w.heap.size) (w:=w1) ?_ c J fe).trans q;repeat' (first|with_reducible exact Ch.rf _ _|with_reducible refine Ch.st ?_ fi _)
 ·have h0:Ch (λx=>x=c\/x=l) w w1:=((Ch.rf _ w).al _).tr B (λx hx=>.inl hx);repeat' (first|with_reducible exact h0|with_reducible refine Ch.st ?_ fi _)
def fga (l c room:Nat) (f:Plain.Frm) (U:List Plain.Frm) (w:World) (hb:Base w) (h:Lnk w l c room (f::U)) (h2:2<=l) (q:1<=room):
    Calls PV 93 #[.pointer (some ⟨l,0,none⟩)] w λx w'=>x=.returned (.tuple #[frmV f,.bool true])/\Lnk w' l c room U/\Ch (λx=>x=c\/x=l) w w':=by
 rcases f with⟨⟨kind,pos,⟨r,cc,n⟩,cl⟩,m,j,cur⟩;exact ltake1 l c room kind pos r cc n cl m j cur U w hb h h2 q
def fcn (l c room:Nat) (U:List Plain.Frm) (f:Plain.Frm) (w:World) (hb:Base w) (h:Lnk w l c room U) (h2:2<=l) (hU:U.length<room) (hr:room<=1000):
    Calls PV 90 #[.pointer (some ⟨l,0,none⟩),frmV f] w λx w'=>x=.returned (.bool true)/\Lnk w' l c room (U++[f])/\Ch (λx=>x=c) w w':=by
 rcases f with⟨⟨kind,pos,⟨r,cc,n⟩,cl⟩,m,j,cur⟩;exact put_any l c room U kind pos r cc n cl m j cur w hb h h2 hU hr
def info110:(PV.info? 110).map (·.bytes)=some 72:=by kernel_rfl
def mkLink (room:Nat) (w:World) (hr:room<=1000):(Instr.makeChan 146 (.int .i64 (room:Int))).run PV w=.ok (.chan (some w.heap.size)) (w.alloc (.chan room #[] false 0 0 false)):=by
 obtain⟨i,hi,hs⟩: ∃i,PV.info? 110=some i/\i.bytes=72:=by
    have:=info110;cases hi:PV.info? 110 with
    | none=>rw[hi] at this;cases this
    | some i=>rw[hi] at this;exact⟨i,rfl,by simpa using this⟩
 exact Conc.run_makeChan (show PV.underlying 146=_ from Tryz.underlying146) hi .i64 room fe (by rw[hs];omega)
def newlink (room:Nat) (w:World) (hr:room<=1000):
    Calls PV 38 #[.int .i64 room] w λx w'=>x=.returned (.pointer (some ⟨w.heap.size+1,0,none⟩))/\Lnk w' (w.heap.size+1) w.heap.size room []/\Bl w w':=by
 have j:=mkLink room w hr;go_enter PV.func38,Tryz.ntmps38;go_wp2;go_ret;refine⟨rfl,⟨Bk.nw fi,0,0,?_⟩,((Bl.rf _).al _).al _⟩;rw[f7l _ _ _ fi];exact f3n w _
def rp {w:World} {base n size g:Nat} {e t:TypeId} {v:Value} {xs:List Value} {cs:Array Value} (h:w.ownsRow base e size v n xs) (hg:Bk w g t cs) (j:e≠t): ∀x,v.ownBlock=some x->x≠g:=by
 intro x hx;rcases h.2 with⟨rfl,_⟩|⟨g',cap,cur,rfl,_,hh,_⟩
 ·simp[Value.ownBlock] at hx
 ·obtain rfl:g'=x:=by simpa[Value.ownBlock] using hx
  exact Bk.ne_ ⟨hh⟩ hg j
def ui {w:World} {base n size l c room:Nat} {U:List Plain.Frm} {e:TypeId} {v:Value} {xs:List Value} (h:w.ownsRow base e size v n xs) (hl:Lnk w l c room U): ∀x,v.ownBlock=some x->x≠c:=by
 intro x hx;rcases h.2 with⟨rfl,_⟩|⟨g',cap,cur,rfl,_,hh,_⟩
 ·simp[Value.ownBlock] at hx
 ·obtain rfl:g'=x:=by simpa[Value.ownBlock] using hx
  exact uh hl (t:=e) (cs:=cur) ⟨hh⟩
def vo {w:World} {base n size base' n' j:Nat} {e e':TypeId} {v v':Value} {xs q:List Value} (h:w.ownsRow base e size v n xs) (h':w.ownsRow base' e' j v' n' q) (m:e≠e'): ∀x,v.ownBlock=some x->v'.ownBlock≠some x:=by
 intro x hx hx';rcases h'.2 with⟨rfl,_⟩|⟨g',cap,cur,rfl,_,hh,_⟩
 ·simp[Value.ownBlock] at hx'
 ·obtain rfl:g'=x:=by simpa[Value.ownBlock] using hx'
  exact rp h (t:=e') (cs:=cur) ⟨hh⟩ m _ hx rfl
def f6l (b kb ul uc room:Nat) (y0 y1 y2 y3 y5 y6 y7 tv rv yd yc:Value) (calls id cur B q j C pos r last kd ap ec en ty cu:Int) (mv:Bool) (U:List Plain.Frm) (R:List Plain.Sent) (t:List Plain.El) (w:World)
    (X:Base w) (hB:Bk w b 75 #[y0,y1,y2,y3,.int .i64 (calls),y5,y6,y7]) (hK:Bk w kb 89 #[.int .i64 id,tv,.int .i64 (cur),.int .i64 (B),.int .i64 q,.int .i64 j,rv,.pointer (some ⟨ul,0,none⟩),yd,.int .i64 (C),yc]) (hL:Lnk w ul uc room U) (aJ:2<=ul) (hT:Txt w tv t) (hR:RowV w rv R) (h0:2<=b/\2<=kb)
    (hU:U.length<room) (O:room<=1000) (hc: ¬calls=2000) (a6:0<=calls/\calls<=2000) (hp:0<=pos/\pos<=last) (hl:last<=4000) (hn:t.length<=4000) (aN:0<=cur/\cur<=4000) (aV:0<=C/\C<=4000) (aZ:0<=B/\B<=4000) (aK:R.length<=4000) (aX:2<=uc) (hr2: ∀x,rv.ownBlock=some x->2<=x)
    (hq:(kd=1/\mv=false/\ap=pos/\ec=id/\en=C+1/\ty=C+1/\cu=cur)\/(kd=2/\mv=false/\ap=pos/\ec=0/\en=0/\ty=C/\cu=cur)\/(kd=3/\mv=true/\ap=0/\ec=0/\en=0/\ty=C/\cu=pos)) (Y:Plain.Fits ⟨kd,ap,⟨r,ec,en⟩,id⟩ t.length):
    Calls PV 48 #[.pointer (some ⟨b,0,none⟩),.pointer (some ⟨kb,0,none⟩),.agg #[.int .i64 kd,.int .i64 pos,.int .i32 r,.int .i64 0,.int .i64 0,.int .i64 0],.int .i64 last,.bool mv] w λx w'=> ∃ad I,x=.returned .nilIface/\Bk w' b 75 #[y0,y1,y2,y3,.int .i64 (calls+1),y5,y6,y7]/\Bk w' kb 89 #[.int .i64 id,ad,.int .i64 (Plain.index ⟨kd,ap,⟨r,ec,en⟩,id⟩ cu),.int .i64 (B+1),.int .i64 q,.int .i64 j,I,.pointer (some ⟨ul,0,none⟩),yd,.int .i64 (ty),yc]/\
     Lnk w' ul uc room (U++[Plain.frame ⟨B,q,j,R⟩ ⟨kd,ap,⟨r,ec,en⟩,id⟩ (Plain.index ⟨kd,ap,⟨r,ec,en⟩,id⟩ cu)])/\Txt w' ad (Plain.apply ⟨kd,ap,⟨r,ec,en⟩,id⟩ t)/\RowV w' I (R++[⟨⟨kd,ap,⟨r,ec,en⟩,id⟩,B⟩])/\(I.ownBlock=rv.ownBlock\/ ∃x,I.ownBlock=some x/\w.heap.size<=x)/\Ch (λx=>x=b\/x=kb\/x=uc\/rv.ownBlock=some x) w w'/\ ∀x,ad.ownBlock=some x->tv.ownBlock=some x\/w.heap.size<=x:=by
 have hbk: ¬b=kb:=hB.ne_ hK fu;have aO: ¬kb=b:=λe=>hbk e.symm;have aP:=hB.lt;have aQ:=hK.lt;obtain⟨aT,aR⟩:=hp;have a8:0<=cu/\cu<=4000:=by rcases hq with h|h|h <;>omega
 have aD:=fx6 (λW (hW:Ch (λx=>x=b\/x=kb) w W)=>hL.ch_ hW jr jt);have aH:=fx6 (λW (hW:Ch (λx=>x=b\/x=kb) w W)=>(qx hW hT (λx hx=>by rintro(h|h);exact rp hT hB fu x hx h;exact rp hT hK fu x hx h):Txt W tv t));have ah:=fx6 (λW (hW:Ch (λx=>x=b\/x=kb) w W)=>(qx hW hR (λx hx=>by rintro(h|h);exact rp hR hB fu x hx h;exact rp hR hK fu x hx h):RowV W rv R));have aI:=fx6 (λW (hW:Ch (λx=>x=b\/x=kb) w W)=>X.ch hW ky ky);have aF:=fx6 (rp hR hK fu);have HRb:=fx6 (rp hR hB fu);have HRc:=fx6 (ui hR hL);have HRl:=fx6 (rp hR hL.lb fu);have aM:=fx6 (lr hR);have a7:=fx6 (uh hL hL.lb);have aL:=fx6 (uh hL hB);have Hck:=fx6 (uh hL hK);have a0:=fx6 hL.lb.lt;have aY:RowKit.Hid (uc<w.heap.size):=fx6 jw;have aW:=fx6 (hL.lb.ne_ hB fu);have Hlk:=fx6 (hL.lb.ne_ hK fu);have HB:=fx6 hB;have HK:=fx6 hK;have HL:=fx6 hL;clear hB hK hL hT hR X;replace Y:=fx6 Y;replace hq:=fx6 hq;go_enter PV.func48,Tryz.ntmps48;obtain⟨cB,dB⟩:=HB.out.ceF;obtain⟨cK,dK⟩:=HK.out.ceF;obtain⟨a1,a2⟩:=bx b;obtain⟨a3,a4⟩:=bx kb;have ac: ¬b=w.heap.size:=by omega
 have a5: ¬w.heap.size=b:=by omega
 have aU: ¬kb=w.heap.size:=by omega
 have aS: ¬w.heap.size=kb:=by omega
 have aG: ¬((U.length:Int)=(room:Int)):=by omega
 have aE:(calls==2000)=false:=by simpa using hc
 clear hc
 go_upto_if 47 with(first|(go_at_call 87;refine(ia ul uc room U _ (HL.out.bl fg) fe O).mono ?_;rintro e w1 ⟨rfl,rfl⟩))
 refine vy (F:=λW=>Bk W b 75 #[y0,y1,y2,y3,.int .i64 (calls+1),y5,y6,y7]/\Bk W kb 89 #[.int .i64 id,tv,.int .i64 (cur),.int .i64 (B),.int .i64 q,.int .i64 j,rv,.pointer (some ⟨ul,0,none⟩),yd,.int .i64 (C),yc]/\Bk W w.heap.size 40 #[.int .i64 kd,.int .i64 pos,.int .i32 r,.int .i64 0,.int .i64 0,.int .i64 id]/\Ch (λx=>x=b\/x=kb) w W) ⟨?_,?_,?_,?_⟩ ?_
 ·repeat' (first|with_reducible exact HB.out|with_reducible refine Bk.dr ?_|with_reducible refine Bk.al ?_ _|(refine Bk.cv (Bk.st _ HB.out) fi)|with_reducible refine Bk.fr _ fw ?_)
 ·repeat' (first|with_reducible exact HK.out|with_reducible refine Bk.dr ?_|with_reducible refine Bk.al ?_ _|with_reducible refine Bk.fr _ fw ?_)
 ·(repeat' (first|with_reducible assumption|with_reducible exact Bk.nw fi|with_reducible refine Bk.dr ?_|with_reducible refine Bk.al ?_ _|with_reducible refine Bk.bl fq ?_|with_reducible refine Bk.gr fq ?_ ?_|with_reducible refine Bk.fr _ fw ?_)) <;>(first|done|fail)
 ·repeat' (first|with_reducible exact Ch.rf _ _|with_reducible refine Ch.dr ?_|with_reducible refine Ch.al ?_ _|with_reducible refine Ch.st ?_ fi _)
 clear cB dB cK dK aG aE;rintro W ⟨gB,gK,gX,gC⟩;have J:w.heap.size<W.heap.size:=gX.lt
 go_cut [] from 45 to 67 (λwx=>Bk wx b 75 #[y0,y1,y2,y3,.int .i64 (calls+1),y5,y6,y7]/\Bk wx kb 89 #[.int .i64 id,tv,.int .i64 (cur),.int .i64 (B),.int .i64 q,.int .i64 j,rv,.pointer (some ⟨ul,0,none⟩),yd,.int .i64 (ty),yc]/\Bk wx w.heap.size 40 #[.int .i64 kd,.int .i64 pos,.int .i32 r,.int .i64 ec,.int .i64 en,.int .i64 id]/\Ch (λx=>x=b\/x=kb) w wx)
 case first=>
    obtain⟨cB,dB⟩:=gB.ceF;obtain⟨cK,dK⟩:=gK.ceF;obtain⟨cX,dX⟩:=gX.ceF;rcases hq.out with⟨rfl,-,-,rfl,rfl,rfl,-⟩|⟨rfl,-,-,rfl,rfl,rfl,-⟩|⟨rfl,-,-,rfl,rfl,rfl,-⟩
    ·go_upto_region 11 with fail
     refine vy (F:=λW=>Bk W b 75 #[y0,y1,y2,y3,.int .i64 (calls+1),y5,y6,y7]/\Bk W kb 89 #[.int .i64 ec,tv,.int .i64 cur,.int .i64 B,.int .i64 q,.int .i64 j,rv,.pointer (some ⟨ul,0,none⟩),yd,.int .i64 (C+1),yc]/\Bk W w.heap.size 40 #[.int .i64 1,.int .i64 pos,.int .i32 r,.int .i64 0,.int .i64 0,.int .i64 ec]/\Ch (λx=>x=b\/x=kb) w W) ⟨Bk.fr _ fw gB,(gK.st _).cv fi,Bk.fr _ fw gX,gC.st fi _⟩ ?_;clear cB dB cK dK cX dX gB gK gX gC J W;rintro W ⟨gB,gK,gX,gC⟩;have J:w.heap.size<W.heap.size:=gX.lt;obtain⟨cB,dB⟩:=gB.ceF;obtain⟨cK,dK⟩:=gK.ceF;obtain⟨cX,dX⟩:=gX.ceF;refine rn (sel [λw'=>Bk w' kb 89 #[.int .i64 ec,tv,.int .i64 cur,.int .i64 B,.int .i64 q,.int .i64 j,rv,.pointer (some ⟨ul,0,none⟩),yd,.int .i64 (C+1),yc]]) [(.h 9,0),(.h 9,1),(.h 9,2),(.h 0,3),(.h 9,4),(.h 9,5),(.h 9,6),(.h 0,7),(.h 9,8),(.h 9,9),(.c [0,9],10),(.h 9,11),(.h 9,12),(.c [],13)] fd fd (qy f3o (λ_=>un)) ?_;simp only[vg,fy9,fz4,fz3,fy2,fx7,fy0];iterate 10 (refine oH ?_;try simp only[aps])
     (refine rx (λK hK=>?_);go_simp;refine hK _ _ (rh f3o (rh trivial ry)) ?_;clear hK K;try simp only[aps]);iterate 2 (refine oH ?_;try simp only[aps])
     (refine rx (λK hK=>?_);go_simp;refine hK _ _ ry ?_;clear hK K;try simp only[aps]);refine ub ?_;go_wp2_with fail
     go_meet
     case rel=>
       refine⟨?_,?_,?_,?_⟩
       ·(repeat' (first|with_reducible assumption|with_reducible exact Bk.nw fi|with_reducible refine Bk.dr ?_|with_reducible refine Bk.al ?_ _|with_reducible refine Bk.bl fq ?_|with_reducible refine Bk.gr fq ?_ ?_|with_reducible refine Bk.fr _ fw ?_|exact gB)) <;>(first|done|fail)
       ·(repeat' (first|with_reducible assumption|with_reducible exact Bk.nw fi|with_reducible refine Bk.dr ?_|with_reducible refine Bk.al ?_ _|with_reducible refine Bk.bl fq ?_|with_reducible refine Bk.gr fq ?_ ?_|with_reducible refine Bk.fr _ fw ?_|exact gK)) <;>(first|done|fail)
       ·repeat' (first|(refine Bk.cv (Bk.st _ (Bk.st _ (Bk.dr gX))) fi)|with_reducible refine Bk.dr ?_|(refine Bk.cv (Bk.st _ (Bk.st _ gX)) fi))
       ·repeat' (first|with_reducible exact gC|with_reducible refine Ch.dr ?_|with_reducible refine Ch.al ?_ _|with_reducible refine Ch.st ?_ fi _)
    all_goals
     go_wp2_with fail
     go_meet
     case rel => exact⟨gB,gK,gX,gC⟩
 case rest=>
 clear gB gK gX gC J W;obtain⟨gB,gK,gX,gC⟩:=hcut;have J:w.heap.size<wc.heap.size:=gX.lt
 go_upto_if 67 with fail
 go_cut [] from 67 to 74 (λwx=>Bk wx b 75 #[y0,y1,y2,y3,.int .i64 (calls+1),y5,y6,y7]/\Bk wx kb 89 #[.int .i64 id,tv,.int .i64 (cu),.int .i64 (B),.int .i64 q,.int .i64 j,rv,.pointer (some ⟨ul,0,none⟩),yd,.int .i64 (ty),yc]/\Bk wx w.heap.size 40 #[.int .i64 kd,.int .i64 ap,.int .i32 r,.int .i64 ec,.int .i64 en,.int .i64 id]/\Ch (λx=>x=b\/x=kb) w wx)
 case first=>
    obtain⟨cK,dK⟩:=gK.ceF;obtain⟨cX,dX⟩:=gX.ceF;rcases hq.out with⟨-,rfl,rfl,-,-,-,rfl⟩|⟨-,rfl,rfl,-,-,-,rfl⟩|⟨-,rfl,rfl,-,-,-,rfl⟩;iterate 2
     ·go_wp2_with fail
      go_meet
      case rel => exact⟨gB,gK,gX,gC⟩
    ·go_wp2_with fail
     go_meet
     case rel => exact⟨Bk.fr _ fw (Bk.fr _ fw gB),Bk.fr _ fw ((gK.st _).cv fi),((Bk.fr _ fw gX).st _).cv fi,(gC.st fi _).st (.inr fw) _⟩
 case rest=>
    clear gB gK gX gC J;obtain⟨gB,gK,gX,gC⟩:=hcut;clear hq;have J:w.heap.size<wc.heap.size:=gX.lt;go_upto_region 14 with fail
    refine rn (sel [λw'=>Bk w' w.heap.size 40 #[.int .i64 kd,.int .i64 ap,.int .i32 r,.int .i64 ec,.int .i64 en,.int .i64 id],λw'=>Bk w' kb 89 #[.int .i64 id,tv,.int .i64 (cu),.int .i64 (B),.int .i64 q,.int .i64 j,rv,.pointer (some ⟨ul,0,none⟩),yd,.int .i64 (ty),yc]]) [(.h 9,0),(.h 0,1),(.h 9,2),(.h 9,3),(.h 9,4),(.h 1,5),(.c [9],6),(.h 9,7),(.h 9,8),(.c [],9)] fd fd (qy (Bk.dr gX) (qy (Bk.dr gK) (λ_=>un))) ?_;simp only[vg,fy9,fz4,fz3,fy2,fx7,fy0];iterate 6 (refine oH ?_;try simp only[aps])
    (refine rx (λK hK=>?_);go_simp;go_at_call 88;refine(dy ⟨kd,ap,⟨r,ec,en⟩,id⟩ t tv _ (aH.out _ (Ch.dr gC)) Y.out hn).mono ?_;rintro e w1 ⟨v2,rfl,aa,D,ac⟩;obtain⟨A,m,cc,rfl⟩:=bj aa;have hN:=fx6 (show ∀x,(Value.slice A m cc).ownBlock=some x->tv.ownBlock=some x\/w.heap.size<=x from λx hx=>(ac x hx).imp (λh=>h) (λh=>by have h3:wc.heap.size<=x:=h;omega));clear ac;have gK1:=Bk.bl D (Bk.dr gK);obtain⟨ae,an⟩:=gK1.ceF;(try dsimp only);refine hK _ _ (rh trivial ry) ?_;clear hK K;try simp only[aps]);iterate 2 (refine oH ?_;try simp only[aps])
    (refine rx (λK hK=>?_);go_simp;refine hK _ _ ry ?_;clear hK K;try simp only[aps]);refine ub ?_;refine vy (F:=λW'=>Bk W' b 75 #[y0,y1,y2,y3,.int .i64 (calls+1),y5,y6,y7]/\Bk W' kb 89 #[.int .i64 id,(.slice A m cc),.int .i64 (cu),.int .i64 (B),.int .i64 q,.int .i64 j,rv,.pointer (some ⟨ul,0,none⟩),yd,.int .i64 (ty),yc]/\Bk W' w.heap.size 40 #[.int .i64 kd,.int .i64 ap,.int .i32 r,.int .i64 ec,.int .i64 en,.int .i64 id]/\Txt W' (.slice A m cc) (Plain.apply ⟨kd,ap,⟨r,ec,en⟩,id⟩ t)/\Ch (λx=>x=b\/x=kb) w W') ⟨?_,?_,?_,?_,?_⟩ ?_
    ·exact Bk.fr _ fw (Bk.bl D (Bk.dr gB))
    ·exact Bk.cv (Bk.st _ gK1) fi
    ·exact Bk.fr _ fw (Bk.bl D (Bk.dr gX))
    ·exact qx (K:=λx=>x=kb) ((Ch.rf (λx=>x=kb) w1).st (p:=⟨kb,1,none⟩) (.inl rfl) _) aa (rp aa gK1 fu)
    ·exact((gC.dr).cl D).st (p:=⟨kb,1,none⟩) (.inl (.inr rfl)) _
    clear ae an gK1 aa D w1 gB gK gX gC J;rintro W ⟨gB,gK,gX,gT,gC⟩;have J:w.heap.size<W.heap.size:=gX.lt;go_wp2_with fail;refine rn (sel [λw'=>Bk w' w.heap.size 40 #[.int .i64 kd,.int .i64 ap,.int .i32 r,.int .i64 ec,.int .i64 en,.int .i64 id],λw'=>Bk w' kb 89 #[.int .i64 id,(.slice A m cc),.int .i64 (cu),.int .i64 (B),.int .i64 q,.int .i64 j,rv,.pointer (some ⟨ul,0,none⟩),yd,.int .i64 (ty),yc]]) [(.h 9,0),(.h 0,1),(.h 9,2),(.h 9,3),(.h 9,4),(.h 1,5),(.c [9],6),(.h 9,7),(.h 9,8),(.c [],9)] fd fd (qy (Bk.dr gX) (qy (Bk.dr gK) (λ_=>un))) ?_;simp only[vg,fy9,fz4,fz3,fy2,fx7,fy0];iterate 6 (refine oH ?_;try simp only[aps])
    (refine rx (λK hK=>?_);go_simp;go_at_call 89;refine(bh ⟨kd,ap,⟨r,ec,en⟩,id⟩ cu _ fe fe).mono ?_;rintro e w1 ⟨rfl,D⟩;have gK1:=Bk.bl D (Bk.dr gK);obtain⟨ae,an⟩:=gK1.ceF;(try dsimp only);refine hK _ _ (rh trivial ry) ?_;clear hK K;try simp only[aps]);iterate 2 (refine oH ?_;try simp only[aps])
    (refine rx (λK hK=>?_);go_simp;refine hK _ _ ry ?_;clear hK K;try simp only[aps]);refine ub ?_;refine vy (F:=λW'=>Bk W' b 75 #[y0,y1,y2,y3,.int .i64 (calls+1),y5,y6,y7]/\Bk W' kb 89 #[.int .i64 id,(.slice A m cc),.int .i64 (Plain.index ⟨kd,ap,⟨r,ec,en⟩,id⟩ cu),.int .i64 (B),.int .i64 q,.int .i64 j,rv,.pointer (some ⟨ul,0,none⟩),yd,.int .i64 (ty),yc]/\Bk W' w.heap.size 40 #[.int .i64 kd,.int .i64 ap,.int .i32 r,.int .i64 ec,.int .i64 en,.int .i64 id]/\Txt W' (.slice A m cc) (Plain.apply ⟨kd,ap,⟨r,ec,en⟩,id⟩ t)/\Ch (λx=>x=b\/x=kb) w W') ⟨?_,?_,?_,?_,?_⟩ ?_
    ·exact Bk.fr _ fw (Bk.bl D (Bk.dr gB))
    ·exact Bk.cv (Bk.st _ gK1) fi
    ·exact Bk.fr _ fw (Bk.bl D (Bk.dr gX))
    ·exact qx (K:=λx=>x=kb) (((Ch.rf (λx=>x=kb) W).dr.cl D).st (p:=⟨kb,2,none⟩) (.inl rfl) _) gT (rp gT gK fu)
    ·exact((gC.dr).cl D).st (p:=⟨kb,2,none⟩) (.inl (.inr rfl)) _
    clear ae an gK1 D w1 gB gK gX gC gT J W;rintro W ⟨gB,gK,gX,gT,gC⟩;have J:w.heap.size<W.heap.size:=gX.lt;go_wp2_with fail;refine rn (sel [λw'=>w'.cell? ⟨kb,7,none⟩=some (.pointer (some ⟨ul,0,none⟩)),λw'=>Bk w' w.heap.size 40 #[.int .i64 kd,.int .i64 ap,.int .i32 r,.int .i64 ec,.int .i64 en,.int .i64 id],λw'=>w'.cell? ⟨kb,2,none⟩=some (.int .i64 (Plain.index ⟨kd,ap,⟨r,ec,en⟩,id⟩ cu))]) [(.h 9,0),(.h 9,1),(.h 9,2),(.h 0,3),(.h 9,4),(.h 9,5),(.h 9,6),(.h 1,7),(.h 9,8),(.h 9,9),(.h 9,10),(.h 2,11),(.c [0,9],12),(.c [],13)] fd fd (qy ((Bk.dr gK).ce 7) (qy (Bk.dr gX) (qy ((Bk.dr gK).ce 2) (λ_=>un)))) ?_;simp only[vg,fy9,fz4,fz3,fy2,fx7,fy0];iterate 12 (refine oH ?_;try simp only[aps])
    (refine rx (λK hK=>?_);go_simp;go_at_call 91;refine(fcm kb 3 89 #[.int .i64 id,(.slice A m cc),.int .i64 (Plain.index ⟨kd,ap,⟨r,ec,en⟩,id⟩ cu),.int .i64 (B),.int .i64 q,.int .i64 j,rv,.pointer (some ⟨ul,0,none⟩),yd,.int .i64 (ty),yc] rv ⟨B,q,j,R⟩ ⟨kd,ap,⟨r,ec,en⟩,id⟩ (Plain.index ⟨kd,ap,⟨r,ec,en⟩,id⟩ cu) _ (Bk.dr gK) ⟨rfl,rfl,rfl,rfl⟩ (ah.out _ (Ch.dr gC)) (λe=>aF.out _ e rfl) fw aK).mono ?_;rintro e w1 ⟨I,rfl,gK1,aA,aB,gC1⟩;replace gK1:=Bk.cv (cs':=#[.int .i64 id,(.slice A m cc),.int .i64 (Plain.index ⟨kd,ap,⟨r,ec,en⟩,id⟩ cu),.int .i64 (B+1),.int .i64 q,.int .i64 j,I,.pointer (some ⟨ul,0,none⟩),yd,.int .i64 (ty),yc]) gK1 fi;have ab:=(aD.out _ (Ch.dr gC)).ch_ gC1 f7j kf;have aC:=(aI.out _ (Ch.dr gC)).ch gC1 jm jm;(try dsimp only);refine hK _ _ (rh fx3 (rh trivial ry)) ?_;clear hK K;try simp only[aps])
    (refine rx (λK hK=>?_);go_simp;go_at_call 90;refine(fcn ul uc room U (Plain.frame ⟨B,q,j,R⟩ ⟨kd,ap,⟨r,ec,en⟩,id⟩ (Plain.index ⟨kd,ap,⟨r,ec,en⟩,id⟩ cu)) _ aC ab aJ hU O).mono ?_;rintro e w2 ⟨rfl,ak,gC2⟩;(try dsimp only);refine hK _ _ ry ?_;clear hK K;try simp only[aps]);refine ub ?_;have fB:=Bk.ch gC2 aL.out (Bk.ch gC1 p8 (Bk.dr gB));have fK:=Bk.ch gC2 Hck.out gK1;have M:Txt W.drew (.slice A m cc) (Plain.apply ⟨kd,ap,⟨r,ec,en⟩,id⟩ t):=gT;have fT:Txt w2 (.slice A m cc) (Plain.apply ⟨kd,ap,⟨r,ec,en⟩,id⟩ t):=qx gC2 (qx gC1 M (λx hx=>by rintro(h|h);exact rp M (Bk.dr gK) fu x hx h;exact vo M (ah.out _ (Ch.dr gC)) fu x hx h)) (ui (qx gC1 M (λx hx=>by rintro(h|h);exact rp M (Bk.dr gK) fu x hx h;exact vo M (ah.out _ (Ch.dr gC)) fu x hx h)) ab);have fR:RowV w2 I (R++[⟨⟨kd,ap,⟨r,ec,en⟩,id⟩,B⟩]):=qx gC2 aA (ui aA ab);have fC:Ch (λx=>x=b\/x=kb\/x=uc\/rv.ownBlock=some x) w w2:=((gC.dr.mo (K':=λx=>x=b\/x=kb\/x=uc\/rv.ownBlock=some x) p6).tr gC1 js).tr gC2 pd;have fA:I.ownBlock=rv.ownBlock\/ ∃x,I.ownBlock=some x/\w.heap.size<=x:=aB.imp (λh=>h) (λ⟨x,h1,h2⟩=>⟨x,h1,by have h3:W.heap.size<=x:=h2;omega⟩);replace fB:=fx6 fB;replace fK:=fx6 fK;replace fT:=fx6 fT;replace fR:=fx6 fR;replace fC:=fx6 fC;replace fA:=fx6 fA;replace ak:=fx6 ak;clear aC ab gC2 gC1 aA aB gK1 M gB gK gX gT gC;go_wp2;go_ret;exact⟨_,I,rfl,fB.out,fK.out,ak.out,fT.out,fR.out,fA.out,fC.out,hN.out⟩
end Go.Proofs.YtelecjnabeokeaaGreatDoor
namespace Go.Proofs.YtelecjnabeokeaaGreatDoor
namespace Plain
structure Cl where
 text:List El
 cur:Int
 en:EndS
 typed:Int
 up:List Frm
 down:List Frm
structure Ses where
 n:Nat
 room:Nat
 cl:Nat->Cl
 text:List El
 log:List Chg
 curs:Nat->Int
 ends:Nat->EndS
 known:Nat->Int
 calls:Nat
def put {α:Type} (f:Nat->α) (i:Nat) (x:α):Nat->α:=λj=>if j=i then x else f j
def put_same {α:Type} (f:Nat->α) (i:Nat) (x:α):put f i x i=x:=f02 rfl
def put_ne {α:Type} (f:Nat->α) {i j:Nat} (x:α) (h:j≠i):put f i x j=f j:=fx9 h
def made (k:Cl) (c:Nat) (kind pos r:Int):Chg:=
 ⟨kind,if kind=3 then 0 else pos,if kind=1 then ⟨r,c,k.typed+1⟩ else .zero,c⟩
def changed (k:Cl) (c:Nat) (kind pos r:Int):Cl:=
 let a:=made k c kind pos r
 let cur:=index a (if kind=3 then pos else k.cur)
 ⟨apply a k.text,cur,send k.en a,if kind=1 then k.typed+1 else k.typed,k.up++[frame k.en a cur],k.down⟩
def last (k:Cl) (kind:Int):Int:=if kind=2 then (k.text.length:Int)-1 else k.text.length
def change (S:Ses) (c:Nat) (kind pos r:Int):Nat×Ses:=
 if pos<0\/last (S.cl c) kind<pos then (4,S)
 else if S.calls=2000 then (6,S)
 else if (S.cl c).up.length=S.room then (5,S)
 else (0,{ S with cl:=put S.cl c (changed (S.cl c) c kind pos r),calls:=S.calls+1 })
def fullAt (S:Ses) (c:Nat):Nat->Bool
 | 0=>false
 | o+1=>fullAt S c o||(decide (o≠c)&&decide ((S.cl o).down.length=S.room))
def served (S:Ses) (c:Nat) (f:Frm) (U:List Frm):Ses:=
 let x:=tryF (S.ends c) f
 { S with
   cl:=λo=>if o=c then { S.cl o with up:=U } else { S.cl o with down:=(S.cl o).down++[frame (S.ends o) x.1 x.2.1] }
   text:=apply x.1 S.text
   log:=S.log++[x.1]
   curs:=λo=>if o=c then x.2.1 else index x.1 (S.curs o)
   ends:=λo=>if o=c then take (S.ends o) f else send (S.ends o) x.1
   known:=if x.1.kind=1 then put S.known c (S.known c+1) else S.known }
def serve (S:Ses) (c:Nat):Nat×Ses:=
 match (S.cl c).up with
 | []=>(7,S)
 | f::U=>if fullAt S c S.n then (5,S) else (0,served S c f U)
def got (k:Cl) (g:Frm) (D:List Frm):Cl:=
 let a:=(tryF k.en g).1
 { k with text:=apply a k.text,cur:=index a k.cur,en:=take k.en g,down:=D }
def get (S:Ses) (c:Nat):Nat×Ses:=
 match (S.cl c).down with
 | []=>(7,S)
 | g::D=>(0,{ S with cl:=put S.cl c (got (S.cl c) g D) })
def validR (r:Int):Bool:=(decide (0<=r)&&decide (r<0xD800))||(decide (0xDFFF<r)&&decide (r<=0x10FFFF))
def call (S:Ses) (k c pos r:Int):Nat×Ses:=
 if c<0\/(S.n:Int)<=c then (2,S)
 else if k=1 then (if validR r then change S c.toNat 1 pos r else (3,S))
 else if k=2 then change S c.toNat 2 pos 0
 else if k=3 then change S c.toNat 3 pos 0
 else if k=4 then serve S c.toNat
 else get S c.toNat
def Kd (a:Chg):Prop:=a.kind=1\/a.kind=2\/a.kind=3
def past_kd (a b:Chg):Kd (past a b):=(past_norm a b).kind
def turn_kd {a:Chg} {k:Int} {A:List Sent} (h:Kd a):Kd (turn a k A).1:=by
 induction A generalizing a k with
 | nil=>exact h
 | cons r A ih=>exact ih (past_kd _ _)
def sumN (f:Nat->Nat):Nat->Nat
 | 0=>0
 | n+1=>sumN f n+f n
def fb6 {f g:Nat->Nat} {n:Nat} (h: ∀i,i<n->f i=g i):sumN f n=sumN g n:=by
 induction n with
 | zero=>rfl
 | succ n ih=>simp only[sumN];rw[ih (λi hi=>h i fe),h n fe]
def fs4 {f g:Nat->Nat} {n c d:Nat} (hc:c<n) (he:g c=f c+d) (h: ∀i,i≠c->g i=f i):sumN g n=sumN f n+d:=by
 induction n with
 | zero=>omega
 | succ n ih=>
   simp only[sumN];by_cases e:c=n
   ·subst e;rw[fb6 (f:=g) (g:=f) λi hi=>h i fe,he];omega
   ·rw[ih fe,h n (λe'=>e e'.symm)];omega
def sumN_le {f:Nat->Nat} {n c:Nat} (hc:c<n):f c<=sumN f n:=by
 induction n with
 | zero=>omega
 | succ n ih=>
   simp only[sumN];by_cases e:c=n
   ·subst e;omega
   ·have:=ih fe;omega
structure Good (S:Ses):Prop where
 n0:1<=S.n
 n6:S.n<=6
 room0:1<=S.room
 room16:S.room<=16
 pair: ∀c,c<S.n->Pair (λ_ _ _=>True) c (S.cl c).text S.text (S.cl c).cur (S.curs c) (S.cl c).en (S.ends c) (S.cl c).up (S.cl c).down
 fold:Runs [] (S.log.map λa=>⟨a,0⟩) S.text
 logK: ∀a∈S.log,Kd a
 upK: ∀c,c<S.n-> ∀f∈(S.cl c).up,Kd f.chg
 downK: ∀c,c<S.n-> ∀f∈(S.cl c).down,Kd f.chg
 upR: ∀c,c<S.n->(S.cl c).up.length<=S.room
 downR: ∀c,c<S.n->(S.cl c).down.length<=S.room
 count:S.log.length+sumN (λc=>(S.cl c).up.length) S.n=S.calls
 calls:S.calls<=2000
 mine: ∀c,c<S.n->0<=(S.cl c).en.mine/\(S.cl c).en.mine<=S.calls/\0<=(S.cl c).en.other/\(S.cl c).en.other<=(S.ends c).mine/\0<=(S.ends c).mine/\(S.ends c).mine<=S.log.length/\0<=(S.ends c).other/\(S.ends c).other<=(S.cl c).en.mine
 rows: ∀c,c<S.n->((S.cl c).en.row.length:Int)<=(S.cl c).en.mine/\((S.ends c).row.length:Int)<=(S.ends c).mine
 typed: ∀c,c<S.n->0<=(S.cl c).typed/\(S.cl c).typed<=S.calls
 known: ∀c,c<S.n->0<=S.known c/\S.known c<=S.log.length
 curs: ∀c,c<S.n->0<=S.curs c/\S.curs c<=S.text.length
def new (n room:Nat):Ses:=⟨n,room,λ_=>⟨[],0,⟨0,0,0,[]⟩,0,[],[]⟩,[],[],λ_=>0,λ_=>⟨0,0,0,[]⟩,λ_=>0,0⟩
def new_good {n room:Nat} (h1:1<=n) (h2:n<=6) (h3:1<=room) (h4:room<=16):Good (new n room):=by
 have hs: ∀n,sumN (λ_=>0) n=0:=λn=>by induction n with
    | zero=>rfl
    | succ n ih=>simp[sumN,ih]
 refine⟨h1,h2,h3,h4,λc _=>Pair.start trivial,rfl,?_,?_,?_,?_,?_,?_,?_,?_,?_,?_,?_,?_⟩;all_goals (simp[new];try exact hs n)
def made_fits {k:Cl} {c:Nat} {kind pos r:Int} (hk:kind=1\/kind=2\/kind=3) (h0:0<=pos) (h1:pos<=last k kind):Fits (made k c kind pos r) k.text.length:=by
 unfold last at h1;unfold Fits made;rcases hk with rfl|rfl|rfl
 ·simp at h1 ⊢;omega
 ·simp at h1 ⊢;omega
 ·simp
def made_kd {k:Cl} {c:Nat} {kind pos r:Int} (hk:kind=1\/kind=2\/kind=3):Kd (made k c kind pos r):=hk
def ib {S:Ses} (h:Good S) {c:Nat} (hc:c<S.n) {kind pos r:Int} (hk:kind=1\/kind=2\/kind=3):Good (change S c kind pos r).2:=by
 unfold change;split
 ·exact h
 split
 ·exact h
 split
 ·exact h
 rename_i h1 h2 h3;have h0:0<=pos/\pos<=last (S.cl c) kind:=by omega
 have hf:=made_fits (k:=S.cl c) (c:=c) (r:=r) hk h0.1 h0.2;have hP:=h.pair c hc
 have A:0<=index (made (S.cl c) c kind pos r) (if kind=3 then pos else (S.cl c).cur)/\index (made (S.cl c) c kind pos r) (if kind=3 then pos else (S.cl c).cur)<=(apply (made (S.cl c) c kind pos r) (S.cl c).text).length:=by
    rw[f4k hf];refine ml hf ?_ ?_
    ·split
     ·exact h0.1
     ·exact hP.kc0
    ·split
     ·rename_i e;have:=h0.2;simp[last,e] at this;exact this
     ·exact hP.kc1
 have C:=hP.change hf rfl A.1 A.2 (Z':=λ_ _ _=>True) λ_ _ _=>trivial;have hm:=h.mine c hc;have hr:=h.rows c hc;have ht:=h.typed c hc;have D:=h.count;have m: ∀o,o≠c->put S.cl c (changed (S.cl c) c kind pos r) o=S.cl o:=λo ho=>put_ne _ _ ho;have j:put S.cl c (changed (S.cl c) c kind pos r) c=changed (S.cl c) c kind pos r:=put_same _ _ _;have B:=h.calls;refine⟨h.n0,h.n6,h.room0,h.room16,λo ho=>?_,h.fold,h.logK,λo ho=>?_,λo ho=>?_,λo ho=>?_,λo ho=>?_,?_,?_,λo ho=>?_,λo ho=>?_,λo ho=>?_,h.known,h.curs⟩
 ·by_cases e:o=c
  ·subst e;simp only[j];exact C
  ·simp only[m o e];exact h.pair o ho
 ·by_cases e:o=c
  ·subst e;simp only[j];simp only[changed];intro f q;rcases fz0.1 q with q|q
   ·exact h.upK o hc f q
   ·simp only[fy3,fz8,f0z] at q;subst q;exact made_kd hk
  ·simp only[m o e];exact h.upK o ho
 ·by_cases e:o=c
  ·subst e;simp only[j];exact h.downK o hc
  ·simp only[m o e];exact h.downK o ho
 ·by_cases e:o=c
  ·subst e;simp only[j];simp only[changed,f0a,fz6,f06];have:=h.upR o hc;omega
  ·simp only[m o e];exact h.upR o ho
 ·by_cases e:o=c
  ·subst e;simp only[j];exact h.downR o hc
  ·simp only[m o e];exact h.downR o ho
 ·show S.log.length+sumN (λo=>(put S.cl c (changed (S.cl c) c kind pos r) o).up.length) S.n=S.calls+1;rw[fs4 (f:=λo=>(S.cl o).up.length) (c:=c) (d:=1) hc (by simp only[j];simp only[changed,f0a,fz6,f06]) (λo ho=>by simp only[m o ho])];omega
 ·show S.calls+1<=2000;omega
 ·by_cases e:o=c
  ·subst e;simp only[j];simp only[changed,send];omega
  ·simp only[m o e];have:=h.mine o ho;omega
 ·by_cases e:o=c
  ·subst e;simp only[j];simp only[changed,send,f0a,fz6,f06];omega
  ·simp only[m o e];exact h.rows o ho
 ·by_cases e:o=c
  ·subst e;simp only[j];simp only[changed];split <;>omega
  ·simp only[m o e];have:=h.typed o ho;omega
def fuz {S:Ses} (h:Good S) {c:Nat} (hc:c<S.n):Good (get S c).2:=by
 unfold get;split
 ·exact h
 rename_i g D hd;have hP:=h.pair c hc;rw[hd] at hP;obtain⟨hf,q⟩:=hP.get (Z':=λ_ _ _=>True) λ_ _ _ _ _ _ _ _=>trivial;have m: ∀o,o≠c->put S.cl c (got (S.cl c) g D) o=S.cl o:=λo ho=>put_ne _ _ ho;have j:put S.cl c (got (S.cl c) g D) c=got (S.cl c) g D:=put_same _ _ _;refine⟨h.n0,h.n6,h.room0,h.room16,λo ho=>?_,h.fold,h.logK,λo ho=>?_,λo ho=>?_,λo ho=>?_,λo ho=>?_,?_,h.calls,λo ho=>?_,λo ho=>?_,λo ho=>?_,h.known,h.curs⟩
 ·by_cases e:o=c
  ·subst e;simp only[j];exact q
  ·simp only[m o e];exact h.pair o ho
 ·by_cases e:o=c
  ·subst e;simp only[j];exact h.upK o hc
  ·simp only[m o e];exact h.upK o ho
 ·by_cases e:o=c
  ·subst e;simp only[j];intro f A;exact h.downK o hc f (by rw[hd];exact f0c _ A)
  ·simp only[m o e];exact h.downK o ho
 ·by_cases e:o=c
  ·subst e;simp only[j];exact h.upR o hc
  ·simp only[m o e];exact h.upR o ho
 ·by_cases e:o=c
  ·subst e;simp only[j];simp only[got];have:=h.downR o hc;rw[hd,fz6] at this;omega
  ·simp only[m o e];exact h.downR o ho
 ·show S.log.length+sumN (λo=>(put S.cl c (got (S.cl c) g D) o).up.length) S.n=S.calls;rw[fb6 (g:=λo=>(S.cl o).up.length) λo _=>?_]
  ·exact h.count
  ·by_cases e:o=c
   ·subst e;simp only[j];rfl
   ·simp only[m o e]
 ·by_cases e:o=c
  ·subst e;have hm:=h.mine o hc;have B:=q.down;simp only[j];simp only[got,take] at B ⊢;omega
  ·simp only[m o e];exact h.mine o ho
 ·by_cases e:o=c
  ·subst e;have hr:=h.rows o hc;simp only[j];simp only[got,take,tryF,fel];have:((unseen g.other (S.cl o).en.row).length)<=(S.cl o).en.row.length:=List.length_filter_le ..;omega
  ·simp only[m o e];exact h.rows o ho
 ·by_cases e:o=c
  ·subst e;simp only[j];exact h.typed o hc
  ·simp only[m o e];exact h.typed o ho
def fullAt_iff (S:Ses) (c n:Nat):fullAt S c n=true↔ ∃o,o<n/\o≠c/\(S.cl o).down.length=S.room:=by
 induction n with
 | zero=>simp[fullAt]
 | succ n ih=>
   simp only[fullAt,f4n,ih,f04,f1r];constructor
   ·rintro(⟨o,h1,h2⟩|h)
    ·exact⟨o,by omega,h2⟩
    ·exact⟨n,by omega,h⟩
   ·rintro⟨o,h1,h2⟩;by_cases e:o=n
    ·subst e;exact .inr h2
    ·exact .inl ⟨o,by omega,h2⟩
def fgb {S:Ses} (h:Good S) {c:Nat} (hc:c<S.n):Good (serve S c).2:=by
 unfold serve;split
 ·exact h
 rename_i f U hu;split
 ·exact h
 rename_i j
 have m: ∀o,o<S.n->o≠c->(S.cl o).down.length<S.room:=by
    intro o ho D;have:=h.downR o ho;rcases f01 (S.cl o).down.length S.room with h'|h'
    ·exact h'
    ·exact absurd ((fullAt_iff S c S.n).2 ⟨o,ho,D,by omega⟩) (by simpa using j)
 have hP:=h.pair c hc;rw[hu] at hP;obtain⟨hf,C,hk,A⟩:=hP.serve (Z':=λ_ _ _=>True) λ_ _ _ _ _ _ _ _=>trivial;have M:=hP.up;have q:=A.up;have B:Kd (tryF (S.ends c) f).1:=turn_kd (h.upK c hc f jx);have I:=h.count;have J:=fs4 (f:=λo=>if o=c then U.length else (S.cl o).up.length) (g:=λo=>(S.cl o).up.length) (n:=S.n) (c:=c) (d:=1) hc (by simp[hu]) (λo ho=>by simp[ho]);refine⟨h.n0,h.n6,h.room0,h.room16,λo ho=>?_,?_,?_,λo ho=>?_,λo ho=>?_,λo ho=>?_,λo ho=>?_,?_,h.calls,λo ho=>?_,λo ho=>?_,λo ho=>?_,λo ho=>?_,λo ho=>?_⟩
 ·by_cases e:o=c
  ·subst e;simp only[served,f0e];exact A
  ·have:=(h.pair o ho).tell hf (by rw[C];omega) hk.1 hk.2 (Z':=λ_ _ _=>True) λ_ _ _=>trivial;simp only[served,e,f0s];exact this
 ·show Runs [] ((S.log++[(tryF (S.ends c) f).1]).map λa=>⟨a,0⟩) (apply (tryF (S.ends c) f).1 S.text);rw[List.map_append];exact h.fold.snoc hf
 ·intro a ha;rcases fz0.1 ha with ha|ha
  ·exact h.logK a ha
  ·simp only[fy3,fz8,f0z] at ha;subst ha;exact B
 ·by_cases e:o=c
  ·subst e;simp only[served,f0e];intro g hg;exact h.upK o hc g (by rw[hu];exact f0c _ hg)
  ·simp only[served,e,f0s];exact h.upK o ho
 ·by_cases e:o=c
  ·subst e;simp only[served,f0e];exact h.downK o hc
  ·simp only[served,e,f0s];intro g hg;rcases fz0.1 hg with hg|hg
   ·exact h.downK o ho g hg
   ·simp only[fy3,fz8,f0z] at hg;subst hg;exact B
 ·by_cases e:o=c
  ·subst e;simp only[served,f0e];have:=h.upR o hc;rw[hu,fz6] at this;omega
  ·simp only[served,e,f0s];exact h.upR o ho
 ·by_cases e:o=c
  ·subst e;simp only[served,f0e];exact h.downR o hc
  ·simp only[served,e,f0s,f0a,fz6,f06];have:=m o ho e;omega
 ·show(S.log++[_]).length+sumN _ S.n=S.calls;rw[fb6 (g:=λo=>if o=c then U.length else (S.cl o).up.length) λo _=>?_]
  ·simp only[f0a,fz6,f06];omega
  ·by_cases e:o=c
   ·subst e;simp[served]
   ·simp[served,e]
 ·have hm:=h.mine o ho;by_cases e:o=c
  ·subst e;simp only[take] at q;simp only[served,f0e,take,f0a,fz6,f06];omega
  ·simp only[served,e,f0s,send,f0a,fz6,f06];omega
 ·have hr:=h.rows o ho;by_cases e:o=c
  ·subst e;simp only[served,f0e,take,tryF,fel];have:((unseen f.other (S.ends o).row).length)<=(S.ends o).row.length:=List.length_filter_le ..;omega
  ·simp only[served,e,f0s,send,f0a,fz6,f06];omega
 ·by_cases e:o=c
  ·subst e;simp only[served,f0e];exact h.typed o hc
  ·simp only[served,e,f0s];exact h.typed o ho
 ·have hn:=h.known o ho;simp only[served,f0a,fz6,f06];split
  ·by_cases e:o=c
   ·subst e;rw[put_same];omega
   ·rw[put_ne _ _ e];omega
  ·omega
 ·by_cases e:o=c
  ·subst e;simp only[served,f0e];exact hk
  ·simp only[served,e,f0s];have hn:=h.curs o ho;rw[f4k hf];exact ml hf hn.1 hn.2
def call_good {S:Ses} (h:Good S) {k c pos r:Int}:Good (call S k c pos r).2:=by
 unfold call;split
 ·exact h
 rename_i hc;have j:c.toNat<S.n:=by omega
 split
 ·split
  ·exact ib h j (.inl rfl)
  ·exact h
 split
 ·exact ib h j (.inr (.inl rfl))
 split
 ·exact ib h j (.inr (.inr rfl))
 split
 ·exact fgb h j
 ·exact fuz h j
end Plain
open Go Go.RowKit Go.Maps
open Go.ChangeMaps (setBlock)
def ent (f:Nat->Int) (c:Nat):MapEntry:={ key:=.int .i64 (c:Int),val:=.int .i64 (f c),born:=c }
def mapE (n:Nat) (f:Nat->Int):Array MapEntry:=((List.range n).map (ent f)).toArray
structure Mp (w:World) (b n:Nat) (f:Nat->Int):Prop where
 at_:w.heap[b]? =some (.map (mapE n f) n)
structure It (w:World) (r b n:Nat) (seen:Array Nat):Prop where
 at_:w.heap[r]? =some (.mapIter (some b) n seen n)
def Mp.lt {w:World} {b n:Nat} {f:Nat->Int} (h:Mp w b n f):b<w.heap.size:=(fx5.1 h.at_).1
def Mp.ch {w w1:World} {b n:Nat} {f:Nat->Int} {K:Nat->Prop} (hc:Ch K w w1) (hn: ¬K b) (h:Mp w b n f):Mp w1 b n f:=⟨(hc.block b h.lt hn).trans h.at_⟩
def It.lt {w:World} {r b n:Nat} {seen:Array Nat} (h:It w r b n seen):r<w.heap.size:=(fx5.1 h.at_).1
def It.ch {w w1:World} {r b n:Nat} {seen:Array Nat} {K:Nat->Prop} (hc:Ch K w w1) (hn: ¬K r) (h:It w r b n seen):It w1 r b n seen:=⟨(hc.block r h.lt hn).trans h.at_⟩
def Mp.cv {w:World} {b n:Nat} {f g:Nat->Int} (h:Mp w b n f) (e: ∀i,i<n->f i=g i):Mp w b n g:=by
 have:mapE n f=mapE n g:=by
    unfold mapE
    congr 1
    apply f5j;intro i hi;simp[ent,e i (f2s.1 hi)]
 exact⟨this▸h.at_⟩
def Ch.sb {K:Nat->Prop} {w w1:World} (h:Ch K w w1) {b:Nat} (hb:K b\/w.heap.size<=b) (o:Obj):Ch K w (setBlock w1 b o):=
 h.tr (K':=λx=>x=b) ⟨rfl,rfl,rfl,by simp[setBlock],λx _ hn=>by
    simp only[setBlock];exact fy4 (λe=>hn e.symm)⟩ λx hx=>by subst hx;exact hb
def und3:PV.underlying 3=some (.int .i64):=by kernel_rfl
def fwn:PV.underlying 76=some (.map 3 3):=by kernel_rfl
def key3:Keyed PV 3:=int_keyed und3
def fna {c:Nat} (h:c<=1000):keyOf PV 3 (.int .i64 (c:Int))=some (.int .i64 (c:Int)):=keyOf_int_mk und3 (WalkArith.wf_i64 fe)
def faf {n:Nat} {f:Nat->Int} {j:Nat}:(mapE n f).toList[j]? =if j<n then some (ent f j) else none:=by
 unfold mapE;simp only[f1s];by_cases h:j<n
 ·rw[f5k h,f02 h];rfl
 ·rw[f2q (by simpa using Nat.le_of_not_lt h),fx9 h];rfl
def mapE_mem {n:Nat} {f:Nat->Int} {e:MapEntry}:e∈(mapE n f).toList↔ ∃i,i<n/\ent f i=e:=by simp[mapE]
def fw9 {w:World} {b n:Nat} {f:Nat->Int} (h:Mp w b n f) {i:Nat} (hi:i<n) (hn:n<=1000) (v:Int):
    (Instr.mapUpdate 76 (.map (some b)) (.int .i64 (i:Int)) (.int .i64 v)).run PV w=.ok () (setBlock w b (.map (mapE n (Plain.put f i v)) n)):=by
 have hk:=fna (c:=i) fe
 have q: ∀e∈(mapE n f).toList,∃l,keyOf PV 3 e.key=some l:=λe he=>by
    obtain⟨j,hj,rfl⟩:=mapE_mem.1 he;exact⟨_,fna (c:=j) fe⟩
 rcases key3.find w hk _ q with⟨_,h2⟩|⟨j,e,h1,h2,h3⟩
 ·exact absurd rfl (h2 (ent f i) (mapE_mem.2 ⟨i,hi,rfl⟩))
 ·rw [faf] at h2;split at h2
  next hj =>
   cases h2
   have e:j=i:=by
      have:=h3;simp only[ent,Value.int.injEq,true_and] at this;omega
   subst e
   have B:(mapE n f)[j]? =some (ent f j):=by
      rw[<- Array.getElem?_toList,faf,f02 hj]
   have A:(mapE n f).modify j (λe=>{ e with key:=.int .i64 (j:Int),val:=.int .i64 v })=mapE n (Plain.put f j v):=by
      apply Array.ext';apply List.ext_getElem?;intro k;rw[faf,Array.toList_modify,List.getElem?_modify,faf];by_cases hk:k<n
      ·rw[f02 hk,f02 hk];by_cases m:j=k
       ·subst m;simp[ent,Plain.put_same]
       ·simp[m,ent,Plain.put_ne f v (λe:k=j=>m e.symm)]
      ·rw[fx9 hk,fx9 hk];rfl
   simp[Instr.mapUpdate,f1l fwn,MapKept.run_getObj_map h.at_,key3.check w false hk,h1,B,key3.stays w hk,ent,MapKept.run_setObj_map _ h.at_,Result.andThen];rw[A];rfl
  next=>cases h2
def mp_push {w:World} {b n:Nat} {f:Nat->Int} (h:Mp w b n f) (hn:n<1000) (v:Int):
    (Instr.mapUpdate 76 (.map (some b)) (.int .i64 (n:Int)) (.int .i64 v)).run PV w=.ok () (setBlock w b (.map (mapE (n+1) (Plain.put f n v)) (n+1))):=by
 have hk:=fna (c:=n) fe
 have m: ∀e∈(mapE n f).toList,∃l,keyOf PV 3 e.key=some l:=λe he=>by
    obtain⟨j,hj,rfl⟩:=mapE_mem.1 he;exact⟨_,fna (c:=j) fe⟩
 rcases key3.find w hk _ m with⟨h1,_⟩|⟨j,e,_,h2,h3⟩
 ·have hp:(mapE n f).push { key:=.int .i64 (n:Int),val:=.int .i64 v,born:=n }=mapE (n+1) (Plain.put f n v):=by
   apply Array.ext';rw[Array.toList_push];unfold mapE;simp only[List.range_succ,List.map_append,f3c,List.map_nil]
   congr 1
   ·apply f5j;intro i hi;have:=f2s.1 hi;simp[ent,Plain.put_ne f v (show i≠n by omega)]
   ·simp[ent,Plain.put_same]
  simp[Instr.mapUpdate,f1l fwn,MapKept.run_getObj_map h.at_,key3.check w false hk,h1,MapKept.run_setObj_map _ h.at_,Result.andThen];rw[hp];rfl
 ·rw[faf] at h2;split at h2
  next hj=>
   cases h2;simp only[ent,Value.int.injEq,true_and] at h3;omega
  next=>cases h2
def Mp.sb {w:World} {b n:Nat} {f:Nat->Int} (h:Mp w b n f) {m:Nat} {g:Nat->Int}:Mp (setBlock w b (.map (mapE m g) m)) b m g:=⟨by simp[setBlock,h.lt]⟩
def fs6 (n:Nat) (seen:Array Nat):Nat:=((List.range n).filter λi=> !seen.contains i).length
def fv0 {n:Nat} {seen:Array Nat} {i:Nat} (hi:i<n) (hs:seen.contains i=false):fs6 n (seen.push i)<fs6 n seen:=by
 unfold fs6
 have:((List.range n).filter λk=> !(seen.push i).contains k)=((List.range n).filter λk=> !seen.contains k).filter λk=> !(k==i):=by
    rw[List.filter_filter];apply List.filter_congr;intro k _;rw[contains_push];cases seen.contains k <;>cases (k==i) <;>rfl
 rw[this];apply List.length_filter_lt_length_iff_exists.2;exact⟨i,List.mem_filter.2 ⟨f2s.2 hi,by rw[hs];rfl⟩,by simp⟩
def fs7 (n r:Nat) (w:World):Nat:=match w.heap[r]? with|some (.mapIter _ _ seen _)=>fs6 n seen|_=>0
def It.left {w:World} {r b n:Nat} {seen:Array Nat} (h:It w r b n seen):fs7 n r w=fs6 n seen:=by
 unfold fs7;rw[h.at_]
def f7h {w:World} {b n:Nat} {f:Nat->Int} (h:Mp w b n f):(Instr.range 76 (.map (some b))).run PV w=.ok (.pointer (some ⟨w.heap.size,0,none⟩)) (w.alloc (.mapIter (some b) n #[] n)):=run_range_map w 76 3 3 b _ n fwn h.at_
def It.nw {w:World} {b n:Nat}:It (w.alloc (.mapIter (some b) n #[] n)) w.heap.size b n #[]:=⟨f3n w _⟩
section
variable {w:World} {ops:Array Oper} {rest:List Oper} {o:Oper} {a:Act} {Q:Exit->Act->World->Prop}
def ffe (hg:o.guard=none) (it:Operand) (C:o.op=Op.next it false) (b r n:Nat) (f:Nat->Int) (seen:Array Nat) (B:a.eval it=.pointer (some ⟨r,0,none⟩)) (hm:Mp w b n f) (hi:It w r b n seen)
    (j:(∀i,i<n->seen.contains i=true)->wpList PV ops Q rest (a.put o.dst (.tuple #[.bool false])) w)
    (m: ∀(i:Nat) (w':World),i<n->seen.contains i=false->Ch (λx=>x=r) w w'->w'.heap.size=w.heap.size->It w' r b n (seen.push i)->(Instr.entry (.pointer (some ⟨r,0,none⟩))).run PV w'=.ok (.tuple #[.int .i64 (i:Int),.int .i64 (f i)]) w'->
  wpList PV ops Q rest (a.put o.dst (.tuple #[.bool true,.int .i64 (i:Int),.int .i64 (f i)])) w'):
    wpList PV ops Q (o::rest) a w:=by
 refine wpList_plain hg λK' I=>?_
 have M:b≠r:=λe=>by
    have h1:=hm.at_;rw[e,hi.at_] at h1;cases h1
 unfold Oper.wp;rcases run_next_at (P:=PV) w o.type r b n n seen (mapE n f) n hi.at_ hm.at_ (λx hx=>by obtain⟨i,h,rfl⟩:=mapE_mem.1 hx;exact h) (fx8 _) with⟨h0,hrun⟩|⟨e,he,w1,hal,hrun⟩
 ·simp[execOp,C,B,hrun,Result.andThen];exact I _ _ (j λi h=>all_seen _ seen h0 (ent f i) (mapE_mem.2 ⟨i,h,rfl⟩))
 ·obtain⟨D,J⟩:=mem_left he;obtain⟨i,h,rfl⟩:=mapE_mem.1 D;have R:w1.heap[r]? =some (.mapIter (some b) n seen n):=by rcases hal with rfl|rfl <;>exact hi.at_
  have X:w1.heap[b]? =some (.map (mapE n f) n):=by rcases hal with rfl|rfl <;>exact hm.at_
  have O:r<w1.heap.size:=(fx5.1 R).1;have q:It (setBlock w1 r (.mapIter (some b) n (seen.push i) n)) r b n (seen.push i):=⟨by simp[setBlock,O]⟩;have U:Ch (λx=>x=r) w w1:=hal.elim (λe=>e▸Ch.rf _ _) (λe=>e▸(Ch.rf _ _).dr);have hC:Ch (λx=>x=r) w (setBlock w1 r (.mapIter (some b) n (seen.push i) n)):=U.sb (.inl rfl) _;have W:((mapE n f).toList.map (·.born)).Nodup:=by
   have:(mapE n f).toList.map (·.born)=List.range n:=by
       unfold mapE;simp[ent,Function.comp_def]
   rw[this];exact List.nodup_range
  have A:=run_entry_at (P:=PV) (setBlock w1 r (.mapIter (some b) n (seen.push i) n)) r b n seen (mapE n f) n (ent f i) q.at_ (hm.ch hC M).at_ D W;simp only[ent] at hrun A;simp[execOp,C,B,hrun,Result.andThen];exact I _ _ (m i _ h J hC (hal.elim (λe=>by rw[e];simp[setBlock]) (λe=>by rw[e];simp[setBlock])) q A)
end
end Go.Proofs.YtelecjnabeokeaaGreatDoor
namespace Go.Proofs.YtelecjnabeokeaaGreatDoor
open Go Go.RowKit
def lw (x0 x1 mv:Value) (kind pos r ec en cl last:Int) (e4:Value) (w:World) (h4:w.cell? ⟨4,0,none⟩=some e4) (j:pos<0\/last<pos) (h5:4<w.heap.size):
    Calls PV 48 #[x0,x1,.agg #[.int .i64 kind,.int .i64 pos,.int .i32 r,.int .i64 ec,.int .i64 en,.int .i64 cl],.int .i64 last,mv] w λx w'=>x=.returned e4/\Bl w w':=by
 obtain⟨a1,a2⟩:=bx 4;by_cases h1:pos<0
 ·go_enter PV.func48,Tryz.ntmps48;go_wp2;go_ret;exact⟨rfl,(Bl.rf _).al _⟩
 ·have h2:last<pos:=by omega
  go_enter PV.func48,Tryz.ntmps48;go_wp2;go_ret;exact⟨rfl,(Bl.rf _).al _⟩
def f7a (b:Nat) (x1 mv:Value) (y0 y1 y2 y3 y5 y6 y7:Value) (kind pos r ec en cl last:Int) (e6:Value) (w:World) (h6:w.cell? ⟨6,0,none⟩=some e6) (h5:6<w.heap.size) (hp:0<=pos/\pos<=last) (hB:Bk w b 75 #[y0,y1,y2,y3,.int .i64 (2000),y5,y6,y7]):
    Calls PV 48 #[.pointer (some ⟨b,0,none⟩),x1,.agg #[.int .i64 kind,.int .i64 pos,.int .i32 r,.int .i64 ec,.int .i64 en,.int .i64 cl],.int .i64 last,mv] w λx w'=>x=.returned e6/\Bl w w':=by
 obtain⟨m,j⟩:=hp;obtain⟨a1,a2⟩:=bx 6;obtain⟨a3,a4⟩:=bx b;obtain⟨cB,dB⟩:=hB.ceF;have q:=hB.lt;go_enter PV.func48,Tryz.ntmps48;go_wp2;go_ret;exact⟨rfl,(Bl.rf _).al _⟩
def f7b (b kb ul uc room:Nat) (mv:Value) (y0 y1 y2 y3 y5 y6 y7 tv rv yd yc:Value) (calls id cur B A q m kind pos r ec en cl last:Int) (U:List Plain.Frm) (e5:Value) (w:World) (h6:w.cell? ⟨5,0,none⟩=some e5) (h5:5<w.heap.size) (hp:0<=pos/\pos<=last) (hB:Bk w b 75 #[y0,y1,y2,y3,.int .i64 (calls),y5,y6,y7]) (hc: ¬calls=2000)
    (hK:Bk w kb 89 #[.int .i64 id,tv,.int .i64 (cur),.int .i64 (B),.int .i64 A,.int .i64 q,rv,.pointer (some ⟨ul,0,none⟩),yd,.int .i64 (m),yc]) (hL:Lnk w ul uc room U) (hU:U.length=room) (j:room<=1000):
    Calls PV 48 #[.pointer (some ⟨b,0,none⟩),.pointer (some ⟨kb,0,none⟩),.agg #[.int .i64 kind,.int .i64 pos,.int .i32 r,.int .i64 ec,.int .i64 en,.int .i64 cl],.int .i64 last,mv] w λx w'=>x=.returned e5/\Bl w w':=by
 obtain⟨I,C⟩:=hp;obtain⟨a1,a2⟩:=bx 5;obtain⟨a3,a4⟩:=bx b;obtain⟨a5,a6⟩:=bx kb;obtain⟨cB,dB⟩:=hB.ceF;obtain⟨cK,dK⟩:=hK.ceF;have M:=hB.lt;have O:=hK.lt;have D:(calls==2000)=false:=by simpa using hc
 have J:(U.length:Int)=(room:Int):=by omega
 have HL:=fx6 hL;clear hL hU hc;go_enter PV.func48,Tryz.ntmps48;go_wp2_with (first|(go_at_call 87;refine(ia ul uc room U _ (HL.out.bl fg) fe j).mono ?_;rintro e w1 ⟨rfl,rfl⟩));go_ret;exact⟨rfl,((Bl.rf _).al _).dr⟩
end Go.Proofs.YtelecjnabeokeaaGreatDoor
namespace Go.Proofs.YtelecjnabeokeaaGreatDoor
open Go
section
variable {P:Program} {ops:Array Oper} {Q:Exit->Act->World->Prop} {S:Nat->World->Prop} {cls:Nat->Option Nat} {C:Nat->List Nat} {Z:Act->World->Prop}
def fow (I : ∀(j:Nat) (o:Oper) cs b,ops[j]? =some o->o.op≠ .select cs b) (hQ: ∀c (a:Act) d v w,Q (.panic c) (a.put d v) w->Q (.panic c) a w)
    (X: ∀i,i<ops.size-> ∀p∈vj ops i,p<ops.size/\p≠i) {x y:Nat} {B1 B2:List Nat} (hx:cls x=none) (hy:cls y=none) (aP: ∀i∈B1,i∉vj ops x)
    (hB1:(B1.Pairwise λi j=>xi ops cls C i j=true)) (aR:(B2.Pairwise λi j=>xi ops cls C i j=true))
    (aO: ∀i∈B1,∀c,cls i=some c->c∈C x) (aI: ∀i∈B2,∀c,cls i=some c->c∈C y)
    (hw: ∀i∈B1,i≠y->x∈(ancL ops (i+1)).getD i []\/y∈(ancL ops (i+1)).getD i []):
    ∀ (m:Nat) (A:List Nat) (listed:Array Bool) (a:Act) (w:World),(A++x::B1).length=m->Rep ops listed (A++x::B1)->Rep ops listed (A++y::B2)->
      ((A++B1).Pairwise λi j=>xi ops cls C i j=true)->(∀i∈A,xi ops cls C i x=true/\xi ops cls C i y=true)->(∀i∈A++B1,∀c,cls i=some c->S c w)->
      z6 P ops Q S cls C (λa w=>z6 P ops Q S cls C (Q .normal) (x::B1) a w/\z6 P ops Q S cls C (Q .normal) (y::B2) a w) A a w->wpAny P .any ops Q m listed a w:=by
 intro m
 induction m with
 | zero=>intro A listed a w hl;simp at hl
 | succ m ih=>
   intro A listed a w hl hR D hP q hS h;have ahead: ∀(z i:Nat),xi ops cls C i z=true->z∈Region.ready .any ops listed->i∈A++x::B1-> ∃c,cls i=some c/\((cls z).isSome=true\/c∈C z)/\ ∃oi,ops[i]? =some oi/\ ∃oz,ops[z]? =some oz/\oi.apart ops oz=true:=by
    intro z i hp hz ac;obtain⟨_,an,aG⟩:=ready_iff.1 hz;have ae:=hR.lt i ac;obtain⟨c,g1,g2,g3⟩:=mn hR.closed aG ((hR.mem i).2 ac) ae an hp;exact⟨c,g1,g2,ops[i],fz1 ae,ops[z],fz1 an,g3⟩
   refine⟨λh0=>?_,λj hj=>?_⟩
   ·exfalso
    have key: ∀(r:Nat) (T:List Nat),A++x::B1=r::T->(∀p∈vj ops r,p∉T)->False:=by
       intro r T e aU;have hr:=hR.lt r ko;have:r∈Region.ready .any ops listed:=by
        refine ready_iff.2 ⟨(hR.mem r).2 ko,hr,λp hp=>?_⟩;obtain⟨aK,aN⟩:=X r hr p hp;refine hR.all p aK λhm=>?_;rw[e] at hm;rcases fy3.1 hm with e'|hm
        ·exact aN e'
        ·exact aU p hp hm
       rw[h0] at this;cases this
    cases A with
    | nil=>exact key x B1 rfl λp hp hm=>aP p hm hp
    | cons r A=>
      refine key r (A++x::B1) rfl λp hp hm=>?_;have c1:=(f1h.1 hP).1;simp only[fz0,fy3] at hm;rcases hm with hm|rfl|hm
      ·exact yq (c1 p (by simp[hm])) hp
      ·exact yq (q r fz5).1 hp
      ·exact yq (c1 p (by simp[hm])) hp
   ·obtain ⟨aC,aJ,M⟩:=ready_iff.1 hj;have R:ops[j]? =some ops[j]:=fz1 aJ
    have fr: ∀(A1:List Nat),(∀i∈A1,xi ops cls C i j=true/\i∈A++x::B1)-> ∀i∈A1,∃c,cls i=some c/\ ∃oi,ops[i]? =some oi/\oi.apart ops ops[j]=true:=by
       intro A1 hP i hi;obtain⟨c,g1,_,oi,g3,oz,g4,g5⟩:=ahead j i (hP i hi).1 hj (hP i hi).2;obtain rfl:oz=ops[j]:=fy7 (g4.symm.trans R);exact⟨c,g1,oi,g3,g5⟩
    by_cases aD:j∈A
    ·obtain⟨A1,A2,rfl⟩:=List.append_of_mem aD;have U:(A1++j::(A2++B1)).Pairwise λi j=>xi ops cls C i j=true:=by simpa using hP
     have aS:=fr A1 (λi hi=>⟨(f0m.1 U).2.2 i hi j fz5,by simp[hi]⟩);rw[f0k,f0j] at hR hl D;have f:=zo I hQ R A1 aS a w h;have ap:Rep ops (listed.setIfInBounds j true) (A1++A2++x::B1):=by
      rw[f0k];exact hR.step M
     have W:Rep ops (listed.setIfInBounds j true) (A1++A2++y::B2):=by
      rw[f0k];exact D.step M
     have aB:(A1++A2++x::B1).length=m:=by simp at hl ⊢;omega
     have aa:(A1++A2++B1).Pairwise λi j=>xi ops cls C i j=true:=U.sublist fi;have O: ∀i∈A1++A2,xi ops cls C i x=true/\xi ops cls C i y=true:=λi hi=>q i kt;cases J:cls j with
     | some cj=>
       obtain⟨o1,v1,aT,aQ,f⟩:=(z7 J).1 f;exact aQ.wpOp aT (hS j fi cj J) (ih (A1++A2) _ _ _ aB ap W aa O
        (λi hi=>hS i ke) f)
     | none=>
       have f:=(yp J).1 f;refine f4r (λa' w' ⟨g1,g2⟩=>ih (A1++A2) _ _ _ aB ap W aa O (λi hi c hc=>g1 c ?_) g2) f;have hi:i∈A1\/i∈A2++B1:=by simpa[or_assoc] using hi
       rcases hi with hi|hi
       ·obtain⟨c',e,g,_⟩:=ahead j i ((f0m.1 U).2.2 i hi j fz5) hj qg;obtain rfl:c'=c:=fy7 (e.symm.trans hc);rcases g with g|g
        ·rw[J] at g;cases g
        ·exact g
       ·exact z8 ((f1h.1 (f0m.1 U).2.1).1 i hi) J hc
    ·have aA:=(hR.mem j).1 aC;have aW:=(D.mem j).1 aC;have aV:=(hR.mem x).2 fi;have aM:=(D.mem y).2 fi;have ah: ∀(T:List Nat) (i c:Nat),i∈A->cls j=none->xi ops cls C i j=true->cls i=some c->c∈C j:=by
      intro _ i c hi J hp hc;obtain⟨c',e,g,_⟩:=ahead j i hp hj qg;obtain rfl:c'=c:=fy7 (e.symm.trans hc);rcases g with g|g
      ·rw[J] at g;cases g
      ·exact g
     by_cases Y:j=x
     ·subst Y;have f:=zo (B:=B1) I hQ R A (fr A (λi hi=>⟨(q i hi).1,by simp[hi]⟩)) a w ((co A (j::B1) a w).2 (ao (λ_ _ h=>h.1) A a w h));have f:=(yp hx).1 f;refine f4r (λa' w' ⟨g1,g2⟩=>f2t I hQ X m _ _ _ _ (by simp at hl ⊢;omega) (hR.step M) hP (λi hi c hc=>g1 c ?_) g2) f;rcases fz0.1 hi with hi|hi
      ·exact ah [] i c hi hx (q i hi).1 hc
      ·exact aO i hi c hc
     by_cases ak:j=y
     ·subst ak;have f:=zo (B:=B2) I hQ R A (fr A (λi hi=>⟨(q i hi).2,by simp[hi]⟩)) a w ((co A (j::B2) a w).2 (ao (λ_ _ h=>h.2) A a w h));have f:=(yp hy).1 f;have ad:(A++B2).length=m:=by
       have h1:(A++x::B1).length=(A++j::B2).length:=((List.perm_ext_iff_of_nodup hR.nodup D.nodup).2 λi=>(hR.mem i).symm.trans (D.mem i)).length_eq;simp at hl h1 ⊢;omega
      have ab: ∀i∈B2,i∈A++x::B1:=λi hi=>(hR.mem i).1 ((D.mem i).2 qg);have aF:(A++B2).Pairwise λi j=>xi ops cls C i j=true:=by
       refine f0m.2 ⟨(f0m.1 hP).1,aR,λi hi k hk=>?_⟩
       have hd:k∉A:=λaH=>by
          have:=(List.nodup_append.1 D.nodup).2.2 k aH k (by simp[hk]);exact this rfl
       have aE:=ab k hk;simp only[fz0,fy3] at aE;rcases aE with g|rfl|g
       ·exact absurd g hd
       ·exact(q i hi).1
       ·exact(f0m.1 hP).2.2 i hi k g
      refine f4r (λa' w' ⟨g1,g2⟩=>f2t I hQ X m _ _ _ _ ad (D.step M) aF (λi hi c hc=>g1 c ?_) g2) f;rcases fz0.1 hi with hi|hi
      ·exact ah [] i c hi hy (q i hi).2 hc
      ·exact aI i hi c hc
     ·exfalso;simp only[fz0,fy3] at aA;have aL:j∈B1:=by rcases aA with g|g|g;exact absurd g aD;exact absurd g Y;exact g
      rcases hw j aL ak with g|g
      ·have:=fb5 hR.closed j x M g;rw[feo aV] at this;cases this
      ·have:=fb5 hR.closed j y M g;rw[feo aM] at this;cases this
def okL3 (ops:Array Oper) (A:List (Kd×Nat)) (x:Kd×Nat) (B1:List (Kd×Nat)) (y:Kd×Nat) (B2:List (Kd×Nat)):Bool:=
 foo ops (A++x::B1)&&(foo ops (y::B2)&&((y::B2).all λz=>bi (y::B2) z.2==bi (A++x::B1) z.2&&csOf (y::B2) z.2==csOf (A++x::B1) z.2))&&
 (fom ops ((A.map (·.2))++x.2::(B1.map (·.2)))&&fom ops ((A.map (·.2))++y.2::(B2.map (·.2))))&&
 (fbt (xi ops (bi (A++x::B1)) (csOf (A++x::B1))) ((A.map (·.2))++(B1.map (·.2)))&&fbt (xi ops (bi (A++x::B1)) (csOf (A++x::B1))) (B2.map (·.2)))&&
 ((A.map (·.2)).all λi=>xi ops (bi (A++x::B1)) (csOf (A++x::B1)) i x.2&&xi ops (bi (A++x::B1)) (csOf (A++x::B1)) i y.2)&&
 ((bi (A++x::B1) x.2).isNone&&(bi (A++x::B1) y.2).isNone)&&
 ((B1.map (·.2)).all λi=> !(vj ops x.2).contains i&&(match bi (A++x::B1) i with|some c=>(csOf (A++x::B1) x.2).contains c|none=>true)&&(i==y.2||((ancL ops (i+1)).getD i []).contains x.2||((ancL ops (i+1)).getD i []).contains y.2))&&
 ((B2.map (·.2)).all λi=>match bi (A++x::B1) i with|some c=>(csOf (A++x::B1) y.2).contains c|none=>true)
def fbu {id:Nat} {a:Act} {w:World} (S:Nat->World->Prop) (A:List (Kd×Nat)) (x:Kd×Nat) (B1:List (Kd×Nat)) (y:Kd×Nat) (B2:List (Kd×Nat)) (hm:P.follows .mixedOrders=true) (hB:okL3 ops A x B1 y B2=true) (hS: ∀c,S c w.drew)
    (h:ordL P (NoPanic Q) S (λa w=>ordL P (NoPanic Q) S (NoPanic Q .normal) (vg ops (x::B1)) a w/\ordL P (NoPanic Q) S (NoPanic Q .normal) (vg ops (y::B2)) a w) (vg ops A) a w.drew):(Code.region id ops true).wp P Q a w:=by
 simp only[okL3,f04] at hB;obtain⟨⟨⟨⟨⟨⟨⟨U,C,I⟩,R,O⟩,j,M⟩,hA⟩,hx,hy⟩,h1⟩,h2⟩:=hB;obtain⟨g1,g2⟩:=mq U;obtain⟨Y,X⟩:=mq C
 have q: ∀z∈y::B2,z.2<ops.size/\KdOk (bi (A++x::B1)) (csOf (A++x::B1)) z:=λz hz=>by
    obtain⟨e1,e2⟩:=X z hz;refine⟨e1,?_⟩;have:=f1x.1 I z hz;simp only[f04,f5g] at this;unfold KdOk at e2 ⊢;rw[<- this.1,<- this.2];exact e2
 obtain⟨hR,m,J,B⟩:=fae R;obtain⟨W,_⟩:=fae O;have m1: ∀z∈A,z∈A++x::B1:=λz hz=>by simp[hz]
 have m2: ∀z∈x::B1,z∈A++x::B1:=λz hz=>by simp only[fz0];exact .inr hz
 have k:=cq g1 A (λz hz=>g2 z (m1 z hz)) _ _ h.out
 have k:=ao (Z':=λa w=>z6 P ops (NoPanic Q) S (bi (A++x::B1)) (csOf (A++x::B1)) (NoPanic Q .normal) (x.2::B1.map (·.2)) a w/\z6 P ops (NoPanic Q) S (bi (A++x::B1)) (csOf (A++x::B1)) (NoPanic Q .normal) (y.2::B2.map (·.2)) a w)
    (λa w g=>⟨cq g1 (x::B1) (λz hz=>g2 z (m2 z hz)) _ _ g.1.out,cq g1 (y::B2) q _ _ g.2.out⟩) _ _ _ k
 simp only[f1x,f04,Option.isNone_iff_eq_none] at hA hx hy h1 h2;refine wp_region_noPanic (wp_region_any hm (fow m (λc a d v w h=>h.elim) J hx hy (λi hi=>?_) ((am j).sublist fi) (am M) (λi hi c hc=>?_) (λi hi c hc=>?_) (λi hi D=>?_) ops.size _ _ a _ B hR W (am j) hA (λ_ _ c _=>hS c) k))
 ·have:=(h1 i hi).1.1;simpa using this
 ·have:=(h1 i hi).1.2;rw[hc] at this;simpa using this
 ·have:=h2 i hi;rw[hc] at this;simpa using this
 ·have:=(h1 i hi).2;simp only[f4n,f5g,f5e,f1r] at this;rcases this with(g|g)|g
  ·exact absurd g D
  ·exact .inl g
  ·exact .inr g
end
open Go.RowKit
def get0 (kb dl dc room:Nat) (tv rv yu yc:Value) (id cur C q m j:Int) (e7:Value) (w:World) (h7:w.cell? ⟨7,0,none⟩=some e7) (A:Base w) (hK:Bk w kb 89 #[.int .i64 id,tv,.int .i64 (cur),.int .i64 C,.int .i64 (q),.int .i64 (m),rv,yu,.pointer (some ⟨dl,0,none⟩),.int .i64 j,yc]) (hL:Lnk w dl dc room []) (h2:8<=dl) (D:1<=room):
    Calls PV 56 #[.pointer (some ⟨kb,0,none⟩)] w λx w'=>x=.returned e7/\Lnk w' dl dc room []/\Ch (λx=>x=dl) w w':=by
 have J:=hL.lb.lt;have B: ∀W,Ch (λx=>x=dl) w W->W.cell? ⟨7,0,none⟩=some e7:=λW hC=>(f0h (a:=⟨7,0,none⟩) (hC.block 7 fe fe)).trans h7;have H7:=fx6 B;clear B h7;obtain⟨cK,dK⟩:=hK.ceF;have HP:=fx6 (λW (hW:Bl w W)=>ltake0 dl dc room W (A.bl hW) (hL.bl hW) fe D);obtain⟨b1,b2⟩:=bx 7;clear hL;go_enter PV.func56,Tryz.ntmps56;go_upto_region 4 with(first|(go_at_call 93;refine(HP.out _ fg).mono ?_;rintro e w1 ⟨rfl,g1,g2⟩;have g7:=H7.out _ g2;have I:7<w1.heap.size:=f0f fe g2.size))
 go_ret;exact⟨rfl,g1.bl fg,g2.cl fg⟩
def get1 (kb dl dc room:Nat) (tv rv yu yc:Value) (id cur m j C A fk fp fr fc fn M fm fo J:Int) (D:List Plain.Frm) (R:List Plain.Sent) (t:List Plain.El) (w:World) (aA:Base w) (hK:Bk w kb 89 #[.int .i64 id,tv,.int .i64 (cur),.int .i64 m,.int .i64 (j),.int .i64 (C),rv,yu,.pointer (some ⟨dl,0,none⟩),.int .i64 A,yc]) (hL:Lnk w dl dc room (⟨⟨fk,fp,⟨fr,fc,fn⟩,M⟩,fm,fo,J⟩::D)) (h2:8<=dl) (aI:1<=room)
    (hT:Txt w tv t) (hR:RowV w rv R) (aL:R.length<=4000) (hn:t.length<=4000) (hN:Near ⟨⟨fk,fp,⟨fr,fc,fn⟩,M⟩,fm,fo,J⟩ R) (aa:Plain.Fits (Plain.tryF ⟨m,j,C,R⟩ ⟨⟨fk,fp,⟨fr,fc,fn⟩,M⟩,fm,fo,J⟩).1 t.length) (aO:0<=cur/\cur<=4000) (ho:0<=j/\j<=4000):
    Calls PV 56 #[.pointer (some ⟨kb,0,none⟩)] w λx w'=> ∃ak B,x=.returned .nilIface/\Bk w' kb 89 #[.int .i64 id,ak,.int .i64 (Plain.index (Plain.tryF ⟨m,j,C,R⟩ ⟨⟨fk,fp,⟨fr,fc,fn⟩,M⟩,fm,fo,J⟩).1 cur),.int .i64 m,.int .i64 (j+1),.int .i64 (fo),B,yu,.pointer (some ⟨dl,0,none⟩),.int .i64 A,yc]/\Lnk w' dl dc room D/\Txt w' ak (Plain.apply (Plain.tryF ⟨m,j,C,R⟩ ⟨⟨fk,fp,⟨fr,fc,fn⟩,M⟩,fm,fo,J⟩).1 t)/\
     w'.ownsRow w.heap.size 209 7 B (Plain.take ⟨m,j,C,R⟩ ⟨⟨fk,fp,⟨fr,fc,fn⟩,M⟩,fm,fo,J⟩).row.length (rowF (Plain.take ⟨m,j,C,R⟩ ⟨⟨fk,fp,⟨fr,fc,fn⟩,M⟩,fm,fo,J⟩).row)/\Ch (λx=>x=kb\/x=dc\/x=dl) w w'/\ ∀x,ak.ownBlock=some x->tv.ownBlock=some x\/w.heap.size<=x:=by
 have aQ:=hL.lb.lt;have aR:=hK.lt;have aM: ¬kb=dl:=hK.ne_ hL.lb fu;have aH: ¬kb=dc:=uh hL hK;have HP:=fx6 (λW (hW:Bl w W)=>fga dl dc room ⟨⟨fk,fp,⟨fr,fc,fn⟩,M⟩,fm,fo,J⟩ D W (aA.bl hW) (hL.bl hW) fe aI);have PT:=fx6 (λW (hW:Ch (λx=>x=dc\/x=dl) w W)=>fn9 kb 3 89 #[.int .i64 id,tv,.int .i64 (cur),.int .i64 m,.int .i64 (j),.int .i64 (C),rv,yu,.pointer (some ⟨dl,0,none⟩),.int .i64 A,yc] rv ⟨m,j,C,R⟩ ⟨⟨fk,fp,⟨fr,fc,fn⟩,M⟩,fm,fo,J⟩ W (hK.ch hW fe) ⟨rfl,rfl,rfl,rfl⟩ (qx hW hR (λx hx=>by rintro(h|h);exact ui hR hL x hx h;exact rp hR hL.lb fu x hx h)) aL hN ji);obtain⟨⟨⟨qk,qp,⟨qr,qc,qn⟩,O⟩,qq,out⟩,hq⟩: ∃q,q=Plain.tryF ⟨m,j,C,R⟩ ⟨⟨fk,fp,⟨fr,fc,fn⟩,M⟩,fm,fo,J⟩:=⟨_,rfl⟩;have aD:(Plain.take ⟨m,j,C,R⟩ ⟨⟨fk,fp,⟨fr,fc,fn⟩,M⟩,fm,fo,J⟩).row=out:=by simp only[Plain.take,<- hq]
 rw[<- hq] at PT aa ⊢;rw[aD] at PT ⊢;clear hq aD;dsimp only at PT aa ⊢;have aS:=fx6 (λW (hW:Ch (λx=>x=dc\/x=dl) w W)=>hK.ch hW fe);have aF:=fx6 (λW (hW:Ch (λx=>x=kb\/x=dc\/x=dl) w W)=>(qx hW hT (λx hx=>by rintro(h|h|h);exact rp hT hK fu x hx h;exact ui hT hL x hx h;exact rp hT hL.lb fu x hx h):Txt W tv t));obtain⟨cK,dK⟩:=hK.ceF;have aP: ¬dl=dc:=uh hL hL.lb;have ad: ¬dl=kb:=λh=>aM h.symm;have ae: ¬dc=kb:=λh=>aH h.symm;clear hL hT hR hN hK;go_enter PV.func56,Tryz.ntmps56;go_wp2_with (first|(go_at_call 93;refine(HP.out _ fg).mono ?_;rintro e w1 ⟨rfl,ac,gC1⟩));have aN:=gC1.size;have aK:dc<w1.heap.size:=by obtain⟨s,r,h⟩:=ac.ch;exact(fx5.1 h).1
 go_cut [5,6] from 18 to 26 (λt5 t6 wx=> ∃B xq,t5=.pointer (some ⟨xq,0,none⟩)/\Bk wx kb 89 #[.int .i64 id,tv,.int .i64 (cur),.int .i64 m,.int .i64 (j+1),.int .i64 (fo),B,yu,.pointer (some ⟨dl,0,none⟩),.int .i64 A,yc]/\Lnk wx dl dc room D/\wx.ownsRow w.heap.size 209 7 B out.length (rowF out)/\Bk wx xq 40 #[.int .i64 qk,.int .i64 qp,.int .i32 qr,.int .i64 qc,.int .i64 qn,.int .i64 O]/\Ch (λx=>x=kb\/x=dc\/x=dl) w wx)
 case first=>
    refine fbu (sel [λw'=>Bk w' w1.heap.size 110 #[.int .i64 fk,.int .i64 fp,.int .i32 fr,.int .i64 fc,.int .i64 fn,.int .i64 M,.int .i64 fm,.int .i64 fo,.int .i64 J]]) [(.h 9,0),(.h 9,1),(.h 9,2),(.h 0,3)] (.c [9],4) [(.h 9,5),(.h 9,6),(.h 9,7),(.c [0,9],8),(.c [9],9),(.h 9,10)] (.c [0,9],8) [(.c [9],4),(.h 9,5),(.h 9,6),(.h 9,7),(.c [9],9),(.h 9,10)] fd fd (qy tw (λ_=>un)) ?_;simp only[vg,fy9,fz4,fz3,fy2,fx7,fy0];iterate 4 (refine oH ?_;try simp only[aps])
    refine fjy ?_ ?_
    ·try simp only[vg,fy9,fz4,fz3,fy2,fx7,fy0]
     (refine rx (λK hK=>?_);go_simp;go_at_call 94;refine(PT.out _ gy).mono ?_;rintro e w2 ⟨B,rfl,Y,U,gC2⟩;replace Y:=Bk.cv (cs':=#[.int .i64 id,tv,.int .i64 (cur),.int .i64 m,.int .i64 (j+1),.int .i64 (fo),B,yu,.pointer (some ⟨dl,0,none⟩),.int .i64 A,yc]) Y fi;have an:Ch (λx=>x=kb\/x=dc\/x=dl) w w2:=(Ch.mo (K':=λx=>x=kb\/x=dc\/x=dl) gy (λx h=>.inr h)).tr gC2 (λx h=>.inl (.inl h));have ap:Lnk w2 dl dc room D:=(ac.bl fg).ch_ gC2 ji ji;replace U:=mj (base':=w.heap.size) U (by have:=gC1.size;simp;omega);(try dsimp only);refine hK _ _ (rh trivial ry) ?_;clear hK K;try simp only[aps]);iterate 3 (refine oH ?_;try simp only[aps])
     (refine rx (λK hK=>?_);go_simp;refine hK _ _ (rh tw (rh trivial ry)) ?_;clear hK K;try simp only[aps])
     (refine rx (λK hK=>?_);go_simp;refine hK _ _ (rh trivial ry) ?_;clear hK K;try simp only[aps])
     (refine oH ?_;try simp only[aps]);refine ub ?_;have aC: ∀W,Ch (λ_=>False) w2 W->Bk W kb 89 #[.int .i64 id,tv,.int .i64 (cur),.int .i64 m,.int .i64 (j+1),.int .i64 (fo),B,yu,.pointer (some ⟨dl,0,none⟩),.int .i64 A,yc]/\Lnk W dl dc room D/\W.ownsRow w.heap.size 209 7 B out.length (rowF out):=λW hC=>⟨Y.ch hC (λh=>h),ap.ch_ hC (λh=>h) (λh=>h),qx hC U (λx hx h=>h)⟩;go_wp2_with fail
     go_meet
     case rel=>
      refine(λf=>⟨B,_,rfl,f.1,f.2.1,f.2.2,?_,?_⟩) (aC _ ?_)
      ·repeat' (first|with_reducible exact Ch.rf _ _|with_reducible refine Ch.al ?_ _|with_reducible refine Ch.dr ?_|with_reducible refine Ch.st ?_ fi _)
      ·exact Bk.nw fi
      ·repeat' (first|with_reducible exact an|with_reducible refine Ch.al ?_ _|with_reducible refine Ch.dr ?_|with_reducible refine Ch.st ?_ (by simp;have:=gC1.size;omega) _)
    ·try simp only[vg,fy9,fz4,fz3,fy2,fx7,fy0]
     (refine rx (λK hK=>?_);go_simp;refine hK _ _ (rh tw (rh trivial ry)) ?_;clear hK K;try simp only[aps])
     (refine rx (λK hK=>?_);go_simp;go_at_call 94;refine(PT.out _ gy).mono ?_;rintro e w2 ⟨B,rfl,Y,U,gC2⟩;replace Y:=Bk.cv (cs':=#[.int .i64 id,tv,.int .i64 (cur),.int .i64 m,.int .i64 (j+1),.int .i64 (fo),B,yu,.pointer (some ⟨dl,0,none⟩),.int .i64 A,yc]) Y fi;have an:Ch (λx=>x=kb\/x=dc\/x=dl) w w2:=(Ch.mo (K':=λx=>x=kb\/x=dc\/x=dl) gy (λx h=>.inr h)).tr gC2 (λx h=>.inl (.inl h));have ap:Lnk w2 dl dc room D:=(ac.bl fg).ch_ gC2 ji ji;replace U:=mj (base':=w.heap.size) U (by have:=gC1.size;simp;omega);have gZ:=Bk.ch (g:=w1.heap.size+1) (t:=40) (cs:=#[.int .i64 0,.int .i64 0,.int .i32 0,.int .i64 0,.int .i64 0,.int .i64 0]) gC2 ji fy;obtain⟨cZ,dZ⟩:=gZ.ceF;(try dsimp only);refine hK _ _ (rh trivial ry) ?_;clear hK K;try simp only[aps]);iterate 3 (refine oH ?_;try simp only[aps])
     (refine rx (λK hK=>?_);go_simp;refine hK _ _ (rh trivial ry) ?_;clear hK K;try simp only[aps])
     (refine oH ?_;try simp only[aps]);refine ub ?_;have aC: ∀W,Ch (λx=>x=w1.heap.size+1) w2 W->Bk W kb 89 #[.int .i64 id,tv,.int .i64 (cur),.int .i64 m,.int .i64 (j+1),.int .i64 (fo),B,yu,.pointer (some ⟨dl,0,none⟩),.int .i64 A,yc]/\Lnk W dl dc room D/\W.ownsRow w.heap.size 209 7 B out.length (rowF out):=λW hC=>⟨Y.ch hC ji,ap.ch_ hC ji ji,qx hC U (rp U gZ fu)⟩;go_wp2_with fail
     go_meet
     case rel=>
      refine(λf=>⟨B,_,rfl,f.1,f.2.1,f.2.2,?_,?_⟩) (aC _ ?_)
      ·repeat' (first|with_reducible exact Ch.rf _ _|with_reducible refine Ch.al ?_ _|with_reducible refine Ch.dr ?_|with_reducible refine Ch.st ?_ fi _)
      ·exact Bk.st6 gZ
      ·repeat' (first|with_reducible exact an|with_reducible refine Ch.al ?_ _|with_reducible refine Ch.dr ?_|with_reducible refine Ch.st ?_ (by simp;have:=gC1.size;omega) _)
 case rest=>
    obtain⟨B,xq,rfl,gK,gL,gR,gX,gC⟩:=hcut;clear aN aK ac gC1;go_upto_region 5 with fail
    have gT:=aF.out _ gC;have aG: ¬kb=xq:=by rintro h;have h1:=gX.at_;have h2:=gK.at_;rw[h] at h2;rw[h1] at h2;cases h2
    refine rn (sel [λw'=>Bk w' xq 40 #[.int .i64 qk,.int .i64 qp,.int .i32 qr,.int .i64 qc,.int .i64 qn,.int .i64 O],λw'=>Bk w' kb 89 #[.int .i64 id,tv,.int .i64 (cur),.int .i64 m,.int .i64 (j+1),.int .i64 (fo),B,yu,.pointer (some ⟨dl,0,none⟩),.int .i64 A,yc]]) [(.h 9,0),(.h 0,1),(.h 9,2),(.h 9,3),(.h 9,4),(.h 1,5),(.c [9],6),(.h 9,7),(.h 9,8),(.c [],9)] fd fd (qy (Bk.dr gX) (qy (Bk.dr gK) (λ_=>un))) ?_;simp only[vg,fy9,fz4,fz3,fy2,fx7,fy0];iterate 6 (refine oH ?_;try simp only[aps])
    (refine rx (λK hK=>?_);go_simp;go_at_call 88;refine(dy ⟨qk,qp,⟨qr,qc,qn⟩,O⟩ t tv _ (aF.out _ (Ch.dr gC)) aa hn).mono ?_;rintro e w3 ⟨v3,rfl,ab,I,aE⟩;obtain⟨A3,m3,c3,rfl⟩:=bj ab;have aJ:=fx6 (show ∀x,(Value.slice A3 m3 c3).ownBlock=some x->tv.ownBlock=some x\/w.heap.size<=x from λx hx=>(aE x hx).imp (λh=>h) (f08 gC.size));clear aE;have X:=Bk.bl I (Bk.dr gK);obtain⟨aB,ah⟩:=X.ceF;(try dsimp only);refine hK _ _ (rh trivial ry) ?_;clear hK K;try simp only[aps]);iterate 2 (refine oH ?_;try simp only[aps])
    (refine rx (λK hK=>?_);go_simp;refine hK _ _ ry ?_;clear hK K;try simp only[aps]);refine ub ?_;refine vy (F:=λW'=>Bk W' kb 89 #[.int .i64 id,(.slice A3 m3 c3),.int .i64 (cur),.int .i64 m,.int .i64 (j+1),.int .i64 (fo),B,yu,.pointer (some ⟨dl,0,none⟩),.int .i64 A,yc]/\Lnk W' dl dc room D/\W'.ownsRow w.heap.size 209 7 B out.length (rowF out)/\Bk W' xq 40 #[.int .i64 qk,.int .i64 qp,.int .i32 qr,.int .i64 qc,.int .i64 qn,.int .i64 O]/\Txt W' (.slice A3 m3 c3) (Plain.apply ⟨qk,qp,⟨qr,qc,qn⟩,O⟩ t)/\Ch (λx=>x=kb\/x=dc\/x=dl) w W') ⟨?_,?_,?_,?_,?_,?_⟩ ?_
    ·exact Bk.cv (Bk.st _ X) fi
    ·exact gL.ch_ (((Ch.rf (λx=>x=kb) wc).dr.cl I).st (p:=⟨kb,1,none⟩) (.inl rfl) _) ad ae
    ·exact qx (K:=λx=>x=kb) (((Ch.rf (λx=>x=kb) wc).dr.cl I).st (p:=⟨kb,1,none⟩) (.inl rfl) _) gR (rp gR gK fu)
    ·exact Bk.fr _ (λh=>aG h.symm) (Bk.bl I (Bk.dr gX))
    ·exact qx (K:=λx=>x=kb) ((Ch.rf (λx=>x=kb) w3).st (p:=⟨kb,1,none⟩) (.inl rfl) _) ab (rp ab X fu)
    ·exact((gC.dr).cl I).st (p:=⟨kb,1,none⟩) (.inl (.inl rfl)) _
    clear aB ah X ab I w3 gK gL gR gX gT gC;rintro W ⟨gK,gL,gR,gX,gT,gC⟩;go_wp2_with fail;refine rn (sel [λw'=>Bk w' xq 40 #[.int .i64 qk,.int .i64 qp,.int .i32 qr,.int .i64 qc,.int .i64 qn,.int .i64 O],λw'=>Bk w' kb 89 #[.int .i64 id,(.slice A3 m3 c3),.int .i64 (cur),.int .i64 m,.int .i64 (j+1),.int .i64 (fo),B,yu,.pointer (some ⟨dl,0,none⟩),.int .i64 A,yc]]) [(.h 9,0),(.h 0,1),(.h 9,2),(.h 9,3),(.h 9,4),(.h 1,5),(.c [9],6),(.h 9,7),(.h 9,8),(.c [],9)] fd fd (qy (Bk.dr gX) (qy (Bk.dr gK) (λ_=>un))) ?_;simp only[vg,fy9,fz4,fz3,fy2,fx7,fy0];iterate 6 (refine oH ?_;try simp only[aps])
    (refine rx (λK hK=>?_);go_simp;go_at_call 89;refine(bh ⟨qk,qp,⟨qr,qc,qn⟩,O⟩ cur _ fe fe).mono ?_;rintro e w3 ⟨rfl,I⟩;have X:=Bk.bl I (Bk.dr gK);obtain⟨aB,ah⟩:=X.ceF;(try dsimp only);refine hK _ _ (rh trivial ry) ?_;clear hK K;try simp only[aps]);iterate 2 (refine oH ?_;try simp only[aps])
    (refine rx (λK hK=>?_);go_simp;refine hK _ _ ry ?_;clear hK K;try simp only[aps]);refine ub ?_;refine vy (F:=λW'=>Bk W' kb 89 #[.int .i64 id,(.slice A3 m3 c3),.int .i64 (Plain.index ⟨qk,qp,⟨qr,qc,qn⟩,O⟩ cur),.int .i64 m,.int .i64 (j+1),.int .i64 (fo),B,yu,.pointer (some ⟨dl,0,none⟩),.int .i64 A,yc]/\Lnk W' dl dc room D/\W'.ownsRow w.heap.size 209 7 B out.length (rowF out)/\Bk W' xq 40 #[.int .i64 qk,.int .i64 qp,.int .i32 qr,.int .i64 qc,.int .i64 qn,.int .i64 O]/\Txt W' (.slice A3 m3 c3) (Plain.apply ⟨qk,qp,⟨qr,qc,qn⟩,O⟩ t)/\Ch (λx=>x=kb\/x=dc\/x=dl) w W') ⟨?_,?_,?_,?_,?_,?_⟩ ?_
    ·exact Bk.cv (Bk.st _ X) fi
    ·exact gL.ch_ (((Ch.rf (λx=>x=kb) W).dr.cl I).st (p:=⟨kb,2,none⟩) (.inl rfl) _) ad ae
    ·exact qx (K:=λx=>x=kb) (((Ch.rf (λx=>x=kb) W).dr.cl I).st (p:=⟨kb,2,none⟩) (.inl rfl) _) gR (rp gR gK fu)
    ·exact Bk.fr _ (λh=>aG h.symm) (Bk.bl I (Bk.dr gX))
    ·exact qx (K:=λx=>x=kb) (((Ch.rf (λx=>x=kb) W).dr.cl I).st (p:=⟨kb,2,none⟩) (.inl rfl) _) gT (rp gT gK fu)
    ·exact((gC.dr).cl I).st (p:=⟨kb,2,none⟩) (.inl (.inl rfl)) _
    clear aB ah X I w3 gK gL gR gX gT gC W;rintro W ⟨gK,gL,gR,gX,gT,gC⟩;go_wp2;go_ret;exact⟨_,B,rfl,gK,gL,gT,gR,gC,aJ.out⟩
structure Lay where
 b:Nat
 sb:Nat
 eb:Nat
 nb:Nat
 mb:Nat
 c0:Nat
 cls:Value
 y1:Value
 y6:Value
 y7:Value
 kb:Nat->Nat
 ul:Nat->Nat
 uc:Nat->Nat
 dl:Nat->Nat
 dc:Nat->Nat
 wc:Nat->Nat
 far:Nat->Prop:=λ_=>False
structure Vals where
 tv:Nat->Value
 rv:Nat->Value
 er:Nat->Value
 st:Value
 lg:Value
abbrev chgL (a:Plain.Chg):List Value:=[.int .i64 a.kind,.int .i64 a.pos,.int .i32 a.e.r,.int .i64 a.e.c,.int .i64 a.e.n,.int .i64 a.cl]
def logF:List Plain.Chg->List Value
 | []=>[]
 | a::R=>chgL a++logF R
def flp (R S:List Plain.Chg):logF (R++S)=logF R++logF S:=by
 induction R with
 | nil=>rfl
 | cons s R ih=>simp only[f0j,logF,ih,f0k]
abbrev sesC (L:Lay) (m:Int) (calls:Nat):Array Value:=#[.int .i32 m,L.y1,L.cls,.pointer (some ⟨L.sb,0,none⟩),.int .i64 (calls:Int),.bool false,L.y6,L.y7]
abbrev srvC (L:Lay) (n:Nat) (st lg:Value):Array Value:=#[st,lg,.map (some L.mb),.slice (some ⟨L.eb,0,none⟩) n n,.slice (some ⟨L.nb,0,none⟩) n n,.chan (some L.c0)]
abbrev cliC (L:Lay) (c:Nat) (tv rv:Value) (k:Plain.Cl):Array Value:=
 #[.int .i64 (c:Int),tv,.int .i64 k.cur,.int .i64 k.en.mine,.int .i64 k.en.other,.int .i64 k.en.acked,rv,.pointer (some ⟨L.ul c,0,none⟩),.pointer (some ⟨L.dl c,0,none⟩),.int .i64 k.typed,.chan (some (L.wc c))]
def cr (n:Nat) (f:Nat->Int):Array Value:=((List.range n).map λc=>Value.int .i64 (f c)).toArray
def clsL (L:Lay) (n:Nat):List Value:=(List.range n).map λc=>Value.pointer (some ⟨L.kb c,0,none⟩)
structure Tags (L:Lay) (V:Vals) (n:Nat) (ow:Nat->Nat):Prop where
 lo: ∀x,x<12->ow x=0
 b:ow L.b=1
 sb:ow L.sb=2
 eb:ow L.eb=3
 nb:ow L.nb=4
 mb:ow L.mb=5
 c0:ow L.c0=6
 lg: ∀x,V.lg.ownBlock=some x->ow x=8
 ar: ∀x,L.cls.ownBlock=some x->ow x=9
 kb: ∀c,c<n->ow (L.kb c)=16*c+16
 ul: ∀c,c<n->ow (L.ul c)=16*c+17
 uc: ∀c,c<n->ow (L.uc c)=16*c+18
 dl: ∀c,c<n->ow (L.dl c)=16*c+19
 dc: ∀c,c<n->ow (L.dc c)=16*c+20
 wc: ∀c,c<n->ow (L.wc c)=16*c+21
 rv: ∀c,c<n-> ∀x,(V.rv c).ownBlock=some x->ow x=16*c+22
 er: ∀c,c<n-> ∀x,(V.er c).ownBlock=some x->ow x=16*c+23
structure Ends (w:World) (L:Lay) (n:Nat) (es:Nat->Plain.EndS) (er:Nat->Value):Prop where
 bk: ∃cs,Bk w L.eb 86 cs/\cs.size=n*4/\ ∀c,c<n->EndC cs (c*4) (es c) (er c)
structure Far (L:Lay) (V:Vals) (n:Nat) (w:World):Prop where
 lt: ∀x,L.far x->x<w.heap.size
 st: ∀x,V.st.ownBlock=some x-> ¬L.far x
 tv: ∀c,c<n-> ∀x,(V.tv c).ownBlock=some x-> ¬L.far x
def Far.ch {L:Lay} {V:Vals} {n:Nat} {w w':World} (h:Far L V n w) (hs:w.heap.size<=w'.heap.size):Far L V n w':=⟨λx hx=>f0f (h.lt x hx) hs,h.st,h.tv⟩
structure Mem (L:Lay) (V:Vals) (S:Plain.Ses) (m:Int) (ow:Nat->Nat) (w:World):Prop where
 base:Base w
 tag:Tags L V S.n ow
 fresh: ∀x,w.heap.size<=x->ow x=0
 bb:Bk w L.b 75 (sesC L m S.calls)
 ss:Bk w L.sb 80 (srvC L S.n V.st V.lg)
 ee:Ends w L S.n S.ends V.er
 nn:Bk w L.nb 3 (cr S.n S.known)
 mp:Mp w L.mb S.n S.curs
 ar:w.ownsRow 0 83 1 L.cls S.n (clsL L S.n)
 st:Txt w V.st S.text
 lg:w.ownsRow 0 40 6 V.lg S.log.length (logF S.log)
 kk: ∀c,c<S.n->Bk w (L.kb c) 89 (cliC L c (V.tv c) (V.rv c) (S.cl c))
 up: ∀c,c<S.n->Lnk w (L.ul c) (L.uc c) S.room (S.cl c).up
 dn: ∀c,c<S.n->Lnk w (L.dl c) (L.dc c) S.room (S.cl c).down
 tx: ∀c,c<S.n->Txt w (V.tv c) (S.cl c).text
 rw: ∀c,c<S.n->RowV w (V.rv c) (S.cl c).en.row
 er: ∀c,c<S.n->RowV w (V.er c) (S.ends c).row
 far:Far L V S.n w
structure NT (K:Nat->Prop) (w:World):Prop where
 out: ∀v t,Txt w v t-> ∀x,v.ownBlock=some x-> ¬K x
def Ends.ch {w w':World} {L:Lay} {n:Nat} {es:Nat->Plain.EndS} {er:Nat->Value} {K:Nat->Prop} (h:Ends w L n es er) (hc:Ch K w w') (hn: ¬K L.eb):Ends w' L n es er:=by
 obtain⟨cs,h1,h2,h3⟩:=h.bk;exact⟨cs,h1.ch hc hn,h2,h3⟩
section
variable {L:Lay} {V:Vals} {S:Plain.Ses} {m:Int} {ow:Nat->Nat} {w w':World} {K P:Nat->Prop}
def Tags.ge {L:Lay} {V:Vals} {n:Nat} {ow:Nat->Nat} (h:Tags L V n ow) {x:Nat} (hx:ow x≠0):12<=x:=by
 rcases f01 x 12 with h'|h'
 ·exact absurd (h.lo x h') hx
 ·exact h'
def Mem.keep (h:Mem L V S m ow w) (hC:Ch K w w') (hK: ∀x,K x->ow x≠0):Base w'/\(∀x,w'.heap.size<=x->ow x=0):=by
 refine⟨h.base.ch hC (λhk=>hK _ hk (h.tag.lo 0 fe)) (λhk=>hK _ hk (h.tag.lo 1 fe)),λx hx=>h.fresh x (f08 hC.size hx)⟩
def Mem.ch (h:Mem L V S m ow w) (hC:Ch K w w') (hK: ∀x,K x->ow x=0) (hT:NT K w) (h0: ¬K 0) (h1: ¬K 1):Mem L V S m ow w':=by
 have g: ∀x,ow x≠0-> ¬K x:=λx hx hk=>hx (hK x hk);have t:=h.tag;have tg: ∀x y,ow x=y+1-> ¬K x:=λx y hx=>g x fe
 exact⟨h.base.ch hC h0 h1,t,λx hx=>h.fresh x (f08 hC.size hx),h.bb.ch hC (tg _ _ t.b),h.ss.ch hC (tg _ _ t.sb),h.ee.ch hC (tg _ _ t.eb),h.nn.ch hC (tg _ _ t.nb),h.mp.ch hC (tg _ _ t.mb),
    qx hC h.ar (λx hx=>tg _ _ (t.ar x hx)),qx hC h.st (hT.out _ _ h.st),qx hC h.lg (λx hx=>tg _ _ (t.lg x hx)),λc hc=>(h.kk c hc).ch hC (tg _ _ (t.kb c hc)),λc hc=>(h.up c hc).ch_ hC (tg _ _ (t.ul c hc)) (tg _ _ (t.uc c hc)),
    λc hc=>(h.dn c hc).ch_ hC (tg _ _ (t.dl c hc)) (tg _ _ (t.dc c hc)),λc hc=>qx hC (h.tx c hc) (hT.out _ _ (h.tx c hc)),λc hc=>qx hC (h.rw c hc) (λx hx=>tg _ _ (t.rv c hc x hx)),λc hc=>qx hC (h.er c hc) (λx hx=>tg _ _ (t.er c hc x hx)),h.far.ch hC.size⟩
def NT.no (w:World):NT (λ_=>False) w:=⟨λ_ _ _ _ _ h=>h⟩
def Mem.bl (h:Mem L V S m ow w) (hb:Bl w w'):Mem L V S m ow w':=h.ch (K:=λ_=>False) (Ch.ba hb) (λ_ h=>h.elim) (NT.no w) (λh=>h) (λh=>h)
end
section
variable {L:Lay} {V:Vals} {S:Plain.Ses} {m:Int} {ow:Nat->Nat} {w w':World} {K:Nat->Prop}
def Mem.cli (h:Mem L V S m ow w) {c:Nat} (hc:c<S.n) (k':Plain.Cl) (B:Nat) (C A:Value) (m':Int) (hC:Ch K w w') (hK: ∀x,x<w.heap.size->K x->ow x=1\/(16*c+16<=ow x/\ow x<=16*c+22/\ow x≠16*c+21)) (hT:NT K w)
    (hb:Bk w' L.b 75 (sesC L m' B)) (hk:Bk w' (L.kb c) 89 (cliC L c C A k')) (hu:Lnk w' (L.ul c) (L.uc c) S.room k'.up) (hd:Lnk w' (L.dl c) (L.dc c) S.room k'.down) (ht:Txt w' C k'.text) (hr:RowV w' A k'.en.row)
    (ho: ∀x,A.ownBlock=some x->(V.rv c).ownBlock=some x\/w.heap.size<=x) (hf: ∀x,C.ownBlock=some x->(V.tv c).ownBlock=some x\/w.heap.size<=x):
    ∃ow',Mem L { V with tv:=Plain.put V.tv c C,rv:=Plain.put V.rv c A } { S with cl:=Plain.put S.cl c k',calls:=B } m' ow' w'/\ ∀x,x<w.heap.size->ow' x=ow x:=by
 have t:=h.tag
 have D:12<=w.heap.size:=by
    rcases f01 L.b w.heap.size with h'|h'
    ·have:=t.ge (x:=L.b) j1;omega
    ·have:=h.fresh _ h';rw[t.b] at this;omega
 have q: ∀x,ow x≠0->x<w.heap.size:=λx hx=>by
    rcases f01 x w.heap.size with h'|h'
    ·exact h'
    ·exact absurd (h.fresh x h') hx
 have g: ∀x,ow x≠0-> ¬(ow x=1\/(16*c+16<=ow x/\ow x<=16*c+22/\ow x≠16*c+21))-> ¬K x:=λx hx hn hk=>hn (hK x (q x hx) hk)
 have j: ∀x,x<w.heap.size->(if Value.ownBlock A=some x then 16*c+22 else ow x)=ow x:=λx hx=>by
    by_cases e:Value.ownBlock A=some x
    ·rw[f02 e];rcases ho x e with e'|e'
     ·exact(t.rv c hc x e').symm
     ·omega
    ·rw[fx9 e]
 refine⟨λx=>if Value.ownBlock A=some x then 16*c+22 else ow x,?_,j⟩
 exact {
    base:=h.base.ch hC (λhk=>by have:=hK 0 fe hk;rw[t.lo 0 fe] at this;omega) (λhk=>by have:=hK 1 fe hk;rw[t.lo 1 fe] at this;omega)
    tag:=⟨λx hx=>by rw[j x fe];exact t.lo x hx,by rw[j _ (q _ j1)];exact t.b,by rw[j _ (q _ jp)];exact t.sb,by rw[j _ (q _ jj)];exact t.eb,by rw[j _ (q _ jk)];exact t.nb,by rw[j _ (q _ jl)];exact t.mb,by rw[j _ (q _ (by rw[t.c0];omega))];exact t.c0,λx hx=>by rw[j _ (q _ jd)];exact t.lg x hx,λx hx=>by rw[j _ (q _ j4)];exact t.ar x hx,λi hi=>by rw[j _ (q _ j5)];exact t.kb i hi,λi hi=>by rw[j _ (q _ j6)];exact t.ul i hi,λi hi=>by rw[j _ (q _ j7)];exact t.uc i hi,λi hi=>by rw[j _ (q _ j8)];exact t.dl i hi,λi hi=>by rw[j _ (q _ j9)];exact t.dc i hi,λi hi=>by rw[j _ (q _ (by rw[t.wc i hi];omega))];exact t.wc i hi,λi hi x hx=>by
     by_cases e:i=c
     ·subst e;simp only[Plain.put_same] at hx;exact f02 hx
     ·simp only[Plain.put_ne _ _ e] at hx;rw[j _ (q _ gq)];exact t.rv i hi x hx,λi hi x hx=>by rw[j _ (q _ z2a)];exact t.er i hi x hx⟩
    fresh:=λx hx=>by
     have e: ¬Value.ownBlock A=some x:=λe=>by have:=lr hr x e;omega
     show(if Value.ownBlock A=some x then 16*c+22 else ow x)=0;rw[fx9 e];exact h.fresh x (f08 hC.size hx)
    bb:=hb
    ss:=h.ss.ch hC (g _ jp jp)
    ee:=h.ee.ch hC (g _ jj jj)
    nn:=h.nn.ch hC (g _ jk jk)
    mp:=h.mp.ch hC (g _ jl jl)
    ar:=qx hC h.ar (λx hx=>(g _ j4 j4))
    st:=qx hC h.st (hT.out _ _ h.st)
    lg:=qx hC h.lg (λx hx=>(g _ jd jd))
    kk:=λi hi=>by
     by_cases e:i=c
     ·subst e;simp only[Plain.put_same];exact hk
     ·simp only[Plain.put_ne _ _ e];exact(h.kk i hi).ch hC (g _ j5 j5)
    up:=λi hi=>by
     by_cases e:i=c
     ·subst e;simp only[Plain.put_same];exact hu
     ·simp only[Plain.put_ne _ _ e];exact(h.up i hi).ch_ hC (g _ j6 j6) (g _ j7 j7)
    dn:=λi hi=>by
     by_cases e:i=c
     ·subst e;simp only[Plain.put_same];exact hd
     ·simp only[Plain.put_ne _ _ e];exact(h.dn i hi).ch_ hC (g _ j8 j8) (g _ j9 j9)
    tx:=λi hi=>by
     by_cases e:i=c
     ·subst e;simp only[Plain.put_same];exact ht
     ·simp only[Plain.put_ne _ _ e];exact qx hC (h.tx i hi) (hT.out _ _ (h.tx i hi))
    rw:=λi hi=>by
     by_cases e:i=c
     ·subst e;simp only[Plain.put_same];exact hr
     ·simp only[Plain.put_ne _ _ e];exact qx hC (h.rw i hi) (λx hx=>(g _ gq gq))
    er:=λi hi=>qx hC (h.er i hi) (λx hx=>(g _ z2a z2a))
    far :=⟨(h.far.ch hC.size).lt,h.far.st,λi hi x hx=>by
     by_cases e:i=c
     ·subst e;simp only[Plain.put_same] at hx;rcases hf x hx with hx|hx
      ·exact h.far.tv i hi x hx
      ·exact λhx'=>by have:=h.far.lt x hx';omega
     ·simp only[Plain.put_ne _ _ e] at hx;exact h.far.tv i hi x hx⟩ }
def Mem.end (h:Mem L V S m ow w) {c:Nat} (hc:c<S.n) (e':Plain.EndS) (A:Value) (hC:Ch K w w') (hK: ∀x,x<w.heap.size->K x->ow x=3\/ow x=16*c+23) (hT:NT K w)
    (he:Ends w' L S.n (Plain.put S.ends c e') (Plain.put V.er c A)) (hr:RowV w' A e'.row)
    (ho: ∀x,A.ownBlock=some x->(V.er c).ownBlock=some x\/w.heap.size<=x):
    ∃ow',Mem L { V with er:=Plain.put V.er c A } { S with ends:=Plain.put S.ends c e' } m ow' w'/\ ∀x,x<w.heap.size->ow' x=ow x:=by
 have t:=h.tag
 have B:12<=w.heap.size:=by
    rcases f01 L.b w.heap.size with h'|h'
    ·have:=t.ge (x:=L.b) j1;omega
    ·have:=h.fresh _ h';rw[t.b] at this;omega
 have q: ∀x,ow x≠0->x<w.heap.size:=λx hx=>by
    rcases f01 x w.heap.size with h'|h'
    ·exact h'
    ·exact absurd (h.fresh x h') hx
 have g: ∀x,ow x≠0-> ¬(ow x=3\/ow x=16*c+23)-> ¬K x:=λx hx hn hk=>hn (hK x (q x hx) hk)
 have j: ∀x,x<w.heap.size->(if Value.ownBlock A=some x then 16*c+23 else ow x)=ow x:=λx hx=>by
    by_cases e:Value.ownBlock A=some x
    ·rw[f02 e];rcases ho x e with e'|e'
     ·exact(t.er c hc x e').symm
     ·omega
    ·rw[fx9 e]
 refine⟨λx=>if Value.ownBlock A=some x then 16*c+23 else ow x,?_,j⟩
 exact {
    base:=h.base.ch hC (λhk=>by have:=hK 0 fe hk;rw[t.lo 0 fe] at this;omega) (λhk=>by have:=hK 1 fe hk;rw[t.lo 1 fe] at this;omega)
    tag:=⟨λx hx=>by rw[j x fe];exact t.lo x hx,by rw[j _ (q _ j1)];exact t.b,by rw[j _ (q _ jp)];exact t.sb,by rw[j _ (q _ jj)];exact t.eb,by rw[j _ (q _ jk)];exact t.nb,by rw[j _ (q _ jl)];exact t.mb,by rw[j _ (q _ (by rw[t.c0];omega))];exact t.c0,λx hx=>by rw[j _ (q _ jd)];exact t.lg x hx,λx hx=>by rw[j _ (q _ j4)];exact t.ar x hx,λi hi=>by rw[j _ (q _ j5)];exact t.kb i hi,λi hi=>by rw[j _ (q _ j6)];exact t.ul i hi,λi hi=>by rw[j _ (q _ j7)];exact t.uc i hi,λi hi=>by rw[j _ (q _ j8)];exact t.dl i hi,λi hi=>by rw[j _ (q _ j9)];exact t.dc i hi,λi hi=>by rw[j _ (q _ (by rw[t.wc i hi];omega))];exact t.wc i hi,λi hi x hx=>by rw[j _ (q _ gq)];exact t.rv i hi x hx,λi hi x hx=>by
     by_cases e:i=c
     ·subst e;simp only[Plain.put_same] at hx;exact f02 hx
     ·simp only[Plain.put_ne _ _ e] at hx;rw[j _ (q _ z2a)];exact t.er i hi x hx⟩
    fresh:=λx hx=>by
     have e: ¬Value.ownBlock A=some x:=λe=>by have:=lr hr x e;omega
     show(if Value.ownBlock A=some x then 16*c+23 else ow x)=0;rw[fx9 e];exact h.fresh x (f08 hC.size hx)
    bb:=h.bb.ch hC (g _ j1 j1)
    ss:=h.ss.ch hC (g _ jp jp)
    ee:=he
    nn:=h.nn.ch hC (g _ jk jk)
    mp:=h.mp.ch hC (g _ jl jl)
    ar:=qx hC h.ar (λx hx=>(g _ j4 j4))
    st:=qx hC h.st (hT.out _ _ h.st)
    lg:=qx hC h.lg (λx hx=>(g _ jd jd))
    kk:=λi hi=>(h.kk i hi).ch hC (g _ j5 j5)
    up:=λi hi=>(h.up i hi).ch_ hC (g _ j6 j6) (g _ j7 j7)
    dn:=λi hi=>(h.dn i hi).ch_ hC (g _ j8 j8) (g _ j9 j9)
    tx:=λi hi=>qx hC (h.tx i hi) (hT.out _ _ (h.tx i hi))
    rw:=λi hi=>qx hC (h.rw i hi) (λx hx=>(g _ gq gq))
    er:=λi hi=>by
     by_cases e:i=c
     ·subst e;simp only[Plain.put_same];exact hr
     ·simp only[Plain.put_ne _ _ e];exact qx hC (h.er i hi) (λx hx=>(g _ z2a z2a))
    far:=⟨(h.far.ch hC.size).lt,h.far.st,h.far.tv⟩ }
def Mem.know (h:Mem L V S m ow w) (f:Nat->Int) (hC:Ch K w w') (hK: ∀x,x<w.heap.size->K x->ow x=4) (hT:NT K w) (hn:Bk w' L.nb 3 (cr S.n f)):
    ∃ow',Mem L V { S with known:=f } m ow' w'/\ ∀x,x<w.heap.size->ow' x=ow x:=by
 have t:=h.tag
 have A:12<=w.heap.size:=by
    rcases f01 L.b w.heap.size with h'|h'
    ·have:=t.ge (x:=L.b) j1;omega
    ·have:=h.fresh _ h';rw[t.b] at this;omega
 have q: ∀x,ow x≠0->x<w.heap.size:=λx hx=>by
    rcases f01 x w.heap.size with h'|h'
    ·exact h'
    ·exact absurd (h.fresh x h') hx
 have g: ∀x,ow x≠0-> ¬(ow x=4)-> ¬K x:=λx hx hn hk=>hn (hK x (q x hx) hk);have j: ∀x,x<w.heap.size->ow x=ow x:=λ_ _=>rfl;refine⟨ow,?_,j⟩
 exact {
    base:=h.base.ch hC (λhk=>by have:=hK 0 fe hk;rw[t.lo 0 fe] at this;omega) (λhk=>by have:=hK 1 fe hk;rw[t.lo 1 fe] at this;omega)
    tag:=⟨t.lo,t.b,t.sb,t.eb,t.nb,t.mb,t.c0,t.lg,t.ar,t.kb,t.ul,t.uc,t.dl,t.dc,t.wc,t.rv,t.er⟩
    fresh:=λx hx=>h.fresh x (f08 hC.size hx)
    bb:=h.bb.ch hC (g _ j1 j1)
    ss:=h.ss.ch hC (g _ jp jp)
    ee:=h.ee.ch hC (g _ jj jj)
    nn:=hn
    mp:=h.mp.ch hC (g _ jl jl)
    ar:=qx hC h.ar (λx hx=>(g _ j4 j4))
    st:=qx hC h.st (hT.out _ _ h.st)
    lg:=qx hC h.lg (λx hx=>(g _ jd jd))
    kk:=λi hi=>(h.kk i hi).ch hC (g _ j5 j5)
    up:=λi hi=>(h.up i hi).ch_ hC (g _ j6 j6) (g _ j7 j7)
    dn:=λi hi=>(h.dn i hi).ch_ hC (g _ j8 j8) (g _ j9 j9)
    tx:=λi hi=>qx hC (h.tx i hi) (hT.out _ _ (h.tx i hi))
    rw:=λi hi=>qx hC (h.rw i hi) (λx hx=>(g _ gq gq))
    er:=λi hi=>qx hC (h.er i hi) (λx hx=>(g _ z2a z2a))
    far:=⟨(h.far.ch hC.size).lt,h.far.st,h.far.tv⟩ }
def Mem.curs_ (h:Mem L V S m ow w) (f:Nat->Int) (hC:Ch K w w') (hK: ∀x,x<w.heap.size->K x->ow x=5) (hT:NT K w) (hm:Mp w' L.mb S.n f):
    ∃ow',Mem L V { S with curs:=f } m ow' w'/\ ∀x,x<w.heap.size->ow' x=ow x:=by
 have t:=h.tag
 have A:12<=w.heap.size:=by
    rcases f01 L.b w.heap.size with h'|h'
    ·have:=t.ge (x:=L.b) j1;omega
    ·have:=h.fresh _ h';rw[t.b] at this;omega
 have q: ∀x,ow x≠0->x<w.heap.size:=λx hx=>by
    rcases f01 x w.heap.size with h'|h'
    ·exact h'
    ·exact absurd (h.fresh x h') hx
 have g: ∀x,ow x≠0-> ¬(ow x=5)-> ¬K x:=λx hx hn hk=>hn (hK x (q x hx) hk);have j: ∀x,x<w.heap.size->ow x=ow x:=λ_ _=>rfl;refine⟨ow,?_,j⟩
 exact {
    base:=h.base.ch hC (λhk=>by have:=hK 0 fe hk;rw[t.lo 0 fe] at this;omega) (λhk=>by have:=hK 1 fe hk;rw[t.lo 1 fe] at this;omega)
    tag:=⟨t.lo,t.b,t.sb,t.eb,t.nb,t.mb,t.c0,t.lg,t.ar,t.kb,t.ul,t.uc,t.dl,t.dc,t.wc,t.rv,t.er⟩
    fresh:=λx hx=>h.fresh x (f08 hC.size hx)
    bb:=h.bb.ch hC (g _ j1 j1)
    ss:=h.ss.ch hC (g _ jp jp)
    ee:=h.ee.ch hC (g _ jj jj)
    nn:=h.nn.ch hC (g _ jk jk)
    mp:=hm
    ar:=qx hC h.ar (λx hx=>(g _ j4 j4))
    st:=qx hC h.st (hT.out _ _ h.st)
    lg:=qx hC h.lg (λx hx=>(g _ jd jd))
    kk:=λi hi=>(h.kk i hi).ch hC (g _ j5 j5)
    up:=λi hi=>(h.up i hi).ch_ hC (g _ j6 j6) (g _ j7 j7)
    dn:=λi hi=>(h.dn i hi).ch_ hC (g _ j8 j8) (g _ j9 j9)
    tx:=λi hi=>qx hC (h.tx i hi) (hT.out _ _ (h.tx i hi))
    rw:=λi hi=>qx hC (h.rw i hi) (λx hx=>(g _ gq gq))
    er:=λi hi=>qx hC (h.er i hi) (λx hx=>(g _ z2a z2a))
    far:=⟨(h.far.ch hC.size).lt,h.far.st,h.far.tv⟩ }
def Mem.text_ (h:Mem L V S m ow w) (t':List Plain.El) (j:Value) (hC:Ch K w w') (hK: ∀x,x<w.heap.size->K x->ow x=2) (hT:NT K w) (hs:Bk w' L.sb 80 (srvC L S.n j V.lg)) (ht:Txt w' j t') (hf: ∀x,j.ownBlock=some x->V.st.ownBlock=some x\/w.heap.size<=x):
    ∃ow',Mem L { V with st:=j } { S with text:=t' } m ow' w'/\ ∀x,x<w.heap.size->ow' x=ow x:=by
 have t:=h.tag
 have B:12<=w.heap.size:=by
    rcases f01 L.b w.heap.size with h'|h'
    ·have:=t.ge (x:=L.b) j1;omega
    ·have:=h.fresh _ h';rw[t.b] at this;omega
 have A: ∀x,ow x≠0->x<w.heap.size:=λx hx=>by
    rcases f01 x w.heap.size with h'|h'
    ·exact h'
    ·exact absurd (h.fresh x h') hx
 have g: ∀x,ow x≠0-> ¬(ow x=2)-> ¬K x:=λx hx hn hk=>hn (hK x (A x hx) hk);have q: ∀x,x<w.heap.size->ow x=ow x:=λ_ _=>rfl;refine⟨ow,?_,q⟩
 exact {
    base:=h.base.ch hC (λhk=>by have:=hK 0 fe hk;rw[t.lo 0 fe] at this;omega) (λhk=>by have:=hK 1 fe hk;rw[t.lo 1 fe] at this;omega)
    tag:=⟨t.lo,t.b,t.sb,t.eb,t.nb,t.mb,t.c0,t.lg,t.ar,t.kb,t.ul,t.uc,t.dl,t.dc,t.wc,t.rv,t.er⟩
    fresh:=λx hx=>h.fresh x (f08 hC.size hx)
    bb:=h.bb.ch hC (g _ j1 j1)
    ss:=hs
    ee:=h.ee.ch hC (g _ jj jj)
    nn:=h.nn.ch hC (g _ jk jk)
    mp:=h.mp.ch hC (g _ jl jl)
    ar:=qx hC h.ar (λx hx=>(g _ j4 j4))
    st:=ht
    lg:=qx hC h.lg (λx hx=>(g _ jd jd))
    kk:=λi hi=>(h.kk i hi).ch hC (g _ j5 j5)
    up:=λi hi=>(h.up i hi).ch_ hC (g _ j6 j6) (g _ j7 j7)
    dn:=λi hi=>(h.dn i hi).ch_ hC (g _ j8 j8) (g _ j9 j9)
    tx:=λi hi=>qx hC (h.tx i hi) (hT.out _ _ (h.tx i hi))
    rw:=λi hi=>qx hC (h.rw i hi) (λx hx=>(g _ gq gq))
    er:=λi hi=>qx hC (h.er i hi) (λx hx=>(g _ z2a z2a))
    far:=⟨(h.far.ch hC.size).lt,λx hx=>(hf x hx).elim (h.far.st x) (λhx hx'=>by have:=h.far.lt x hx';omega),h.far.tv⟩ }
def Mem.log_ (h:Mem L V S m ow w) (l':List Plain.Chg) (A:Value) (hC:Ch K w w') (hK: ∀x,x<w.heap.size->K x->ow x=2\/ow x=8) (hT:NT K w) (hs:Bk w' L.sb 80 (srvC L S.n V.st A)) (hr:w'.ownsRow 0 40 6 A l'.length (logF l'))
    (ho: ∀x,A.ownBlock=some x->V.lg.ownBlock=some x\/w.heap.size<=x):
    ∃ow',Mem L { V with lg:=A } { S with log:=l' } m ow' w'/\ ∀x,x<w.heap.size->ow' x=ow x:=by
 have t:=h.tag
 have B:12<=w.heap.size:=by
    rcases f01 L.b w.heap.size with h'|h'
    ·have:=t.ge (x:=L.b) j1;omega
    ·have:=h.fresh _ h';rw[t.b] at this;omega
 have q: ∀x,ow x≠0->x<w.heap.size:=λx hx=>by
    rcases f01 x w.heap.size with h'|h'
    ·exact h'
    ·exact absurd (h.fresh x h') hx
 have g: ∀x,ow x≠0-> ¬(ow x=2\/ow x=8)-> ¬K x:=λx hx hn hk=>hn (hK x (q x hx) hk)
 have j: ∀x,x<w.heap.size->(if Value.ownBlock A=some x then 8 else ow x)=ow x:=λx hx=>by
    by_cases e:Value.ownBlock A=some x
    ·rw[f02 e];rcases ho x e with e'|e'
     ·exact(t.lg x e').symm
     ·omega
    ·rw[fx9 e]
 refine⟨λx=>if Value.ownBlock A=some x then 8 else ow x,?_,j⟩
 exact {
    base:=h.base.ch hC (λhk=>by have:=hK 0 fe hk;rw[t.lo 0 fe] at this;omega) (λhk=>by have:=hK 1 fe hk;rw[t.lo 1 fe] at this;omega)
    tag:=⟨λx hx=>by rw[j x fe];exact t.lo x hx,by rw[j _ (q _ j1)];exact t.b,by rw[j _ (q _ jp)];exact t.sb,by rw[j _ (q _ jj)];exact t.eb,by rw[j _ (q _ jk)];exact t.nb,by rw[j _ (q _ jl)];exact t.mb,by rw[j _ (q _ (by rw[t.c0];omega))];exact t.c0,λx hx=>f02 hx,λx hx=>by rw[j _ (q _ j4)];exact t.ar x hx,λi hi=>by rw[j _ (q _ j5)];exact t.kb i hi,λi hi=>by rw[j _ (q _ j6)];exact t.ul i hi,λi hi=>by rw[j _ (q _ j7)];exact t.uc i hi,λi hi=>by rw[j _ (q _ j8)];exact t.dl i hi,λi hi=>by rw[j _ (q _ j9)];exact t.dc i hi,λi hi=>by rw[j _ (q _ (by rw[t.wc i hi];omega))];exact t.wc i hi,λi hi x hx=>by rw[j _ (q _ gq)];exact t.rv i hi x hx,λi hi x hx=>by rw[j _ (q _ z2a)];exact t.er i hi x hx⟩
    fresh:=λx hx=>by
     have e: ¬Value.ownBlock A=some x:=λe=>by have:=lr hr x e;omega
     show(if Value.ownBlock A=some x then 8 else ow x)=0;rw[fx9 e];exact h.fresh x (f08 hC.size hx)
    bb:=h.bb.ch hC (g _ j1 j1)
    ss:=hs
    ee:=h.ee.ch hC (g _ jj jj)
    nn:=h.nn.ch hC (g _ jk jk)
    mp:=h.mp.ch hC (g _ jl jl)
    ar:=qx hC h.ar (λx hx=>(g _ j4 j4))
    st:=qx hC h.st (hT.out _ _ h.st)
    lg:=hr
    kk:=λi hi=>(h.kk i hi).ch hC (g _ j5 j5)
    up:=λi hi=>(h.up i hi).ch_ hC (g _ j6 j6) (g _ j7 j7)
    dn:=λi hi=>(h.dn i hi).ch_ hC (g _ j8 j8) (g _ j9 j9)
    tx:=λi hi=>qx hC (h.tx i hi) (hT.out _ _ (h.tx i hi))
    rw:=λi hi=>qx hC (h.rw i hi) (λx hx=>(g _ gq gq))
    er:=λi hi=>qx hC (h.er i hi) (λx hx=>(g _ z2a z2a))
    far:=⟨(h.far.ch hC.size).lt,h.far.st,h.far.tv⟩ }
def Mem.lock_ (h:Mem L V S m ow w) (m':Int) (hC:Ch K w w') (hK: ∀x,x<w.heap.size->K x->ow x=1) (hT:NT K w) (hb:Bk w' L.b 75 (sesC L m' S.calls)):
    ∃ow',Mem L V S m' ow' w'/\ ∀x,x<w.heap.size->ow' x=ow x:=by
 have t:=h.tag
 have A:12<=w.heap.size:=by
    rcases f01 L.b w.heap.size with h'|h'
    ·have:=t.ge (x:=L.b) j1;omega
    ·have:=h.fresh _ h';rw[t.b] at this;omega
 have q: ∀x,ow x≠0->x<w.heap.size:=λx hx=>by
    rcases f01 x w.heap.size with h'|h'
    ·exact h'
    ·exact absurd (h.fresh x h') hx
 have g: ∀x,ow x≠0-> ¬(ow x=1)-> ¬K x:=λx hx hn hk=>hn (hK x (q x hx) hk);have j: ∀x,x<w.heap.size->ow x=ow x:=λ_ _=>rfl;refine⟨ow,?_,j⟩
 exact {
    base:=h.base.ch hC (λhk=>by have:=hK 0 fe hk;rw[t.lo 0 fe] at this;omega) (λhk=>by have:=hK 1 fe hk;rw[t.lo 1 fe] at this;omega)
    tag:=⟨t.lo,t.b,t.sb,t.eb,t.nb,t.mb,t.c0,t.lg,t.ar,t.kb,t.ul,t.uc,t.dl,t.dc,t.wc,t.rv,t.er⟩
    fresh:=λx hx=>h.fresh x (f08 hC.size hx)
    bb:=hb
    ss:=h.ss.ch hC (g _ jp jp)
    ee:=h.ee.ch hC (g _ jj jj)
    nn:=h.nn.ch hC (g _ jk jk)
    mp:=h.mp.ch hC (g _ jl jl)
    ar:=qx hC h.ar (λx hx=>(g _ j4 j4))
    st:=qx hC h.st (hT.out _ _ h.st)
    lg:=qx hC h.lg (λx hx=>(g _ jd jd))
    kk:=λi hi=>(h.kk i hi).ch hC (g _ j5 j5)
    up:=λi hi=>(h.up i hi).ch_ hC (g _ j6 j6) (g _ j7 j7)
    dn:=λi hi=>(h.dn i hi).ch_ hC (g _ j8 j8) (g _ j9 j9)
    tx:=λi hi=>qx hC (h.tx i hi) (hT.out _ _ (h.tx i hi))
    rw:=λi hi=>qx hC (h.rw i hi) (λx hx=>(g _ gq gq))
    er:=λi hi=>qx hC (h.er i hi) (λx hx=>(g _ z2a z2a))
    far:=⟨(h.far.ch hC.size).lt,h.far.st,h.far.tv⟩ }
end
end Go.Proofs.YtelecjnabeokeaaGreatDoor
namespace Go.Proofs.YtelecjnabeokeaaGreatDoor
namespace Plain
def Sm (m k:Int):Prop:= -m<=k/\k<=m
def past_sm (a b:Chg) (m:Int) (h:Sm m a.pos) (hm:0<=m):Sm (m+1) (past a b).pos:=by
 obtain⟨h1,h2⟩:=h;unfold past insPast Sm;repeat' split
 all_goals (simp only[];omega)
def fs8 {m:Int} (hm:0<=m): ∀(A:List Sent) (a:Chg) (k:Int),(∀s∈A,Sm m s.chg.pos)-> ∀s∈(turn a k A).2.2,Sm (m+1) s.chg.pos
 | [],_,_,_,_,hs=>by cases hs
 | r::A,a,k,h,s,hs=>by
   rcases fy3.1 hs with rfl|hs
   ·exact past_sm _ _ _ (h r fz5) hm
   ·exact fs8 hm A _ _ (λs hs=>h s (f0c _ hs)) s hs
def fnb: ∀(A:List Sent) (a:Chg) (k:Int),(a.kind=3->Sm 3000 a.pos)->(turn a k A).1.kind=3->Sm 3000 (turn a k A).1.pos
 | [],_,_,h,h3=>h h3
 | r::A,a,k,_,h3=>fnb A _ _ (λe=>by rw[((past_norm a r.chg).non e).1];exact⟨by omega,by omega⟩) h3
structure Bnd (S:Ses):Prop where
 up: ∀c,c<S.n-> ∀f∈(S.cl c).up,Sm 3000 f.chg.pos/\Sm 3000 f.cur
 down: ∀c,c<S.n-> ∀f∈(S.cl c).down,Sm 3000 f.chg.pos/\Sm 3000 f.cur
 row: ∀c,c<S.n-> ∀s∈(S.cl c).en.row,Sm (3000+(S.cl c).en.other) s.chg.pos
 er: ∀c,c<S.n-> ∀s∈(S.ends c).row,Sm (3000+(S.ends c).other) s.chg.pos
def Good.text_len {S:Ses} (h:Good S):S.text.length<=S.log.length:=by
 have:=h.fold.len;simpa using this
def Good.log_len {S:Ses} (h:Good S):S.log.length<=S.calls:=by have:=h.count;omega
def Good.cl_len {S:Ses} (h:Good S) {c:Nat} (hc:c<S.n):(S.cl c).text.length<=2032:=by
 obtain⟨⟨T,Qc,Pc,Qs,Ps,_,e1,e2,r1,r2,c1,c2,_⟩,_⟩:=h.pair c hc;have a1:=r1.len;have a2:=r2.len;have b1:=c1.length;have b2:=c2.length;have:=h.upR c hc;have:=h.downR c hc;have:=h.text_len;have:=h.log_len;have:=h.calls;have:=h.room16;omega
def new_bnd {n room:Nat}:Bnd (new n room):=⟨λc _ f hf=>(by cases hf),λc _ f hf=>(by cases hf),λc _ s hs=>(by cases hs),λc _ s hs=>(by cases hs)⟩
def fb7 {S:Ses} (h:Good S) (hb:Bnd S) {c:Nat} (hc:c<S.n) {kind pos r:Int} (hk:kind=1\/kind=2\/kind=3):Bnd (change S c kind pos r).2:=by
 have hG:=ib h hc (pos:=pos) (r:=r) hk;have q:=h.cl_len hc;unfold change at hG ⊢;split
 ·exact hb
 split
 ·exact hb
 split
 ·exact hb
 rename_i h1 h2 h3;rw[fx9 h1,fx9 h2,fx9 h3] at hG;have hp:=hG.pair c hc;have hl:=hG.cl_len hc;have hq:=hG.mine c hc;simp only[put_same] at hp hl hq;have m: ∀o,o≠c->put S.cl c (changed (S.cl c) c kind pos r) o=S.cl o:=λo ho=>put_ne _ _ ho
 have j:Sm 3000 (made (S.cl c) c kind pos r).pos:=by
    have:0<=pos/\pos<=last (S.cl c) kind:=by omega
    unfold last at this;show Sm 3000 (if kind=3 then 0 else pos);unfold Sm;split at this <;>split <;>omega
 have A:=hp.kc0;have C:=hp.kc1;refine⟨λo ho f hf=>?_,λo ho f hf=>?_,λo ho s hs=>?_,hb.er⟩
 ·by_cases e:o=c
  ·subst e;simp only[put_same] at hf;rcases fz0.1 (show f∈(S.cl o).up++[frame (S.cl o).en (made (S.cl o) o kind pos r) _] from hf) with hf|hf
   ·exact hb.up o hc f hf
   ·obtain rfl:=f3k.1 hf;refine⟨j,?_⟩;show Sm 3000 (changed (S.cl o) o kind pos r).cur;unfold Sm;omega
  ·simp only[m o e] at hf;exact hb.up o ho f hf
 ·by_cases e:o=c
  ·subst e;simp only[put_same] at hf;exact hb.down o hc f hf
  ·simp only[m o e] at hf;exact hb.down o ho f hf
 ·by_cases e:o=c
  ·subst e;simp only[put_same] at hs ⊢;have B:=(h.mine o hc).2.2.1;rcases fz0.1 (show s∈(S.cl o).en.row++[⟨made (S.cl o) o kind pos r,(S.cl o).en.mine⟩] from hs) with hs|hs
   ·exact hb.row o hc s hs
   ·obtain rfl:=f3k.1 hs;show Sm (3000+(S.cl o).en.other) (made (S.cl o) o kind pos r).pos;unfold Sm at j ⊢;omega
  ·simp only[m o e] at hs ⊢;exact hb.row o ho s hs
def fnc {e:EndS} {f:Frm} (h0:0<=e.other) (h: ∀s∈e.row,Sm (3000+e.other) s.chg.pos): ∀s∈(take e f).row,Sm (3000+(take e f).other) s.chg.pos:=by
 intro s hs;have:=fs8 (m:=3000+e.other) fe (unseen f.other e.row) f.chg f.cur (λs hs=>h s (f6r hs)) s hs;show Sm (3000+(e.other+1)) s.chg.pos;rw[<- Int.add_assoc];exact this
def get_bnd {S:Ses} (h:Good S) (hb:Bnd S) {c:Nat} (hc:c<S.n):Bnd (get S c).2:=by
 unfold get;split
 ·exact hb
 rename_i g D hd;have j: ∀o,o≠c->put S.cl c (got (S.cl c) g D) o=S.cl o:=λo ho=>put_ne _ _ ho;refine⟨λo ho f hf=>?_,λo ho f hf=>?_,λo ho s hs=>?_,hb.er⟩
 ·by_cases e:o=c
  ·subst e;simp only[put_same] at hf;exact hb.up o hc f hf
  ·simp only[j o e] at hf;exact hb.up o ho f hf
 ·by_cases e:o=c
  ·subst e;simp only[put_same] at hf;exact hb.down o hc f (by rw[hd];exact f0c _ hf)
  ·simp only[j o e] at hf;exact hb.down o ho f hf
 ·by_cases e:o=c
  ·subst e;simp only[put_same] at hs ⊢;exact fnc (h.mine o hc).2.2.1 (hb.row o hc) s hs
  ·simp only[j o e] at hs ⊢;exact hb.row o ho s hs
def tryF_sm {e:EndS} {f:Frm} {n:Nat} (hn:n<=3000) (hf:Fits (tryF e f).1 n) (hk:Kd (tryF e f).1) (h:Sm 3000 f.chg.pos):Sm 3000 (tryF e f).1.pos:=by
 unfold Fits at hf;rcases hk with k|k|k
 ·have:=hf.1 k;unfold Sm;omega
 ·have:=hf.2 k;unfold Sm;omega
 ·exact fnb _ _ _ (λ_=>h) k
def fs9 {S:Ses} (h:Good S) (hb:Bnd S) {c:Nat} (hc:c<S.n):Bnd (serve S c).2:=by
 have hG:=fgb h hc;unfold serve at hG ⊢;split
 ·exact hb
 rename_i f U hu;split
 ·exact hb
 rename_i m;have hP:=h.pair c hc;rw[hu] at hP;obtain⟨hf,A,hk,C⟩:=hP.serve (Z':=λ_ _ _=>True) λ_ _ _ _ _ _ _ _=>trivial;have j:=tryF_sm (by have:=h.text_len;have:=h.log_len;have:=h.calls;omega) hf (turn_kd (h.upK c hc f jx)) (hb.up c hc f jx).1
 have q:Sm 3000 (tryF (S.ends c) f).2.1:=by
    have h1:(apply (tryF (S.ends c) f).1 S.text).length<=S.text.length+1:=by
     rw[f4k hf];unfold grow;split
     ·omega
     ·split <;>omega
    have:=h.text_len;have:=h.log_len;have:=h.calls;unfold Sm;omega
 refine⟨λo ho g hg=>?_,λo ho g hg=>?_,λo ho s hs=>?_,λo ho s hs=>?_⟩
 ·by_cases e:o=c
  ·subst e;simp only[served,f02] at hg;exact hb.up o hc g (by rw[hu];exact f0c _ hg)
  ·simp only[served,fx9 e] at hg;exact hb.up o ho g hg
 ·by_cases e:o=c
  ·subst e;simp only[served,f02] at hg;exact hb.down o hc g hg
  ·simp only[served,fx9 e] at hg;rcases fz0.1 hg with hg|hg
   ·exact hb.down o ho g hg
   ·obtain rfl:=f3k.1 hg;exact⟨j,q⟩
 ·by_cases e:o=c
  ·subst e;simp only[served,f02] at hs ⊢;exact hb.row o hc s hs
  ·simp only[served,fx9 e] at hs ⊢;exact hb.row o ho s hs
 ·by_cases e:o=c
  ·subst e;simp only[served,f02] at hs ⊢;exact fnc (h.mine o hc).2.2.2.2.2.2.1 (hb.er o hc) s hs
  ·simp only[served,fx9 e] at hs ⊢;have B:=(h.mine o ho).2.2.2.2.2.2.1;rcases fz0.1 (show s∈(S.ends o).row++[_] from hs) with hs|hs
   ·exact hb.er o ho s hs
   ·obtain rfl:=f3k.1 hs;show Sm (3000+(S.ends o).other) (tryF (S.ends c) f).1.pos;unfold Sm at j ⊢;omega
def call_bnd {S:Ses} (h:Good S) (hb:Bnd S) {k c pos r:Int}:Bnd (call S k c pos r).2:=by
 unfold call;split
 ·exact hb
 rename_i hc;have j:c.toNat<S.n:=by omega
 split
 ·split
  ·exact fb7 h hb j (.inl rfl)
  ·exact hb
 split
 ·exact fb7 h hb j (.inr (.inl rfl))
 split
 ·exact fb7 h hb j (.inr (.inr rfl))
 split
 ·exact fs9 h hb j
 ·exact get_bnd h hb j
end Plain
open Go Go.RowKit
structure Errs (E:Nat->Value) (w:World):Prop where
 at_: ∀i,i<12->w.cell? ⟨i,0,none⟩=some (E i)
 form: ∀i,i<12->i≠2-> ∃t v,E i=.iface t v
structure Ex (ow ow':Nat->Nat) (w w':World):Prop where
 ch:Ch (λx=>ow x≠0) w w'
 own: ∀x,x<w.heap.size->ow' x=ow x
 marks: ∀x,x<w.heap.size->(ow x=6\/ ∃c,ow x=16*c+21)->w'.heap[x]? =w.heap[x]?
section
variable {ow ow' ow2:Nat->Nat} {w w' w2:World} {E:Nat->Value}
def Ex.rf:Ex ow ow w w:=⟨Ch.rf _ _,λ_ _=>rfl,λ_ _ _=>rfl⟩
def Ex.tr (h:Ex ow ow' w w') (h2:Ex ow' ow2 w' w2):Ex ow ow2 w w2:=
 ⟨h.ch.tr h2.ch (λx hx=>by
  rcases f01 x w.heap.size with h'|h'
  ·exact .inl (by rw[<- h.own x h'];exact hx)
  ·exact .inr h'),
  λx hx=>(h2.own x (f0f hx h.ch.size)).trans (h.own x hx),
  λx hx ht=>(h2.marks x (f0f hx h.ch.size) (by rw[h.own x hx];exact ht)).trans (h.marks x hx ht)⟩
def Ex.of {K:Nat->Prop} (hC:Ch K w w') (ho: ∀x,x<w.heap.size->ow' x=ow x) (hK: ∀x,x<w.heap.size->K x->ow x≠0/\ow x≠6/\ ∀c,ow x≠16*c+21):Ex ow ow' w w':=
 ⟨⟨hC.os,hC.tape,hC.output,hC.size,λx hx hn=>hC.block x hx λhk=>hn (hK x hx hk).1⟩,ho,λx hx ht=>hC.block x hx λhk=>by
   rcases ht with h|⟨c,h⟩
   ·exact(hK x hx hk).2.1 h
   ·exact(hK x hx hk).2.2 c h⟩
def Ex.bl (hb:Bl w w'):Ex ow ow w w':=Ex.of (K:=λ_=>False) (Ch.ba hb) (λ_ _=>rfl) (λ_ _ h=>h.elim)
def Errs.ex (h:Errs E w) (hx:Ex ow ow' w w') (j: ∀x,x<12->ow x=0) (hsz:12<=w.heap.size):Errs E w':=
 ⟨λi hi=>(f0h (a:=⟨i,0,none⟩) (hx.ch.block i fe (λhn=>hn (j i hi)))).trans (h.at_ i hi),h.form⟩
end
def Mem.size {L:Lay} {V:Vals} {S:Plain.Ses} {m:Int} {ow:Nat->Nat} {w:World} (h:Mem L V S m ow w):12<=w.heap.size:=by
 have:=h.tag.ge (x:=L.b) qs;have:=h.bb.lt;omega
def ic {α:Type} (f:Nat->α) (i:Nat):Plain.put f i (f i)=f:=by
 funext j
 unfold Plain.put;split
 ·subst_vars;rfl
 ·rfl
def fhf (k:Nat):Nat:=if k=2 then 3 else if k=3 then 1 else k
def errV (E:Nat->Value) (k:Nat):Value:=if k=0 then .nilIface else E (fhf k)
def fsa {e:Plain.EndS} {f:Plain.Frm} (hf:Plain.Sm 3000 f.chg.pos/\Plain.Sm 3000 f.cur) (hr: ∀s∈e.row,Plain.Sm (3000+e.other) s.chg.pos) (ho:e.other<=2000):Near f e.row:=by
 obtain⟨⟨h1,h2⟩,h3,h4⟩:=hf;exact⟨by omega,by omega,by omega,by omega,λs hs=>by obtain⟨h5,h6⟩:=hr s hs;constructor <;>omega⟩
section
variable {L:Lay} {V:Vals} {S:Plain.Ses} {m:Int} {ow:Nat->Nat} {w:World} {E:Nat->Value}
def mem_get (h:Mem L V S m ow w) (hG:Plain.Good S) (hB:Plain.Bnd S) (hE:Errs E w) {c:Nat} (hc:c<S.n):
    Calls PV 56 #[.pointer (some ⟨L.kb c,0,none⟩)] w λx w'=>x=.returned (errV E (Plain.get S c).1)/\ ∃V' ow',Mem L V' (Plain.get S c).2 m ow' w'/\Ex ow ow' w w':=by
 have hK:=h.kk c hc;have hL:=h.dn c hc;have t:=h.tag;have h8:8<=L.dl c:=by have:=t.ge (x:=L.dl c) (by rw[t.dl c hc];omega);omega
 have X: ∀k D,(S.cl c).down=k->Plain.get S c=D->Plain.get S c=D:=λ_ _ _ e=>e;cases hd:(S.cl c).down with
 | nil=>
   rw[hd] at hL;have e:Plain.get S c=(7,S):=by unfold Plain.get;rw[hd]
   rw[e];refine(get0 (L.kb c) (L.dl c) (L.dc c) S.room _ _ _ _ _ _ _ _ _ _ _ w (hE.at_ 7 fe) h.base hK hL h8 hG.room0).mono ?_;rintro x w' ⟨rfl,q,hC⟩;refine⟨rfl,?_⟩;obtain⟨ow',hM,ho⟩:=h.cli hc (S.cl c) S.calls (V.tv c) (V.rv c) m hC (λx _ hx=>by subst hx;rw[t.dl c hc];omega) ⟨λv t' hv x hx hk=>rp hv hL.lb fu x hx hk⟩
    (h.bb.ch hC (λe=>by have h1:=t.b;rw[show L.b=L.dl c from e,t.dl c hc] at h1;omega)) (hK.ch hC (hK.ne_ hL.lb fu)) ((h.up c hc).ch_ hC (λe=>by have h1:=t.ul c hc;rw[show L.ul c=L.dl c from e,t.dl c hc] at h1;omega) (λe=>by have h1:=t.uc c hc;rw[show L.uc c=L.dl c from e,t.dl c hc] at h1;omega))
    (by rw[hd];exact q) (qx hC (h.tx c hc) (rp (h.tx c hc) hL.lb fu)) (qx hC (h.rw c hc) (rp (h.rw c hc) hL.lb fu)) (λx hx=>.inl hx) (λx hx=>.inl hx)
   rw[ic,ic,ic] at hM;exact⟨_,ow',hM,Ex.of hC ho (λx _ hx=>by subst hx;rw[t.dl c hc];refine⟨by omega,by omega,λc'=>by omega⟩)⟩
 | cons f D=>
   rw[hd] at hL;have e:Plain.get S c=(0,{ S with cl:=Plain.put S.cl c (Plain.got (S.cl c) f D) }):=by unfold Plain.get;rw[hd]
   rw[e];have hP:=hG.pair c hc;rw[hd] at hP;obtain⟨hf,_⟩:=hP.get (Z':=λ_ _ _=>True) λ_ _ _ _ _ _ _ _=>trivial;have hm:=hG.mine c hc;have hr:=hG.rows c hc;have U:=hG.calls;have W:=hG.log_len;have htl:=hG.cl_len hc;have hN:=fsa (hB.down c hc f (by rw[hd];exact fz5)) (hB.row c hc) fe;obtain⟨⟨fk,fp,⟨fr,fc,fn⟩,B⟩,fm,fo,C⟩:=f;refine(get1 (L.kb c) (L.dl c) (L.dc c) S.room (V.tv c) (V.rv c) _ _ _ (S.cl c).cur (S.cl c).en.mine (S.cl c).en.other (S.cl c).en.acked (S.cl c).typed fk fp fr fc fn B fm fo C D (S.cl c).en.row (S.cl c).text w h.base hK hL h8 hG.room0 (h.tx c hc) (h.rw c hc) fe fe hN hf
    ⟨hP.kc0,by have:=hP.kc1;omega⟩ ⟨by omega,by omega⟩).mono ?_
   rintro x w' ⟨R,J,rfl,O,q,I,A,hC,M⟩;refine⟨rfl,?_⟩;have j: ∀x,x=L.kb c\/x=L.dc c\/x=L.dl c->ow x=16*c+16\/ow x=16*c+20\/ow x=16*c+19:=by
    rintro x (rfl|rfl|rfl)
    ·exact .inl (t.kb c hc)
    ·exact .inr (.inl (t.dc c hc))
    ·exact .inr (.inr (t.dl c hc))
   obtain⟨ow',hM,ho⟩:=h.cli hc (Plain.got (S.cl c) ⟨⟨fk,fp,⟨fr,fc,fn⟩,B⟩,fm,fo,C⟩ D) S.calls R J m hC (λx _ hx=>by have:=j x hx;omega) ⟨λv t' hv x hx hk=>by rcases hk with hk|hk|hk;exact rp hv hK fu x hx hk;exact ui hv hL x hx hk;exact rp hv hL.lb fu x hx hk⟩
    (h.bb.ch hC (λe=>by have:=j _ e;rw[t.b] at this;omega)) O ((h.up c hc).ch_ hC (λe=>by have:=j _ e;rw[t.ul c hc] at this;omega) (λe=>by have:=j _ e;rw[t.uc c hc] at this;omega))
    q I (mj A (f1n _)) (λx hx=>.inr (A.lt x hx).1) M
   exact⟨_,ow',hM,Ex.of hC ho (λx _ hx=>by have:=j x hx;refine⟨by omega,by omega,λc'=>by omega⟩)⟩
end
section
variable {L:Lay} {V:Vals} {S:Plain.Ses} {m:Int} {ow:Nat->Nat} {w:World} {E:Nat->Value}
def f6k (h:Mem L V S m ow w) (hG:Plain.Good S) (hE:Errs E w) {c:Nat} (hc:c<S.n) (kind pos r:Int) (mv:Bool) (hk:(kind=1/\mv=false)\/(kind=2/\mv=false/\r=0)\/(kind=3/\mv=true/\r=0)):
    Calls PV 48 #[.pointer (some ⟨L.b,0,none⟩),.pointer (some ⟨L.kb c,0,none⟩),.agg #[.int .i64 kind,.int .i64 pos,.int .i32 r,.int .i64 0,.int .i64 0,.int .i64 0],.int .i64 (Plain.last (S.cl c) kind),.bool mv] w
     λx w'=>x=.returned (errV E (Plain.change S c kind pos r).1)/\ ∃V' ow',Mem L V' (Plain.change S c kind pos r).2 m ow' w'/\Ex ow ow' w w':=by
 have hK:=h.kk c hc;have hL:=h.up c hc;have t:=h.tag;have hsz:=h.size;have hm:=hG.mine c hc;have hr:=hG.rows c hc;have W:=hG.calls;have htl:=hG.cl_len hc;have M:=hG.typed c hc;have X:=hG.room16;have Y:=hG.upR c hc;have A:=(hG.pair c hc).kc0;have aa:=(hG.pair c hc).kc1;have gb:2<=L.b:=by have:=t.ge (x:=L.b) j1;omega
 have gk:2<=L.kb c:=by have:=t.ge (x:=L.kb c) (by rw[t.kb c hc];omega);omega
 have gu:2<=L.ul c:=by have:=t.ge (x:=L.ul c) (by rw[t.ul c hc];omega);omega
 have gc:2<=L.uc c:=by have:=t.ge (x:=L.uc c) (by rw[t.uc c hc];omega);omega
 have gr: ∀x,(V.rv c).ownBlock=some x->2<=x:=λx hx=>by have:=t.ge (x:=x) (by rw[t.rv c hc x hx];omega);omega
 have ab:Plain.last (S.cl c) kind<=(S.cl c).text.length:=by unfold Plain.last;split <;>omega
 by_cases h1:pos<0\/Plain.last (S.cl c) kind<pos
 ·have e:Plain.change S c kind pos r=(4,S):=by unfold Plain.change;rw[f02 h1]
  rw[e];refine(lw _ _ _ _ _ _ _ _ _ _ (E 4) w (hE.at_ 4 fe) h1 fe).mono ?_;rintro x w' ⟨rfl,hb⟩;exact⟨rfl,V,ow,h.bl hb,Ex.bl hb⟩
 have hp:0<=pos/\pos<=Plain.last (S.cl c) kind:=by omega
 by_cases h2:S.calls=2000
 ·have e:Plain.change S c kind pos r=(6,S):=by unfold Plain.change;rw[fx9 h1,f02 h2]
  rw[e];refine(f7a L.b _ _ _ _ _ _ _ _ _ _ _ _ _ _ _ _ (E 6) w (hE.at_ 6 fe) fe hp (Bk.cv h.bb (by rw[h2];rfl))).mono ?_;rintro x w' ⟨rfl,hb⟩;exact⟨rfl,V,ow,h.bl hb,Ex.bl hb⟩
 by_cases h3:(S.cl c).up.length=S.room
 ·have e:Plain.change S c kind pos r=(5,S):=by unfold Plain.change;rw[fx9 h1,fx9 h2,f02 h3]
  rw[e];refine(f7b L.b (L.kb c) (L.ul c) (L.uc c) S.room _ _ _ _ _ _ _ _ _ _ _ _ _ _ _ _ _ _ _ _ _ _ _ _ _ _ _ (E 5) w (hE.at_ 5 fe) fe hp h.bb fe hK hL h3 fe).mono ?_;rintro x w' ⟨rfl,hb⟩;exact⟨rfl,V,ow,h.bl hb,Ex.bl hb⟩
 have e:Plain.change S c kind pos r=(0,{ S with cl:=Plain.put S.cl c (Plain.changed (S.cl c) c kind pos r),calls:=S.calls+1 }):=by unfold Plain.change;rw[fx9 h1,fx9 h2,fx9 h3]
 rw[e];have q:=Plain.made_fits (k:=S.cl c) (c:=c) (r:=r) (kind:=kind) (pos:=pos) fe hp.1 hp.2;obtain⟨ap,ec,en,ty,cu,em,hq,ek⟩: ∃ap ec en ty cu,Plain.made (S.cl c) c kind pos r=⟨kind,ap,⟨r,ec,en⟩,(c:Int)⟩/\((kind=1/\mv=false/\ap=pos/\ec=(c:Int)/\en=(S.cl c).typed+1/\ty=(S.cl c).typed+1/\cu=(S.cl c).cur)\/(kind=2/\mv=false/\ap=pos/\ec=0/\en=0/\ty=(S.cl c).typed/\cu=(S.cl c).cur)\/(kind=3/\mv=true/\ap=0/\ec=0/\en=0/\ty=(S.cl c).typed/\cu=pos))/\
  Plain.changed (S.cl c) c kind pos r=⟨Plain.apply (Plain.made (S.cl c) c kind pos r) (S.cl c).text,Plain.index (Plain.made (S.cl c) c kind pos r) cu,Plain.send (S.cl c).en (Plain.made (S.cl c) c kind pos r),ty,(S.cl c).up++[Plain.frame (S.cl c).en (Plain.made (S.cl c) c kind pos r) (Plain.index (Plain.made (S.cl c) c kind pos r) cu)],(S.cl c).down⟩:=by
    rcases hk with⟨rfl,rfl⟩|⟨rfl,rfl,rfl⟩|⟨rfl,rfl,rfl⟩
    ·exact⟨_,_,_,_,_,rfl,.inl ⟨rfl,rfl,rfl,rfl,rfl,rfl,rfl⟩,rfl⟩
    ·exact⟨_,_,_,_,_,rfl,.inr (.inl ⟨rfl,rfl,rfl,rfl,rfl,rfl,rfl⟩),rfl⟩
    ·exact⟨_,_,_,_,_,rfl,.inr (.inr ⟨rfl,rfl,rfl,rfl,rfl,rfl,rfl⟩),rfl⟩
 rw[em] at ek q;rw[ek]
 refine(f6l L.b (L.kb c) (L.ul c) (L.uc c) S.room _ _ _ _ _ _ _ (V.tv c) (V.rv c) _ _ (S.calls:Int) (c:Int) (S.cl c).cur (S.cl c).en.mine (S.cl c).en.other (S.cl c).en.acked (S.cl c).typed pos r _ kind ap ec en ty cu mv (S.cl c).up (S.cl c).en.row (S.cl c).text w
    h.base h.bb hK hL gu (h.tx c hc) (h.rw c hc) ⟨gb,gk⟩ fe fe fe fe hp fe fe ⟨A,by omega⟩ ⟨M.1,by omega⟩ ⟨hm.1,by omega⟩ fe gc gr hq q).mono ?_
 rintro x w' ⟨U,D,rfl,J,R,B,C,I,hO,hC,O⟩;refine⟨rfl,?_⟩
 have j: ∀x,x=L.b\/x=L.kb c\/x=L.uc c\/(V.rv c).ownBlock=some x->ow x=1\/ow x=16*c+16\/ow x=16*c+18\/ow x=16*c+22:=by
    rintro x (rfl|rfl|rfl|hx)
    ·exact .inl t.b
    ·exact .inr (.inl (t.kb c hc))
    ·exact .inr (.inr (.inl (t.uc c hc)))
    ·exact .inr (.inr (.inr (t.rv c hc x hx)))
 obtain⟨ow',hM,ho⟩:=h.cli hc ⟨Plain.apply ⟨kind,ap,⟨r,ec,en⟩,(c:Int)⟩ (S.cl c).text,Plain.index ⟨kind,ap,⟨r,ec,en⟩,(c:Int)⟩ cu,Plain.send (S.cl c).en ⟨kind,ap,⟨r,ec,en⟩,(c:Int)⟩,ty,(S.cl c).up++[Plain.frame (S.cl c).en ⟨kind,ap,⟨r,ec,en⟩,(c:Int)⟩ (Plain.index ⟨kind,ap,⟨r,ec,en⟩,(c:Int)⟩ cu)],(S.cl c).down⟩ (S.calls+1) U D m hC (λx _ hx=>by have:=j x hx;omega) ⟨λv t' hv x hx hk=>by rcases hk with hk|hk|hk|hk;exact rp hv h.bb fu x hx hk;exact rp hv hK fu x hx hk;exact ui hv hL x hx hk;exact vo hv (h.rw c hc) fu x hx hk⟩
    (Bk.cv J fi) R B ((h.dn c hc).ch_ hC (λe=>by have:=j _ e;rw[t.dl c hc] at this;omega) (λe=>by have:=j _ e;rw[t.dc c hc] at this;omega)) C I (λx hx=>by
      rcases hO with e|⟨y,e,hy⟩
      ·exact .inl (by rw[<- e];exact hx)
      ·rw[e] at hx;cases hx;exact .inr hy) O
 exact⟨_,ow',hM,Ex.of hC ho (λx _ hx=>by have:=j x hx;refine⟨by omega,by omega,λc'=>by omega⟩)⟩
def mem_ins (h:Mem L V S m ow w) (hG:Plain.Good S) (hE:Errs E w) {c:Nat} (hc:c<S.n) (pos r:Int):Calls PV 48 #[.pointer (some ⟨L.b,0,none⟩),.pointer (some ⟨L.kb c,0,none⟩),.agg #[.int .i64 1,.int .i64 pos,.int .i32 r,.int .i64 0,.int .i64 0,.int .i64 0],.int .i64 ((S.cl c).text.length:Int),.bool false] w
    λx w'=>x=.returned (errV E (Plain.change S c 1 pos r).1)/\ ∃V' ow',Mem L V' (Plain.change S c 1 pos r).2 m ow' w'/\Ex ow ow' w w':=f6k h hG hE hc 1 pos r false (.inl ⟨rfl,rfl⟩)
def mem_del (h:Mem L V S m ow w) (hG:Plain.Good S) (hE:Errs E w) {c:Nat} (hc:c<S.n) (pos:Int):Calls PV 48 #[.pointer (some ⟨L.b,0,none⟩),.pointer (some ⟨L.kb c,0,none⟩),.agg #[.int .i64 2,.int .i64 pos,.int .i32 0,.int .i64 0,.int .i64 0,.int .i64 0],.int .i64 (((S.cl c).text.length:Int)-1),.bool false] w
    λx w'=>x=.returned (errV E (Plain.change S c 2 pos 0).1)/\ ∃V' ow',Mem L V' (Plain.change S c 2 pos 0).2 m ow' w'/\Ex ow ow' w w':=f6k h hG hE hc 2 pos 0 false (.inr (.inl ⟨rfl,rfl,rfl⟩))
def mem_mov (h:Mem L V S m ow w) (hG:Plain.Good S) (hE:Errs E w) {c:Nat} (hc:c<S.n) (pos:Int):Calls PV 48 #[.pointer (some ⟨L.b,0,none⟩),.pointer (some ⟨L.kb c,0,none⟩),.agg #[.int .i64 3,.int .i64 pos,.int .i32 0,.int .i64 0,.int .i64 0,.int .i64 0],.int .i64 ((S.cl c).text.length:Int),.bool true] w
    λx w'=>x=.returned (errV E (Plain.change S c 3 pos 0).1)/\ ∃V' ow',Mem L V' (Plain.change S c 3 pos 0).2 m ow' w'/\Ex ow ow' w w':=f6k h hG hE hc 3 pos 0 true (.inr (.inr ⟨rfl,rfl,rfl⟩))
end
section
variable {L:Lay} {V:Vals} {S:Plain.Ses} {m:Int} {ow:Nat->Nat} {w:World} {E:Nat->Value}
def Mem.cls_ (h:Mem L V S m ow w) (h1:1<=S.n): ∃ab cap,L.cls=.slice (some ⟨ab,0,none⟩) S.n cap/\ ∀i,i<S.n->w.cell? ⟨ab,i,none⟩=some (.pointer (some ⟨L.kb i,0,none⟩)):=by
 have ha:=h.ar;obtain⟨g,cap,e,_⟩:=World.ownsRow.form ha h1;refine⟨g,cap,e,λi hi=>?_⟩;have:=f3g ha (g:=g) qe i (.pointer (some ⟨L.kb i,0,none⟩)) (by simp[clsL,hi]);simpa[f2u] using this
def fb8 {P:Program} (w:World) {tp te:TypeId} {j:TypeInfo} {a b:Addr} {ca cb:Array Value} {ta tb:TypeId} (hp:P.underlying tp=some (.pointer te)) (q:P.info? te=some j) (hsz:j.size≠0)
    (m:a≠b) (ha:w.heap[a.block]? =some (.cells ca ta (0,0))) (hb:w.heap[b.block]? =some (.cells cb tb (0,0))):
    (binOp .neq tp (.pointer (some a)) (.pointer (some b))).run P w=.ok (.bool true) w:=by
 have h: ∀d:Nat,(Op.equalIn (d+1) tp (.pointer (some a)) (.pointer (some b))).run P w=.ok false w:=λd=>by
    simp[Op.equalIn,f1l hp,sizeOf,typeInfo,q,hsz,run_sameAddr_other w m ha hb]
 simp only[binOp];simp[Op.equal,Op.maxDepth,h 9999]
def fc6 {P:Program} (w:World) {tp te:TypeId} {j:TypeInfo} (a:Addr) (hp:P.underlying tp=some (.pointer te)) (m:P.info? te=some j):
    (binOp .neq tp (.pointer (some a)) (.pointer (some a))).run P w=.ok (.bool false) w:=by
 have h: ∀d:Nat,(Op.equalIn (d+1) tp (.pointer (some a)) (.pointer (some a))).run P w=.ok true w:=λd=>by
    simp[Op.equalIn,f1l hp,sizeOf,typeInfo,m,run_sameAddr_same]
 simp only[binOp];simp[Op.equal,Op.maxDepth,h 9999]
def und83:PV.underlying 83=some (.pointer 89):=by kernel_rfl
def info89:(PV.info? 89).map (·.size)=some 11:=by kernel_rfl
def fsb {w:World} {g g':Nat} {cs cs':Array Value} (h:Bk w g 89 cs) (h':Bk w g' 89 cs'):(binOp .neq 83 (.pointer (some ⟨g,0,none⟩)) (.pointer (some ⟨g',0,none⟩))).run PV w=.ok (.bool (decide (g≠g'))) w:=by
 obtain⟨i,hi,hs⟩: ∃i,PV.info? 89=some i/\i.size=11:=by
    have:=info89;cases hi:PV.info? 89 with
    | none=>rw[hi] at this;cases this
    | some i=>rw[hi] at this;exact⟨i,rfl,by simpa using this⟩
 by_cases e:g=g'
 ·subst e;rw[fc6 w _ und83 hi];simp
 ·rw[fb8 w und83 hi fe (λe'=>e (by injection e')) h.at_ h'.at_];simp[e]
def Mem.kb_inj (h:Mem L V S m ow w) {i c:Nat} (hi:i<S.n) (hc:c<S.n) (e:L.kb i=L.kb c):i=c:=by
 have h1:=h.tag.kb i hi;have h2:=h.tag.kb c hc;rw[e] at h1;omega
def flr (h:Mem L V S m ow w) (hE:Errs E w) {c:Nat} (hc:c<S.n) (hu:(S.cl c).up=[]):
    Calls PV 55 #[.pointer (some ⟨L.b,0,none⟩),.pointer (some ⟨L.kb c,0,none⟩)] w λx w'=>x=.returned (E 7)/\w'=w:=by
 have h7:=hE.at_ 7 fe;obtain⟨cK,dK⟩:=(h.kk c hc).ceF;have hL:=h.up c hc;rw[hu] at hL;have HL:=fx6 hL;clear hE hL h;go_enter PV.func55,Tryz.ntmps55;go_wp2_with (first|(go_at_call 92;refine(flo (L.ul c) (L.uc c) S.room [] _ HL.out fi).mono ?_;rintro e w1 ⟨rfl,rfl⟩));go_ret;exact⟨rfl,rfl⟩
def mem_up (h:Mem L V S m ow w) {c:Nat} (hc:c<S.n) {w':World} {U:List Plain.Frm} (hL:Lnk w' (L.ul c) (L.uc c) S.room U) (hC:Ch (λx=>x=L.uc c\/x=L.ul c) w w'):
    ∃ow',Mem L V { S with cl:=Plain.put S.cl c { S.cl c with up:=U } } m ow' w'/\Ex ow ow' w w':=by
 have t:=h.tag
 have j: ∀x,x=L.uc c\/x=L.ul c->ow x=16*c+18\/ow x=16*c+17:=by
    rintro x (rfl|rfl)
    ·exact .inl (t.uc c hc)
    ·exact .inr (t.ul c hc)
 have hl:=h.up c hc;have q:NT (λx=>x=L.uc c\/x=L.ul c) w:=⟨λv t' hv x hx hk=>by rcases hk with hk|hk;exact ui hv hl x hx hk;exact rp hv hl.lb fu x hx hk⟩
 obtain⟨ow',hM,ho⟩:=h.cli hc { S.cl c with up:=U } S.calls (V.tv c) (V.rv c) m hC (λx _ hx=>by have:=j x hx;omega) q
    (h.bb.ch hC (λe=>by have:=j _ e;rw[t.b] at this;omega)) ((h.kk c hc).ch hC (λe=>by have:=j _ e;rw[t.kb c hc] at this;omega)) hL ((h.dn c hc).ch_ hC (λe=>by have:=j _ e;rw[t.dl c hc] at this;omega) (λe=>by have:=j _ e;rw[t.dc c hc] at this;omega))
    (qx hC (h.tx c hc) (q.out _ _ (h.tx c hc))) (qx hC (h.rw c hc) (λx hx e=>by have:=j _ e;rw[t.rv c hc x hx] at this;omega)) (λx hx=>.inl hx) (λx hx=>.inl hx)
 rw[ic,ic] at hM;exact⟨ow',hM,Ex.of hC ho (λx _ hx=>by have:=j x hx;refine⟨by omega,by omega,λc'=>by omega⟩)⟩
def fv2 {w':World} {n c:Nat} {cs:Array Value} {es:Nat->Plain.EndS} {er:Nat->Value} (hc:c<n) (hs:cs.size=n*4) (he: ∀c,c<n->EndC cs (c*4) (es c) (er c)) (e':Plain.EndS) (hm:e'.mine=(es c).mine) {j:Value}
    (hB:Bk w' L.eb 86 (((cs.setIfInBounds (c*4+3) j).setIfInBounds (c*4+2) (.int .i64 e'.acked)).setIfInBounds (c*4+1) (.int .i64 e'.other))):Ends w' L n (Plain.put es c e') (Plain.put er c j):=by
 refine⟨_,hB,by simp[hs],λi hi=>?_⟩;have h:=he i hi;by_cases e:i=c
 ·subst e;simp only[Plain.put_same];have h0:=h.mine;refine⟨?_,?_,?_,?_⟩
  ·simp only[fy1];rw[fx9 fe,fx9 fe,fx9 fe,h0,hm]
  ·simp only[fy1];simp only[f00,f0e,hs];rw[f02 fe]
  ·simp only[fy1];simp only[f00,f0e,hs];rw[fx9 fe,f02 fe]
  ·simp only[fy1];simp only[f00,f0e,hs];rw[fx9 fe,fx9 fe,f02 fe]
 ·simp only[Plain.put_ne _ _ e];refine⟨?_,?_,?_,?_⟩ <;>simp only[fy1]
  ·rw[fx9 fe,fx9 fe,fx9 fe];exact h.mine
  ·rw[fx9 fe,fx9 fe,fx9 fe];exact h.other
  ·rw[fx9 fe,fx9 fe,fx9 fe];exact h.acked
  ·rw[fx9 fe,fx9 fe,fx9 fe];exact h.row
def fv3 (h:Mem L V S m ow w) {c:Nat} (hc:c<S.n) (f:Plain.Frm) (hl:(S.ends c).row.length<=4000) (hN:Near f (S.ends c).row) (he:0<=(S.ends c).other/\(S.ends c).other<=1000000):
    Calls PV 94 #[.pointer (some ⟨L.eb,c*4,none⟩),frmV f] w λx w'=> ∃C ow',x=.returned (.tuple #[chgV (Plain.tryF (S.ends c) f).1,.int .i64 (Plain.tryF (S.ends c) f).2.1])/\
     Mem L { V with er:=Plain.put V.er c C } { S with ends:=Plain.put S.ends c (Plain.take (S.ends c) f) } m ow' w'/\Ex ow ow' w w'/\Ch (λx=>x=L.eb) w w':=by
 obtain⟨cs,q,B,j⟩:=h.ee.bk;have t:=h.tag;refine(fn9 L.eb (c*4) 86 cs (V.er c) (S.ends c) f w q (j c hc) (h.er c hc) hl hN he).mono ?_;rintro x w' ⟨A,rfl,hB,hR,hC⟩;obtain⟨ow',hM,ho⟩:=h.end hc (Plain.take (S.ends c) f) A hC (λx _ hx=>by subst hx;exact .inl t.eb) ⟨λv t' hv x hx hk=>rp hv q fu x hx hk⟩ (fv2 hc B j (Plain.take (S.ends c) f) rfl hB) (mj hR (f1n _)) (λx hx=>.inr (hR.lt x hx).1);exact⟨A,ow',rfl,hM,Ex.of hC ho (λx _ hx=>by subst hx;rw[t.eb];refine⟨by omega,by omega,λc'=>by omega⟩),hC⟩
structure Served (L:Lay) (E:Nat->Value) (S:Plain.Ses) (c:Nat) (m:Int) (ow:Nat->Nat) (w:World) (x:Ending) (w':World):Prop where
 out:x=.returned (errV E (Plain.serve S c).1)/\ ∃V' ow',Mem L V' (Plain.serve S c).2 m ow' w'/\Ex ow ow' w w'
end
end Go.Proofs.YtelecjnabeokeaaGreatDoor
