/- Folds answers true for every script, and the script reads as it did; condition: the package-level variables hold what the program's text lays. Part 2 of 6. -/
import Derived.Test.YtelecjnabeokeaaGreatDoorF1
import Derived.Test.YtelecjnabeokeaaGreatDoorProg
set_option maxRecDepth 100000
set_option maxHeartbeats 16000000
set_option linter.defProp false
set_option linter.unusedVariables false
set_option linter.unusedSimpArgs false
namespace Go.Proofs.YtelecjnabeokeaaGreatDoor
open Go Go.Conc
structure VS (P:Program) (F:Array Func) (Stop:Frame→List Frame→World→Prop):Prop where
 fok:FOk (V P F) F
 code:nq F
 stopNil: ∀ fr l v,Stop fr l v→l=[]
 stopCalm: ∀ fr l v,Stop fr l v→ ¬ PanS (fr::l)
structure Lv (P:Program) (F:Array Func) (Stop:Frame→List Frame→World→Prop) (s:St):Prop where
 fin:FinS (V P F) Stop s
 stk:i5 (V P F) F (s.1::s.2.1)
 objs:ut s.2.2
section
variable {P:Program} {F:Array Func} {fr fr1:Frame} {l:List Frame} {v v1:World} {Stop:Frame→List Frame→World→Prop} {s s':St} {cs1:List Frame} {es:Array Event}
def lv_next (A:VS P F Stop) (L:Lv P F Stop s) (hn: ¬ Stop s.1 s.2.1 s.2.2) {t:Nat→Question→Nat} {d:Nat} (hs:step (V P F) (lone s.1 (s.2.1++[botF]) (reW s.2.2 t d))= .next (lone s'.1 (s'.2.1++[botF]) s'.2.2)):Lv P F Stop s':=by
 have hf:=fir L.fin hn hs;rcases ftp A.fok A.code L.stk (fdr L.objs t d) hs with (⟨_,hne⟩ | ⟨t,u,ht,e⟩) | ⟨fr1,l1,v1,e,hk1,ho1,_,_⟩
 · exact absurd rfl (hne _ _ _)
 · simp only [lone,f1q,f1z,f0n,f1j,f2i] at e;obtain ⟨_,_,e⟩:=e;simp at e
 · obtain ⟨e1,e2,e3⟩:=cf e;exact ⟨hf,by rw [e1,e2];exact hk1,by rw [e3];exact ho1⟩
def fkx (A:VS P F Stop) (h:Desc (V P F) Stop s s'):Lv P F Stop s→Lv P F Stop s':=by
 induction h with
 | refl s=>exact id
 | step t d hn hs _ ih=>exact fun L=>ih (lv_next A L hn hs)
def vn (A:VS P F Stop) (L:Lv P F Stop s) (h:Ahead (V P F) Stop s s'):Lv P F Stop s':=fkx A h.to_desc L
def fgv (A:VS P F Stop) (L:Lv P F Stop s): ¬ PanS (s.1::s.2.1):=Fin.calm A.fok A.code A.stopCalm L.fin L.stk L.objs
def fdv {Q:Program} (hn: ¬ Stop s.1 s.2.1 s.2.2) (hs:step Q (lone s.1 (s.2.1++[botF]) s.2.2)= .next (lone s'.1 (s'.2.1++[botF]) s'.2.2)):Ahead Q Stop s s':=
 ⟨s',s.2.2.tape,s.2.2.drawn,hn,hs,.refl _⟩
def cy (A:VS P F Stop) (L:Lv P F Stop (fr,l,v)) (hl:l≠[]) (h:stepG (V P F) true (G fr (l++[botF])) v= .go (G fr1 cs1) v1 es):
    ∃ l1,cs1=l1++[botF]∧Lv P F Stop (fr1,l1,v1)∧Ahead (V P F) Stop (fr,l,v) (fr1,l1,v1):=by
 have hn: ¬ Stop fr l v:=fun h=>hl (A.stopNil _ _ _ h);have hst:step (V P F) (lone fr (l++[botF]) v)= .next (lone fr1 cs1 v1):=f3t (by unfold G at h;rw [h];rfl);have hf:=L.fin;cases hf with
 | stop h=>exact absurd h hn
 | step fr' l' v' h1 h2=>
   have h3:=h1 v.tape v.drawn;have h3:step (V P F) (lone fr (l++[botF]) v)=_:=h3;rw [hst] at h3;simp only [f0o,lone,f1q,f1z,f0n,f1j,f2i] at h3;obtain ⟨e1,e2,e3⟩:=h3;refine ⟨l' v.tape v.drawn,e3,?_⟩;have ha:Ahead (V P F) Stop (fr,l,v) (fr1,l' v.tape v.drawn,v1):=fdv (s:=(fr,l,v)) (s':=(fr1,l' v.tape v.drawn,v1)) hn (by show step (V P F) (lone fr (l++[botF]) v)=_;rw [hst,e3]);exact ⟨vn A L ha,ha⟩
def mc (A:VS P F Stop) (L:Lv P F Stop (fr,l,v)) (hl:l≠[]) (h: ∃ o u es,stepG (V P F) true (G fr (l++[botF])) v= .ended o u es):False:=by
 obtain ⟨o,u,es,h⟩:=h;have hn: ¬ Stop fr l v:=fun h=>hl (A.stopNil _ _ _ h);have hst:step (V P F) (lone fr (l++[botF]) v)= .ended o u:=f3u (by unfold G at h;rw [h];rfl);have hf:=L.fin;cases hf with
 | stop h=>exact absurd h hn
 | step fr' l' v' h1 h2=>
   have h3:step (V P F) (lone fr (l++[botF]) v)=_:=h1 v.tape v.drawn;rw [hst] at h3;cases h3
def lv_comm (A:VS P F Stop) (L:Lv P F Stop (fr,l,v)) (hl:l≠[]) {c:CommCase} {b:Bool} {sh:CommShape} (h:stepG (V P F) true (G fr (l++[botF])) v= .comm (G fr1 (l++[botF])) #[c] b sh v1 es) (hf:fku c b sh):
    ∃ val v2,uk c v1=some (val,v2)∧Lv P F Stop (fr1.finish val,l,v2)∧Ahead (V P F) Stop (fr,l,v) (fr1.finish val,l,v2):=by
 have hn: ¬ Stop fr l v:=fun h=>hl (A.stopNil _ _ _ h);cases hs:uk c v1 with
 | some p=>
   obtain ⟨val,v2⟩:=p;have hst:=fdq h hf hs;have ha:Ahead (V P F) Stop (fr,l,v) (fr1.finish val,l,v2):=fdv (s:=(fr,l,v)) (s':=(fr1.finish val,l,v2)) hn hst;exact ⟨val,v2,rfl,vn A L ha,ha⟩
 | none=>
   exfalso;have hfin:=L.fin;cases hfin with
   | stop h=>exact absurd h hn
   | step fr' l' v' h1 h2=>
     have h3:step (V P F) (lone fr (l++[botF]) v)=_:=h1 v.tape v.drawn;rcases np h hf hs with ⟨o,u,e⟩ | ⟨g,u,hg,e⟩ | ⟨y,u,hy,e⟩
     · rw [e] at h3;cases h3
     · rw [e] at h3;simp only [f0o,lone,f1q,f1z,f0n,f2i] at h3;rw [h3.2] at hg;cases hg
     · have ha:Ahead (V P F) Stop (fr,l,v) (fr1.raise [{ v:=y,recovered:=false }],l,u):=fdv (s:=(fr,l,v)) (s':=(fr1.raise [{ v:=y,recovered:=false }],l,u)) hn e;exact fgv A (vn A L ha) ⟨_,fz5,vu _ _⟩
def Arr (b:Frame) (k:List Item):Exit→Act→Frame→Prop
 | .normal,a,fr=>fr=b.at a k
 | .ret,a,fr=> ∃ todo,fr={ b.at a todo with mode:= .returning }
 | _,_,_=>False
def VW (P:Program) (F:Array Func) (Stop:Frame→List Frame→World→Prop) (c:Code) (Q:Exit→Act→World→Prop) (a:Act) (v:World):Prop:=
 ∀ (b:Frame) (k:List Item) (l:List Frame),l≠[]→Lv P F Stop (b.at a (.code c::k),l,v)→
   ∃ e a' v' fr',Q e a' v'∧Arr b k e a' fr'∧Ahead (V P F) Stop (b.at a (.code c::k),l,v) (fr',l,v')
def VO (P:Program) (F:Array Func) (Stop:Frame→List Frame→World→Prop) (ops:Array Oper) (is:List Nat) (Q:Act→World→Prop) (a:Act) (v:World):Prop:=
 ∀ (b:Frame) (k:List Item) (l:List Frame),l≠[]→Lv P F Stop (b.at a (.inRegion ops is::k),l,v)→
   ∃ a' v',Q a' v'∧Ahead (V P F) Stop (b.at a (.inRegion ops is::k),l,v) (b.at a' k,l,v')
def fit (o:Oper) (a:Act) (K:Act→World→Prop):Result Next→Prop
 | .ok (.value x) v'=>K (a.put o.dst x) v'
 | .ok .skip v'=>K (a.put o.dst undef) v'
 | .ok (.comm cases b sh) v1=> ∃ c,cases= #[c]∧vr True (.comm cases b sh)∧ ∀ val v2,uk c v1=some (val,v2)→K (a.put o.dst val) v2
 | .halt h _=>(∃ x,h= .panic x)∨hard h=true
 | _=>False
variable {a:Act} {Q:Exit→Act→World→Prop} {ops:Array Oper}
def fc9 (l:List Frame): ∃ c cs,l++[botF]=c::cs:=by cases l <;>exact ⟨_,_,rfl⟩
def vi (A:VS P F Stop) {K:Act→World→Prop} (h:K a v):VO P F Stop ops [] K a v:=fun b k l hl L=>by
 obtain ⟨l1,e,_,ha⟩:=cy A L hl f1o;obtain rfl:=fz2 e;exact ⟨a,v,h,ha⟩
def uf (A:VS P F Stop) {i:Nat} {rest:List Nat} {K:Act→World→Prop} {o:Oper} (ho:ops[i]? =some o) (hw: ∀ ys,Region.wanted o ys=true)
    (h:fit o a (VO P F Stop ops rest K) ((execOp a.eval o).run (V P F) v)):VO P F Stop ops (i::rest) K a v:=fun b k l hl L=>by
 have hst:=stepG_oper (P:=V P F) (main:=true) (b:=b) (a:=a) (k:=k) (cs:=l++[botF]) (w:=v) (rest:=rest) ho (hw (yielded ops a.tmps));have hfin: ∀ x,(b.at a (.inRegion ops (i::rest)::k)).finish x=b.at (a.put o.dst x) (.inRegion ops rest::k):=fun x=>by rw [f0i,ho];rfl
 have okf:=L.stk (b.at a (.inRegion ops (i::rest)::k)) fi;obtain ⟨c,cs,hcs⟩:=fc9 l;obtain ⟨es,hT⟩:=uu (rfl:(execOp a.eval o).run (V P F) v=_);generalize hr:(execOp a.eval o).run (V P F) v=r at h hT
 match r,h with
 | .ok (.value x) v',h=>
   have e:=et (fr:=b.at a (.inRegion ops (i::rest)::k)) (cm:=True) hT trivial okf.kind okf.todo c cs;rw [hcs,e] at hst;simp only [zr,LRes.plug,hfin,f2h] at hst;rw [← hcs] at hst;obtain ⟨l1,e1,L',ha⟩:=cy A L hl hst;obtain rfl:=fz2 e1;obtain ⟨a',v2,hq,hb⟩:=h b k l hl L';exact ⟨a',v2,hq,ha.desc hb.to_desc⟩
 | .ok .skip v',h=>
   have e:=et (fr:=b.at a (.inRegion ops (i::rest)::k)) (cm:=True) hT trivial okf.kind okf.todo c cs;rw [hcs,e] at hst;simp only [zr,LRes.plug,hfin,f2h] at hst;rw [← hcs] at hst;obtain ⟨l1,e1,L',ha⟩:=cy A L hl hst;obtain rfl:=fz2 e1;obtain ⟨a',v2,hq,hb⟩:=h b k l hl L';exact ⟨a',v2,hq,ha.desc hb.to_desc⟩
 | .ok (.comm cases bb sh) v',h=>
   obtain ⟨cc,rfl,hok,hK⟩:=h;have e:=et (fr:=b.at a (.inRegion ops (i::rest)::k)) (cm:=True) hT hok okf.kind okf.todo c cs;rw [hcs,e] at hst;simp only [zr,LRes.plug] at hst;rw [← hcs] at hst;obtain ⟨c',e',hf⟩:=fm9 hok.2;obtain rfl:cc=c':=by simpa using e'
   obtain ⟨val,v2,hs,L',ha⟩:=lv_comm A L hl hst hf;rw [hfin] at L' ha;obtain ⟨a',v3,hq,hb⟩:=hK val v2 hs b k l hl L';exact ⟨a',v3,hq,ha.desc hb.to_desc⟩
 | .halt x v',h=>
   exfalso;rcases h with ⟨y,rfl⟩ | h
   · have e:=ax (fr:=b.at a (.inRegion ops (i::rest)::k)) hT okf.kind c cs;rw [hcs,e] at hst;simp only [LRes.plug,f2h] at hst;rw [← hcs] at hst;obtain ⟨l1,_,L',_⟩:=cy A L hl hst;exact fgv A L' ⟨(b.at a (.inRegion ops (i::rest)::k)).raise [{ v:=y,recovered:=false }],fz5,vu _ _⟩
   · obtain ⟨o',u,es',e⟩:=dg (fr:=b.at a (.inRegion ops (i::rest)::k)) hr h c cs;rw [hcs,e] at hst;rw [← hcs] at hst;exact mc A L hl ⟨_,_,_,hst⟩
 | .ok (.enter ..) _,h=>exact h.elim
 | .ok (.defer _) _,h=>exact h.elim
 | .ok (.round ..) _,h=>exact h.elim
def ue (A:VS P F Stop) {id:Nat} (h:VO P F Stop ops (List.range ops.size) (Q .normal) a v):VW P F Stop (.region id ops false) Q a v:=fun b k l hl L=>by
 obtain ⟨l1,e,L',ha⟩:=cy A L hl f2o;obtain rfl:=fz2 e;obtain ⟨a',v',hq,hb⟩:=h b k l hl L';exact ⟨.normal,a',v',_,hq,rfl,ha.desc hb.to_desc⟩
def xk (A:VS P F Stop) {x y:Code} (h:VW P F Stop x (fun e a' v'=>match e with | .normal=>VW P F Stop y Q a' v' | e=>Q e a' v') a v):VW P F Stop (.seq x y) Q a v:=fun b k l hl L=>by
 obtain ⟨l1,e,L',ha⟩:=cy A L hl f4d;obtain rfl:=fz2 e;obtain ⟨e,a',v',fr',hq,harr,hb⟩:=h b (.code y::k) l hl L';cases e with
 | normal=>
   obtain rfl:=harr;obtain ⟨e2,a2,v2,fr2,hq2,harr2,hb2⟩:=hq b k l hl (vn A L' hb);exact ⟨e2,a2,v2,fr2,hq2,harr2,ha.desc (hb.desc hb2.to_desc).to_desc⟩
 | ret=>exact ⟨.ret,a',v',fr',hq,harr,ha.desc hb.to_desc⟩
 | _=>exact harr.elim
def yy (A:VS P F Stop) {c:Operand} {x y:Code} (h: ∀ t,a.eval c= .bool t→VW P F Stop (if t then x else y) Q a v):VW P F Stop (.cond c x y) Q a v:=fun b k l hl L=>by
 by_cases hb: ∃ t,a.eval c= .bool t
 · obtain ⟨t,hb⟩:=hb;obtain ⟨l1,e,L',ha⟩:=cy A L hl (stepG_cond hb);obtain rfl:=fz2 e;obtain ⟨e,a',v',fr',hq,harr,hb⟩:=h t hb b k l hl L';exact ⟨e,a',v',fr',hq,harr,ha.desc hb.to_desc⟩
 · exfalso;refine mc A L hl ?_;have h': ∀ t,(b.at a (.code (.cond c x y)::k)).eval c≠ .bool t:=fun t=>by rw [Frame.eval_at];exact fun e=>hb ⟨t,e⟩
   have: ∃ o u es,stepG.exec (V P F) true true (b.at a (.code (.cond c x y)::k)) (l++[botF]) none v= .ended o u es:=by
    unfold stepG.exec;simp only [Frame.at];split
    · rename_i t e;exact absurd e (h' t)
    · exact ⟨_,_,_,rfl⟩
   simpa [stepG,G,Frame.at] using this
def fqc (A:VS P F Stop) (h:Q .normal a v):VW P F Stop .skip Q a v:=fun b k l hl L=>by
 obtain ⟨l1,e,_,ha⟩:=cy A L hl stepG_skip;obtain rfl:=fz2 e;exact ⟨.normal,a,v,_,h,rfl,ha⟩
def nr (A:VS P F Stop) (h:Q .ret a v):VW P F Stop .ret Q a v:=fun b k l hl L=>by
 obtain ⟨l1,e,_,ha⟩:=cy (fr1:={ b.at a (.code .ret::k) with mode:= .returning }) (cs1:=l++[botF]) (v1:=v) (es:= #[]) A L hl (by simp [G,stepG,stepG.exec,Frame.at]);obtain rfl:=fz2 e;exact ⟨.ret,a,v,_,h,⟨_,rfl⟩,ha⟩
def zi (A:VS P F Stop) (why:String):VW P F Stop (.refuse why) Q a v:=fun b k l hl L=>by
 exfalso;refine mc A L hl ?_;simp [G,stepG,stepG.exec,Frame.at]
def ur (kind:CallKind) (x:Value) (g:Frame):Frame:=(if kind= .normal then Touch.fin x else Touch.dret).on g
def fgw (A:VS P F Stop) {f:FuncId} {fn:Func} {c:Code} {args:Array Value} {kind:CallKind} {g:Frame} (hf:F[f]? =some fn) (hb:fn.body=some c) {R:Value→World→Prop}
    (L:Lv P F Stop (Frame.enter (V P F) f args kind,g::l,v)) (h:VW P F Stop c (fun e a' v'=>(e= .normal∨e= .ret)∧a'.defers=[]∧ ∃ x,(results fn a'.tmps).run (V P F) v'= .ok x v'∧R x v') { tmps:=args++Array.replicate (fn.ntmps-args.size) undef,defers:=[] } v):
    ∃ x v',R x v'∧Ahead (V P F) Stop (Frame.enter (V P F) f args kind,g::l,v) (ur kind x g,l,v'):=by
 let b:Frame:={ (default:Frame) with fn:=f,kind:=kind }
 have hf':(V P F).funcs[f]? =some fn:=hf
 have henter:Frame.enter (V P F) f args kind=b.at { tmps:=args++Array.replicate (fn.ntmps-args.size) undef,defers:=[] } [.code c]:=by
    simp [Frame.enter,Frame.at,hf,hb,b]
 have hkind:kind= .normal∨kind= .deferred:=by
    have:=(L.stk _ fz5).kind;simpa [henter,Frame.at,b] using this
 rw [henter] at L ⊢;obtain ⟨e,a',v',fr',⟨he,hd,x,hr,hR⟩,harr,ha⟩:=h b [] (g::l) fi L;have hlv:=vn A L ha
 have leave: ∀ todo,Lv P F Stop ({ b.at a' todo with mode:= .returning },g::l,v')→ ∃ x v'',R x v''∧Ahead (V P F) Stop ({ b.at a' todo with mode:= .returning },g::l,v') (ur kind x g,l,v''):=by
    intro todo L';obtain ⟨es,hT⟩:=uu hr;have hst:stepG (V P F) true (G { b.at a' todo with mode:= .returning } (g::(l++[botF]))) v'= .go (G (ur kind x g) (l++[botF])) v' (seen (V P F) f es):=by
     have e1:stepG (V P F) true (G { b.at a' todo with mode:= .returning } (g::(l++[botF]))) v'=GStep.after (seen (V P F) f es) (doReturn (V P F) true { b.at a' todo with mode:= .returning } (g::(l++[botF])) none x v'):=by
        simp [-Sem.runT_eq,G,stepG,unwind,Frame.at,hd,b,hf',hT]
     rw [e1,wn (by simpa [Frame.at,b] using hkind)];simp only [c9,ur,Frame.at,b,LRes.plug,GStep.after,f1t];rfl
    obtain ⟨l1,e1,_,ha'⟩:=cy A L' fi (by simpa using hst);obtain rfl:=fz2 e1;exact ⟨x,v',hR,ha'⟩
 rcases he with rfl | rfl
 · obtain rfl:=harr;obtain ⟨l1,e1,L1,h1⟩:=cy A hlv fi f4e;obtain rfl:=fz2 e1;obtain ⟨x',v'',hR',h2⟩:=leave [] L1;exact ⟨x',v'',hR',ha.desc (h1.desc h2.to_desc).to_desc⟩
 · obtain ⟨todo,rfl⟩:=harr;obtain ⟨x',v'',hR',h2⟩:=leave todo hlv;exact ⟨x',v'',hR',ha.desc h2.to_desc⟩
end
def vl (e:Event):Prop:=e.loc≠ .mark .disable∧e.loc≠ .mark .enable
def dj {es:Array Event} (h: ∀ e∈es,vl e) (d:Nat):deafBehind d es=d:=by
 have: ∀ (l:List Event) (d:Nat),(∀ e∈l,vl e)→l.foldl (fun d e=>match e.loc with | .mark .disable=>d+1 | .mark .enable=>d-1 | _=>d) d=d:=by
    intro l
    induction l with
    | nil=>intros;rfl
    | cons e l ih=>
      intro d hl;have he:=hl e fi;simp only [List.foldl_cons]
      have:(match e.loc with | .mark .disable=>d+1 | .mark .enable=>d-1 | _=>d)=d:=by
        split
        · rename_i h;exact absurd h he.1
        · rename_i h;exact absurd h he.2
        · rfl
      rw [this];exact ih d fun e he=>hl e (by simp [he])
 unfold deafBehind;rw [← Array.foldl_toList];exact this es.toList d fun e he=>h e (by simpa using he)
def fbm {H:Hide} {n:Nat} {e:Event} (h:EvOK H n e):vl e:=by
 obtain ⟨l,wr,sy⟩:=e;cases l with
 | mark m=>cases m <;>first | exact h.elim | exact ⟨by simp,by simp⟩
 | _=>exact ⟨by simp,by simp⟩
section
variable {P:Program} {F:Array Func} {main:Bool} {H:Hide} {Shun:Loc→Prop} {Φ:Goroutine→World→Nat→Prop} {g g1:Goroutine} {w w1 v v1:World} {n:Nat} {b c:Frame} {a:Act} {k:List Item} {cs:List Frame} {ops:Array Oper} {i:Nat} {rest:List Nat} {o:Oper} {x:Value} {x1 x2:Code}
def uv (h:OG P main H Shun Φ (G (b.at a (.code x1:: .code x2::k)) cs) w n):OG P main H Shun Φ (G (b.at a (.code (.seq x1 x2)::k)) cs) w n:=io rfl (fun _=>f4d) h
def oa (h:OG P main H Shun Φ (G (b.at a k) cs) w n):OG P main H Shun Φ (G (b.at a (.code .skip::k)) cs) w n:=io rfl (fun _=>stepG_skip) h
def xl {y:Operand} {t:Bool} (hc:a.eval y= .bool t) (h:OG P main H Shun Φ (G (b.at a (.code (if t then x1 else x2)::k)) cs) w n):OG P main H Shun Φ (G (b.at a (.code (.cond y x1 x2)::k)) cs) w n:=io rfl (fun _=>stepG_cond hc) h
def rm {id:Nat} (h:OG P main H Shun Φ (G (b.at a (.inRegion ops (List.range ops.size)::k)) cs) w n):OG P main H Shun Φ (G (b.at a (.code (.region id ops false)::k)) cs) w n:=io rfl (fun _=>f2o) h
def u7 (h:OG P main H Shun Φ (G (b.at a k) cs) w n):OG P main H Shun Φ (G (b.at a (.inRegion ops []::k)) cs) w n:=io rfl (fun _=>f1o) h
def fiu (h:OG P main H Shun Φ (G { b.at a [] with mode:= .returning } cs) w n):OG P main H Shun Φ (G (b.at a []) cs) w n:=io rfl (fun _=>f4e) h
def fiv (h:OG P main H Shun Φ (G { b.at a (.code .ret::k) with mode:= .returning } cs) w n):OG P main H Shun Φ (G (b.at a (.code .ret::k)) cs) w n:=
 io rfl (fun w=>by simp [G,stepG,stepG.exec,Frame.at]) h
def ze {fn:Func} {todo:List Item} (hk:b.kind= .normal∨b.kind= .deferred) (hd:a.defers=[]) (hf:P.funcs[b.fn]? =some fn) (hr:ResultsC P fn a.tmps x) (h:OG P main H Shun Φ (G (ur b.kind x c) cs) w n):
    OG P main H Shun Φ (G { b.at a todo with mode:= .returning } (c::cs)) w n:=by
 refine io rfl (fun w=> ?_) h;obtain ⟨h1,h2⟩:=hr w
 have hT:(results fn a.tmps).runT P w #[]=(.ok x w,#[]):=by
    refine f2v ?_ h2;rw [f0d];exact h1
 have e1:stepG P main (G { b.at a todo with mode:= .returning } (c::cs)) w=GStep.after (seen P b.fn #[]) (doReturn P main { b.at a todo with mode:= .returning } (c::cs) none x w):=by
    simp [-Sem.runT_eq,G,stepG,unwind,Frame.at,hd,hf,hT]
 rw [e1,wn (by simpa [Frame.at] using hk)];have:seen P b.fn #[]= #[]:=seen_none P b.fn;rw [this];simp only [c9,ur,Frame.at,LRes.plug,GStep.after,f1t];rfl
def ll {es:Array Event} (hr:g.status= .running) (hs: ∀ d,stepG P main g (w.at d)= .go g1 (w1.at d) es) (hok:fiq H Shun w w1 es) (h:OG P main H Shun Φ g1 w1 (deafBehind n es)):OG P main H Shun Φ g w n:=
 .one hr fun d=>⟨g1,w1.at d,es,hs d,⟨hok.size,hok.kept,hok.evs⟩,by
    cases h with
    | stop h=>exact .stop h
    | step g1 w1 es hr h1 h2 h3=>exact .step g1 w1 es hr h1 h2 h3⟩
def qz (ho:ops[i]? =some o) (hw:Region.wanted o (yielded ops a.tmps)=true) (hk:b.kind≠ .early) (hrun: ∀ d,(execOp a.eval o).run P (w.at d)= .ok (.value x) (w1.at d)) (hsz:w.heap.size≤w1.heap.size)
    (hkept: ∀ b,H b≠none→w1.heap[b]? =w.heap[b]?) (hev: ∀ d,∀ e∈(execOp a.eval o).events P (w.at d) #[],EvP H Shun w1.heap.size e∧vl e) (h:OG P main H Shun Φ (G (b.at (a.put o.dst x) (.inRegion ops rest::k)) cs) w1 n):
    OG P main H Shun Φ (G (b.at a (.inRegion ops (i::rest)::k)) cs) w n:=by
 refine .one rfl fun d=>⟨_,w1.at d,_,stepG_value ho hw hk (hrun d),⟨hsz,hkept,fun e he=>(hev d e (f3e he)).1⟩,?_⟩;rw [show deafBehind n (listed P b.fn a o (w.at d))=n from dj (fun e he=>(hev d e (f3e he)).2) n];cases h with
 | stop h=>exact .stop h
 | step g1 w1 es hr h1 h2 h3=>exact .step g1 w1 es hr h1 h2 h3
def ov (x:Value) (w1:World) (h:OG P main H Shun Φ (G (b.at (a.put o.dst x) (.inRegion ops rest::k)) cs) w1 n) (ho:ops[i]? =some o:=by rfl) (hw:Region.wanted o (yielded ops a.tmps)=true:=by rfl) (hk:b.kind≠ .early:=by first | assumption | k_ne) (hrun: ∀ d,(execOp a.eval o).run P (w.at d)= .ok (.value x) (w1.at d):=by intro d;go_simp) (hsz:w.heap.size≤w1.heap.size:=by exact fx8 _)
    (hkept: ∀ b,H b≠none→w1.heap[b]? =w.heap[b]? :=by intros;rfl) (hev: ∀ d,∀ e∈(execOp a.eval o).events P (w.at d) #[],EvP H Shun w1.heap.size e∧vl e:=by intro d e he;first | (simp [go_sem] at he;done) | (have he:e∈(#[]:Array Event):=he;simp at he)):OG P main H Shun Φ (G (b.at a (.inRegion ops (i::rest)::k)) cs) w n:=qz ho hw hk hrun hsz hkept hev h
def ox (x:Value) (w1:World) (h:OG P main H Shun Φ (G (b.at (a.put o.dst x) (.inRegion ops rest::k)) cs) w1 n) (ho:ops[i]? =some o:=by rfl) (hw:Region.wanted o (yielded ops a.tmps)=true:=by rfl) (hk:b.kind≠ .early:=by first | assumption | k_ne) (hrun: ∀ d,(execOp a.eval o).run P (w.at d)= .ok (.value x) (w1.at d):=by intro d;rfl) (hsz:w.heap.size≤w1.heap.size:=by exact fx8 _)
    (hkept: ∀ b,H b≠none→w1.heap[b]? =w.heap[b]? :=by intros;rfl) (hev: ∀ d,∀ e∈(execOp a.eval o).events P (w.at d) #[],EvP H Shun w1.heap.size e∧vl e:=by intro d e he;first | (simp [go_sem] at he;done) | (have he:e∈(#[]:Array Event):=he;simp at he)):OG P main H Shun Φ (G (b.at a (.inRegion ops (i::rest)::k)) cs) w n:=qz ho hw hk hrun hsz hkept hev h
def fqd (rel:Rel H v w) (ho:ops[i]? =some o) (hw:Region.wanted o (yielded ops a.tmps)=true) (hk:b.kind≠ .early) (hs:Sim P F (fun _=>False) (execOp a.eval o)) (hv:(execOp a.eval o).run (V P F) v= .ok (.value x) v1) (hd:v1.drawn=v.drawn)
    (h: ∀ w1,Rel H v1 w1→OG P main H Shun Φ (G (b.at (a.put o.dst x) (.inRegion ops rest::k)) cs) w1 n):OG P main H Shun Φ (G (b.at a (.inRegion ops (i::rest)::k)) cs) w n:=by
 refine .one rfl fun d=> ?_;have rel':Rel H v (w.at d):=rel.re w.tape d;rcases ym hs rel' with ⟨h',v',e,hh⟩ | ⟨R,hR,v',k',e,_,hsz,_,hdr,_,h4⟩
 · rw [hv] at e;cases e
 · rw [hv] at e;have e1:R= .ok (.value x)∧v'=v1:=by
    rcases hR with ⟨y,rfl⟩ | ⟨y,rfl⟩
    · cases e;exact ⟨rfl,rfl⟩
    · cases e
   obtain ⟨rfl,rfl⟩:=e1;obtain rfl:k'=0:=by omega
   obtain ⟨w1,new,g1,g2,g3,g4,g5⟩:=h4 fun j hj=>by omega
   have hrun:(execOp a.eval o).run P (w.at d)= .ok (.value x) w1:=by rw [← f0d P _ _ #[],g1]
   have hev:(execOp a.eval o).events P (w.at d) #[]=new:=by rw [show (execOp a.eval o).events P (w.at d) #[]=((execOp a.eval o).runT P (w.at d) #[]).2 from rfl,g1]
   refine ⟨_,w1,_,stepG_value ho hw hk hrun,⟨by rw [← rel'.size,← g4.size];exact hsz,fun b hb=>fap rel' g4 hb,fun e he=>o9 (g5 e ?_)⟩,?_⟩
   · have:=f3e he;rwa [hev] at this
   · rw [show deafBehind n (listed P b.fn a o (w.at d))=n from dj (fun e he=>fbm (g5 e (by have:=f3e he;rwa [hev] at this))) n];exact h w1 g4
def fky (rel:Rel H v w) (ho:ops[i]? =some o) (hw:Region.wanted o (yielded ops a.tmps)=true) (hk:b.kind≠ .early) (hs:Sim P F (fun _=>False) (execOp a.eval o)) (hv:(execOp a.eval o).run (V P F) v= .ok .skip v1) (hd:v1.drawn=v.drawn)
    (h: ∀ w1,Rel H v1 w1→OG P main H Shun Φ (G (b.at (a.put o.dst undef) (.inRegion ops rest::k)) cs) w1 n):OG P main H Shun Φ (G (b.at a (.inRegion ops (i::rest)::k)) cs) w n:=by
 refine .one rfl fun d=> ?_;have rel':Rel H v (w.at d):=rel.re w.tape d;rcases ym hs rel' with ⟨h',v',e,hh⟩ | ⟨R,hR,v',k',e,_,hsz,_,hdr,_,h4⟩
 · rw [hv] at e;cases e
 · rw [hv] at e;have e1:R= .ok .skip∧v'=v1:=by
    rcases hR with ⟨y,rfl⟩ | ⟨y,rfl⟩
    · cases e;exact ⟨rfl,rfl⟩
    · cases e
   obtain ⟨rfl,rfl⟩:=e1;obtain rfl:k'=0:=by omega
   obtain ⟨w1,new,g1,g2,g3,g4,g5⟩:=h4 fun j hj=>by omega
   have hrun:(execOp a.eval o).run P (w.at d)= .ok .skip w1:=by rw [← f0d P _ _ #[],g1]
   have hev:(execOp a.eval o).events P (w.at d) #[]=new:=by rw [show (execOp a.eval o).events P (w.at d) #[]=((execOp a.eval o).runT P (w.at d) #[]).2 from rfl,g1]
   refine ⟨_,w1,_,stepG_none ho hw hk hrun,⟨by rw [← rel'.size,← g4.size];exact hsz,fun b hb=>fap rel' g4 hb,fun e he=>o9 (g5 e ?_)⟩,?_⟩
   · have:=f3e he;rwa [hev] at this
   · rw [show deafBehind n (listed P b.fn a o (w.at d))=n from dj (fun e he=>fbm (g5 e (by have:=f3e he;rwa [hev] at this))) n];exact h w1 g4
def enter_at {f:FuncId} {fn:Func} {cd:Code} {args:Array Value} {kind:CallKind} (hf:P.funcs[f]? =some fn) (hb:fn.body=some cd):
    Frame.enter P f args kind=({ (default:Frame) with fn:=f,kind:=kind }:Frame).at { tmps:=args++Array.replicate (fn.ntmps-args.size) undef,defers:=[] } [.code cd]:=by
 simp [Frame.enter,Frame.at,hf,hb]
end
def tr0 (fr:Frame):tryRecover fr []=none:=by unfold tryRecover;split <;>first | rfl | (rename_i h;cases h)
def trb (fr:Frame):tryRecover fr [botF]=none:=by
 unfold tryRecover;split
 · rename_i h;injection h with h1 h2;subst h1;rfl
 · rename_i h;injection h with h1 h2;subst h1;subst h2;rw [tr0];rfl
 · rfl
def trl0 (l:Nat):tryRecoverLoop l []=none:=by unfold tryRecoverLoop;rfl
def trlb (l:Nat):tryRecoverLoop l [botF]=none:=by
 unfold tryRecoverLoop;show Option.map _ (tryRecoverLoop l [])=none;rw [trl0];rfl
section
variable {P:Program} {fr fr':Frame} {ab:List Frame} {w w':World} {es e0:Array Event} {main:Bool}
def zk:Item→Bool
 | .call .. | .extern .. =>false
 | _=>true
def fdw {i:Item} (h:wk i=true):zk i=true:=by cases i <;>first | rfl | cases h
def Uni (a b:GStep):Prop:= ∀ fr' ab w' es,(∀ i∈fr'.todo,zk i=true)→a= .go (G fr' (ab++[botF])) w' es→b= .go (G fr' ab) w' es
def vm (f:Frame) (l:List Frame) (u:World) (e:Array Event):Uni (.go (G f (l++[botF])) u e) (.go (G f l) u e):=by
 intro fr' ab w' es _ h;simp only [G,GStep.go.injEq,f1j] at h;obtain ⟨⟨h1,h2,_⟩,h3,h4⟩:=h;obtain rfl:=fz2 h2;rw [h1,h3,h4]
def b7 (f:Frame) (l:List Frame) (u:World) (e:Array Event) (st:GoStatus) (b:GStep) (h:st≠ .running∨ ∃ i∈f.todo,zk i=false):Uni (.go { frame:=f,callers:=l,status:=st,dying:=none } u e) b:=by
 intro fr' ab w' es hok he;exfalso;simp only [G,GStep.go.injEq,f1j] at he;obtain ⟨⟨h1,h2,h3,_⟩,_,_⟩:=he;rcases h with h | ⟨i,hi,ho⟩
 · exact h h3
 · rw [h1] at hi;rw [hok i hi] at ho;cases ho
def fqe (f:Frame) (ah:List ByteArray) (m:String) (wh:Bool) (u:World) (b:GStep):Uni (dieOf f ah m wh u) b:=by
 intro fr' ab w' es _ h;unfold dieOf at h;simp [G] at h
def rz (o:Outcome) (u:World) (e:Array Event) (b:GStep):Uni (.ended o u e) b:=fun fr' ab w' es _ h=>by cases h
def xp {a b:GStep} (e:Array Event) (h:Uni a b):Uni (GStep.after e a) (GStep.after e b):=by
 intro fr' ab w' es hok he;cases a with
 | go g u e1=>
   simp only [GStep.after] at he;injection he with h1 h2 h3
   subst h1;subst h2;rw [h fr' ab u e1 hok rfl];simp only [GStep.after,h3]
 | _=>simp only [GStep.after] at he;cases he
def ti {f:Frame} {st:GoStatus} {u:World} {e:Array Event} (b:GStep):Uni (.go { frame:=f,callers:=[],status:=st,dying:=none } u e) b:=by
 intro fr' ab w' es _ h;simp [G] at h
def ag (v:Value) (u:World) (b:GStep):Uni (doReturn P main fr [botF] none v u) b:=by
 unfold doReturn;dsimp only;split
 · exact ti _
 · exact ti _
 · exact ti _
 · exact ti _
def fqf (g:Nat) (u:World):Uni (early P fr [botF] none g u) (early P fr [] none g u):=by
 have h0: ∀ u:World,Uni (match u.heap[g]? with
    | some (.pending c elem)=> .go { frame:=fr,callers:=[botF],status:= .running,dying:=none } { u with heap:=u.heap.setIfInBounds g (.cells c elem) }
    | _=> .ended (.stuck "early: the variable does not wait" (fr.pos P)) u) (match u.heap[g]? with
    | some (.pending c elem)=> .go { frame:=fr,callers:=[],status:= .running,dying:=none } { u with heap:=u.heap.setIfInBounds g (.cells c elem) }
    | _=> .ended (.stuck "early: the variable does not wait" (fr.pos P)) u):=fun u=>by
    split
    · exact vm _ [] _ _
    · exact rz _ _ _ _
 have h1: ∀ (f:Frame) (l:List Frame) (u:World),Uni (.go { frame:=f,callers:=l++[fr,botF],status:= .running,dying:=none } u) (.go { frame:=f,callers:=l++[fr],status:= .running,dying:=none } u):=fun f l u=>by
    have:=vm f (l++[fr]) u #[];simpa [G] using this
 unfold early;dsimp only;split
 · exact h0 u
 split
 · exact rz _ _ _ _
 split
 · exact h0 u
 split
 · exact h0 u
 split
 · exact rz _ _ _ _
 · exact h1 _ _ u
 · exact rz _ _ _ _
 · exact h0 u
 · split
   · exact h1 _ _ u
   split
   · exact h0 u
   split
   · exact h0 _
   · exact h1 _ _ _
   · exact rz _ _ _ _
def tj {s:Sem Next} (ht: ∀ i∈fr.todo,zk i=true):Uni (stepG.apply P true fr [botF] none s w) (stepG.apply P true fr [] none s w):=by
 unfold stepG.apply;simp only [f0e];generalize s.runT P w #[]=p;obtain ⟨r,e0⟩:=p;refine xp _ ?_;cases r with
 | ok x u=>
   cases x with
   | stack a b=>
     dsimp only;split
     · rename_i hh;have:=ht _ qd;cases this
     · exact b7 _ _ _ _ _ _ (.inr ⟨_,fz5,rfl⟩)
   | callThen=>
     dsimp only;split
     · rename_i hh;have:=ht _ qd;cases this
     · exact b7 _ _ _ _ _ _ (.inr ⟨_,fz5,rfl⟩)
   | row=>
     dsimp only;split
     · rename_i hh;have:=ht _ qd;cases this
     · exact b7 _ _ _ _ _ _ (.inr ⟨_,fz5,rfl⟩)
   | spawn d=>
     refine fun fr' ab w' es hok h=> ?_;exfalso
     revert h
     dsimp only;generalize (P.follows Departure.goNilFatal&&_&&_&&_)=bb;cases bb <;>intro h
     · cases h
     · unfold endThrow dieOf at h;simp [G] at h
   | sleep till=>exact b7 _ _ _ _ _ _ (.inl fi)
   | recover=>
     dsimp only;generalize fr.roundOf=ro;cases ro with
     | none=>rw [tr0,trb];exact vm _ [] _ _
     | some l=>
       dsimp only;split <;>rename_i e1 <;>split <;>rename_i e2 <;>first | (rw [trb] at e1;cases e1;done) | (rw [tr0] at e2;cases e2;done) | (split at e1 <;>first | (rw [trb] at e1;cases e1;done) | (rw [trlb] at e1;cases e1;done)) | (split at e2 <;>first | (rw [tr0] at e2;cases e2;done) | (rw [trl0] at e2;cases e2;done)) | exact vm _ [] _ _
   | enter f args=>
     dsimp only;exact vm _ [fr] _ _
   | round l f ts a b=>exact vm _ [fr] _ _
   | _ =>
     first
       | exact vm _ [] _ _
       | (intro _ _ _ _ _ h;cases h;done)
       | (split <;>exact vm _ [] _ _)
 | halt x u=>
   cases x with
   | unsupported y=>
     cases y with
     | initOrder g=>exact fqf g u
     | _=>exact rz _ _ _ _
   | blocked=>exact b7 _ _ _ _ _ _ (.inl fi)
   | waiting=>exact b7 _ _ _ _ _ _ (.inl fi)
   | fatal m=>
     refine fun fr' ab w' es hok h=> ?_;exfalso;have h:endFatal P fr [botF] none m u=_:=h;unfold endFatal at h;dsimp only at h;split at h
     · unfold dieOf at h;simp [G] at h
     · cases h
     · cases h
   | throw m=>exact fqe _ _ _ _ _ _
   | _ =>
     first
       | exact vm _ [] _ _
       | exact rz _ _ _ _
def uni_run (hm:fr.mode= .run) (ht: ∀ i∈fr.todo,zk i=true):Uni (stepG P main (G fr [botF]) w) (stepG P main (G fr []) w):=by
 have e: ∀ cs,stepG P main (G fr cs) w=stepG.exec P main true fr cs none w:=fun cs=>by
    unfold stepG G;dsimp only;rw [hm]
 rw [e,e];cases htd:fr.todo with
 | nil=>
   unfold stepG.exec;simp only [htd];cases fr.roundOf with
   | none=>exact vm _ [] _ _
   | some l=>exact xp _ jo
 | cons i k=>
   have hi:=ht i (by rw [htd];exact fz5);cases i with
   | code c=>
     cases c with
     | region id ops draw=>
       unfold stepG.exec;simp only [htd];split
       · exact vm _ [] _ _
       · split
         · exact vm _ [] _ _
         · exact rz _ _ _ _
     | cond c a b=>
       unfold stepG.exec;simp only [htd];split
       · exact vm _ [] _ _
       · exact rz _ _ _ _
     | rangeFunc f ps a b=>
       unfold stepG.exec;simp only [htd];refine xp _ ?_;split
       · refine tj fun i hi'=> ?_;rcases fy3.1 hi' with rfl | hi'
         · rfl
         · exact ht i (by rw [htd];exact f0c _ hi')
       · exact rz _ _ _ _
     | exit id=>
       unfold stepG.exec;simp only [htd];cases exitTo id k with
       | none=>
         cases fr.roundOf with
         | none=>exact rz _ _ _ _
         | some l=>exact xp _ jo
       | some k'=>exact vm _ [] _ _
     | goto id=>
       unfold stepG.exec;simp only [htd];cases gotoIn id k with
       | none=>
         cases fr.roundOf with
         | none=>exact rz _ _ _ _
         | some l=>exact xp _ jo
       | some k'=>exact vm _ [] _ _
     | refuse why=>unfold stepG.exec;simp only [htd];exact rz _ _ _ _
     | ret=>
       unfold stepG.exec;simp only [htd];cases fr.roundOf with
       | none=>exact vm _ [] _ _
       | some l=>exact xp _ jo
     | _=>unfold stepG.exec;simp only [htd];exact vm _ [] _ _
   | inRegion ops l=>
     cases l with
     | nil=>unfold stepG.exec;simp only [htd];exact vm _ [] _ _
     | cons i l=>
       unfold stepG.exec;simp only [htd];split
       · unfold stepG.oper;split
         · exact rz _ _ _ _
         · split
           · exact tj ht
           · exact tj ht
       · exact vm _ [] _ _
   | endRangeFunc l=>
     unfold stepG.exec;simp only [htd];refine xp _ ?_;split
     · exact vm _ [] _ _
     · exact vm _ [] _ _
     · exact rz _ _ _ _
   | beginRound=>unfold stepG.exec;simp only [htd];exact tj ht
   | inRangeFunc l=>unfold stepG.exec;simp only [htd];exact rz _ _ _ _
   | call=>cases hi
   | extern=>cases hi
   | _=>unfold stepG.exec;simp only [htd];exact vm _ [] _ _
def fiw (ht: ∀ i∈fr.todo,zk i=true) (d:Deferred):Uni (callDeferred P fr [botF] none d w) (callDeferred P fr [] none d w):=by
 unfold callDeferred;generalize ((d.target matches .nil)&&(fr.mode matches .panicking _))=bb;cases bb with
 | true=>exact rz _ _ _ _
 | false=>
 simp only [f0g,f0s];generalize (invoke d.target d.args).runT P w #[]=p;obtain ⟨r,e0⟩:=p;refine xp _ ?_;simp only [tr0,trb];cases r with
 | ok x u=>
   cases x with
   | callThen=>exact b7 _ _ _ _ _ _ (.inr ⟨_,fz5,rfl⟩)
   | row=>exact b7 _ _ _ _ _ _ (.inr ⟨_,fz5,rfl⟩)
   | sleep till=>exact b7 _ _ _ _ _ _ (.inl fi)
   | enter f args=>exact vm _ [fr] _ _
   | round l f ts a b=>exact vm _ [fr] _ _
   | recover=>
     dsimp only;generalize fr.mode=mm;cases mm <;>exact vm _ [] _ _
   | alone b x=>
     cases b
     · intro _ _ _ _ _ h;cases h
     · exact rz _ _ _ _
   | coroswitch c e=>
     cases e
     · exact rz _ _ _ _
     · intro _ _ _ _ _ h;cases h
   | stack=>exact rz _ _ _ _
   | newcoro=>exact rz _ _ _ _
   | timer=>exact rz _ _ _ _
   | collect=>intro _ _ _ _ _ h;cases h
   | watch=>intro _ _ _ _ _ h;cases h
   | _=>exact vm _ [] _ _
 | halt x u=>
   cases x with
   | unsupported y=>exact rz _ _ _ _
   | blocked=>exact b7 _ _ _ _ _ _ (.inl fi)
   | waiting=>exact b7 _ _ _ _ _ _ (.inl fi)
   | fatal m=>
     refine fun fr' ab w' es hok h=> ?_;exfalso;have h:endFatal P fr [botF] none m u=_:=h;unfold endFatal at h;dsimp only at h;split at h
     · unfold dieOf at h;simp [G] at h
     · cases h
     · cases h
   | throw m=>exact fqe _ _ _ _ _ _
   | _ =>
     first
       | exact vm _ [] _ _
       | exact rz _ _ _ _
def fo4 (hm:fr.mode≠ .run) (ht: ∀ i∈fr.todo,zk i=true):Uni (stepG P main (G fr [botF]) w) (stepG P main (G fr []) w):=by
 have e: ∀ cs,stepG P main (G fr cs) w=unwind P main fr cs none w:=fun cs=>by
    unfold stepG G;dsimp only;split
    · rename_i e;cases e
    · exact absurd fx4 hm
    · rfl
 rw [e,e];unfold unwind;split
 · dsimp only;refine xp _ ?_;split
   · exact vm _ [] _ _
   · exact rz _ _ _ _
 · rename_i d ds _ _;have h:=fiw (P:=P) (w:=w) (fr:={ fr with defers:=ds }) ht d;exact h
 · split
   · exact rz _ _ _ _
   · split
     · exact rz _ _ _ _
     · exact ti _
   · split
     · exact ag _ _ _
     · refine xp _ ?_;split
       · exact ag _ _ _
       · exact rz _ _ _ _
       · exact rz _ _ _ _
def fts (ht: ∀ i∈fr.todo,zk i=true):Uni (stepG P main (G fr [botF]) w) (stepG P main (G fr []) w):=by
 by_cases hm:fr.mode= .run
 · exact uni_run hm ht
 · exact fo4 hm ht
end
open Go.ConcN (sumTo upd sumTo_upd upd_ne upd_same)
structure Inv (WS:Nat→Option SeatD) (Fx:Nat→Option (Obj×Option Obj)) (Sx:Nat→Option SeatD) (H:Hide) (S:Nat→Option SeatD) (St:Nat→Loc→Prop) (Shun:Loc→Prop) (v w:World):Prop where
 rel:Rel H v w
 prot:Prot H S St Shun
 on:H.on=true
 fix: ∀ b x,Fx b=some x→H b=some x.1∧H.real b=x.2
 sus: ∀ i s,Sx i=some s→S i=some s
 only: ∀ i s,S i=some s→WS i=some s∨Sx i=some s
 marks: ∀ b cap buf cl s q,H b=some (.chan cap buf cl s q true)→0<buf.size→buf.size=1∧ ∃ j s,WS j=some s∧s.c=b∧S j=some s∧Sx j=none∧Fx b=none
 who: ∀ g l,St g l→g=0∨WS g≠none∨Sx g≠none
abbrev BelowG:=Option (Frame×List Frame×Frame)
def fkz (l1:List Frame):BelowG→List Frame
 | none=>l1
 | some (D,l2,_)=>l1++D::l2
def tq (l1 cs:List Frame):BelowG→List Frame
 | none=>l1++cs
 | some (_,_,X)=>l1++X::cs
def BotK (fr:Frame) (l1:List Frame):Prop:= ∀ y,(fr::l1).getLast? =some y→y.kind= .normal
section
variable {P:Program} {F:Array Func} {Stop:Frame→List Frame→World→Prop} {WS:Nat→Option SeatD} {Shun:Loc→Prop} {Φ:Array Goroutine→World→Trace→Prop}
def fl0 (P:Program) (F:Array Func) (Stop:Frame→List Frame→World→Prop) (WS:Nat→Option SeatD) (Shun:Loc→Prop) (Φ:Array Goroutine→World→Trace→Prop) (Fx:Nat→Option (Obj×Option Obj)) (Sx:Nat→Option SeatD) (h sz:Nat) (s:St) (dv:Value→Frame) (l2:List Frame) (xr:Value→Frame) (cs:List Frame):Prop:=
 ∀ x v' w' H' S' St' gs' T' q',Ahead (V P F) Stop s (dv x,l2,v')→Inv WS Fx Sx H' S' St' Shun v' w'→gs'.size=sz→Hold P St' Shun u5 S' h (G (xr x) cs) T' gs' w' q'→Deaf T' h=0→Leads P Φ gs' w' T'
def fwi (P:Program) (F:Array Func) (Stop:Frame→List Frame→World→Prop) (WS:Nat→Option SeatD) (Shun:Loc→Prop) (Φ:Array Goroutine→World→Trace→Prop) (Fx:Nat→Option (Obj×Option Obj)) (Sx:Nat→Option SeatD) (h sz:Nat) (s:St) (cs:List Frame):Prop:=
 ∀ fr v' w' H' S' St' gs' T' q',Desc (V P F) Stop s (fr,[],v')→Stop fr [] v'→Inv WS Fx Sx H' S' St' Shun v' w'→gs'.size=sz→Hold P St' Shun u5 S' h (G fr cs) T' gs' w' q'→Deaf T' h=0→Leads P Φ gs' w' T'
def ContX (P:Program) (F:Array Func) (Stop:Frame→List Frame→World→Prop) (WS:Nat→Option SeatD) (Shun:Loc→Prop) (Φ:Array Goroutine→World→Trace→Prop) (Fx:Nat→Option (Obj×Option Obj)) (Sx:Nat→Option SeatD) (h sz:Nat) (s:St) (cs:List Frame):BelowG→Prop
 | none=>fwi P F Stop WS Shun Φ Fx Sx h sz s cs
 | some (D,l2,X)=>fl0 P F Stop WS Shun Φ Fx Sx h sz s D.finish l2 X.finish cs
def fme (P:Program) (F:Array Func) (Stop:Frame→List Frame→World→Prop) (WS:Nat→Option SeatD) (Shun:Loc→Prop) (Φ:Array Goroutine→World→Trace→Prop) (s:St):Prop:=
 ∀ (Fx:Nat→Option (Obj×Option Obj)) (Sx:Nat→Option SeatD) (H:Hide) (S:Nat→Option SeatD) (St:Nat→Loc→Prop) (h:Nat) (l1:List Frame) (bl:BelowG) (cs:List Frame) (gs:Array Goroutine) (w:World) (T:Trace) (q:Nat→Nat),
   s.2.1=fkz l1 bl→FrOk P F s.1→(∀ f∈l1,FrOk P F f)→BotK s.1 l1→(∀ j s,WS j=some s→j<gs.size)→Lv P F Stop s→Inv WS Fx Sx H S St Shun s.2.2 w→Hold P St Shun u5 S h (G s.1 (tq l1 cs bl)) T gs w q→Deaf T h=0→
   ContX P F Stop WS Shun Φ Fx Sx h gs.size s cs bl→Leads P Φ gs w T
def fl1 (P:Program) (F:Array Func) (Stop:Frame→List Frame→World→Prop) (WS:Nat→Option SeatD) (Shun:Loc→Prop) (Φ:Array Goroutine→World→Trace→Prop) (f:FuncId) (args:Array Value) (kind:CallKind) (g:Frame) (l:List Frame) (v:World):Prop:=
 ∀ (Fx:Nat→Option (Obj×Option Obj)) (Sx:Nat→Option SeatD) (H:Hide) (S:Nat→Option SeatD) (St:Nat→Loc→Prop) (h:Nat) (X:Frame) (cs:List Frame) (gs:Array Goroutine) (w:World) (T:Trace) (q:Nat→Nat),
   kind= .normal∨kind= .deferred→(∀ j s,WS j=some s→j<gs.size)→Lv P F Stop (Frame.enter (V P F) f args kind,g::l,v)→Inv WS Fx Sx H S St Shun v w→Hold P St Shun u5 S h (G (Frame.enter P f args kind) (X::cs)) T gs w q→Deaf T h=0→
   fl0 P F Stop WS Shun Φ Fx Sx h gs.size (Frame.enter (V P F) f args kind,g::l,v) (fun x=>ur kind x g) l (fun x=>ur kind x X) cs→Leads P Φ gs w T
def tu (P:Program) (F:Array Func) (sp:Nat→Prop) (Stop:Frame→List Frame→World→Prop) (WS:Nat→Option SeatD) (Shun:Loc→Prop) (Φ:Array Goroutine→World→Trace→Prop) (s:St):Prop:=
 ∀ f args kind g l,sp f→s.1=Frame.enter (V P F) f args kind→s.2.1=g::l→fl1 P F Stop WS Shun Φ f args kind g l s.2.2
def SpecOk (P:Program) (F:Array Func) (f:FuncId):Prop:=
 ∀ (Stop:Frame→List Frame→World→Prop) (WS:Nat→Option SeatD) (Shun:Loc→Prop) (Φ:Array Goroutine→World→Trace→Prop) (args:Array Value) (kind:CallKind) (g:Frame) (l:List Frame) (v:World),
   VS P F Stop→(∀ fr l v t d,Stop fr l v→Stop fr l (reW v t d))→fl1 P F Stop WS Shun Φ f args kind g l v
def fmf (P:Program) (F:Array Func) (sp:Nat→Prop) (okW:(Nat→Option SeatD)→(Loc→Prop)→Prop) (f:FuncId):Prop:=
 ∀ (Stop:Frame→List Frame→World→Prop) (WS:Nat→Option SeatD) (Shun:Loc→Prop) (Φ:Array Goroutine→World→Trace→Prop) (args:Array Value) (kind:CallKind) (g:Frame) (l:List Frame) (v:World),
   VS P F Stop→(∀ fr l v t d,Stop fr l v→Stop fr l (reW v t d))→okW WS Shun→(∀ s',Ahead (V P F) Stop (Frame.enter (V P F) f args kind,g::l,v) s'→fme P F Stop WS Shun Φ s'∧tu P F sp Stop WS Shun Φ s')→fl1 P F Stop WS Shun Φ f args kind g l v
structure LP (P:Program) (F:Array Func) (sp:Nat→Prop) (okW:(Nat→Option SeatD)→(Loc→Prop)→Prop):Prop where
 fok:FOk P F
 nc:Nc P F
 same: ∀ f,¬ sp f→(P.funcs[f]? =F[f]? ∧ ∀ fn c,F[f]? =some fn→fn.body=some c→yb c=true)∨ ∀ args kind v,Dead (V P F) (Frame.enter (V P F) f args kind) v
 spec: ∀ f,sp f→fmf P F sp okW f
def SpecOk.ofDo {P:Program} {F:Array Func} {f:FuncId} (h:SpecOk P F f) (sp:Nat→Prop) (okW:(Nat→Option SeatD)→(Loc→Prop)→Prop):fmf P F sp okW f:=
 fun Stop WS Shun Φ args kind g l v A hR _ _=>h Stop WS Shun Φ args kind g l v A hR
def fo5 (t:Touch) (f:Frame):(t.on f).kind=f.kind:=by
 cases t with
 | fin x=>exact ay f x
 | dret=>
   simp only [Touch.on];split
   · split <;>rfl
   · rfl
 | raise ch=>exact ma f ch
def fqg {fr f:Frame} {ab l1:List Frame} (hb:BotK fr l1) (hk:ffn fr.kind (.push f ab)):BotK f (ab++l1):=by
 intro y hy;cases l1 with
 | nil=>
   have hfr:fr.kind= .normal:=hb fr rfl;rw [f4m] at hy;rcases hk with ⟨rfl,h⟩ | ⟨ab',x,rfl,h⟩
   · simp at hy;subst hy;rw [h,hfr]
   · have:(f::(ab'++[x])).getLast? =some x:=by rw [← f0j,List.getLast?_concat]
     rw [this] at hy;cases hy;rw [h,hfr]
 | cons c l1=>
   refine hb y ?_;rw [← f0j,List.getLast?_append] at hy;rw [f2f];simpa using hy
def ffp {fr e g:Frame} {l1:List Frame} (hb:BotK fr l1) (hk:g.kind=fr.kind):BotK e (g::l1):=by
 intro y hy;rw [f2f] at hy;cases l1 with
 | nil=>
   simp at hy;subst hy;rw [hk];exact hb fr rfl
 | cons c l1=>
   refine hb y ?_;rw [f2f] at hy ⊢;exact hy
def ffq {fr c0:Frame} {l1:List Frame} (t:Touch) (hb:BotK fr (c0::l1)):BotK (t.on c0) l1:=by
 intro y hy;cases l1 with
 | nil=>
   simp at hy;subst hy;rw [fo5];exact hb c0 fi
 | cons c l1=>
   refine hb y ?_;rw [f2f] at hy;rw [f2f,f2f];exact hy
def ftt {l1:List Frame} {D X:Frame} {l2:List Frame}:fkz l1 (some (D,l2,X))≠[]:=by simp [fkz]
def Hold.lead' {S:Nat→Option SeatD} {St:Nat→Loc→Prop} {h:Nat} {a:Goroutine} {gs:Array Goroutine} {w:World} {T:Trace} {q:Nat→Nat} (C:Hold P St Shun u5 S h a T gs w q) (hD:Deaf T h=0) (hrun:a.status= .running)
    (own: ∀ gs1 T q d sl,gs1.size=gs.size→Deaf T h=0→Hold P St Shun u5 S h a T gs1 (w.at d) q→ ∃ gs' w' ops,runT P (crowd gs1 (w.at d) sl) h=(.next (crowd gs' w' sl),ops)∧Leads P Φ gs' w' (T++ops)):Leads P Φ gs w T:=by
 have key: ∀ (μ:Nat) (gs1:Array Goroutine) (T:Trace) (q:Nat→Nat) (d:Nat),sumTo gs1.size q=μ→gs1.size=gs.size→Deaf T h=0→Hold P St Shun u5 S h a T gs1 (w.at d) q→Leads P Φ gs1 (w.at d) T:=by
    intro μ
    induction μ using Nat.strongRecOn with
    | _ μ ih2=>
      intro gs1 T q d hμ hsz hk C
      have hSp: ∀ x gx,x=h→gs1[x]? =some gx→gx=a:=fun x gx hx hgx=>by
        subst hx;rw [C.here] at hgx;exact (fy7 hgx).symm
      refine Leads.pick (C.crew.awake fun x gx hx hgx=> .inl kp) ⟨h,a,C.here,hrun⟩ fun i y d' sl hi hy=> ?_;have C':Hold P St Shun u5 S h a T gs1 (w.at d') q:=by have:=C.at d';exact this
      by_cases e:i=h
      · subst e;exact own gs1 T q d' sl hsz hk C'
      · obtain ⟨gs',ops,q',s1,s2,s3,s4,s5,s6,s7,_,s8⟩:=C'.crew.by_step (sl:=sl) hi e hy (fun x gx hx hgx=>by rw [hSp x gx hx hgx];exact yf hrun _)
          (fun s g₂ hs _ x gx hx hgx=>f0l kq _ _)
        refine ⟨gs',w.at d',ops,s1,ih2 (sumTo gs'.size q') (by rw [s2];omega) gs' (T++ops) q' d' rfl (by rw [s2,hsz]) pz ⟨s5,?_,?_,C'.hears,C'.none⟩⟩
        · rw [s3 h (fun e'=>e e'.symm)];exact C'.here
        · exact s8 Shun u5 h (fun hh=>hh.elim) C'.past
 exact key _ gs T q w.drawn rfl rfl hD (C.at _)
def LRes.below (R:List Frame):LRes→List Frame
 | .push _ ab=>ab++R
 | .enter _ _ _ g=>g::R
 | .touch _=>R.tail
 | .comm .. =>R
def Hold.ord' {F:Array Func} {S:Nat→Option SeatD} {St:Nat→Loc→Prop} {h:Nat} {gs:Array Goroutine} {v v' w w':World} {T:Trace} {q:Nat→Nat} {H:Hide} {fr:Frame} {R:List Frame} {r:LRes} {es:Array Event} {sl:Option (Nat×Nat)} (C:Hold P St Shun u5 S h (G fr R) T gs w q) (I:Prot H S St Shun) (rel:Rel H v w) (rel':Rel H v' w') (hsz:v.heap.size≤v'.heap.size)
    (hst:ff9 P fr w r w' es) (hn: ∀ a b c d,r≠ .comm a b c d) (hes: ∀ e∈es,EvOK H w'.heap.size e) (hR:R=[]→ ∀ t,r≠ .touch t) (hfr: ∀ i∈fr.todo,wk i=true) (hr:fgq P F r):
    ∃ gs' ops,runT P (crowd gs w sl) h=(.next (crowd gs' w' sl),ops)∧gs'.size=gs.size∧Hold P St Shun u5 S h (G (r.fr P (R.headD botF)) (r.below R)) (T++ops) gs' w' q∧Deaf (T++ops) h=Deaf T h:=by
 have hgo:stepG P (h==0) (G fr R) w= .go (G (r.fr P (R.headD botF)) (r.below R)) w' es:=by
    cases R with
    | cons c cs=>
      rw [hst];cases r with
      | comm a b d e=>exact absurd rfl (hn a b d e)
      | _=>rfl
    | nil=>
      have hu:=fts (P:=P) (main:=h==0) (w:=w) (fr:=fr) fun i hi=>fdw (hfr i hi);have h1:=hst (h==0) botF [];cases r with
      | comm a b d e=>exact absurd rfl (hn a b d e)
      | touch t=>exact absurd rfl (hR rfl t)
      | push f ab=>
        have:=hu f ab w' es (fun i hi=>fdw (hr.1.todo i hi)) h1;simpa [LRes.below,LRes.fr] using this
      | enter f args kind g=>
        refine hu (Frame.enter P f args kind) [g] w' es (fun i hi=> ?_) h1;unfold Frame.enter at hi;simp only [fy3,fz8,f0z] at hi;subst hi;rfl
 obtain ⟨gs',ops,h1,h2,h3,h4⟩:=C.own_go (sl:=sl) hgo (by rw [← rel.size,← rel'.size];exact hsz)
    (fun i s hs=>⟨fap rel rel' (I.seats i s hs).1,fun b o hb=>by rw [fap rel rel' ((I.seats i s hs).2 b o hb)];exact C.crew.keeps i s hs b o hb⟩)
    (fun e he=>fvy I (hes e he)) (fun hh=>hh.elim)
 exact ⟨gs',ops,h1,h2,h3,by rw [h4,fip hes]⟩
def Inv.step {Fx:Nat→Option (Obj×Option Obj)} {Sx:Nat→Option SeatD} {H:Hide} {S:Nat→Option SeatD} {St:Nat→Loc→Prop} {v w v' w':World} (I:Inv WS Fx Sx H S St Shun v w) (rel:Rel H v' w'):Inv WS Fx Sx H S St Shun v' w':=
 ⟨rel,I.prot,I.on,I.fix,I.sus,I.only,I.marks,I.who⟩
def bd {Fx:Nat→Option (Obj×Option Obj)} {Sx:Nat→Option SeatD} {h sz:Nat} {s s':St} {dv xr:Value→Frame} {l2 cs:List Frame} (ha:Ahead (V P F) Stop s s') (hc:fl0 P F Stop WS Shun Φ Fx Sx h sz s dv l2 xr cs):fl0 P F Stop WS Shun Φ Fx Sx h sz s' dv l2 xr cs:=
 fun x v' w' H' S' St' gs' T' q' ha'=>hc x v' w' H' S' St' gs' T' q' (ha.desc ha'.to_desc)
def fdx {Fx:Nat→Option (Obj×Option Obj)} {Sx:Nat→Option SeatD} {h sz:Nat} {s s':St} {cs:List Frame} (ha:Ahead (V P F) Stop s s') (hc:fwi P F Stop WS Shun Φ Fx Sx h sz s cs):fwi P F Stop WS Shun Φ Fx Sx h sz s' cs:=
 fun x v' w' H' S' St' gs' T' q' ha'=>hc x v' w' H' S' St' gs' T' q' (ha.to_desc.trans ha')
def lift {sp:Nat→Prop} {okW:(Nat→Option SeatD)→(Loc→Prop)→Prop} (hP:LP P F sp okW) (A:VS P F Stop) (hR: ∀ fr l v t d,Stop fr l v→Stop fr l (reW v t d)) (hW:okW WS Shun) {s:St} (hf:FinS (V P F) Stop s):
    fme P F Stop WS Shun Φ s∧tu P F sp Stop WS Shun Φ s:=by
 refine fin_ind (Ψ:=fun s=>fme P F Stop WS Shun Φ s∧tu P F sp Stop WS Shun Φ s) ?_ hf;intro s hf ih;refine ⟨?_,?_⟩;rotate_left 1
 · intro f args kind g l hsp e1 e2;obtain ⟨fr,l0,v⟩:=s;simp only at e1 e2;subst e1;subst e2;exact hP.spec f hsp Stop WS Shun Φ args kind g l v A hR hW ih
 intro Fx Sx H S St h l1 bl cs gs w T q hl okf okl1 hbot hlt L I C hD hcont;obtain ⟨fr,l,v⟩:=s;simp only at hl okf hbot L I C;by_cases hstop:Stop fr l v
 ·
   have hl0:=A.stopNil _ _ _ hstop;cases bl with
   | some y=>obtain ⟨D,l2,X⟩:=y;rw [hl] at hl0;exact absurd hl0 ftt
   | none=>
     have hl1:l1=[]:=by rw [hl] at hl0;exact hl0
     subst hl1;obtain rfl:l=[]:=hl0;exact hcont fr v w H S St gs T q (.refl _) hstop I rfl C hD
 · refine C.lead' hD rfl fun gs1 T1 q1 d sl hsz hD C1=> ?_;have rel:Rel H v (w.at d):=I.rel.re w.tape d;have okl:i5 (V P F) F l:=fun f hf'=>L.stk f (by simp [hf']);obtain ⟨r,v1,fr',l',w1,es,hst,hstk,hcalm,hres,hkind,hobj,hsize,hls,htp,rel1,hes,hshape⟩:=ftr hP.fok A.fok A.code hP.nc A.stopCalm hf hstop okf okl rel;have hn: ∀ a b c d,r≠ .comm a b c d:=by
    rintro a b c d rfl;exact hshape
   have ha:Ahead (V P F) Stop (fr,l,v) (fr',l',v1):=⟨(fr',l',v1),w.tape,d,hstop,hst,.refl _⟩;have L1:Lv P F Stop (fr',l',v1):=vn A L ha;generalize hreal:tq l1 cs bl=R at C1;have hnil:R=[]→l=[]:=fun e=>by
    subst e;rw [hl];cases bl with
    | none=>
      have:l1++cs=[]:=hreal;show l1=[];exact (List.append_eq_nil_iff.1 this).1
    | some y=>
      have:l1++y.2.2::cs=[]:=hreal;simp at this
   have hR0:R=[]→ ∀ t,r≠ .touch t:=fun e t ht=>by
    subst ht;obtain ⟨c0,h1,_⟩:=hshape;rw [hnil e] at h1;cases h1
   obtain ⟨gs',ops,e1,e2,C2,e3⟩:=C1.ord' (F:=F) (sl:=sl) I.prot rel rel1 hsize hls hn hes hR0 okf.todo hres;refine ⟨gs',w1,ops,e1,?_⟩;have I1:Inv WS Fx Sx H S St Shun v1 w1:=I.step rel1;have hD1:Deaf (T1++ops) h=0:=by rw [e3];exact hD
   have hsz1:gs'.size=gs.size:=e2.trans hsz;have hcont1:ContX P F Stop WS Shun Φ Fx Sx h gs'.size (fr',l',v1) cs bl:=by
    rw [hsz1];cases bl with
    | none=>exact fdx ha hcont
    | some y=>exact bd ha hcont
   cases r with
   | push f ab=>
     obtain ⟨rfl,rfl⟩:=hshape;have hl':ab++l=fkz (ab++l1) bl:=by
      rw [hl];cases bl with
      | none=>rfl
      | some y=>simp [fkz]
     have hr':(LRes.push fr' ab).below R=tq (ab++l1) cs bl:=by
      show ab++R=_;rw [← hreal];cases bl with
      | none=>simp [tq]
      | some y=>simp [tq]
     rw [hr'] at C2;exact (ih _ ha).1 Fx Sx H S St h (ab++l1) bl cs gs' w1 (T1++ops) q1 hl' hres.1 (fun x hx=>(fz0.1 hx).elim (hres.2 x) (okl1 x)) (fqg hbot hkind) pw L1 I1 C2 hD1 hcont1
   | enter f args kind g=>
     obtain ⟨rfl,rfl⟩:=hshape;have hr':(LRes.enter f args kind g).below R=g::tq l1 cs bl:=by
      show g::R=_;rw [← hreal]
     rw [hr'] at C2;have hl':g::l=fkz (g::l1) bl:=by
      rw [hl];cases bl with
      | none=>rfl
      | some y=>rfl
     have hrl:g::tq l1 cs bl=tq (g::l1) cs bl:=by
      cases bl with
      | none=>rfl
      | some y=>rfl
     have okl1': ∀ x∈g::l1,FrOk P F x:=fun x hx=>(fy3.1 hx).elim (fun e=>e▸hres.1) (okl1 x);by_cases hsp:sp f
     ·
       have hback: ∀ x v' w' H' S' St' gs2 T' q',Ahead (V P F) Stop (Frame.enter (V P F) f args kind,g::l,v1) (ur kind x g,l,v')→Inv WS Fx Sx H' S' St' Shun v' w'→gs2.size=gs'.size→Hold P St' Shun u5 S' h (G (ur kind x g) (tq l1 cs bl)) T' gs2 w' q'→Deaf T' h=0→Leads P Φ gs2 w' T':=by
          intro x v' w' H' S' St' gs2 T' q' ha' I' hsz' C' hD';have ha2:Ahead (V P F) Stop (fr,l,v) (ur kind x g,l,v'):=ha.desc ha'.to_desc;have okt:FrOk P F (ur kind x g):=by
           unfold ur;split
           · exact (td (t:= .fin x) trivial hres.1).1
           · exact (td (t:= .dret) trivial hres.1).1
          have hb2:BotK (ur kind x g) l1:=by
           refine ffq (fr:=fr) _ ?_;exact ffp (e:=fr) hbot hkind
          refine (ih _ ha2).1 Fx Sx H' S' St' h l1 bl cs gs2 w' T' q' hl okt okl1 hb2 (by rw [hsz',hsz1];exact hlt) (vn A L ha2) I' C' hD' ?_;rw [hsz',hsz1];cases bl with
          | none=>exact fdx ha2 hcont
          | some y=>exact bd ha2 hcont
       exact (ih _ ha).2 f args kind g l hsp rfl rfl Fx Sx H S St h g (tq l1 cs bl) gs' w1 (T1++ops) q1 hres.2 pw L1 I1 C2 hD1 hback
     · rcases hP.same f hsp with ⟨hsame,hnc⟩ | hdead
       · have henter:Frame.enter P f args kind=Frame.enter (V P F) f args kind:=by
           unfold Frame.enter;rw [hsame]
         have C3:Hold P St Shun u5 S h (G (Frame.enter (V P F) f args kind) (tq (g::l1) cs bl)) (T1++ops) gs' w1 q1:=by
           rw [← henter,← hrl];exact C2
         have oke:FrOk P F (Frame.enter (V P F) f args kind):=by
           rw [← henter];exact t9 A.code hsame args hres.2 fun _=>hnc
         exact (ih _ ha).1 Fx Sx H S St h (g::l1) bl cs gs' w1 (T1++ops) q1 hl' oke okl1' (ffp hbot hkind) pw L1 I1 C3 hD1 hcont1
       · exfalso;obtain ⟨c',cs',hcs'⟩:=fc9 (g::l);obtain ⟨o,u,es',he⟩:=hdead args kind v1 true c' cs';exact mc A L1 fi ⟨o,u,es',by rw [hcs'];exact he⟩
   | touch t=>
     obtain ⟨c0,rfl,rfl⟩:=hshape;cases l1 with
     | cons f1 l1=>
       have hc0:f1=c0∧l'=fkz l1 bl:=by
          cases bl with
          | none=>
            have:c0::l'=f1::l1:=hl;cases this;exact ⟨rfl,rfl⟩
          | some y=>
            have:c0::l'=f1::(l1++y.1::y.2.1):=hl;cases this;exact ⟨rfl,rfl⟩
       obtain ⟨rfl,hl'⟩:=hc0
       have hreal':R=f1::tq l1 cs bl:=by
          rw [← hreal];cases bl with
          | none=>rfl
          | some y=>rfl
       rw [hreal'] at C2;exact (ih _ ha).1 Fx Sx H S St h l1 bl cs gs' w1 (T1++ops) q1 hl' (td hres (okl1 f1 fi)).1 (fun x hx=>okl1 x (by simp [hx])) (ffq t hbot) pw L1 I1 C2 hD1 hcont1
     | nil=>
       have hk:fr.kind= .normal:=hbot fr rfl;cases bl with
       | none=>
         have:c0::l'=[]:=hl;cases this
       | some y=>
         obtain ⟨D,l2,X⟩:=y;have:c0::l'=D::l2:=hl;cases this;have:X::cs=R:=hreal;subst this;cases t with
         | fin x=>exact hcont x v1 w1 H S St gs' (T1++ops) q1 ha I1 hsz1 C2 hD1
         | dret=>exact absurd hk hkind
         | raise ch=>cases hcalm
   | comm a b c d=>exact absurd rfl (hn a b c d)
end
end Go.Proofs.YtelecjnabeokeaaGreatDoor
namespace Go.Proofs.YtelecjnabeokeaaGreatDoor
open Go Go.Conc
open Go.ConcN (sumTo upd sumTo_upd upd_ne upd_same RelBy)
abbrev rdE (a:Addr):Event:=⟨.cell a,false,true⟩
abbrev wrE (a:Addr):Event:=⟨.cell a,true,true⟩
abbrev mkE (m:Mark):Event:=⟨.mark m,false,true⟩
abbrev K32:Int:=4294967296
abbrev stC (b:Nat):Addr:=⟨b,6,none⟩
abbrev smC (b:Nat):Addr:=⟨b,7,none⟩
def HasS (b:Nat) (w:World):Prop:= ∃ c e,w.heap[b]? =some (.cells c e (0,0))∧c.size=8
def wgw (b:Nat) (w:World) (x y:Int):World:={ w with heap:=w.heap.modify b fun
 | .cells c e f=> .cells ((c.setIfInBounds 6 (.int .u64 x)).setIfInBounds 7 (.int .u32 y)) e f
 | o=>o }
structure CellsAt (b:Nat) (u:World) (x y:Int):Prop where
 st:u.cell? (stC b)=some (.int .u64 x)
 sm:u.cell? (smC b)=some (.int .u32 y)
 fst:u.frozen? (stC b)=false
 fsm:u.frozen? (smC b)=false
def WgLv (b:Nat) (u:World):Prop:= ∃ x y,CellsAt b u x y
section
variable {b b':Nat} {w:World} {x y x' y':Int}
def yz (h:b'≠b):(wgw b w x y).heap[b']? =w.heap[b']? :=by
 unfold wgw;simp only [fy6];rw [fx9 fun e=>h e.symm]
def fgx:(wgw b w x y).heap.size=w.heap.size:=by unfold wgw;simp
def fqh {c:Array Value} {e:TypeId} (h:w.heap[b]? =some (.cells c e (0,0))):(wgw b w x y).heap[b]? =some (.cells ((c.setIfInBounds 6 (.int .u64 x)).setIfInBounds 7 (.int .u32 y)) e (0,0)):=by
 unfold wgw;simp only [fy6,f0e,h,fz3]
def wo (h:HasS b w):CellsAt b (wgw b w x y) x y:=by
 obtain ⟨c,e,h,hc⟩:=h;have hb:=fqh (x:=x) (y:=y) h;refine ⟨?_,?_,?_,?_⟩
 · simp [World.cell?,hb,hc]
 · simp [World.cell?,hb,hc]
 · simp [World.frozen?,hb]
 · simp [World.frozen?,hb]
def fdy (h:HasS b w):(wgw b w x y).setCell (stC b) (.int .u64 x')=wgw b w x' y:=by
 obtain ⟨c,e,h,hc⟩:=h;unfold World.setCell wgw;simp only [f5a,f2i,true_and];apply f0v;intro i;simp only [fy6];by_cases e:b=i
 · subst e;simp only [f0e,h,fz3,f03,Obj.cells.injEq,f2i];rw [fx9 fi];apply f0v;intro j;simp only [fy1,f00,hc];by_cases e1:6=j
   · subst e1;simp
   · by_cases e2:7=j
     · subst e2;simp
     · simp [e1,e2]
 · simp only [fx9 e]
def fiy (h:HasS b w):(wgw b w x y).setCell (smC b) (.int .u32 y')=wgw b w x y':=by
 obtain ⟨c,e,h,hc⟩:=h;unfold World.setCell wgw;simp only [f5a,f2i,true_and];apply f0v;intro i;simp only [fy6];by_cases e:b=i
 · subst e;simp only [f0e,h,fz3,f03,Obj.cells.injEq,f2i];rw [fx9 fi];apply f0v;intro j;simp only [fy1,f00,hc];by_cases e1:6=j
   · subst e1;simp
   · by_cases e2:7=j
     · subst e2;simp
     · simp [e1,e2]
 · simp only [fx9 e]
def ftu (h:HasS b w) (hc:CellsAt b w x y):wgw b w x y=w:=by
 obtain ⟨c,e,h,hs⟩:=h;have h1:=hc.st;have h2:=hc.sm;simp only [World.cell?,h] at h1 h2;rw [fx9 fi] at h1 h2;unfold wgw;have: ∀ w':World,w'.heap=w.heap→w'.tape=w.tape→w'.drawn=w.drawn→w'.os=w.os→w'.output=w.output→w'=w:=fun w' a b c d e=>by cases w';cases w;simp_all
 refine this _ ?_ rfl rfl rfl rfl;apply f0v;intro i;simp only [fy6];by_cases e:b=i
 · subst e;simp only [f0e,h,fz3,f03,Obj.cells.injEq,f2i];apply f0v;intro j;simp only [fy1,f00];by_cases e1:7=j
   · subst e1;rw [h2];simp [hs]
   · by_cases e2:6=j
     · subst e2;rw [h1];simp [hs]
     · simp [e1,e2]
 · simp only [fx9 e]
def fbn (d:Nat):(wgw b w x y).at d=wgw b (w.at d) x y:=rfl
def CellsAt.at {u:World} (h:CellsAt b u x y) (d:Nat):CellsAt b (u.at d) x y:=⟨h.st,h.sm,h.fst,h.fsm⟩
def CellsAt.lv {u:World} (h:CellsAt b u x y):WgLv b u:=⟨x,y,h⟩
end
def WB (P:Program) (K:World→Prop) (Φ:Goroutine→Nat→Prop):Nat→Goroutine→Nat→Prop
 | 0,g,d=>Φ g d
 | n+1,g,d=>Φ g d∨(g.status= .running∧ ∃ g' es,(∀ e∈es,Event.mute e=true)∧(∀ u,K u→stepG P false g u= .go g' u es)∧WB P K Φ n g' (deafBehind d es))
section
variable (P:Program) (b:Nat)
def AtSm (g:Goroutine) (d:Nat):Prop:=g.status= .running∧1≤d∧mayWake P g=true∧ ∃ g',(∀ u,CellsAt b u 0 0→stepG P false g u= .go g' (u.setCell (smC b) (.int .u32 1)) (semEvents (smC b)))∧ ∃ q,QuitsD P q d g'
def AtSt (g:Goroutine) (d:Nat):Prop:=g.status= .running∧1≤d∧ ∃ g',(∀ u y,CellsAt b u 1 y→stepG P false g u= .go g' (u.setCell (stC b) (.int .u64 0)) #[wrE (stC b)])∧ ∃ m,WB P (WgLv b) (AtSm P b) m g' d
def AtLd (g:Goroutine) (d:Nat):Prop:=g.status= .running∧1≤d∧ ∃ g',(∀ u y,CellsAt b u 1 y→stepG P false g u= .go g' u #[rdE (stC b)])∧ ∃ m,WB P (WgLv b) (AtSt P b) m g' d
def fwj (g:Goroutine) (d:Nat):Prop:=g.status= .running∧1≤d∧ ∀ v wt:Nat,wt≤1→v<2147483647→ ∃ g',(∀ u y,CellsAt b u ((v+1:Nat)*K32+wt) y→stepG P false g u= .go g' (u.setCell (stC b) (.int .u64 ((v:Nat)*K32+wt))) #[rdE (stC b),wrE (stC b)])∧
 (¬ (v=0∧wt=1)→ ∃ q,QuitsD P q d g')∧((v=0∧wt=1)→ ∃ m,WB P (WgLv b) (AtLd P b) m g' d)
def AtRel (g:Goroutine) (d:Nat):Prop:=g.status= .running∧d=0∧ ∃ g',(∀ u,WgLv b u→stepG P false g u= .go g' u #[mkE (.releaseMerge (stC b))])∧ ∃ m,WB P (WgLv b) (fwj P b) m g' 0
end
section
variable (P:Program) (b:Nat) (Shun:Loc→Prop) (St:Nat→Loc→Prop) (S:Nat→Option SeatD)
def EvM (n:Nat) (e:Event):Prop:=(∀ x,(MemAct.ofEvent e).touch? =some x→(Shun x.loc∧x.kind≠ .plain)∨((∀ g,St g x.loc→x.write=false)∧ ¬ Shun x.loc))∧(∀ a,e.loc≠ .mark (.release a))∧(MemAct.ofEvent e).low n
structure StepM (w w':World):Prop where
 size:w.heap.size≤w'.heap.size
 seats: ∀ i s,S i=some s→w'.heap[s.c]? =w.heap[s.c]? ∧ ∀ c o,s.D c=some o→w'.heap[c]? =w.heap[c]?
 has:HasS b w→HasS b w'
def OM (Φ:Goroutine→World→Nat→Prop):Nat→Goroutine→World→Nat→Prop
 | 0,g,w,d=>Φ g w d
 | n+1,g,w,d=>Φ g w d∨(g.status= .running∧ ∃ g' w' es,(∀ x y t,stepG P true g ((wgw b w x y).at t)= .go g' ((wgw b w' x y).at t) es)∧StepM b S w w'∧(∀ e∈es,EvM Shun St w'.heap.size e)∧OM Φ n g' w' (deafBehind d es))
variable (Fin Anch:Goroutine→World→Nat→Prop)
def AtW4 (g:Goroutine) (w:World) (d:Nat):Prop:=g.status= .running∧ ∃ g',(∀ t,stepG P true g ((wgw b w 0 0).at t)= .go g' ((wgw b w 0 0).at t) #[rdE (stC b)])∧ ∃ n,OM P b Shun St S Fin n g' w d
def AtW3 (g:Goroutine) (w:World) (d:Nat):Prop:=g.status= .running∧g.offers=none∧(∀ x t,stepG P true g ((wgw b w x 0).at t)= .go { g with status:= .blocked } ((wgw b w x 0).at t) #[])∧
 ∃ g',(∀ t,stepG P true g ((wgw b w 0 1).at t)= .go g' ((wgw b w 0 0).at t) (semEvents (smC b)))∧ ∃ n,OM P b Shun St S (AtW4 P b Shun St S Fin) n g' w d
def AtW2 (vs:Nat) (g:Goroutine) (w:World) (d:Nat):Prop:=g.status= .running∧(∃ g',(∀ t,stepG P true g ((wgw b w (vs*K32) 0).at t)= .go g' ((wgw b w (vs*K32+1) 0).at t) #[rdE (stC b),wrE (stC b)])∧ ∃ n,OM P b Shun St S (AtW3 P b Shun St S Fin) n g' w d)∧
 ∀ v:Nat,v≠vs→v<2147483648→ ∃ g',(∀ t,stepG P true g ((wgw b w (v*K32) 0).at t)= .go g' ((wgw b w (v*K32) 0).at t) #[rdE (stC b)])∧Anch g' w d
def AtW1 (g:Goroutine) (w:World) (d:Nat):Prop:=g.status= .running∧ ∀ v:Nat,v<2147483648→ ∃ g',(∀ t,stepG P true g ((wgw b w (v*K32) 0).at t)= .go g' ((wgw b w (v*K32) 0).at t) #[rdE (stC b)])∧
 (v=0→ ∃ n,OM P b Shun St S Fin n g' w d)∧(v≠0→ ∃ n,OM P b Shun St S (AtW2 P b Shun St S Fin Anch v) n g' w d)
end
section
variable {P:Program} {K:World→Prop} {Φ:Goroutine→Nat→Prop} {n d:Nat} {g:Goroutine}
def WB.status (hΦ: ∀ g d,Φ g d→g.status= .running) (h:WB P K Φ n g d):g.status= .running:=by
 cases n with
 | zero=>exact hΦ _ _ h
 | succ n=>exact h.elim (hΦ _ _) (·.1)
end
section
variable (P:Program) (b:Nat) (Shun:Loc→Prop) (St:Nat→Loc→Prop) (Wk:Nat→Prop) (k0:Nat)
def RelD (T:Trace) (i:Nat):Prop:=Wk i→ ∃ r,k0≤r∧RelBy (stC b) T i r
def WaySt (s:SeatD) (i n:Nat) (g:Goroutine):Prop:=
 (∃ k w0,n=k+1∧Goes P false (RK (Keeps s.D)) (DS (St i) s.B) (fun g _=> ∃ g₂,AtIn P false (Keeps s.D) (St i) s.B s.seat g g₂) k g w0)∨
    (n=0∧ ∃ g0 g2,g={ parked g2 s.seat.cases s.seat.shape with status:= .running }∧AtIn P false (Keeps s.D) (St i) s.B s.seat g0 g2)
inductive Byw (i:Nat) (T:Trace) (w:World) (g:Goroutine):Nat→Nat→Option SeatD→Prop
 | sit {n k:Nat} {s:SeatD}:Sits P false (Keeps s.D) (St i) s.B s.seat n g→w.heap[s.c]? =some (.chan 0 #[] false k k false)→Deaf T i=0→Byw i T w g 8 n (some s)
 | way {n k:Nat} {s:SeatD}:WaySt P St s i n g→w.heap[s.c]? =some (.chan 0 #[] true k k false)→Deaf T i=0→Shut Shun T s.c→Byw i T w g 7 n (some s)
 | on {n:Nat}:KnP Shun T i→WB P (WgLv b) (AtRel P b) n g (Deaf T i)→Byw i T w g 6 n none
 | add {n:Nat}:KnP Shun T i→RelD b Wk k0 T i→WB P (WgLv b) (fwj P b) n g (Deaf T i)→Byw i T w g 5 n none
 | ld {n:Nat}:KnP Shun T i→RelD b Wk k0 T i→WB P (WgLv b) (AtLd P b) n g (Deaf T i)→Byw i T w g 4 n none
 | st {n:Nat}:KnP Shun T i→RelD b Wk k0 T i→WB P (WgLv b) (AtSt P b) n g (Deaf T i)→Byw i T w g 3 n none
 | sm {n:Nat}:KnP Shun T i→RelD b Wk k0 T i→WB P (WgLv b) (AtSm P b) n g (Deaf T i)→Byw i T w g 2 n none
 | out {n:Nat}:RelD b Wk k0 T i→QuitsD P n (Deaf T i) g→Byw i T w g 1 n none
structure Bye (S:Nat→Option SeatD) (R q:Nat→Nat) (a:Goroutine) (T:Trace) (gs:Array Goroutine) (w:World):Prop where
 each: ∀ i g,i≠0→gs[i]? =some g→Byw P b Shun St Wk k0 i T w g (R i) (q i) (S i)
 here:gs[0]? =some a
 past:PastS St Shun u5 w.heap.size 0 T
 rows: ∀ i s c o,S i=some s→s.D c=some o→ ∃ x e f,o= .cells x e f
 keeps: ∀ i s,S i=some s→Keeps s.D w
 apart: ∀ i s,S i=some s→s.D b=none∧s.c≠b
 inj: ∀ i i' s s',S i=some s→S i'=some s'→s.c=s'.c→i=i'
 low: ∀ i s,S i=some s→s.B≤w.heap.size∧s.c<w.heap.size
 above: ∀ j,gs.size≤j→Deaf T j=0
 has:HasS b w
 shun:Shun (.cell (stC b))∧Shun (.cell (smC b))
 norel: ∀ k,k0≤k→T.act? k≠some (.mark (.release (stC b)))
 k0le:k0≤T.size
 after: ∀ i s,S i=some s→ ∀ g2,s.home g2→ ∃ m,WB P (WgLv b) (AtRel P b) m (Go.Conc.served g2 (recvd s.ok s.z false)) 0
 zero:S 0=none∧R 0=0
end
section
variable {P:Program} {b:Nat} {Shun:Loc→Prop} {St:Nat→Loc→Prop} {Wk:Nat→Prop} {k0:Nat} {S:Nat→Option SeatD} {R q:Nat→Nat} {a:Goroutine} {T:Trace} {gs:Array Goroutine} {w:World} {x y x' y':Int}
def tz: ∀ g d,AtRel P b g d→g.status= .running:=fun _ _ h=>h.1
def fa0: ∀ g d,fwj P b g d→g.status= .running:=fun _ _ h=>h.1
def fca: ∀ g d,AtLd P b g d→g.status= .running:=fun _ _ h=>h.1
def fcb: ∀ g d,AtSt P b g d→g.status= .running:=fun _ _ h=>h.1
def fcc: ∀ g d,AtSm P b g d→g.status= .running:=fun _ _ h=>h.1
def Byw.again {i r n:Nat} {os:Option SeatD} {g:Goroutine} {u:World} (h:Byw P b Shun St Wk k0 i T w g r n os) (hk: ∀ s,os=some s→Keeps s.D u∧u.heap[s.c]? =w.heap[s.c]?):g.again u=g:=by
 cases h with
 | sit h1 h2 _=>
   refine Sits.again (hk _ rfl).1 h1 (Seat.one_wf _ _ _ _) fun c hc=> ?_;rw [SeatD.has hc,(hk _ rfl).2];exact ⟨_,_,_,_,_,h2⟩
 | way h1 _ _ _=>
   rcases h1 with ⟨k,w0,rfl,hg⟩ | ⟨_,g0,g2,rfl,_⟩
   · exact f1i (.inl ((f3b (hk _ rfl).1 (.inl ⟨k,w0,rfl,hg⟩)).elim (·.1) fun x=>by omega)) u
   · exact f1i (.inl rfl) u
 | on _ h=>exact f1i (.inl (h.status tz)) u
 | add _ _ h=>exact f1i (.inl (h.status fa0)) u
 | ld _ _ h=>exact f1i (.inl (h.status fca)) u
 | st _ _ h=>exact f1i (.inl (h.status fcb)) u
 | sm _ _ h=>exact f1i (.inl (h.status fcc)) u
 | out _ h=>exact f1i h.status u
def Byw.other {i j r n:Nat} {os:Option SeatD} {g:Goroutine} {ops:Trace} (h:Byw P b Shun St Wk k0 i T w g r n os) (hij:j≠i) (hops: ∀ op∈ops,op.g=j) (hpl: ∀ op∈ops,∀ t,op.act.touch? =some t→Shun t.loc→t.kind≠ .plain):
    Byw P b Shun St Wk k0 i (T++ops) w g r n os:=by
 have hD:Deaf (T++ops) i=Deaf T i:=f1g T hij ops hops
 have hR:RelD b Wk k0 T i→RelD b Wk k0 (T++ops) i:=fun h hw=>by
    obtain ⟨r,h1,h2⟩:=h hw;exact ⟨r,h1,h2.appOther hops hij⟩
 cases h with
 | sit h1 h2 h3=>exact .sit h1 h2 (hD.trans h3)
 | way h1 h2 h3 h4=>exact .way h1 h2 (hD.trans h3) (h4.app hpl)
 | on h1 h2=>exact .on (h1.app hpl) (by rw [hD];exact h2)
 | add h1 h2 h3=>exact .add (h1.app hpl) (hR h2) qh
 | ld h1 h2 h3=>exact .ld (h1.app hpl) (hR h2) qh
 | st h1 h2 h3=>exact .st (h1.app hpl) (hR h2) qh
 | sm h1 h2 h3=>exact .sm (h1.app hpl) (hR h2) qh
 | out h2 h3=>exact .out (hR h2) qh
def fa1 {ops:Trace} (h: ∀ k,k0≤k→T.act? k≠some (.mark (.release (stC b)))) (hu: ∀ op∈ops,op.act≠ .mark (.release (stC b))): ∀ k,k0≤k→(T++ops).act? k≠some (.mark (.release (stC b))):=by
 intro k hk e;obtain ⟨op,ho,e2⟩:=fy8.1 e;rcases f07 ho with ⟨_,h1⟩ | ⟨_,h1⟩
 · exact h k hk (by rw [act?_of h1,e2])
 · exact hu op h1 e2
def Woke (a a':Goroutine):Prop:=a'=a∨(a.status= .blocked∧a'={ a with status:= .running })
def woke_of {P:Program} {g g' a:Goroutine} {u:World} (h:a.status= .running∨(a.status= .blocked∧a.offers=none)):Woke a (woken P g g' u a):=by
 unfold woken;split
 · rcases h with h | ⟨h1,h2⟩
   · exact .inl (f1i (.inl h) u)
   · refine .inr ⟨h1,?_⟩;unfold Goroutine.again;rw [h1,h2]
 · exact .inl rfl
def Bye.put (C:Bye P b Shun St Wk k0 S R q a T gs w) {i r' n':Nat} {g g':Goroutine} {es:Array Event} {d:Nat} {sl:Option (Nat×Nat)} {os':Option SeatD} (ha:a.status= .running∨(a.status= .blocked∧a.offers=none)) (hi:gs[i]? =some g) (hi0:i≠0)
    (hst:stepG P false g ((wgw b w x y).at d)= .go g' ((wgw b w x' y').at d) es) (hos:os'=S i∨os'=none)
    (hby:Byw P b Shun St Wk k0 i (T++MemOp.ofEvents i g.frame.fn g.frame.place es) w g' r' n' os')
    (hpast:PastS St Shun u5 w.heap.size 0 (T++MemOp.ofEvents i g.frame.fn g.frame.place es)) (hpl: ∀ op∈MemOp.ofEvents i g.frame.fn g.frame.place es,∀ t,op.act.touch? =some t→Shun t.loc→t.kind≠ .plain) (hnr: ∀ op∈MemOp.ofEvents i g.frame.fn g.frame.place es,op.act≠ .mark (.release (stC b))):
    ∃ gs' a',runT P (crowd gs ((wgw b w x y).at d) sl) i=(.next (crowd gs' ((wgw b w x' y').at d) sl),MemOp.ofEvents i g.frame.fn g.frame.place es)∧gs'.size=gs.size∧Woke a a'∧(mayWake P g=true→g'.status= .running∨g'.status= .finished→a'.status= .running)∧
      Bye P b Shun St Wk k0 (upd S i os') (upd R i r') (upd q i n') a' (T++MemOp.ofEvents i g.frame.fn g.frame.place es) gs' w:=by
 have hlt:i<gs.size:=(fx5.1 hi).1;have hi0':(i==0)=false:=by simp [hi0]
 have hops: ∀ op∈MemOp.ofEvents i g.frame.fn g.frame.place es,op.g=i:=fun op hop=>by obtain ⟨e,_,rfl⟩:=fz7 hop;rfl
 have hS: ∀ j s,upd S i os' j=some s→S j=some s:=fun j s e=>by
    by_cases h:j=i
    · subst h;rw [f0b] at e;rcases hos with h | h
      · rw [← h];exact e
      · rw [h] at e;cases e
    · rw [f0p S _ h] at e;exact e
 refine ⟨_,woken P g g' ((wgw b w x' y').at d) a,f5t (sl:=sl) hi (by rw [hi0'];exact hst),by simp,woke_of ha,fun h1 h2=> ?_,?_⟩
 · unfold woken;rw [f02 (by rcases h2 with h2 | h2 <;>rw [h1,h2] <;>rfl)];rcases ha with ha | ⟨e1,e2⟩
   · rw [f1i (.inl ha)];exact ha
   · unfold Goroutine.again;rw [e1,e2]
 · refine ⟨fun j y hj hy=> ?_,?_,hpast,fun j s c o e=>C.rows j s c o (hS j s e),fun j s e=>C.keeps j s (hS j s e),fun j s e=>C.apart j s (hS j s e),fun j j' s s' e e'=>C.inj j j' s s' (hS j s e) (hS j' s' e'),fun j s e=>C.low j s (hS j s e),fun j hj=> ?_,C.has,C.shun,fa1 C.norel hnr,?_,fun j s e=>C.after j s (hS j s e),?_⟩
   · by_cases e:j=i
     · subst e;rw [fy5 qj] at hy;obtain rfl:=fy7 hy;rw [f0b,f0b,f0b];exact hby
     · rw [fy4 (fun x=>e x.symm),f2c] at hy;obtain ⟨y0,hy0,rfl⟩:=fy8.1 hy;have h0:=C.each j y0 hj hy0;rw [f5m (h0.again fun s hs=>⟨fun c o hc=> ?_,?_⟩),f0p S _ e,f0p R _ e,f0p q _ e]
       · exact h0.other (fun x=>e x.symm) hops hpl
       · have hne:c≠b:=fun z=>by subst z;rw [(C.apart j s hs).1] at hc;cases hc
         show (wgw b w x' y').heap[c]? =_;rw [yz hne];exact C.keeps j s hs c o hc
       · show (wgw b w x' y').heap[s.c]? =_;exact yz (C.apart j s hs).2
   · rw [fy4 hi0,f2c,C.here];rfl
   · simp only [f00,Array.size_map] at hj;rw [f1g T (g':=i) fe _ hops];exact C.above j hj
   · rw [f5v];exact f4s C.k0le
   · rw [f0p S _ (fun e=>hi0 e.symm),f0p R _ (fun e=>hi0 e.symm)];exact C.zero
end
end Go.Proofs.YtelecjnabeokeaaGreatDoor
namespace Go.Proofs.YtelecjnabeokeaaGreatDoor
open Go Go.Conc
open Go.ConcN (sumTo upd sumTo_upd upd_ne upd_same RelBy le_sumTo)
def cntR (r:Nat):Nat:=if 5≤r then 1 else 0
def VC (n:Nat) (R:Nat→Nat):Nat:=sumTo n fun i=>cntR (R i)
inductive Md (n:Nat) (R:Nat→Nat):Bool→Int→Int→Prop
 | opn:(∀ i,i<n→R i≤1∨5≤R i)→Md n R false ((VC n R:Nat)*K32) 0
 | reg:(∀ i,i<n→R i≤1∨5≤R i)→1≤VC n R→Md n R true ((VC n R:Nat)*K32+1) 0
 | last (L:Nat):L<n→(R L=4∨R L=3∨R L=2)→(∀ i,i<n→i≠L→R i≤1)→Md n R true (if R L=2 then 0 else 1) 0
 | sema:(∀ i,i<n→R i≤1)→Md n R true 0 1
section
variable {n:Nat} {R:Nat→Nat}
def ffr {i r:Nat} (hi:i<n):VC n (upd R i r)+cntR (R i)=VC n R+cntR r:=by
 have:=f1f R r cntR hi;simpa [VC] using this
def ftv {i r:Nat} (hi:i<n):sumTo n (upd R i r)+R i=sumTo n R+r:=by
 have:=f1f R r id hi;simpa using this
def i6 (h: ∀ i,i<n→R i<5):VC n R=0:=by
 unfold VC
 have: ∀ m,m≤n→sumTo m (fun i=>cntR (R i))=0:=fun m=>by
    induction m with
    | zero=>intro _;rfl
    | succ m ih=>
      intro hm;show sumTo m _+cntR (R m)=0;rw [ih fe];unfold cntR;rw [fx9 (by have:=h m fe;omega)]
 exact this n (fx8 _)
def fvz {i:Nat} (hi:i<n) (h:5≤R i):1≤VC n R:=by
 have:=le_sumTo (f:=fun i=>cntR (R i)) hi;unfold VC;simp only [cntR,f02 h] at this ⊢;exact this
def fqi (h:VC n R=0) {i:Nat} (hi:i<n):R i<5:=by
 rcases f01 (R i) 5 with h1 | h1
 · exact h1
 · have:=fvz hi h1;omega
def fdz {i r m:Nat} (h: ∀ j,j<n→R j≤1∨5≤R j) (hr:r≤1∨5≤r): ∀ j,j<n→upd R i r j≤1∨5≤upd R i r j:=fun j hj=>by
 by_cases e:j=i
 · subst e;rw [f0b];exact hr
 · rw [f0p R _ e];exact h j hj
end
section
variable {P:Program} {b:Nat} {Shun:Loc→Prop} {St:Nat→Loc→Prop} {Wk:Nat→Prop} {k0:Nat} {S:Nat→Option SeatD} {R q:Nat→Nat} {a:Goroutine} {T:Trace} {gs:Array Goroutine} {w:World} {x y x' y':Int}
def Byw.noSend {i r n:Nat} {os:Option SeatD} {g:Goroutine} (h:Byw P b Shun St Wk k0 i T w g r n os) (hk: ∀ s,os=some s→Keeps s.D w) (c:Nat):offersAt g c true=[]:=by
 have hn:g.status≠ .blocked→offersAt g c true=[]:=fun h=>f0l h c true;cases h with
 | sit h1 _ _=>
   rcases h1 with ⟨k,w₀,hq,hg⟩ | ⟨_,_,g₂,rfl,_⟩
   · have:=(f3b (hk _ rfl) (.inl ⟨k,w₀,hq,hg⟩)).elim (·.1) (fun z=>by omega);exact hn (by rw [this];simp)
   · exact offersAt_parked_recv' _ _ _ _ _
 | way h1 _ _ _=>
   rcases h1 with ⟨k,w0,rfl,hg⟩ | ⟨_,g0,g2,rfl,_⟩
   · have:=(f3b (hk _ rfl) (.inl ⟨k,w0,rfl,hg⟩)).elim (·.1) (fun z=>by omega);exact hn (by rw [this];simp)
   · exact hn fi
 | on _ h=>exact hn (by rw [h.status tz];simp)
 | add _ _ h=>exact hn (by rw [h.status fa0];simp)
 | ld _ _ h=>exact hn (by rw [h.status fca];simp)
 | st _ _ h=>exact hn (by rw [h.status fcb];simp)
 | sm _ _ h=>exact hn (by rw [h.status fcc];simp)
 | out _ h=>exact hn (by rcases h.status with e | e <;>rw [e] <;>simp)
def Bye.noSend (C:Bye P b Shun St Wk k0 S R q a T gs w) (ha:a.status= .running∨(a.status= .blocked∧a.offers=none)) (i c:Nat):partners (gs.setIfInBounds i ph) c true=[]:=by
 refine partners_nil fun x y hy=> ?_;rcases getElem?_stand gs i x y hy with ⟨_,rfl⟩ | ⟨hx,hy'⟩
 · exact offersAt_ph _ _
 · by_cases e:x=0
   · subst e;rw [C.here] at hy';obtain rfl:=fy7 hy';rcases ha with h | ⟨h1,h2⟩
     · exact f0l (by rw [h];simp) _ _
     · unfold offersAt;rw [h1,h2]
   · exact (C.each x y e hy').noSend (fun s hs=>C.keeps x s hs) c
def Bye.set (C:Bye P b Shun St Wk k0 S R q a T gs w) {i r' n':Nat} {g':Goroutine} {ops:Trace} {os':Option SeatD} (hlt:i<gs.size) (hi0:i≠0) (hos:os'=S i∨os'=none) (hops: ∀ op∈ops,op.g=i)
    (hby:Byw P b Shun St Wk k0 i (T++ops) w g' r' n' os') (hpast:PastS St Shun u5 w.heap.size 0 (T++ops)) (hpl: ∀ op∈ops,∀ t,op.act.touch? =some t→Shun t.loc→t.kind≠ .plain) (hnr: ∀ op∈ops,op.act≠ .mark (.release (stC b))):
    Bye P b Shun St Wk k0 (upd S i os') (upd R i r') (upd q i n') a (T++ops) (gs.setIfInBounds i g') w:=by
 have hS: ∀ j s,upd S i os' j=some s→S j=some s:=fun j s e=>by
    by_cases h:j=i
    · subst h;rw [f0b] at e;rcases hos with h | h
      · rw [← h];exact e
      · rw [h] at e;cases e
    · rw [f0p S _ h] at e;exact e
 refine ⟨fun j y hj hy=> ?_,?_,hpast,fun j s c o e=>C.rows j s c o (hS j s e),fun j s e=>C.keeps j s (hS j s e),fun j s e=>C.apart j s (hS j s e),fun j j' s s' e e'=>C.inj j j' s s' (hS j s e) (hS j' s' e'),fun j s e=>C.low j s (hS j s e),fun j hj=> ?_,C.has,C.shun,fa1 C.norel hnr,?_,fun j s e=>C.after j s (hS j s e),?_⟩
 · by_cases e:j=i
   · subst e;rw [fy5 hlt] at hy;obtain rfl:=fy7 hy;rw [f0b,f0b,f0b];exact hby
   · rw [fy4 (fun x=>e x.symm)] at hy;rw [f0p S _ e,f0p R _ e,f0p q _ e];exact (C.each j y hj hy).other (fun x=>e x.symm) hops hpl
 · rw [fy4 hi0];exact C.here
 · simp only [f00] at hj;rw [f1g T (g':=i) fe _ hops];exact C.above j hj
 · rw [f5v];exact f4s C.k0le
 · rw [f0p S _ (fun e=>hi0 e.symm),f0p R _ (fun e=>hi0 e.symm)];exact C.zero
def ftw {i:Nat} {fn:FuncId} {pos:String} {es:Array Event} (hm: ∀ e∈es,Event.mute e=true):(∀ op∈MemOp.ofEvents i fn pos es,op.g=i)∧(∀ op∈MemOp.ofEvents i fn pos es,op.act.touch? =none)∧(∀ op∈MemOp.ofEvents i fn pos es,∀ c,op.act≠ .mark (.release c))∧ ∀ B,∀ op∈MemOp.ofEvents i fn pos es,op.act.low B:=by
 refine ⟨fun op hop=> ?_,fun op hop=> ?_,fun op hop c=> ?_,fun B op hop=> ?_⟩
 · obtain ⟨e,_,rfl⟩:=fz7 hop;rfl
 · obtain ⟨e,he,rfl⟩:=fz7 hop;exact touch_mute (hm e he)
 · obtain ⟨e,he,rfl⟩:=fz7 hop;have:=hm e he;obtain ⟨l,wr,sy⟩:=e;cases l with
   | mark m=>cases m <;>first | (cases this;done) | (intro h;cases h)
   | _=>cases this
 · obtain ⟨e,he,rfl⟩:=fz7 hop;exact low_mute (hm e he) _
def AtmE (b d:Nat) (es:Array Event):Prop:= ∀ j e,es[j]? =some e→((MemAct.ofEvent e).touch? =none∧(∀ B,(MemAct.ofEvent e).low B)∧ ∀ c,MemAct.ofEvent e≠ .mark (.release c))∨((∃ wr,e=⟨.cell (stC b),wr,true⟩∨e=⟨.cell (smC b),wr,true⟩)∧0<deafBehind d (es.extract 0 j))
def atmE_rd {b d:Nat} (hd:1≤d):AtmE b d #[rdE (stC b)]:=by
 intro j e he;rcases j with _ | j
 · simp at he;subst he;exact .inr ⟨⟨false,.inl rfl⟩,hd⟩
 · simp at he
def atmE_wr {b d:Nat} (hd:1≤d):AtmE b d #[wrE (stC b)]:=by
 intro j e he;rcases j with _ | j
 · simp at he;subst he;exact .inr ⟨⟨true,.inl rfl⟩,hd⟩
 · simp at he
def atmE_rw {b d:Nat} (hd:1≤d):AtmE b d #[rdE (stC b),wrE (stC b)]:=by
 intro j e he;rcases j with _ | _ | j
 · simp at he;subst he;exact .inr ⟨⟨false,.inl rfl⟩,hd⟩
 · simp at he;subst he;exact .inr ⟨⟨true,.inl rfl⟩,hd⟩
 · simp at he
def ftx {b d:Nat}:AtmE b d (semEvents (smC b)):=by
 intro j e he;rcases j with _ | _ | _ | _ | j
 · simp [semEvents] at he;subst he;exact .inl ⟨rfl,fun _=>trivial,fun c h=>by cases h⟩
 · simp [semEvents] at he;subst he;exact .inr ⟨⟨false,.inr rfl⟩,by show 0<d+1;omega⟩
 · simp [semEvents] at he;subst he;exact .inr ⟨⟨true,.inr rfl⟩,by show 0<d+1;omega⟩
 · simp [semEvents] at he;subst he;exact .inl ⟨rfl,fun _=>trivial,fun c h=>by cases h⟩
 · simp [semEvents] at he
def fmg {b d:Nat}:deafBehind d (semEvents (smC b))=d:=by show d+1-1=d;omega
def fcd {i:Nat} {fn:FuncId} {pos:String} {es:Array Event} (H:PastS St Shun u5 w.heap.size 0 T) (hs:HasS b w) (hsh:Shun (.cell (stC b))∧Shun (.cell (smC b))) (hk:KnP Shun T i) (h:AtmE b (Deaf T i) es):
    PastS St Shun u5 w.heap.size 0 (T++MemOp.ofEvents i fn pos es)∧(∀ op∈MemOp.ofEvents i fn pos es,∀ t,op.act.touch? =some t→Shun t.loc→t.kind≠ .plain)∧(∀ op∈MemOp.ofEvents i fn pos es,op.act≠ .mark (.release (stC b)))∧
     ∀ r,RelBy (stC b) T i r→RelBy (stC b) (T++MemOp.ofEvents i fn pos es) i r:=by
 have hmem: ∀ e∈es,((MemAct.ofEvent e).touch? =none∧(∀ B,(MemAct.ofEvent e).low B)∧ ∀ c,MemAct.ofEvent e≠ .mark (.release c))∨(∃ wr,e=⟨.cell (stC b),wr,true⟩∨e=⟨.cell (smC b),wr,true⟩):=fun e he=>by
    obtain ⟨j,hj,rfl⟩:=Array.mem_iff_getElem.1 he;exact (h j _ (fz1 hj)).imp id (·.1)
 have hblk:b<w.heap.size:=by obtain ⟨c,e,h,_⟩:=hs;exact (fx5.1 h).1
 have htouch: ∀ e∈es,∀ t,(MemAct.ofEvent e).touch? =some t→Shun t.loc∧t.kind= .atomic:=fun e he t ht=>by
    rcases hmem e he with ⟨h1,_⟩ | ⟨wr,rfl | rfl⟩
    · rw [h1] at ht;cases ht
    · cases wr <;>(simp [MemAct.ofEvent,MemAct.touch?] at ht;subst ht;exact ⟨hsh.1,rfl⟩)
    · cases wr <;>(simp [MemAct.ofEvent,MemAct.touch?] at ht;subst ht;exact ⟨hsh.2,rfl⟩)
 have hops: ∀ op∈MemOp.ofEvents i fn pos es,op.g=i:=fun op hop=>by obtain ⟨e,_,rfl⟩:=fz7 hop;rfl
 refine ⟨H.appShunW hops (fun op hop t ht=> ?_) (fun k op hk' hne=> ?_) hk (fun hh=>hh.elim) (fun op hop=> ?_),fun op hop t ht _=> ?_,fun op hop=> ?_,fun r hr=>hr.appOwn fn pos es fun j e he=> ?_⟩
 · obtain ⟨e,he,rfl⟩:=fz7 hop;exact htouch e he t ht
 · rw [ofEvents_eq,f2c] at hk';obtain ⟨e,he,rfl⟩:=fy8.1 hk';have hj:k≤es.size:=by
    rcases f01 k es.size with h' | h'
    · omega
    · rw [f09 h'] at he;cases he
   rw [deaf_inside T i fn pos es k hj];rcases h k e he with ⟨h1,_⟩ | ⟨_,h2⟩
   · exact absurd h1 hne
   · omega
 · obtain ⟨e,he,rfl⟩:=fz7 hop;rcases hmem e he with ⟨_,h1,_⟩ | ⟨wr,rfl | rfl⟩
   · exact h1 _
   · cases wr <;>exact hblk
   · cases wr <;>exact hblk
 · obtain ⟨e,he,rfl⟩:=fz7 hop;rw [(htouch e he t ht).2];simp
 · obtain ⟨e,he,rfl⟩:=fz7 hop;rcases hmem e he with ⟨_,_,h1⟩ | ⟨wr,rfl | rfl⟩
   · exact h1 _
   · cases wr <;>(intro h;simp [MemAct.ofEvent] at h)
   · cases wr <;>(intro h;simp [MemAct.ofEvent] at h)
 · rcases h j e he with ⟨h1,_⟩ | ⟨⟨wr,h2⟩,h3⟩
   · exact .inl h1
   · refine .inr ⟨?_,h3⟩;rcases h2 with rfl | rfl
     · exact ⟨_,_,rfl⟩
     · exact ⟨_,_,rfl⟩
end
def fiz {α:Type} (f:Nat→α) (i:Nat):upd f i (f i)=f:=by
 funext j
 by_cases e:j=i
 · subst e;rw [f0b]
 · rw [f0p f _ e]
section
variable {P:Program} {b:Nat} {Shun:Loc→Prop} {St:Nat→Loc→Prop} {Wk:Nat→Prop} {k0:Nat} {S:Nat→Option SeatD} {R q:Nat→Nat} {a:Goroutine} {T:Trace} {gs:Array Goroutine} {w:World} {x y x' y':Int}
def fmh (P:Program) (b:Nat) (Shun:Loc→Prop) (St:Nat→Loc→Prop) (Wk:Nat→Prop) (k0:Nat) (S:Nat→Option SeatD) (R q:Nat→Nat) (a:Goroutine) (T:Trace) (gs:Array Goroutine) (w:World) (x y:Int) (reg:Bool) (d:Nat) (sl:Option (Nat×Nat)) (i:Nat):Prop:=
 ∃ gs' S' R' q' x' y' a' ops,runT P (crowd gs ((wgw b w x y).at d) sl) i=(.next (crowd gs' ((wgw b w x' y').at d) sl),ops)∧gs'.size=gs.size∧Woke a a'∧Bye P b Shun St Wk k0 S' R' q' a' (T++ops) gs' w∧Md gs.size R' reg x' y'∧(∀ op∈ops,op.g=i)∧
   (∀ j s,S' j=some s→S j=some s)∧((∀ j,R j=8→R' j=8∧S' j=S j)∧ ∀ j,R' j≤R j)∧VC gs.size R'≤VC gs.size R∧(y=0→y'=1→a'.status= .running)∧(sumTo gs.size R'<sumTo gs.size R∨(R'=R∧sumTo gs.size q'<sumTo gs.size q∧x'=x∧y'=y))
def upd_sub {i:Nat} {os':Option SeatD} (hos:os'=S i∨os'=none): ∀ j s,upd S i os' j=some s→S j=some s:=fun j s e=>by
 by_cases h:j=i
 · subst h;rw [f0b] at e;rcases hos with h | h
   · rw [← h];exact e
   · rw [h] at e;cases e
 · rw [f0p S _ h] at e;exact e
def Bye.stay (C:Bye P b Shun St Wk k0 S R q a T gs w) {reg:Bool} (M:Md gs.size R reg x y) {i n':Nat} {g g':Goroutine} {es:Array Event} {d:Nat} {sl:Option (Nat×Nat)} (ha:a.status= .running∨(a.status= .blocked∧a.offers=none)) (hi:gs[i]? =some g) (hi0:i≠0)
    (hst:stepG P false g ((wgw b w x y).at d)= .go g' ((wgw b w x y).at d) es) (hn:n'<q i)
    (hby:Byw P b Shun St Wk k0 i (T++MemOp.ofEvents i g.frame.fn g.frame.place es) w g' (R i) n' (S i))
    (hpast:PastS St Shun u5 w.heap.size 0 (T++MemOp.ofEvents i g.frame.fn g.frame.place es)) (hpl: ∀ op∈MemOp.ofEvents i g.frame.fn g.frame.place es,∀ t,op.act.touch? =some t→Shun t.loc→t.kind≠ .plain) (hnr: ∀ op∈MemOp.ofEvents i g.frame.fn g.frame.place es,op.act≠ .mark (.release (stC b))):
    fmh P b Shun St Wk k0 S R q a T gs w x y reg d sl i:=by
 have hlt:i<gs.size:=(fx5.1 hi).1;obtain ⟨gs',a',h1,h2,h3,h4,h5⟩:=C.put (sl:=sl) ha hi hi0 hst (.inl rfl) hby hpast hpl hnr;rw [fiz,fiz] at h5;refine ⟨gs',S,R,_,x,y,a',_,h1,h2,h3,h5,M,fun op hop=>by obtain ⟨e,_,rfl⟩:=fz7 hop;rfl,fun _ _ h=>h,⟨fun _ h=>⟨h,rfl⟩,fun _=>fx8 _⟩,fx8 _,fun e1 e2=>qf,.inr ⟨rfl,?_,rfl,rfl⟩⟩;have:=ftv (R:=q) (r:=n') hlt;omega
def Bye.down (C:Bye P b Shun St Wk k0 S R q a T gs w) {reg:Bool} {i r' n':Nat} {g g':Goroutine} {es:Array Event} {d:Nat} {sl:Option (Nat×Nat)} (ha:a.status= .running∨(a.status= .blocked∧a.offers=none)) (hi:gs[i]? =some g) (hi0:i≠0)
    (hst:stepG P false g ((wgw b w x y).at d)= .go g' ((wgw b w x' y').at d) es) (hr:r'<R i) (h8:R i≠8) (M':Md gs.size (upd R i r') reg x' y') (hwake:y=0→y'=1→mayWake P g=true∧(g'.status= .running∨g'.status= .finished))
    (hby:Byw P b Shun St Wk k0 i (T++MemOp.ofEvents i g.frame.fn g.frame.place es) w g' r' n' (S i))
    (hpast:PastS St Shun u5 w.heap.size 0 (T++MemOp.ofEvents i g.frame.fn g.frame.place es)) (hpl: ∀ op∈MemOp.ofEvents i g.frame.fn g.frame.place es,∀ t,op.act.touch? =some t→Shun t.loc→t.kind≠ .plain) (hnr: ∀ op∈MemOp.ofEvents i g.frame.fn g.frame.place es,op.act≠ .mark (.release (stC b))):
    fmh P b Shun St Wk k0 S R q a T gs w x y reg d sl i:=by
 have hlt:i<gs.size:=(fx5.1 hi).1;obtain ⟨gs',a',h1,h2,h3,h4,h5⟩:=C.put (sl:=sl) ha hi hi0 hst (.inl rfl) hby hpast hpl hnr;rw [fiz] at h5;have hv:=ffr (R:=R) (r:=r') hlt;have hsum:=ftv (R:=R) (r:=r') hlt;have hc:cntR r'≤cntR (R i):=by unfold cntR;split <;>split <;>omega
 exact ⟨gs',S,_,_,x',y',a',_,h1,h2,h3,h5,M',fun op hop=>by obtain ⟨e,_,rfl⟩:=fz7 hop;rfl,fun _ _ h=>h,⟨fun j hj=>⟨by rw [f0p R _ (fun e=>by subst e;exact h8 hj)];exact hj,rfl⟩,fun j=>by
    by_cases e:j=i
    · subst e;rw [f0b];omega
    · rw [f0p R _ e];exact fx8 _⟩,by omega,fun e1 e2=>h4 (hwake e1 e2).1 (hwake e1 e2).2,.inl fe⟩
def WB.next {Φ:Goroutine→Nat→Prop} {n dd:Nat} {g:Goroutine} (h:WB P (WgLv b) Φ n g dd):Φ g dd∨ ∃ m g' es,n=m+1∧(∀ e∈es,Event.mute e=true)∧(∀ u,WgLv b u→stepG P false g u= .go g' u es)∧WB P (WgLv b) Φ m g' (deafBehind dd es):=by
 cases n with
 | zero=>exact .inl h
 | succ n=>
   rcases h with h | ⟨_,g',es,h1,h2,h3⟩
   · exact .inl h
   · exact .inr ⟨n,g',es,rfl,h1,h2,h3⟩
def Bye.seated (C:Bye P b Shun St Wk k0 S R q a T gs w) {i:Nat} {s:SeatD} (hs:S i=some s) (x y:Int) (d:Nat):Keeps s.D ((wgw b w x y).at d)∧((wgw b w x y).at d).heap[s.c]? =w.heap[s.c]? :=by
 obtain ⟨h1,h2⟩:=C.apart i s hs;refine ⟨fun c o hc=> ?_,yz h2⟩;have hne:c≠b:=fun z=>by subst z;rw [h1] at hc;cases hc
 show (wgw b w x y).heap[c]? =_;rw [yz hne];exact C.keeps i s hs c o hc
def fmi (C:Bye P b Shun St Wk k0 S R q a T gs w) {reg:Bool} (M:Md gs.size R reg x y) (hbd:VC gs.size R<2147483647) {i:Nat} {g:Goroutine} {d:Nat} {sl:Option (Nat×Nat)} (ha:a.status= .running∨(a.status= .blocked∧a.offers=none)) (hi:gs[i]? =some g) (hi0:i≠0) (hrun:g.status= .running):
    fmh P b Shun St Wk k0 S R q a T gs w x y reg d sl i:=by
 have hlt:i<gs.size:=(fx5.1 hi).1;have hi0':(i==0)=false:=by simp [hi0]
 have hcells:=(wo (x:=x) (y:=y) C.has).at d;have hby:=C.each i g hi0 hi;have mute: ∀ {es:Array Event},(∀ e∈es,Event.mute e=true)→(∀ op∈MemOp.ofEvents i g.frame.fn g.frame.place es,op.act.touch? =none)∧PastS St Shun u5 w.heap.size 0 (T++MemOp.ofEvents i g.frame.fn g.frame.place es)∧(∀ op∈MemOp.ofEvents i g.frame.fn g.frame.place es,∀ t,op.act.touch? =some t→Shun t.loc→t.kind≠ .plain)∧
  (∀ op∈MemOp.ofEvents i g.frame.fn g.frame.place es,op.act≠ .mark (.release (stC b)))∧(KnP Shun T i→KnP Shun (T++MemOp.ofEvents i g.frame.fn g.frame.place es) i)∧(RelD b Wk k0 T i→RelD b Wk k0 (T++MemOp.ofEvents i g.frame.fn g.frame.place es) i):=fun {es} hm=>by
    obtain ⟨m1,m2,m3,m4⟩:=ftw (i:=i) (fn:=g.frame.fn) (pos:=g.frame.place) hm;have hpl: ∀ op∈MemOp.ofEvents i g.frame.fn g.frame.place es,∀ t,op.act.touch? =some t→Shun t.loc→t.kind≠ .plain:=fun op hop t ht=>by rw [m2 op hop] at ht;cases ht
    refine ⟨m2,C.past.appMute m1 m2 (fun hh=>hh.elim) (m4 _),hpl,fun op hop=>m3 op hop _,fun h=>h.app hpl,fun h hw=> ?_⟩;obtain ⟨r,h1,h2⟩:=h hw;exact ⟨r,h1,h2.appOwn _ _ _ fun j e he=> .inl (touch_mute (hm e (Array.mem_of_getElem? he)))⟩
 have hR: ∀ {r:Nat},Byw P b Shun St Wk k0 i T w g r (q i) (S i)→True:=fun _=>trivial;generalize hRi:R i=r at hby
 generalize hSi:S i=os at hby
 generalize hqi:q i=n at hby
 cases hby with
 | @sit _ k s h1 h2 h3=>
   obtain ⟨hK,hch⟩:=C.seated hSi x y d;obtain ⟨k,w₀,hn,hg⟩: ∃ k w₀,n=k+1∧Goes P false (RK (Keeps s.D)) (DS (St i) s.B) (fun g _=> ∃ g₂,AtIn P false (Keeps s.D) (St i) s.B s.seat g g₂) k g w₀:=by
    rcases h1 with h | ⟨_,_,g₂,rfl,_⟩
    · exact h
    · cases hrun
   have hB:=(C.low i s hSi).1;have evs: ∀ es:Array Event,(∀ e∈es,EvC (St i) s.B e)→PastS St Shun u5 w.heap.size 0 (T++MemOp.ofEvents i g.frame.fn g.frame.place es)∧(∀ op∈MemOp.ofEvents i g.frame.fn g.frame.place es,∀ t,op.act.touch? =some t→Shun t.loc→t.kind≠ .plain)∧(∀ op∈MemOp.ofEvents i g.frame.fn g.frame.place es,op.act≠ .mark (.release (stC b)))∧Deaf (T++MemOp.ofEvents i g.frame.fn g.frame.place es) i=0∧ ∀ op∈MemOp.ofEvents i g.frame.fn g.frame.place es,op.g=i:=fun es hes=>by
    obtain ⟨e1,e2,e3,e4⟩:=evC_ops (i:=i) (fn:=g.frame.fn) (pos:=g.frame.place) (fun e he=>fgu (hes e he) hB);refine ⟨C.past.appRead e1 e2 (tf hes) (fun hh=>hh.elim) e3,fun op hop t ht hs=>absurd hs (C.past.apart i _ (e2 op hop t ht).2),fun op hop=> ?_,(e4 T).trans h3,e1⟩;obtain ⟨e,he,rfl⟩:=fz7 hop;obtain ⟨c,rfl,_⟩:=hes e he;intro h;cases h
   have hcase:(∃ g₂,AtIn P false (Keeps s.D) (St i) s.B s.seat g g₂)∨ ∃ k' g' es,k=k'+1∧stepG P false g ((wgw b w x y).at d)= .go g' ((wgw b w x y).at d) es∧(∀ e∈es,EvC (St i) s.B e)∧Goes P false (RK (Keeps s.D)) (DS (St i) s.B) (fun g _=> ∃ g₂,AtIn P false (Keeps s.D) (St i) s.B s.seat g g₂) k' g' ((wgw b w x y).at d):=by
    cases k with
    | zero=>exact .inl (hg _ hK)
    | succ k'=>
      rcases hg with hstop | ⟨_,hstep⟩
      · exact .inl (hstop _ hK)
      · have hs:=hstep _ hK;cases hgo:stepG P false g ((wgw b w x y).at d) with
        | go g' w' es=>
          rw [hgo,goes_go] at hs;obtain ⟨⟨rfl,hes⟩,hG'⟩:=hs;exact .inr ⟨k',g',es,rfl,rfl,hes,hG'⟩
        | _=>rw [hgo] at hs;exact hs.elim
   rcases hcase with ⟨g₂,hat⟩ | ⟨k',g',es,rfl,hgo,hes,hG'⟩
   · obtain ⟨_,_,_,_,_,es,hes,hstp⟩:=id hat;obtain ⟨p1,p2,p3,p4,p5⟩:=evs es hes
     have hw: ∀ cc∈s.seat.cases,NoWays ((wgw b w x y).at d) (gs.setIfInBounds i ph) cc:=by
        intro cc hcc;obtain rfl:cc=rcase s.c s.z:=by simpa [SeatD.seat,Seat.one] using hcc
        exact ways_recv_none (hch.trans h2) (C.noSend ha i s.c)
     have hrun':=crowd_waits (sl:=sl) hi (by rw [hi0'];exact hstp _ hK) hw;have hB':=C.set (ops:=MemOp.ofEvents i g.frame.fn g.frame.place es) (g':=parked g₂ s.seat.cases s.seat.shape) (r':=8) (n':=0) (os':=some s) hlt hi0 (.inl hSi.symm) p5 (.sit (.inr ⟨rfl,g,g₂,rfl,hat⟩) h2 p4) p1 p2 p3;rw [← hSi,fiz,← hRi,fiz] at hB';refine ⟨_,S,R,_,x,y,a,_,hrun',by simp,.inl rfl,hB',M,p5,fun _ _ h=>h,⟨fun _ h=>⟨h,rfl⟩,fun _=>fx8 _⟩,fx8 _,fun e1 e2=>qf,.inr ⟨rfl,?_,rfl,rfl⟩⟩;have:=ftv (R:=q) (r:=0) hlt;omega
   · obtain ⟨p1,p2,p3,p4,p5⟩:=evs es hes;refine C.stay (n':=k'+1) M ha hi hi0 hgo fe ?_ p1 p2 p3;rw [hRi,hSi];exact .sit (.inl ⟨k',_,rfl,hG'⟩) h2 p4
 | @way _ k s h1 h2 h3 h4=>
   obtain ⟨hK,hch⟩:=C.seated hSi x y d;have hB:=(C.low i s hSi).1;have evs: ∀ es:Array Event,(∀ e∈es,EvC (St i) s.B e)→PastS St Shun u5 w.heap.size 0 (T++MemOp.ofEvents i g.frame.fn g.frame.place es)∧(∀ op∈MemOp.ofEvents i g.frame.fn g.frame.place es,∀ t,op.act.touch? =some t→Shun t.loc→t.kind≠ .plain)∧(∀ op∈MemOp.ofEvents i g.frame.fn g.frame.place es,op.act≠ .mark (.release (stC b)))∧Deaf (T++MemOp.ofEvents i g.frame.fn g.frame.place es) i=0∧ ∀ op∈MemOp.ofEvents i g.frame.fn g.frame.place es,op.g=i:=fun es hes=>by
    obtain ⟨e1,e2,e3,e4⟩:=evC_ops (i:=i) (fn:=g.frame.fn) (pos:=g.frame.place) (fun e he=>fgu (hes e he) hB);refine ⟨C.past.appRead e1 e2 (tf hes) (fun hh=>hh.elim) e3,fun op hop t ht hs=>absurd hs (C.past.apart i _ (e2 op hop t ht).2),fun op hop=> ?_,(e4 T).trans h3,e1⟩;obtain ⟨e,he,rfl⟩:=fz7 hop;obtain ⟨c,rfl,_⟩:=hes e he;intro h;cases h
   have take: ∀ g₂ es,s.home g₂→(∀ e∈es,EvC (St i) s.B e)→stepG P false g ((wgw b w x y).at d)= .comm g₂ s.seat.cases true s.seat.shape ((wgw b w x y).at d) es→fmh P b Shun St Wk k0 S R q a T gs w x y reg d sl i:=fun g₂ es hhome hes hstp=>by
    obtain ⟨p1,p2,p3,p4,p5⟩:=evs es hes;have hrun':=crowd_recv_closed (sl:=sl) (c:=s.c) (z:=s.z) (blocking:=true) (shape:= .recv s.ok) hi (by rw [hi0'];exact hstp) (hch.trans h2) (C.noSend ha i s.c);obtain ⟨m,hm⟩:=C.after i s hSi g₂ hhome;generalize hops:MemOp.ofEvents i g.frame.fn g.frame.place es=u at*
    have hnew:(T++(u++ #[({ g:=i,fn:=g₂.frame.fn,pos:=g₂.frame.place,act:= .recvClosed s.c }:MemOp)]))[T.size+u.size]? =some { g:=i,fn:=g₂.frame.fn,pos:=g₂.frame.place,act:= .recvClosed s.c }:=by
        rw [at_new];simp
    have hg1: ∀ op∈u++ #[({ g:=i,fn:=g₂.frame.fn,pos:=g₂.frame.place,act:= .recvClosed s.c }:MemOp)],op.g=i:=fun op hop=>by
        rcases f4c.1 hop with h | h
        · exact p5 op h
        · simp at h;subst h;rfl
    have hpl: ∀ op∈u++ #[({ g:=i,fn:=g₂.frame.fn,pos:=g₂.frame.place,act:= .recvClosed s.c }:MemOp)],∀ t,op.act.touch? =some t→Shun t.loc→t.kind≠ .plain:=fun op hop t ht hs=>by
        rcases f4c.1 hop with h | h
        · exact p2 op h t ht hs
        · simp at h;subst h;cases ht
    have hnr: ∀ op∈u++ #[({ g:=i,fn:=g₂.frame.fn,pos:=g₂.frame.place,act:= .recvClosed s.c }:MemOp)],op.act≠ .mark (.release (stC b)):=fun op hop=>by
        rcases f4c.1 hop with h | h
        · exact p3 op h
        · simp at h;subst h;simp
    have hassoc:T++(u++ #[({ g:=i,fn:=g₂.frame.fn,pos:=g₂.frame.place,act:= .recvClosed s.c }:MemOp)])=(T++u)++ #[{ g:=i,fn:=g₂.frame.fn,pos:=g₂.frame.place,act:= .recvClosed s.c }]:=by rw [f3m]
    have hpast:PastS St Shun u5 w.heap.size 0 (T++(u++ #[({ g:=i,fn:=g₂.frame.fn,pos:=g₂.frame.place,act:= .recvClosed s.c }:MemOp)])):=by
        rw [hassoc];refine p1.appMute (g:=i) (fun op hop=>by simp at hop;subst hop;rfl) (fun op hop=>by simp at hop;subst hop;rfl) (fun hh=>hh.elim) (fun op hop=>by simp at hop;subst hop;exact (C.low i s hSi).2)
    have hd0:Deaf (T++(u++ #[({ g:=i,fn:=g₂.frame.fn,pos:=g₂.frame.place,act:= .recvClosed s.c }:MemOp)])) i=0:=by
        rw [hassoc];refine (Deaf_quiet fun op hop d=> ?_).trans p4;simp at hop;subst hop;rfl
    have hkn:KnP Shun (T++(u++ #[({ g:=i,fn:=g₂.frame.fn,pos:=g₂.frame.place,act:= .recvClosed s.c }:MemOp)])) i:=by
        obtain ⟨p,c1,c2,c3⟩:=h4.app (u:=u++ #[({ g:=i,fn:=g₂.frame.fn,pos:=g₂.frame.place,act:= .recvClosed s.c }:MemOp)]) hpl;intro j t ht hs hk;refine ⟨T.size+u.size,_,hnew,rfl,.inr ((c3 j t ht hs hk).trans (.single (.inr ⟨.closed c1 (act?_of hnew),c2,i,g?_of hnew,?_⟩)))⟩;rw [hassoc,show T.size+u.size=(T++u).size by simp,deaf_old (fx8 _)];exact p4
    have hfc:g₂.finishComm P #[rcase s.c s.z] (.recv s.ok) 0 s.z false=Go.Conc.served g₂ (recvd s.ok s.z false):=by cases s.ok <;>rfl
    have hB':=C.set (g':=g₂.finishComm P #[rcase s.c s.z] (.recv s.ok) 0 s.z false) (r':=6) (n':=m) (os':=none) hlt hi0 (.inr rfl) hg1 (.on hkn (by rw [hd0,hfc];exact hm)) hpast hpl hnr;have hv:=ffr (R:=R) (r:=6) hlt;have hsum:=ftv (R:=R) (r:=6) hlt;have hc:cntR 6=cntR (R i):=by rw [hRi];rfl
    have hM:Md gs.size (upd R i 6) reg x y:=by
        have e1:VC gs.size (upd R i 6)=VC gs.size R:=by omega
        cases M with
        | opn h=>rw [← e1];exact .opn (fdz (m:=0) h (.inr fe))
        | reg h h'=>rw [← e1] at h' ⊢;exact .reg (fdz (m:=0) h (.inr fe)) h'
        | last L h1 h2 h3=>
          have hne:i≠L:=fun e=>by subst e;omega
          have:=h3 i hlt hne;omega
        | sema h=>have:=h i hlt;omega
    exact ⟨_,_,_,_,x,y,a,_,hrun',by simp,.inl rfl,hB',hM,hg1,upd_sub (.inr rfl),⟨fun j hj=>⟨by rw [f0p R _ (fun e=>by subst e;omega)];exact hj,f0p S _ (fun e=>by subst e;omega)⟩,fun j=>by
        by_cases e:j=i
        · subst e;rw [f0b];omega
        · rw [f0p R _ e];exact fx8 _⟩,by omega,fun e1 e2=>qf,.inl fe⟩
   rcases h1 with ⟨k1,w₀,hn,hg⟩ | ⟨hn,g0,g2,rfl,hat⟩
   · have hcase:(∃ g₂,AtIn P false (Keeps s.D) (St i) s.B s.seat g g₂)∨ ∃ k' g' es,k1=k'+1∧stepG P false g ((wgw b w x y).at d)= .go g' ((wgw b w x y).at d) es∧(∀ e∈es,EvC (St i) s.B e)∧Goes P false (RK (Keeps s.D)) (DS (St i) s.B) (fun g _=> ∃ g₂,AtIn P false (Keeps s.D) (St i) s.B s.seat g g₂) k' g' ((wgw b w x y).at d):=by
        cases k1 with
        | zero=>exact .inl (hg _ hK)
        | succ k'=>
          rcases hg with hstop | ⟨_,hstep⟩
          · exact .inl (hstop _ hK)
          · have hs:=hstep _ hK;cases hgo:stepG P false g ((wgw b w x y).at d) with
            | go g' w' es=>
              rw [hgo,goes_go] at hs;obtain ⟨⟨rfl,hes⟩,hG'⟩:=hs;exact .inr ⟨k',g',es,rfl,rfl,hes,hG'⟩
            | _=>rw [hgo] at hs;exact hs.elim
     rcases hcase with ⟨g₂,hat⟩ | ⟨k',g',es,rfl,hgo,hes,hG'⟩
     · obtain ⟨_,_,_,_,hh,es,hes,hstp⟩:=hat;exact take g₂ es hh hes (hstp _ hK)
     · obtain ⟨p1,p2,p3,p4,p5⟩:=evs es hes;refine C.stay (n':=k'+1) M ha hi hi0 hgo fe ?_ p1 p2 p3;rw [hRi,hSi];exact .way (.inl ⟨k',_,rfl,hG'⟩) h2 p4 (h4.app p2)
   · obtain ⟨_,e1,e2,e3,hh,es,hes,hstp⟩:=hat;refine take g2 es hh hes ?_;rw [← hstp _ hK];exact stepG_same e1.symm e2.symm e3.symm _
 | @on _ h1 h2=>
   rcases h2.next with ⟨hr,hd0,g',hst,m,hm⟩ | ⟨m,g',es,hn,hm,hst,hw⟩
   · have hdeaf:Deaf T i=0:=hd0
     have hops: ∀ op∈MemOp.ofEvents i g.frame.fn g.frame.place #[mkE (.releaseMerge (stC b))],op.act= .mark (.releaseMerge (stC b))∧op.g=i:=fun op hop=>by
       obtain ⟨e,he,rfl⟩:=fz7 hop;simp at he;subst he;exact ⟨rfl,rfl⟩
     have hpl: ∀ op∈MemOp.ofEvents i g.frame.fn g.frame.place #[mkE (.releaseMerge (stC b))],∀ t,op.act.touch? =some t→Shun t.loc→t.kind≠ .plain:=fun op hop t ht=>by rw [(hops op hop).1] at ht;cases ht
     have hD:Deaf (T++MemOp.ofEvents i g.frame.fn g.frame.place #[mkE (.releaseMerge (stC b))]) i=0:=by rw [f5l,hdeaf];rfl
     refine C.down (r':=5) (n':=m) (x':=x) (y':=y) ha hi hi0 (hst _ hcells.lv) fe fe ?_ (fun e1 e2=>qf) ?_ (C.past.appMute (fun op hop=>(hops op hop).2) (fun op hop=>by rw [(hops op hop).1];rfl) (fun hh=>hh.elim) (fun op hop=>by rw [(hops op hop).1];first | trivial | (obtain ⟨c,e,hh,_⟩:=C.has;exact (fx5.1 hh).1))) hpl (fun op hop=>by rw [(hops op hop).1];simp)
     · have hv:=ffr (R:=R) (r:=5) hlt;have hc:cntR 5=cntR (R i):=by rw [hRi];rfl
       have e1:VC gs.size (upd R i 5)=VC gs.size R:=by omega
       cases M with
       | opn h=>rw [← e1];exact .opn (fdz (m:=0) h (.inr fe))
       | reg h h'=>rw [← e1] at h' ⊢;exact .reg (fdz (m:=0) h (.inr fe)) h'
       | last L h1 h2 h3=>
         have hne:i≠L:=fun e=>by subst e;omega
         have:=h3 i hlt hne;omega
       | sema h=>have:=h i hlt;omega
     · rw [hSi];exact .add (h1.app hpl) (fun _=>⟨T.size,C.k0le,RelBy.new hdeaf _ _⟩) pa
   · obtain ⟨m2,p1,p2,p3,p4,p5⟩:=mute hm;refine C.stay (n':=m) M ha hi hi0 (hst _ hcells.lv) fe ?_ p1 p2 p3;rw [hRi,hSi];exact .on (p4 h1) pm
 | @add _ h1 h2 h3=>
   rcases h3.next with ⟨hr,hd1,hat⟩ | ⟨m,g',es,hn,hm,hst,hw⟩
   · have hpos:=fvz (R:=R) hlt fe;obtain ⟨v,hv0⟩: ∃ v,VC gs.size R=v+1:=⟨VC gs.size R-1,by omega⟩;have hatm:=fcd (i:=i) (fn:=g.frame.fn) (pos:=g.frame.place) C.past C.has C.shun h1 (atmE_rw hd1);obtain ⟨p1,p2,p3,p4⟩:=hatm;have hD:Deaf (T++MemOp.ofEvents i g.frame.fn g.frame.place #[rdE (stC b),wrE (stC b)]) i=Deaf T i:=by rw [f5l];rfl
     have hrel:RelD b Wk k0 (T++MemOp.ofEvents i g.frame.fn g.frame.place #[rdE (stC b),wrE (stC b)]) i:=fun hw=>by
        obtain ⟨r,e1,e2⟩:=h2 hw;exact ⟨r,e1,p4 r e2⟩
     have hset: ∀ x',((wgw b w x y).at d).setCell (stC b) (.int .u64 x')=(wgw b w x' y).at d:=fun x'=>by
        have:=fdy (x:=x) (y:=y) (x':=x') C.has;show ((wgw b w x y).setCell (stC b) (.int .u64 x')).at d=_;rw [this]
     have hv1:=ffr (R:=R) (r:=1) hlt;have hv4:=ffr (R:=R) (r:=4) hlt;have hc5:cntR (R i)=1:=by rw [hRi];rfl
     have hc1:cntR 1=0:=rfl;have hc4:cntR 4=0:=rfl;cases M with
     | opn h=>
       obtain ⟨g',hst,hq,_⟩:=hat v 0 fe fe;obtain ⟨m,hq⟩:=hq fe;have hst:=hst ((wgw b w ((VC gs.size R:Nat)*K32) 0).at d) 0 (by rw [hv0] at hcells ⊢;simpa using hcells);rw [hset] at hst;refine C.down (r':=1) (n':=m) (x':=(v:Nat)*K32+(0:Nat)) (y':=0) ha hi hi0 hst fe fe ?_ (fun _ e2=>by cases e2) ?_ p1 p2 p3
       · have e1:VC gs.size (upd R i 1)=v:=by omega
         have:=Md.opn (n:=gs.size) (R:=upd R i 1) (fdz (m:=0) h (.inl fe));rw [e1] at this;simpa using this
       · rw [hSi];exact .out hrel (by rw [hD];exact hq)
     | reg h h'=>
       obtain ⟨g',hst,hq,hl⟩:=hat v 1 fe fe;have hst:=hst ((wgw b w ((VC gs.size R:Nat)*K32+1) 0).at d) 0 (by rw [hv0] at hcells ⊢;simpa using hcells);rw [hset] at hst;by_cases hv:v=0
       · subst hv;obtain ⟨m,hl⟩:=hl ⟨rfl,rfl⟩;refine C.down (r':=4) (n':=m) (x':=((0:Nat):Int)*K32+(1:Nat)) (y':=0) ha hi hi0 hst fe fe ?_ (fun _ e2=>by cases e2) ?_ p1 p2 p3
         · have hz:VC gs.size (upd R i 4)=0:=by omega
           have:=Md.last (n:=gs.size) (R:=upd R i 4) i hlt (.inl (f0b _ _ _)) (fun j hj hji=>by
             have h5:=fqi hz hj;rw [f0p R _ hji] at h5 ⊢;rcases h j hj with h6 | h6 <;>omega)
           rw [f0b] at this;simpa using this
         · rw [hSi];exact .ld (h1.app p2) hrel (by rw [hD];exact hl)
       · obtain ⟨m,hq⟩:=hq fe;refine C.down (r':=1) (n':=m) (x':=(v:Nat)*K32+(1:Nat)) (y':=0) ha hi hi0 hst fe fe ?_ (fun _ e2=>by cases e2) ?_ p1 p2 p3
         · have e1:VC gs.size (upd R i 1)=v:=by omega
           have:=Md.reg (n:=gs.size) (R:=upd R i 1) (fdz (m:=0) h (.inl fe)) fe;rw [e1] at this;simpa using this
         · rw [hSi];exact .out hrel (by rw [hD];exact hq)
     | last L h1 h2 h3=>
       have hne:i≠L:=fun e=>by subst e;omega
       have:=h3 i hlt hne;omega
     | sema h=>have:=h i hlt;omega
   · obtain ⟨m2,p1,p2,p3,p4,p5⟩:=mute hm;refine C.stay (n':=m) M ha hi hi0 (hst _ hcells.lv) fe ?_ p1 p2 p3;rw [hRi,hSi];exact .add (p4 h1) (p5 h2) pm
 | @ld _ h1 h2 h3=>
   obtain ⟨rfl,rfl,rfl,hoth⟩:reg=true∧x=1∧y=0∧ ∀ j,j<gs.size→j≠i→R j≤1:=by
    cases M with
    | opn h=>have:=h i hlt;omega
    | reg h _=>have:=h i hlt;omega
    | last L g1 g2 g3=>
      have hL:L=i:=f1e fun e=>by have:=g3 i hlt (fun z=>e z.symm);omega
      subst hL;rw [hRi];exact ⟨rfl,rfl,rfl,g3⟩
    | sema h=>have:=h i hlt;omega
   rcases h3.next with ⟨hr,hd1,g',hst,m,hm⟩ | ⟨m,g',es,hn,hm,hst,hw⟩
   · obtain ⟨p1,p2,p3,p4⟩:=fcd (i:=i) (fn:=g.frame.fn) (pos:=g.frame.place) C.past C.has C.shun h1 (atmE_rd hd1);have hD:Deaf (T++MemOp.ofEvents i g.frame.fn g.frame.place #[rdE (stC b)]) i=Deaf T i:=by rw [f5l];rfl
     refine C.down (r':=3) (n':=m) (x':=1) (y':=0) ha hi hi0 (hst _ 0 hcells) fe fe ?_ (fun _ e2=>by cases e2) ?_ p1 p2 p3
     · have:=Md.last (n:=gs.size) (R:=upd R i 3) i hlt (.inr (.inl (f0b _ _ _))) (fun j hj hji=>by rw [f0p R _ hji];exact hoth j hj hji);rw [f0b] at this;exact this
     · rw [hSi];exact .st (h1.app p2) (fun hw=>by obtain ⟨r,e1,e2⟩:=h2 hw;exact ⟨r,e1,p4 r e2⟩) pa
   · obtain ⟨m2,p1,p2,p3,p4,p5⟩:=mute hm;refine C.stay (n':=m) M ha hi hi0 (hst _ hcells.lv) fe ?_ p1 p2 p3;rw [hRi,hSi];exact .ld (p4 h1) (p5 h2) pm
 | @st _ h1 h2 h3=>
   obtain ⟨rfl,rfl,rfl,hoth⟩:reg=true∧x=1∧y=0∧ ∀ j,j<gs.size→j≠i→R j≤1:=by
    cases M with
    | opn h=>have:=h i hlt;omega
    | reg h _=>have:=h i hlt;omega
    | last L g1 g2 g3=>
      have hL:L=i:=f1e fun e=>by have:=g3 i hlt (fun z=>e z.symm);omega
      subst hL;rw [hRi];exact ⟨rfl,rfl,rfl,g3⟩
    | sema h=>have:=h i hlt;omega
   rcases h3.next with ⟨hr,hd1,g',hst,m,hm⟩ | ⟨m,g',es,hn,hm,hst,hw⟩
   · obtain ⟨p1,p2,p3,p4⟩:=fcd (i:=i) (fn:=g.frame.fn) (pos:=g.frame.place) C.past C.has C.shun h1 (atmE_wr hd1);have hD:Deaf (T++MemOp.ofEvents i g.frame.fn g.frame.place #[wrE (stC b)]) i=Deaf T i:=by rw [f5l];rfl
     have hset:((wgw b w 1 0).at d).setCell (stC b) (.int .u64 0)=(wgw b w 0 0).at d:=by
       have:=fdy (x:=1) (y:=0) (x':=0) C.has;show ((wgw b w 1 0).setCell (stC b) (.int .u64 0)).at d=_;rw [this]
     have hst:=hst _ 0 hcells;rw [hset] at hst;refine C.down (r':=2) (n':=m) (x':=0) (y':=0) ha hi hi0 hst fe fe ?_ (fun _ e2=>by cases e2) ?_ p1 p2 p3
     · have:=Md.last (n:=gs.size) (R:=upd R i 2) i hlt (.inr (.inr (f0b _ _ _))) (fun j hj hji=>by rw [f0p R _ hji];exact hoth j hj hji);rw [f0b] at this;exact this
     · rw [hSi];exact .sm (h1.app p2) (fun hw=>by obtain ⟨r,e1,e2⟩:=h2 hw;exact ⟨r,e1,p4 r e2⟩) pa
   · obtain ⟨m2,p1,p2,p3,p4,p5⟩:=mute hm;refine C.stay (n':=m) M ha hi hi0 (hst _ hcells.lv) fe ?_ p1 p2 p3;rw [hRi,hSi];exact .st (p4 h1) (p5 h2) pm
 | @sm _ h1 h2 h3=>
   obtain ⟨rfl,rfl,rfl,hoth⟩:reg=true∧x=0∧y=0∧ ∀ j,j<gs.size→j≠i→R j≤1:=by
    cases M with
    | opn h=>have:=h i hlt;omega
    | reg h _=>have:=h i hlt;omega
    | last L g1 g2 g3=>
      have hL:L=i:=f1e fun e=>by have:=g3 i hlt (fun z=>e z.symm);omega
      subst hL;rw [hRi];exact ⟨rfl,rfl,rfl,g3⟩
    | sema h=>have:=h i hlt;omega
   rcases h3.next with ⟨hr,hd1,hmw,g',hst,m,hm⟩ | ⟨m,g',es,hn,hm,hst,hw⟩
   · obtain ⟨p1,p2,p3,p4⟩:=fcd (i:=i) (fn:=g.frame.fn) (pos:=g.frame.place) C.past C.has C.shun h1 (ftx (b:=b) (d:=Deaf T i));have hD:Deaf (T++MemOp.ofEvents i g.frame.fn g.frame.place (semEvents (smC b))) i=Deaf T i:=by rw [f5l];exact fmg
     have hset:((wgw b w 0 0).at d).setCell (smC b) (.int .u32 1)=(wgw b w 0 1).at d:=by
       have:=fiy (x:=0) (y:=0) (y':=1) C.has;show ((wgw b w 0 0).setCell (smC b) (.int .u32 1)).at d=_;rw [this]
     have hst:=hst _ hcells;rw [hset] at hst;refine C.down (r':=1) (n':=m) (x':=0) (y':=1) ha hi hi0 hst fe fe ?_ (fun _ _=>⟨hmw,hm.status⟩) ?_ p1 p2 p3
     · refine .sema fun j hj=> ?_;by_cases e:j=i
       · subst e;rw [f0b];omega
       · rw [f0p R _ e];exact hoth j hj e
     · rw [hSi];exact .out (fun hw=>by obtain ⟨r,e1,e2⟩:=h2 hw;exact ⟨r,e1,p4 r e2⟩) pa
   · obtain ⟨m2,p1,p2,p3,p4,p5⟩:=mute hm;refine C.stay (n':=m) M ha hi hi0 (hst _ hcells.lv) fe ?_ p1 p2 p3;rw [hRi,hSi];exact .sm (p4 h1) (p5 h2) pm
 | @out _ h2 h3=>
   cases n with
   | zero=>rw [h3.1] at hrun;cases hrun
   | succ m=>
     rcases h3 with ⟨hf,_⟩ | ⟨_,g',es,hm,hst,hq⟩
     · rw [hf] at hrun;cases hrun
     · obtain ⟨m2,p1,p2,p3,p4,p5⟩:=mute hm;refine C.stay (n':=m) M ha hi hi0 (hst _) fe ?_ p1 p2 p3;rw [hRi,hSi];exact .out (p5 h2) (by rw [f5l];exact hq)
end
section
variable {P:Program} {b:Nat} {Shun:Loc→Prop} {St:Nat→Loc→Prop} {Wk:Nat→Prop} {k0:Nat} {S:Nat→Option SeatD} {R q:Nat→Nat} {a a':Goroutine} {T:Trace} {gs:Array Goroutine} {w w':World} {x y x' y':Int}
def Byw.world {i r n:Nat} {os:Option SeatD} {g:Goroutine} (h:Byw P b Shun St Wk k0 i T w g r n os) (hw: ∀ s,os=some s→w'.heap[s.c]? =w.heap[s.c]?):Byw P b Shun St Wk k0 i T w' g r n os:=by
 cases h with
 | sit h1 h2 h3=>exact .sit h1 ((hw _ rfl).trans h2) h3
 | way h1 h2 h3 h4=>exact .way h1 ((hw _ rfl).trans h2) h3 h4
 | on h1 h2=>exact .on h1 h2
 | add h1 h2 h3=>exact .add h1 h2 h3
 | ld h1 h2 h3=>exact .ld h1 h2 h3
 | st h1 h2 h3=>exact .st h1 h2 h3
 | sm h1 h2 h3=>exact .sm h1 h2 h3
 | out h2 h3=>exact .out h2 h3
def Bye.own (C:Bye P b Shun St Wk k0 S R q a T gs w) {es:Array Event} {d:Nat} {sl:Option (Nat×Nat)} (hst:stepG P true a ((wgw b w x y).at d)= .go a' ((wgw b w' x' y').at d) es) (hw:StepM b S w w') (hes: ∀ e∈es,EvM Shun St w'.heap.size e):
    ∃ gs',runT P (crowd gs ((wgw b w x y).at d) sl) 0=(.next (crowd gs' ((wgw b w' x' y').at d) sl),MemOp.ofEvents 0 a.frame.fn a.frame.place es)∧gs'.size=gs.size∧Bye P b Shun St Wk k0 S R q a' (T++MemOp.ofEvents 0 a.frame.fn a.frame.place es) gs' w'∧
      Deaf (T++MemOp.ofEvents 0 a.frame.fn a.frame.place es) 0=deafBehind (Deaf T 0) es:=by
 have hlt:0<gs.size:=(fx5.1 C.here).1;have hops: ∀ op∈MemOp.ofEvents 0 a.frame.fn a.frame.place es,op.g=0:=fun op hop=>by obtain ⟨e,_,rfl⟩:=fz7 hop;rfl
 have hpl: ∀ op∈MemOp.ofEvents 0 a.frame.fn a.frame.place es,∀ t,op.act.touch? =some t→Shun t.loc→t.kind≠ .plain:=fun op hop t ht hs=>by
    obtain ⟨e,he,rfl⟩:=fz7 hop;rcases (hes e he).1 t ht with ⟨_,h⟩ | ⟨_,h⟩
    · exact h
    · exact absurd hs h
 refine ⟨_,f5t (sl:=sl) C.here hst,by simp,⟨fun j z hj hz=> ?_,fy5 qj,?_,C.rows,fun j s e c o hc=> ?_,C.apart,C.inj,fun j s e=> ?_,fun j hj=> ?_,hw.has C.has,C.shun,fa1 C.norel fun op hop=> ?_,?_,C.after,C.zero⟩,f5l _ _ _ _ _⟩
 · rw [fy4 (fun e=>hj e.symm),f2c] at hz;obtain ⟨z0,hz0,rfl⟩:=fy8.1 hz;have h0:=C.each j z0 hj hz0;rw [f5m (h0.again fun s hs=>⟨fun c o hc=> ?_,?_⟩)]
   · exact (h0.other (fun e=>hj e.symm) hops hpl).world fun s hs=>(hw.seats j s hs).1
   · have hne:c≠b:=fun z=>by subst z;rw [(C.apart j s hs).1] at hc;cases hc
     show (wgw b w' x' y').heap[c]? =_;rw [yz hne,(hw.seats j s hs).2 c o hc];exact C.keeps j s hs c o hc
   · show (wgw b w' x' y').heap[s.c]? =_;rw [yz (C.apart j s hs).2];exact (hw.seats j s hs).1
 · refine PastS.appShunH (C.past.mono hw.size) hops (fun op hop t ht=> ?_) (fun hh=>hh.elim) (fun op hop=> ?_)
   · obtain ⟨e,he,rfl⟩:=fz7 hop;exact (hes e he).1 t ht
   · obtain ⟨e,he,rfl⟩:=fz7 hop;exact (hes e he).2.2
 · rw [(hw.seats j s e).2 c o hc];exact C.keeps j s e c o hc
 · exact ⟨f08 (C.low j s e).1 hw.size,f0f (C.low j s e).2 hw.size⟩
 · simp only [f00,Array.size_map] at hj;rw [f1g T (g':=0) fe _ hops];exact C.above j hj
 · obtain ⟨e,he,rfl⟩:=fz7 hop;obtain ⟨_,h2,_⟩:=hes e he;intro h;obtain ⟨l,wr,sy⟩:=e;cases l with
   | mark m=>
     have:m= .release (stC b):=by
      cases m <;>simp [MemAct.ofEvent] at h;subst h;rfl
     exact h2 _ (by rw [this])
   | cell c=>cases wr <;>cases sy <;>simp [MemAct.ofEvent] at h
   | obj c=>cases wr <;>cases sy <;>simp [MemAct.ofEvent] at h
   | _=>simp [MemAct.ofEvent] at h
 · rw [f5v];exact f4s C.k0le
def Byw.awake {i r n:Nat} {os:Option SeatD} {g:Goroutine} (h:Byw P b Shun St Wk k0 i T w g r n os) (hk: ∀ s,os=some s→Keeps s.D w):Go.Conc.awake g:=by
 have h1:g.status= .running∨g.status= .blocked∨g.status= .finished:=by
    cases h with
    | sit h1 _ _=>exact (f3b (hk _ rfl) h1).elim (fun h=> .inl h.1) fun h=> .inr (.inl h.1)
    | way h1 _ _ _=>
      rcases h1 with ⟨k,w0,rfl,hg⟩ | ⟨_,g0,g2,rfl,_⟩
      · exact .inl ((f3b (hk _ rfl) (.inl ⟨k,w0,rfl,hg⟩)).elim (·.1) fun z=>by omega)
      · exact .inl rfl
    | on _ h=>exact .inl (h.status tz)
    | add _ _ h=>exact .inl (h.status fa0)
    | ld _ _ h=>exact .inl (h.status fca)
    | st _ _ h=>exact .inl (h.status fcb)
    | sm _ _ h=>exact .inl (h.status fcc)
    | out _ h=>exact h.status.elim .inl fun h=> .inr (.inr h)
 intro t;rcases h1 with h | h | h <;>rw [h] <;>simp
def Bye.awake (C:Bye P b Shun St Wk k0 S R q a T gs w) (ha:a.status= .running∨a.status= .blocked): ∀ g∈gs,Go.Conc.awake g:=by
 intro g hg;obtain ⟨i,hi,rfl⟩:=Array.mem_iff_getElem.1 hg;by_cases e:i=0
 · subst e;have:=C.here;rw [fz1 hi] at this;rw [fy7 this];intro t;rcases ha with h | h <;>rw [h] <;>simp
 · exact (C.each i _ e (fz1 hi)).awake fun s hs=>C.keeps i s hs
def Less (S S':Nat→Option SeatD) (R R':Nat→Nat):Prop:=(∀ j s,S' j=some s→S j=some s)∧(∀ j,R j=8→R' j=8∧S' j=S j)∧ ∀ j,R' j≤R j
def Less.refl (S:Nat→Option SeatD) (R:Nat→Nat):Less S S R R:=⟨fun _ _ h=>h,fun _ h=>⟨h,rfl⟩,fun _=>fx8 _⟩
def Less.trans {S1 S2 S3:Nat→Option SeatD} {R1 R2 R3:Nat→Nat} (h:Less S1 S2 R1 R2) (h':Less S2 S3 R2 R3):Less S1 S3 R1 R3:=
 ⟨fun j s e=>h.1 j s (h'.1 j s e),fun j e=>⟨(h'.2.1 j (h.2.1 j e).1).1,(h'.2.1 j (h.2.1 j e).1).2.trans (h.2.1 j e).2⟩,fun j=>f08 (h'.2.2 j) (h.2.2 j)⟩
def Bye.lead {Ψ:Array Goroutine→World→Trace→Prop} {reg:Bool} (hrun:a.status= .running)
    (own: ∀ gs1 S1 R1 q1 T1 x1 y1 d sl,gs1.size=gs.size→Bye P b Shun St Wk k0 S1 R1 q1 a T1 gs1 w→Md gs.size R1 reg x1 y1→VC gs.size R1<2147483647→Deaf T1 0=Deaf T 0→Less S S1 R R1→ ∃ gs' u' ops,runT P (crowd gs1 ((wgw b w x1 y1).at d) sl) 0=(.next (crowd gs' u' sl),ops)∧Leads P Ψ gs' u' (T1++ops))
    (C:Bye P b Shun St Wk k0 S R q a T gs w) (M:Md gs.size R reg x y) (hbd:VC gs.size R<2147483647) (d:Nat):Leads P Ψ gs ((wgw b w x y).at d) T:=by
 have key: ∀ (μ1 μ2:Nat) (gs1:Array Goroutine) (S1:Nat→Option SeatD) (R1 q1:Nat→Nat) (T1:Trace) (x1 y1:Int) (d:Nat),sumTo gs.size R1=μ1→sumTo gs.size q1=μ2→gs1.size=gs.size→Bye P b Shun St Wk k0 S1 R1 q1 a T1 gs1 w→Md gs.size R1 reg x1 y1→VC gs.size R1<2147483647→Deaf T1 0=Deaf T 0→Less S S1 R R1→Leads P Ψ gs1 ((wgw b w x1 y1).at d) T1:=by
    intro μ1
    induction μ1 using Nat.strongRecOn with
    | _ μ1 ih1=>
      intro μ2
      induction μ2 using Nat.strongRecOn with
      | _ μ2 ih2=>
        intro gs1 S1 R1 q1 T1 x1 y1 d h1 h2 hsz C1 M1 hb1 hD1 hL1;refine Leads.pick (C1.awake (.inl hrun)) ⟨0,a,C1.here,hrun⟩ fun i g d' sl hi hg=> ?_;show ∃ gs' w' ops,runT P (crowd gs1 ((wgw b w x1 y1).at d') sl) i=_∧_;by_cases e:i=0
        · subst e;obtain ⟨gs',u',ops,r1,r2⟩:=own gs1 S1 R1 q1 T1 x1 y1 d' sl hsz C1 M1 hb1 hD1 hL1;exact ⟨gs',u',ops,r1,r2⟩
        · obtain ⟨gs',S',R',q',x',y',a',ops,r1,r2,r3,r4,r5,r6,r7,r8,r9,r10,r11⟩:=fmi (d:=d') (sl:=sl) C1 (by rw [hsz];exact M1) (by rw [hsz];exact hb1) (.inl hrun) hi e hg;rw [hsz] at r2 r5 r9 r11;obtain rfl:a'=a:=r3.elim id fun z=>by rw [hrun] at z;cases z.1
          have hD':Deaf (T1++ops) 0=Deaf T 0:=by rw [f1g T1 e ops r6];exact hD1
          have hL':Less S S' R R':=hL1.trans ⟨r7,r8.1,r8.2⟩;refine ⟨gs',_,ops,r1,?_⟩;rcases r11 with h | ⟨rfl,h,rfl,rfl⟩
          · exact ih1 _ fe _ gs' S' R' q' (T1++ops) x' y' d' rfl rfl r2 r4 r5 fe hD' hL'
          · exact ih2 _ fe gs' S' R' q' (T1++ops) x' y' d' h1 rfl r2 r4 r5 fe hD' hL'
 exact key _ _ gs S R q T x y d rfl rfl rfl C M hbd rfl (Less.refl _ _)
def StepM.less {S S':Nat→Option SeatD} (h:StepM b S w w') (hs: ∀ j s,S' j=some s→S j=some s):StepM b S' w w':=⟨h.size,fun i s e=>h.seats i s (hs i s e),h.has⟩
def ByL (P:Program) (b:Nat) (Shun:Loc→Prop) (St:Nat→Loc→Prop) (Wk:Nat→Prop) (k0:Nat) (S:Nat→Option SeatD) (R:Nat→Nat) (n:Nat) (reg:Bool) (Φ:Goroutine→World→Nat→Prop) (gs':Array Goroutine) (u:World) (T':Trace):Prop:=
 ∃ S' R' q' a' w' x' y' d,u=(wgw b w' x' y').at d∧gs'.size=n∧Bye P b Shun St Wk k0 S' R' q' a' T' gs' w'∧Md n R' reg x' y'∧VC n R'<2147483647∧Φ a' w' (Deaf T' 0)∧Less S S' R R'
def fe0 {Φ:Goroutine→World→Nat→Prop} {reg:Bool} {S0:Nat→Option SeatD}: ∀ (n:Nat) {S:Nat→Option SeatD} {R q:Nat→Nat} {a:Goroutine} {T:Trace} {gs:Array Goroutine} {w:World} {x y:Int} {d:Nat},(∀ j s,S j=some s→S0 j=some s)→Bye P b Shun St Wk k0 S R q a T gs w→Md gs.size R reg x y→VC gs.size R<2147483647→OM P b Shun St S0 Φ n a w (Deaf T 0)→
    Leads P (ByL P b Shun St Wk k0 S R gs.size reg Φ) gs ((wgw b w x y).at d) T
 | 0,S,R,q,a,T,gs,w,x,y,d,hS,C,M,hb,h=> .done ⟨S,R,q,a,w,x,y,d,rfl,rfl,C,M,hb,h,Less.refl _ _⟩
 | n +1,S,R,q,a,T,gs,w,x,y,d,hS,C,M,hb,h=>by
   rcases h with h | ⟨hrun,g',w',es,hst,hw,hes,hn⟩
   · exact .done ⟨S,R,q,a,w,x,y,d,rfl,rfl,C,M,hb,h,Less.refl _ _⟩
   · refine Bye.lead hrun (fun gs1 S1 R1 q1 T1 x1 y1 d1 sl hsz C1 M1 hb1 hD1 hL1=> ?_) C M hb d;obtain ⟨gs',r1,r2,r3,r4⟩:=C1.own (sl:=sl) (hst x1 y1 d1) (hw.less fun j s e=>hS j s (hL1.1 j s e)) hes;refine ⟨gs',_,_,r1,?_⟩;have:=fe0 n (fun j s e=>hS j s (hL1.1 j s e)) (d:=d1) r3 (by rw [r2,hsz];exact M1) (by rw [r2,hsz];exact hb1) (by rw [r4,hD1];exact hn);refine this.mono fun gs2 u2 T2 ⟨S',R',q',a',w',x',y',d',e1,e2,e3,e4,e5,e6,e7⟩=>⟨S',R',q',a',w',x',y',d',e1,by rw [e2,r2,hsz],e3,by rw [r2,hsz] at e4;exact e4,by rw [r2,hsz] at e5;exact e5,e6,hL1.trans e7⟩
end
def vv (w:World) (c k:Nat):World:={ w with heap:=w.heap.setIfInBounds c (.chan 0 #[] true k k false) }
section
variable {P:Program} {b:Nat} {Shun:Loc→Prop} {St:Nat→Loc→Prop} {Wk:Nat→Prop} {k0:Nat} {S:Nat→Option SeatD} {R q:Nat→Nat} {a a':Goroutine} {T:Trace} {gs:Array Goroutine} {w w':World} {x y x' y':Int}
def zl {c k i:Nat} (h:i≠c):(vv w c k).heap[i]? =w.heap[i]? :=by
 unfold vv;exact fy4 fun e=>h e.symm
def bf {c k:Nat}:(vv w c k).heap.size=w.heap.size:=by unfold vv;simp
def mt {c:Nat} {fn:FuncId} {pos:String} (hsc: ∀ l,Shun l→ ∃ p,l= .cell p): ∀ op∈MemOp.ofEvents 0 fn pos (closeEvents c),∀ t,op.act.touch? =some t→ ¬ Shun t.loc∧t.write=false:=by
 intro op hop t ht;rw [closeOps] at hop;simp only [f4b,fy3,fz8,f0z] at hop;rcases hop with rfl | rfl
 · simp only [MemAct.touch?,f03] at ht;subst ht;exact ⟨fun h=>(by obtain ⟨p,h⟩:=hsc _ h;cases h),rfl⟩
 · cases ht
def fj0 {j:Nat} {s:SeatD} {d:Nat} (C:Bye P b Shun St Wk k0 S R q a T gs w) (M:Md gs.size R false x y) (hbd:VC gs.size R<2147483647) (hrun:a.status= .running) (hrun':a'.status= .running) (hj:R j=8) (hjlt:j<gs.size) (hs:S j=some s) (hsc: ∀ l,Shun l→ ∃ p,l= .cell p) (hmw:mayWake P a=true) (hD:Deaf T 0=0)
    (hst: ∀ k,w.heap[s.c]? =some (.chan 0 #[] false k k false)→ ∀ x y t,stepG P true a ((wgw b w x y).at t)= .go a' ((wgw b (vv w s.c k) x y).at t) (closeEvents s.c)):
    Leads P (fun gs' u T'=> ∃ S' R' q' x' y' d k,u=(wgw b (vv w s.c k) x' y').at d∧gs'.size=gs.size∧w.heap[s.c]? =some (.chan 0 #[] false k k false)∧Bye P b Shun St Wk k0 S' R' q' a' T' gs' (vv w s.c k)∧Md gs.size R' false x' y'∧VC gs.size R'<2147483647∧Deaf T' 0=0∧
     (∀ i s,S' i=some s→S i=some s)∧(∀ i,i≠j→R i=8→R' i=8∧S' i=S i)∧(∀ i,R' i≤R i)∧R' j≤7) gs ((wgw b w x y).at d) T:=by
 refine Bye.lead hrun (fun gs1 S1 R1 q1 T1 x1 y1 d1 sl hsz C1 M1 hb1 hD1 hL1=> ?_) C M hbd d;have hR1:=(hL1.2.1 j hj).1;have hS1:S1 j=some s:=(hL1.2.1 j hj).2.trans hs;have hj0:j≠0:=fun e=>by subst e;rw [C.zero.2] at hj;cases hj
 have hjlt1:j<gs1.size:=by omega
 obtain ⟨gj,hgj⟩: ∃ gj,gs1[j]? =some gj:=⟨gs1[j],fz1 hjlt1⟩;have hbj:=C1.each j gj hj0 hgj;generalize hq1:q1 j=nj at hbj;rw [hR1,hS1] at hbj
 obtain ⟨k,hsit,hch,hdj⟩: ∃ k,Sits P false (Keeps s.D) (St j) s.B s.seat nj gj∧w.heap[s.c]? =some (.chan 0 #[] false k k false)∧Deaf T1 j=0:=by
    cases hbj with
    | sit h1 h2 h3=>exact ⟨_,h1,h2,h3⟩
 have hst1:=hst k hch x1 y1 d1;have hlt:0<gs1.size:=(fx5.1 C1.here).1;have hcb:s.c≠b:=(C1.apart j s hS1).2;have hclt:s.c<w.heap.size:=(fx5.1 hch).1;generalize hops:MemOp.ofEvents 0 a.frame.fn a.frame.place (closeEvents s.c)=ops;have hops2:ops= #[{ g:=0,fn:=a.frame.fn,pos:=a.frame.place,act:= .access ⟨.obj s.c,false,true⟩ },{ g:=0,fn:=a.frame.fn,pos:=a.frame.place,act:= .close s.c }]:=by rw [← hops,closeOps]
 have hg: ∀ op∈ops,op.g=0:=fun op hop=>by rw [hops2] at hop;simp at hop;rcases hop with rfl | rfl <;>rfl
 have hnp: ∀ op∈ops,∀ t,op.act.touch? =some t→ ¬ Shun t.loc∧t.write=false:=by rw [← hops];exact mt hsc
 have hpl: ∀ op∈ops,∀ t,op.act.touch? =some t→Shun t.loc→t.kind≠ .plain:=fun op hop t ht hs=>absurd hs (hnp op hop t ht).1
 have hD':Deaf (T1++ops) 0=0:=by
    rw [← hops,f5l,hD1,hD];simp [closeEvents,deafBehind]
 have hp1:(T1++ops)[T1.size+1]? =some { g:=0,fn:=a.frame.fn,pos:=a.frame.place,act:= .close s.c }:=by rw [at_new,hops2];rfl
 have hshut:Shut Shun (T1++ops) s.c:=by
    refine ⟨T1.size+1,act?_of hp1,⟨0,g?_of hp1,?_⟩,fun i t ht hs hk=> ?_⟩
    · rw [← hops,deaf_inside T1 0 _ _ _ 1 (by simp [closeEvents]),hD1,hD];simp [closeEvents,deafBehind]
    · obtain ⟨op,ho,hot⟩:=f3d ht;rcases f07 ho with ⟨_,h1⟩ | ⟨_,h1⟩
      · obtain ⟨p,hp⟩:=hsc _ hs;rcases C1.past.known i t (by rw [touchAt_of h1];exact hot) (by rw [hp];rfl) with h2 | ⟨_,g,_,h2,_⟩ | ⟨_,h2,_⟩
        · exact h2.hb_new fe hp1 rfl
        · exact absurd hs (C1.past.apart g _ h2)
        · rw [h2] at hk;cases hk
      · exact absurd hs (hnp op h1 t hot).1
 have hu:((wgw b (vv w s.c k) x1 y1).at d1).heap[s.c]? =some (.chan 0 #[] true k k false):=by
    show (wgw b (vv w s.c k) x1 y1).heap[s.c]? =_;rw [yz hcb];unfold vv;exact fy5 hclt
 have hother: ∀ i s',i≠j→S1 i=some s'→s'.c≠s.c:=fun i s' hij e1 e2=>hij (C1.inj i j s' s e1 hS1 e2);have hv:=ffr (n:=gs.size) (R:=R1) (r:=7) (by omega:j<gs.size);have hcv:VC gs.size (upd R1 j 7)=VC gs.size R1:=by rw [hR1] at hv;simp [cntR] at hv;exact hv
 refine ⟨_,_,ops,by rw [← hops];exact f5t (sl:=sl) C1.here hst1,.done ⟨S1,upd R1 j 7,q1,x1,y1,d1,k,rfl,by simp [hsz],hch,⟨fun i z hi hz=> ?_,fy5 qj,?_,C1.rows,fun i s' e c o hc=> ?_,C1.apart,C1.inj,fun i s' e=> ?_,fun i hi=> ?_,?_,C1.shun,fa1 C1.norel fun op hop=> ?_,?_,C1.after,C1.zero.1,?_⟩,?_,by rw [hcv];exact hb1,hD',hL1.1,fun i hi h8=> ?_,fun i=> ?_,by rw [f0b];omega⟩⟩
 · rw [fy4 (fun e=>hi e.symm),f2c] at hz;obtain ⟨z0,hz0,rfl⟩:=fy8.1 hz;by_cases e:i=j
   · subst e;rw [hgj] at hz0;obtain rfl:=fy7 hz0;rw [f0b,hS1,hq1]
     have hway:WaySt P St s i nj (woken P a a' ((wgw b (vv w s.c k) x1 y1).at d1) gj):=by
       rcases hsit with ⟨k1,w0,hn,hgo⟩ | ⟨hn,g0,g2,rfl,hat⟩
       · have hrj:=(f3b (C1.seated hS1 x1 y1 d1).1 (.inl ⟨k1,w0,hn,hgo⟩)).elim (·.1) (fun z=>by omega);rw [f5m (f1i (.inl hrj) _)];exact .inl ⟨k1,w0,hn,hgo⟩
       · refine .inr ⟨hn,g0,g2,?_,hat⟩;unfold woken;rw [f02 (by rw [hmw,hrun'];rfl)];exact again_recv_closed hu
     refine .way (k:=k) hway ?_ ?_ hshut
     · unfold vv;exact fy5 hclt
     · rw [f1g T1 (fun e=>hi e.symm) ops hg];exact hdj
   · have h0:=C1.each i z0 hi hz0;rw [f0p R1 _ e];rw [f5m (h0.again fun s' hs'=>⟨fun c o hc=> ?_,?_⟩)]
     · exact (h0.other (fun z=>hi z.symm) hg hpl).world fun s' hs'=>zl (hother i s' e hs')
     · have hne:c≠b:=fun z=>by subst z;rw [(C1.apart i s' hs').1] at hc;cases hc
       have hnc:c≠s.c:=fun z=>by
        subst z;obtain ⟨x,e,f,rfl⟩:=C1.rows i s' _ o hs' hc;have:=C1.keeps i s' hs' _ _ hc;rw [hch] at this;cases this
       show (wgw b (vv w s.c k) x1 y1).heap[c]? =_;rw [yz hne,zl hnc];exact C1.keeps i s' hs' c o hc
     · show (wgw b (vv w s.c k) x1 y1).heap[s'.c]? =_;rw [yz (C1.apart i s' hs').2,zl (hother i s' e hs')]
 · refine PastS.appShunH (C1.past.mono (by rw [bf];exact fx8 _)) hg (fun op hop t ht=> .inr ⟨fun _ _=>(hnp op hop t ht).2,(hnp op hop t ht).1⟩) (fun hh=>hh.elim) (fun op hop=> ?_);rw [hops2] at hop;rw [bf];simp at hop;rcases hop with rfl | rfl <;>exact hclt
 · have hnc:c≠s.c:=fun z=>by
    subst z;obtain ⟨x,e',f,rfl⟩:=C1.rows i s' _ o e hc;have:=C1.keeps i s' e _ _ hc;rw [hch] at this;cases this
   rw [zl hnc];exact C1.keeps i s' e c o hc
 · rw [bf];exact C1.low i s' e
 · simp only [f00,Array.size_map] at hi;rw [f1g T1 (g':=0) fe _ hg];exact C1.above i hi
 · obtain ⟨c,e,h1,h2⟩:=C1.has;exact ⟨c,e,by rw [zl (fun z=>hcb z.symm)];exact h1,h2⟩
 · rw [hops2] at hop;simp at hop;rcases hop with rfl | rfl <;>simp
 · rw [f5v];exact f4s C1.k0le
 · rw [f0p R1 _ (fun e=>hj0 e.symm)];exact C1.zero.2
 · cases M1 with
   | opn h=>rw [← hcv];exact .opn (fdz (m:=0) h (.inr fe))
 · rw [f0p R1 _ hi];exact hL1.2.1 i h8
 · by_cases e:i=j
   · subst e;rw [f0b];have:=hL1.2.2 i;omega
   · rw [f0p R1 _ e];exact hL1.2.2 i
end
section
variable (P:Program) (b:Nat) (Shun:Loc→Prop) (St:Nat→Loc→Prop) (S0:Nat→Option SeatD) (Fin Anch:Goroutine→World→Nat→Prop)
inductive MPh (V:Nat):Bool→Nat→Nat→Goroutine→World→Nat→Prop
 | w1 {n:Nat} {g:Goroutine} {w:World} {d:Nat}:OM P b Shun St S0 (AtW1 P b Shun St S0 Fin Anch) n g w d→MPh V false (2*V+20) n g w d
 | w2 {n vs:Nat} {g:Goroutine} {w:World} {d:Nat}:OM P b Shun St S0 (AtW2 P b Shun St S0 Fin Anch vs) n g w d→V≤vs→1≤vs→MPh V false (2*vs+19) n g w d
 | w3 {n:Nat} {g:Goroutine} {w:World} {d:Nat}:OM P b Shun St S0 (AtW3 P b Shun St S0 Fin) n g w d→MPh V true 10 (n+1) g w d
 | blk {g:Goroutine} {w:World} {d:Nat}:AtW3 P b Shun St S0 Fin g w d→MPh V true 10 0 { g with status:= .blocked } w d
def WEnd (S:Nat→Option SeatD) (R:Nat→Nat) (n:Nat) (Wk:Nat→Prop) (k0:Nat) (gs':Array Goroutine) (u:World) (T':Trace):Prop:=
 ∃ S' R' q' a' w' d,u=(wgw b w' 0 0).at d∧gs'.size=n∧Bye P b Shun St Wk k0 S' R' q' a' T' gs' w'∧(∀ i,i<n→R' i≤1)∧Less S S' R R'∧((∃ m,OM P b Shun St S0 (AtW4 P b Shun St S0 Fin) m a' w' (Deaf T' 0))∨ ∃ m,OM P b Shun St S0 Fin m a' w' (Deaf T' 0))
def fe1 (S:Nat→Option SeatD) (R:Nat→Nat) (Wk:Nat→Prop) (k0:Nat) (T:Trace) (gs:Array Goroutine) (u:World) (sl:Option (Nat×Nat)):Prop:=
 ∃ gs' w' ops,runT P (crowd gs u sl) 0=(.next (crowd gs' w' sl),ops)∧Leads P (WEnd P b Shun St S0 Fin S R gs.size Wk k0) gs' w' (T++ops)
end
section
variable {P:Program} {b:Nat} {Shun:Loc→Prop} {St:Nat→Loc→Prop} {Wk:Nat→Prop} {k0:Nat} {S0:Nat→Option SeatD} {Fin Anch:Goroutine→World→Nat→Prop}
def w9 {S:Nat→Option SeatD} (w:World):StepM b S w w:=⟨fx8 _,fun _ _ _=>⟨rfl,fun _ _ _=>rfl⟩,id⟩
def fqj {es:Array Event} {B:Nat} (hsh:Shun (.cell (stC b))∧Shun (.cell (smC b))) (hb:b<B) (h: ∀ e∈es,(∃ wr,e=⟨.cell (stC b),wr,true⟩∨e=⟨.cell (smC b),wr,true⟩)∨e=⟨.mark .disable,false,true⟩∨e=⟨.mark .enable,false,true⟩): ∀ e∈es,EvM Shun St B e:=by
 intro e he;rcases h e he with ⟨wr,rfl | rfl⟩ | rfl | rfl
 · refine ⟨fun x hx=> .inl ?_,fun a h=>je,?_⟩
   · cases wr <;>(simp [MemAct.ofEvent,MemAct.touch?] at hx;subst hx;exact ⟨hsh.1,by simp⟩)
   · cases wr <;>exact hb
 · refine ⟨fun x hx=> .inl ?_,fun a h=>je,?_⟩
   · cases wr <;>(simp [MemAct.ofEvent,MemAct.touch?] at hx;subst hx;exact ⟨hsh.2,by simp⟩)
   · cases wr <;>exact hb
 · exact ⟨fun x hx=>pl,fun a h=>je,trivial⟩
 · exact ⟨fun x hx=>pl,fun a h=>je,trivial⟩
def OM.run {P:Program} {S:Nat→Option SeatD} {Φ:Goroutine→World→Nat→Prop} (hΦ: ∀ g w d,Φ g w d→g.status= .running) {n:Nat} {g:Goroutine} {w:World} {d:Nat} (h:OM P b Shun St S Φ n g w d):g.status= .running:=by
 cases n with
 | zero=>exact hΦ _ _ _ h
 | succ n=>exact h.elim (hΦ _ _ _) (·.1)
def OM.next {P:Program} {S:Nat→Option SeatD} {Φ:Goroutine→World→Nat→Prop} {n:Nat} {g:Goroutine} {w:World} {d:Nat} (h:OM P b Shun St S Φ n g w d):
    Φ g w d∨ ∃ m g' w' es,n=m+1∧(∀ x y t,stepG P true g ((wgw b w x y).at t)= .go g' ((wgw b w' x y).at t) es)∧StepM b S w w'∧(∀ e∈es,EvM Shun St w'.heap.size e)∧OM P b Shun St S Φ m g' w' (deafBehind d es):=by
 cases n with
 | zero=>exact .inl h
 | succ n=>
   rcases h with h | ⟨_,g',w',es,h1,h2,h3,h4⟩
   · exact .inl h
   · exact .inr ⟨n,g',w',es,rfl,h1,h2,h3,h4⟩
def HasS.lt {w:World} (h:HasS b w):b<w.heap.size:=by obtain ⟨c,e,h,_⟩:=h;exact (fx5.1 h).1
def fty (hAn: ∀ g w d,Anch g w d→ ∃ n,OM P b Shun St S0 (AtW1 P b Shun St S0 Fin Anch) n g w d): ∀ (M F:Nat) {S:Nat→Option SeatD} {R q:Nat→Nat} {a:Goroutine} {T:Trace} {gs:Array Goroutine} {w:World} {x y:Int} {d:Nat} {reg:Bool} {phi f:Nat},
    phi+sumTo gs.size R=M→f+2*sumTo gs.size q=F→(∀ j s,S j=some s→S0 j=some s)→(∀ i,R i≤7)→Bye P b Shun St Wk k0 S R q a T gs w→Md gs.size R reg x y→VC gs.size R<2147483647→MPh P b Shun St S0 Fin Anch (VC gs.size R) reg phi f a w (Deaf T 0)→(a.status= .blocked→y=0)→
    Leads P (WEnd P b Shun St S0 Fin S R gs.size Wk k0) gs ((wgw b w x y).at d) T:=by
 intro M
 induction M using Nat.strongRecOn with
 | _ M ihM =>
   intro F
   induction F using Nat.strongRecOn with
   | _ F ihF =>
     intro S R q a T gs w x y d reg phi f hM hF hS0 hR7 C Mo hb ph hblk;have hph0:=ph
     have hsta:a.status= .running∨(a.status= .blocked∧a.offers=none):=by
       cases ph with
       | w1 h=>exact .inl (h.run fun _ _ _ h=>h.1)
       | w2 h _ _=>exact .inl (h.run fun _ _ _ h=>h.1)
       | w3 h=>exact .inl (h.run fun _ _ _ h=>h.1)
       | blk h=>exact .inr ⟨rfl,h.2.1⟩
     have hlt0:0<gs.size:=(fx5.1 C.here).1
     have rk: ∀ i g,i≠0→gs[i]? =some g→2≤R i→g.status= .running:=fun i g hi hg h2=>by
       have hby:=C.each i g hi hg;have h7:=hR7 i;generalize R i=r at hby h2 h7;generalize hos:S i=os at hby
       cases hby with
       | sit=>omega
       | way h1 _ _ _=>
         rcases h1 with ⟨k,w0,hn,hgo⟩ | ⟨_,g0,g2,rfl,_⟩
         · exact (f3b (C.keeps i _ hos) (.inl ⟨k,w0,hn,hgo⟩)).elim (·.1) fun z=>by omega
         · rfl
       | on _ h=>exact h.status tz
       | add _ _ h=>exact h.status fa0
       | ld _ _ h=>exact h.status fca
       | st _ _ h=>exact h.status fcb
       | sm _ _ h=>exact h.status fcc
       | out=>omega
     have some1: ∃ (i:Nat) (g:Goroutine),gs[i]? =some g∧g.status= .running:=by
       rcases hsta with h | ⟨h,_⟩
       · exact ⟨0,a,C.here,h⟩
       · have hy :=hblk h
         have hex: ∃ i,i<gs.size∧2≤R i:=by
           cases ph with
           | w1 h1=>rw [h1.run fun _ _ _ h=>h.1] at h;cases h
           | w2 h1 _ _=>rw [h1.run fun _ _ _ h=>h.1] at h;cases h
           | w3 h1=>rw [h1.run fun _ _ _ h=>h.1] at h;cases h
           | blk _=>
             cases Mo with
             | reg h1 h2=>
               refine f1e fun hno=> ?_
               have:=i6 (n:=gs.size) (R:=R) fun i hi=>by
                 rcases f01 (R i) 2 with h3 | h3
                 · omega
                 · exact absurd ⟨i,hi,h3⟩ hno
               omega
             | last L h1 h2 h3=>exact ⟨L,h1,by omega⟩
             | sema=>cases hy
         obtain ⟨i,hi,h2⟩:=hex;have hi0:i≠0:=fun e=>by subst e;rw [C.zero.2] at h2;omega
         exact ⟨i,gs[i],fz1 hi,rk i _ hi0 (fz1 hi) h2⟩
     refine Leads.pick (C.awake (hsta.imp id (·.1))) some1 fun i g d' sl hi hg=> ?_;show ∃ gs' w' ops,runT P (crowd gs ((wgw b w x y).at d') sl) i=_∧_;have hatm:=fun (es:Array Event)=>fqj (Shun:=Shun) (St:=St) (b:=b) (es:=es) (B:=w.heap.size) C.shun C.has.lt;by_cases e:i=0
     · subst e;show fe1 P b Shun St S0 Fin S R Wk k0 T gs ((wgw b w x y).at d') sl;rw [C.here] at hi;obtain rfl:=fy7 hi
       have go: ∀ {n:Nat} {g':Goroutine} {w':World} {es:Array Event} (reg':Bool) (phi' f':Nat) {x' y':Int},stepG P true a ((wgw b w x y).at d')= .go g' ((wgw b w' x' y').at d') es→StepM b S0 w w'→(∀ e∈es,EvM Shun St w'.heap.size e)→(phi'<phi∨(phi'=phi∧f'<f))→Md gs.size R reg' x' y'→MPh P b Shun St S0 Fin Anch (VC gs.size R) reg' phi' f' g' w' (deafBehind (Deaf T 0) es)→(g'.status= .blocked→y'=0)→
           fe1 P b Shun St S0 Fin S R Wk k0 T gs ((wgw b w x y).at d') sl:=fun {n g' w' es} reg' phi' f' {x' y'} hst hw hes hlt Mo' ph' hb'=>by
         obtain ⟨gs',r1,r2,r3,r4⟩:=C.own (sl:=sl) hst (hw.less hS0) hes;refine ⟨gs',_,_,r1,?_⟩;rcases hlt with h | ⟨h1,h2⟩
         · have:=ihM (phi'+sumTo gs.size R) fe (f'+2*sumTo gs.size q) (d:=d') (by rw [r2]) (by rw [r2]) hS0 hR7 r3 (by rw [r2];exact Mo') (by rw [r2];exact hb) (by rw [r2,r4];exact ph') hb';rw [r2] at this;exact this
         · have:=ihF (f'+2*sumTo gs.size q) fe (d:=d') (phi:=phi') (f:=f') (by rw [r2,h1];exact hM) (by rw [r2]) hS0 hR7 r3 (by rw [r2];exact Mo') (by rw [r2];exact hb) (by rw [r2,r4];exact ph') hb';rw [r2] at this;exact this
       have fin: ∀ {g':Goroutine} {es:Array Event},stepG P true a ((wgw b w x y).at d')= .go g' ((wgw b w 0 0).at d') es→(∀ e∈es,EvM Shun St w.heap.size e)→(∀ i,i<gs.size→R i≤1)→((∃ m,OM P b Shun St S0 (AtW4 P b Shun St S0 Fin) m g' w (deafBehind (Deaf T 0) es))∨ ∃ m,OM P b Shun St S0 Fin m g' w (deafBehind (Deaf T 0) es))→
           fe1 P b Shun St S0 Fin S R Wk k0 T gs ((wgw b w x y).at d') sl:=fun {g' es} hst hes h1 hm=>by
         obtain ⟨gs',r1,r2,r3,r4⟩:=C.own (sl:=sl) hst (w9 w) hes;exact ⟨gs',_,_,r1,.done ⟨S,R,q,g',w,d',rfl,r2,r3,h1,Less.refl _ _,by rw [r4];exact hm⟩⟩
       cases ph with
       | w1 h=>
         obtain ⟨rfl,rfl,hop⟩:x=(VC gs.size R:Nat)*K32∧y=0∧ ∀ i,i<gs.size→R i≤1∨5≤R i:=by cases Mo with | opn h=>exact ⟨rfl,rfl,h⟩
         have stop:AtW1 P b Shun St S0 Fin Anch a w (Deaf T 0)→fe1 P b Shun St S0 Fin S R Wk k0 T gs ((wgw b w ((VC gs.size R:Nat)*K32) 0).at d') sl:=fun hat=>by
           obtain ⟨g',hst,h0,h1⟩:=hat.2 (VC gs.size R) fe;have hst:=hst d';by_cases hv:VC gs.size R=0
           · rw [hv] at hst;have hx:((0:Nat):Int)*K32=0:=by simp
             rw [hx] at hst;refine fin (g':=g') (es:= #[rdE (stC b)]) (by rw [hv,hx];exact hst) (hatm _ fun e he=>by simp at he;subst he;exact .inl ⟨false,.inl rfl⟩) (fun i hi=> ?_) (.inr (h0 hv));have:=fqi hv hi;rcases hop i hi with h | h <;>omega
           · obtain ⟨m,hm⟩:=h1 hv;refine go (n:=0) (w':=w) false (2*VC gs.size R+19) m hst (w9 w) (hatm _ fun e he=>by simp at he;subst he;exact .inl ⟨false,.inl rfl⟩) (.inl fe) (.opn hop) (.w2 hm (fx8 _) fe) (fun _=>rfl)
         rcases h.next with h | ⟨m,g',w',es,hnm,hst,hw,hes,hn⟩
         · exact stop h
         · exact go (n:=0) false _ m (hst _ _ d') hw hes (.inr ⟨rfl,by omega⟩) Mo (.w1 hn) (fun _=>rfl)
       | @w2 _ vs _ _ _ h hv1 hv2=>
         obtain ⟨rfl,rfl,hop⟩:x=(VC gs.size R:Nat)*K32∧y=0∧ ∀ i,i<gs.size→R i≤1∨5≤R i:=by cases Mo with | opn h=>exact ⟨rfl,rfl,h⟩
         have stop:AtW2 P b Shun St S0 Fin Anch vs a w (Deaf T 0)→fe1 P b Shun St S0 Fin S R Wk k0 T gs ((wgw b w ((VC gs.size R:Nat)*K32) 0).at d') sl:=fun hat=>by
           by_cases hv:VC gs.size R=vs
           · subst hv;obtain ⟨g',hst,m,hm⟩:=hat.2.1;refine go (n:=0) (w':=w) true 10 (m+1) (hst d') (w9 w) (hatm _ fun e he=>by simp at he;rcases he with rfl | rfl;exact .inl ⟨false,.inl rfl⟩;exact .inl ⟨true,.inl rfl⟩) (.inl fe) (.reg hop hv2) (.w3 hm) (fun _=>rfl)
           · obtain ⟨g',hst,hA⟩:=hat.2.2 (VC gs.size R) hv fe;obtain ⟨m,hm⟩:=hAn _ _ _ hA;refine go (n:=0) (w':=w) false (2*VC gs.size R+20) m (hst d') (w9 w) (hatm _ fun e he=>by simp at he;subst he;exact .inl ⟨false,.inl rfl⟩) (.inl fe) (.opn hop) (.w1 hm) (fun _=>rfl)
         rcases h.next with h | ⟨m,g',w',es,hnm,hst,hw,hes,hn⟩
         · exact stop h
         · exact go (n:=0) false _ m (hst _ _ d') hw hes (.inr ⟨rfl,by omega⟩) Mo (.w2 hn hv1 hv2) (fun _=>rfl)
       | w3 h=>
         have stop:AtW3 P b Shun St S0 Fin a w (Deaf T 0)→fe1 P b Shun St S0 Fin S R Wk k0 T gs ((wgw b w x y).at d') sl:=fun hat=>by
           have y0:y=0→fe1 P b Shun St S0 Fin S R Wk k0 T gs ((wgw b w x y).at d') sl:=fun hy=>by
             subst hy;exact go (n:=0) (w':=w) (es:= #[]) true 10 0 (hat.2.2.1 x d') (w9 w) (fun e he=>by simp at he) (.inr ⟨rfl,Nat.succ_pos _⟩) Mo (.blk hat) (fun _=>rfl)
           cases Mo with
           | reg=>exact y0 rfl
           | last=>exact y0 rfl
           | sema h1=>
             obtain ⟨g',hst,hm⟩:=hat.2.2.2;refine fin (hst d') (hatm _ fun e he=> ?_) h1 (.inl (by rw [fmg];exact hm));simp [semEvents] at he;rcases he with rfl | rfl | rfl | rfl
             · exact .inr (.inl rfl)
             · exact .inl ⟨false,.inr rfl⟩
             · exact .inl ⟨true,.inr rfl⟩
             · exact .inr (.inr rfl)
         rcases h.next with h | ⟨m,g',w',es,hnm,hst,hw,hes,hn⟩
         · exact stop h
         · refine go (n:=0) true _ (m+1) (hst _ _ d') hw hes (.inr ⟨rfl,by omega⟩) Mo (.w3 hn) (fun hbl=> ?_);rw [hn.run fun _ _ _ h=>h.1] at hbl;cases hbl
       | blk h=>cases hg
     · obtain ⟨gs',S',R',q',x',y',a',ops,r1,r2,r3,r4,r5,r6,r7,r8,r9,r10,r11⟩:=fmi (d:=d') (sl:=sl) C Mo hb hsta hi e hg;have hD':Deaf (T++ops) 0=Deaf T 0:=f1g T e ops r6;have hL':Less S S' R R':=⟨r7,r8.1,r8.2⟩;refine ⟨gs',_,ops,r1,?_⟩
       have hyb:a'.status= .blocked→y'=0:=fun hbl=>by
         have hya:y=0:=by
           rcases r3 with rfl | ⟨h1,rfl⟩
           · exact hblk hbl
           · exact hblk h1
         have h1:=r10 hya;cases r5 with
         | sema=>rw [h1 rfl] at hbl;cases hbl
         | _=>rfl
       obtain ⟨phi',f',ph',hphi,hf⟩: ∃ phi' f',MPh P b Shun St S0 Fin Anch (VC gs.size R') reg phi' f' a' w (Deaf T 0)∧phi'≤phi∧(R'=R→phi'=phi∧f'≤f+1):=by
         have hsame:a.status= .running→a'=a:=fun h=>r3.elim id fun z=>by rw [h] at z;cases z.1
         cases ph with
         | w1 h=>
           obtain rfl:=hsame (h.run fun _ _ _ h=>h.1);exact ⟨_,_,.w1 h,by omega,fun e=>by rw [e];exact ⟨rfl,by omega⟩⟩
         | w2 h hv1 hv2=>
           obtain rfl:=hsame (h.run fun _ _ _ h=>h.1);exact ⟨_,_,.w2 h fe hv2,fx8 _,fun e=>⟨rfl,by omega⟩⟩
         | w3 h=>
           obtain rfl:=hsame (h.run fun _ _ _ h=>h.1);exact ⟨_,_,.w3 h,fx8 _,fun e=>⟨rfl,by omega⟩⟩
         | @blk g0 _ _ h=>
           rcases r3 with rfl | ⟨_,rfl⟩
           · exact ⟨_,0,.blk h,fx8 _,fun e=>⟨rfl,by omega⟩⟩
           · have hg0:{ { g0 with status:=GoStatus.blocked } with status:= .running }=g0:=by
               have:=h.1;cases g0;simp only at this;subst this;rfl
             refine ⟨10,1,?_,fx8 _,fun e=>⟨rfl,by omega⟩⟩;rw [hg0];exact .w3 (n:=0) h
       have hR7': ∀ i,R' i≤7:=fun i=>f08 (hL'.2.2 i) (hR7 i);have hS0': ∀ j s,S' j=some s→S0 j=some s:=fun j s h=>hS0 j s (r7 j s h)
       have lift:Leads P (WEnd P b Shun St S0 Fin S' R' gs'.size Wk k0) gs' ((wgw b w x' y').at d') (T++ops)→Leads P (WEnd P b Shun St S0 Fin S R gs.size Wk k0) gs' ((wgw b w x' y').at d') (T++ops):=fun h=>by
         refine h.mono fun gs2 u2 T2 ⟨S2,R2,q2,a2,w2,d2,e1,e2,e3,e4,e5,e6⟩=>⟨S2,R2,q2,a2,w2,d2,e1,by rw [e2,r2],e3,by rw [← r2];exact e4,hL'.trans e5,e6⟩
       refine lift ?_;rcases r11 with h | ⟨rfl,h,rfl,rfl⟩
       · exact ihM (phi'+sumTo gs.size R') fe (f'+2*sumTo gs.size q') (d:=d') (by rw [r2]) (by rw [r2]) hS0' hR7' r4 (by rw [r2];exact r5) (by rw [r2];omega) (by rw [r2,hD'];exact ph') hyb
       · obtain ⟨rfl,hf⟩:=hf rfl;exact ihF (f'+2*sumTo gs.size q') fe (d:=d') (phi:=phi') (f:=f') (by rw [r2];exact hM) (by rw [r2]) hS0' hR7' r4 (by rw [r2];exact r5) (by rw [r2];omega) (by rw [r2,hD'];exact ph') hyb
end
def StL (St:Nat→Loc→Prop) (Wk:Nat→Prop):Nat→Loc→Prop:=fun g l=>St g l∧ ¬ Wk g
section
variable {P:Program} {b:Nat} {Shun:Loc→Prop} {St:Nat→Loc→Prop} {Wk:Nat→Prop} {k0:Nat} {S S0:Nat→Option SeatD} {R q:Nat→Nat} {a a':Goroutine} {T:Trace} {gs:Array Goroutine} {w w':World} {x y:Int}
def PastS.acquire {B:Nat} {fn:FuncId} {pos:String} (H:PastS St Shun u5 B 0 T) (hb:b<B) (hD:Deaf T 0=0) (hrel: ∀ i,Wk i→ ∃ r,k0≤r∧RelBy (stC b) T i r) (hnr: ∀ k,k0≤k→T.act? k≠some (.mark (.release (stC b)))):
    PastS (StL St Wk) Shun u5 B 0 (T++MemOp.ofEvents 0 fn pos #[mkE (.acquire (stC b))]):=by
 have e1:MemOp.ofEvents 0 fn pos #[mkE (.acquire (stC b))]= #[{ g:=0,fn,pos,act:= .mark (.acquire (stC b)) }]:=by simp [MemOp.ofEvents,MemAct.ofEvent]
 rw [e1];have hq:(T++ #[({ g:=0,fn,pos,act:= .mark (.acquire (stC b)) }:MemOp)])[T.size]? =some { g:=0,fn,pos,act:= .mark (.acquire (stC b)) }:=by simp
 have hops: ∀ op∈ #[({ g:=0,fn,pos,act:= .mark (.acquire (stC b)) }:MemOp)],op.g=0:=fun op hop=>by simp at hop;subst hop;rfl
 have hn: ∀ op∈ #[({ g:=0,fn,pos,act:= .mark (.acquire (stC b)) }:MemOp)],op.act.touch? =none:=fun op hop=>by simp at hop;subst hop;rfl
 have H1:=H.appMute hops hn (fun hh=>hh.elim) (fun op hop=>by simp at hop;subst hop;exact hb);refine ⟨H1.clean,fun i t ht hm=> ?_,fun i t ht hw g hs=>H1.wrote i t ht hw g hs.1,fun g l hs=>H1.apart g l hs.1,H1.hears,H1.seen⟩;rcases H1.known i t ht hm with h | ⟨hw,g,hg,hs,hk⟩ | h
 · exact .inl h
 · by_cases hwk:Wk g
   · refine .inl ?_;obtain ⟨op,ho,hot⟩:=f3d ht;have hi:i<T.size:=by
      rcases f07 ho with ⟨h,_⟩ | ⟨_,h1⟩
      · exact h
      · rw [hn op h1] at hot;cases hot
     have ho':T[i]? =some op:=by rw [← getElem?_append_old (u:= #[({ g:=0,fn,pos,act:= .mark (.acquire (stC b)) }:MemOp)]) hi];exact ho
     have hg':T.g? i=some g:=by rw [← g?_old (u:= #[({ g:=0,fn,pos,act:= .mark (.acquire (stC b)) }:MemOp)]) hi];exact hg
     obtain ⟨r,hr0,hr⟩:=hrel g hwk;have hrlt:r<T.size:=lt_of_act? hr.act;have hle:i≤r:=Nat.le_of_not_lt fun hlt=>hr.after i hlt hg' ⟨t,by rw [← hot];simp [Trace.act?,ho'],hm,.inl (by rw [hk];simp)⟩;have hne:i≠r:=fun e=>by
      subst e;have:=hr.act;rw [act?_of ho'] at this;rw [fy7 this] at hot;cases hot
     have edge:HappensBefore (T++ #[({ g:=0,fn,pos,act:= .mark (.acquire (stC b)) }:MemOp)]) r T.size:= .single (.inr ⟨.marked hrlt (.inr (by rw [act?_old hrlt];exact hr.act)) (act?_of hq) (fun k hk1 hk2=>by
      rw [act?_old hk2];exact hnr k fe),(fcq hrlt).2 hr.heard,0,g?_of hq,by rw [deaf_old (fx8 _)];exact hD⟩)
     exact ⟨T.size,_,hq,rfl,.inr (.trans (.single (.inl ⟨by omega,g,by rw [g?_old hi];exact hg',by rw [g?_old hrlt];exact hr.g⟩)) edge)⟩
   · exact .inr (.inl ⟨hw,g,hg,⟨hs,hwk⟩,hk⟩)
 · exact .inr (.inr h)
def Bye.gone (C:Bye P b Shun St Wk k0 S R q a T gs w) (h1: ∀ i,i<gs.size→R i≤1) {i:Nat} {g:Goroutine} (hi:i≠0) (hg:gs[i]? =some g):QuitsD P (q i) (Deaf T i) g∧R i=1∧RelD b Wk k0 T i∧S i=none:=by
 have hby:=C.each i g hi hg;have h:=h1 i (fx5.1 hg).1;generalize R i=r at*;generalize hos:S i=os at*;generalize q i=n at*;cases hby with
 | out h2 h3=>exact ⟨h3,rfl,h2,rfl⟩
 | _=>omega
def fe2 (P:Program) (b:Nat) (Shun:Loc→Prop) (St:Nat→Loc→Prop) (Φ:Goroutine→World→Nat→Prop) (g:Goroutine) (w:World) (d:Nat):Prop:=
 g.status= .running∧d=0∧ ∃ g',(∀ x y t,stepG P true g ((wgw b w x y).at t)= .go g' ((wgw b w x y).at t) #[mkE (.acquire (stC b))])∧ ∃ n,OM P b Shun St (fun _=>none) Φ n g' w 0
def Gone (P:Program) (b:Nat) (Shun:Loc→Prop) (St:Nat→Loc→Prop) (n:Nat) (Φ:Goroutine→World→Nat→Prop) (gs':Array Goroutine) (u:World) (T':Trace):Prop:=
 ∃ a' w' q' d,u=(wgw b w' 0 0).at d∧gs'.size=n∧HasS b w'∧Hold P St Shun u5 (fun _=>none) 0 a' T' gs' u q'∧Φ a' w' (Deaf T' 0)
def Md.all (h:Md gs.size R false x y) (h1: ∀ i,i<gs.size→R i≤1):x=0∧y=0:=by
 cases h with
 | opn h=>rw [i6 fun i hi=>by have:=h1 i hi;omega];exact ⟨by simp,rfl⟩
def Md.allOf (h1: ∀ i,i<gs.size→R i≤1):Md gs.size R false 0 0:=by
 have:=Md.opn (n:=gs.size) (R:=R) fun i hi=> .inl (h1 i hi);rw [i6 fun i hi=>by have:=h1 i hi;omega] at this;simpa using this
def ftz {Φ:Goroutine→World→Nat→Prop} {d:Nat} (hS: ∀ j s,S j=some s→S0 j=some s) (hwk: ∀ i,Wk i→i≠0∧i<gs.size) (C:Bye P b Shun St Wk k0 S R q a T gs w) (h1: ∀ i,i<gs.size→R i≤1)
    (hom:(∃ m,OM P b Shun St S0 (AtW4 P b Shun St S0 (fe2 P b Shun (StL St Wk) Φ)) m a w (Deaf T 0))∨ ∃ m,OM P b Shun St S0 (fe2 P b Shun (StL St Wk) Φ) m a w (Deaf T 0)):Leads P (Gone P b Shun (StL St Wk) gs.size Φ) gs ((wgw b w 0 0).at d) T:=by
 have acq: ∀ {S R q:_} {a:Goroutine} {T:Trace} {gs1:Array Goroutine} {w:World} {d:Nat},gs1.size=gs.size→(∀ j s,S j=some s→S0 j=some s)→Bye P b Shun St Wk k0 S R q a T gs1 w→(∀ i,i<gs.size→R i≤1)→fe2 P b Shun (StL St Wk) Φ a w (Deaf T 0)→Leads P (Gone P b Shun (StL St Wk) gs.size Φ) gs1 ((wgw b w 0 0).at d) T:=by
    intro S R q a T gs1 w d hsz hS C h1 hat;obtain ⟨hrun,hD,g',hst,n,hn⟩:=hat;refine Bye.lead hrun (fun gs2 S2 R2 q2 T2 x2 y2 d2 sl hsz2 C2 M2 hb2 hD2 hL2=> ?_) C (Md.allOf (by rw [hsz];exact h1)) (by rw [i6 fun i hi=>by have:=h1 i fe;omega];omega) d;have h2: ∀ i,i<gs2.size→R2 i≤1:=fun i hi=>f08 (hL2.2.2 i) (h1 i fe);obtain ⟨rfl,rfl⟩:=Md.all (gs:=gs2) (by rw [hsz2];exact M2) h2;have hD0:Deaf T2 0=0:=by omega
    obtain ⟨gs3,r1,r2,r3,r4⟩:=C2.own (sl:=sl) (hst 0 0 d2) (w9 w) (fun e he=>by
     simp at he;subst he;exact ⟨fun x hx=>pl,fun a h=>je,C2.has.lt⟩)
    refine ⟨gs3,_,_,r1,?_⟩;have hrel: ∀ i,Wk i→ ∃ r,k0≤r∧RelBy (stC b) T2 i r:=fun i hi=>by
     obtain ⟨hi0,hilt⟩:=hwk i hi;have hlt:i<gs2.size:=by omega
     exact (C2.gone h2 hi0 (fz1 hlt)).2.2.1 hi
    have hpast:=C2.past.acquire (fn:=a.frame.fn) (pos:=a.frame.place) C2.has.lt hD0 hrel C2.norel;have h3: ∀ i,i<gs3.size→R2 i≤1:=by rw [r2];exact h2
    have C3:Bye P b Shun (StL St Wk) (fun _=>False) k0 (fun _=>none) R2 q2 g' (T2++MemOp.ofEvents 0 a.frame.fn a.frame.place #[mkE (.acquire (stC b))]) gs3 w:=by
     refine ⟨fun i g hi hg=> ?_,r3.here,hpast,fun _ _ _ _ e=>kz,fun _ _ e=>kz,fun _ _ e=>kz,fun _ _ _ _ e=>kz,fun _ _ e=>kz,r3.above,r3.has,r3.shun,r3.norel,r3.k0le,fun _ _ e=>kz,rfl,r3.zero.2⟩;obtain ⟨g1,g2,_,_⟩:=r3.gone h3 hi hg;rw [g2];exact .out (fun h=>h.elim) g1
    have:=fe0 (reg:=false) (d:=d2) n (fun _ _ e=>e) C3 (Md.allOf h3) (by rw [i6 fun i hi=>by have:=h3 i hi;omega];omega) (by rw [r4,hD0];exact hn);refine this.mono fun gs4 u4 T4 ⟨S4,R4,q4,a4,w4,x4,y4,d4,e1,e2,e3,e4,e5,e6,e7⟩=> ?_;have h4: ∀ i,i<gs4.size→R4 i≤1:=fun i hi=>f08 (e7.2.2 i) (h3 i fe);obtain ⟨rfl,rfl⟩:=Md.all (gs:=gs4) pq h4;refine ⟨a4,w4,q4,d4,e1,by omega,e3.has,?_,e6⟩;rw [e1];refine ⟨⟨fun i g hi hg=> ?_,fun _ _ e=>kz,fun _ _ _ _ e=>kz,fun _ _ e=>kz,fun _ _ _ _ e=>kz,fun _ _ e=>kz,fun _ _ e=>kz,e3.above⟩,e3.here,?_,fun _ hh=>hh.elim,rfl⟩
    · have hi:i≠0:=hi;exact ⟨by omega,(e3.gone h4 hi hg).1⟩
    · show PastS _ _ _ (wgw b w4 0 0).heap.size _ _;rw [fgx];exact e3.past
 rcases hom with ⟨m,hm⟩ | ⟨m,hm⟩
 · refine (fe0 (reg:=false) (d:=d) m hS C (Md.allOf h1) px hm).trans fun gs1 u1 T1 ⟨S1,R1,q1,a1,w1,x1,y1,d1,e1,e2,e3,e4,e5,e6,e7⟩=> ?_;subst e1;have h2: ∀ i,i<gs1.size→R1 i≤1:=fun i hi=>f08 (e7.2.2 i) (h1 i fe);obtain ⟨rfl,rfl⟩:=Md.all (gs:=gs1) pq h2;obtain ⟨hrun,g',hst,n,hn⟩:=e6;refine Bye.lead hrun (fun gs2 S2 R2 q2 T2 x2 y2 d2 sl hsz2 C2 M2 hb2 hD2 hL2=> ?_) e3 (Md.allOf h2) (by rw [i6 fun i hi=>by have:=h2 i hi;omega];omega) d1;have h3: ∀ i,i<gs2.size→R2 i≤1:=fun i hi=>f08 (hL2.2.2 i) (h2 i fe);obtain ⟨rfl,rfl⟩:=Md.all (gs:=gs2) (by rw [hsz2];exact M2) h3;obtain ⟨gs3,r1,r2,r3,r4⟩:=C2.own (sl:=sl) (hst d2) (w9 w1) (fqj C2.shun C2.has.lt fun e he=>by simp at he;subst he;exact .inl ⟨false,.inl rfl⟩);refine ⟨gs3,_,_,r1,?_⟩;have hS2: ∀ j s,S2 j=some s→S0 j=some s:=fun j s h=>hS j s (e7.1 j s (hL2.1 j s h));refine (fe0 (Φ:=fe2 P b Shun (StL St Wk) Φ) (reg:=false) (d:=d2) n hS2 r3 (Md.allOf (by rw [r2];exact h3)) (by rw [i6 fun i hi=>by have:=h3 i fe;omega];omega) (by rw [r4,hD2];exact hn)).trans fun gs4 u4 T4 ⟨S4,R4,q4,a4,w4,x4,y4,d4,f1,f2,f3,f4,f5,f6,f7⟩=> ?_;subst f1;have h4: ∀ i,i<gs4.size→R4 i≤1:=fun i hi=>f08 (f7.2.2 i) (h3 i fe);obtain ⟨rfl,rfl⟩:=Md.all (gs:=gs4) (by rw [f2];exact f4) h4;exact acq fe (fun j s h=>hS2 j s (f7.1 j s h)) f3 (fun i hi=>h4 i fe) f6
 · refine (fe0 (reg:=false) (d:=d) m hS C (Md.allOf h1) px hm).trans fun gs1 u1 T1 ⟨S1,R1,q1,a1,w1,x1,y1,d1,e1,e2,e3,e4,e5,e6,e7⟩=> ?_;subst e1;have h2: ∀ i,i<gs1.size→R1 i≤1:=fun i hi=>f08 (e7.2.2 i) (h1 i fe);obtain ⟨rfl,rfl⟩:=Md.all (gs:=gs1) pq h2;exact acq e2 (fun j s h=>hS j s (e7.1 j s h)) e3 (fun i hi=>h2 i fe) e6
def bye_all {Φ Anch:Goroutine→World→Nat→Prop} {d n:Nat} (hAn: ∀ g w d,Anch g w d→ ∃ n,OM P b Shun St S0 (AtW1 P b Shun St S0 (fe2 P b Shun (StL St Wk) Φ) Anch) n g w d) (hS: ∀ j s,S j=some s→S0 j=some s) (hwk: ∀ i,Wk i→i≠0∧i<gs.size) (C:Bye P b Shun St Wk k0 S R q a T gs w) (hR: ∀ i,R i≤7)
    (M:Md gs.size R false x y) (hb:VC gs.size R<2147483647) (hom:OM P b Shun St S0 (AtW1 P b Shun St S0 (fe2 P b Shun (StL St Wk) Φ) Anch) n a w (Deaf T 0)):Leads P (Gone P b Shun (StL St Wk) gs.size Φ) gs ((wgw b w x y).at d) T:=by
 have hrun:=hom.run fun _ _ _ h=>h.1;refine (fty hAn _ _ (d:=d) rfl rfl hS hR C M hb (.w1 hom) (fun h=>by rw [hrun] at h;cases h)).trans fun gs1 u1 T1 ⟨S1,R1,q1,a1,w1,d1,e1,e2,e3,e4,e5,e6⟩=> ?_;subst e1;have:=ftz (d:=d1) (fun j s h=>hS j s (e5.1 j s h)) (by rw [e2];exact hwk) e3 pq e6;rw [e2] at this;exact this
end
end Go.Proofs.YtelecjnabeokeaaGreatDoor
namespace Go.Proofs.YtelecjnabeokeaaGreatDoor
open Go Go.Conc Go.Conc.Lib
def Lw:WgLink:={ add:=77,done:=79,wait:=28,relMerge:=97,disable:=61,enable:=63,inBubble:=69,associate:=106,fatal:=107,uOr:=108,uAdd:=109,raceRead:=110,uLoad:=62,uStore:=111,disassociate:=67,semrelease:=112,acquire:=64,isAssociated:=65,uCas:=66,raceWrite:=68,semacquire:=70,orU64:=126,addU64:=127,loadU64:=100,storeU64:=128,casU64:=101,tWgP:=128,tUP:=132,tAssoc:=185,tWg:=73,tAU:=71,tU64:=69,tUint:=130,tU32:=60,tPU32:=136,tPAU:=177,tPU64:=179,tNoCopy:=59,tANoCopy:=67,tAlign64:=68 }
def wgLib:WgLib Tryz.prog Lw where
 f_add:=Tryz.func77
 f_done:=Tryz.func79
 f_wait:=Tryz.func28
 f_relMerge:=Tryz.func97
 f_disable:=Tryz.func61
 f_enable:=Tryz.func63
 f_inBubble:=Tryz.func69
 f_associate:=Tryz.func106
 f_fatal:=Tryz.func107
 f_uOr:=Tryz.func108
 f_uAdd:=Tryz.func109
 f_raceRead:=Tryz.func110
 f_uLoad:=Tryz.func62
 f_uStore:=Tryz.func111
 f_disassociate:=Tryz.func67
 f_semrelease:=Tryz.func112
 f_acquire:=Tryz.func64
 f_isAssociated:=Tryz.func65
 f_uCas:=Tryz.func66
 f_raceWrite:=Tryz.func68
 f_semacquire:=Tryz.func70
 f_orU64:=Tryz.func126
 f_addU64:=Tryz.func127
 f_loadU64:=Tryz.func100
 f_storeU64:=Tryz.func128
 f_casU64:=Tryz.func101
 underlying_tWgP:=Tryz.underlying128
 runUnderlying_tWgP:=Tryz.runUnderlying128
 sizeOf_tWgP:=Tryz.sizeOf128
 isAgg_tWgP:=Tryz.isAgg128
 zeroValue_tWgP:=Tryz.zeroValue128
 underlying_tUP:=Tryz.underlying132
 runUnderlying_tUP:=Tryz.runUnderlying132
 sizeOf_tUP:=Tryz.sizeOf132
 isAgg_tUP:=Tryz.isAgg132
 zeroValue_tUP:=Tryz.zeroValue132
 underlying_tI32:=Tryz.underlying185
 runUnderlying_tI32:=Tryz.runUnderlying185
 sizeOf_tI32:=Tryz.sizeOf185
 isAgg_tI32:=Tryz.isAgg185
 zeroValue_tI32:=Tryz.zeroValue185
 underlying_tWg:=Tryz.underlying73
 runUnderlying_tWg:=Tryz.runUnderlying73
 sizeOf_tWg:=Tryz.sizeOf73
 isAgg_tWg:=Tryz.isAgg73
 zeroValue_tWg:=Tryz.zeroValue73
 underlying_tAU:=Tryz.underlying71
 runUnderlying_tAU:=Tryz.runUnderlying71
 sizeOf_tAU:=Tryz.sizeOf71
 isAgg_tAU:=Tryz.isAgg71
 zeroValue_tAU:=Tryz.zeroValue71
 underlying_tU64:=Tryz.underlying69
 runUnderlying_tU64:=Tryz.runUnderlying69
 sizeOf_tU64:=Tryz.sizeOf69
 isAgg_tU64:=Tryz.isAgg69
 zeroValue_tU64:=Tryz.zeroValue69
 underlying_tSh:=Tryz.underlying130
 runUnderlying_tSh:=Tryz.runUnderlying130
 sizeOf_tSh:=Tryz.sizeOf130
 isAgg_tSh:=Tryz.isAgg130
 zeroValue_tSh:=Tryz.zeroValue130
 underlying_tU32:=Tryz.underlying60
 runUnderlying_tU32:=Tryz.runUnderlying60
 sizeOf_tU32:=Tryz.sizeOf60
 isAgg_tU32:=Tryz.isAgg60
 zeroValue_tU32:=Tryz.zeroValue60
 underlying_tPU32:=Tryz.underlying136
 runUnderlying_tPU32:=Tryz.runUnderlying136
 sizeOf_tPU32:=Tryz.sizeOf136
 isAgg_tPU32:=Tryz.isAgg136
 zeroValue_tPU32:=Tryz.zeroValue136
 underlying_tPAU:=Tryz.underlying177
 runUnderlying_tPAU:=Tryz.runUnderlying177
 sizeOf_tPAU:=Tryz.sizeOf177
 isAgg_tPAU:=Tryz.isAgg177
 zeroValue_tPAU:=Tryz.zeroValue177
 underlying_tPU64:=Tryz.underlying179
 runUnderlying_tPU64:=Tryz.runUnderlying179
 sizeOf_tPU64:=Tryz.sizeOf179
 isAgg_tPU64:=Tryz.isAgg179
 zeroValue_tPU64:=Tryz.zeroValue179
 underlying_t0:=Tryz.underlying0
 runUnderlying_t0:=Tryz.runUnderlying0
 sizeOf_t0:=Tryz.sizeOf0
 isAgg_t0:=Tryz.isAgg0
 zeroValue_t0:=Tryz.zeroValue0
 underlying_t3:=Tryz.underlying3
 runUnderlying_t3:=Tryz.runUnderlying3
 sizeOf_t3:=Tryz.sizeOf3
 isAgg_t3:=Tryz.isAgg3
 zeroValue_t3:=Tryz.zeroValue3
 underlying_t4:=Tryz.underlying4
 runUnderlying_t4:=Tryz.runUnderlying4
 sizeOf_t4:=Tryz.sizeOf4
 isAgg_t4:=Tryz.isAgg4
 zeroValue_t4:=Tryz.zeroValue4
 underlying_t9:=Tryz.underlying9
 runUnderlying_t9:=Tryz.runUnderlying9
 sizeOf_t9:=Tryz.sizeOf9
 isAgg_t9:=Tryz.isAgg9
 zeroValue_t9:=Tryz.zeroValue9
 underlying_t20:=Tryz.underlying20
 runUnderlying_t20:=Tryz.runUnderlying20
 sizeOf_t20:=Tryz.sizeOf20
 isAgg_t20:=Tryz.isAgg20
 zeroValue_t20:=Tryz.zeroValue20
 underlying_t21:=Tryz.underlying21
 runUnderlying_t21:=Tryz.runUnderlying21
 sizeOf_t21:=Tryz.sizeOf21
 isAgg_t21:=Tryz.isAgg21
 zeroValue_t21:=Tryz.zeroValue21
 room_tWg:=by kernel_rfl
 room_tU32:=by kernel_rfl
open Go.RowKit
def WK (P:Program) (main:Bool) (K:World→Prop) (E:Event→Prop) (Φ:Goroutine→Nat→Prop):Nat→Goroutine→Nat→Prop
 | 0,g,d=>Φ g d
 | n+1,g,d=>Φ g d∨(g.status= .running∧ ∃ g' es,(∀ e∈es,E e)∧(∀ u,K u→stepG P main g u= .go g' u es)∧WK P main K E Φ n g' (deafBehind d es))
def WKE (P:Program) (main:Bool) (K:World→Prop) (E:Event→Prop) (Φ:Goroutine→Nat→Prop) (g:Goroutine) (d:Nat):Prop:= ∃ n,WK P main K E Φ n g d
section
variable {P:Program} {main:Bool} {K:World→Prop} {E:Event→Prop} {Φ:Goroutine→Nat→Prop} {n d:Nat} {g g':Goroutine}
def fa2 (h:WKE P false K (fun e=>e.mute=true) Φ g d): ∃ n,WB P K Φ n g d:=by
 obtain ⟨n,h⟩:=h;refine ⟨n,?_⟩
 induction n generalizing g d with
 | zero=>exact h
 | succ n ih=>
   rcases h with h | ⟨h1,g',es,h2,h3,h4⟩
   · exact .inl h
   · exact .inr ⟨h1,g',es,h2,h3,ih h4⟩
def fe3 (h:WKE P false (fun _=>True) (fun e=>e.mute=true) (fun g d=>g.status= .finished∧d=0) g d): ∃ n,QuitsD P n d g:=by
 obtain ⟨n,h⟩:=h;refine ⟨n,?_⟩
 induction n generalizing g d with
 | zero=>exact h
 | succ n ih=>
   rcases h with h | ⟨h1,g',es,h2,h3,h4⟩
   · exact .inl h
   · exact .inr ⟨h1,g',es,h2,fun w=>h3 w trivial,ih h4⟩
def fu0 {b:Nat} {Shun:Loc→Prop} {St:Nat→Loc→Prop} {S:Nat→Option SeatD} {Ψ:Goroutine→World→Nat→Prop} {w:World} (hs:HasS b w) (hE: ∀ e,E e→EvM Shun St w.heap.size e) (hK: ∀ u,WgLv b u→K u) (h:WKE P true K E Φ g d) (hΦ: ∀ g d,Φ g d→ ∃ n,OM P b Shun St S Ψ n g w d): ∃ n,OM P b Shun St S Ψ n g w d:=by
 obtain ⟨n,h⟩:=h
 induction n generalizing g d with
 | zero=>exact hΦ _ _ h
 | succ n ih=>
   rcases h with h | ⟨h1,g',es,h2,h3,h4⟩
   · exact hΦ _ _ h
   · obtain ⟨m,hm⟩:=ih h4;exact ⟨m+1,.inr ⟨h1,g',w,es,fun x y t=>h3 _ (hK _ ((wo hs).at t).lv),w9 w,fun e he=>hE e (h2 e he),hm⟩⟩
def WKE.mono {Φ':Goroutine→Nat→Prop} (h:WKE P main K E Φ g d) (h': ∀ g d,Φ g d→WKE P main K E Φ' g d):WKE P main K E Φ' g d:=by
 obtain ⟨n,h⟩:=h
 induction n generalizing g d with
 | zero=>exact h' _ _ h
 | succ n ih=>
   rcases h with h | ⟨h1,g',es,h2,h3,h4⟩
   · exact h' _ _ h
   · obtain ⟨m,hm⟩:=ih h4;exact ⟨m+1,.inr ⟨h1,g',es,h2,h3,hm⟩⟩
def ug (h:Φ g d):WKE P main K E Φ g d:=⟨0,h⟩
def ri (hs:g.status= .running) (h: ∀ u,stepG P main g u= .go g' u) (hq:WKE P main K E Φ g' d):WKE P main K E Φ g d:=by
 obtain ⟨n,hq⟩:=hq;exact ⟨n+1,.inr ⟨hs,g',#[],by simp,fun u _=>h u,hq⟩⟩
def fe4 (e:Event) (he:E e) (hs:g.status= .running) (h: ∀ u,K u→stepG P main g u= .go g' u #[e]) (hq:WKE P main K E Φ g' (deafBehind d #[e])):WKE P main K E Φ g d:=by
 obtain ⟨n,hq⟩:=hq;exact ⟨n+1,.inr ⟨hs,g',#[e],by simp [he],h,hq⟩⟩
variable {b b₀:Frame} {a a₀:Act} {k:List Item} {cs:List Frame} {ops:Array Oper} {i:Nat} {rest:List Nat} {o:Oper} {todo:List Item}
def ww (v:Value) (ho:ops[i]? =some o) (hw:Region.wanted o (yielded ops a.tmps)=true) (hk:b.kind≠ .early) (hr: ∀ u,K u→(execOp a.eval o).run P u= .ok (.value v) u) (he: ∀ u,K u→(execOp a.eval o).events P u #[]= #[])
    (hq:WKE P main K E Φ (G (b.at (a.put o.dst v) (.inRegion ops rest::k)) cs) d):WKE P main K E Φ (G (b.at a (.inRegion ops (i::rest)::k)) cs) d:=by
 obtain ⟨n,hq⟩:=hq;exact ⟨n+1,.inr ⟨rfl,_,#[],by simp,fun u hu=>by rw [stepG_value ho hw hk (hr u hu)];unfold listed;rw [he u hu,seen_none],hq⟩⟩
def wk_skip (ho:ops[i]? =some o) (hw:Region.wanted o (yielded ops a.tmps)=false) (hq:WKE P main K E Φ (G (b.at (a.put o.dst undef) (.inRegion ops rest::k)) cs) d):WKE P main K E Φ (G (b.at a (.inRegion ops (i::rest)::k)) cs) d:=
 ri rfl (fun _=>stepG_unwanted ho hw) hq
def i7 {f:FuncId} {fn:Func} {c:Code} {args:Array Operand} {ats:Array TypeId} (ho:ops[i]? =some o) (hw:Region.wanted o (yielded ops a.tmps)=true) (hk:b.kind≠ .early) (hop:o.op= .call { callee:= .value (.func f),args,argTypes:=ats })
    (hf:P.funcs[f]? =some fn) (hname:(fn.name== "runtime.NumGoroutine")=false) (hb:fn.body=some c)
    (hq:WKE P main K E Φ (G ((base f).at { tmps:=args.map a.eval++Array.replicate (fn.ntmps-(args.map a.eval).size) undef,defers:=[] } [.code c]) (b.at a (.inRegion ops (i::rest)::k)::cs)) d):WKE P main K E Φ (G (b.at a (.inRegion ops (i::rest)::k)) cs) d:=
 ri rfl (fun u=>by
    have hb':fn.body.isNone=false:=by rw [hb];rfl
    rw [stepG_enter ho hw hk (run_call_body hop hf hname hb'),Go.Conc.enter_at _ hf hb];have:listed P b.fn a o u= #[]:=by unfold listed;rw [events_call_body hop hf hname hb'];exact seen_none P _
    rw [this]) hq
def fmj {f:FuncId} {xs:Array Operand} {ats:Array TypeId} (ho:ops[i]? =some o) (hw:Region.wanted o (yielded ops a.tmps)=true) (hk:b.kind≠ .early) (hop:o.op= .defer { callee:= .value (.func f),args:=xs,argTypes:=ats })
    (hq:WKE P main K E Φ (G (b.at (Act.put ⟨a.tmps,dcall f (xs.map a.eval)::a.defers⟩ o.dst undef) (.inRegion ops rest::k)) cs) d):WKE P main K E Φ (G (b.at a (.inRegion ops (i::rest)::k)) cs) d:=
 ri rfl (fun _=>stepG_defer ho hw hk hop) hq
def yo {fn:Func} (hn:b.kind= .normal) (hd:a.defers=[]) (hf:P.funcs[b.fn]? =some fn) (hr:fn.results= #[]) (hq:WKE P main K E Φ (G (b₀.at (a₀.put ((ops[i]?).bind (·.dst)) (.tuple #[])) (.inRegion ops rest::k)) cs) d):
    WKE P main K E Φ (G { b.at a todo with mode:= .returning } (b₀.at a₀ (.inRegion ops (i::rest)::k)::cs)) d:=
 ri rfl (fun u=>by rw [stepG_leave hn hd hf (f2g hr _ P u) (events_results_none hr _ _),f0i]) hq
def vw {fn:Func} {t:Tmp} (hn:b.kind= .normal) (hd:a.defers=[]) (hf:P.funcs[b.fn]? =some fn) (hr:fn.results= #[.tmp t]) (hq:WKE P main K E Φ (G (b₀.at (a₀.put ((ops[i]?).bind (·.dst)) (a.tmps.getD t undef)) (.inRegion ops rest::k)) cs) d):
    WKE P main K E Φ (G { b.at a todo with mode:= .returning } (b₀.at a₀ (.inRegion ops (i::rest)::k)::cs)) d:=
 ri rfl (fun u=>by rw [stepG_leave hn hd hf (f0x hr _ P u) (events_results_tmp hr _ _),f0i]) hq
def fa3 {fn:Func} {c:Frame} (hn:b.kind= .deferred) (hd:a.defers=[]) (hf:P.funcs[b.fn]? =some fn) (hr:fn.results= #[]) (hc:c.mode= .returning) (hq:WKE P main K E Φ (G c cs) d):
    WKE P main K E Φ (G { b.at a todo with mode:= .returning } (c::cs)) d:=
 ri rfl (fun u=>stepG_leave_deferred hn hd hf (f2g hr _ P u) (events_results_none hr _ _) hc) hq
def i8 {f:FuncId} {fn:Func} {xs:Array Operand} {ats:Array TypeId} (m:Mark) (hm: ∀ g,m≠ .extern g) (hE:E ⟨.mark m,false,true⟩) (ho:ops[i]? =some o) (hw:Region.wanted o (yielded ops a.tmps)=true) (hk:b.kind≠ .early) (hop:o.op= .call { callee:= .value (.func f),args:=xs,argTypes:=ats })
    (hf:P.funcs[f]? =some fn) (hname:(fn.name== "runtime.NumGoroutine")=false) (hb:fn.body.isNone=true) (hn:Extern.findNext fn=none) (he:Extern.find fn=some (fun _=>do mark m;pure Extern.Race.none_))
    (hq:WKE P main K E Φ (G (b.at (a.put o.dst (.tuple #[])) (.inRegion ops rest::k)) cs) (deafBehind d #[⟨.mark m,false,true⟩])):WKE P main K E Φ (G (b.at a (.inRegion ops (i::rest)::k)) cs) d:=
 fe4 _ hE rfl (fun _ _=>stepG_mark0 m hm ho hw hk hop hf hname hb hn he) hq
def fqk {f:FuncId} {fn:Func} {xs:Array Operand} {ats:Array TypeId} (v:Value) (ho:ops[i]? =some o) (hw:Region.wanted o (yielded ops a.tmps)=true) (hk:b.kind≠ .early) (hop:o.op= .call { callee:= .value (.func f),args:=xs,argTypes:=ats })
    (hf:P.funcs[f]? =some fn) (hname:(fn.name== "runtime.NumGoroutine")=false) (hb:fn.body.isNone=true) (hn:Extern.findNext fn=none) (he:Extern.find fn=some (fun _=>pure v))
    (hq:WKE P main K E Φ (G (b.at (a.put o.dst v) (.inRegion ops rest::k)) cs) d):WKE P main K E Φ (G (b.at a (.inRegion ops (i::rest)::k)) cs) d:=
 ri rfl (fun _=>stepG_entry_pure v ho hw hk hop hf hname hb hn he) hq
def dm {f:FuncId} {fn:Func} {ds:List Deferred} (m:Mark) (hE:E ⟨.mark m,false,true⟩) (hx: ∀ g,m≠ .extern g) (hd:a.defers=dcall f #[]::ds) (hf:P.funcs[f]? =some fn) (hname:(fn.name== "runtime.NumGoroutine")=false) (hb:fn.body.isNone=true) (hn:Extern.findNext fn=none)
    (he:Extern.find fn=some (fun _=>do mark m;pure Extern.Race.none_)) (hq:WKE P main K E Φ (G { b.at ⟨a.tmps,ds⟩ todo with mode:= .returning } cs) (deafBehind d #[⟨.mark m,false,true⟩])):WKE P main K E Φ (G { b.at a todo with mode:= .returning } cs) d:=
 fe4 _ hE rfl (fun u _=>stepG_unwind_entry (v:= .tuple #[]) hd hf hname hb hn he (by simp [Extern.Race.none_]) fi (by
    intro x hx';simp at hx';subst hx';exact ⟨rfl,fun g h=>hx g (Loc.mark.inj h)⟩)) hq
def ffs {f:FuncId} {fn:Func} {c:Code} {args:Array Value} {ds:List Deferred} (hd:a.defers=dcall f args::ds) (hf:P.funcs[f]? =some fn) (hname:(fn.name== "runtime.NumGoroutine")=false) (hb:fn.body=some c)
    (hq:WKE P main K E Φ (G ((baseD f).at { tmps:=args++Array.replicate (fn.ntmps-args.size) undef,defers:=[] } [.code c]) ({ b.at ⟨a.tmps,ds⟩ todo with mode:= .returning }::cs)) d):WKE P main K E Φ (G { b.at a todo with mode:= .returning } cs) d:=
 ri rfl (fun _=>stepG_unwind_enter hd hf hname hb) hq
end
section
open Go.ConcR.Gen
variable {main:Bool} {K:World→Prop} {E:Event→Prop} {Φ:Goroutine→Nat→Prop} {d:Nat} {b:Frame} {a:Act} {k:List Item} {cs:List Frame} {ops:Array Oper} {i:Nat} {rest:List Nat} {o:Oper} {todo:List Item}
def faq {p:Addr} {x:Operand} {src:TypeId} {t:TypeId} (hop:o.op= .convert src 132 x) (hx:a.eval x= .pointer (some p)) (hs:Tryz.prog.underlying src=some (.pointer t)) (hz:(Tryz.prog.info? t).map (fun i=>decide (i.size=0))=some false) (hK: ∀ u,K u→ ∃ v,u.cell? p=some v)
    (ho:ops[i]? =some o) (hw:Region.wanted o (yielded ops a.tmps)=true) (hk:b.kind≠ .early) (hq:WKE Tryz.prog main K E Φ (G (b.at (a.put o.dst (.pointer (some p))) (.inRegion ops rest::k)) cs) d):WKE Tryz.prog main K E Φ (G (b.at a (.inRegion ops (i::rest)::k)) cs) d:=by
 refine ww (.pointer (some p)) ho hw hk (fun u hu=> ?_) (fun u hu=> ?_) hq
 · obtain ⟨v,hv⟩:=hK u hu;have h1:=f3v (P:=Tryz.prog) hs Tryz.underlying132 hz hv;unfold execOp;rw [hop];refine qw ?_;rw [hx];exact h1
 · obtain ⟨v,hv⟩:=hK u hu;have h1:=f3v (P:=Tryz.prog) hs Tryz.underlying132 hz hv;have h2:=f4u (P:=Tryz.prog) hs Tryz.underlying132 hz hv #[];unfold execOp;rw [hop];show ((convert src 132 (a.eval x) >>= fun x=>(Pure.pure (Next.value x):Sem Next)).runT Tryz.prog u #[]).2=_;rw [hx];simp [go_sem,h1,h2]
end
section
open Go.ConcR.Gen
variable {P:Program} {main:Bool} {K:World→Prop} {E:Event→Prop} {Φ:Goroutine→Nat→Prop} {d:Nat} {b:Frame} {a:Act} {k:List Item} {cs:List Frame} {ops:Array Oper} {i:Nat} {rest:List Nat} {o:Oper} {x y:Code}
def wv (v:Value) (hq:WKE P main K E Φ (G (b.at (a.put o.dst v) (.inRegion ops rest::k)) cs) d) (ho:ops[i]? =some o:=by rfl) (hw:Region.wanted o (yielded ops a.tmps)=true:=by rfl) (hk:b.kind≠ .early:=by k_ne) (hr: ∀ u,K u→(execOp a.eval o).run P u= .ok (.value v) u:=by intro _ _;go_simp) (he: ∀ u,K u→(execOp a.eval o).events P u #[]= #[]:=by intro _ _;simp [go_sem]):WKE P main K E Φ (G (b.at a (.inRegion ops (i::rest)::k)) cs) d:=ww v ho hw hk hr he hq
def wu (v:Value) (hq:WKE P main K E Φ (G (b.at (a.put o.dst v) (.inRegion ops rest::k)) cs) d) (ho:ops[i]? =some o:=by rfl) (hw:Region.wanted o (yielded ops a.tmps)=true:=by rfl) (hk:b.kind≠ .early:=by k_ne) (hr: ∀ u,K u→(execOp a.eval o).run P u= .ok (.value v) u:=by intro _ _;go_simp;try (first | omega | (w_num;omega) | w_num | decide)) (he: ∀ u,K u→(execOp a.eval o).events P u #[]= #[]:=by intro _ _;simp [go_sem]):WKE P main K E Φ (G (b.at a (.inRegion ops (i::rest)::k)) cs) d:=ww v ho hw hk hr he hq
def wf {z:Operand} (hq:WKE P main K E Φ (G (b.at a (.code y::k)) cs) d) (h:a.eval z= .bool false:=by rfl):WKE P main K E Φ (G (b.at a (.code (.cond z x y)::k)) cs) d:=ri rfl (fun _=>stepG_cond (t:=false) h) hq
def wt {z:Operand} (hq:WKE P main K E Φ (G (b.at a (.code x::k)) cs) d) (h:a.eval z= .bool true:=by rfl):WKE P main K E Φ (G (b.at a (.code (.cond z x y)::k)) cs) d:=ri rfl (fun _=>stepG_cond (t:=true) h) hq
def wq (hq:WKE P main K E Φ (G (b.at a (.code x:: .code y::k)) cs) d):WKE P main K E Φ (G (b.at a (.code (.seq x y)::k)) cs) d:=ri rfl (fun _=>f4d) hq
def we (hq:WKE P main K E Φ (G (b.at a k) cs) d):WKE P main K E Φ (G (b.at a (.inRegion ops []::k)) cs) d:=ri rfl (fun _=>f1o) hq
def wr {id:Nat} (hq:WKE P main K E Φ (G (b.at a (.inRegion ops (List.range ops.size)::k)) cs) d):WKE P main K E Φ (G (b.at a (.code (.region id ops false)::k)) cs) d:=ri rfl (fun _=>f2o) hq
def ws (hq:WKE P main K E Φ (G (b.at a k) cs) d):WKE P main K E Φ (G (b.at a (.code .skip::k)) cs) d:=ri rfl (fun _=>stepG_skip) hq
def wz (hq:WKE P main K E Φ (G (b.at (a.put o.dst undef) (.inRegion ops rest::k)) cs) d) (ho:ops[i]? =some o:=by rfl) (hw:Region.wanted o (yielded ops a.tmps)=false:=by rfl):WKE P main K E Φ (G (b.at a (.inRegion ops (i::rest)::k)) cs) d:=wk_skip ho hw hq
end
end Go.Proofs.YtelecjnabeokeaaGreatDoor
namespace Go.Proofs.YtelecjnabeokeaaGreatDoor
open Go Go.Conc
def oper (dst:Option Nat) (o:Op) (ty:TypeId):Oper:={ dst:=dst,op:=o,type:=ty,pos:= "",after:= #[],guard:=none }
def doV:Func:={ name:= "do",origin:= "",params:= #[78,116],resultTypes:= #[49],nfree:=0,ntmps:=11,results:= #[.tmp 4],norace:=false,tmpNames:= #[],body:=some (.seq (.region 100 #[oper (some 5) (.call { callee:= .builtin .cap,args:= #[.tmp 0],argTypes:= #[78] }) 3,oper (some 6) (.binOp .eql 3 (.tmp 5) (.const (.int .i64 0)) 3) 4] false) (.cond (.tmp 6) (.seq (.region 101 #[oper (some 7) (.select #[{ chan:= .tmp 0,send:=none,elem:=1 }] false) 0,oper (some 8) (.extract (.tmp 7) 1) 4] false) (.cond (.tmp 8) (.seq (.region 102 #[oper (some 3) (.box 116 (.tmp 1)) 0,oper (some 9) (.makeChan 163 (.const (.int .i64 0))) 163,oper (some 10) (.box 163 (.const (.agg #[]))) 0] false) (.seq (.region 103 #[oper (some 4) (.call { callee:= .value (.tmp 1),args:= #[],argTypes:= #[] }) 49] false) (.seq (.region 104 #[oper none (.send (.tmp 0) (.const (.bool true))) 0] false) .ret))) (.refuse "busy"))) (.refuse "no worker"))) }
def chk (g:Nat):Oper:=oper none (.binOp .eql 99 (.tmp 0) (.const (.pointer (some ⟨g,0,none⟩))) 99) 4
abbrev chkR:Code:= .region 90 #[chk 0,chk 1] false
abbrev mkV (name:String) (params results:Array TypeId) (ntmps:Nat) (rs:Array ResultVar) (c:Code):Func:={ name:=name,origin:= "",params:=params,resultTypes:=results,nfree:=0,ntmps:=ntmps,results:=rs,norace:=true,tmpNames:= #[],body:=some c }
def fql:Code:= .seq (.region 0 #[oper (some 1) (.load 21 (.tmp 0)) 21,oper (some 2) (.binOp .eql 21 (.tmp 1) (.const (.int .i32 0)) 21) 4] false) (.cond (.tmp 2) (.seq (.region 1 #[oper none (.store 21 (.tmp 0) (.const (.int .i32 1))) 0] false) .ret) (.refuse "locked"))
def lockV:Func:=mkV "lock" #[172] #[] 3 #[] (.seq chkR fql)
def fe5:Code:= .seq (.region 0 #[oper (some 1) (.load 21 (.tmp 0)) 21,oper (some 2) (.binOp .eql 21 (.tmp 1) (.const (.int .i32 1)) 21) 4] false) (.cond (.tmp 2) (.seq (.region 1 #[oper none (.store 21 (.tmp 0) (.const (.int .i32 0))) 0] false) .ret) (.refuse "not locked"))
def unlockV:Func:=mkV "unlock" #[172] #[] 3 #[] (.seq chkR fe5)
def ccB:Code:= .seq (.region 0 #[oper (some 1) (.fieldAddr 102 (.tmp 0) 0) 0,oper (some 2) (.load 99 (.tmp 1)) 99,oper (some 3) (.binOp .eql 99 (.tmp 2) (.const (.pointer none)) 99) 4] false)
 (.cond (.tmp 3) (.seq (.region 1 #[oper (some 4) (.call { callee:= .builtin .unsafeSlice,args:= #[.tmp 0,.const (.int .i64 1)],argTypes:= #[99,3] }) 0,oper none (.store 99 (.tmp 1) (.tmp 0)) 0] false) .ret) (.seq (.region 2 #[oper (some 4) (.binOp .eql 99 (.tmp 2) (.tmp 0) 99) 4] false) (.cond (.tmp 4) .ret (.refuse "another's"))))
def ccV:Func:=mkV "copyCheck" #[99] #[] 5 #[] (.seq chkR ccB)
abbrev zm:Array Oper:= #[oper (some 6) (.call { callee:= .value (.func 87),args:= #[.tmp 0],argTypes:= #[87] }) 4]
def putT:Code:= .cond (.tmp 6) (.seq (.region 2 #[oper (some 4) (.assign (.const (.bool false))) 4] false) .ret)
 (.seq (.region 3 #[oper (some 9) (.fieldAddr 149 (.tmp 0) 0) 0,oper (some 10) (.load 146 (.tmp 9)) 146,oper (some 2) (.binOp .eql 146 (.tmp 10) (.const (.chan none)) 146) 4] false)
    (.cond (.tmp 2) (.refuse "no channel") (.seq (.region 4 #[oper (some 7) (.call { callee:= .builtin .cap,args:= #[.tmp 10],argTypes:= #[146] }) 3,oper (some 15) (.binOp .eql 3 (.tmp 7) (.const (.int .i64 0)) 3) 4] false)
      (.cond (.tmp 15) (.refuse "no room") (.seq (.region 5 #[oper (some 11) (.load 110 (.tmp 3)) 110,oper none (.send (.tmp 10) (.tmp 11)) 0,oper (some 4) (.assign (.const (.bool true))) 4] false) .ret)))))
def putB:Code:= .seq (.region 0 #[oper (some 3) (.box 110 (.tmp 1)) 0] false) (.seq (.region 1 zm false) putT)
def putV:Func:=mkV "put" #[87,110] #[4] 16 #[.tmp 4] (.seq chkR putB)
def fo6 :Code:= .seq (.region 0 #[oper (some 5) (.fieldAddr 149 (.tmp 0) 1) 0,oper (some 7) (.load 147 (.tmp 5)) 147,oper (some 8) (.binOp .eql 147 (.tmp 7) (.const (.pointer none)) 147) 4] false)
 (.seq (.cond (.tmp 8) (.seq (.region 1 #[oper (some 9) (.fieldAddr 149 (.tmp 0) 0) 0,oper (some 12) (.load 146 (.tmp 9)) 146,oper (some 10) (.call { callee:= .builtin .cap,args:= #[.tmp 12],argTypes:= #[146] }) 3,oper (some 11) (.binOp .eql 3 (.tmp 10) (.const (.int .i64 0)) 3) 4] false)
   (.cond (.tmp 11) (.refuse "no room") (.seq (.region 2 #[oper (some 13) (.select #[{ chan:= .tmp 12,send:=none,elem:=110 }] false) 0,oper (some 14) (.extract (.tmp 13) 0) 3,oper (some 15) (.binOp .eql 3 (.tmp 14) (.const (.int .i64 0)) 3) 4] false)
       (.cond (.tmp 15) (.region 3 #[oper (some 16) (.extract (.tmp 13) 2) 110,oper (some 3) (.alloc 110) 0,oper none (.store 110 (.tmp 3) (.tmp 16)) 0,oper none (.store 147 (.tmp 5) (.tmp 3)) 0] false) .skip)))) .skip)
    (.seq (.region 5 #[oper (some 2) (.load 147 (.tmp 5)) 147] false) .ret))
def peekV:Func:=mkV "peek" #[87] #[147] 24 #[.tmp 2] (.seq chkR fo6)
def refused:Func:={ name:= "refused",origin:= "",params:= #[],resultTypes:= #[],nfree:=0,ntmps:=0,results:= #[],body:=none,norace:=false,tmpNames:= #[] }
def rowsKept:List Nat:=[80,81,82,84,113,114,130,146,157,158,159,160]
def specials:List Nat:=[46,57,58,75,90,116]
noncomputable def nt (i:Nat) (fn:Func):Func:=
 if i=46 then doV else if i=57 then lockV else if i=58 then unlockV else if i=75 then ccV else if i=90 then putV else if i=116 then peekV else
 if rowsKept.contains i then fn else match fn.body with
  | some c=>if va c&&yb c&&fn.name != "runtime.NumGoroutine" then fn else refused
  | none=>refused
noncomputable def rg:Array Func:=Tryz.prog.funcs.mapIdx nt
noncomputable abbrev PV:Program:=V Tryz.prog rg
def wy (i:Nat):rg[i]? =(Tryz.prog.funcs[i]?).map (nt i):=by
 unfold rg;rw [f4x]
def fqm : nq rg :=by
 intro i fn c h hb;rw [wy] at h;obtain ⟨fn0,h0,rfl⟩:=fy8.1 h;unfold nt at hb;split at hb
 · cases hb;kernel_rfl
 · split at hb
   · cases hb;kernel_rfl
   · split at hb
     · cases hb;kernel_rfl
     · split at hb
       · cases hb;kernel_rfl
       · split at hb
         · cases hb;kernel_rfl
         · split at hb
           · cases hb;kernel_rfl
           · split at hb
             · rename_i hr;exfalso
               have:fn0.body=none:=by
                 simp only [rowsKept,List.contains_cons,List.contains_nil,Bool.or_false,f4n,f5g] at hr;rcases hr with rfl | rfl | rfl | rfl | rfl | rfl | rfl | rfl | rfl | rfl | rfl | rfl
                 · rw [Tryz.func80] at h0;cases h0;kernel_rfl
                 · rw [Tryz.func81] at h0;cases h0;kernel_rfl
                 · rw [Tryz.func82] at h0;cases h0;kernel_rfl
                 · rw [Tryz.func84] at h0;cases h0;kernel_rfl
                 · rw [Tryz.func113] at h0;cases h0;kernel_rfl
                 · rw [Tryz.func114] at h0;cases h0;kernel_rfl
                 · rw [Tryz.func130] at h0;cases h0;kernel_rfl
                 · rw [Tryz.func146] at h0;cases h0;kernel_rfl
                 · rw [Tryz.func157] at h0;cases h0;kernel_rfl
                 · rw [Tryz.func158] at h0;cases h0;kernel_rfl
                 · rw [Tryz.func159] at h0;cases h0;kernel_rfl
                 · rw [Tryz.func160] at h0;cases h0;kernel_rfl
               rw [this] at hb;cases hb
             · split at hb
               · rename_i c0 hc0;split at hb
                 · rename_i hok;rw [hc0] at hb;cases hb;simp only [f04] at hok;exact hok.1.1
                 · cases hb
               · cases hb
def fbo {F:Array Func} {P:Program} {f:Nat} (h:F[f]? =some refused) (xs:Array Value):Vain (V P F) (callFunc f xs):=by
 intro v;have e1:Extern.findNext refused=none:=by kernel_rfl
 have e2:Extern.find refused=none:=by kernel_rfl
 refine ⟨.unsupported (.extern "refused"),v,?_,rfl⟩;show (Sem.bind (.program .pure) _).run (V P F) v=_;have h3:(refused.name== "runtime.NumGoroutine")=false:=by kernel_rfl
 have h4:(refused.name.endsWith ".init" && !refused.name.startsWith "(" && !refused.name.startsWith "gosem.")=false:=by kernel_rfl
 simp only [Sem.bind,Sem.run,h,h3,f0g,f0s];show (Sem.bind (Go.mark (.extern f)) _).run (V P F) v=_;simp only [Go.mark,Sem.bind,Sem.run,e1,e2,h4];rfl
section
variable {P:Program} {F:Array Func} {N:Nat→Prop}
def row80 (xs:Array Value):Sim P F N (Extern.ReflectliteValue.unpack (xs.getD 0 (.tuple #[]))):=fbh _
def row81 (xs:Array Value):Sim P F N (Extern.ReflectliteValue.methodAny (Extern.ReflectliteValue.valueError "reflectlite.Value.Type" 0) (fun t _ _ _=>Extern.ReflectliteType.toType t) xs):=fdg _ _ (xw _ _) (fun t _ _ _=>lf t) xs
def row82 (xs:Array Value):Sim P F N (Extern.ReflectliteValue.method (Extern.ReflectliteValue.valueError "reflectlite.Value.IsNil" 0) Extern.ReflectliteValue.isNil xs):=fbi _ _ (xw _ _) (fun t a x y=>fda t a x y) xs
def row113 (xs:Array Value):Sim P F N (Extern.ReflectliteValue.method (Extern.ReflectliteValue.valueError "reflectlite.Value.Elem" 0) Extern.ReflectliteValue.elem xs):=fbi _ _ (xw _ _) (fun t a x y=>ffl t a x y) xs
def row146 (xs:Array Value):Sim P F N (Extern.ReflectliteType.abiMethod (fun t=>do Pure.pure (.int .u8 (← Extern.Rtype.kind t))) xs):=fdh _ (fun t=>Sim.bind' (fm6 t) fun _=>Sim.pure' _) xs
def row157 (xs:Array Value):Sim P F N (Extern.ReflectliteType.relation "AssignableTo" Extern.ReflectliteType.assignableTo xs):=nk _ _ (fun t u=>ik t u) xs
def row158 (xs:Array Value):Sim P F N (Extern.ReflectliteType.method (fun t=>do Extern.Rtype.noPackHeld "Comparable" t;Pure.pure (.bool (← typeInfo t).comparable)) xs):=fbj _ (fun t=>Sim.bind' (nd _ t) fun _=>Sim.bind' (Sim.typeInfo' t) fun _=>Sim.pure' _) xs
def row159 (xs:Array Value):Sim P F N (Extern.ReflectliteType.method Extern.ReflectliteType.elem xs):=fbj _ (fun t=>ffm t) xs
def row160 (xs:Array Value):Sim P F N (Extern.ReflectliteType.relation "Implements" Extern.ReflectliteType.implements_ xs):=nk _ _ (fun t u=>ij t u) xs
end
def fqn {i:Nat} {fn:Func} (hi:i∈rowsKept) (h:Tryz.prog.funcs[i]? =some fn):fn.name≠ "runtime.NumGoroutine" ∧Extern.findNext fn=none∧ ∃ e,Extern.find fn=some e∧ ∀ (P:Program) (F:Array Func) N xs,Sim P F N (e xs):=by
 have hn: ∀ {f:Func},(f.name== "runtime.NumGoroutine")=false→f.name≠ "runtime.NumGoroutine" :=fun h e=>by simp [e] at h
 simp only [rowsKept,fy3,fz8,f0z] at hi;rcases hi with rfl | rfl | rfl | rfl | rfl | rfl | rfl | rfl | rfl | rfl | rfl | rfl
 · rw [Tryz.func80] at h;cases h;exact ⟨hn fd,by kernel_rfl,_,(by kernel_rfl:Extern.find Tryz.f80=some (fun args=>Extern.ReflectliteValue.unpack (args.getD 0 (.tuple #[])))),fun P F N xs=>row80 xs⟩
 · rw [Tryz.func81] at h;cases h;exact ⟨hn fd,by kernel_rfl,_,(by kernel_rfl:Extern.find Tryz.f81=some (Extern.ReflectliteValue.methodAny (Extern.ReflectliteValue.valueError "reflectlite.Value.Type" 0) fun t _ _ _=>Extern.ReflectliteType.toType t)),fun P F N xs=>row81 xs⟩
 · rw [Tryz.func82] at h;cases h;exact ⟨hn fd,by kernel_rfl,_,(by kernel_rfl:Extern.find Tryz.f82=some (Extern.ReflectliteValue.method (Extern.ReflectliteValue.valueError "reflectlite.Value.IsNil" 0) Extern.ReflectliteValue.isNil)),fun P F N xs=>row82 xs⟩
 · rw [Tryz.func84] at h;cases h;exact ⟨hn fd,by kernel_rfl,_,(by kernel_rfl:Extern.find Tryz.f84=some Extern.ReflectliteType.typeOf),fun P F N xs=>fbk xs⟩
 · rw [Tryz.func113] at h;cases h;exact ⟨hn fd,by kernel_rfl,_,(by kernel_rfl:Extern.find Tryz.f113=some (Extern.ReflectliteValue.method (Extern.ReflectliteValue.valueError "reflectlite.Value.Elem" 0) Extern.ReflectliteValue.elem)),fun P F N xs=>row113 xs⟩
 · rw [Tryz.func114] at h;cases h;exact ⟨hn fd,by kernel_rfl,_,(by kernel_rfl:Extern.find Tryz.f114=some Extern.ReflectliteValue.set),fun P F N xs=>fif xs⟩
 · rw [Tryz.func130] at h;cases h;exact ⟨hn fd,by kernel_rfl,_,(by kernel_rfl:Extern.find Tryz.f130=some Extern.MapsClone.clone),fun P F N xs=>t6 xs⟩
 · rw [Tryz.func146] at h;cases h;exact ⟨hn fd,by kernel_rfl,_,(by kernel_rfl:Extern.find Tryz.f146=some (Extern.ReflectliteType.abiMethod fun t=>do Pure.pure (.int .u8 (← Extern.Rtype.kind t)))),fun P F N xs=>row146 xs⟩
 · rw [Tryz.func157] at h;cases h;exact ⟨hn fd,by kernel_rfl,_,(by kernel_rfl:Extern.find Tryz.f157=some (Extern.ReflectliteType.relation "AssignableTo" Extern.ReflectliteType.assignableTo)),fun P F N xs=>row157 xs⟩
 · rw [Tryz.func158] at h;cases h;exact ⟨hn fd,by kernel_rfl,_,(by kernel_rfl:Extern.find Tryz.f158=some (Extern.ReflectliteType.method fun t=>do Extern.Rtype.noPackHeld "Comparable" t;Pure.pure (.bool (← typeInfo t).comparable))),fun P F N xs=>row158 xs⟩
 · rw [Tryz.func159] at h;cases h;exact ⟨hn fd,by kernel_rfl,_,(by kernel_rfl:Extern.find Tryz.f159=some (Extern.ReflectliteType.method Extern.ReflectliteType.elem)),fun P F N xs=>row159 xs⟩
 · rw [Tryz.func160] at h;cases h;exact ⟨hn fd,by kernel_rfl,_,(by kernel_rfl:Extern.find Tryz.f160=some (Extern.ReflectliteType.relation "Implements" Extern.ReflectliteType.implements_)),fun P F N xs=>row160 xs⟩
def fj1 {F:Array Func} {P:Program} {f:Nat} (h:F[f]? =none) (xs:Array Value):Vain (V P F) (callFunc f xs):=by
 intro v;refine ⟨.stuck "call: no such function",v,?_,rfl⟩;show (Sem.bind (.program .pure) _).run (V P F) v=_;simp only [Sem.bind,Sem.run,h];rfl
def fft: ∀ s d,(s,d)∈convs→(∃ k,Tryz.prog.underlying s=some (.int k))∧ ∃ k,Tryz.prog.underlying d=some (.int k):=by
 intro s d h;simp only [convs,fy3,f2e,fz8,f0z] at h;rcases h with ⟨rfl,rfl⟩ | ⟨rfl,rfl⟩ | ⟨rfl,rfl⟩ | ⟨rfl,rfl⟩
 · exact ⟨⟨_,Tryz.underlying21⟩,_,Tryz.underlying3⟩
 · exact ⟨⟨_,Tryz.underlying21⟩,_,Tryz.underlying5⟩
 · exact ⟨⟨_,Tryz.underlying21⟩,_,Tryz.underlying60⟩
 · exact ⟨⟨_,Tryz.underlying3⟩,_,Tryz.underlying21⟩
def fj2: ∃ e,Tryz.prog.underlying 99=some (.pointer e)∧ ∀ m u,Tryz.prog.underlying e≠some (.array m u):=by
 refine ⟨_,Tryz.underlying99,fun m u h=> ?_⟩;rw [Tryz.underlying102] at h;cases h
def fa4 {i:Nat} {fn:Func} (hi:i∈specials) (h:Tryz.prog.funcs[i]? =some fn):fn.name≠ "runtime.NumGoroutine" ∧(nt i fn).name≠ "runtime.NumGoroutine" ∧fn.body.isSome=true∧(nt i fn).body.isSome=true:=by
 have hn: ∀ {f:Func},(f.name== "runtime.NumGoroutine")=false→f.name≠ "runtime.NumGoroutine" :=fun h e=>by simp [e] at h
 simp only [specials,fy3,fz8,f0z] at hi;rcases hi with rfl | rfl | rfl | rfl | rfl | rfl
 · rw [Tryz.func46] at h;cases h;exact ⟨hn fd,hn (by rfl),by kernel_rfl,by rfl⟩
 · rw [Tryz.func57] at h;cases h;exact ⟨hn fd,hn (by rfl),by kernel_rfl,by rfl⟩
 · rw [Tryz.func58] at h;cases h;exact ⟨hn fd,hn (by rfl),by kernel_rfl,by rfl⟩
 · rw [Tryz.func75] at h;cases h;exact ⟨hn fd,hn (by rfl),by kernel_rfl,by rfl⟩
 · rw [Tryz.func90] at h;cases h;exact ⟨hn fd,hn (by rfl),by kernel_rfl,by rfl⟩
 · rw [Tryz.func116] at h;cases h;exact ⟨hn fd,hn (by rfl),by kernel_rfl,by rfl⟩
def far (i:Nat):(rg[i]? =none)∨ ∃ fn,Tryz.prog.funcs[i]? =some fn∧((i∈specials∧rg[i]? =some (nt i fn))∨(rg[i]? =some refused)∨
    (rg[i]? =some fn∧fn.name≠ "runtime.NumGoroutine" ∧(i∈rowsKept∨ ∃ c,fn.body=some c∧va c=true∧yb c=true))):=by
 cases h:Tryz.prog.funcs[i]? with
 | none=>exact .inl (by rw [wy,h];rfl)
 | some fn =>
   refine .inr ⟨fn,rfl,?_⟩;have hg:rg[i]? =some (nt i fn):=by rw [wy,h];rfl
   by_cases hs:i∈specials
   · exact .inl ⟨hs,hg⟩
   · refine .inr ?_;simp only [specials,fy3,fz8,f0z,not_or] at hs;obtain ⟨h1,h2,h3,h4,h5,h6⟩:=hs;unfold nt at hg;rw [fx9 h1,fx9 h2,fx9 h3,fx9 h4,fx9 h5,fx9 h6] at hg;split at hg
     · rename_i hr;have hr:i∈rowsKept:=by simpa using hr
       exact .inr ⟨hg,(fqn hr h).1,.inl hr⟩
     · split at hg
       · rename_i c hc;split at hg
         · rename_i hok;simp only [f04,bne_iff_ne,ne_eq] at hok;exact .inr ⟨hg,hok.2,.inr ⟨c,hc,hok.1.1,hok.1.2⟩⟩
         · exact .inl hg
       · exact .inl hg
def fj3 {i:Nat} {fn:Func} (h:Tryz.prog.funcs[i]? =some fn) (hn:i∈rowsKept∨ ∃ c,fn.body=some c∧va c=true∧yb c=true) (P:Program) (F:Array Func):fn.body=none→Extern.findNext fn=none∧ ∃ e,Extern.find fn=some e∧ ∀ N xs,Sim P F N (e xs):=by
 intro hb;rcases hn with hr | ⟨c,hr,_⟩
 · obtain ⟨_,h1,e,h2,h3⟩:=fqn hr h;exact ⟨h1,e,h2,fun N xs=>h3 P F N xs⟩
 · rw [hb] at hr;cases hr
def md:FOk Tryz.prog rg:=by
 refine ⟨fft,fj2,fun i=> ?_⟩;rcases far i with hn | ⟨fn,h,⟨hs,hg⟩ | hg | ⟨hg,h1,h2⟩⟩
 · exact .inr (.inr (fj1 hn))
 · obtain ⟨a1,a2,a3,a4⟩:=fa4 hs h;exact .inr (.inl ⟨fn,_,h,hg,a1,a2,a3,a4⟩)
 · exact .inr (.inr (fbo hg))
 · exact .inl ⟨fn,h,hg,h1,fj3 h h2 _ _⟩
def fok_v {P:Program} {F:Array Func} (hl: ∃ e,P.underlying 99=some (.pointer e)∧ ∀ m u,P.underlying e≠some (.array m u)) (hc: ∀ s d,(s,d)∈convs→(∃ k,P.underlying s=some (.int k))∧ ∃ k,P.underlying d=some (.int k))
    (h: ∀ f,(∃ fn,F[f]? =some fn∧fn.name≠ "runtime.NumGoroutine" ∧(fn.body=none→Extern.findNext fn=none∧ ∃ e,Extern.find fn=some e∧ ∀ N xs,Sim (V P F) F N (e xs)))∨
      (∀ xs,Vain (V P F) (callFunc f xs))):FOk (V P F) F:=by
 refine ⟨fun s d h=> ?_,by simpa only [rq] using hl,fun f=> ?_⟩
 · rw [rq,rq];exact hc s d h
 · rcases h f with ⟨fn,h1,h2,h3⟩ | h1
   · exact .inl ⟨fn,h1,h1,h2,h3⟩
   · exact .inr (.inr h1)
def fqo:FOk PV rg:=by
 refine fok_v fj2 fft fun i=> ?_;rcases far i with hn | ⟨fn,h,⟨hs,hg⟩ | hg | ⟨hg,h1,h2⟩⟩
 · exact .inr (fj1 hn)
 · obtain ⟨a1,a2,a3,a4⟩:=fa4 hs h;exact .inl ⟨_,hg,a2,fun hb=>by rw [hb] at a4;cases a4⟩
 · exact .inr (fbo hg)
 · exact .inl ⟨fn,hg,h1,fj3 h h2 _ _⟩
end Go.Proofs.YtelecjnabeokeaaGreatDoor
namespace Go.Proofs.YtelecjnabeokeaaGreatDoor
open Go Go.RowKit
section
variable (P:Program) (F:Array Func) (w:World)
@[go_sem] def ua (t:TypeId):(underlying t).run (V P F) w=(underlying t).run P w:=by
  unfold underlying;simp only [Go.program,Bind.bind,Sem.bind,Sem.run,rq];cases P.underlying t <;>simp only [Pure.pure,Sem.run,Go.stuck]
@[go_sem] def fas (t:TypeId):(typeInfo t).run (V P F) w=(typeInfo t).run P w:=by
  unfold typeInfo;simp only [Go.program,Bind.bind,Sem.bind,Sem.run,fcr];cases P.info? t <;>simp only [Pure.pure,Sem.run,Go.stuck]
@[go_sem] def fce (t:TypeId):(sizeOf t).run (V P F) w=(sizeOf t).run P w:=by
  unfold sizeOf;simp only [fz9,fas];cases (typeInfo t).run P w <;>simp only [Result.andThen,Pure.pure,Sem.run]
@[go_sem] def V_zeroValue (t:TypeId):(zeroValue t).run (V P F) w=(zeroValue t).run P w:=by
  unfold zeroValue;simp only [fz9,fas];cases (typeInfo t).run P w with
  | ok i u=>simp only [Result.andThen];cases i.zero <;>simp only [Pure.pure,Sem.run,Go.unsupported]
  | halt h u=>simp only [Result.andThen]
@[go_sem] def V_isAgg (t:TypeId):(isAgg t).run (V P F) w=(isAgg t).run P w:=by
  unfold isAgg;simp only [fz9,ua];cases (underlying t).run P w with
  | ok i u=>simp only [Result.andThen];cases i <;>simp only [Pure.pure,Sem.run]
  | halt h u=>simp only [Result.andThen]
end
def fl2 (P:Program) (F:Array Func):(V P F).funcs=F:=rfl
def rd (i:Nat) (fn:Func) (c:Code) (h:Tryz.prog.funcs[i]? =some fn) (hs:specials.contains i=false) (hr:rowsKept.contains i=false) (hb:fn.body=some c) (hc:(va c&&yb c&&fn.name != "runtime.NumGoroutine")=true):PV.funcs[i]? =some fn:=by
 rw [fl2];rw [wy,h];simp only [fz3,f03];simp only [specials,List.contains_cons,List.contains_nil,Bool.or_false,Bool.or_eq_false_iff,beq_eq_false_iff_ne,ne_eq] at hs;obtain ⟨h1,h2,h3,h4,h5,h6⟩:=hs;unfold nt;rw [fx9 h1,fx9 h2,fx9 h3,fx9 h4,fx9 h5,fx9 h6,fx9 (by rw [hr];simp),hb];simp only [hc,f0e]
open Go.Conc
def fa5 (args:Array Value) (n:Nat): ∃ L:List Value,n≤L.length∧args++Array.replicate (n-args.size) undef=L.toArray∧ ∀ i,L.getD i undef=args.getD i undef:=by
 obtain ⟨l⟩:=args;refine ⟨l++List.replicate (n-l.length) undef,by simp;omega,by simp,fun i=> ?_⟩;simp only [f2n,Array.getD_eq_getD_getElem?,fy2];rcases f01 i l.length with h | h
 · rw [f1d h]
 · rw [f0y h,f2q h];rw [List.getElem?_replicate];split <;>rfl
attribute [go_sem] oper
def fo7 (r:Nat) (P:Program) (v:World):(∃ h v',(viewAt r).run P v= .halt h v'∧hard h=true)∨(∃ x,(viewAt r).run P v= .ok x v∧(x=none→ ∀ a u,v.heap[r]? ≠some (.view a u))):=by
 unfold viewAt;cases hs:v.shape? r with
 | some s=>
   refine .inr ⟨none,?_,fun _ a u e=> ?_⟩
   · simp [Go.shape,Bind.bind,Sem.bind,Sem.run,hs,Pure.pure]
   · simp [World.shape?,e] at hs
 | none=>
   cases ho:v.heap[r]? with
   | none=>exact .inl ⟨_,v,by simp [Go.shape,Go.getObj,Bind.bind,Sem.bind,Sem.run,hs,ho];rfl,rfl⟩
   | some o=>
     cases o with
     | cells c e f=>simp [World.shape?,ho] at hs
     | view a u=>exact .inr ⟨some (a,u),by simp [Go.shape,Go.getObj,Bind.bind,Sem.bind,Sem.run,hs,ho,Pure.pure],fun e=>by cases e⟩
     | _=>exact .inr ⟨none,by simp [Go.shape,Go.getObj,Bind.bind,Sem.bind,Sem.run,hs,ho,Pure.pure],fun _ a u e=>by cases e⟩
def me (a:Addr) (P:Program) (v:World):(∃ h v',(noView a).run P v= .halt h v'∧hard h=true)∨((noView a).run P v= .ok () v∧ ∀ b u,v.heap[a.block]? ≠some (.view b u)):=by
 unfold noView;rcases fo7 a.block P v with ⟨h,v',e,hh⟩ | ⟨x,e,hx⟩
 · exact .inl ⟨h,v',f2r e,hh⟩
 · cases x with
   | some x=>exact .inl ⟨_,v,(qw e).trans (by simp [Sem.run,Go.unsupported];rfl),rfl⟩
   | none=>exact .inr ⟨(qw e).trans (by simp [Sem.run,Pure.pure]),hx rfl⟩
def fbp (a b:Addr) (P:Program) (v:World):(mayBeOne a b).run P v= .ok (fcw v a b) v:=by
 rw [← f0d P _ v #[],ej]
def fj4 (a b:Addr) (P:Program) (v:World):(∃ h v',(sameAddr a b).run P v= .halt h v'∧hard h=true)∨(∃ x d,(sameAddr a b).run P v= .ok x (reW v v.tape d)∧(a.block≠b.block→ ∀ c u,v.heap[a.block]? ≠some (.view c u))):=by
 unfold sameAddr;by_cases hb:a.block=b.block
 · exact .inr ⟨a==b,v.drawn,by simp [hb,Pure.pure,Sem.run];rfl,fun h=>absurd hb h⟩
 · have hb':(a.block==b.block)=false:=by simpa using hb
   simp only [hb',f0g,f0s];have hf: ∀ (c:Addr) (k:Bool→Sem Bool),(Go.frozen c >>= k).run P v=(k (v.frozen? c)).run P v:=fun c k=>rfl;rw [hf,hf];cases h1:(v.frozen? a&&v.frozen? b) with
   | true=>exact .inl ⟨_,v,by simp [Go.unsupported,Sem.run];rfl,rfl⟩
   | false=>
     simp only [f0g,f0s];rcases me a P v with ⟨h,v',e,hh⟩ | ⟨e,hv⟩
     · exact .inl ⟨h,v',f2r e,hh⟩
     rw [show ∀ (k:Unit→Sem Bool),(noView a >>= k).run P v=(k ()).run P v from fun k=>qw e];rcases me b P v with ⟨h,v',e,hh⟩ | ⟨e,_⟩
     · exact .inl ⟨h,v',f2r e,hh⟩
     rw [show ∀ (k:Unit→Sem Bool),(noView b >>= k).run P v=(k ()).run P v from fun k=>qw e];rw [show ∀ (k:Bool→Sem Bool),(mayBeOne a b >>= k).run P v=(k (fcw v a b)).run P v from fun k=>qw (fbp a b P v)];cases fcw v a b with
     | false=>exact .inr ⟨false,v.drawn,by simp [Pure.pure,Sem.run];rfl,fun _=>hv⟩
     | true=>
       refine .inr ⟨(Question.extern "sameAddr.stringBytes" 2).cut (v.tape v.drawn (.extern "sameAddr.stringBytes" 2))==1,v.drawn+1,?_,fun _=>hv⟩;simp only [f0e,choose,Bind.bind,Sem.bind,Sem.run,Question.forced,f0g,f0s,Pure.pure];rfl
def fgy (a b:Addr) (P:Program) (v:World) (ht:v.tape=fun _ _=>0) {x:Bool} {v':World} (h:(sameAddr a b).run P v= .ok x v'):x=true→a=b:=by
 unfold sameAddr at h;by_cases hb:a.block=b.block
 · simp [hb,Pure.pure,Sem.run] at h;intro hx;rw [hx] at h;simpa using h.1
 · have hb':(a.block==b.block)=false:=by simpa using hb
   simp only [hb',f0g,f0s] at h;have hf: ∀ (c:Addr) (k:Bool→Sem Bool),(Go.frozen c >>= k).run P v=(k (v.frozen? c)).run P v:=fun c k=>rfl;rw [hf,hf] at h;cases h1:(v.frozen? a&&v.frozen? b) with
   | true=>rw [h1] at h;simp [Go.unsupported,Sem.run] at h
   | false=>
     rw [h1] at h;simp only [f0g,f0s] at h;rcases me a P v with ⟨h',v'',e,hh⟩ | ⟨e,hv⟩
     · rw [show ∀ (k:Unit→Sem Bool),(noView a >>= k).run P v= .halt h' v'' from fun k=>f2r e] at h;cases h
     rw [show ∀ (k:Unit→Sem Bool),(noView a >>= k).run P v=(k ()).run P v from fun k=>qw e] at h;rcases me b P v with ⟨h',v'',e,hh⟩ | ⟨e,_⟩
     · rw [show ∀ (k:Unit→Sem Bool),(noView b >>= k).run P v= .halt h' v'' from fun k=>f2r e] at h;cases h
     rw [show ∀ (k:Unit→Sem Bool),(noView b >>= k).run P v=(k ()).run P v from fun k=>qw e] at h;rw [show ∀ (k:Bool→Sem Bool),(mayBeOne a b >>= k).run P v=(k (fcw v a b)).run P v from fun k=>qw (fbp a b P v)] at h;cases hm:fcw v a b with
     | false=>
       rw [hm] at h;simp [Pure.pure,Sem.run] at h;intro hx;rw [hx] at h;cases h.1
     | true=>
       rw [hm] at h;simp only [f0e,choose,Bind.bind,Sem.bind,Sem.run,Question.forced,f0g,f0s,Pure.pure,ht,Question.cut] at h;simp at h;intro hx;rw [hx] at h;simp at h
def fj5 (x:Value) (q:Addr) (v:World):(∃ h v',(binOp .eql 99 x (.pointer (some q))).run PV v= .halt h v'∧hard h=true)∨(∃ b d,(binOp .eql 99 x (.pointer (some q))).run PV v= .ok (.bool b) (reW v v.tape d)∧(∀ p,x= .pointer (some p)→p.block≠q.block→ ∀ c u,v.heap[p.block]? ≠some (.view c u))∧(v.tape=(fun _ _=>0)→b=true→x= .pointer (some q))):=by
 have hu: ∀ w,(underlying 99).run PV w= .ok (.pointer 102) w:=fun w=>by rw [ua];exact Tryz.runUnderlying99 w
 have hz: ∀ w,(sizeOf 102).run PV w= .ok 2 w:=fun w=>by rw [fce];exact Tryz.sizeOf102 w
 have heq: ∀ y,(Op.equal 99 y (.pointer (some q))).run PV v=(Op.equalIn (9999+1) 99 y (.pointer (some q))).run PV v:=fun y=>by simp only [Op.equal,Op.maxDepth]
 have key:(∃ h v',(Op.equal 99 x (.pointer (some q))).run PV v= .halt h v'∧hard h=true)∨(∃ b d,(Op.equal 99 x (.pointer (some q))).run PV v= .ok b (reW v v.tape d)∧(∀ p,x= .pointer (some p)→p.block≠q.block→ ∀ c u,v.heap[p.block]? ≠some (.view c u))∧(v.tape=(fun _ _=>0)→b=true→x= .pointer (some q))):=by
    rw [heq];generalize 9999=D;have hdef:(∀ p,x≠ .pointer p)→ ∃ h,hard h=true∧(Op.equalIn (D+1) 99 x (.pointer (some q))).run PV v= .halt h v:=by
     intro hx;cases x <;>first | exact absurd rfl (hx _) | (simp [Op.equalIn,fz9,hu,Result.andThen,Go.stuck,Go.unsupported,Sem.run,hard];done) | (simp [Op.equalIn,fz9,hu,Result.andThen,Go.stuck,Go.unsupported,Sem.run,hard];rfl)
    cases x with
    | pointer p=>
      cases p with
      | none=>exact .inr ⟨false,v.drawn,by simp [Op.equalIn,fz9,hu,Result.andThen,Pure.pure,Sem.run];rfl,fun p h=>je,fun _ h=>by cases h⟩
      | some p=>
        have e2:(Op.equalIn (D+1) 99 (.pointer (some p)) (.pointer (some q))).run PV v=(sameAddr p q).run PV v:=by
         simp [Op.equalIn,fz9,hu,hz,Result.andThen]
        rw [e2];rcases fj4 p q PV v with ⟨h,v',e3,hh⟩ | ⟨b,d,e3,hv⟩
        · exact .inl ⟨h,v',e3,hh⟩
        · exact .inr ⟨b,d,e3,fun p' hp=>(by cases hp;exact hv),fun ht hb=>by rw [fgy p q PV v ht e3 hb]⟩
    | _=>
      obtain ⟨h,h1,h2⟩:=hdef (fun p h=>by cases h);exact .inl ⟨h,v,h2,h1⟩
 have hbin:binOp .eql 99 x (.pointer (some q))=(Op.equal 99 x (.pointer (some q)) >>= fun b=>Pure.pure (.bool b):Sem Value)∨ ∃ h,binOp .eql 99 x (.pointer (some q))= .halt h∧hard h=true:=by
    cases x <;>first | exact .inl rfl | exact .inr ⟨_,rfl,rfl⟩
 rcases hbin with e | ⟨h,e,hh⟩
 · rw [e];rcases key with ⟨h,v',e1,hh⟩ | ⟨b,d,e1,hv⟩
   · exact .inl ⟨h,v',f2r e1,hh⟩
   · exact .inr ⟨b,d,(qw e1).trans fx2,hv⟩
 · exact .inl ⟨h,v,by rw [e];rfl,hh⟩
section
variable {Stop:Frame→List Frame→World→Prop} {a:Act} {v:World}
def fmk {s:St} {fr:Frame} {l:List Frame} {t:Nat→Question→Nat} {d:Nat} {Q:Program} (hR: ∀ fr l v t d,Stop fr l v→Stop fr l (reW v t d)) (h:Ahead Q Stop (fr,l,reW v t d) s):Ahead Q Stop (fr,l,v) s:=by
 obtain ⟨s2,t',d',hn,hs,hd⟩:=h;exact ⟨s2,t',d',fun h=>hn (hR _ _ _ t d h),hs,hd⟩
def lv_re {fr:Frame} {l:List Frame} (hR: ∀ fr l v t d,Stop fr l v→Stop fr l (reW v t d)) (L:Lv Tryz.prog rg Stop (fr,l,v)) (t:Nat→Question→Nat) (d:Nat):Lv Tryz.prog rg Stop (fr,l,reW v t d):=
 ⟨L.fin.re hR t d,L.stk,L.objs⟩
def vo_re (hR: ∀ fr l v t d,Stop fr l v→Stop fr l (reW v t d)) {ops:Array Oper} {is:List Nat} {K:Act→World→Prop} (t:Nat→Question→Nat) (d:Nat) (h:VO Tryz.prog rg Stop ops is K a (reW v t d)):VO Tryz.prog rg Stop ops is K a v:=fun b k l hl L=>by
 obtain ⟨a',v',hq,hb⟩:=h b k l hl (lv_re hR L t d);exact ⟨a',v',hq,fmk hR hb⟩
def fml (A:VS Tryz.prog rg Stop) {ops:Array Oper} {i g:Nat} {rest:List Nat} {K:Act→World→Prop} (ho:ops[i]? =some (chk g))
    (h: ∀ d,(∀ p,a.eval (.tmp 0)= .pointer (some p)→p.block≠g→ ∀ c u,v.heap[p.block]? ≠some (.view c u))→VO Tryz.prog rg Stop ops rest K a (reW v v.tape d)):VO Tryz.prog rg Stop ops (i::rest) K a v:=by
 refine uf A ho (fun _=>rfl) ?_
 have e:(execOp a.eval (chk g))=(binOp .eql 99 (a.eval (.tmp 0)) (.pointer (some ⟨g,0,none⟩)) >>= fun y=>Pure.pure (Next.value y):Sem Next):=by
    have hg: ∀ x,eqGuard .eql 99 (.tmp 0) (.const (.pointer (some ⟨g,0,none⟩))) x (.pointer (some ⟨g,0,none⟩))=Pure.pure ():=fun x=>by cases x <;>rfl
    show (eqGuard .eql 99 (.tmp 0) (.const (.pointer (some ⟨g,0,none⟩))) (a.eval (.tmp 0)) (.pointer (some ⟨g,0,none⟩)) >>= fun _=>binOp .eql 99 (a.eval (.tmp 0)) (.pointer (some ⟨g,0,none⟩))) >>= (fun y=>Pure.pure (Next.value y))=_;rw [hg];rfl
 rw [e];rcases fj5 (a.eval (.tmp 0)) ⟨g,0,none⟩ v with ⟨h',v',e',hh⟩ | ⟨b,d,e',hv,_⟩
 · rw [show ∀ (k:Value→Sem Next),(binOp .eql 99 (a.eval (.tmp 0)) (.pointer (some ⟨g,0,none⟩)) >>= k).run PV v= .halt h' v' from fun k=>f2r e'];exact .inr hh
 · rw [show ∀ (k:Value→Sem Next),(binOp .eql 99 (a.eval (.tmp 0)) (.pointer (some ⟨g,0,none⟩)) >>= k).run PV v=(k (.bool b)).run PV (reW v v.tape d) from fun k=>qw e'];exact h d hv
def fmm (A:VS Tryz.prog rg Stop) {c:Code} {Q:Exit→Act→World→Prop} (h: ∀ d,(∀ p,a.eval (.tmp 0)= .pointer (some p)→ ∀ c u,v.heap[p.block]? ≠some (.view c u))→VW Tryz.prog rg Stop c Q a (reW v v.tape d)):
    VW Tryz.prog rg Stop (.seq chkR c) Q a v:=by
 refine xk A (ue A (fml A rfl fun d h1=>fml A rfl fun d' h2=>vi A ?_));refine h d' fun p hp c u=> ?_;by_cases e:p.block=0
 · exact h2 p hp (by rw [e];decide) c u
 · exact h1 p hp e c u
def fbq (ho:ut v) {p:Addr} (hv: ∀ c u,v.heap[p.block]? ≠some (.view c u)) (hc:v.cell? p=none): ∃ h,v.farLoad PV p false= .error h∧hard h=true:=by
 unfold World.farLoad;split
 · rename_i c u e;exact absurd e (hv c u)
 · exact ⟨_,rfl,(Rel.refl ho).noCell_hard p _⟩
end
section
variable {Stop:Frame→List Frame→World→Prop} {a:Act} {v:World}
def fe6 {ops:Array Oper} {is:List Nat} {K:Act→World→Prop} (h:ut v→VO Tryz.prog rg Stop ops is K a v):VO Tryz.prog rg Stop ops is K a v:=fun b k l hl L=>h L.objs b k l hl L
def fj6 {t:TypeId} {k:IntKind} {n:Int} (x:Value) (v:World) (hu: ∃ k,Tryz.prog.underlying t=some (.int k)):
    (∃ h v',(binOp .eql t x (.int k n)).run PV v= .halt h v'∧hard h=true)∨ ∃ b,(binOp .eql t x (.int k n)).run PV v= .ok (.bool b) v∧(b=true→x= .int k n):=by
 obtain ⟨k',hu⟩:=hu;have hu': ∀ w,(underlying t).run PV w= .ok (.int k') w:=fun w=>by rw [ua];exact f0u hu w
 have heq: ∀ y,(Op.equal t y (.int k n)).run PV v=(Op.equalIn (9999+1) t y (.int k n)).run PV v:=fun y=>by simp only [Op.equal,Op.maxDepth]
 have hbin: ∀ y,binOp .eql t y (.int k n)=(Op.equal t y (.int k n) >>= fun b=>Pure.pure (.bool b):Sem Value)→((∃ h,hard h=true∧(Op.equalIn (9999+1) t y (.int k n)).run PV v= .halt h v)∨(Op.equalIn (9999+1) t y (.int k n)).run PV v= .ok false v)→
  (∃ h v',(binOp .eql t y (.int k n)).run PV v= .halt h v'∧hard h=true)∨ ∃ b,(binOp .eql t y (.int k n)).run PV v= .ok (.bool b) v∧(b=true→y= .int k n):=by
    intro y e h;rw [e];rcases h with ⟨h,hh,e1⟩ | e1
    · exact .inl ⟨h,v,f2r ((heq y).trans e1),hh⟩
    · exact .inr ⟨false,(qw ((heq y).trans e1)).trans fx2,fun h=>by cases h⟩
 generalize 9999=D at hbin;cases x with
 | int j m=>
   by_cases hk:j=k
   · subst hk;exact .inr ⟨m==n,by simp [binOp,Op.intCmp,Pure.pure,Sem.run],fun h=>by rw [f5g.1 h]⟩
   · exact .inl ⟨_,v,by simp [binOp,hk,Go.stuck,Sem.run];rfl,rfl⟩
 | pointer p=>
   refine hbin _ rfl ?_;cases p with
   | none=>exact .inl ka
   | some p=>
     by_cases hn:n=0
     · subst hn;exact .inr (by simp [Op.equalIn,fz9,hu',Result.andThen,Pure.pure,Sem.run])
     · exact .inl (by simp [Op.equalIn,fz9,hu',Result.andThen,Go.stuck,Go.unsupported,Sem.run,hard,hn])
 | _=>exact hbin _ rfl (.inl ka)
def fj7 (x:Value) (v:World):Prop:= ∀ p,x= .pointer (some p)→ ∀ c u,v.heap[p.block]? ≠some (.view c u)
def fgz (ho:ut v) {x:Value} {p:Addr} (hv:fj7 x v) (hx:x= .pointer (some p)) (hc:v.cell? p=none): ∃ h,v.farLoad PV p false= .error h∧hard h=true:=fbq ho (hv p hx) hc
def u0 {o:Oper} {K:Act→World→Prop} {h:Halt} (hh:hard h=true):fit o a K (.halt h v):= .inr hh
def z3 (op:BinOp) (t:TypeId) (x y:Operand) (a:Value) (k:IntKind) (n:Int):eqGuard op t x y a (.int k n)=Pure.pure ():=by
 cases op <;>cases a <;>rfl
def xz (op:BinOp) (t:TypeId) (x y:Operand) (a:Value) (p:Option Addr):eqGuard op t x y a (.pointer p)=Pure.pure ():=by
 cases op <;>cases a <;>rfl
attribute [local go_sem] z3 xz
def fo8 (n m:Int) (x0:Value) (v:World) (v':World):Prop:= ∃ p,x0= .pointer (some p)∧v.cell? p=some (.int .i32 n)∧v.frozen? p=false∧v'=v.setCell p (.int .i32 m)
def v_lockB (A:VS Tryz.prog rg Stop) (x0 x1 x2:Value) (tl:List Value) (hv:fj7 x0 v):VW Tryz.prog rg Stop fql (fun e a' v'=>e= .ret∧a'.defers=[]∧fo8 0 1 x0 v v') { tmps:=(x0::x1::x2::tl).toArray,defers:=[] } v:=by
 unfold fql;refine xk A (ue A (fe6 fun ho=>uf A rfl (fun _=>rfl) ?_));cases x0 with
 | pointer p =>
   cases p with
   | none=>go_simp;exact u0 rfl
   | some p=>
     cases hc:v.cell? p with
     | none=>
       obtain ⟨h,hf,hh⟩:=fgz ho hv rfl hc;have hf:World.farLoad (V Tryz.prog rg) v p (Mode.plain==Mode.atomic)= .error h:=hf;go_simp;exact u0 hh
     | some x=>
       go_simp;refine uf A rfl (fun _=>rfl) ?_;have hq:=fj6 (t:=21) (k:= .i32) (n:=0) x v ⟨_,Tryz.underlying21⟩;go_simp;rcases hq with ⟨h,v',e,hh⟩ | ⟨b,e,hb⟩
       · rw [e];exact u0 hh
       · rw [e];refine vi A (yy A fun t ht=> ?_);cases b with
         | false=>
           obtain rfl:t=false:=by simpa [Act.eval,Act.put] using ht.symm
           exact zi A _
         | true=>
           obtain rfl:t=true:=by simpa [Act.eval,Act.put] using ht.symm
           obtain rfl:=hb rfl;refine xk A (ue A (uf A rfl (fun _=>rfl) ?_));cases hz:v.frozen? p with
           | true=>go_simp;exact u0 rfl
           | false=>
             go_simp;refine vi A (nr A ⟨rfl,rfl,p,rfl,hc,hz,rfl⟩)
 | _=>go_simp;exact u0 rfl
def fqp (A:VS Tryz.prog rg Stop) (x0 x1 x2:Value) (tl:List Value) (hv:fj7 x0 v):VW Tryz.prog rg Stop fe5 (fun e a' v'=>e= .ret∧a'.defers=[]∧fo8 1 0 x0 v v') { tmps:=(x0::x1::x2::tl).toArray,defers:=[] } v:=by
 unfold fe5;refine xk A (ue A (fe6 fun ho=>uf A rfl (fun _=>rfl) ?_));cases x0 with
 | pointer p =>
   cases p with
   | none=>go_simp;exact u0 rfl
   | some p=>
     cases hc:v.cell? p with
     | none=>
       obtain ⟨h,hf,hh⟩:=fgz ho hv rfl hc;have hf:World.farLoad (V Tryz.prog rg) v p (Mode.plain==Mode.atomic)= .error h:=hf;go_simp;exact u0 hh
     | some x=>
       go_simp;refine uf A rfl (fun _=>rfl) ?_;have hq:=fj6 (t:=21) (k:= .i32) (n:=1) x v ⟨_,Tryz.underlying21⟩;go_simp;rcases hq with ⟨h,v',e,hh⟩ | ⟨b,e,hb⟩
       · rw [e];exact u0 hh
       · rw [e];refine vi A (yy A fun t ht=> ?_);cases b with
         | false=>
           obtain rfl:t=false:=by simpa [Act.eval,Act.put] using ht.symm
           exact zi A _
         | true=>
           obtain rfl:t=true:=by simpa [Act.eval,Act.put] using ht.symm
           obtain rfl:=hb rfl;refine xk A (ue A (uf A rfl (fun _=>rfl) ?_));cases hz:v.frozen? p with
           | true=>go_simp;exact u0 rfl
           | false=>
             go_simp;refine vi A (nr A ⟨rfl,rfl,p,rfl,hc,hz,rfl⟩)
 | _=>go_simp;exact u0 rfl
def fqq (x:Value) (v:World):(∃ h v',(binOp .eql 99 x (.pointer none)).run PV v= .halt h v'∧hard h=true)∨ ∃ b,(binOp .eql 99 x (.pointer none)).run PV v= .ok (.bool b) v∧(b=true→x= .pointer none)∧(b=false→ ∃ p,x= .pointer (some p)):=by
 have hu: ∀ w,(underlying 99).run PV w= .ok (.pointer 102) w:=fun w=>by rw [ua];exact Tryz.runUnderlying99 w
 have heq: ∀ y,(Op.equal 99 y (.pointer none)).run PV v=(Op.equalIn (9999+1) 99 y (.pointer none)).run PV v:=fun y=>by simp only [Op.equal,Op.maxDepth]
 have hbin: ∀ y,(binOp .eql 99 y (.pointer none)=(Op.equal 99 y (.pointer none) >>= fun b=>Pure.pure (.bool b):Sem Value))→ ∀ r,(Op.equalIn (9999+1) 99 y (.pointer none)).run PV v=r→(binOp .eql 99 y (.pointer none)).run PV v=r.andThen fun b w=> .ok (.bool b) w:=by
    intro y e r hr;rw [e];cases r with
    | ok b w=>exact (qw ((heq y).trans hr)).trans fx2
    | halt h w=>exact f2r ((heq y).trans hr)
 generalize 9999=D at hbin
 have hdef:(∀ p,x≠ .pointer p)→ ∃ h,hard h=true∧(Op.equalIn (D+1) 99 x (.pointer none)).run PV v= .halt h v:=by
    intro hx;cases x <;>first | exact absurd rfl (hx _) | (simp [Op.equalIn,fz9,hu,Result.andThen,Go.stuck,Go.unsupported,Sem.run,hard];done) | (simp [Op.equalIn,fz9,hu,Result.andThen,Go.stuck,Go.unsupported,Sem.run,hard];rfl)
 have hform:binOp .eql 99 x (.pointer none)=(Op.equal 99 x (.pointer none) >>= fun b=>Pure.pure (.bool b):Sem Value):=by cases x <;>rfl
 cases x with
 | pointer p=>
   cases p with
   | none=>exact .inr ⟨true,by rw [hbin _ hform (.ok true v) j3];rfl,fun _=>rfl,fun h=>by cases h⟩
   | some p=>exact .inr ⟨false,by rw [hbin _ hform (.ok false v) j3];rfl,(fun h=>by cases h),fun _=>⟨p,rfl⟩⟩
 | _=>
   obtain ⟨h,h1,h2⟩:=hdef (fun p h=>by cases h);exact .inl ⟨h,v,by rw [hbin _ hform _ h2];rfl,h1⟩
def fo9 (v:World) (p:Addr):Prop:= ∃ e cells,v.shape? p.block=some (e,cells)∧liesAt Tryz.prog Tryz.prog.depth e (cells / Tryz.prog.cellsOf e) p.off 102 1=true
def fl3 {v:World} {p:Addr} {x:Value} (hc:v.cell? p=some x):
    (∃ h v',(Builtin.unsafeSlice_ #[99,3] 0 #[.pointer (some p),.int .i64 1]).run PV v= .halt h v'∧hard h=true)∨ ∃ y,(Builtin.unsafeSlice_ #[99,3] 0 #[.pointer (some p),.int .i64 1]).run PV v= .ok y v∧fo9 v p:=by
 obtain ⟨e,n,hsh,hlt,hsp⟩:=World.shape?_of_cell? hc;have hu: ∀ w,(underlying 99).run PV w= .ok (.pointer 102) w:=fun w=>by rw [ua];exact Tryz.runUnderlying99 w
 have hel: ∀ w,(elemOf 99).run PV w= .ok 102 w:=fun w=>by simp [elemOf,fz9,hu,Result.andThen,Pure.pure,Sem.run]
 have hva:(variablesAt p 102 1).run PV v= .ok (liesAt Tryz.prog Tryz.prog.depth e (n / Tryz.prog.cellsOf e) p.off 102 1) v:=by
    have:(Go.shape p.block:Sem _).run PV v= .ok (some (e,n)) v:=by simp [Go.shape,Sem.run,hsh]
    show ((Go.program >>= fun p'=>Go.shape p.block >>= fun s=>(match s with
     | some (e,cells)=>Pure.pure (liesAt p' p'.depth e (cells / p'.cellsOf e) p.off 102 1)
     | none=>Pure.pure false):Sem Bool)).run PV v=_
    simp [Go.program,fz9,this,Result.andThen,Sem.run,Pure.pure,m9,yw,vf]
 have hsz: ∀ w,(sizeOf 102).run PV w= .ok 2 w:=fun w=>by rw [fce];exact Tryz.sizeOf102 w
 obtain ⟨i,hi⟩:=Option.isSome_iff_exists.1 (show (Tryz.prog.info? 102).isSome=true by kernel_rfl);have hti: ∀ w,(typeInfo 102).run PV w= .ok i w:=fun w=>by rw [fas];simp [typeInfo,Go.program,fz9,Sem.run,hi,Result.andThen,Pure.pure]
 have hvw:(viewAt p.block).run PV v= .ok none v:=by
    have:(Go.shape p.block:Sem _).run PV v= .ok (some (e,n)) v:=by simp [Go.shape,Sem.run,hsh]
    simp [viewAt,fz9,this,Result.andThen,Pure.pure]
 have key: ∀ y:Value,(∀ w,(asInt y).run PV w= .ok 1 w)→(Builtin.unsafeSlice_ #[99,3] 0 #[.pointer (some p),y]).run PV v=
  if i.bytes≥2 ^ 64 then .halt (.unsupported (.unsafePointer "Slice: so many elements that their bytes overflow")) v else
        if liesAt Tryz.prog Tryz.prog.depth e (n / Tryz.prog.cellsOf e) p.off 102 1 then .ok (.slice (some p) 1 1) v else .halt (.unsupported (.unsafePointer "Slice: not so many variables at ptr")) v:=fun y hy=>by
    unfold Builtin.unsafeSlice_;refine (qw (hy v)).trans ?_;dsimp only;refine (qw (hel v)).trans ?_;rw [fx9 fu,fx9 fu];refine (qw (hti v)).trans ?_;have e1:(1:Int).toNat*i.bytes=i.bytes:=by simp
    rw [e1];by_cases h2:i.bytes≥2 ^ 64
    · rw [f02 h2,f02 h2];rfl
    rw [fx9 h2,fx9 h2];refine (qw (hsz v)).trans ?_;refine (qw hva).trans ?_;cases hb:liesAt Tryz.prog Tryz.prog.depth e (n / Tryz.prog.cellsOf e) p.off 102 1 with
    | true=>rfl
    | false=>
      rw [fx9 fu,fx9 fu];exact (qw hvw).trans rfl
 rw [key (.int .i64 1) fun w=>rfl];split
 · exact .inl ⟨_,v,rfl,rfl⟩
 · split
   · rename_i hb;exact .inr ⟨_,rfl,e,n,hsh,hb⟩
   · exact .inl ⟨_,v,rfl,rfl⟩
def CcR (x0:Value) (v:World) (v':World):Prop:= ∃ p,x0= .pointer (some p)∧
 ((v.cell? p=some (.pointer none)∧v.frozen? p=false∧fo9 v p∧v'=v.setCell p (.pointer (some p)))∨(v.cell? p=some (.pointer (some p))∧ ∃ t d,v'=reW v t d))
def v_ccB (A:VS Tryz.prog rg Stop) (hR: ∀ fr l v t d,Stop fr l v→Stop fr l (reW v t d)) (x0 x1 x2 x3 x4:Value) (tl:List Value) (hv:fj7 x0 v):VW Tryz.prog rg Stop ccB (fun e a' v'=>e= .ret∧a'.defers=[]∧CcR x0 v v') { tmps:=(x0::x1::x2::x3::x4::tl).toArray,defers:=[] } v:=by
 unfold ccB;refine xk A (ue A (fe6 fun ho=>uf A rfl (fun _=>rfl) ?_));cases x0 with
 | pointer p =>
   cases p with
   | none=>go_simp;exact u0 rfl
   | some p=>
     go_simp;refine uf A rfl (fun _=>rfl) ?_;cases hc:v.cell? p with
     | none=>
       obtain ⟨h,hf,hh⟩:=fgz ho hv rfl hc;have hf:World.farLoad (V Tryz.prog rg) v p (Mode.plain==Mode.atomic)= .error h:=hf;go_simp;exact u0 hh
     | some x=>
       go_simp;refine uf A rfl (fun _=>rfl) ?_;have hq:=fqq x v;go_simp;rcases hq with ⟨h,v',e,hh⟩ | ⟨b,e,hb1,hb2⟩
       · rw [e];exact u0 hh
       · rw [e];refine vi A (yy A fun t ht=> ?_);cases b with
         | true=>
           obtain rfl:t=true:=by simpa [Act.eval,Act.put] using ht.symm
           obtain rfl:=hb1 rfl;clear e;refine xk A (ue A (uf A rfl (fun _=>rfl) ?_));have hq:=fl3 hc;go_simp;rcases hq with ⟨h,v',e,hh⟩ | ⟨y,e,hl⟩
           · rw [e];exact u0 hh
           rw [e];refine uf A rfl (fun _=>rfl) ?_;clear e;cases hz:v.frozen? p with
           | true=>go_simp;exact u0 rfl
           | false=>
             go_simp;exact vi A (nr A ⟨rfl,rfl,p,rfl,.inl ⟨hc,hz,hl,rfl⟩⟩)
         | false=>
           obtain rfl:t=false:=by simpa [Act.eval,Act.put] using ht.symm
           obtain ⟨p',rfl⟩:=hb2 rfl;refine xk A (ue A (vo_re hR (fun _ _=>0) 0 (uf A rfl (fun _=>rfl) ?_)));have hq:=fj5 (.pointer (some p')) p (reW v (fun _ _=>0) 0);go_simp;rcases hq with ⟨h,v',e,hh⟩ | ⟨b,d,e,_,hb⟩
           · rw [e];exact u0 hh
           · rw [e];refine vi A (yy A fun t ht=> ?_);cases b with
             | false=>
               obtain rfl:t=false:=by simpa [Act.eval,Act.put] using ht.symm
               exact zi A _
             | true=>
               obtain rfl:t=true:=by simpa [Act.eval,Act.put] using ht.symm
               have hp:=hb rfl rfl;simp only [Value.pointer.injEq,f03] at hp;subst hp;exact nr A ⟨rfl,rfl,p',rfl,.inr ⟨hc,_,_,rfl⟩⟩
 | _=>go_simp;exact u0 rfl
end
def Tryz.room62:(Tryz.prog.info? 62).map (fun i=>decide (i.size=0))=some false:=by kernel_rfl
section
variable {main:Bool} {H:Hide} {Shun:Loc→Prop} {Φ:Goroutine→World→Nat→Prop} {w:World} {n:Nat} {c:Frame} {cs:List Frame}
def xh {p:Addr} (hH:H p.block=none) {m:Nat} (hlt:p.block<m) (wr sy:Bool):EvP H Shun m ⟨.cell p,wr,sy⟩:=o9 (show EvOK H m ⟨.cell p,wr,sy⟩ from ⟨hH,hlt⟩)
def fe7 (k:Nat):EvP H Shun k ⟨.mark .disable,false,true⟩:=⟨fun t ht a ha=>by simp [MemAct.ofEvent,MemAct.touch?] at ht,trivial⟩
def ffu (k:Nat):EvP H Shun k ⟨.mark .enable,false,true⟩:=⟨fun t ht a ha=>by simp [MemAct.ofEvent,MemAct.touch?] at ht,trivial⟩
def fl4 {p:Addr} {k:Nat} (h:p.block<k):EvP H Shun k ⟨.mark (.acquire p),false,true⟩:=⟨fun t ht a ha=>by simp [MemAct.ofEvent,MemAct.touch?] at ht,h⟩
def fc2 {p:Addr} {k:Nat} (h:p.block<k):EvP H Shun k ⟨.mark (.releaseMerge p),false,true⟩:=⟨fun t ht a ha=>by simp [MemAct.ofEvent,MemAct.touch?] at ht,h⟩
def ai {p:Addr} (hH:H p.block=none) (x:Value):(w.heap.size≤(w.setCell p x).heap.size)∧ ∀ b,H b≠none→(w.setCell p x).heap[b]? =w.heap[b]? :=by
 refine ⟨by simp [World.setCell],fun b hb=> ?_⟩;have hne:p.block≠b:=by rintro rfl;exact hb hH
 simp [World.setCell,fy6,hne]
def fqr {p:Addr} {args:Array Value} {kind:CallKind} (hk:kind= .normal∨kind= .deferred) (hp:args.getD 0 undef= .pointer (some p)) (hH:H p.block=none) (hc:w.cell? p=some (.int .i32 0)) (hz:w.frozen? p=false)
    (h:OG Tryz.prog main H Shun Φ (G (ur kind (.tuple #[]) c) cs) (w.setCell p (.int .i32 1)) n):OG Tryz.prog main H Shun Φ (G (Frame.enter Tryz.prog 57 args kind) (c::cs)) w n:=by
 have hk':kind≠ .early:=by rcases hk with rfl | rfl <;>simp
 have hlt:p.block<w.heap.size:=zq hc;rw [enter_at Tryz.func57 rfl];obtain ⟨L,hlen,hL,h0⟩:=fa5 args Tryz.f57.ntmps;rw [hL];have hlen:13≤L.length:=hlen;rcases L with _ | ⟨x0,_ | ⟨x1,_ | ⟨x2,_ | ⟨x3,_ | ⟨x4,_ | ⟨x5,_ | ⟨x6,_ | ⟨x7,_ | ⟨x8,_ | ⟨x9,_ | ⟨x10,_ | ⟨x11,_ | ⟨x12,tl⟩⟩⟩⟩⟩⟩⟩⟩⟩⟩⟩⟩⟩ <;>first | (simp at hlen;done) | skip
 have hx0:=(h0 0).trans hp;simp only [f1y] at hx0;subst hx0;refine uv (rm ?_);refine ll (es:= #[⟨.mark .disable,false,true⟩]) rfl (fun d=>stepG_mark0 .disable fi rfl rfl hk' rfl Tryz.func61 fd fd fd fd) ⟨fx8 _,fun _ _=>rfl,fun e he=>by simp at he;subst he;exact fe7 _⟩ ?_;refine u7 (uv (uv (rm ?_)));refine ov (.pointer (some p)) w ?_;refine ov (.pointer (some p)) w ?_;refine ov (.pointer (some p)) w ?_;obtain ⟨s1,s2⟩:=ai (w:=w) hH (.int .i32 1)
 refine ll (w1:=w.setCell p (.int .i32 1)) (es:= #[⟨.cell p,false,true⟩,⟨.cell p,true,true⟩]) rfl (fun d=>stepG_cas_hit rfl rfl hk' rfl Tryz.func95 fd fd fd .i32 fd rfl rfl rfl hc hz)
    ⟨s1,s2,fun e he=>by simp at he;rcases he with rfl | rfl <;>exact xh hH jy _ _⟩ ?_
 have hc1:(w.setCell p (.int .i32 1)).cell? p=some (.int .i32 1):=by simp [go_sem,hc]
 refine u7 (xl (t:=true) rfl (uv (xl (t:=true) rfl (uv (rm ?_)))));refine ll (es:= #[⟨.mark .enable,false,true⟩]) rfl (fun d=>stepG_mark0 .enable fi rfl rfl hk' rfl Tryz.func63 fd fd fd fd) ⟨fx8 _,fun _ _=>rfl,fun e he=>by simp at he;subst he;exact ffu _⟩ ?_;refine u7 (rm ?_);refine ov (.pointer (some p)) (w.setCell p (.int .i32 1)) ?_;have hcv:=fun d=>f3v (P:=Tryz.prog) (src:=172) (dst:=132) (w:=(w.setCell p (.int .i32 1)).at d) Tryz.underlying172 Tryz.underlying132 Tryz.room62 hc1;have hce:=fun d es=>f4u (P:=Tryz.prog) (src:=172) (dst:=132) (w:=(w.setCell p (.int .i32 1)).at d) Tryz.underlying172 Tryz.underlying132 Tryz.room62 hc1 es;refine qz (x:= .pointer (some p)) (w1:=w.setCell p (.int .i32 1)) rfl rfl hk' (fun d=>by have:=hcv d;go_simp) (fx8 _) (fun _ _=>rfl) (fun d e he=>by simp [go_sem,hcv,hce] at he) ?_;refine ll (es:= #[⟨.mark (.acquire p),false,true⟩]) rfl (fun d=>f4t .acquire fi rfl rfl hk' rfl Tryz.func64 fd fd fd fd (by simp [Act.put,Act.eval])) ⟨fx8 _,fun _ _=>rfl,fun e he=>by simp at he;subst he;exact fl4 jy⟩ ?_;refine u7 (fiv (ze hk rfl Tryz.func57 (f2z Tryz.results57 _) ?_));exact h
def fqs {p:Addr} {args:Array Value} {kind:CallKind} (hk:kind= .normal∨kind= .deferred) (hp:args.getD 0 undef= .pointer (some p)) (hH:H p.block=none) (hc:w.cell? p=some (.int .i32 1)) (hz:w.frozen? p=false)
    (h:OG Tryz.prog main H Shun Φ (G (ur kind (.tuple #[]) c) cs) (w.setCell p (.int .i32 0)) n):OG Tryz.prog main H Shun Φ (G (Frame.enter Tryz.prog 58 args kind) (c::cs)) w n:=by
 have hk':kind≠ .early:=by rcases hk with rfl | rfl <;>simp
 have hlt:p.block<w.heap.size:=zq hc;rw [enter_at Tryz.func58 rfl];obtain ⟨L,hlen,hL,h0⟩:=fa5 args Tryz.f58.ntmps;rw [hL];have hlen:21≤L.length:=hlen;rcases L with _ | ⟨x0,_ | ⟨x1,_ | ⟨x2,_ | ⟨x3,_ | ⟨x4,_ | ⟨x5,_ | ⟨x6,_ | ⟨x7,_ | ⟨x8,_ | ⟨x9,_ | ⟨x10,_ | ⟨x11,_ | ⟨x12,_ | ⟨x13,_ | ⟨x14,_ | ⟨x15,_ | ⟨x16,_ | ⟨x17,_ | ⟨x18,_ | ⟨x19,_ | ⟨x20,tl⟩⟩⟩⟩⟩⟩⟩⟩⟩⟩⟩⟩⟩⟩⟩⟩⟩⟩⟩⟩⟩ <;>first | (simp at hlen;done) | skip
 have hx0:=(h0 0).trans hp;simp only [f1y] at hx0;subst hx0;have hcd: ∀ d,(w.at d).cell? p=some (.int .i32 1):=fun d=>hc;refine uv (xl (t:=true) rfl (uv (rm ?_)));refine ov (.pointer (some p)) w ?_;refine ov (.pointer (some p)) w ?_;refine ov (.pointer (some p)) w ?_;refine qz (x:= .int .i32 1) (w1:=w) rfl rfl hk' (fun d=>by have:=hcd d;go_simp) (fx8 _) (fun _ _=>rfl) (fun d e he=>by simp [go_sem,hcd] at he;subst he;exact ⟨xh hH hlt _ _,by simp [vl]⟩) ?_;walk_nrm;refine u7 (uv (rm ?_));refine ov (.pointer (some p)) w ?_;have hcv:=fun d=>f3v (P:=Tryz.prog) (src:=172) (dst:=132) (w:=w.at d) Tryz.underlying172 Tryz.underlying132 Tryz.room62 hc;have hce:=fun d es=>f4u (P:=Tryz.prog) (src:=172) (dst:=132) (w:=w.at d) Tryz.underlying172 Tryz.underlying132 Tryz.room62 hc es;refine qz (x:= .pointer (some p)) (w1:=w) rfl rfl hk' (fun d=>by have:=hcv d;go_simp) (fx8 _) (fun _ _=>rfl) (fun d e he=>by simp [go_sem,hcv,hce] at he) ?_;refine ll (es:= #[⟨.mark (.releaseMerge p),false,true⟩]) rfl (fun d=>f4t .releaseMerge fi rfl rfl hk' rfl Tryz.func97 fd fd fd fd (by simp [Act.put,Act.eval])) ⟨fx8 _,fun _ _=>rfl,fun e he=>by simp at he;subst he;exact fc2 hlt⟩ ?_;walk_nrm;refine u7 (rm ?_);refine ll (es:= #[⟨.mark .disable,false,true⟩]) rfl (fun d=>stepG_mark0 .disable fi rfl rfl hk' rfl Tryz.func61 fd fd fd fd) ⟨fx8 _,fun _ _=>rfl,fun e he=>by simp at he;subst he;exact fe7 _⟩ ?_;walk_nrm;refine u7 (uv (rm ?_));refine ov (.pointer (some p)) w ?_;refine ov (.pointer (some p)) w ?_;refine ov (.pointer (some p)) w ?_;obtain ⟨s1,s2⟩:=ai (w:=w) hH (.int .i32 0)
 refine ll (w1:=w.setCell p (.int .i32 0)) (es:= #[⟨.cell p,false,true⟩,⟨.cell p,true,true⟩]) rfl (fun d=>stepG_add_atomic (w:=w.at d) (v:=1) (d:= -1) rfl rfl hk' rfl Tryz.func98 fd fd fd .i32 fd rfl rfl (hcd d) hz)
    ⟨s1,s2,fun e he=>by simp at he;rcases he with rfl | rfl <;>exact xh hH jy _ _⟩ ?_
 have e0:IntKind.i32.wrap (1+ -1)=0:=by decide
 rw [e0];refine ov (.int .i32 0) (w.setCell p (.int .i32 0)) ?_;walk_nrm;refine u7 (uv (uv (rm ?_)));refine ov (.int .i32 0) (w.setCell p (.int .i32 0)) ?_;refine ov (.bool false) (w.setCell p (.int .i32 0)) ?_;walk_nrm;refine u7 (xl (t:=false) rfl (oa (rm ?_)));refine ll (es:= #[⟨.mark .enable,false,true⟩]) rfl (fun d=>stepG_mark0 .enable fi rfl rfl hk' rfl Tryz.func63 fd fd fd fd) ⟨fx8 _,fun _ _=>rfl,fun e he=>by simp at he;subst he;exact ffu _⟩ ?_;walk_nrm;refine u7 (fiu (ze hk rfl Tryz.func58 (f2z Tryz.results58 _) ?_));exact h
end
def cL:Code→Code
 | .seq x _=>x
 | _=> .skip
def cR:Code→Code
 | .seq _ y=>y
 | _=> .skip
def cIn:Code→Code
 | .block _ c | .loop c=>c
 | _=> .skip
def cOps:Code→Array Oper
 | .region _ ops _=>ops
 | _=> #[]
def zw (f:Func):Code:=f.body.getD .skip
def Tryz.infos49:(Tryz.prog.info? 49).isSome=true:=by kernel_rfl
section
variable {main:Bool} {H:Hide} {Shun:Loc→Prop} {Φ:Goroutine→World→Nat→Prop} {w:World} {n:Nat} {c:Frame} {cs:List Frame}
def fa6 (hH: ∀ b,H b≠none→b<w.heap.size) (o:Obj):(w.heap.size≤(w.alloc o).heap.size)∧(∀ b,H b≠none→(w.alloc o).heap[b]? =w.heap[b]?)∧ ∀ b,H b≠none→b<(w.alloc o).heap.size:=by
 have hs:(w.alloc o).heap.size=w.heap.size+1:=by show (w.heap.push o).size=_;simp
 refine ⟨by omega,fun b hb=> ?_,fun b hb=>by have:=hH b hb;omega⟩;show (w.heap.push o)[b]? =_;rw [f05,fx9 (by have:=hH b hb;omega)]
def xd (w:World) (o:Obj):(w.alloc o).heap.size=w.heap.size+1:=by show (w.heap.push o).size=_;simp
def fa7 (u:World) (x y:Value) (t:TypeId):(u.alloc (.cells #[x] t)).setCell ⟨u.heap.size,0,none⟩ y=u.alloc (.cells #[y] t):=by
 have:((u.heap.push (.cells #[x] t)).modify u.heap.size fun o=>match o with
  | .cells c elem frozen=> .cells (if (none:Option Nat).isSome then c else c.setIfInBounds 0 y) elem frozen
  | o=>o)=u.heap.push (.cells #[y] t):=by
    apply f0v;intro i;rw [fy6,f05,f05];by_cases e:u.heap.size=i
    · rw [f02 e,f02 e.symm,f02 e.symm];rfl
    · rw [fx9 e,fx9 fun h=>e h.symm,fx9 fun h=>e h.symm]
 have e:(u.alloc (.cells #[x] t)).setCell ⟨u.heap.size,0,none⟩ y={ (u.alloc (.cells #[x] t)) with heap:=(u.heap.push (.cells #[x] t)).modify u.heap.size fun o=>match o with
  | .cells c elem frozen=> .cells (if (none:Option Nat).isSome then c else c.setIfInBounds 0 y) elem frozen
  | o=>o }:=rfl
 rw [e,this];rfl
def fl5 {P:Program} {ops:Array Oper} {o:Oper} {a:Act} {b:Frame} {k:List Item} {w1:World} {i:Nat} {rest:List Nat} (ho:ops[i]? =some o) (hw:Region.wanted o (yielded ops a.tmps)=true) (hk:b.kind≠ .early) (hrun: ∀ d,(execOp a.eval o).run P (w.at d)= .ok .skip (w1.at d)) (hsz:w.heap.size≤w1.heap.size)
    (hkept: ∀ b,H b≠none→w1.heap[b]? =w.heap[b]?) (hev: ∀ d,∀ e∈(execOp a.eval o).events P (w.at d) #[],EvP H Shun w1.heap.size e∧vl e) (h:OG P main H Shun Φ (G (b.at (a.put o.dst undef) (.inRegion ops rest::k)) cs) w1 n):
    OG P main H Shun Φ (G (b.at a (.inRegion ops (i::rest)::k)) cs) w n:=by
 refine .one rfl fun d=>⟨_,w1.at d,_,stepG_none ho hw hk (hrun d),⟨hsz,hkept,fun e he=>(hev d e (f3e he)).1⟩,?_⟩;rw [show deafBehind n (listed P b.fn a o (w.at d))=n from dj (fun e he=>(hev d e (f3e he)).2) n];cases h with
 | stop h=>exact .stop h
 | step g1 w1 es hr h1 h2 h3=>exact .step g1 w1 es hr h1 h2 h3
def doW (w:World) (x1:Value):World:=((w.alloc (.cells x1.cells 116)).alloc (.chan 0 #[] false 0 0 false)).alloc (.cells #[.chan (some (w.heap.size+1))] 163)
abbrev mB (kind:CallKind):Frame:={ (default:Frame) with fn:=46,kind:=kind }
noncomputable abbrev R2:Array Oper:=cOps (cL (cR (cR (zw Tryz.f46))))
noncomputable abbrev C3:Code:=cR (cR (cR (zw Tryz.f46)))
noncomputable abbrev R3:Array Oper:=cOps (cL C3)
abbrev fu1 (m:Nat):Value:= .func (.func 86) #[] #[.pointer (some ⟨m+2,0,none⟩),.pointer (some ⟨m,0,none⟩)]
def og_do {args:Array Value} {kind:CallKind} {x0 x1:Value} (hk:kind= .normal∨kind= .deferred) (h0:args.getD 0 undef=x0) (h1:args.getD 1 undef=x1) (hH: ∀ b,H b≠none→b<w.heap.size)
    (h: ∀ a:Act,a.defers=[]→a.tmps.getD 5 undef= .pointer (some ⟨w.heap.size+2,0,none⟩)→11≤a.tmps.size→a.eval (.tmp 7)=x0→a.eval (.tmp 8)=fu1 w.heap.size→OG Tryz.prog main H Shun Φ (G ((mB kind).at a [.inRegion R2 [2],.code C3]) (c::cs)) (doW w x1) n):
    OG Tryz.prog main H Shun Φ (G (Frame.enter Tryz.prog 46 args kind) (c::cs)) w n:=by
 have hk':kind≠ .early:=by rcases hk with rfl | rfl <;>simp
 rw [enter_at Tryz.func46 rfl];obtain ⟨L,hlen,hL,hg⟩:=fa5 args Tryz.f46.ntmps;rw [hL];have hlen:11≤L.length:=hlen;rcases L with _ | ⟨y0,_ | ⟨y1,_ | ⟨y2,_ | ⟨y3,_ | ⟨y4,_ | ⟨y5,_ | ⟨y6,_ | ⟨y7,_ | ⟨y8,_ | ⟨y9,_ | ⟨y10,tl⟩⟩⟩⟩⟩⟩⟩⟩⟩⟩⟩ <;>first | (simp at hlen;done) | skip
 have hy0:=(hg 0).trans h0;have hy1:=(hg 1).trans h1;simp only [f1y,List.getD_cons_succ] at hy0 hy1;subst hy0;subst hy1;have hW:doW w y1=((w.alloc (.cells y1.cells 116)).alloc (.chan 0 #[] false 0 0 false)).alloc (.cells #[.chan (some (w.heap.size+1))] 163):=rfl;obtain ⟨s1,s2,s3⟩:=fa6 hH (.cells y1.cells 116);refine uv (rm ?_);refine qz (x:= .pointer (some ⟨w.heap.size,0,none⟩)) (w1:=w.alloc (.cells y1.cells 116)) rfl rfl hk' (fun d=>rfl) s1 s2 (fun d e he=>by simp [go_sem] at he) ?_;have e1:=xd w (.cells y1.cells 116);generalize w.alloc (.cells y1.cells 116)=u at*;rw [← e1] at hW;have e1':w.heap.size+2=u.heap.size+1:=by omega
 rw [e1'] at h;obtain ⟨t1,t2,t3⟩:=fa6 s3 (.chan 0 #[] false 0 0 false);refine ox (.nilIface) u ?_;refine u7 (uv (rm ?_))
 refine qz (x:= .chan (some u.heap.size)) (w1:=u.alloc (.chan 0 #[] false 0 0 false)) rfl rfl hk' (fun d=>rfl) t1 t2 (fun d e he=>by
    have he:e∈(Instr.makeChan 163 (.int .i64 ((0:Nat):Int))).events Tryz.prog (u.at d) #[]:=he;obtain ⟨i49,h49⟩:=Option.isSome_iff_exists.1 Tryz.infos49;rw [events_makeChan Tryz.underlying163 h49 .i64 0 fu fi] at he;simp at he) ?_
 have e2:=xd u (.chan 0 #[] false 0 0 false);generalize u.alloc (.chan 0 #[] false 0 0 false)=u2 at*;rw [← e2] at h;generalize hM:u.heap.size=M at*;have hu2:u2.heap.size=w.heap.size+2:=by omega
 clear e1 e1' e2;obtain ⟨r1,r2,r3⟩:=fa6 t3 (.cells #[.chan none] 163);refine qz (x:= .pointer (some ⟨u2.heap.size,0,none⟩)) (w1:=u2.alloc (.cells #[.chan none] 163)) rfl rfl hk' (fun d=>by go_simp;rfl) r1 r2 (fun d e he=>by simp [go_sem] at he) ?_
 have hnew:H u2.heap.size=none:=by
    cases e:H u2.heap.size with
    | none=>rfl
    | some o=>exact absurd (t3 u2.heap.size pb) fe
 walk_nrm;have hz: ∀ d,((u2.alloc (.cells #[.chan none] 163)).at d).frozen? ⟨u2.heap.size,0,none⟩=false:=fun d=>by go_simp
 have hcell: ∀ d,((u2.alloc (.cells #[.chan none] 163)).at d).cell? ⟨u2.heap.size,0,none⟩=some (.chan none):=fun d=>by go_simp
 obtain ⟨q1,q2⟩:=ai (w:=u2.alloc (.cells #[.chan none] 163)) (p:=⟨u2.heap.size,0,none⟩) hnew (.chan (some M));rw [fa7] at q1 q2;have hW2:u2.alloc (.cells #[.chan (some M)] 163)=doW w y1:=by rw [hW]
 refine fl5 (w1:=u2.alloc (.cells #[.chan (some M)] 163)) rfl rfl hk' (fun d=>by have:=hz d;have:=hcell d;clear h hW hW2 hu2;go_simp;exact f3q (fun w:World=>w.at d) (fa7 u2 (.chan none) (.chan (some M)) 163)) q1 q2 (fun d e he=>by
    simp [go_sem,hz,hcell] at he;subst he;exact ⟨xh hnew (by rw [xd];exact Nat.lt_succ_self _) _ _,by simp [vl]⟩) ?_
 rw [hW2];walk_nrm;refine u7 (uv (rm ?_));refine ox y0 (doW w y1) ?_;walk_nrm;refine qz (x:=fu1 w.heap.size) (w1:=doW w y1) rfl rfl hk' (fun d=>by clear h hW hW2 hz hcell;go_simp) (fx8 _) (fun _ _=>rfl) (fun d e he=>by have he:e∈(#[]:Array Event):=he;simp at he) ?_;walk_nrm;exact h _ rfl rfl fi rfl rfl
end
def fc3 (x:Value):Sem Next:=Deferred.ofValue x #[] >>= fun d=>invoke d.target d.args
def yg {ρ:Operand→Value} {o:Oper} {y:Operand} (h:o.op= .call { callee:= .value y,args:= #[],argTypes:= #[] }):execOp ρ o=fc3 (ρ y):=by
 unfold execOp;rw [h];show (resolve ρ _ o.type >>= fun d=>invoke d.target d.args)=fc3 (ρ y);have e:(#[]:Array Operand).map ρ= #[]:=by simp
 show ((Deferred.ofValue (ρ y) ((#[]:Array Operand).map ρ)) >>= fun d=>invoke d.target d.args)=fc3 (ρ y);rw [e];rfl
section
variable {P:Program} {F:Array Func} {N:Nat→Prop}
def fqt (hF:FOk P F) (x:Value):Sim P F N (fc3 x):=by
 have h:=af (N:=N) hF (fun _=>x) (o:={ dst:=none,op:= .call { callee:= .value (.tmp 0),args:= #[],argTypes:= #[] },type:=49,pos:= "",after:= #[],guard:=none }) rfl;rwa [yg rfl] at h
def NextC (x:Next):Prop:=(∃ y,x= .value y)∨(∃ f xs,x= .enter f xs)∨ ∃ l f ts a b,x= .round l f ts a b∧(va a=true∧va b=true)∧um a=true∧um b=true
def NextCall.c {x:Next} (h:NextCall x):NextC x:=by
 cases x <;>first | exact .inl ⟨_,rfl⟩ | exact .inr (.inl ⟨_,_,rfl⟩) | cases h
def NextC.ok {x:Next} {cm:Prop} (h:NextC x):vr cm x:=by
 rcases h with ⟨y,rfl⟩ | ⟨f,xs,rfl⟩ | ⟨l,f,ts,a,b,rfl,h⟩
 · trivial
 · trivial
 · exact h
def fl6 (l:Nat) (xs:Array Value) {v v1:World} {x:Next} (h:(Instr.yield l xs).run P v= .ok x v1): ∃ f ts a b,x= .round l f ts a b:=by
 unfold Instr.yield at h;have h:(Sem.getObj l (fun o=>Sem.bind (match o with
  | .loop r=>Pure.pure r
  | _=>Go.stuck "range over a function: no such loop" :Sem Loop) fun r=>(do
    if xs.size≠r.params.size then Go.stuck "yield: the wrong number of arguments"
    Pure.pure (.round l r.fn ((r.params.zip xs).foldl (fun tmps (t,a)=>tmps.setIfInBounds t a) r.tmps) r.assign r.body)))).run P v= .ok x v1:=h
 cases hv:v.heap[l]? with
 | none=>simp [Sem.run,hv] at h
 | some o=>
   cases o with
   | loop r=>
     simp only [Sem.run,hv] at h;dsimp only [Pure.pure,Sem.bind] at h;split at h
     · cases h
     · cases h;exact ⟨_,_,_,_,rfl⟩
   | cells=>simp [Sem.run,hv] at h
   | _=>
     simp only [Sem.run,hv] at h;cases h
def fl7 (hF:FOk P F) (y:Value) {v v1:World} {x:Next} (ho:ut v) (h:(fc3 y).run (V P F) v= .ok x v1):NextC x:=by
 unfold fc3 at h;cases hr:(Deferred.ofValue y #[]).run (V P F) v with
 | halt z v2=>
   have:=(f2r (f:=fun d:Deferred=>invoke d.target d.args) hr).symm.trans h;cases this
 | ok d v2=>
   replace h:=(qw hr).symm.trans h;have hd:v2=v∧(d.target= .nil∨ ∃ f c,d.target= .fn f c):=by
    unfold Deferred.ofValue at hr;split at hr <;>cases hr <;>first | exact ⟨rfl,.inl rfl⟩ | exact ⟨rfl,.inr ⟨_,_,rfl⟩⟩
   obtain ⟨rfl,hd⟩:=hd;rcases hd with hd | ⟨f,c,hd⟩ <;>rw [hd] at h <;>unfold invoke at h
   · exact aw (Q:=NextC) (uj _) _ _ _ h
   · dsimp only at h;cases f with
     | func f=>exact (xo hF _ _ _ x v1 h).c
     | method n=>
       dsimp only at h;split at h
       · exact (xx hF _ _ _ _ x v1 h).c
       · cases h
     | methodOf t n=>
       dsimp only at h;split at h
       · exact (ux (Q:=NextCall) (fun y=>xx hF _ _ _) _ x v1 h).c
       · cases h
     | via t p f q=>
       dsimp only at h;split at h
       · exact (ux (Q:=NextCall) (fun y=>xo hF _ _) _ x v1 h).c
       · cases h
     | yield l=>
       obtain ⟨f,ts,a,b,rfl⟩:=fl6 _ _ h;exact .inr (.inr ⟨_,_,_,_,_,rfl,fdj (cm:=False) _ _ ho h⟩)
end
section
variable {P:Program} {F:Array Func} {Stop:Frame→List Frame→World→Prop} {H:Hide} {v w:World} {b b' g:Frame} {a a':Act} {k k':List Item} {l:List Frame} {ops ops':Array Oper} {i i':Nat} {rest rest':List Nat} {o o':Oper} {y y':Operand} {x1:Value}
def VCall (P:Program) (F:Array Func) (Stop:Frame→List Frame→World→Prop) (s:St) (D0:Frame) (l:List Frame) (v1:World):Next→Prop
 | .value y=>Ahead (V P F) Stop s (D0.finish y,l,v1)
 | .enter f xs=>Ahead (V P F) Stop s (Frame.enter (V P F) f xs .normal,D0::l,v1)
 | .round lo f ts ca cb=>Ahead (V P F) Stop s (Frame.round lo f ts ca cb .normal,D0::l,v1)
 | _=>False
def fqu (A:VS P F Stop) (hF:FOk P F) (rel:Rel H v w) (d:Nat) (ho:ops[i]? =some o) (hop:o.op= .call { callee:= .value y,args:= #[],argTypes:= #[] }) (hy:a.eval y=x1) (hw:Region.wanted o (yielded ops a.tmps)=true)
    (ho':ops'[i']? =some o') (hop':o'.op= .call { callee:= .value y',args:= #[],argTypes:= #[] }) (hy':a'.eval y'=x1) (hw':Region.wanted o' (yielded ops' a'.tmps)=true) (hk':b'.kind= .normal∨b'.kind= .deferred) (ht': ∀ it∈k',wk it=true) (hop1:ops'.all fpj=true)
    (L:Lv P F Stop (b.at a (.inRegion ops (i::rest)::k),g::l,v)):
    ∃ x v1 w1 es,NextC x∧VCall P F Stop (b.at a (.inRegion ops (i::rest)::k),g::l,v) (b.at a (.inRegion ops (i::rest)::k)) (g::l) v1 x∧v.heap.size≤v1.heap.size∧
      ff9 P (b'.at a' (.inRegion ops' (i'::rest')::k')) (w.at d) (zr (b'.at a' (.inRegion ops' (i'::rest')::k')) x) w1 es∧w1.tape=w.tape∧Rel H v1 w1∧ ∀ e∈es,EvOK H w1.heap.size e:=by
 have hn: ¬ Stop (b.at a (.inRegion ops (i::rest)::k)) (g::l) v:=fun h=>by have:=A.stopNil _ _ _ h;cases this
 have okf:=L.stk (b.at a (.inRegion ops (i::rest)::k)) fi;have hst:=stepG_oper (P:=V P F) (main:=true) (b:=b) (a:=a) (k:=k) (cs:=g::(l++[botF])) (w:=reW v w.tape d) (rest:=rest) ho hw;rw [yg hop,hy] at hst;have hst': ∀ main c cs,stepG P main (G (b'.at a' (.inRegion ops' (i'::rest')::k')) (c::cs)) (w.at d)=_:=fun main c cs=>stepG_oper (P:=P) (main:=main) (b:=b') (a:=a') (k:=k') (cs:=c::cs) (w:=w.at d) (rest:=rest') ho' hw';rw [yg hop',hy'] at hst'
 obtain ⟨fr',l',v',hnx,hfin⟩: ∃ fr' l' v',step (V P F) (lone (b.at a (.inRegion ops (i::rest)::k)) ((g::l)++[botF]) (reW v w.tape d))= .next (lone fr' (l'++[botF]) v')∧Fin (V P F) Stop fr' l' v':=by
    have hf:=L.fin;cases hf with
    | stop h=>exact absurd h hn
    | step fr' l' v' h1 h2=>exact ⟨_,_,_,h1 w.tape d,h2 _ _⟩
 have rel':Rel H (reW v w.tape d) (w.at d):=(rel.re w.tape d).re' w.tape d;rcases ym (fqt (N:=fun _=>False) hF x1) rel' with ⟨h',v1,e,hh⟩ | ⟨R,hR,v1,kk,e,ho1,hsz,htp,hdr,_,h4⟩
 · exfalso;obtain ⟨o2,u,es',e2⟩:=dg (fr:=b.at a (.inRegion ops (i::rest)::k)) e hh g (l++[botF]);rw [e2] at hst;have hs2:step (V P F) (lone (b.at a (.inRegion ops (i::rest)::k)) (g::(l++[botF])) (reW v w.tape d))= .ended o2 u:=f3u (by unfold G at hst;rw [hst];rfl);rw [f0j,hs2] at hnx;cases hnx
 · obtain ⟨w1,new,hT',g2,g3,g4,g5⟩:=h4 fun j _=>rfl;obtain ⟨es,hT⟩:=uu e;rcases hR with ⟨x,rfl⟩ | ⟨x,rfl⟩
   · have hc:NextC x:=fl7 hF x1 rel'.objs e;refine ⟨x,v1,w1,seen P b'.fn new,hc,?_,hsz,fun main c cs=> ?_,g2,g4,fun e he=>g5 e (f3e he)⟩
     · rw [et (fr:=b.at a (.inRegion ops (i::rest)::k)) (cm:=True) hT hc.ok okf.kind okf.todo] at hst;have go: ∀ (f1:Frame) (l1:List Frame),stepG (V P F) true (G (b.at a (.inRegion ops (i::rest)::k)) (g::(l++[botF]))) (reW v w.tape d)= .go (G f1 (l1++[botF])) v1 (seen (V P F) b.fn es)→Ahead (V P F) Stop (b.at a (.inRegion ops (i::rest)::k),g::l,v) (f1,l1,v1):=fun f1 l1 h=>
        ⟨(f1,l1,v1),w.tape,d,hn,f3t (by unfold G at h;rw [show ((b.at a (.inRegion ops (i::rest)::k),g::l,v):St).2.1++[botF]=g::(l++[botF]) from rfl,h];rfl),.refl _⟩
       rcases hc with ⟨y,rfl⟩ | ⟨f,xs,rfl⟩ | ⟨lo,f,ts,ca,cb,rfl,_⟩
       · exact go _ (g::l) hst
       · exact go _ (_::g::l) hst
       · exact go _ (_::g::l) hst
     · rw [hst' main c cs];exact et (fr:=b'.at a' (.inRegion ops' (i'::rest')::k')) (cm:=True) hT' hc.ok hk' (fun it hit=>by
        simp only [Frame.at,fy3] at hit;rcases hit with rfl | hit
        · exact hop1
        · exact ht' it hit) c cs
   · exfalso;rw [ax (fr:=b.at a (.inRegion ops (i::rest)::k)) hT okf.kind g (l++[botF])] at hst
     have ha:Ahead (V P F) Stop (b.at a (.inRegion ops (i::rest)::k),g::l,v) ((b.at a (.inRegion ops (i::rest)::k)).raise [{ v:=x,recovered:=false }],g::l,v1):=
        ⟨(_,g::l,v1),w.tape,d,hn,f3t (by unfold G at hst;rw [show ((b.at a (.inRegion ops (i::rest)::k),g::l,v):St).2.1++[botF]=g::(l++[botF]) from rfl,hst];rfl),.refl _⟩
     exact fgv A (vn A L ha) ⟨(b.at a (.inRegion ops (i::rest)::k)).raise [{ v:=x,recovered:=false }],fz5,vu _ _⟩
end
section
variable {P:Program} {main:Bool} {K:World→Prop} {Still:Loc→Prop} {B:Nat} {Stop:Goroutine→World→Prop} {n:Nat} {g g1:Goroutine} {w w1:World}
def fw0 (h:Goes P main (RK K) (DS Still B) Stop n g w) (hk:K w1):Goes P main (RK K) (DS Still B) Stop n g w1:=h.rely (fun _ _ _ _ h=>h) hk
def fe8 (hr:g.status= .running) (hs: ∀ w,stepG P main g w= .go g1 w) (h:Goes P main (RK K) (DS Still B) Stop n g1 w):Goes P main (RK K) (DS Still B) Stop (n+1) g w:=
 Goes.step hr fun w₁ h₁=>by rw [hs];exact ⟨ds_none _,fw0 h h₁⟩
variable {b:Frame} {a:Act} {k:List Item} {cs:List Frame} {x1 x2:Code} {ops:Array Oper} {i:Nat} {rest:List Nat} {o:Oper} {x:Value} {H:Hide} {Shun:Loc→Prop} {Φ:Goroutine→World→Nat→Prop}
def fqv (h:Goes P main (RK K) (DS Still B) Stop n (G (b.at a (.code x1:: .code x2::k)) cs) w):Goes P main (RK K) (DS Still B) Stop (n+1) (G (b.at a (.code (.seq x1 x2)::k)) cs) w:=fe8 rfl (fun _=>f4d) h
def fj8 (h:Goes P main (RK K) (DS Still B) Stop n (G (b.at a k) cs) w):Goes P main (RK K) (DS Still B) Stop (n+1) (G (b.at a (.inRegion ops []::k)) cs) w:=fe8 rfl (fun _=>f1o) h
def fa8 {id:Nat} (h:Goes P main (RK K) (DS Still B) Stop n (G (b.at a (.inRegion ops (List.range ops.size)::k)) cs) w):Goes P main (RK K) (DS Still B) Stop (n+1) (G (b.at a (.code (.region id ops false)::k)) cs) w:=fe8 rfl (fun _=>f2o) h
def fqw {id:Nat} (h:Goes P main (RK K) (DS Still B) Stop n (G (b.at a k) cs) w):Goes P main (RK K) (DS Still B) Stop (n+1) (G (b.at a (.inBlock id::k)) cs) w:=fe8 rfl (fun _=>stepG_inBlock) h
def fu2 {c:Code} (h:Goes P main (RK K) (DS Still B) Stop n (G (b.at a (.code c:: .inLoop c::k)) cs) w):Goes P main (RK K) (DS Still B) Stop (n+1) (G (b.at a (.inLoop c::k)) cs) w:=fe8 rfl (fun _=>stepG_inLoop) h
def k_end (h:Goes P main (RK K) (DS Still B) Stop n (G { b.at a [] with mode:= .returning } cs) w):Goes P main (RK K) (DS Still B) Stop (n+1) (G (b.at a []) cs) w:=fe8 rfl (fun _=>f4e) h
def fj9 (ho:ops[i]? =some o) (hw:Region.wanted o (yielded ops a.tmps)=true) (hk:b.kind≠ .early) (hrun: ∀ w,K w→(execOp a.eval o).run P w= .ok (.value x) w) (hev: ∀ w,K w→ ∀ e∈(execOp a.eval o).events P w #[],EvC Still B e)
    (h:Goes P main (RK K) (DS Still B) Stop n (G (b.at (a.put o.dst x) (.inRegion ops rest::k)) cs) w):Goes P main (RK K) (DS Still B) Stop (n+1) (G (b.at a (.inRegion ops (i::rest)::k)) cs) w:=
 Goes.step rfl fun w₁ h₁=>by
    rw [stepG_value ho hw hk (hrun w₁ h₁)];exact ⟨⟨rfl,fun e he=>hev w₁ h₁ e (f3e he)⟩,fw0 h h₁⟩
def fcf {id:Nat} (h:OG P main H Shun Φ (G (b.at a (.code x1:: .inBlock id::k)) cs) w n):OG P main H Shun Φ (G (b.at a (.code (.block id x1)::k)) cs) w n:=io rfl (fun _=>f5i) h
def og_draw {id:Nat} (h: ∀ t,OG P main H Shun Φ (G (b.at a (.inRegion ops (Region.schedule (P.follows .mixedOrders) ops t)::k)) cs) w n):OG P main H Shun Φ (G (b.at a (.code (.region id ops true)::k)) cs) w n:=
 .one rfl fun d=>⟨_,_,#[],stepG_region_draw,⟨fx8 _,fun _ _=>rfl,by simp⟩,(by
    have h1:=h ((w.at d).tape (w.at d).drawn (.order b.fn id));cases h1 with
    | stop h=>exact .stop h
    | step g1 w1 es hr h1 h2 h3=>exact .step g1 w1 es hr h1 h2 h3)⟩
def fmn {f:FuncId} {args:Array Value} (ho:ops[i]? =some o) (hw:Region.wanted o (yielded ops a.tmps)=true) (hk:b.kind≠ .early) (hrun: ∀ d,(execOp a.eval o).run P (w.at d)= .ok (.enter f args) (w.at d))
    (hev: ∀ d,∀ e∈(execOp a.eval o).events P (w.at d) #[],EvP H Shun w.heap.size e∧vl e) (h:OG P main H Shun Φ (G (Frame.enter P f args .normal) (b.at a (.inRegion ops (i::rest)::k)::cs)) w n):
    OG P main H Shun Φ (G (b.at a (.inRegion ops (i::rest)::k)) cs) w n:=by
 refine .one rfl fun d=>⟨_,w.at d,_,stepG_enter ho hw hk (hrun d),⟨fx8 _,fun _ _=>rfl,fun e he=>(hev d e (f3e he)).1⟩,?_⟩;rw [show deafBehind n (listed P b.fn a o (w.at d))=n from dj (fun e he=>(hev d e (f3e he)).2) n];cases h with
 | stop h=>exact .stop h
 | step g1 w1 es hr h1 h2 h3=>exact .step g1 w1 es hr h1 h2 h3
end
def fja {P:Program} {f:FuncId} {fn:Func} {cap:Array Value} (hf:P.funcs[f]? =some fn) (hn:(fn.name== "runtime.NumGoroutine")=false) (hb:fn.body.isNone=false) (w:World):(fc3 (.func (.func f) #[] cap)).runT P w #[]=(.ok (.enter f cap) w,#[]):=by
 have e : (fc3 (.func (.func f) #[] cap)).runT P w #[]=(match P.funcs[f]? with
        | none=>Go.stuck "call: no such function"
        | some fn=>if fn.name== "runtime.NumGoroutine" then Pure.pure Next.numGoroutine else if fn.body.isNone then (do
           mark (.extern f)
           if let some e:=Extern.findNext fn then return ← e (#[]++ #[]++cap)
           match Extern.find fn with
           | some e=>Pure.pure (.value (← e (#[]++ #[]++cap)))
           | none=>if fn.name.endsWith ".init" && !fn.name.startsWith "(" && !fn.name.startsWith "gosem." then Pure.pure (.value (.tuple #[])) else unsupported (.extern fn.name)) else Pure.pure (.enter f (#[]++ #[]++cap)):Sem Next).runT P w #[]:=rfl
 rw [e,hf];simp only [hn,hb,f0g,f0s];have e2: #[]++ #[]++cap=cap:=by simp
 rw [e2];rfl
noncomputable abbrev fat:Code:=cIn (cIn (cR (cR (zw Tryz.f78))))
noncomputable abbrev fwk:Array Oper:=cOps (cL fat)
noncomputable abbrev wCall:Array Oper:=cOps (cR (cIn (cR (cR fat))))
noncomputable abbrev homeK:List Item:=[.inRegion fwk [0,1],.code (cR fat),.inLoop fat,.inBlock 0]
noncomputable abbrev callK:List Item:=[.inRegion wCall [1],.inBlock 1,.inLoop fat,.inBlock 0]
abbrev wB:Frame:={ (default:Frame) with fn:=78,kind:= .deferred }
def fbr (ds:List Deferred) (c0:List Frame) (k:Nat) (g:Goroutine):Prop:= ∃ a:Act,g=G (wB.at a homeK) c0∧a.defers=ds∧a.tmps.getD 6 undef= .chan (some k)∧a.tmps.size=12
def fa9 (a:Act) {N:Nat} (h:a.tmps.size=N): ∃ (L:List Value) (ds:List Deferred),L.length=N∧a={ tmps:=L.toArray,defers:=ds }:=⟨a.tmps.toList,a.defers,by simpa using h,by simp⟩
section
variable {main:Bool} {H:Hide} {Shun:Loc→Prop} {Φ:Goroutine→World→Nat→Prop} {w:World} {n:Nat}
def fu3 {ds:List Deferred} {c0:List Frame} {k:Nat} {g:Goroutine} {cap:Array Value} (hg:fbr ds c0 k g)
    (h: ∀ a2:Act,a2.defers=ds→a2.tmps.getD 6 undef= .chan (some k)→a2.tmps.size=12→
      OG Tryz.prog main H Shun Φ (G (Frame.enter Tryz.prog 86 cap .normal) (wB.at a2 callK::c0)) w n):
    OG Tryz.prog main H Shun Φ (Go.Conc.served g (recvd true (.func (.func 86) #[] cap) true)) w n:=by
 obtain ⟨a,rfl,hd,h6,hsz⟩:=hg;obtain ⟨L,ds0,hlen,rfl⟩:=fa9 a hsz;rcases L with _ | ⟨y0,_ | ⟨y1,_ | ⟨y2,_ | ⟨y3,_ | ⟨y4,_ | ⟨y5,_ | ⟨y6,_ | ⟨y7,_ | ⟨y8,_ | ⟨y9,_ | ⟨y10,_ | ⟨y11,_ | ⟨y12,tl⟩⟩⟩⟩⟩⟩⟩⟩⟩⟩⟩⟩⟩ <;>first | (simp at hlen;done) | skip
 have hd:ds0=ds:=hd;have h6:y6= .chan (some k):=h6;subst hd;subst h6;rw [served_fr,f0i];show OG Tryz.prog main H Shun Φ (G (wB.at { tmps:= #[y0,y1,y2,y3,y4,y5,.chan (some k),.tuple #[.func (.func 86) #[] cap,.bool true],y8,y9,y10,y11],defers:=ds0 } [.inRegion fwk [1],.code (cR fat),.inLoop fat,.inBlock 0]) c0) w n;refine qz (x:= .bool true) (w1:=w) rfl rfl fu (fun d=>rfl) (fx8 _) (fun _ _=>rfl) (fun d e he=>by have he:e∈(#[]:Array Event):=he;simp at he) ?_;refine u7 (uv (xl (t:=true) rfl (oa (fcf (uv (rm ?_))))));refine qz (x:= .func (.func 86) #[] cap) (w1:=w) rfl rfl fu (fun d=>rfl) (fx8 _) (fun _ _=>rfl) (fun d e he=>by have he:e∈(#[]:Array Event):=he;simp at he) ?_;refine qz (x:= .func (.func 86) #[] cap) (w1:=w) rfl rfl fu (fun d=>rfl) (fx8 _) (fun _ _=>rfl) (fun d e he=>by have he:e∈(#[]:Array Event):=he;simp at he) ?_;refine u7 (rm ?_);refine qz (x:= .func (.func 86) #[] cap) (w1:=w) rfl rfl fu (fun d=>rfl) (fx8 _) (fun _ _=>rfl) (fun d e he=>by have he:e∈(#[]:Array Event):=he;simp at he) ?_;refine fmn (f:=86) (args:=cap) rfl rfl fu (fun d=> ?_) (fun d e he=> ?_) ?_
 · rw [yg rfl];show (fc3 (.func (.func 86) #[] cap)).run Tryz.prog (w.at d)=_;rw [← f0d _ _ _ #[],fja Tryz.func86 fd fd]
 · rw [yg rfl] at he;have he:e∈((fc3 (.func (.func 86) #[] cap)).runT Tryz.prog (w.at d) #[]).2:=he;rw [fja Tryz.func86 fd fd] at he;simp at he
 · exact h _ rfl rfl rfl
noncomputable abbrev dOps:Array Oper:=cOps (zw Tryz.f86)
abbrev dB:Frame:={ (default:Frame) with fn:=86,kind:= .normal }
def mf (m:Region.Mode) (ops:Array Oper) (fuel t:Nat) (listed:Array Bool) (acc:List Nat) (rs:List Nat) (h:((List.range ops.size).filter fun i=> !listed.getD i true&&((ops[i]?).map (·.after.all fun e=> !Region.binds m e||listed.getD e.on false)).getD false)=rs):
    Region.linearise.go m ops (fuel+1) t listed acc=match rs[t%rs.length]? with
     | some i=>Region.linearise.go m ops fuel (t / rs.length) (listed.setIfInBounds i true) (i::acc)
     | none=>acc.reverse:=by
 subst h;rfl
def sched86 (t:Nat):Region.schedule (Tryz.prog.follows .mixedOrders) dOps t=[0,1,2,3]∨Region.schedule (Tryz.prog.follows .mixedOrders) dOps t=[1,0,2,3]∨Region.schedule (Tryz.prog.follows .mixedOrders) dOps t=[1,2,0,3]:=by
 have e:Region.schedule (Tryz.prog.follows .mixedOrders) dOps t=Region.linearise.go .any dOps 4 t #[false,false,false,false] []:=by
    unfold Region.schedule;rw [show Region.departs dOps=false by kernel_rfl];simp only [Bool.not_false,Bool.or_true,f0e];rfl
 rw [e,mf .any dOps 3 t _ _ [0,1] fd]
 have h3: ∀ t acc,Region.linearise.go .any dOps 1 t #[true,true,true,false] acc=(3::acc).reverse:=fun t acc=>by
    rw [mf .any dOps 0 t _ _ [3] fd];simp only [fz6,f06,Nat.mod_one,fx7,f1k];rfl
 have h2: ∀ t acc,Region.linearise.go .any dOps 2 t #[true,true,false,false] acc=(3::2::acc).reverse:=fun t acc=>by
    rw [mf .any dOps 1 t _ _ [2] fd];simp only [fz6,f06,Nat.mod_one,fx7,f1k];exact h3 _ _
 rcases Nat.mod_two_eq_zero_or_one t with h | h
 · left;simp only [fz6,f06,f1k,Nat.reduceAdd,h,fx7];show Region.linearise.go .any dOps 3 (t / 2) #[true,false,false,false] [0]=_;rw [mf .any dOps 2 _ _ _ [1] fd];simp only [fz6,f06,Nat.mod_one,fx7,f1k];exact h2 _ _
 · right;simp only [fz6,f06,f1k,Nat.reduceAdd,h,fy0,fx7];show Region.linearise.go .any dOps 3 (t / 2) #[false,true,false,false] [1]=_∨Region.linearise.go .any dOps 3 (t / 2) #[false,true,false,false] [1]=_;rw [mf .any dOps 2 _ _ _ [0,2] fd];rcases Nat.mod_two_eq_zero_or_one (t / 2) with h | h
   · left;simp only [fz6,f06,f1k,Nat.reduceAdd,h,fx7];exact h2 _ _
   · right;simp only [fz6,f06,f1k,Nat.reduceAdd,h,fy0,fx7];show Region.linearise.go .any dOps 2 (t / 2 / 2) #[false,true,true,false] [2,1]=_;rw [mf .any dOps 1 _ _ _ [0] fd];simp only [fz6,f06,Nat.mod_one,fx7,f1k];exact h3 _ _
def fcg {P:Program} {ρ:Operand→Value} {o:Oper} {t:TypeId} {y:Operand} {x:Value} {u:World} (ho:o.op= .load t y) (h:(Instr.loadAt t (ρ y)).run P u= .ok x u):(execOp ρ o).run P u= .ok (.value x) u:=by
 unfold execOp;rw [ho];exact qw h
def fch {P:Program} {ρ:Operand→Value} {o:Oper} {t:TypeId} {y:Operand} {x:Value} {u:World} (ho:o.op= .load t y) (h:(Instr.loadAt t (ρ y)).run P u= .ok x u):(execOp ρ o).events P u #[]=(Instr.loadAt t (ρ y)).events P u #[]:=by
 unfold execOp;rw [ho];show (((Instr.loadAt t (ρ y)) >>= fun x=>(Pure.pure (Next.value x):Sem Next)).runT P u #[]).2=_;simp [go_sem,h]
def fmo (c2:Addr) (dc:Nat) (x1:Value) (rest:List Nat) (a3:Act):Prop:=a3.eval (.tmp 3)=x1∧a3.eval (.tmp 0)= .pointer (some c2)∧a3.tmps.size=5∧a3.defers=[]∧((rest=[3]∧a3.eval (.tmp 2)= .chan (some dc))∨rest=[0,3])
def fh0 {p:Addr} (hH:H p.block=none∨ ¬ Shun (.cell p)) {m:Nat} (hlt:p.block<m):EvP H Shun m ⟨.cell p,false,false⟩:=
 ⟨fun t ht a ha=>by
    simp only [MemAct.ofEvent,MemAct.touch?,f03] at ht;subst ht;cases ha;exact hH.imp id fun h=>⟨rfl,h⟩,(hlt:(MemAct.ofEvent ⟨.cell p,false,false⟩).low m)⟩
def og_do1 {cs:List Frame} {c1 c2:Addr} {dc:Nat} {fv:Fn} {f1 f2:Array Value} (hc2:w.cell? c2=some (.chan (some dc))) (hc1:w.cell? c1=some (.func fv f1 f2)) (hS2:H c2.block=none∨ ¬ Shun (.cell c2)) (hS1:H c1.block=none∨ ¬ Shun (.cell c1))
    (h: ∀ a3 rest,fmo c2 dc (.func fv f1 f2) rest a3→OG Tryz.prog main H Shun Φ (G (dB.at a3 [.inRegion dOps (2::rest)]) cs) w n):
    OG Tryz.prog main H Shun Φ (G (Frame.enter Tryz.prog 86 #[.pointer (some c2),.pointer (some c1)] .normal) cs) w n:=by
 rw [enter_at Tryz.func86 rfl];show OG Tryz.prog main H Shun Φ (G (dB.at { tmps:= #[.pointer (some c2),.pointer (some c1),undef,undef,undef],defers:=[] } [.code (zw Tryz.f86)]) cs) w n;have hl2:=zq hc2;have hl1:=zq hc1;have hc1d: ∀ d,(w.at d).cell? c1=some (.func fv f1 f2):=fun d=>hc1;have hc2d: ∀ d,(w.at d).cell? c2=some (.chan (some dc)):=fun d=>hc2;have r1: ∀ d,(Instr.loadAt 116 (.pointer (some c1))).run Tryz.prog (w.at d)= .ok (.func fv f1 f2) (w.at d):=fun d=>by have:=hc1d d;go_simp
 have r2: ∀ d,(Instr.loadAt 163 (.pointer (some c2))).run Tryz.prog (w.at d)= .ok (.chan (some dc)) (w.at d):=fun d=>by have:=hc2d d;go_simp
 have v1: ∀ d,∀ e∈(Instr.loadAt 116 (.pointer (some c1))).events Tryz.prog (w.at d) #[],EvP H Shun w.heap.size e∧vl e:=fun d e he=>by
    simp [go_sem,hc1d] at he;subst he;exact ⟨fh0 hS1 hl1,by simp [vl]⟩
 have v2: ∀ d,∀ e∈(Instr.loadAt 163 (.pointer (some c2))).events Tryz.prog (w.at d) #[],EvP H Shun w.heap.size e∧vl e:=fun d e he=>by
    simp [go_sem,hc2d] at he;subst he;exact ⟨fh0 hS2 hl2,by simp [vl]⟩
 have L1: ∀ (a:Act) (rest:List Nat),a.eval (.tmp 1)= .pointer (some c1)→OG Tryz.prog main H Shun Φ (G (dB.at (a.put (some 3) (.func fv f1 f2)) [.inRegion dOps rest]) cs) w n→OG Tryz.prog main H Shun Φ (G (dB.at a [.inRegion dOps (1::rest)]) cs) w n:=fun a rest ha hh=>by
    refine qz (x:= .func fv f1 f2) (w1:=w) rfl rfl fu (fun d=>fcg (t:=116) (y:= .tmp 1) rfl (by rw [ha];exact r1 d)) (fx8 _) (fun _ _=>rfl) (fun d e he=> ?_) hh;rw [fch (t:=116) (y:= .tmp 1) rfl (by rw [ha];exact r1 d),ha] at he;exact v1 d e he
 have L0: ∀ (a:Act) (rest:List Nat),a.eval (.tmp 0)= .pointer (some c2)→OG Tryz.prog main H Shun Φ (G (dB.at (a.put (some 2) (.chan (some dc))) [.inRegion dOps rest]) cs) w n→OG Tryz.prog main H Shun Φ (G (dB.at a [.inRegion dOps (0::rest)]) cs) w n:=fun a rest ha hh=>by
    refine qz (x:= .chan (some dc)) (w1:=w) rfl rfl fu (fun d=>fcg (t:=163) (y:= .tmp 0) rfl qm) (fx8 _) (fun _ _=>rfl) (fun d e he=> ?_) hh;rw [fch (t:=163) (y:= .tmp 0) rfl qm,ha] at he;exact v2 d e he
 refine og_draw fun t=> ?_;show OG Tryz.prog main H Shun Φ (G (dB.at { tmps:= #[.pointer (some c2),.pointer (some c1),undef,undef,undef],defers:=[] } [.inRegion dOps (Region.schedule (Tryz.prog.follows .mixedOrders) dOps t)]) cs) w n;rcases sched86 t with e | e | e
 · rw [e];exact L0 _ _ rfl (L1 _ _ rfl (h _ _ ⟨rfl,rfl,rfl,rfl,.inl ⟨rfl,rfl⟩⟩))
 · rw [e];exact L1 _ _ rfl (L0 _ _ rfl (h _ _ ⟨rfl,rfl,rfl,rfl,.inl ⟨rfl,rfl⟩⟩))
 · rw [e];exact L1 _ _ rfl (h _ _ ⟨rfl,rfl,rfl,rfl,.inr rfl⟩)
def og_back {cs:List Frame} {c2:Addr} {dc:Nat} {x1 x:Value} {rest:List Nat} {a3:Act} (hc2:w.cell? c2=some (.chan (some dc))) (hS2:H c2.block=none∨ ¬ Shun (.cell c2)) (ha:fmo c2 dc x1 rest a3)
    (h: ∀ a4:Act,a4.eval (.tmp 2)= .chan (some dc)→a4.eval (.tmp 4)=x→a4.defers=[]→OG Tryz.prog main H Shun Φ (G (dB.at a4 [.inRegion dOps [3]]) cs) w n):
    OG Tryz.prog main H Shun Φ (G ((dB.at a3 [.inRegion dOps (2::rest)]).finish x) cs) w n:=by
 obtain ⟨h3,h0,hsz,hd,hr⟩:=ha;have hl2:=zq hc2;have hc2d: ∀ d,(w.at d).cell? c2=some (.chan (some dc)):=fun d=>hc2;have r2: ∀ d,(Instr.loadAt 163 (.pointer (some c2))).run Tryz.prog (w.at d)= .ok (.chan (some dc)) (w.at d):=fun d=>by have:=hc2d d;go_simp
 have v2: ∀ d,∀ e∈(Instr.loadAt 163 (.pointer (some c2))).events Tryz.prog (w.at d) #[],EvP H Shun w.heap.size e∧vl e:=fun d e he=>by
    simp [go_sem,hc2d] at he;subst he;exact ⟨fh0 hS2 hl2,by simp [vl]⟩
 obtain ⟨L,ds0,hlen,rfl⟩:=fa9 a3 hsz;rcases L with _ | ⟨y0,_ | ⟨y1,_ | ⟨y2,_ | ⟨y3,_ | ⟨y4,_ | ⟨y5,tl⟩⟩⟩⟩⟩⟩ <;>first | (simp at hlen;done) | skip
 have h0:y0= .pointer (some c2):=h0;have hd:ds0=[]:=hd;subst h0;subst hd;rw [f0i];rcases hr with ⟨rfl,h2⟩ | rfl
 · have h2:y2= .chan (some dc):=h2;subst h2;exact h _ rfl rfl rfl
 · show OG Tryz.prog main H Shun Φ (G (dB.at { tmps:= #[.pointer (some c2),y1,y2,y3,x],defers:=[] } [.inRegion dOps (0::[3])]) cs) w n;have L0: ∀ (a:Act) (rest:List Nat),a.eval (.tmp 0)= .pointer (some c2)→OG Tryz.prog main H Shun Φ (G (dB.at (a.put (some 2) (.chan (some dc))) [.inRegion dOps rest]) cs) w n→OG Tryz.prog main H Shun Φ (G (dB.at a [.inRegion dOps (0::rest)]) cs) w n:=fun a rest ha hh=>by
    refine qz (x:= .chan (some dc)) (w1:=w) rfl rfl fu (fun d=>fcg (t:=163) (y:= .tmp 0) rfl qm) (fx8 _) (fun _ _=>rfl) (fun d e he=> ?_) hh;rw [fch (t:=163) (y:= .tmp 0) rfl qm,ha] at he;exact v2 d e he
   exact L0 _ _ rfl (h _ rfl rfl rfl)
end
section
variable {main:Bool} {Still:Loc→Prop} {B:Nat}
def foa {D:Nat→Option Obj} {w:World} {m:Nat} {x:Value} {t:TypeId} (hD:D m=some (.cells #[x] t)) (h:Keeps D w):w.cell? ⟨m,0,none⟩=some x:=by
 have:=h m _ hD;simp [World.cell?,this]
def wb (a:Act) {N:Nat} (h:N≤a.tmps.size): ∃ (L:List Value) (ds:List Deferred),N≤L.length∧a={ tmps:=L.toArray,defers:=ds }:=⟨a.tmps.toList,a.defers,by simpa using h,by simp⟩
def mg {P:Program} {ρ:Operand→Value} {o:Oper} {t e:TypeId} {dir:ChanDir} {y:Operand} {ok:Bool} {z:Value} {w:World} (ho:o.op= .recv t y ok) (hu:P.underlying t=some (.chan dir e)) (hz:(zeroValue e).runT P w #[]=(.ok z w,#[])):
    (execOp ρ o).runT P w #[]=(.ok (.comm #[{ chan:=ρ y,send:=none,zero:=z }] true (.recv ok)) w,#[]):=by
 unfold execOp;rw [ho];have h1:(zeroValue e).run P w= .ok z w:=by rw [← f0d _ _ _ #[],hz]
 have h2:(zeroValue e).events P w #[]= #[]:=by rw [show (zeroValue e).events P w #[]=((zeroValue e).runT P w #[]).2 from rfl,hz]
 refine f2v ?_ ?_
 · rw [f0d];simp [go_sem,f0u hu,h1]
 · show Sem.events P _ w #[]= #[];simp [go_sem,f0u hu,h1,h2]
def Tryz.zero49 (w:World):(zeroValue 49).runT Tryz.prog w #[]=(.ok .nilIface w,#[]):=by
 refine f2v ?_ ?_
 · rw [f0d];go_simp
 · show Sem.events Tryz.prog _ w #[]= #[];simp [go_sem]
def Tryz.zero1 (w:World):(zeroValue 1).runT Tryz.prog w #[]=(.ok .nilFunc w,#[]):=by
 refine f2v ?_ ?_
 · rw [f0d];go_simp
 · show Sem.events Tryz.prog _ w #[]= #[];simp [go_sem]
def uw (kind:CallKind) (X:Frame) (cs:List Frame) (m:Nat):SeatD where
 c:=m+1
 z:= .nilIface
 ok:=false
 D:=fun b=>if b=m+2 then some (.cells #[.chan (some (m+1))] 163) else none
 B:=m+3
 home:=fun g=> ∃ a:Act,g=G ((mB kind).at a [.inRegion R3 [1,2],.code .ret]) (X::cs)∧a.defers=[]∧11≤a.tmps.size
def fqx {kind:CallKind} {X:Frame} {cs:List Frame} {m:Nat} {a:Act} (hk:kind= .normal∨kind= .deferred) (hS:Still (.cell ⟨m+2,0,none⟩)) (h5:a.tmps.getD 5 undef= .pointer (some ⟨m+2,0,none⟩)) (hd:a.defers=[]) (hsz:11≤a.tmps.size):
    Sits Tryz.prog main (Keeps (uw kind X cs m).D) Still (m+3) (uw kind X cs m).seat 5 (Go.Conc.served (G ((mB kind).at a [.inRegion R2 [2],.code C3]) (X::cs)) undef):=by
 have hk':kind≠ .early:=by rcases hk with rfl | rfl <;>simp
 obtain ⟨L,ds0,hlen,rfl⟩:=wb a hsz;rcases L with _ | ⟨y0,_ | ⟨y1,_ | ⟨y2,_ | ⟨y3,_ | ⟨y4,_ | ⟨y5,_ | ⟨y6,_ | ⟨y7,_ | ⟨y8,_ | ⟨y9,_ | ⟨y10,tl⟩⟩⟩⟩⟩⟩⟩⟩⟩⟩⟩ <;>first | (simp at hlen;done) | skip
 have h5:y5= .pointer (some ⟨m+2,0,none⟩):=h5;have hd:ds0=[]:=hd;subst h5;subst hd;rw [served_fr,f0i];refine .inl ⟨4,default,rfl,?_⟩;have hcell: ∀ w,Keeps (uw kind X cs m).D w→w.cell? ⟨m+2,0,none⟩=some (.chan (some (m+1))):=fun w h=>foa (t:=163) (by simp [uw]) h;have r: ∀ w,Keeps (uw kind X cs m).D w→(Instr.loadAt 163 (.pointer (some ⟨m+2,0,none⟩))).run Tryz.prog w= .ok (.chan (some (m+1))) w:=fun w h=>by have:=hcell w h;go_simp
 have v: ∀ w,Keeps (uw kind X cs m).D w→ ∀ e∈(Instr.loadAt 163 (.pointer (some ⟨m+2,0,none⟩))).events Tryz.prog w #[],EvC Still (m+3) e:=fun w h e he=>by
    have:=hcell w h;simp [go_sem,this] at he;subst he;exact evC_read _ hS fi
 refine fj8 (fqv (fa8 ?_));show Goes Tryz.prog main _ _ _ _ (G ((mB kind).at { tmps:=(y0::y1::y2::y3::y4:: .pointer (some ⟨m+2,0,none⟩)::y6::y7::y8::y9::y10::tl).toArray,defers:=[] } [.inRegion R3 [0,1,2],.code .ret]) (X::cs)) _;have L0: ∀ (a:Act) (rest:List Nat) (n:Nat) (Stop:Goroutine→World→Prop) (w:World),a.eval (.tmp 5)= .pointer (some ⟨m+2,0,none⟩)→Goes Tryz.prog main (RK (Keeps (uw kind X cs m).D)) (DS Still (m+3)) Stop n (G ((mB kind).at (a.put (some 9) (.chan (some (m+1)))) [.inRegion R3 rest,.code .ret]) (X::cs)) w→
  Goes Tryz.prog main (RK (Keeps (uw kind X cs m).D)) (DS Still (m+3)) Stop (n+1) (G ((mB kind).at a [.inRegion R3 (0::rest),.code .ret]) (X::cs)) w:=fun a rest n Stop w ha hh=>by
    refine fj9 (x:= .chan (some (m+1))) rfl rfl hk' (fun w h=>fcg (t:=163) (y:= .tmp 5) rfl (by rw [ha];exact r w h)) (fun w h e he=> ?_) hh;rw [fch (t:=163) (y:= .tmp 5) rfl (by rw [ha];exact r w h),ha] at he;exact v w h e he
 refine L0 _ _ _ _ _ rfl (Goes.stop fun w h=>⟨_,atIn_of (s:=(uw kind X cs m).seat) rfl rfl hk' (fun w=> ?_) (fun w=> ?_) ⟨_,rfl,rfl,by simp [Act.put]⟩⟩)
 · rw [← f0d _ _ _ #[],mg (t:=163) (y:= .tmp 9) (ok:=false) rfl Tryz.underlying163 (Tryz.zero49 w)];rfl
 · show (Sem.runT _ _ w #[]).2=_;rw [mg (t:=163) (y:= .tmp 9) (ok:=false) rfl Tryz.underlying163 (Tryz.zero49 w)]
def fqy (a2:Act) (x:Value) (c0:List Frame):((wB.at a2 callK).finish x)=wB.at (a2.put (some 11) x) (.inRegion wCall []::callK.tail):=by rw [f0i];rfl
def k_leave {P:Program} {K:World→Prop} {Stop:Goroutine→World→Prop} {n:Nat} {w:World} {b c:Frame} {a:Act} {cs:List Frame} {fn:Func} {todo:List Item} {x:Value} (hk:b.kind= .normal) (hd:a.defers=[]) (hf:P.funcs[b.fn]? =some fn) (hr:ResultsC P fn a.tmps x)
    (h:Goes P main (RK K) (DS Still B) Stop n (G (c.finish x) cs) w):Goes P main (RK K) (DS Still B) Stop (n+1) (G { b.at a todo with mode:= .returning } (c::cs)) w:=
 fe8 rfl (fun w=>stepG_leave hk hd hf (hr w).1 (hr w).2) h
def fqz {s:SeatD} {ds:List Deferred} {c0:List Frame} {a2 a4:Act} (hs:s.ok=true) (hz:s.z= .nilFunc) (hhome: ∀ g,fbr ds c0 s.c g→s.home g) (hd4:a4.defers=[]) (hd:a2.defers=ds) (h6:a2.tmps.getD 6 undef= .chan (some s.c)) (hsz:a2.tmps.size=12):
    Sits Tryz.prog main (Keeps s.D) Still B s.seat 10 (Go.Conc.served (G (dB.at a4 [.inRegion dOps [3]]) (wB.at a2 callK::c0)) undef):=by
 rw [served_fr,f0i];refine .inl ⟨9,default,rfl,?_⟩;refine fj8 (k_end (k_leave rfl hd4 Tryz.func86 (f2z rfl _) ?_));rw [fqy _ _ c0];refine fj8 (fqw (fu2 ?_));show Goes Tryz.prog main _ _ _ 3 (G (wB.at _ (.code (.seq (cL fat) (cR fat)):: .inLoop fat::[.inBlock 0])) c0) _
 have e6:(a2.put (some 11) (.tuple #[])).eval (.tmp 6)= .chan (some s.c):=by
    obtain ⟨L,ds0,hlen,rfl⟩:=fa9 a2 hsz;rcases L with _ | ⟨y0,_ | ⟨y1,_ | ⟨y2,_ | ⟨y3,_ | ⟨y4,_ | ⟨y5,_ | ⟨y6,_ | ⟨y7,_ | ⟨y8,_ | ⟨y9,_ | ⟨y10,_ | ⟨y11,_ | ⟨y12,tl⟩⟩⟩⟩⟩⟩⟩⟩⟩⟩⟩⟩⟩ <;>first | (simp at hlen;done) | skip
    exact h6
 refine fqv (fa8 (Goes.stop fun w h=>⟨_,atIn_of (s:=s.seat) (i:=0) (rest:=[1]) rfl rfl fu (fun w=> ?_) (fun w=> ?_) (hhome _ ⟨_,rfl,?_,?_,?_⟩)⟩))
 · rw [← f0d _ _ _ #[],mg (t:=78) (y:= .tmp 6) (ok:=true) rfl Tryz.underlying78 (Tryz.zero1 w)];simp only [SeatD.seat,Seat.one,rcase,hs,hz,e6]
 · show (Sem.runT _ _ w #[]).2=_;rw [mg (t:=78) (y:= .tmp 6) (ok:=true) rfl Tryz.underlying78 (Tryz.zero1 w)]
 · exact hd
 · exact e6
 · simp [Act.put,hsz]
def og_done {H:Hide} {Shun:Loc→Prop} {Φ:Goroutine→World→Nat→Prop} {w:World} {n:Nat} {kind:CallKind} {X:Frame} {cs:List Frame} {m:Nat} {g:Goroutine} {x:Value} (hk:kind= .normal∨kind= .deferred) (hg:(uw kind X cs m).home g)
    (h:OG Tryz.prog main H Shun Φ (G (ur kind x X) cs) w n):OG Tryz.prog main H Shun Φ (Go.Conc.served g (recvd false x true)) w n:=by
 have hk':kind≠ .early:=by rcases hk with rfl | rfl <;>simp
 obtain ⟨a,rfl,hd,hsz⟩:=hg;obtain ⟨L,ds0,hlen,rfl⟩:=wb a hsz;rcases L with _ | ⟨y0,_ | ⟨y1,_ | ⟨y2,_ | ⟨y3,_ | ⟨y4,_ | ⟨y5,_ | ⟨y6,_ | ⟨y7,_ | ⟨y8,_ | ⟨y9,_ | ⟨y10,tl⟩⟩⟩⟩⟩⟩⟩⟩⟩⟩⟩ <;>first | (simp at hlen;done) | skip
 have hd:ds0=[]:=hd;subst hd;rw [served_fr,f0i];show OG Tryz.prog main H Shun Φ (G ((mB kind).at { tmps:=(y0::y1::y2::y3::y4::y5::y6::y7::y8::y9::x::tl).toArray,defers:=[] } [.inRegion R3 [2],.code .ret]) (X::cs)) w n;refine qz (x:=x) (w1:=w) rfl rfl hk' (fun d=>rfl) (fx8 _) (fun _ _=>rfl) (fun d e he=>by have he:e∈(#[]:Array Event):=he;simp at he) ?_;refine u7 (fiv (ze hk rfl Tryz.func46 (x:=x) ?_ h));exact resultsC_tmp (t:=4) (show Tryz.f46.results= #[.tmp 4] from rfl) _
end
section
variable {P:Program} {F:Array Func} {Stop:Frame→List Frame→World→Prop} {v:World} {b g:Frame} {a:Act} {k:List Item} {l:List Frame} {ops:Array Oper} {i:Nat} {rest:List Nat} {o:Oper} {y:Operand}
def fjb (A:VS P F Stop) (ho:ops[i]? =some o) (hop:o.op= .call { callee:= .value y,args:= #[],argTypes:= #[] }) (hw:Region.wanted o (yielded ops a.tmps)=true) (L:Lv P F Stop (b.at a (.inRegion ops (i::rest)::k),g::l,v)): ∃ f p c,a.eval y= .func f p c:=by
 have hn: ¬ Stop (b.at a (.inRegion ops (i::rest)::k)) (g::l) v:=fun h=>by have:=A.stopNil _ _ _ h;cases this
 have okf:=L.stk (b.at a (.inRegion ops (i::rest)::k)) fi;have hst:=stepG_oper (P:=V P F) (main:=true) (b:=b) (a:=a) (k:=k) (cs:=g::(l++[botF])) (w:=reW v v.tape v.drawn) (rest:=rest) ho hw;rw [yg hop] at hst
 obtain ⟨fr',l',v',hnx⟩: ∃ fr' l' v',step (V P F) (lone (b.at a (.inRegion ops (i::rest)::k)) ((g::l)++[botF]) (reW v v.tape v.drawn))= .next (lone fr' (l'++[botF]) v'):=by
    have hf:=L.fin;cases hf with
    | stop h=>exact absurd h hn
    | step fr' l' v' h1 h2=>exact ⟨_,_,_,h1 v.tape v.drawn⟩
 have stuckC: ∀ s,(fc3 (a.eval y)).run (V P F) (reW v v.tape v.drawn)= .halt (.stuck s) (reW v v.tape v.drawn)→False:=fun s e=>by
    obtain ⟨o2,u,es',e2⟩:=dg (fr:=b.at a (.inRegion ops (i::rest)::k)) e rfl g (l++[botF]);rw [e2] at hst;have hs2:step (V P F) (lone (b.at a (.inRegion ops (i::rest)::k)) (g::(l++[botF])) (reW v v.tape v.drawn))= .ended o2 u:=f3u (by unfold G at hst;rw [hst];rfl);rw [f0j,hs2] at hnx;cases hnx
 have panicC: ∀ x u1,(fc3 (a.eval y)).run (V P F) (reW v v.tape v.drawn)= .halt (.panic x) u1→False:=fun x v1 e=>by
    obtain ⟨es,hT⟩:=uu e;rw [ax (fr:=b.at a (.inRegion ops (i::rest)::k)) hT okf.kind g (l++[botF])] at hst;have ha:Ahead (V P F) Stop (b.at a (.inRegion ops (i::rest)::k),g::l,v) ((b.at a (.inRegion ops (i::rest)::k)).raise [{ v:=x,recovered:=false }],g::l,v1):=
     ⟨(_,g::l,v1),v.tape,v.drawn,hn,f3t (by unfold G at hst;rw [show ((b.at a (.inRegion ops (i::rest)::k),g::l,v):St).2.1++[botF]=g::(l++[botF]) from rfl,hst];rfl),.refl _⟩
    exact fgv A (vn A L ha) ⟨(b.at a (.inRegion ops (i::rest)::k)).raise [{ v:=x,recovered:=false }],fz5,vu _ _⟩
 cases hx:a.eval y with
 | func f p c=>exact ⟨f,p,c,rfl⟩
 | nilFunc=>exact (panicC _ _ (by rw [hx];rfl)).elim
 | _=>exact (stuckC _ (by rw [hx];rfl)).elim
end
open Go.Conc.Lib Go.ConcR.Gen
noncomputable def fau:Frame:={ (default:Frame) with fn:=Tryz.prog.funcs.size,defers:=[],mode:= .panicking [goexitEntry] }
def fh1 {main:Bool} {K:World→Prop} {E:Event→Prop} {Φ:Goroutine→Nat→Prop} {d:Nat} {b:Frame} {a:Act} {todo:List Item} {fn:Func} (hn:b.kind= .deferred) (hd:a.defers=[]) (hf:Tryz.prog.funcs[b.fn]? =some fn) (hr:fn.results= #[]) (hq:WKE Tryz.prog main K E Φ { G fau [] with status:= .finished } d):
    WKE Tryz.prog main K E Φ (G { b.at a todo with mode:= .returning } [fau]) d:=by
 refine ri (g':=G fau []) rfl (fun u=> ?_) (ri rfl (fun u=> ?_) hq)
 · have h1:=f2g hr a.tmps Tryz.prog u;have h2:=events_results_none (P:=Tryz.prog) (w:=u) hr a.tmps #[];simp [G,stepG,unwind,doReturn,Frame.at,hn,hd,hf,h1,h2,seen,GStep.after,fau];rfl
 · have h0:(default:Frame).todo=[]:=rfl;simp [G,stepG,unwind,fau,Frame.catches,goexitEntry,h0]
def fl8 {P:Program} {b:Frame} {a:Act} {ops:Array Oper} {i:Nat} {rest:List Nat} {k:List Item} {cs:List Frame} {o:Oper} {f:FuncId} {fn:Func} {xs:Array Operand} {ats:Array TypeId} (ho:ops[i]? =some o) (hop:o.op= .call { callee:= .value (.func f),args:=xs,argTypes:=ats })
    (hf:P.funcs[f]? =some fn) (hb:fn.body.isNone=true):mayWake P (G (b.at a (.inRegion ops (i::rest)::k)) cs)=true:=by
 have ef:(b.at a (.inRegion ops (i::rest)::k)).eval (.func f)= .func (.func f) #[] #[]:=rfl;have h2:fn.body.isSome=false:=by cases h:fn.body <;>simp_all
 simp [mayWake,G,Frame.at,ho,hop] at ef ⊢;simp [ef,hf,h2]
section
variable {b:Nat}
def fu4 {k:Nat} {g:Goroutine} (hg:fbr [dcall 79 #[.pointer (some (stC b))]] [fau] k g): ∃ m,WB Tryz.prog (WgLv b) (AtRel Tryz.prog b) m (Go.Conc.served g (recvd true .nilFunc false)) 0:=by
 refine fa2 ?_;obtain ⟨a,rfl,hd,h6,hsz⟩:=hg;obtain ⟨L,ds0,hlen,rfl⟩:=fa9 a hsz;rcases L with _ | ⟨y0,_ | ⟨y1,_ | ⟨y2,_ | ⟨y3,_ | ⟨y4,_ | ⟨y5,_ | ⟨y6,_ | ⟨y7,_ | ⟨y8,_ | ⟨y9,_ | ⟨y10,_ | ⟨y11,_ | ⟨y12,tl⟩⟩⟩⟩⟩⟩⟩⟩⟩⟩⟩⟩⟩ <;>first | (simp at hlen;done) | skip
 have hd:ds0=_:=hd;subst hd;clear hlen hsz h6;rw [served_fr,f0i];show WKE Tryz.prog false (WgLv b) _ _ (G (wB.at { tmps:= #[y0,y1,y2,y3,y4,y5,y6,.tuple #[.nilFunc,.bool false],y8,y9,y10,y11],defers:=[dcall 79 #[.pointer (some (stC b))]] } [.inRegion fwk [1],.code (cR fat),.inLoop fat,.inBlock 0]) [fau]) 0;refine ww (.bool false) rfl rfl fu (fun _ _=>rfl) (fun _ _=>rfl) ?_;refine we ?_;refine wq ?_;refine wf ?_;refine ri rfl (fun _=>stepG_exit rfl) ?_;refine ri rfl (fun _=>f4e) ?_;refine ffs (f:=79) rfl Tryz.func79 fd rfl ?_;simp only [show Tryz.f79.ntmps=4 from rfl];walk_nrm;refine wr ?_;simp only [szs];refine wv (.pointer (some (stC b))) ?_;walk_nrm;refine i7 rfl rfl gh rfl Tryz.func77 fd rfl ?_;simp only [show Tryz.f77.ntmps=117 from rfl];walk_nrm;refine wq ?_;refine wt ?_;refine wq ?_;refine wq ?_;refine wr ?_;simp only [szs];refine wv (.int .i64 (-1)) ?_;walk_nrm;refine wv (.bool true) ?_;walk_nrm;refine we ?_;refine wt ?_;refine wr ?_;simp only [szs];refine wv (.pointer (some (stC b))) ?_;walk_nrm;refine faq (p:=stC b) rfl rfl Tryz.underlying128 wgLib.room_tWg (fun u hu=> ?_) rfl rfl gh ?_
 · obtain ⟨x,y,h⟩:=hu;exact ⟨_,h.st⟩
 walk_nrm;refine ug ⟨rfl,rfl,_,fun u hu=>f4t .releaseMerge fi rfl rfl gh rfl wgLib.f_relMerge (x_relMerge_n Lw) (x_relMerge_b Lw) (x_relMerge_x Lw) (x_relMerge_f Lw) (ad:=stC b) jh,fa2 ?_⟩;walk_nrm;refine we ?_;refine wq ?_;refine wr ?_;simp only [szs];refine i8 .disable fi rfl rfl rfl gh rfl wgLib.f_disable (x_disable_n Lw) (x_disable_b Lw) (x_disable_x Lw) (x_disable_f Lw) ?_;walk_nrm;refine we ?_;refine wr ?_;simp only [szs];refine fmj rfl rfl gh rfl ?_;walk_nrm;refine we ?_;refine wq ?_;refine wr ?_;simp only [szs];refine wv (.bool false) ?_;walk_nrm;refine we ?_;refine wq ?_;refine wq ?_;refine wr ?_;simp only [szs];refine fqk (.bool false) rfl rfl gh rfl wgLib.f_inBubble (x_inBubble_n Lw) (x_inBubble_b Lw) (x_inBubble_x Lw) (x_inBubble_f Lw) ?_;walk_nrm;refine we ?_;refine wf ?_;refine ws ?_;refine wq ?_;refine wr ?_;simp only [szs];refine wv (.pointer (some (stC b))) ?_;walk_nrm;refine wv (.pointer (some (stC b))) ?_;walk_nrm;refine wv (.pointer (some (stC b))) ?_;walk_nrm;refine wv (.int .i64 (-1)) ?_;walk_nrm;refine ww (.int .u64 18446744073709551615) rfl rfl gh (fun _ _=>by go_simp;try decide) (fun _ _=>by simp [go_sem]) ?_;walk_nrm;refine ww (.int .u64 18446744069414584320) rfl rfl gh (fun _ _=>by go_simp;try decide) (fun _ _=>by simp [go_sem]) ?_;walk_nrm;refine i7 rfl rfl gh rfl Tryz.func109 fd rfl ?_;simp only [show Tryz.f109.ntmps=10 from rfl];walk_nrm;refine wq ?_;refine wr ?_;simp only [szs];refine wv (.int .u64 0) ?_;walk_nrm;refine we ?_;refine wq ?_;refine wr ?_;simp only [szs];refine wv (.pointer (some (stC b))) ?_;walk_nrm;refine wv (.pointer (some (stC b))) ?_;walk_nrm;refine wv (.pointer (some (stC b))) ?_;walk_nrm;refine wv (.int .u64 18446744069414584320) ?_;walk_nrm;refine ug ⟨rfl,by decide,fun v wt hwt hv=> ?_⟩;obtain ⟨S,hS⟩: ∃ S:Int,S=(v:Int)*4294967296+(wt:Int):=⟨_,rfl⟩;have eS:IntKind.u64.wrap (((v+1:Nat):Int)*K32+(wt:Int)+18446744069414584320)=S:=by rw [IntKind.wrap_u64,hS];show (((v+1:Nat):Int)*4294967296+(wt:Int)+18446744069414584320)%18446744073709551616=_;omega
 have a1:S / 4294967296=(v:Int):=by rw [hS];omega
 have a2:0≤S∧S<9223372036854775808:=by rw [hS];omega
 have b1:bits .and .u64 S 2147483648=0:=by rw [hS];exact Go.ConcN.st_flag v wt fe hwt
 have b2:bits .and .u64 S 2147483647=(wt:Int):=by rw [hS];exact Go.ConcN.st_waiters v wt fe hwt
 refine ⟨_,fun u y hc=>(stepG_add_atomic rfl rfl gh rfl wgLib.f_addU64 (x_addU64_n Lw) (x_addU64_b Lw) (x_addU64_x Lw) .u64 (x_addU64_f Lw) rfl rfl hc.st hc.fst).trans (by rw [eS,show ((v:Nat):Int)*K32+(wt:Int)=S from hS.symm]),fun hn=>fe3 ?_,fun hl=>fa2 ?_⟩
 · clear eS;rcases Nat.eq_zero_or_pos v with rfl | hvp
   · obtain rfl:wt=0:=by omega
     obtain rfl:S=0:=by simpa using hS
     clear hS a1 a2 b1 b2;walk_nrm;refine wv (.int .u64 0) ?_;walk_nrm;refine we ?_;refine ri rfl (fun _=>f1w) ?_;refine vw (t:=4) rfl rfl Tryz.func109 rfl ?_;walk_nrm;refine wv (.int .u64 0) ?_;walk_nrm;refine we ?_;refine wq ?_;refine wq ?_;refine wr ?_;simp only [szs];refine wv (.int .u64 0) ?_;walk_nrm;refine wu (.int .u64 0) ?_;walk_nrm;refine wu (.bool false) ?_;walk_nrm;refine wv (.bool false) ?_;walk_nrm;refine wz ?_;walk_nrm;refine wz ?_;walk_nrm;refine wv (.bool false) ?_;walk_nrm;refine we ?_;refine wf ?_;refine ws ?_;refine wq ?_;refine wr ?_;simp only [szs];refine wv (.int .u64 0) ?_;walk_nrm;refine wu (.int .u64 0) ?_;walk_nrm;refine wu (.int .i32 0) ?_;walk_nrm;refine wv (.int .i32 0) ?_;walk_nrm;refine we ?_;refine wq ?_;refine wr ?_;simp only [szs];refine wv (.int .u64 0) ?_;walk_nrm;refine wu (.int .u64 0) ?_;walk_nrm;refine wu (.int .u32 0) ?_;walk_nrm;refine wv (.int .u32 0) ?_;walk_nrm;refine we ?_;refine wq ?_;refine wq ?_;refine wr ?_;simp only [szs];refine wv (.bool true) ?_;walk_nrm;refine wv (.int .i64 (-1)) ?_;walk_nrm;refine wv (.bool false) ?_;walk_nrm;refine wv (.bool false) ?_;walk_nrm;refine wv (.bool false) ?_;walk_nrm;refine wz ?_;walk_nrm;refine wz ?_;walk_nrm;refine wz ?_;walk_nrm;refine wz ?_;walk_nrm;refine wv (.bool false) ?_;walk_nrm;refine we ?_;refine wf ?_;refine ws ?_;refine wq ?_;refine wq ?_;refine wr ?_;simp only [szs];refine wv (.int .i32 0) ?_;walk_nrm;refine wu (.bool false) ?_;walk_nrm;refine we ?_;refine wf ?_;refine ws ?_;refine wq ?_;refine wq ?_;refine wr ?_;simp only [szs];refine wv (.int .u32 0) ?_;walk_nrm;refine wv (.bool false) ?_;walk_nrm;refine wv (.bool false) ?_;walk_nrm;refine wz ?_;walk_nrm;refine wz ?_;walk_nrm;refine wv (.bool false) ?_;walk_nrm;refine wv (.bool false) ?_;walk_nrm;refine wz ?_;walk_nrm;refine wz ?_;walk_nrm;refine wz ?_;walk_nrm;refine wz ?_;walk_nrm;refine wv (.bool false) ?_;walk_nrm;refine we ?_;refine wf ?_;refine ws ?_;refine wq ?_;refine wq ?_;refine wr ?_;simp only [szs];refine wv (.int .i32 0) ?_;walk_nrm;refine wv (.bool false) ?_;walk_nrm;refine wv (.bool false) ?_;walk_nrm;refine wv (.int .u32 0) ?_;walk_nrm;refine wv (.bool true) ?_;walk_nrm;refine wv (.bool true) ?_;walk_nrm;refine we ?_;refine wt ?_;refine ri rfl (fun _=>f1w) ?_;refine dm .enable rfl fi rfl wgLib.f_enable (x_enable_n Lw) (x_enable_b Lw) (x_enable_x Lw) (x_enable_f Lw) ?_;refine yo rfl rfl Tryz.func77 rfl ?_;walk_nrm;refine we ?_;refine ri rfl (fun _=>f4e) ?_;refine fa3 rfl rfl Tryz.func79 rfl rfl ?_;refine fh1 rfl rfl Tryz.func78 rfl ?_;exact ug ⟨rfl,rfl⟩
   · obtain rfl | rfl:wt=0∨wt=1:=by omega
     · replace b2:bits .and .u64 S 2147483647=0:=by simpa using b2
       clear hS;walk_nrm;refine wv (.int .u64 S) ?_;walk_nrm;refine we ?_;refine ri rfl (fun _=>f1w) ?_;refine vw (t:=4) rfl rfl Tryz.func109 rfl ?_;walk_nrm;refine wv (.int .u64 S) ?_;walk_nrm;refine we ?_;refine wq ?_;refine wq ?_;refine wr ?_;simp only [szs];refine wv (.int .u64 S) ?_;walk_nrm;refine wu (.int .u64 0) ?_;walk_nrm;refine wu (.bool false) ?_;walk_nrm;refine wv (.bool false) ?_;walk_nrm;refine wz ?_;walk_nrm;refine wz ?_;walk_nrm;refine wv (.bool false) ?_;walk_nrm;refine we ?_;refine wf ?_;refine ws ?_;refine wq ?_;refine wr ?_;simp only [szs];refine wv (.int .u64 S) ?_;walk_nrm;refine wu (.int .u64 (v:Int)) ?_;walk_nrm;refine wu (.int .i32 (v:Int)) ?_;walk_nrm;refine wv (.int .i32 (v:Int)) ?_;walk_nrm;refine we ?_;refine wq ?_;refine wr ?_;simp only [szs];refine wv (.int .u64 S) ?_;walk_nrm;refine wu (.int .u64 0) ?_;walk_nrm;refine wu (.int .u32 0) ?_;walk_nrm;refine wv (.int .u32 0) ?_;walk_nrm;refine we ?_;refine wq ?_;refine wq ?_;refine wr ?_;simp only [szs];refine wv (.bool true) ?_;walk_nrm;refine wv (.int .i64 (-1)) ?_;walk_nrm;refine wv (.bool false) ?_;walk_nrm;refine wv (.bool false) ?_;walk_nrm;refine wv (.bool false) ?_;walk_nrm;refine wz ?_;walk_nrm;refine wz ?_;walk_nrm;refine wz ?_;walk_nrm;refine wz ?_;walk_nrm;refine wv (.bool false) ?_;walk_nrm;refine we ?_;refine wf ?_;refine ws ?_;refine wq ?_;refine wq ?_;refine wr ?_;simp only [szs];refine wv (.int .i32 (v:Int)) ?_;walk_nrm;refine wu (.bool false) ?_;walk_nrm;refine we ?_;refine wf ?_;refine ws ?_;refine wq ?_;refine wq ?_;refine wr ?_;simp only [szs];refine wv (.int .u32 0) ?_;walk_nrm;refine wv (.bool false) ?_;walk_nrm;refine wv (.bool false) ?_;walk_nrm;refine wz ?_;walk_nrm;refine wz ?_;walk_nrm;refine wv (.bool false) ?_;walk_nrm;refine wv (.bool false) ?_;walk_nrm;refine wz ?_;walk_nrm;refine wz ?_;walk_nrm;refine wz ?_;walk_nrm;refine wz ?_;walk_nrm;refine wv (.bool false) ?_;walk_nrm;refine we ?_;refine wf ?_;refine ws ?_;refine wq ?_;refine wq ?_;refine wr ?_;simp only [szs];refine wv (.int .i32 (v:Int)) ?_;walk_nrm;refine wu (.bool true) ?_;walk_nrm;refine wv (.bool true) ?_;walk_nrm;refine wz ?_;walk_nrm;refine wz ?_;walk_nrm;refine wv (.bool true) ?_;walk_nrm;refine we ?_;refine wt ?_;refine ri rfl (fun _=>f1w) ?_;refine dm .enable rfl fi rfl wgLib.f_enable (x_enable_n Lw) (x_enable_b Lw) (x_enable_x Lw) (x_enable_f Lw) ?_;refine yo rfl rfl Tryz.func77 rfl ?_;walk_nrm;refine we ?_;refine ri rfl (fun _=>f4e) ?_;refine fa3 rfl rfl Tryz.func79 rfl rfl ?_;refine fh1 rfl rfl Tryz.func78 rfl ?_;exact ug ⟨rfl,rfl⟩
     · replace b2:bits .and .u64 S 2147483647=1:=by simpa using b2
       clear hS;walk_nrm;refine wv (.int .u64 S) ?_;walk_nrm;refine we ?_;refine ri rfl (fun _=>f1w) ?_;refine vw (t:=4) rfl rfl Tryz.func109 rfl ?_;walk_nrm;refine wv (.int .u64 S) ?_;walk_nrm;refine we ?_;refine wq ?_;refine wq ?_;refine wr ?_;simp only [szs];refine wv (.int .u64 S) ?_;walk_nrm;refine wu (.int .u64 0) ?_;walk_nrm;refine wu (.bool false) ?_;walk_nrm;refine wv (.bool false) ?_;walk_nrm;refine wz ?_;walk_nrm;refine wz ?_;walk_nrm;refine wv (.bool false) ?_;walk_nrm;refine we ?_;refine wf ?_;refine ws ?_;refine wq ?_;refine wr ?_;simp only [szs];refine wv (.int .u64 S) ?_;walk_nrm;refine wu (.int .u64 (v:Int)) ?_;walk_nrm;refine wu (.int .i32 (v:Int)) ?_;walk_nrm;refine wv (.int .i32 (v:Int)) ?_;walk_nrm;refine we ?_;refine wq ?_;refine wr ?_;simp only [szs];refine wv (.int .u64 S) ?_;walk_nrm;refine wu (.int .u64 1) ?_;walk_nrm;refine wu (.int .u32 1) ?_;walk_nrm;refine wv (.int .u32 1) ?_;walk_nrm;refine we ?_;refine wq ?_;refine wq ?_;refine wr ?_;simp only [szs];refine wv (.bool true) ?_;walk_nrm;refine wv (.int .i64 (-1)) ?_;walk_nrm;refine wv (.bool false) ?_;walk_nrm;refine wv (.bool false) ?_;walk_nrm;refine wv (.bool false) ?_;walk_nrm;refine wz ?_;walk_nrm;refine wz ?_;walk_nrm;refine wz ?_;walk_nrm;refine wz ?_;walk_nrm;refine wv (.bool false) ?_;walk_nrm;refine we ?_;refine wf ?_;refine ws ?_;refine wq ?_;refine wq ?_;refine wr ?_;simp only [szs];refine wv (.int .i32 (v:Int)) ?_;walk_nrm;refine wu (.bool false) ?_;walk_nrm;refine we ?_;refine wf ?_;refine ws ?_;refine wq ?_;refine wq ?_;refine wr ?_;simp only [szs];refine wv (.int .u32 1) ?_;walk_nrm;refine wv (.bool true) ?_;walk_nrm;refine wv (.bool true) ?_;walk_nrm;refine wv (.int .i64 (-1)) ?_;walk_nrm;refine wv (.bool false) ?_;walk_nrm;refine wv (.bool false) ?_;walk_nrm;refine wv (.bool false) ?_;walk_nrm;refine wz ?_;walk_nrm;refine wz ?_;walk_nrm;refine wz ?_;walk_nrm;refine wz ?_;walk_nrm;refine wv (.bool false) ?_;walk_nrm;refine we ?_;refine wf ?_;refine ws ?_;refine wq ?_;refine wq ?_;refine wr ?_;simp only [szs];refine wv (.int .i32 (v:Int)) ?_;walk_nrm;refine wu (.bool true) ?_;walk_nrm;refine wv (.bool true) ?_;walk_nrm;refine wz ?_;walk_nrm;refine wz ?_;walk_nrm;refine wv (.bool true) ?_;walk_nrm;refine we ?_;refine wt ?_;refine ri rfl (fun _=>f1w) ?_;refine dm .enable rfl fi rfl wgLib.f_enable (x_enable_n Lw) (x_enable_b Lw) (x_enable_x Lw) (x_enable_f Lw) ?_;refine yo rfl rfl Tryz.func77 rfl ?_;walk_nrm;refine we ?_;refine ri rfl (fun _=>f4e) ?_;refine fa3 rfl rfl Tryz.func79 rfl rfl ?_;refine fh1 rfl rfl Tryz.func78 rfl ?_;exact ug ⟨rfl,rfl⟩
 · obtain ⟨rfl,rfl⟩:=hl;obtain rfl:S=1:=by simpa using hS
   clear hS a1 a2 b1 b2 eS;walk_nrm;refine wv (.int .u64 1) ?_;walk_nrm;refine we ?_;refine ri rfl (fun _=>f1w) ?_;refine vw (t:=4) rfl rfl Tryz.func109 rfl ?_;walk_nrm;refine wv (.int .u64 1) ?_;walk_nrm;refine we ?_;refine wq ?_;refine wq ?_;refine wr ?_;simp only [szs];refine wv (.int .u64 1) ?_;walk_nrm;refine wu (.int .u64 0) ?_;walk_nrm;refine wu (.bool false) ?_;walk_nrm;refine wv (.bool false) ?_;walk_nrm;refine wz ?_;walk_nrm;refine wz ?_;walk_nrm;refine wv (.bool false) ?_;walk_nrm;refine we ?_;refine wf ?_;refine ws ?_;refine wq ?_;refine wr ?_;simp only [szs];refine wv (.int .u64 1) ?_;walk_nrm;refine wu (.int .u64 0) ?_;walk_nrm;refine wu (.int .i32 0) ?_;walk_nrm;refine wv (.int .i32 0) ?_;walk_nrm;refine we ?_;refine wq ?_;refine wr ?_;simp only [szs];refine wv (.int .u64 1) ?_;walk_nrm;refine wu (.int .u64 1) ?_;walk_nrm;refine wu (.int .u32 1) ?_;walk_nrm;refine wv (.int .u32 1) ?_;walk_nrm;refine we ?_;refine wq ?_;refine wq ?_;refine wr ?_;simp only [szs];refine wv (.bool true) ?_;walk_nrm;refine wv (.int .i64 (-1)) ?_;walk_nrm;refine wv (.bool false) ?_;walk_nrm;refine wv (.bool false) ?_;walk_nrm;refine wv (.bool false) ?_;walk_nrm;refine wz ?_;walk_nrm;refine wz ?_;walk_nrm;refine wz ?_;walk_nrm;refine wz ?_;walk_nrm;refine wv (.bool false) ?_;walk_nrm;refine we ?_;refine wf ?_;refine ws ?_;refine wq ?_;refine wq ?_;refine wr ?_;simp only [szs];refine wv (.int .i32 0) ?_;walk_nrm;refine wu (.bool false) ?_;walk_nrm;refine we ?_;refine wf ?_;refine ws ?_;refine wq ?_;refine wq ?_;refine wr ?_;simp only [szs];refine wv (.int .u32 1) ?_;walk_nrm;refine wv (.bool true) ?_;walk_nrm;refine wv (.bool true) ?_;walk_nrm;refine wv (.int .i64 (-1)) ?_;walk_nrm;refine wv (.bool false) ?_;walk_nrm;refine wv (.bool false) ?_;walk_nrm;refine wv (.bool false) ?_;walk_nrm;refine wz ?_;walk_nrm;refine wz ?_;walk_nrm;refine wz ?_;walk_nrm;refine wz ?_;walk_nrm;refine wv (.bool false) ?_;walk_nrm;refine we ?_;refine wf ?_;refine ws ?_;refine wq ?_;refine wq ?_;refine wr ?_;simp only [szs];refine wv (.int .i32 0) ?_;walk_nrm;refine wv (.bool false) ?_;walk_nrm;refine wv (.bool false) ?_;walk_nrm;refine wv (.int .u32 1) ?_;walk_nrm;refine wv (.bool false) ?_;walk_nrm;refine wv (.bool false) ?_;walk_nrm;refine we ?_;refine wf ?_;refine ws ?_;refine wq ?_;refine wq ?_;refine wr ?_;simp only [szs];refine wv (.pointer (some (stC b))) ?_;walk_nrm;refine wv (.pointer (some (stC b))) ?_;walk_nrm;refine wv (.pointer (some (stC b))) ?_;walk_nrm;refine i7 rfl rfl gh rfl Tryz.func62 fd rfl ?_;simp only [show Tryz.f62.ntmps=7 from rfl];walk_nrm;refine wq ?_;refine wr ?_;simp only [szs];refine wv (.int .u64 0) ?_;walk_nrm;refine we ?_;refine wq ?_;refine wr ?_;simp only [szs];refine wv (.pointer (some (stC b))) ?_;walk_nrm;refine wv (.pointer (some (stC b))) ?_;walk_nrm;refine wv (.pointer (some (stC b))) ?_;walk_nrm;refine ug ⟨rfl,by decide,_,fun u y hc=>stepG_load_atomic rfl rfl gh rfl wgLib.f_loadU64 (x_loadU64_n Lw) (x_loadU64_b Lw) (x_loadU64_x Lw) .u64 (x_loadU64_f Lw) rfl hc.st,fa2 ?_⟩;walk_nrm;refine wv (.int .u64 1) ?_;walk_nrm;refine we ?_;refine ri rfl (fun _=>f1w) ?_;refine vw (t:=2) rfl rfl Tryz.func62 rfl ?_;walk_nrm;refine wv (.int .u64 1) ?_;walk_nrm;refine wv (.bool false) ?_;walk_nrm;refine we ?_;refine wf ?_;refine ws ?_;refine wq ?_;refine wr ?_;simp only [szs];refine wv (.pointer (some (stC b))) ?_;walk_nrm;refine wv (.pointer (some (stC b))) ?_;walk_nrm;refine wv (.pointer (some (stC b))) ?_;walk_nrm;refine i7 rfl rfl gh rfl Tryz.func111 fd rfl ?_;simp only [show Tryz.f111.ntmps=9 from rfl];walk_nrm;refine wr ?_;simp only [szs];refine wv (.pointer (some (stC b))) ?_;walk_nrm;refine wv (.pointer (some (stC b))) ?_;walk_nrm;refine wv (.pointer (some (stC b))) ?_;walk_nrm;refine wv (.int .u64 0) ?_;walk_nrm;refine ug ⟨rfl,by decide,_,fun u y hc=>stepG_store_atomic rfl rfl gh rfl wgLib.f_storeU64 (x_storeU64_n Lw) (x_storeU64_b Lw) (x_storeU64_x Lw) (x_storeU64_f Lw) rfl rfl hc.st hc.fst,fa2 ?_⟩;walk_nrm;refine we ?_;refine ri rfl (fun _=>f4e) ?_;refine yo rfl rfl Tryz.func111 rfl ?_;walk_nrm;refine we ?_;refine wq ?_;refine wq ?_;refine wr ?_;simp only [szs];refine wv (.bool false) ?_;walk_nrm;refine we ?_;refine wf ?_;refine ws ?_;refine ri rfl (fun _=>f5i) ?_;refine ri rfl (fun _=>stepG_loop) ?_;refine wq ?_;refine wq ?_;refine wr ?_;simp only [szs];refine wv (.int .u32 1) ?_;walk_nrm;refine wv (.bool true) ?_;walk_nrm;refine we ?_;refine wt ?_;refine ws ?_;refine wq ?_;refine ri rfl (fun _=>f5i) ?_;refine wr ?_;simp only [szs];refine wv (.pointer (some (stC b))) ?_;walk_nrm;refine wv (.pointer (some (stC b))) ?_;walk_nrm;refine wv (.pointer (some (smC b))) ?_;walk_nrm;refine ug ⟨rfl,by decide,fl8 rfl rfl wgLib.f_semrelease (x_semrelease_b Lw),_,fun u hc=>(stepG_semrelease rfl rfl gh rfl wgLib.f_semrelease (x_semrelease_n Lw) (x_semrelease_b Lw) (x_semrelease_x Lw) (x_semrelease_f Lw) (ad:=smC b) jh hc.sm hc.fsm).trans (by rw [show IntKind.u32.wrap (0+1)=1 from by decide]),fe3 ?_⟩;walk_nrm;refine we ?_;refine ri rfl (fun _=>stepG_inBlock) ?_;refine wr ?_;simp only [szs];refine wv (.int .u32 1) ?_;walk_nrm;refine wu (.int .u32 0) ?_;walk_nrm;refine wv (.int .u32 0) ?_;walk_nrm;refine we ?_;refine ri rfl (fun _=>stepG_inLoop) ?_;refine wq ?_;refine wq ?_;refine wr ?_;simp only [szs];refine wv (.int .u32 0) ?_;walk_nrm;refine wv (.bool false) ?_;walk_nrm;refine we ?_;refine wf ?_;refine ri rfl (fun _=>stepG_exit rfl) ?_;refine ri rfl (fun _=>f4e) ?_;refine dm .enable rfl fi rfl wgLib.f_enable (x_enable_n Lw) (x_enable_b Lw) (x_enable_x Lw) (x_enable_f Lw) ?_;refine yo rfl rfl Tryz.func77 rfl ?_;walk_nrm;refine we ?_;refine ri rfl (fun _=>f4e) ?_;refine fa3 rfl rfl Tryz.func79 rfl rfl ?_;refine fh1 rfl rfl Tryz.func78 rfl ?_;exact ug ⟨rfl,rfl⟩
end
end Go.Proofs.YtelecjnabeokeaaGreatDoor
