/- Orders. Part 3 of 6. -/
import Derived.Test.YtelecjnabeokeaaGreatDoorO2
import Derived.Test.YtelecjnabeokeaaGreatDoorProg
set_option maxRecDepth 100000
set_option maxHeartbeats 16000000
set_option linter.defProp false
set_option linter.unusedVariables false
set_option linter.unusedSimpArgs false
namespace Go.Proofs.YtelecjnabeokeaaGreatDoor
open Go Go.RowKit
open Go.ChangeMaps (setBlock)
def fox {n:Nat} {f:Nat->Int} {c:Nat} (h:c<n):(cr n f)[c]? =some (.int .i64 (f c)):=by
 simp[cr,h]
def foy {n:Nat} {f:Nat->Int} {c:Nat} (v:Int):(cr n f).setIfInBounds c (.int .i64 v)=cr n (Plain.put f c v):=by
 apply Array.ext';apply List.ext_getElem?;intro i;simp only[cr,f1m,List.getElem?_set,f1s,List.length_map,List.length_range];by_cases h:i<n
 ·rw[f5k h];by_cases e:c=i
  ·subst e;simp[h,Plain.put_same]
  ·simp[e,Plain.put_ne f v (λe':i=c=>e e'.symm)]
 ·rw[f2q f7k];by_cases e:c=i
  ·subst e;simp[h]
  ·simp[e]
def fsc {n:Nat} {f g:Nat->Int} (h: ∀i,i<n->f i=g i):cr n f=cr n g:=by
 unfold cr
 congr 1
 apply f5j;intro i hi;rw[h i (f2s.1 hi)]
def Ends.cv {w:World} {L:Lay} {n:Nat} {es j:Nat->Plain.EndS} {er:Nat->Value} (h:Ends w L n es er) (e: ∀i,i<n->es i=j i):Ends w L n j er:=by
 obtain⟨cs,h1,h2,h3⟩:=h.bk;exact⟨cs,h1,h2,λc hc=>by rw[<- e c hc];exact h3 c hc⟩
def uz {w:World} {base n size g:Nat} {e:TypeId} {v:Value} {xs:List Value} {o:Obj} (h:w.ownsRow base e size v n xs) (hg:w.heap[g]? =some o) (j: ∀c t f,o≠ .cells c t f): ∀x,v.ownBlock=some x->x≠g:=by
 intro x hx;rcases h.2 with⟨rfl,_⟩|⟨g',cap,cur,rfl,_,hh,_⟩
 ·simp[Value.ownBlock] at hx
 ·obtain rfl:g'=x:=by simpa[Value.ownBlock] using hx
  rintro rfl;rw[hg] at hh;injection hh with hh
  exact j _ _ _ hh
section
variable {L:Lay} {V V':Vals} {S S':Plain.Ses} {m:Int} {ow:Nat->Nat} {w w' w1 w2:World} {E:Nat->Value}
def Mem.cv (h:Mem L V S m ow w) (hn:S'.n=S.n) (hr:S'.room=S.room) (ht:S'.text=S.text) (hl:S'.log=S.log) (hc:S'.calls=S.calls)
    (h1: ∀i,i<S.n->S'.cl i=S.cl i/\S'.curs i=S.curs i/\S'.ends i=S.ends i/\S'.known i=S.known i):Mem L V S' m ow w:=by
 obtain⟨n,room,cl,text,log,curs,ends,known,calls⟩:=S';simp only at hn hr ht hl hc h1;subst hn hr ht hl hc
 exact⟨h.base,h.tag,h.fresh,h.bb,h.ss,h.ee.cv λi hi=>(h1 i hi).2.2.1.symm,h.nn.cv (fsc λi hi=>(h1 i hi).2.2.2.symm),h.mp.cv λi hi=>(h1 i hi).2.1.symm,h.ar,h.st,h.lg,
    λc hc=>by simp only[(h1 c hc).1];exact h.kk c hc,λc hc=>by simp only[(h1 c hc).1];exact h.up c hc,λc hc=>by simp only[(h1 c hc).1];exact h.dn c hc,λc hc=>by simp only[(h1 c hc).1];exact h.tx c hc,λc hc=>by simp only[(h1 c hc).1];exact h.rw c hc,λc hc=>by simp only[(h1 c hc).2.2.1];exact h.er c hc,⟨h.far.lt,h.far.st,h.far.tv⟩⟩
structure Stg (L:Lay) (V:Vals) (S:Plain.Ses) (m:Int) (ow:Nat->Nat) (w1:World) (x:Nat) (t:TypeId) (Q:Array Value) (w:World):Prop where
 out: ∃ow',Mem L V S m ow' w/\Bk w x t Q/\ow' x=0/\Ex ow ow' w1 w
def Stg.step {x:Nat} {t:TypeId} {Q:Array Value} (h:Stg L V S m ow w1 x t Q w) (hs: ∀ow',Mem L V S m ow' w-> ∃j,Mem L V' S' m j w'/\Ex ow' j w w'):Stg L V' S' m ow w1 x t Q w':=by
 obtain⟨ow',hM,hB,h0,hE⟩:=h.out;obtain⟨j,A,q⟩:=hs ow' hM;exact⟨j,A,hB.ch q.ch (λhn=>hn h0),(q.own x hB.lt).trans h0,hE.tr q⟩
def Stg.bl {x:Nat} {t:TypeId} {Q:Array Value} (h:Stg L V S m ow w1 x t Q w) (hb:Bl w w'):Stg L V S m ow w1 x t Q w':=h.step λow' hM=>⟨ow',hM.bl hb,Ex.bl hb⟩
def fsd (h:Mem L V S m ow w) {c:Nat} (v:Int): ∃ow',Mem L V { S with known:=Plain.put S.known c v } m ow' (w.setCell ⟨L.nb,c,none⟩ (.int .i64 v))/\Ex ow ow' w (w.setCell ⟨L.nb,c,none⟩ (.int .i64 v)):=by
 have hC:Ch (λx=>x=L.nb) w (w.setCell ⟨L.nb,c,none⟩ (.int .i64 v)):=(Ch.rf (λx=>x=L.nb) _).st (.inl rfl) _;obtain⟨ow',hM,ho⟩:=h.know (Plain.put S.known c v) hC (λx _ hx=>by subst hx;exact h.tag.nb) ⟨λu t hu x hx hk=>rp hu h.nn fu x hx hk⟩ ((h.nn.st _).cv (foy _));exact⟨ow',hM,Ex.of hC ho (λx _ hx=>by subst hx;rw[h.tag.nb];refine⟨by omega,by omega,λc'=>by omega⟩)⟩
def fv4 (h:Mem L V S m ow w) (hb:Bl w w1) {v:Value} {t':List Plain.El} (ht:Txt w1 v t') (hf: ∀x,v.ownBlock=some x->V.st.ownBlock=some x\/w.heap.size<=x): ∃ow',Mem L { V with st:=v } { S with text:=t' } m ow' (w1.setCell ⟨L.sb,0,none⟩ v)/\Ex ow ow' w (w1.setCell ⟨L.sb,0,none⟩ v):=by
 have hs:=Bk.bl hb h.ss;have hC:Ch (λx=>x=L.sb) w (w1.setCell ⟨L.sb,0,none⟩ v):=(Ch.ba (K:=λx=>x=L.sb) hb).st (.inl rfl) _;obtain⟨ow',hM,ho⟩:=h.text_ t' v hC (λx _ hx=>by subst hx;exact h.tag.sb) ⟨λu t hu x hx hk=>rp hu h.ss fu x hx hk⟩ ((hs.st v).cv fi) (qx (K:=λx=>x=L.sb) ((Ch.rf (λx=>x=L.sb) _).st (.inl rfl) _) ht (rp ht hs fu)) hf;exact⟨ow',hM,Ex.of hC ho (λx _ hx=>by subst hx;rw[h.tag.sb];refine⟨by omega,by omega,λc'=>by omega⟩)⟩
def mem_log (h:Mem L V S m ow w) (hb:Bl w w1) (hg:w1.grownBy w2 V.lg.ownBlock) {j:Value} {a:Plain.Chg} (hr:w2.ownsRow 0 40 6 j (S.log.length+1) (logF S.log++chgL a)) (ho: ∀x,j.ownBlock=some x->V.lg.ownBlock=some x\/w.heap.size<=x):
    ∃ow',Mem L { V with lg:=j } { S with log:=S.log++[a] } m ow' (w2.setCell ⟨L.sb,1,none⟩ j)/\Ex ow ow' w (w2.setCell ⟨L.sb,1,none⟩ j):=by
 have hn: ∀x,V.lg.ownBlock=some x->x≠L.sb:=rp h.lg h.ss fu;have hs:Bk w2 L.sb 80 (srvC L S.n V.st V.lg):=Bk.gr hg (λe=>hn _ e.symm rfl) (Bk.bl hb h.ss);have hC:Ch (λx=>x=L.sb\/V.lg.ownBlock=some x) w (w2.setCell ⟨L.sb,1,none⟩ j):=((Ch.ba (K:=λx=>x=L.sb\/V.lg.ownBlock=some x) hb).gr hg (λk hk=>.inl (.inr hk))).st (.inl (.inl rfl)) _
 obtain⟨ow',hM,ho⟩:=h.log_ (S.log++[a]) j hC (λx _ hx=>by rcases hx with hx|hx;subst hx;exact .inl h.tag.sb;exact .inr (h.tag.lg x hx)) ⟨λu t hu x hx hk=>by rcases hk with hk|hk;exact rp hu h.ss fu x hx hk;exact vo hu h.lg fu x hx hk⟩ ((hs.st j).cv fi)
    (by
      have e:logF (S.log++[a])=logF S.log++chgL a:=by rw[flp];simp[logF]
      rw[e,f0a];exact qx (K:=λx=>x=L.sb) ((Ch.rf (λx=>x=L.sb) _).st (.inl rfl) _) hr (rp hr hs fu)) ho
 exact⟨ow',hM,Ex.of hC ho (λx _ hx=>by rcases hx with hx|hx;subst hx;rw[h.tag.sb];refine⟨by omega,by omega,λc'=>by omega⟩;rw[h.tag.lg x hx];refine⟨by omega,by omega,λc'=>by omega⟩)⟩
def fnd (h:Mem L V S m ow w) {c:Nat} (v:Int): ∃ow',Mem L V { S with curs:=Plain.put S.curs c v } m ow' (setBlock w L.mb (.map (mapE S.n (Plain.put S.curs c v)) S.n))/\Ex ow ow' w (setBlock w L.mb (.map (mapE S.n (Plain.put S.curs c v)) S.n)):=by
 have hC:Ch (λx=>x=L.mb) w (setBlock w L.mb (.map (mapE S.n (Plain.put S.curs c v)) S.n)):=(Ch.rf (λx=>x=L.mb) _).sb (.inl rfl) _;obtain⟨ow',hM,ho⟩:=h.curs_ (Plain.put S.curs c v) hC (λx _ hx=>by subst hx;exact h.tag.mb) ⟨λu t hu x hx hk=>uz hu h.mp.at_ (λ_ _ _ e=>by cases e) x hx hk⟩ h.mp.sb;exact⟨ow',hM,Ex.of hC ho (λx _ hx=>by subst hx;rw[h.tag.mb];refine⟨by omega,by omega,λc'=>by omega⟩)⟩
def fv5 (h:Mem L V S m ow w) {r b n:Nat} {seen:Array Nat} (hi:It w r b n seen) (h0:ow r=0) (hC:Ch (λx=>x=r) w w'):Mem L V S m ow w':=by
 have hn: ∀(g:Nat) (t:TypeId) (c:Array Value),Bk w g t c->g≠r:=λg t c hg e=>by
    have:=hg.at_;rw[e,hi.at_] at this;cases this
 obtain⟨t0,c0,b0⟩:=h.base.b0;obtain⟨t1,c1,b1⟩:=h.base.b1;exact h.ch hC (λx hx=>by subst hx;exact h0) ⟨λu t hu x hx hk=>uz hu hi.at_ (λ_ _ _ e=>by cases e) x hx hk⟩ (hn _ _ _ b0) (hn _ _ _ b1)
def fse {n c:Nat} {cs:Array Value} {es:Nat->Plain.EndS} {er:Nat->Value} (hc:c<n) (hs:cs.size=n*4) (he: ∀c,c<n->EndC cs (c*4) (es c) (er c)) (e':Plain.EndS) (h1:e'.other=(es c).other) (h2:e'.acked=(es c).acked) {j:Value}
    (hB:Bk w' L.eb 86 ((cs.setIfInBounds (c*4+3) j).setIfInBounds (c*4) (.int .i64 e'.mine))):Ends w' L n (Plain.put es c e') (Plain.put er c j):=by
 refine⟨_,hB,by simp[hs],λi hi=>?_⟩;have h:=he i hi;by_cases e:i=c
 ·subst e;simp only[Plain.put_same];refine⟨?_,?_,?_,?_⟩
  ·simp only[fy1];simp only[f00,f0e,hs];rw[f02 fe]
  ·simp only[fy1];rw[fx9 fe,fx9 fe,h.other,h1]
  ·simp only[fy1];rw[fx9 fe,fx9 fe,h.acked,h2]
  ·simp only[fy1];simp only[f00,f0e,hs];rw[fx9 fe,f02 fe]
 ·simp only[Plain.put_ne _ _ e];refine⟨?_,?_,?_,?_⟩ <;>simp only[fy1]
  ·rw[fx9 fe,fx9 fe];exact h.mine
  ·rw[fx9 fe,fx9 fe];exact h.other
  ·rw[fx9 fe,fx9 fe];exact h.acked
  ·rw[fx9 fe,fx9 fe];exact h.row
def fv6 (h:Mem L V S m ow w) {c:Nat} (hc:c<S.n) (a:Plain.Chg) (k:Int) (hl:(S.ends c).row.length<=4000) (hm:0<=(S.ends c).mine/\(S.ends c).mine<=1000000):
    Calls PV 91 #[.pointer (some ⟨L.eb,c*4,none⟩),chgV a,.int .i64 k] w λx w'=> ∃C ow',x=.returned (frmV (Plain.frame (S.ends c) a k))/\
     Mem L { V with er:=Plain.put V.er c C } { S with ends:=Plain.put S.ends c (Plain.send (S.ends c) a) } m ow' w'/\Ex ow ow' w w'/\Ch (λx=>x=L.eb\/(V.er c).ownBlock=some x) w w':=by
 obtain⟨cs,j,B,q⟩:=h.ee.bk;have t:=h.tag;refine(fcm L.eb (c*4) 86 cs (V.er c) (S.ends c) a k w j (q c hc) (h.er c hc) (λe=>rp (h.er c hc) j fu _ e rfl) hm hl).mono ?_;rintro x w' ⟨A,rfl,hB,hR,hO,hC⟩
 obtain⟨ow',hM,ho⟩:=h.end hc (Plain.send (S.ends c) a) A hC (λx _ hx=>by rcases hx with hx|hx;subst hx;exact .inl t.eb;exact .inr (t.er c hc x hx)) ⟨λv t' hv x hx hk=>by rcases hk with hk|hk;exact rp hv j fu x hx hk;exact vo hv (h.er c hc) fu x hx hk⟩
    (fse hc B q (Plain.send (S.ends c) a) rfl rfl hB) hR (λx hx=>by
      rcases hO with hO|⟨b,hb,hlt⟩
      ·exact .inl (hO▸hx)
      ·rw[hb] at hx;cases hx;exact .inr hlt)
 exact⟨A,ow',rfl,hM,Ex.of hC ho (λx _ hx=>by rcases hx with hx|hx;subst hx;rw[t.eb];refine⟨by omega,by omega,λc'=>by omega⟩;rw[t.er c hc x hx];refine⟨by omega,by omega,λc'=>by omega⟩),hC⟩
def fv7 (h:Mem L V S m ow w) {c:Nat} (hc:c<S.n) (f:Plain.Frm) (hl:(S.cl c).down.length<S.room) (hr:S.room<=1000):
    Calls PV 90 #[.pointer (some ⟨L.dl c,0,none⟩),frmV f] w λx w'=> ∃ow',x=.returned (.bool true)/\
     Mem L V { S with cl:=Plain.put S.cl c { S.cl c with down:=(S.cl c).down++[f] } } m ow' w'/\Ex ow ow' w w'/\Ch (λx=>x=L.dc c) w w':=by
 have t:=h.tag;have hL:=h.dn c hc;refine(fcn (L.dl c) (L.dc c) S.room _ f w h.base hL (by have:=t.ge (x:=L.dl c) (by rw[t.dl c hc];omega);omega) hl hr).mono ?_;rintro x w' ⟨rfl,A,hC⟩
 have j: ∀x,x=L.dc c->ow x=16*c+20:=by
    rintro x rfl;exact t.dc c hc
 have q:NT (λx=>x=L.dc c) w:=⟨λv t' hv x hx hk=>ui hv hL x hx hk⟩
 obtain⟨ow',hM,ho⟩:=h.cli hc { S.cl c with down:=(S.cl c).down++[f] } S.calls (V.tv c) (V.rv c) m hC (λx _ hx=>by have:=j x hx;omega) q
    (h.bb.ch hC (λe=>by have:=j _ e;rw[t.b] at this;omega)) ((h.kk c hc).ch hC (λe=>by have:=j _ e;rw[t.kb c hc] at this;omega)) ((h.up c hc).ch_ hC (λe=>by have:=j _ e;rw[t.ul c hc] at this;omega) (λe=>by have:=j _ e;rw[t.uc c hc] at this;omega)) A
    (qx hC (h.tx c hc) (q.out _ _ (h.tx c hc))) (qx hC (h.rw c hc) (λx hx e=>by have:=j _ e;rw[t.rv c hc x hx] at this;omega)) (λx hx=>.inl hx) (λx hx=>.inl hx)
 rw[ic,ic] at hM;exact⟨ow',rfl,hM,Ex.of hC ho (λx _ hx=>by have:=j x hx;refine⟨by omega,by omega,λc'=>by omega⟩),hC⟩
def fsf (h:Mem L V S m ow w) {x:Nat} {t:TypeId} {Q:Array Value} (hB:Bk w x t Q) (ht:(38:TypeId)≠t) (h0:ow x=0) (j:2<=x) (hC:Ch (λy=>y=x) w w'):Mem L V S m ow w':=
 h.ch hC (λy hy=>by subst hy;exact h0) ⟨λu t' hu y hy hk=>rp hu hB ht y hy hk⟩ fe fe
structure StgI (L:Lay) (V:Vals) (S:Plain.Ses) (m:Int) (ow:Nat->Nat) (w1:World) (x:Nat) (t:TypeId) (Q:Array Value) (r:Nat) (seen:Array Nat) (w:World):Prop where
 out: ∃ow',Mem L V S m ow' w/\Bk w x t Q/\ow' x=0/\Ex ow ow' w1 w/\It w r L.mb S.n seen/\ow' r=0/\r≠x/\w1.heap.size<=r
section
variable {x r:Nat} {t:TypeId} {Q:Array Value} {seen:Array Nat}
def Stg.start (h:Stg L V S m ow w1 x t Q w):StgI L V S m ow w1 x t Q w.heap.size #[] (w.alloc (.mapIter (some L.mb) S.n #[] S.n)):=by
 obtain⟨ow',hM,hB,h0,hE⟩:=h.out;exact⟨ow',hM.bl ((Bl.rf _).al _),hB.al _,h0,hE.tr (Ex.bl ((Bl.rf _).al _)),It.nw,hM.fresh _ (fx8 _),λe=>by have:=hB.lt;omega,hE.ch.size⟩
def StgI.bl (h:StgI L V S m ow w1 x t Q r seen w) (hb:Bl w w'):StgI L V S m ow w1 x t Q r seen w':=by
 obtain⟨ow',hM,hB,h0,hE,hI,hr,hx,hl⟩:=h.out;exact⟨ow',hM.bl hb,hB.bl hb,h0,hE.tr (Ex.bl hb),hI.ch (K:=λ_=>False) (Ch.ba hb) (λh=>h),hr,hx,hl⟩
def StgI.move {j:Array Nat} (h:StgI L V S m ow w1 x t Q r seen w) (hC:Ch (λy=>y=r) w w') (hI:It w' r L.mb S.n j):StgI L V S m ow w1 x t Q r j w':=by
 obtain⟨ow',hM,hB,h0,hE,q,hr,hx,hl⟩:=h.out;exact⟨ow',fv5 hM q hr hC,hB.ch hC (λe=>hx e.symm),h0,⟨hE.ch.tr hC (λy hy=>.inr fe),hE.own,λy hy ht=>(hC.block y (f0f hy hE.ch.size) (λhk=>by omega)).trans (hE.marks y hy ht)⟩,hI,hr,hx,hl⟩
def StgI.step (h:StgI L V S m ow w1 x t Q r seen w) (hn:S'.n=S.n) (hs: ∀ow',Mem L V S m ow' w-> ∃j,Mem L V' S' m j w'/\Ex ow' j w w'):StgI L V' S' m ow w1 x t Q r seen w':=by
 obtain⟨ow',hM,hB,h0,hE,hI,hr,hx,hl⟩:=h.out;obtain⟨j,A,q⟩:=hs ow' hM;exact⟨j,A,hB.ch q.ch (λhn=>hn h0),(q.own x hB.lt).trans h0,hE.tr q,by rw[hn];exact hI.ch q.ch (λhn=>hn hr),(q.own r hI.lt).trans hr,hx,hl⟩
def StgI.stop (h:StgI L V S m ow w1 x t Q r seen w):Stg L V S m ow w1 x t Q w:=by
 obtain⟨ow',hM,hB,h0,hE,_⟩:=h.out;exact⟨ow',hM,hB,h0,hE⟩
def Stg.cv (h:Stg L V S m ow w1 x t Q w) (hn:S'.n=S.n) (hr:S'.room=S.room) (ht:S'.text=S.text) (hl:S'.log=S.log) (hc:S'.calls=S.calls)
    (h1: ∀i,i<S.n->S'.cl i=S.cl i/\S'.curs i=S.curs i/\S'.ends i=S.ends i/\S'.known i=S.known i):Stg L V S' m ow w1 x t Q w:=
 h.step λow' hM=>⟨ow',hM.cv hn hr ht hl hc h1,Ex.rf⟩
def StgI.cv (h:StgI L V S m ow w1 x t Q r seen w) (hn:S'.n=S.n) (hr:S'.room=S.room) (ht:S'.text=S.text) (hl:S'.log=S.log) (hc:S'.calls=S.calls)
    (h1: ∀i,i<S.n->S'.cl i=S.cl i/\S'.curs i=S.curs i/\S'.ends i=S.ends i/\S'.known i=S.known i):StgI L V S' m ow w1 x t Q r seen w:=
 h.step hn λow' hM=>⟨ow',hM.cv hn hr ht hl hc h1,Ex.rf⟩
end
def Mem.cls_at (h:Mem L V S m ow w) {ab cap:Nat} (e:L.cls=.slice (some ⟨ab,0,none⟩) S.n cap) (i:Nat) (hi:i<S.n):w.cell? ⟨ab,i,none⟩=some (.pointer (some ⟨L.kb i,0,none⟩)):=by
 obtain⟨q,j,e',h'⟩:=h.cls_ fe;rw[e] at e';injection e' with e1
 injection e1 with e1
 injection e1 with e1
 subst e1;exact h' i hi
def fls (h:Mem L V S m ow w) {i c:Nat} (hi:i<S.n) (hc:c<S.n):(binOp .neq 83 (.pointer (some ⟨L.kb i,0,none⟩)) (.pointer (some ⟨L.kb c,0,none⟩))).run PV w=.ok (.bool (decide (i≠c))) w:=by
 rw[fsb (h.kk i hi) (h.kk c hc)]
 congr 2
 exact decide_eq_decide.2 ⟨λh e=>h (by rw[e]),λh' e=>h' (h.kb_inj hi hc e)⟩
def fv8 {c:Nat} {f:Plain.Frm} {U:List Plain.Frm} (hu:(S.cl c).up=f::U) (hf:Plain.fullAt S c S.n=false):Plain.serve S c=(0,Plain.served S c f U):=by
 unfold Plain.serve;rw[hu];simp only;rw[fx9 (by rw[hf];simp)]
def iu (S:Plain.Ses) (c:Nat) (f:Plain.Frm) (q:Plain.Chg) (i:Nat):Nat->Plain.EndS:=λo=>if o=c then Plain.take (S.ends o) f else if o<i then Plain.send (S.ends o) q else S.ends o
def clI (S:Plain.Ses) (c:Nat) (U:List Plain.Frm) (q:Plain.Chg) (k:Int) (i:Nat):Nat->Plain.Cl:=λo=>if o=c then { S.cl o with up:=U } else if o<i then { S.cl o with down:=(S.cl o).down++[Plain.frame (S.ends o) q k] } else S.cl o
section
variable {c i:Nat} {f:Plain.Frm} {q:Plain.Chg} {k:Int} {U:List Plain.Frm}
def fv9 (h:i≠c):iu S c f q i i=S.ends i:=by simp[iu,h]
def fwa (h:i≠c):clI S c U q k i i=S.cl i:=by simp[clI,h]
def foz:iu S c f q 0=Plain.put S.ends c (Plain.take (S.ends c) f):=by
 funext o
 unfold iu Plain.put;by_cases e:o=c
 ·subst e;simp
 ·simp[e]
def fva:clI S c U q k 0=Plain.put S.cl c { S.cl c with up:=U }:=by
 funext o
 unfold clI Plain.put;by_cases e:o=c
 ·subst e;simp
 ·simp[e]
def fsg:iu S c f q (c+1)=iu S c f q c:=by
 funext o
 unfold iu;by_cases e:o=c
 ·simp[e]
 ·have:(o<c+1)=(o<c):=by simp;omega
  simp[e,this]
def clI_own:clI S c U q k (c+1)=clI S c U q k c:=by
 funext o
 unfold clI;by_cases e:o=c
 ·simp[e]
 ·have:(o<c+1)=(o<c):=by simp;omega
  simp[e,this]
def fsh (h:i≠c):Plain.put (iu S c f q i) i (Plain.send (S.ends i) q)=iu S c f q (i+1):=by
 funext o
 unfold iu Plain.put;by_cases e:o=i
 ·subst e;simp[h]
 ·have:(o<i+1)=(o<i):=by simp;omega
  simp[e,this]
def clI_put (h:i≠c):Plain.put (clI S c U q k i) i { S.cl i with down:=(S.cl i).down++[Plain.frame (S.ends i) q k] }=clI S c U q k (i+1):=by
 funext o
 unfold clI Plain.put;by_cases e:o=i
 ·subst e;simp[h]
 ·have:(o<i+1)=(o<i):=by simp;omega
  simp[e,this]
def fsi {B:Plain.Ses} {C:Nat->Plain.Cl} (h:Mem L V { B with cl:=C,ends:=iu S c f q i } m ow w) (hn:B.n=S.n) (hi:i<S.n) (j:i≠c) (hl:(S.ends i).row.length<=4000) (hm:0<=(S.ends i).mine/\(S.ends i).mine<=1000000):
    Calls PV 91 #[.pointer (some ⟨L.eb,i*4,none⟩),chgV q,.int .i64 k] w λx w'=> ∃A ow',x=.returned (frmV (Plain.frame (S.ends i) q k))/\
     Mem L { V with er:=Plain.put V.er i A } { B with cl:=C,ends:=iu S c f q (i+1) } m ow' w'/\Ex ow ow' w w'/\Ch (λx=>x=L.eb\/(V.er i).ownBlock=some x) w w':=by
 have he:=fv9 (S:=S) (f:=f) (q:=q) j;have:=fv6 h (c:=i) (by rw[<- hn] at hi;exact hi) q k (by show((iu S c f q i) i).row.length<=4000;rw[he];exact hl) (by show 0<=((iu S c f q i) i).mine/\((iu S c f q i) i).mine<=1000000;rw[he];exact hm);dsimp only at this;rw[he,fsh j] at this;exact this
def fsj {B:Plain.Ses} {D:Nat->Plain.EndS} (h:Mem L V { B with cl:=clI S c U q k i,ends:=D } m ow w) (hn:B.n=S.n) (hr:B.room=S.room) (hi:i<S.n) (j:i≠c) (hl:(S.cl i).down.length<S.room) (hr2:S.room<=1000):
    Calls PV 90 #[.pointer (some ⟨L.dl i,0,none⟩),frmV (Plain.frame (S.ends i) q k)] w λx w'=> ∃ow',x=.returned (.bool true)/\
     Mem L V { B with cl:=clI S c U q k (i+1),ends:=D } m ow' w'/\Ex ow ow' w w'/\Ch (λx=>x=L.dc i) w w':=by
 have he:=fwa (S:=S) (U:=U) (q:=q) (k:=k) j;have:=fv7 h (c:=i) (by rw[<- hn] at hi;exact hi) (Plain.frame (S.ends i) q k) (by show((clI S c U q k i) i).down.length<B.room;rw[he,hr];exact hl) (by show B.room<=1000;rw[hr];exact hr2);dsimp only at this;rw[he,clI_put j] at this;exact this
def fsk {out:List Plain.Sent} (h:Mem L V { S with cl:=clI S c U q k S.n,ends:=iu S c f q S.n,known:=if q.kind=1 then Plain.put S.known c (S.known c+1) else S.known,text:=Plain.apply q S.text,log:=S.log++[q],curs:=λo=>if o=c then k else Plain.index q (S.curs o) } m ow w) (hq:(q,k,out)=Plain.tryF (S.ends c) f):
    Mem L V (Plain.served S c f U) m ow w:=by
 refine h.cv rfl rfl ?_ ?_ rfl λi hi=>⟨?_,?_,?_,?_⟩;all_goals (simp only[Plain.served,<- hq])
 ·have j:i<S.n:=hi;simp[clI,j]
 ·have j:i<S.n:=hi;simp[iu,j]
end
def stg_of {x:Nat} {t:TypeId} {Q:Array Value} {j ow2:Nat->Nat} (gX:Bk w x t Q) (gz:j x=0) (gE:Ex ow j w1 w) (hM:Mem L V S m ow2 w') (hE:Ex j ow2 w w'):Stg L V S m ow w1 x t Q w':=
 ⟨ow2,hM,gX.ch hE.ch (λhn=>hn gz),(hE.own x gX.lt).trans gz,gE.tr hE⟩
def mixC (q:Plain.Chg) (cu:Nat->Int) (seen:Array Nat):Nat->Int:=λo=>if seen.contains o=true then Plain.index q (cu o) else cu o
def fsl {q:Plain.Chg} {cu:Nat->Int} {seen:Array Nat} {i:Nat} (h:seen.contains i=false):mixC q cu seen i=cu i:=by
 unfold mixC;rw[h];rfl
def fjz {q:Plain.Chg} {cu:Nat->Int} {seen:Array Nat} {i:Nat} (h:seen.contains i=true):mixC q cu seen i=Plain.index q (cu i):=by
 unfold mixC;rw[h];rfl
def fvb {q:Plain.Chg} {cu:Nat->Int}:mixC q cu #[]=cu:=by
 funext o
 exact fsl fi
def fsn {q:Plain.Chg} {cu:Nat->Int} {seen:Array Nat} {i:Nat}:Plain.put (mixC q cu seen) i (Plain.index q (cu i))=mixC q cu (seen.push i):=by
 funext o
 unfold Plain.put;by_cases e:o=i
 ·subst e;rw[f02 rfl,fjz (by rw[contains_push];simp)]
 ·rw[fx9 e];have e':(seen.push i).contains o=seen.contains o:=by
   rw[contains_push];have:(o==i)=false/\(i==o)=false:=⟨by simpa using e,by simpa using λh=>e h.symm⟩;simp[this]
  unfold mixC;rw[e']
def fso:(PV.info? 40).map (λi=>(i.zero,i.size,i.bytes))=some (some (.agg #[.int .i64 0,.int .i64 0,.int .i32 0,.int .i64 0,.int .i64 0,.int .i64 0]),6,48):=by kernel_rfl
def fwo:PV.underlying 33=some (.slice 40):=by kernel_rfl
end
section
variable {L:Lay} {V:Vals} {S:Plain.Ses} {m:Int} {ow:Nat->Nat} {w:World} {E:Nat->Value}
def Ex.fresh_ {ow ow':Nat->Nat} {w w' w2:World} {K:Nat->Prop} (h:Ex ow ow' w w') (hC:Ch K w' w2) (hK: ∀x,K x->w.heap.size<=x):Ex ow ow' w w2:=
 ⟨h.ch.tr hC (λx hx=>.inr (hK x hx)),h.own,λx hx ht=>(hC.block x (f0f hx h.ch.size) (λhk=>by have:=hK x hk;omega)).trans (h.marks x hx ht)⟩
def serve1 (h : Mem L V S m ow w) (hG:Plain.Good S) (hB:Plain.Bnd S) (hE:Errs E w) {c:Nat} (hc:c<S.n) {f:Plain.Frm} {U:List Plain.Frm} (hu:(S.cl c).up=f::U):
    Calls PV 55 #[.pointer (some ⟨L.b,0,none⟩),.pointer (some ⟨L.kb c,0,none⟩)] w (Served L E S c m ow w):=by
 obtain⟨⟨fk,fp,⟨fr,fc,fn⟩,D⟩,fm,fo,C⟩:=f;have h5:=hE.at_ 5 fe;have b5:=h.size;obtain⟨ab,cap,ak,aW⟩:=h.cls_ hG.n0;have aR:ab<w.heap.size:=lr h.ar ab (by rw[ak];rfl);obtain⟨cB,dB⟩:=h.bb.ceF;simp only[sesC,ak] at cB;obtain⟨cK,dK⟩:=(h.kk c hc).ceF;have cV:=hG.n6;have dj:=hG.upR c hc;have cJ:=hG.room16;have HL:=fx6 (h.up c hc);have HM:=fx6 h;have HG:=fx6 hG;have HB:=fx6 hB;have b6:((S.cl c).up.length:Int)=U.length+1:=by rw[hu];simp
 have c5:((U.length:Int)+1==0)=false:=by simp;omega
 clear h hG hB hE;go_enter PV.func55,Tryz.ntmps55;go_wp2_with (first|(go_at_call 92;refine(flo (L.ul c) (L.uc c) S.room _ _ HL.out fe).mono ?_;rintro e w1 ⟨rfl,rfl⟩;rw[b6]))
 go_loopw [28] (λiv wr=> ∃i:Nat,i<=S.n/\iv=.int .i64 (i:Int)/\Bl w1 wr/\Plain.fullAt S c i=false) (λiv _=>S.n-(intOf iv).toNat)
 case atStart => exact⟨0,f1n _,rfl,Bl.rf _,rfl⟩
 case round=>
    obtain⟨i,hi,rfl,hb,hf0⟩:=hrel;by_cases hlt:i<S.n
    ·have ap:=HM.out.bl hb;obtain⟨cO,dO⟩:=(ap.kk i hlt).ceF;have cC:=(f0h (a:=⟨ab,i,none⟩) (hb.block ab (aR))).trans (aW i hlt);have HD:=fx6 (ap.dn i hlt);have cW:=(f0h (a:=⟨5,0,none⟩) (hb.block 5 fe)).trans h5;have c8:=HG.out.downR i hlt;have hq:(binOp .neq 83 (.pointer (some ⟨L.kb i,0,none⟩)) (.pointer (some ⟨L.kb c,0,none⟩))).run PV wr=.ok (.bool (decide (i≠c))) wr:=by
      rw[fsb (ap.kk i hlt) (ap.kk c hc)]
      congr 2
      exact decide_eq_decide.2 ⟨λh e=>h (by rw[e]),λh e=>h (ap.kb_inj hlt hc e)⟩
     clear ap;have aC:Plain.fullAt S c (i+1)=(decide (i≠c)&&decide ((S.cl i).down.length=S.room)):=by simp only[Plain.fullAt,hf0,Bool.false_or]
     by_cases O:i=c
     ·have hd:decide (i≠c)=false:=by simp[O]
      rw[hd] at hq aC;clear hd;subst O;go_wp2
      go_roundw
      case rel => exact⟨i+1,hlt,by simp,hb,by rw[aC];rfl⟩
      case measure => simp[intOf];omega
     ·have hd:decide (i≠c)=true:=by simp[O]
      rw[hd] at hq aC;by_cases a5:(S.cl i).down.length=S.room
      ·have a3:decide (((S.cl i).down.length:Int)=(S.room:Int))=true:=by simp[a5]
       go_wp2_with (first|(go_at_call 87;refine(ia (L.dl i) (L.dc i) S.room _ _ HD.out fe fe).mono ?_;rintro e w2 ⟨rfl,rfl⟩;rw[a3]));go_ret
       have e:Plain.serve S c=(5,S):=by
         unfold Plain.serve;rw[hu];simp only;rw[f02 ((Plain.fullAt_iff S c S.n).2 ⟨i,hlt,O,a5⟩)]
       exact⟨by rw[e];exact⟨rfl,V,ow,HM.out.bl hb.dr,Ex.bl hb.dr⟩⟩
      ·have a3:decide (((S.cl i).down.length:Int)=(S.room:Int))=false:=by simp;omega
       have bG:decide ((S.cl i).down.length=S.room)=false:=by simp[a5]
       rw[bG] at aC;go_wp2_with (first|(go_at_call 87;refine(ia (L.dl i) (L.dc i) S.room _ _ HD.out fe fe).mono ?_;rintro e w2 ⟨rfl,rfl⟩;rw[a3]))
       go_roundw
       case rel => exact⟨i+1,hlt,by simp,hb.dr,by rw[aC];rfl⟩
       case measure => simp[intOf];omega
    ·obtain rfl:i=S.n:=by omega
     have hM:=HM.out.bl hb;have hL:=hM.up c hc;rw[hu] at hL;have aJ:Ex ow ow w1 wr:=Ex.bl hb;replace HM:=fx6 hM;replace aJ:=fx6 aJ;have aQ:=fx6 hf0;clear HL h5 aW cB dB cK dK hb b5 aR hf0;obtain⟨cB,dB⟩:=hM.bb.ceF;obtain⟨cK,dK⟩:=(hM.kk c hc).ceF;have HT:=fx6 (λW (hW:Bl wr W)=>fga (L.ul c) (L.uc c) S.room ⟨⟨fk,fp,⟨fr,fc,fn⟩,D⟩,fm,fo,C⟩ U W (hM.base.bl hW) (hL.bl hW) (by have:=hM.tag.ge (x:=L.ul c) (by rw[hM.tag.ul c hc];omega);omega) HG.out.room0);clear hL hM;go_wp2_with (first|(go_at_call 93;refine(HT.out _ ga).mono ?_;rintro e w2 ⟨rfl,bS,gC2⟩;obtain⟨ow2,M,ah⟩:=mem_up HM.out hc bS gC2;replace ah:=fx6 (aJ.out.tr ah);obtain⟨cS,dS⟩:=M.bb.ceF;have cp:=M.bb.lt;obtain⟨a1,a2⟩:=bx L.b;replace M:=fx6 M;clear bS gC2));refine vy (F:=λW=>Mem L V { S with cl:=Plain.put S.cl c { S.cl c with up:=U } } m ow2 W/\Bk W w2.heap.size 110 #[.int .i64 fk,.int .i64 fp,.int .i32 fr,.int .i64 fc,.int .i64 fn,.int .i64 D,.int .i64 fm,.int .i64 fo,.int .i64 C]/\Ex ow ow2 w1 W) ⟨M.out.bl ((Bl.rf _).al _),Bk.nw rfl,ah.out.tr (Ex.bl ((Bl.rf _).al _))⟩ ?_;clear cS dS a1 a2 M ah cB dB cK dK cp aJ HT HM;generalize w2.heap.size=xb;rintro W ⟨gM,gX,gE⟩;have A:Bk W L.sb 80 #[V.st,V.lg,.map (some L.mb),.slice (some ⟨L.eb,0,none⟩) S.n S.n,.slice (some ⟨L.nb,0,none⟩) S.n S.n,.chan (some L.c0)]:=gM.ss;have R:Bk W (L.kb c) 89 #[.int .i64 (c:Int),V.tv c,.int .i64 (S.cl c).cur,.int .i64 (S.cl c).en.mine,.int .i64 (S.cl c).en.other,.int .i64 (S.cl c).en.acked,V.rv c,.pointer (some ⟨L.ul c,0,none⟩),.pointer (some ⟨L.dl c,0,none⟩),.int .i64 (S.cl c).typed,.chan (some (L.wc c))]:=by have:=gM.kk c hc;simpa only[Plain.put_same] using this
     obtain⟨cs,ad,cd,b1⟩:=gM.ee.bk;have aZ:=ad.lt;have bu: ¬L.sb=L.eb:=A.ne_ ad fu;have bs: ¬L.kb c=L.eb:=R.ne_ ad fu;have bM: ¬xb=L.eb:=gX.ne_ ad fu;have b0:(c:Int)<(S.n:Int):=by omega
     have a9:=HG.out.mine c hc;have bc:=HG.out.rows c hc;have X:=HG.out.calls;have Y:=HG.out.log_len;have hN:=fsa (HB.out.up c hc ⟨⟨fk,fp,⟨fr,fc,fn⟩,D⟩,fm,fo,C⟩ jx) (HB.out.er c hc) fe;have hT:=fx6 (λW' (hW:Bl W W')=>fv3 (gM.bl hW) hc ⟨⟨fk,fp,⟨fr,fc,fn⟩,D⟩,fm,fo,C⟩ (by show(S.ends c).row.length<=4000;omega) hN (by show 0<=(S.ends c).other/\(S.ends c).other<=1000000;omega));have be:=HG.out.pair c hc;rw[hu] at be;obtain⟨an,bZ,aO,_⟩:=be.serve (Z':=λ_ _ _=>True) λ_ _ _ _ _ _ _ _=>trivial;have aL:=Plain.tryF_sm (by have:=HG.out.text_len;omega) an (Plain.turn_kd (HG.out.upK c hc ⟨⟨fk,fp,⟨fr,fc,fn⟩,D⟩,fm,fo,C⟩ jx)) (HB.out.up c hc ⟨⟨fk,fp,⟨fr,fc,fn⟩,D⟩,fm,fo,C⟩ jx).1;obtain⟨⟨⟨qk,qp,⟨qr,qc,qn⟩,j⟩,qq,out⟩,hq⟩: ∃q,q=Plain.tryF (S.ends c) ⟨⟨fk,fp,⟨fr,fc,fn⟩,D⟩,fm,fo,C⟩:=⟨_,rfl⟩;dsimp only at hT;rw[<- hq] at hT an bZ aO aL;dsimp only at an aO aL;replace hq:=fx6 hq;replace an:=fx6 an;replace aO:=fx6 aO;replace aL:=fx6 aL;have cD:ow2 xb=ow2 xb:=rfl;clear a9 bc X Y hN ad cd b1 be bZ cD
     go_cut [10,11] from 52 to 160 (λb3 b4 wx=> ∃(xq:Nat) (J:Value),b3=.pointer (some ⟨xq,0,none⟩)/\b4=.int .i64 qq/\Stg L { V with er:=Plain.put V.er c J } { S with cl:=Plain.put S.cl c { S.cl c with up:=U },ends:=Plain.put S.ends c (Plain.take (S.ends c) ⟨⟨fk,fp,⟨fr,fc,fn⟩,D⟩,fm,fo,C⟩) } m ow w1 xq 40 #[.int .i64 qk,.int .i64 qp,.int .i32 qr,.int .i64 qc,.int .i64 qn,.int .i64 j] wx)
     case first=>
      refine fbu (sel [λw'=>Bk w' L.sb 80 #[V.st,V.lg,.map (some L.mb),.slice (some ⟨L.eb,0,none⟩) S.n S.n,.slice (some ⟨L.nb,0,none⟩) S.n S.n,.chan (some L.c0)],λw'=>Bk w' (L.kb c) 89 #[.int .i64 (c:Int),V.tv c,.int .i64 (S.cl c).cur,.int .i64 (S.cl c).en.mine,.int .i64 (S.cl c).en.other,.int .i64 (S.cl c).en.acked,V.rv c,.pointer (some ⟨L.ul c,0,none⟩),.pointer (some ⟨L.dl c,0,none⟩),.int .i64 (S.cl c).typed,.chan (some (L.wc c))],λw'=>Bk w' xb 110 #[.int .i64 fk,.int .i64 fp,.int .i32 fr,.int .i64 fc,.int .i64 fn,.int .i64 D,.int .i64 fm,.int .i64 fo,.int .i64 C]]) [(.h 9,0),(.h 9,1),(.h 9,2),(.h 0,3),(.h 9,4),(.h 9,5),(.h 9,6),(.h 1,7),(.h 9,8),(.h 2,9)] (.c [9],10) [(.h 9,11),(.h 9,12),(.h 9,13),(.c [0,1,2,9],14),(.c [9],15),(.h 9,16)] (.c [0,1,2,9],14) [(.c [9],10),(.h 9,11),(.h 9,12),(.h 9,13),(.c [9],15),(.h 9,16)] fd fd (qy (Bk.dr A) (qy (Bk.dr R) (qy (Bk.dr gX) (λ_=>un)))) ?_;simp only[vg,fy9,fz4,fz3,fy2,fx7,fy0];iterate 10 (refine oH ?_;try simp only[aps])
      refine fjy ?_ ?_
      ·try simp only[vg,fy9,fz4,fz3,fy2,fx7,fy0]
       (refine rx (λK hK=>?_);go_simp;go_at_call 94;refine(hT.out _ ga).mono ?_;rintro e w3 ⟨J,aI,rfl,aa,ac,aD⟩;replace aa:=fx6 aa;replace ac:=fx6 ac;(try dsimp only);refine hK _ _ (rh trivial ry) ?_;clear hK K;try simp only[aps]);iterate 3 (refine oH ?_;try simp only[aps])
       (refine rx (λK hK=>?_);go_simp;refine hK _ _ (rh (Bk.al (Bk.ch aD bu (Bk.dr A)) _) (rh (Bk.al (Bk.ch aD bs (Bk.dr R)) _) (rh (Bk.al (Bk.ch aD bM (Bk.dr gX)) _) (rh trivial ry)))) ?_;clear hK K;try simp only[aps])
       (refine rx (λK hK=>?_);go_simp;refine hK _ _ (rh trivial ry) ?_;clear hK K;try simp only[aps])
       (refine oH ?_;try simp only[aps]);refine ub ?_;refine vy (F:=λW'=>Stg L { V with er:=Plain.put V.er c J } { S with cl:=Plain.put S.cl c { S.cl c with up:=U },ends:=Plain.put S.ends c (Plain.take (S.ends c) ⟨⟨fk,fp,⟨fr,fc,fn⟩,D⟩,fm,fo,C⟩) } m ow w1 w3.heap.size 40 #[.int .i64 qk,.int .i64 qp,.int .i32 qr,.int .i64 qc,.int .i64 qn,.int .i64 j] W') ⟨aI,aa.out.bl ((Bl.rf _).al _),Bk.nw rfl,aa.out.fresh _ (fx8 _),(gE.tr ((Ex.bl (Bl.rf _).dr).tr ac.out)).tr (Ex.bl ((Bl.rf _).al _))⟩ ?_;rintro W9 k1;go_wp2_with fail
       go_meet
       case rel => exact⟨_,J,rfl,rfl,k1⟩
      ·try simp only[vg,fy9,fz4,fz3,fy2,fx7,fy0]
       (refine rx (λK hK=>?_);go_simp;refine hK _ _ (rh ff (rh ff (rh ff (rh trivial ry)))) ?_;clear hK K;try simp only[aps])
       (refine rx (λK hK=>?_);go_simp;go_at_call 94;refine(hT.out _ ga).mono ?_;rintro e w3 ⟨J,aI,rfl,aa,ac,aD⟩;have gZ:=Bk.ch (g:=W.heap.size) (t:=40) (cs:=#[.int .i64 0,.int .i64 0,.int .i32 0,.int .i64 0,.int .i64 0,.int .i64 0]) aD (by have:=aZ;(try dsimp only);omega) (Bk.dr (Bk.nw rfl));obtain⟨cZ,dZ⟩:=gZ.ceF;replace aa:=fx6 aa;replace ac:=fx6 ac;(try dsimp only);refine hK _ _ (rh trivial ry) ?_;clear hK K;try simp only[aps]);iterate 3 (refine oH ?_;try simp only[aps])
       (refine rx (λK hK=>?_);go_simp;refine hK _ _ (rh trivial ry) ?_;clear hK K;try simp only[aps])
       (refine oH ?_;try simp only[aps]);refine ub ?_;have cG:=gM.size;have bT:aI W.heap.size=0:=(ac.out.own W.heap.size (by simp[World.drew])).trans (gM.fresh _ (fx8 _));refine vy (F:=λW'=>Stg L { V with er:=Plain.put V.er c J } { S with cl:=Plain.put S.cl c { S.cl c with up:=U },ends:=Plain.put S.ends c (Plain.take (S.ends c) ⟨⟨fk,fp,⟨fr,fc,fn⟩,D⟩,fm,fo,C⟩) } m ow w1 W.heap.size 40 #[.int .i64 qk,.int .i64 qp,.int .i32 qr,.int .i64 qc,.int .i64 qn,.int .i64 j] W') ⟨aI,fsf aa.out gZ fu bT fe ?_,Bk.st6 gZ,bT,Ex.fresh_ (K:=λx=>x=W.heap.size) (gE.tr ((Ex.bl (((Bl.rf _).al _).dr)).tr ac.out)) ?_ (λx hx=>by subst hx;exact gE.ch.size)⟩ ?_;iterate 2 (repeat' (first|with_reducible exact Ch.rf _ _|with_reducible refine Ch.st ?_ fi _))
       rintro W9 k1;go_wp2_with fail
       go_meet
       case rel => exact⟨_,J,rfl,rfl,k1⟩
     case rest =>
      obtain⟨xq,J,rfl,rfl,gG⟩:=hcut;clear A R aZ bu bs bM gM gX gE hT W;have cQ:(c:Int)<(S.n:Int):=b0;obtain⟨cX,dX⟩:CeF wc xq #[.int .i64 qk,.int .i64 qp,.int .i32 qr,.int .i64 qc,.int .i64 qn,.int .i64 j]:=by obtain⟨_,_,gX,_⟩:=gG.out;exact gX.ceF
      go_upto_if 72 with fail
      go_cut [] from 70 to 160 (λwx=>Stg L { V with er:=Plain.put V.er c J } { S with cl:=Plain.put S.cl c { S.cl c with up:=U },ends:=Plain.put S.ends c (Plain.take (S.ends c) ⟨⟨fk,fp,⟨fr,fc,fn⟩,D⟩,fm,fo,C⟩),known:=if qk=1 then Plain.put S.known c (S.known c+1) else S.known } m ow w1 xq 40 #[.int .i64 qk,.int .i64 qp,.int .i32 qr,.int .i64 qc,.int .i64 qn,.int .i64 j] wx)
      case first=>
       by_cases a7:qk=1
       ·subst a7;obtain⟨ae,gM,gX,gz,gE⟩:=gG.out;have A:Bk wc L.sb 80 #[V.st,V.lg,.map (some L.mb),.slice (some ⟨L.eb,0,none⟩) S.n S.n,.slice (some ⟨L.nb,0,none⟩) S.n S.n,.chan (some L.c0)]:=gM.ss;have R:Bk wc (L.kb c) 89 #[.int .i64 (c:Int),V.tv c,.int .i64 (S.cl c).cur,.int .i64 (S.cl c).en.mine,.int .i64 (S.cl c).en.other,.int .i64 (S.cl c).en.acked,V.rv c,.pointer (some ⟨L.ul c,0,none⟩),.pointer (some ⟨L.dl c,0,none⟩),.int .i64 (S.cl c).typed,.chan (some (L.wc c))]:=by have:=gM.kk c hc;simpa only[Plain.put_same] using this
        have bD:Bk wc L.nb 3 (cr S.n S.known):=gM.nn;have cU:=fox (f:=S.known) hc;have cP:=HG.out.known c hc;have Y:=HG.out.log_len;have X:=HG.out.calls;have c7:IntKind.i64.wrap (S.known c+1)=S.known c+1:=f0t _ fe;obtain⟨dn,en⟩:=bD.ceF;replace gM:=fx6 gM;go_upto_region 13 with fail
        refine rn (sel [λw'=>Bk w' L.sb 80 #[V.st,V.lg,.map (some L.mb),.slice (some ⟨L.eb,0,none⟩) S.n S.n,.slice (some ⟨L.nb,0,none⟩) S.n S.n,.chan (some L.c0)],λw'=>Bk w' (L.kb c) 89 #[.int .i64 (c:Int),V.tv c,.int .i64 (S.cl c).cur,.int .i64 (S.cl c).en.mine,.int .i64 (S.cl c).en.other,.int .i64 (S.cl c).en.acked,V.rv c,.pointer (some ⟨L.ul c,0,none⟩),.pointer (some ⟨L.dl c,0,none⟩),.int .i64 (S.cl c).typed,.chan (some (L.wc c))],λw'=>Bk w' L.nb 3 (cr S.n S.known)]) [(.h 9,0),(.h 9,1),(.h 9,2),(.h 0,3),(.h 9,4),(.h 9,5),(.h 9,6),(.h 1,7),(.h 9,8),(.h 2,9),(.h 9,10),(.h 9,11),(.c [],12)] fd fd (qy (Bk.dr A) (qy (Bk.dr R) (qy (Bk.dr bD) (λ_=>un)))) ?_;simp only[vg,fy9,fz4,fz3,fy2,fx7,fy0];iterate 12 (refine oH ?_;try simp only[aps])
        (refine rx (λK hK=>?_);go_simp;refine hK _ _ ry ?_;clear hK K;try simp only[aps]);refine ub ?_;refine vy (F:=λW'=>Stg L { V with er:=Plain.put V.er c J } { S with cl:=Plain.put S.cl c { S.cl c with up:=U },ends:=Plain.put S.ends c (Plain.take (S.ends c) ⟨⟨fk,fp,⟨fr,fc,fn⟩,D⟩,fm,fo,C⟩),known:=if (1:Int)=1 then Plain.put S.known c (S.known c+1) else S.known } m ow w1 xq 40 #[.int .i64 (1:Int),.int .i64 qp,.int .i32 qr,.int .i64 qc,.int .i64 qn,.int .i64 j] W') ?_ ?_
        ·refine(gG.bl (Bl.rf _).dr).step λow' hM=>?_;obtain⟨aA,I,aE⟩:=fsd hM (c:=c) (S.known c+1);exact⟨aA,by rw[f02 (show(1:Int)=1 from rfl)];exact I,aE⟩
        rintro W9 k1;go_wp2_with fail
        go_meet
        case rel => exact k1
       ·have dd:(qk==1)=false:=by simp[a7]
        go_wp2_with fail
        go_meet
        case rel => simpa only[fx9 a7] using gG
      case rest =>
       have gG:=hcut;clear hcut;obtain⟨ae,gM,gX,gz,gE⟩:=gG.out;have A:Bk wc L.sb 80 #[V.st,V.lg,.map (some L.mb),.slice (some ⟨L.eb,0,none⟩) S.n S.n,.slice (some ⟨L.nb,0,none⟩) S.n S.n,.chan (some L.c0)]:=gM.ss;have R:Bk wc (L.kb c) 89 #[.int .i64 (c:Int),V.tv c,.int .i64 (S.cl c).cur,.int .i64 (S.cl c).en.mine,.int .i64 (S.cl c).en.other,.int .i64 (S.cl c).en.acked,V.rv c,.pointer (some ⟨L.ul c,0,none⟩),.pointer (some ⟨L.dl c,0,none⟩),.int .i64 (S.cl c).typed,.chan (some (L.wc c))]:=by have:=gM.kk c hc;simpa only[Plain.put_same] using this
       have bB:Txt wc V.st S.text:=gM.st;have htl:=HG.out.text_len;have Y:=HG.out.log_len;have X:=HG.out.calls;have hA:=fx6 (λW (hW:Bl wc W)=>dy ⟨qk,qp,⟨qr,qc,qn⟩,j⟩ S.text V.st W (bB.bl hW) an.out fe);clear bB htl Y X R;have bp:=A.lt;replace gM:=fx6 gM;go_upto_region 14 with fail
       refine rn (sel [λw'=>Bk w' L.sb 80 #[V.st,V.lg,.map (some L.mb),.slice (some ⟨L.eb,0,none⟩) S.n S.n,.slice (some ⟨L.nb,0,none⟩) S.n S.n,.chan (some L.c0)],λw'=>Bk w' xq 40 #[.int .i64 qk,.int .i64 qp,.int .i32 qr,.int .i64 qc,.int .i64 qn,.int .i64 j]]) [(.h 9,0),(.h 1,1),(.h 9,2),(.h 9,3),(.h 9,4),(.h 0,5),(.c [9],6),(.h 9,7),(.h 9,8),(.c [],9)] fd fd (qy (Bk.dr A) (qy (Bk.dr gX) (λ_=>un))) ?_;simp only[vg,fy9,fz4,fz3,fy2,fx7,fy0];iterate 6 (refine oH ?_;try simp only[aps])
       (refine rx (λK hK=>?_);go_simp;go_at_call 88;refine(hA.out _ ga).mono ?_;rintro e w3 ⟨v2,rfl,gT,gb,gN⟩;obtain⟨A2,m2,bV,rfl⟩:=bj gT;have k3:=Bk.bl gb (Bk.dr A);obtain⟨c3,d3⟩:=k3.ceF;refine hK _ _ (rh trivial ry) ?_;clear hK K;try simp only[aps]);iterate 2 (refine oH ?_;try simp only[aps])
       (refine rx (λK hK=>?_);go_simp;refine hK _ _ ry ?_;clear hK K;try simp only[aps]);refine ub ?_;refine vy (F:=λW'=>Stg L { V with er:=Plain.put V.er c J,st:=.slice A2 m2 bV } { S with cl:=Plain.put S.cl c { S.cl c with up:=U },ends:=Plain.put S.ends c (Plain.take (S.ends c) ⟨⟨fk,fp,⟨fr,fc,fn⟩,D⟩,fm,fo,C⟩),known:=if qk=1 then Plain.put S.known c (S.known c+1) else S.known,text:=Plain.apply ⟨qk,qp,⟨qr,qc,qn⟩,j⟩ S.text } m ow w1 xq 40 #[.int .i64 qk,.int .i64 qp,.int .i32 qr,.int .i64 qc,.int .i64 qn,.int .i64 j] W') ?_ ?_
       ·refine gG.step λow' hM=>?_;exact fv4 hM ((Bl.rf _).dr.cl gb) gT gN
       rintro wt gG;clear gN;generalize (Value.slice A2 m2 bV)=v2 at gG gT;clear gM gX gz gE A bp hA c3 d3 k3 gT gb ae;obtain⟨ae,gM,gX,gz,gE⟩:=gG.out;have A:Bk wt L.sb 80 #[v2,V.lg,.map (some L.mb),.slice (some ⟨L.eb,0,none⟩) S.n S.n,.slice (some ⟨L.nb,0,none⟩) S.n S.n,.chan (some L.c0)]:=gM.ss;have bJ:=fx6 (show wt.ownsRow 0 40 6 V.lg S.log.length (logF S.log) from gM.lg);have bF:=fx6 (rp gM.lg A fu);have cb:=fx6 (lr gM.lg);have Y:=HG.out.log_len;have X:=HG.out.calls;obtain⟨i0,bE,aP,bC,bR⟩:=f4i fso;have hI:=fx6 bE;have br:=fx6 aP;have bP:=fx6 bC;have bQ:=fx6 bR;clear bE aP bC bR;have bp:=A.lt;replace gM:=fx6 gM;go_upto_region 15 with fail
       refine rn (sel [λw'=>Bk w' L.sb 80 #[v2,V.lg,.map (some L.mb),.slice (some ⟨L.eb,0,none⟩) S.n S.n,.slice (some ⟨L.nb,0,none⟩) S.n S.n,.chan (some L.c0)],λw'=>Bk w' xq 40 #[.int .i64 qk,.int .i64 qp,.int .i32 qr,.int .i64 qc,.int .i64 qn,.int .i64 j]]) [(.h 9,0),(.h 9,1),(.h 9,2),(.h 9,3),(.h 0,4),(.h 1,5),(.c [0,9],6),(.c [9],7),(.h 9,8),(.h 9,9),(.c [],10)] fd fd (qy (Bk.dr A) (qy (Bk.dr gX) (λ_=>un))) ?_;simp only[vg,fy9,fz4,fz3,fy2,fx7,fy0];iterate 6 (refine oH ?_;try simp only[aps])
       (refine rx (λK hK=>?_);go_simp;refine hK _ _ (rh ff (rh trivial ry)) ?_;clear hK K;try simp only[aps])
       (refine rx (λK hK=>?_);refine wp_append_lies _ (.tmp 98) (.tmp 100) _ rfl 0 40 i0 _ 6 48 fwo hI.out br.out bP.out bQ.out rfl fe V.lg S.log.length (logF S.log) rfl (qx (K:=λ_=>False) (Ch.ba ga) bJ.out (λ_ _ h=>h)) ⟨_,0,none⟩ 1 1 (chgL ⟨qk,qp,⟨qr,qc,qn⟩,j⟩) rfl rfl (f2m (cs:=(chgL ⟨qk,qp,⟨qr,qc,qn⟩,j⟩).toArray) (t:=40) (fr:=(0,0)) (Bk.nw fi).at_) p9 fe jq fe fi _ rfl ?_;intro gg aX w4 aB a8 aT bK;have k4:=Bk.gr a8 (λe=>bF.out _ e.symm rfl) (Bk.al (Bk.dr A) _);obtain⟨c4,d4⟩:=k4.ceF;refine hK _ _ (rh trivial ry) ?_;clear hK K;try simp only[aps]);iterate 2 (refine oH ?_;try simp only[aps])
       (refine rx (λK hK=>?_);go_simp;refine hK _ _ ry ?_;clear hK K;try simp only[aps]);refine ub ?_;refine vy (F:=λW'=>Stg L { V with er:=Plain.put V.er c J,st:=v2,lg:=.slice (some ⟨gg,0,none⟩) (S.log.length+1) aX } { S with cl:=Plain.put S.cl c { S.cl c with up:=U },ends:=Plain.put S.ends c (Plain.take (S.ends c) ⟨⟨fk,fp,⟨fr,fc,fn⟩,D⟩,fm,fo,C⟩),known:=if qk=1 then Plain.put S.known c (S.known c+1) else S.known,text:=Plain.apply ⟨qk,qp,⟨qr,qc,qn⟩,j⟩ S.text,log:=S.log++[⟨qk,qp,⟨qr,qc,qn⟩,j⟩] } m ow w1 xq 40 #[.int .i64 qk,.int .i64 qp,.int .i32 qr,.int .i64 qc,.int .i64 qn,.int .i64 j] W') ?_ ?_
       ·refine gG.step λow' hM=>?_;exact mem_log hM ((Bl.rf _).dr.al _) a8 aB (λx hx=>by obtain rfl:gg=x:=f7n;exact aT.imp id (λe=>by rw[e];simp))
       rintro wl gG;generalize (Value.slice (some ⟨gg,0,none⟩) (S.log.length+1) aX)=lg' at gG;clear gM gX gz gE A bp bJ bF cb c4 d4 k4 aB a8 aT bK hI br bP bQ ae;obtain⟨ae,gM,gX,gz,gE⟩:=gG.out;have A:Bk wl L.sb 80 #[v2,lg',.map (some L.mb),.slice (some ⟨L.eb,0,none⟩) S.n S.n,.slice (some ⟨L.nb,0,none⟩) S.n S.n,.chan (some L.c0)]:=gM.ss;have bW:Mp wl L.mb S.n S.curs:=gM.mp;have ca:=f7h bW;obtain⟨cS,dS⟩:=A.ceF;clear bW;have cm:=gG.start;replace gM:=fx6 gM;go_wp2_with fail
       go_loopw [12,13] (λ_ _ wr=> ∃seen:Array Nat,StgI L { V with er:=Plain.put V.er c J,st:=v2,lg:=lg' } { S with cl:=Plain.put S.cl c { S.cl c with up:=U },ends:=Plain.put S.ends c (Plain.take (S.ends c) ⟨⟨fk,fp,⟨fr,fc,fn⟩,D⟩,fm,fo,C⟩),known:=if qk=1 then Plain.put S.known c (S.known c+1) else S.known,text:=Plain.apply ⟨qk,qp,⟨qr,qc,qn⟩,j⟩ S.text,log:=S.log++[⟨qk,qp,⟨qr,qc,qn⟩,j⟩],curs:=mixC ⟨qk,qp,⟨qr,qc,qn⟩,j⟩ S.curs seen } m ow w1 xq 40 #[.int .i64 qk,.int .i64 qp,.int .i32 qr,.int .i64 qc,.int .i64 qn,.int .i64 j] wl.heap.size seen wr) (λ_ _ wr=>fs7 S.n wl.heap.size wr)
       case atStart => exact⟨#[],by rw[fvb];exact cm⟩
       case round=>
           obtain⟨seen,gI⟩:=hrel;obtain⟨bH,M,ah,bX,bN,aG,hr2,_⟩:=gI.out;have aF:Mp wr L.mb S.n (mixC ⟨qk,qp,⟨qr,qc,qn⟩,j⟩ S.curs seen):=M.mp;have bO:Bk wr L.sb 80 #[v2,lg',.map (some L.mb),.slice (some ⟨L.eb,0,none⟩) S.n S.n,.slice (some ⟨L.nb,0,none⟩) S.n S.n,.chan (some L.c0)]:=M.ss;have aU:=fx6 aG;replace M:=fx6 M;clear ca;go_wp2_with (first|(at_next;refine ffe rfl _ rfl L.mb wl.heap.size S.n _ seen rfl aF aG ?_ ?_)|go_in)
           ·intro aY;have gG:=(gI.stop).cv (S':={ S with cl:=Plain.put S.cl c { S.cl c with up:=U },ends:=Plain.put S.ends c (Plain.take (S.ends c) ⟨⟨fk,fp,⟨fr,fc,fn⟩,D⟩,fm,fo,C⟩),known:=if qk=1 then Plain.put S.known c (S.known c+1) else S.known,text:=Plain.apply ⟨qk,qp,⟨qr,qc,qn⟩,j⟩ S.text,log:=S.log++[⟨qk,qp,⟨qr,qc,qn⟩,j⟩],curs:=λo=>Plain.index ⟨qk,qp,⟨qr,qc,qn⟩,j⟩ (S.curs o) }) rfl rfl rfl rfl rfl (λi hi=>⟨rfl,(fjz (seen:=seen) (i:=i) (by simpa using aY i hi)).symm,rfl,rfl⟩);clear gI M aF bO aG aU hr2 bN bX ah aY A cS dS gM gX gz gE;obtain⟨ae,gM,gX,gz,gE⟩:=gG.out;have A:Bk wr L.sb 80 #[v2,lg',.map (some L.mb),.slice (some ⟨L.eb,0,none⟩) S.n S.n,.slice (some ⟨L.nb,0,none⟩) S.n S.n,.chan (some L.c0)]:=gM.ss;have R:Bk wr (L.kb c) 89 #[.int .i64 (c:Int),V.tv c,.int .i64 (S.cl c).cur,.int .i64 (S.cl c).en.mine,.int .i64 (S.cl c).en.other,.int .i64 (S.cl c).en.acked,V.rv c,.pointer (some ⟨L.ul c,0,none⟩),.pointer (some ⟨L.dl c,0,none⟩),.int .i64 (S.cl c).typed,.chan (some (L.wc c))]:=by have:=gM.kk c hc;simpa only[Plain.put_same] using this
            have aV:Mp wr L.mb S.n (λo=>Plain.index ⟨qk,qp,⟨qr,qc,qn⟩,j⟩ (S.curs o)):=gM.mp;have bm:=fw9 (aV.ch (K:=λ_=>False) (Ch.ba (Bl.rf _).dr) (λh=>h)) hc fe qq;clear aV;replace gM:=fx6 gM;go_upto_region 20 with fail
            refine rn (sel [λw'=>Bk w' L.sb 80 #[v2,lg',.map (some L.mb),.slice (some ⟨L.eb,0,none⟩) S.n S.n,.slice (some ⟨L.nb,0,none⟩) S.n S.n,.chan (some L.c0)],λw'=>Bk w' (L.kb c) 89 #[.int .i64 (c:Int),V.tv c,.int .i64 (S.cl c).cur,.int .i64 (S.cl c).en.mine,.int .i64 (S.cl c).en.other,.int .i64 (S.cl c).en.acked,V.rv c,.pointer (some ⟨L.ul c,0,none⟩),.pointer (some ⟨L.dl c,0,none⟩),.int .i64 (S.cl c).typed,.chan (some (L.wc c))]]) [(.h 9,0),(.h 9,1),(.h 9,2),(.h 0,3),(.h 9,4),(.h 9,5),(.h 9,6),(.h 1,7),(.h 9,8),(.c [],9)] fd fd (qy (Bk.dr A) (qy (Bk.dr R) (λ_=>un))) ?_;simp only[vg,fy9,fz4,fz3,fy2,fx7,fy0];iterate 9 (refine oH ?_;try simp only[aps])
            (refine rx (λK hK=>?_);go_simp;refine hK _ _ ry ?_;clear hK K;try simp only[aps]);refine ub ?_;refine vy (F:=λW'=>Stg L { V with er:=Plain.put V.er c J,st:=v2,lg:=lg' } { S with cl:=Plain.put S.cl c { S.cl c with up:=U },ends:=Plain.put S.ends c (Plain.take (S.ends c) ⟨⟨fk,fp,⟨fr,fc,fn⟩,D⟩,fm,fo,C⟩),known:=if qk=1 then Plain.put S.known c (S.known c+1) else S.known,text:=Plain.apply ⟨qk,qp,⟨qr,qc,qn⟩,j⟩ S.text,log:=S.log++[⟨qk,qp,⟨qr,qc,qn⟩,j⟩],curs:=λo=>if o=c then qq else Plain.index ⟨qk,qp,⟨qr,qc,qn⟩,j⟩ (S.curs o) } m ow w1 xq 40 #[.int .i64 qk,.int .i64 qp,.int .i32 qr,.int .i64 qc,.int .i64 qn,.int .i64 j] W') ?_ ?_
            ·refine(gG.bl (Bl.rf _).dr).step λow' hM=>?_;obtain⟨aA,k1,k2⟩:=fnd hM (c:=c) qq;exact⟨aA,k1.cv rfl rfl rfl rfl rfl (λi hi=>⟨rfl,rfl,rfl,rfl⟩),k2⟩
            rintro wm gG;clear bm A R gM gX gz gE;obtain⟨ae,gM,gX,gz,gE⟩:=gG.out;obtain⟨b8,dk⟩:=gM.bb.ceF;simp only[sesC,ak] at b8;clear gX gz gE;replace gM:=fx6 gM;go_wp2_with fail
            go_loopw [136] (λiv wr=> ∃(i:Nat) (V':Vals),i<=S.n/\iv=.int .i64 (i:Int)/\Stg L V' { S with cl:=clI S c U ⟨qk,qp,⟨qr,qc,qn⟩,j⟩ qq i,ends:=iu S c ⟨⟨fk,fp,⟨fr,fc,fn⟩,D⟩,fm,fo,C⟩ ⟨qk,qp,⟨qr,qc,qn⟩,j⟩ i,known:=if qk=1 then Plain.put S.known c (S.known c+1) else S.known,text:=Plain.apply ⟨qk,qp,⟨qr,qc,qn⟩,j⟩ S.text,log:=S.log++[⟨qk,qp,⟨qr,qc,qn⟩,j⟩],curs:=λo=>if o=c then qq else Plain.index ⟨qk,qp,⟨qr,qc,qn⟩,j⟩ (S.curs o) } m ow w1 xq 40 #[.int .i64 qk,.int .i64 qp,.int .i32 qr,.int .i64 qc,.int .i64 qn,.int .i64 j] wr) (λiv _=>S.n-(intOf iv).toNat)
            case atStart => exact⟨0,_,f1n _,rfl,by rw[fva,foz];exact gG⟩
            case round=>
              obtain⟨i,V',hi,rfl,gI⟩:=hrel;obtain⟨bH,I,aN,bY,aE⟩:=gI.out;by_cases hlt:i<S.n
              ·have cC:=I.cls_at ak i hlt;have bA:=fls I hlt hc;by_cases O:i=c
               ·have hd:decide (i≠c)=false:=by simp[O]
                rw[hd] at bA;clear hd;subst O;replace I:=fx6 I;go_wp2
                go_roundw
                case rel => exact⟨i+1,V',hlt,by simp,by rw[clI_own,fsg];exact gI⟩
                case measure => simp[intOf];omega
               ·have hd:decide (i≠c)=true:=by simp[O]
                rw[hd] at bA;clear hd;have a4:Bk wr L.sb 80 #[V'.st,V'.lg,.map (some L.mb),.slice (some ⟨L.eb,0,none⟩) S.n S.n,.slice (some ⟨L.nb,0,none⟩) S.n S.n,.chan (some L.c0)]:=I.ss;have aH:Bk wr (L.kb i) 89 #[.int .i64 (i:Int),V'.tv i,.int .i64 (S.cl i).cur,.int .i64 (S.cl i).en.mine,.int .i64 (S.cl i).en.other,.int .i64 (S.cl i).en.acked,V'.rv i,.pointer (some ⟨L.ul i,0,none⟩),.pointer (some ⟨L.dl i,0,none⟩),.int .i64 (S.cl i).typed,.chan (some (L.wc i))]:=by have:=I.kk i hlt;simpa only[fwa O] using this
                have b2: ¬(L.kb i=L.eb\/(V'.er i).ownBlock=some (L.kb i)):=by
                  obtain⟨_,ad,_⟩:=I.ee.bk;rintro(e|e)
                  ·exact aH.ne_ ad fu e
                  ·exact rp (I.er i hlt) aH fu _ e rfl
                have a9:=HG.out.mine i hlt;have bc:=HG.out.rows i hlt;have X:=HG.out.calls;have Y:=HG.out.log_len
                have ck:(S.cl i).down.length<S.room:=by
                  have h1:=HG.out.downR i hlt;rcases f01 (S.cl i).down.length S.room with h'|h'
                  ·exact h'
                  ·have:=(Plain.fullAt_iff S c S.n).2 ⟨i,hlt,O,by omega⟩;rw[aQ.out] at this;cases this
                have bI:=fx6 (λW (hW:Bl wr W)=>fsi (S:=S) (B:={ S with cl:=Plain.put S.cl c { S.cl c with up:=U },ends:=Plain.put S.ends c (Plain.take (S.ends c) ⟨⟨fk,fp,⟨fr,fc,fn⟩,D⟩,fm,fo,C⟩),known:=if qk=1 then Plain.put S.known c (S.known c+1) else S.known,text:=Plain.apply ⟨qk,qp,⟨qr,qc,qn⟩,j⟩ S.text,log:=S.log++[⟨qk,qp,⟨qr,qc,qn⟩,j⟩],curs:=λo=>if o=c then qq else Plain.index ⟨qk,qp,⟨qr,qc,qn⟩,j⟩ (S.curs o) }) (f:=⟨⟨fk,fp,⟨fr,fc,fn⟩,D⟩,fm,fo,C⟩) (q:=⟨qk,qp,⟨qr,qc,qn⟩,j⟩) (k:=qq) (I.bl hW) rfl hlt O fe fe);have aK:(i:Int)<(S.n:Int):=by omega
                replace I:=fx6 I;clear a9 bc X Y;go_upto_region 25 with fail
                refine rn (sel [λw'=>Bk w' L.sb 80 #[V'.st,V'.lg,.map (some L.mb),.slice (some ⟨L.eb,0,none⟩) S.n S.n,.slice (some ⟨L.nb,0,none⟩) S.n S.n,.chan (some L.c0)],λw'=>Bk w' (L.kb i) 89 #[.int .i64 (i:Int),V'.tv i,.int .i64 (S.cl i).cur,.int .i64 (S.cl i).en.mine,.int .i64 (S.cl i).en.other,.int .i64 (S.cl i).en.acked,V'.rv i,.pointer (some ⟨L.ul i,0,none⟩),.pointer (some ⟨L.dl i,0,none⟩),.int .i64 (S.cl i).typed,.chan (some (L.wc i))],λw'=>Bk w' xq 40 #[.int .i64 qk,.int .i64 qp,.int .i32 qr,.int .i64 qc,.int .i64 qn,.int .i64 j]]) [(.h 9,0),(.h 9,1),(.h 9,2),(.h 1,3),(.h 9,4),(.h 9,5),(.h 9,6),(.h 0,7),(.h 9,8),(.h 9,9),(.h 9,10),(.h 1,11),(.h 9,12),(.h 2,13),(.h 9,14),(.c [1,9],15),(.c [],16)] fd fd (qy (Bk.dr a4) (qy (Bk.dr aH) (qy (Bk.dr aN) (λ_=>un)))) ?_;simp only[vg,fy9,fz4,fz3,fy2,fx7,fy0];iterate 15 (refine oH ?_;try simp only[aps])
                (refine rx (λK hK=>?_);go_simp;go_at_call 91;refine(bI.out _ ga).mono ?_;rintro e w3 ⟨cN,cM,rfl,a0,cA,cu⟩;have k3:=Bk.ch cu b2 (Bk.dr aH);have cc:=fx6 (fsj (S:=S) (B:={ S with cl:=Plain.put S.cl c { S.cl c with up:=U },ends:=Plain.put S.ends c (Plain.take (S.ends c) ⟨⟨fk,fp,⟨fr,fc,fn⟩,D⟩,fm,fo,C⟩),known:=if qk=1 then Plain.put S.known c (S.known c+1) else S.known,text:=Plain.apply ⟨qk,qp,⟨qr,qc,qn⟩,j⟩ S.text,log:=S.log++[⟨qk,qp,⟨qr,qc,qn⟩,j⟩],curs:=λo=>if o=c then qq else Plain.index ⟨qk,qp,⟨qr,qc,qn⟩,j⟩ (S.curs o) }) (q:=⟨qk,qp,⟨qr,qc,qn⟩,j⟩) (k:=qq) a0 rfl rfl hlt O ck fe);replace a0:=fx6 a0;refine hK _ _ (rh ff (rh trivial ry)) ?_;clear hK K;try simp only[aps])
                (refine rx (λK hK=>?_);go_simp;go_at_call 90;refine cc.out.mono ?_;rintro e w4 ⟨aA,rfl,a6,b9,db⟩;replace a6:=fx6 a6;refine hK _ _ ry ?_;clear hK K;try simp only[aps]);refine ub ?_;have gN:=stg_of aN bY aE a6.out (((Ex.bl (Bl.rf _).dr).tr cA).tr b9);go_wp2_with fail
                go_roundw
                case rel => exact⟨i+1,_,hlt,by simp,gN⟩
                case measure => simp[intOf];omega
              ·obtain rfl:i=S.n:=by omega
               replace I:=fx6 I;go_wp2;go_ret;exact⟨by rw[fv8 hu aQ.out];exact⟨rfl,V',bH,fsk I.out hq.out,aE⟩⟩
           ·intro i w5 aK aM cx cI bU cj;replace aM:seen.contains i=false:=by simpa using aM
            have bL:=gI.move cx bU;rw[fsl aM] at cj;obtain⟨c6,I,aN,bY,aE,cH,cY,_⟩:=bL.out;have a4:Bk w5 L.sb 80 #[v2,lg',.map (some L.mb),.slice (some ⟨L.eb,0,none⟩) S.n S.n,.slice (some ⟨L.nb,0,none⟩) S.n S.n,.chan (some L.c0)]:=I.ss;have aS:Mp w5 L.mb S.n (mixC ⟨qk,qp,⟨qr,qc,qn⟩,j⟩ S.curs seen):=I.mp;have cF:=HG.out.curs i aK;have htl:=HG.out.text_len;have Y:=HG.out.log_len;have X:=HG.out.calls;have hA:=fx6 (λW=>bh ⟨qk,qp,⟨qr,qc,qn⟩,j⟩ (S.curs i) W fe fe);have bm:=fx6 (λW (hW:Bl w5 W)=>fw9 (aS.ch (K:=λ_=>False) (Ch.ba hW) (λh=>h)) aK fe (Plain.index ⟨qk,qp,⟨qr,qc,qn⟩,j⟩ (S.curs i)));have cg:=fx6 aG.left;clear cF htl Y X aS aG aU aF bO M hr2 bN bX ah A cS dS;replace I:=fx6 I;go_upto_region 19 with fail
            refine rn (sel [λw'=>Bk w' L.sb 80 #[v2,lg',.map (some L.mb),.slice (some ⟨L.eb,0,none⟩) S.n S.n,.slice (some ⟨L.nb,0,none⟩) S.n S.n,.chan (some L.c0)],λw'=>Bk w' xq 40 #[.int .i64 qk,.int .i64 qp,.int .i32 qr,.int .i64 qc,.int .i64 qn,.int .i64 j]]) [(.h 9,0),(.h 9,1),(.h 9,2),(.h 0,3),(.h 9,4),(.h 1,5),(.h 9,6),(.c [0,9],7),(.c [],8)] fd fd (qy (Bk.dr a4) (qy (Bk.dr aN) (λ_=>un))) ?_;simp only[vg,fy9,fz4,fz3,fy2,fx7,fy0];iterate 7 (refine oH ?_;try simp only[aps])
            (refine rx (λK hK=>?_);go_simp;go_at_call 89;refine(hA.out _).mono ?_;rintro e w7 ⟨rfl,bq⟩;have c2:=bm.out _ ((Bl.rf _).dr.cl bq);refine hK _ _ (rh ff (rh trivial ry)) ?_;clear hK K;try simp only[aps])
            (refine rx (λK hK=>?_);go_simp;refine hK _ _ ry ?_;clear hK K;try simp only[aps]);refine ub ?_
            have gN:=(bL.bl ((Bl.rf _).dr.cl bq)).step (S':={ S with cl:=Plain.put S.cl c { S.cl c with up:=U },ends:=Plain.put S.ends c (Plain.take (S.ends c) ⟨⟨fk,fp,⟨fr,fc,fn⟩,D⟩,fm,fo,C⟩),known:=if qk=1 then Plain.put S.known c (S.known c+1) else S.known,text:=Plain.apply ⟨qk,qp,⟨qr,qc,qn⟩,j⟩ S.text,log:=S.log++[⟨qk,qp,⟨qr,qc,qn⟩,j⟩],curs:=mixC ⟨qk,qp,⟨qr,qc,qn⟩,j⟩ S.curs (seen.push i) }) (V':={ V with er:=Plain.put V.er c J,st:=v2,lg:=lg' }) rfl λow' hM=>by
              obtain⟨aA,k1,k2⟩:=fnd hM (c:=i) (Plain.index ⟨qk,qp,⟨qr,qc,qn⟩,j⟩ (S.curs i));exact⟨aA,by rw[<- fsn];exact k1,k2⟩
            go_wp2_with fail
            go_roundw
            case rel => exact⟨seen.push i,gN⟩
            case measure=>
              obtain⟨_,_,_,_,_,cE,_⟩:=gN.out;exact Nat.lt_of_le_of_lt (Nat.le_of_eq cE.left) (f0f (fv0 aK aM) (Nat.le_of_eq cg.out.symm))
end
end Go.Proofs.YtelecjnabeokeaaGreatDoor
namespace Go.Proofs.YtelecjnabeokeaaGreatDoor
open Go Go.Conc
structure PastS (St:Nat->Loc->Prop) (Shun:Loc->Prop) (Hear:Nat->Prop) (B:Nat) (h:Nat) (t:Trace):Prop where
 clean: ∀said,¬Race said t
 known: ∀i a,touchAt t i=some a->a.loc.isMemory=true->Knows t h i\/(a.write=false/\ ∃g,t.g? i=some g/\St g a.loc/\a.kind=.plain)\/(Shun a.loc/\a.kind=.atomic/\ ¬t.heard i)
 wrote: ∀i a,touchAt t i=some a->a.write=true-> ∀g,St g a.loc->Knows t g i
 apart: ∀g l,St g l-> ¬Shun l
 hears: ∀g,Hear g->Deaf t g=0
 seen: ∀op∈t,op.act.low B
section
variable {St:Nat->Loc->Prop} {Shun:Loc->Prop} {Hear:Nat->Prop} {B h:Nat} {t u:Trace}
def fcq {i:Nat} (hi:i<t.size):(t++u).heard i↔t.heard i:=by
 unfold Trace.heard;rw[g?_old hi];constructor
 ·rintro⟨g,hg,hd⟩;exact⟨g,hg,by rw[deaf_old (Nat.le_of_lt hi)] at hd;exact hd⟩
 ·rintro⟨g,hg,hd⟩;exact⟨g,hg,by rw[deaf_old (Nat.le_of_lt hi)];exact hd⟩
def PastS.mono {B':Nat} (H:PastS St Shun Hear B h t) (hB:B<=B'):PastS St Shun Hear B' h t:=
 ⟨H.clean,H.known,H.wrote,H.apart,H.hears,λop j=>MemAct.low_mono hB (H.seen op j)⟩
def PastS.fewer {j:Nat->Prop} (H:PastS St Shun Hear B h t) (hM: ∀g,j g->Hear g):PastS St Shun j B h t:=
 ⟨H.clean,H.known,H.wrote,H.apart,λg hg=>H.hears g (hM g hg),H.seen⟩
def PastS.more {j:Nat->Prop} (H:PastS St Shun Hear B h t) (hM: ∀g,j g->Deaf t g=0):PastS St Shun j B h t:=
 ⟨H.clean,H.known,H.wrote,H.apart,hM,H.seen⟩
def PastS.old_known {h':Nat} (H:PastS St Shun Hear B h t) (hK: ∀i,Knows t h i->Knows (t++u) h' i) {i:Nat} {a:Go.Touch} {x:MemOp} (hx':t[i]? =some x) (hxa:x.act.touch? =some a) (hm:a.loc.isMemory=true):
    Knows (t++u) h' i\/(a.write=false/\ ∃g,(t++u).g? i=some g/\St g a.loc/\a.kind=.plain)\/(Shun a.loc/\a.kind=.atomic/\ ¬(t++u).heard i):=by
 have hi:=lt_size_of_getElem? hx';rcases H.known i a kx hm with hk|⟨hw,g,hg,hs⟩|⟨h1,h2,h3⟩
 ·exact .inl (hK i hk)
 ·exact .inr (.inl ⟨hw,g,by rw[g?_old hi];exact hg,hs⟩)
 ·exact .inr (.inr ⟨h1,h2,λe=>h3 ((fcq hi).1 e)⟩)
def PastS.old_wrote (H:PastS St Shun Hear B h t) {i:Nat} {a:Go.Touch} {x:MemOp} (hx':t[i]? =some x) (hxa:x.act.touch? =some a) (hw:a.write=true) {g:Nat} (hs:St g a.loc):Knows (t++u) g i:=
 (H.wrote i a kx hw g hs).app u
def PastS.appMute {g:Nat} (H:PastS St Shun Hear B h t) (hu: ∀op∈u,op.g=g) (hn: ∀op∈u,op.act.touch? =none) (hd:Hear g->Deaf (t++u) g=0) (hl: ∀op∈u,op.act.low B):PastS St Shun Hear B h (t++u):=by
 refine⟨λq=>noRace_appendMute (H.clean q) hn,λi a ha hm=>?_,λi a ha hw g' hs=>?_,H.apart,λg' m=>?_,seen_app H.seen hl⟩
 ·obtain⟨x,hx,hxa⟩:=f3d ha;rcases f07 hx with⟨_,hx'⟩|⟨_,j⟩
  ·exact H.old_known (λi=>Knows.app u) hx' hxa hm
  ·rw[hn x j] at hxa;cases hxa
 ·obtain⟨x,hx,hxa⟩:=f3d ha;rcases f07 hx with⟨_,hx'⟩|⟨_,j⟩
  ·exact H.old_wrote hx' hxa hw hs
  ·rw[hn x j] at hxa;cases hxa
 ·by_cases e:g'=g
  ·subst e;exact hd m
  ·exact(f1g t (λx=>e x.symm) u hu).trans (H.hears g' m)
def PastS.appRead {g:Nat} (H:PastS St Shun Hear B h t) (hu: ∀op∈u,op.g=g) (hr: ∀op∈u,∀b,op.act.touch? =some b->b.write=false/\St g b.loc) (hp: ∀op∈u,∀b,op.act.touch? =some b->b.kind=.plain) (hd:Hear g->Deaf (t++u) g=0)
    (hl: ∀op∈u,op.act.low B):PastS St Shun Hear B h (t++u):=by
 refine⟨λq=>noRace_append (H.clean q) hu λi a ha op A b hb hc=>?_,λi a ha hm=>?_,λi a ha hw g' hs=>?_,H.apart,λg' m=>?_,seen_app H.seen hl⟩
 ·obtain⟨C,D⟩:=hr op A b hb;rcases hc.2.2.1 with x|x
  ·exact H.wrote i a ha x g (hc.1▸D)
  ·rw[C] at x;cases x
 ·obtain⟨x,hx,hxa⟩:=f3d ha;rcases f07 hx with⟨_,hx'⟩|⟨_,j⟩
  ·exact H.old_known (λi=>Knows.app u) hx' hxa hm
  ·exact .inr (.inl ⟨(hr x j a hxa).1,g,by rw[g?_of hx,hu x j],(hr x j a hxa).2,hp x j a hxa⟩)
 ·obtain⟨x,hx,hxa⟩:=f3d ha;rcases f07 hx with⟨_,hx'⟩|⟨_,j⟩
  ·exact H.old_wrote hx' hxa hw hs
  ·rw[(hr x j a hxa).1] at hw;cases hw
 ·by_cases e:g'=g
  ·subst e;exact hd m
  ·exact(f1g t (λx=>e x.symm) u hu).trans (H.hears g' m)
def PastS.appH (H:PastS St Shun Hear B h t) (hu: ∀op∈u,op.g=h) (hs: ∀op∈u,∀b,op.act.touch? =some b->(∀g,St g b.loc->b.write=false)/\ ¬Shun b.loc) (hd:Hear h->Deaf (t++u) h=0) (hl: ∀op∈u,op.act.low B):
    PastS St Shun Hear B h (t++u):=by
 refine⟨λA=>noRace_append (H.clean A) hu λi a ha op m b hb hc=>?_,λi a ha hm=>?_,λi a ha hw g hS=>?_,H.apart,λg' q=>?_,seen_app H.seen hl⟩
 ·rcases H.known i a ha hc.2.1 with hk|⟨hw,g,_,hS⟩|⟨hS,_⟩
  ·exact hk
  ·have C:=(hs op m b hb).1 g (hc.1▸hS.1);rcases hc.2.2.1 with x|x
   ·rw[hw] at x;cases x
   ·rw[C] at x;cases x
  ·exact absurd (hc.1▸hS) (hs op m b hb).2
 ·obtain⟨x,hx,hxa⟩:=f3d ha;rcases f07 hx with⟨_,hx'⟩|⟨_,j⟩
  ·exact H.old_known (λi=>Knows.app u) hx' hxa hm
  ·have:=knows_own hx;rw[hu x j] at this;exact .inl this
 ·obtain⟨x,hx,hxa⟩:=f3d ha;rcases f07 hx with⟨_,hx'⟩|⟨_,j⟩
  ·exact H.old_wrote hx' hxa hw hS
  ·rw[(hs x j a hxa).1 g hS] at hw;cases hw
 ·by_cases e:g'=h
  ·subst e;exact hd q
  ·exact(f1g t (λx=>e x.symm) u hu).trans (H.hears g' q)
def PastS.grow (H:PastS St Shun Hear B h t) {g:Nat} {l:Loc} (hl: ∀i a,touchAt t i=some a->a.write=true->a.loc=l->Knows t g i) (hn: ¬Shun l):PastS (λg' l'=>St g' l'\/(g'=g/\l'=l)) Shun Hear B h t:=by
 refine⟨H.clean,λi a ha hm=>?_,λi a ha hw g' hs=>?_,λg' l' hs=>?_,H.hears,H.seen⟩
 ·rcases H.known i a ha hm with hk|⟨hw,g',hg,hs⟩|x
  ·exact .inl hk
  ·exact .inr (.inl ⟨hw,g',hg,.inl hs.1,hs.2⟩)
  ·exact .inr (.inr x)
 ·rcases hs with hs|⟨rfl,e⟩
  ·exact H.wrote i a ha hw g' hs
  ·exact hl i a ha hw e
 ·rcases hs with hs|⟨_,rfl⟩
  ·exact H.apart g' l' hs
  ·exact hn
def PastS.give {j:Nat} (H:PastS St Shun Hear B h t) (hh:Deaf t h=0) (hj:Deaf t j=0) (fh:FuncId) (ph:String) (fj:FuncId) (pj:String) {c:Nat} (k cap:Nat) (hc:c<B):
    PastS St Shun Hear B j (t++met h j fh ph fj pj c k cap):=by
 have hn:=met_mute h j fh ph fj pj c k cap;have hq:=met_quiet h j fh ph fj pj c k cap;have e0:(t++met h j fh ph fj pj c k cap)[t.size]? =some { g:=h,fn:=fh,pos:=ph,act:=.send c k }:=by simp[met]
 have e3:(t++met h j fh ph fj pj c k cap)[t.size+3]? =some { g:=j,fn:=fj,pos:=pj,act:=.recvDone c k }:=by simp[met]
 have edge:HappensBefore (t++met h j fh ph fj pj c k cap) t.size (t.size+3):=
    Relation.TransGen.single (.inr ⟨.handOver (act?_of e0) (act?_of e3),⟨h,g?_of e0,by rw[deaf_old (fx8 _)];exact hh⟩,⟨j,g?_of e3,by rw[deaf_quiet (hq j) 3 (by simp[met])];exact hj⟩⟩)
 refine⟨λA=>noRace_appendMute (H.clean A) hn,λi a ha hm=>?_,λi a ha hw g hS=>?_,H.apart,λg hg=>(Deaf_quiet (hq g)).trans (H.hears g hg),seen_app H.seen λop q=>?_⟩
 ·obtain⟨x,hx,hxa⟩:=f3d ha;rcases f07 hx with⟨hi,hx'⟩|⟨_,m⟩
  ·exact H.old_known (λi hk=>⟨t.size+3,_,e3,rfl,.inr ((hk.hb_new (fx8 _) e0 rfl).trans edge)⟩) hx' hxa hm
  ·rw[hn x m] at hxa;cases hxa
 ·obtain⟨x,hx,hxa⟩:=f3d ha;rcases f07 hx with⟨_,hx'⟩|⟨_,m⟩
  ·exact H.old_wrote hx' hxa hw hS
  ·rw[hn x m] at hxa;cases hxa
 ·simp only[met,f4b,fy3,fz8,f0z] at q;rcases q with rfl|rfl|rfl|rfl <;>exact hc
def PastS.hire {c:Nat} {L:Loc->Prop} (H:PastS St Shun Hear B h t) (hh:Deaf t h=0) (q:Deaf t c=0) (hL: ∀i a,touchAt t i=some a->a.write=true->L a.loc->Knows t h i) (hN: ∀l,L l-> ¬Shun l) (fh:FuncId) (ph:String) (fc:FuncId):
    PastS (λg l=>St g l\/(g=c/\L l)) Shun (λg=>Hear g\/g=c) B h (t++ #[{ g:=h,fn:=fh,pos:=ph,act:=.go c },{ g:=c,fn:=fc,pos:=ph,act:=.start }]):=by
 generalize hu:(#[{ g:=h,fn:=fh,pos:=ph,act:=.go c },{ g:=c,fn:=fc,pos:=ph,act:=.start }]:Trace)=u
 have hn: ∀op∈u,op.act.touch? =none:=by
    intro op j;subst hu;simp only[f4b,fy3,fz8,f0z] at j;rcases j with rfl|rfl <;>rfl
 have hq: ∀g,∀op∈u,∀d,deafStep g d op=d:=by
    intro g op j d;subst hu;simp only[f4b,fy3,fz8,f0z] at j;rcases j with rfl|rfl <;>rfl
 have e0:(t++u)[t.size]? =some { g:=h,fn:=fh,pos:=ph,act:=.go c }:=by subst hu;simp
 have e1:(t++u)[t.size+1]? =some { g:=c,fn:=fc,pos:=ph,act:=.start }:=by subst hu;simp
 have edge:HappensBefore (t++u) t.size (t.size+1):=
    Relation.TransGen.single (.inr ⟨.spawn (act?_of e0) (act?_of e1) (g?_of e1),⟨h,g?_of e0,by rw[deaf_old (fx8 _)];exact hh⟩,⟨c,g?_of e1,by rw[deaf_quiet (hq c) 1 (by subst hu;simp)];exact q⟩⟩)
 refine⟨λA=>noRace_appendMute (H.clean A) hn,λi a ha hm=>?_,λi a ha hw g hS=>?_,λg l hs=>hs.elim (H.apart g l) λx=>hN l x.2,λg hg=>(Deaf_quiet (hq g)).trans (hg.elim (H.hears g) λe=>e▸q),seen_app H.seen λop j=>?_⟩
 ·obtain⟨x,hx,hxa⟩:=f3d ha;rcases f07 hx with⟨_,hx'⟩|⟨_,m⟩
  ·rcases H.old_known (u:=u) (λi=>Knows.app u) hx' hxa hm with h1|⟨h1,g,h2,h3⟩|h1
   ·exact .inl h1
   ·exact .inr (.inl ⟨h1,g,h2,.inl h3.1,h3.2⟩)
   ·exact .inr (.inr h1)
  ·rw[hn x m] at hxa;cases hxa
 ·obtain⟨x,hx,hxa⟩:=f3d ha;rcases f07 hx with⟨_,hx'⟩|⟨_,m⟩
  ·rcases hS with hS|⟨rfl,hS⟩
   ·exact H.old_wrote hx' hxa hw hS
   ·exact⟨t.size+1,_,e1,rfl,.inr (((hL i a kx hw hS).hb_new (fx8 _) e0 rfl).trans edge)⟩
  ·rw[hn x m] at hxa;cases hxa
 ·subst hu;simp only[f4b,fy3,fz8,f0z] at j;rcases j with rfl|rfl <;>trivial
end
section
variable {St:Nat->Loc->Prop} {Shun:Loc->Prop} {Hear:Nat->Prop} {B h:Nat} {t u:Trace}
def PastS.appShunH (H:PastS St Shun Hear B h t) (hu: ∀op∈u,op.g=h) (hs: ∀op∈u,∀b,op.act.touch? =some b->(Shun b.loc/\b.kind≠ .plain)\/((∀g,St g b.loc->b.write=false)/\ ¬Shun b.loc)) (hd:Hear h->Deaf (t++u) h=0) (hl: ∀op∈u,op.act.low B):
    PastS St Shun Hear B h (t++u):=by
 refine⟨λC=>noRace_append (H.clean C) hu λi a ha op q b hb hc=>?_,λi a ha hm=>?_,λi a ha hw g hS=>?_,H.apart,λg' A=>?_,seen_app H.seen hl⟩
 ·rcases H.known i a ha hc.2.1 with hk|⟨hw,g,_,hS⟩|⟨hS,m,_⟩
  ·exact hk
  ·rcases hs op q b hb with⟨h1,_⟩|⟨h1,_⟩
   ·exact absurd (hc.1▸h1) (H.apart g _ hS.1)
   ·have D:=h1 g (hc.1▸hS.1);rcases hc.2.2.1 with x|x
    ·rw[hw] at x;cases x
    ·rw[D] at x;cases x
  ·rcases hs op q b hb with⟨_,h2⟩|⟨_,h2⟩
   ·rcases hc.2.2.2 with e|e|⟨_,e,_⟩
    ·rw[m] at e;cases e
    ·exact absurd e h2
    ·rw[m] at e;cases e
   ·exact absurd (hc.1▸hS) h2
 ·obtain⟨x,hx,hxa⟩:=f3d ha;rcases f07 hx with⟨_,hx'⟩|⟨_,j⟩
  ·exact H.old_known (λi=>Knows.app u) hx' hxa hm
  ·have:=knows_own hx;rw[hu x j] at this;exact .inl this
 ·obtain⟨x,hx,hxa⟩:=f3d ha;rcases f07 hx with⟨_,hx'⟩|⟨_,j⟩
  ·exact H.old_wrote hx' hxa hw hS
  ·rcases hs x j a hxa with⟨h1,_⟩|⟨h1,_⟩
   ·exact absurd h1 (H.apart g _ hS)
   ·rw[h1 g hS] at hw;cases hw
 ·by_cases e:g'=h
  ·subst e;exact hd A
  ·exact(f1g t (λx=>e x.symm) u hu).trans (H.hears g' A)
def PastS.appShunW {g:Nat} (H:PastS St Shun Hear B h t) (hu: ∀op∈u,op.g=g) (hs: ∀op∈u,∀b,op.act.touch? =some b->Shun b.loc/\b.kind=.atomic) (A: ∀k op,u[k]? =some op->op.act.touch? ≠none->(t++u).deaf g (t.size+k)≠0)
    (hk: ∀i a,touchAt t i=some a->Shun a.loc->a.kind=.plain->Knows t g i) (hd:Hear g->Deaf (t++u) g=0) (hl: ∀op∈u,op.act.low B):PastS St Shun Hear B h (t++u):=by
 refine⟨λq=>noRace_append (H.clean q) hu λi a ha op C b hb hc=>?_,λi a ha hm=>?_,λi a ha hw g' hS=>?_,H.apart,λg' j=>?_,seen_app H.seen hl⟩
 ·obtain⟨h1,h2⟩:=hs op C b hb;refine hk i a ha (hc.1▸h1) ?_;rcases hc.2.2.2 with e|e|⟨_,_,e⟩
  ·exact e
  ·rw[h2] at e;cases e
  ·rw[h2] at e;cases e
 ·obtain⟨x,hx,hxa⟩:=f3d ha;rcases f07 hx with⟨_,hx'⟩|⟨hi,m⟩
  ·exact H.old_known (λi=>Knows.app u) hx' hxa hm
  ·obtain⟨h1,h2⟩:=hs x m a hxa;refine .inr (.inr ⟨h1,h2,?_⟩);rintro⟨g',j,hd'⟩;rw[g?_of hx,hu x m] at j;cases j;obtain⟨k,rfl⟩:=Nat.exists_eq_add_of_le hi;refine A k x (by rw[<- at_new t u k];exact hx) (by rw[hxa];simp) hd'
 ·obtain⟨x,hx,hxa⟩:=f3d ha;rcases f07 hx with⟨_,hx'⟩|⟨_,m⟩
  ·exact H.old_wrote hx' hxa hw hS
  ·exact absurd (hs x m a hxa).1 (H.apart g' _ hS)
 ·by_cases e:g'=g
  ·subst e;exact hd j
  ·exact(f1g t (λx=>e x.symm) u hu).trans (H.hears g' j)
def KnP (Shun:Loc->Prop) (t:Trace) (g:Nat):Prop:= ∀i a,touchAt t i=some a->Shun a.loc->a.kind=.plain->Knows t g i
def KnP.app {g:Nat} (H:KnP Shun t g) (hs: ∀op∈u,∀b,op.act.touch? =some b->Shun b.loc->b.kind≠ .plain):KnP Shun (t++u) g:=by
 intro i a ha h1 h2;obtain⟨x,hx,hxa⟩:=f3d ha;rcases f07 hx with⟨_,hx'⟩|⟨_,j⟩
 ·exact(H i a kx h1 h2).app u
 ·exact absurd h2 (hs x j a hxa h1)
def Shut (Shun:Loc->Prop) (t:Trace) (c:Nat):Prop:= ∃p,t.act? p=some (.close c)/\t.heard p/\ ∀i a,touchAt t i=some a->Shun a.loc->a.kind=.plain->HappensBefore t i p
def act?_old {i:Nat} (hi:i<t.size):(t++u).act? i=t.act? i:=by simp[Trace.act?,getElem?_append_old hi]
def Shut.app {c:Nat} (H:Shut Shun t c) (hs: ∀op∈u,∀b,op.act.touch? =some b->Shun b.loc->b.kind≠ .plain):Shut Shun (t++u) c:=by
 obtain⟨p,h1,h2,h3⟩:=H;have hp:=lt_of_act? h1;refine⟨p,by rw[act?_old hp];exact h1,(fcq hp).2 h2,λi a ha h4 h5=>?_⟩;obtain⟨x,hx,hxa⟩:=f3d ha;rcases f07 hx with⟨_,hx'⟩|⟨_,j⟩
 ·exact hb_app u (h3 i a kx h4 h5)
 ·exact absurd h5 (hs x j a hxa h4)
end
open Go.ConcN (sumTo upd sumTo_upd upd_ne upd_same)
def f7f {Still:Loc->Prop} {B i:Nat} {fn:FuncId} {pos:String} {es:Array Event} (h: ∀e∈es,EvC Still B e): ∀op∈MemOp.ofEvents i fn pos es,∀b,op.act.touch? =some b->b.kind=.plain:=by
 intro op j b hb;obtain⟨e,he,rfl⟩:=fz7 j;obtain⟨a,rfl,_⟩:=h e he;simp only[MemAct.ofEvent,MemAct.touch?,f03] at hb;subst hb;rfl
def Keeps (D:Nat->Option Obj) (w:World):Prop:= ∀b o,D b=some o->w.heap[b]? =some o
def Keeps.at {D:Nat->Option Obj} {w:World} (h:Keeps D w) (d:Nat):Keeps D (w.at d):=h
structure SeatD where
 c:Nat
 z:Value
 ok:Bool
 D:Nat->Option Obj
 B:Nat
 home:Goroutine->Prop
noncomputable def SeatD.seat (s:SeatD):Seat:=Seat.one s.c s.z s.ok s.home
def IdleS (P:Program) (St:Nat->Loc->Prop) (T:Trace) (i n:Nat) (g:Goroutine):Option SeatD->Prop
 | none=>0<i/\QuitsD P n (Deaf T i) g
 | some s=>Sits P (i==0) (Keeps s.D) (St i) s.B s.seat n g
structure Crew (P:Program) (St:Nat->Loc->Prop) (Sp:Nat->Prop) (S:Nat->Option SeatD) (T:Trace) (gs:Array Goroutine) (w:World) (q:Nat->Nat):Prop where
 idle: ∀i g,¬Sp i->gs[i]? =some g->IdleS P St T i (q i) g (S i)
 chans: ∀i s,S i=some s-> ∃k,w.heap[s.c]? =some (.chan 0 #[] false k k false)
 rows: ∀i s b o,S i=some s->s.D b=some o-> ∃c e f,o=.cells c e f
 keeps: ∀i s,S i=some s->Keeps s.D w
 inj: ∀i i' s s',S i=some s->S i'=some s'->s.c=s'.c->i=i'
 low: ∀i s,S i=some s->s.B<=w.heap.size/\s.c<w.heap.size
 hear: ∀i s,S i=some s->Deaf T i=0
 above: ∀j,gs.size<=j->Deaf T j=0
section
variable {P:Program} {St:Nat->Loc->Prop} {Sp:Nat->Prop} {S:Nat->Option SeatD} {T:Trace} {gs:Array Goroutine} {w:World} {q:Nat->Nat}
def Crew.at (C:Crew P St Sp S T gs w q) (d:Nat):Crew P St Sp S T gs (w.at d) q:=⟨C.idle,C.chans,C.rows,C.keeps,C.inj,C.low,C.hear,C.above⟩
def SeatD.has {s:SeatD} {c:Nat} (h:s.seat.has c):c=s.c:=Seat.one_has.1 h
def Crew.fixed (C:Crew P St Sp S T gs w q) {x:Nat} {y:Goroutine} (hx: ¬Sp x) (hy:gs[x]? =some y):y.again w=y:=by
 have h:=C.idle x y hx hy;cases e:S x with
 | none=>rw[e] at h;exact f1i h.2.status w
 | some s=>
   rw[e] at h;obtain⟨k,hk⟩:=C.chans x s e;exact Sits.again (C.keeps x s e) h (Seat.one_wf _ _ _ _) λc hc=>by
    rw[SeatD.has hc];exact⟨_,_,_,_,_,hk⟩
def Crew.noSend (C:Crew P St Sp S T gs w q) {x:Nat} {y:Goroutine} (hx: ¬Sp x) (hy:gs[x]? =some y) (c:Nat):offersAt y c true=[]:=by
 have h:=C.idle x y hx hy;cases e:S x with
 | none=>
   rw[e] at h;exact f0l (λhb=>by rcases h.2.status with z|z <;>rw[z] at hb <;>cases hb) c true
 | some s=>
   rw[e] at h;rcases h with⟨k,w₀,hq,hg⟩|⟨_,_,g₂,rfl,_⟩
   ·have:=(f3b (C.keeps x s e) (.inl ⟨k,w₀,hq,hg⟩)).elim (·.1) (λz=>by omega);exact f0l (λhb=>by rw[this] at hb;cases hb) c true
   ·exact offersAt_parked_recv' _ _ _ _ _
def Crew.noRecv (C:Crew P St Sp S T gs w q) {x:Nat} {y:Goroutine} (hx: ¬Sp x) (hy:gs[x]? =some y) (c:Nat) (hc: ∀s,S x=some s->s.c≠c):offersAt y c false=[]:=by
 have h:=C.idle x y hx hy;cases e:S x with
 | none=>
   rw[e] at h;exact f0l (λhb=>by rcases h.2.status with z|z <;>rw[z] at hb <;>cases hb) c false
 | some s=>
   rw[e] at h;rcases h with⟨k,w₀,hq,hg⟩|⟨_,_,g₂,rfl,_⟩
   ·have:=(f3b (C.keeps x s e) (.inl ⟨k,w₀,hq,hg⟩)).elim (·.1) (λz=>by omega);exact f0l (λhb=>by rw[this] at hb;cases hb) c false
   ·rw[show parked g₂ s.seat.cases s.seat.shape=parked g₂ #[rcase s.c s.z] (.recv s.ok) from rfl,offersAt_parked_recv,fx9 (hc s e)]
def Crew.awake (C:Crew P St Sp S T gs w q) (hSp: ∀x gx,Sp x->gs[x]? =some gx->gx.status=.running\/gx.status=.blocked): ∀g∈gs,awake g:=by
 intro g hg;obtain⟨i,hi,rfl⟩:=Array.mem_iff_getElem.1 hg;by_cases e:Sp i
 ·rcases hSp i _ e (fz1 hi) with h|h <;>exact λt=>by rw[h];simp
 ·have hid:=C.idle i _ e (fz1 hi);cases es:S i with
  | none=>
    rw[es] at hid;rcases hid.2.status with h|h <;>exact λt=>by rw[h];simp
  | some s=>
    rw[es] at hid;rcases f3b (C.keeps i s es) hid with⟨h,_⟩|⟨h,_⟩ <;>exact λt=>by rw[h];simp
def fgu {Still:Loc->Prop} {B B':Nat} {e:Event} (h:EvC Still B e) (hB:B<=B'):EvC Still B' e:=by
 obtain⟨a,rfl,h1,h2⟩:=h;exact⟨a,rfl,h1,by omega⟩
def Crew.by_step (C:Crew P St Sp S T gs w q) {i:Nat} {g:Goroutine} {sl:Option (Nat×Nat)} (hi:gs[i]? =some g) (aE: ¬Sp i) (hrun:g.status=.running)
    (aK: ∀x gx,Sp x->gs[x]? =some gx->gx.again w=gx)
    (aJ: ∀s g₂,S i=some s->AtIn P (i==0) (Keeps s.D) (St i) s.B s.seat g g₂-> ∀x gx,Sp x->gs[x]? =some gx->offersAt gx s.c true=[]):
    ∃ (gs':Array Goroutine) (ops:Array MemOp) (q':Nat->Nat),runT P (crowd gs w sl) i=(.next (crowd gs' w sl),ops)/\gs'.size=gs.size/\(∀x,x≠i->gs'[x]? =gs[x]?)/\(∀x,x≠i->q' x=q x)/\
      Crew P St Sp S (T++ops) gs' w q'/\sumTo gs.size q'<sumTo gs.size q/\(∀op∈ops,op.g=i)/\(∀s,S i=some s->q' i=0-> ∃g₂,AtIn P (i==0) (Keeps s.D) (St i) s.B s.seat g g₂)/\
      ∀(Shun:Loc->Prop) (Hear:Nat->Prop) (h:Nat),(Hear i->S i≠none)->PastS St Shun Hear w.heap.size h T->PastS St Shun Hear w.heap.size h (T++ops):=by
 have hlt:i<gs.size:=(fx5.1 hi).1
 have aC: ∀(a a':Goroutine) (x:Nat) (y:Goroutine),gs[x]? =some y->woken P a a' w y=y:=λa a' x y hy=>f5m (by
    by_cases hx:Sp x
    ·exact aK x y hx hy
    ·exact C.fixed hx hy)
 have M: ∀(a' g':Goroutine) (x:Nat),x≠i->((gs.map (woken P g a' w)).setIfInBounds i g')[x]? =gs[x]? :=by
    intro a' g' x hx;rw[fy4 (λe=>hx e.symm),f2c];cases e:gs[x]? with
    | none=>rfl
    | some y=>simp[aC g a' x y e]
 have I: ∀(a' g':Goroutine),((gs.map (woken P g a' w)).setIfInBounds i g')[i]? =some g':=λa' g'=>fy5 qj
 have U: ∀n k,q i=n->k<n->sumTo gs.size (upd q i k)<sumTo gs.size q:=by
    intro n k J hk;have h2:sumTo gs.size (upd q i k)+n=sumTo gs.size q+k:=by
     have:=f1f q k id hlt;simpa[J] using this
    omega
 have R: ∀(n':Nat) (g':Goroutine) (ops:Array MemOp) (gs':Array Goroutine),gs'.size=gs.size->(∀x,x≠i->gs'[x]? =gs[x]?)->gs'[i]? =some g'->(∀op∈ops,op.g=i)->(S i≠none->Deaf (T++ops) i=Deaf T i)->
  IdleS P St (T++ops) i n' g' (S i)->Crew P St Sp S (T++ops) gs' w (upd q i n'):=by
    intro n' g' ops gs' hsz ab I m ac ah;refine⟨λx y hx hy=>?_,C.chans,C.rows,C.keeps,C.inj,C.low,λx s hs=>?_,λj hj=>?_⟩
    ·by_cases e:x=i
     ·subst e;rw[I] at hy;obtain rfl:=fy7 hy;rw[f0b];exact ah
     ·rw[ab x e] at hy;rw[f0p q n' e];have h:=C.idle x y hx hy;cases es:S x with
      | none=>rw[es] at h;exact⟨h.1,by rw[f1g T (λz=>e z.symm) ops m];exact h.2⟩
      | some s=>rw[es] at h;exact h
    ·by_cases e:x=i
     ·subst e;rw[ac (by rw[hs];simp)];exact C.hear x s hs
     ·rw[f1g T (λz=>e z.symm) ops m];exact C.hear x s hs
    ·rw[f1g T (g':=i) fe ops m];exact C.above j fe
 have hid:=C.idle i g aE hi;cases e:S i with
 | none=>
   rw[e] at hid;obtain⟨aB,hq⟩:=hid;have aG:(i==0)=false:=by simp;omega
   cases J:q i with
   | zero=>rw[J] at hq;rw[hq.1] at hrun;cases hrun
   | succ k=>
     rw[J] at hq;rcases hq with⟨hf,_⟩|⟨_,g',es,hm,X,aI⟩
     ·rw[hf] at hrun;cases hrun
     have m: ∀op∈MemOp.ofEvents i g.frame.fn g.frame.place es,op.g=i:=λop W=>by obtain⟨e,_,rfl⟩:=fz7 W;rfl
     refine⟨_,_,upd q i k,f5t (sl:=sl) hi (by rw[aG];exact X w),by simp,M _ _,λx hx=>f0p q k hx,?_,U _ k J fe,m,(λs hs _=>by cases hs),λShun Hear h hH H=>?_⟩
     ·exact R k g' _ _ fi (M _ _) (I _ _) m (λhn=>absurd e hn) (by rw[e];exact⟨aB,by rw[f5l];exact aI⟩)
     ·exact H.appMute m (λop W=>by obtain⟨e,he,rfl⟩:=fz7 W;exact touch_mute (hm e he)) (λhh=>absurd rfl (hH hh)) (λop W=>by obtain⟨e,he,rfl⟩:=fz7 W;exact low_mute (hm e he) _)
 | some s=>
   rw[e] at hid;obtain⟨kk,hc⟩:=C.chans i s e;have hK:=C.keeps i s e;obtain⟨aH,_⟩:=C.low i s e;obtain⟨k,w₀,J,hg⟩: ∃k w₀,q i=k+1/\Goes P (i==0) (RK (Keeps s.D)) (DS (St i) s.B) (λg _=> ∃g₂,AtIn P (i==0) (Keeps s.D) (St i) s.B s.seat g g₂) k g w₀:=by
    rcases hid with h|⟨_,_,g₂,rfl,_⟩
    ·exact h
    ·cases hrun
   have ae:(∃g₂,AtIn P (i==0) (Keeps s.D) (St i) s.B s.seat g g₂)\/ ∃k' g' es,k=k'+1/\stepG P (i==0) g w=.go g' w es/\(∀e∈es,EvC (St i) s.B e)/\Goes P (i==0) (RK (Keeps s.D)) (DS (St i) s.B) (λg _=> ∃g₂,AtIn P (i==0) (Keeps s.D) (St i) s.B s.seat g g₂) k' g' w:=by
    cases k with
    | zero=>exact .inl (hg w hK)
    | succ k'=>
      rcases hg with ak|⟨_,ad⟩
      ·exact .inl (ak w hK)
      ·have hs:=ad w hK;cases aa:stepG P (i==0) g w with
       | go g' w' es=>
         rw[aa,goes_go] at hs;obtain⟨⟨rfl,A⟩,an⟩:=hs;exact .inr ⟨k',g',es,rfl,rfl,A,an⟩
       | _=>rw[aa] at hs;exact hs.elim
   have O: ∀es:Array Event,(∀e∈es,EvC (St i) s.B e)-> ∀(Shun:Loc->Prop) (Hear:Nat->Prop) (h:Nat),PastS St Shun Hear w.heap.size h T->PastS St Shun Hear w.heap.size h (T++MemOp.ofEvents i g.frame.fn g.frame.place es):=λes A Shun Hear h H=>by
    obtain⟨m,hr,hl,hd⟩:=evC_ops (i:=i) (fn:=g.frame.fn) (pos:=g.frame.place) (λe he=>fgu (A e he) aH);exact H.appRead m hr (f7f A) (λ_=>by rw[hd T];exact C.hear i s e) hl
   rcases ae with⟨g₂,Y⟩|⟨k',g',es,rfl,aa,A,an⟩
   ·obtain⟨_,_,_,_,_,es,A,X⟩:=id Y;obtain⟨m,hr,hl,hd⟩:=evC_ops (i:=i) (fn:=g.frame.fn) (pos:=g.frame.place) A;have hw: ∀cc∈s.seat.cases,NoWays w (gs.setIfInBounds i ph) cc:=by
     intro cc aF;obtain rfl:cc=rcase s.c s.z:=by simpa[SeatD.seat,Seat.one] using aF
     refine ways_recv_none hc (partners_nil λx y hy=>?_);rcases getElem?_stand gs i x y hy with⟨_,rfl⟩|⟨hx,aD⟩
     ·exact offersAt_ph _ _
     ·by_cases ap:Sp x
      ·exact aJ s g₂ e Y x y ap aD
      ·exact C.noSend ap aD _
    refine⟨_,_,upd q i 0,crowd_waits (sl:=sl) hi (X w hK) hw,by simp,λx hx=>fy4 (λz=>hx z.symm),λx hx=>f0p q 0 hx,?_,U _ 0 J fe,m,(λs' aA _=>by obtain rfl:=fy7 aA;exact⟨g₂,Y⟩),λShun Hear h _ H=>O es A Shun Hear h H⟩;exact R 0 _ _ _ fi (λx hx=>fy4 (λz=>hx z.symm)) (fy5 hlt) m (λ_=>hd T) (by rw[e];exact .inr ⟨rfl,g,g₂,rfl,Y⟩)
   ·obtain⟨m,hr,hl,hd⟩:=evC_ops (i:=i) (fn:=g.frame.fn) (pos:=g.frame.place) A;refine⟨_,_,upd q i (k'+1),f5t (sl:=sl) hi aa,by simp,M _ _,λx hx=>f0p q _ hx,?_,U _ _ J fe,m,(λs' aA h0=>by rw[f0b] at h0;omega),λShun Hear h _ H=>O es A Shun Hear h H⟩;exact R (k'+1) g' _ _ fi (M _ _) (I _ _) m (λ_=>hd T) (by rw[e];exact .inl ⟨k',w,rfl,an⟩)
def Crew.trace (C:Crew P St Sp S T gs w q) {i:Nat} {ops:Array MemOp} (m: ∀op∈ops,op.g=i) (hd:Deaf (T++ops) i=Deaf T i):Crew P St Sp S (T++ops) gs w q:=by
 have hD: ∀x,Deaf (T++ops) x=Deaf T x:=λx=>by
    by_cases e:x=i
    ·subst e;exact hd
    ·exact f1g T (λz=>e z.symm) ops m
 refine⟨λx y hx hy=>?_,C.chans,C.rows,C.keeps,C.inj,C.low,λx s hs=>by rw[hD];exact C.hear x s hs,λj hj=>by rw[hD];exact C.above j hj⟩;have h:=C.idle x y hx hy;cases es:S x with
 | none=>rw[es] at h;exact⟨h.1,by rw[hD];exact h.2⟩
 | some s=>rw[es] at h;exact h
end
def Leads (P:Program) (Φ:Array Goroutine->World->Trace->Prop) (gs:Array Goroutine) (w:World) (T:Trace):Prop:=
 ∀sl,∃N gs' w' j T',runNT P N (crowd gs w sl) T=(.next (crowd gs' w' j),T')/\Φ gs' w' T'
def fim {P:Program} (N:Nat) {M:Nat} {m m':Machine} {T T':Trace} {r:Stepped×Trace} (h:runNT P N m T=(.next m',T')) (h':runNT P M m' T'=r):runNT P (N+M) m T=r:=by
 rw[runNT_add,h];exact h'
section
variable {P:Program} {Φ Ψ:Array Goroutine->World->Trace->Prop} {gs:Array Goroutine} {w:World} {T:Trace}
def Leads.done (h:Φ gs w T):Leads P Φ gs w T:=λsl=>⟨0,gs,w,sl,T,rfl,h⟩
def Leads.trans (h:Leads P Φ gs w T) (h': ∀gs w T,Φ gs w T->Leads P Ψ gs w T):Leads P Ψ gs w T:=λsl=>by
 obtain⟨N,A,w1,m,T1,e1,h1⟩:=h sl;obtain⟨M,j,w2,q,T2,e2,h2⟩:=h' _ _ _ h1 m;exact⟨N+M,j,w2,q,T2,fim N e1 e2,h2⟩
def Leads.mono (h:Leads P Φ gs w T) (h': ∀gs w T,Φ gs w T->Ψ gs w T):Leads P Ψ gs w T:=h.trans λ_ _ _ x=>.done (h' _ _ _ x)
def Leads.pick (ha: ∀g∈gs,awake g) (j: ∃(i:Nat) (g:Goroutine),gs[i]? =some g/\g.status=.running)
    (h: ∀(i:Nat) (g:Goroutine) (d:Nat) (sl:Option (Nat×Nat)),gs[i]? =some g->g.status=.running-> ∃gs' w' ops,runT P (crowd gs (w.at d) sl) i=(.next (crowd gs' w' sl),ops)/\Leads P Φ gs' w' (T++ops)):Leads P Φ gs w T:=λsl=>by
 obtain⟨i,g,d,m,hi,hg,hs⟩:=crowd_pick (P:=P) (w:=w) (sl:=sl) ha j;obtain⟨gs',w',ops,hr,hl⟩:=h i g d m hi hg;obtain⟨N,q,w2,A,T2,e2,h2⟩:=hl m;refine⟨N+1,q,w2,A,T2,?_,h2⟩;rw[runNT,hs,hr];exact e2
end
structure Hold (P:Program) (St:Nat->Loc->Prop) (Shun:Loc->Prop) (Hear:Nat->Prop) (S:Nat->Option SeatD) (h:Nat) (a:Goroutine) (T:Trace) (gs:Array Goroutine) (w:World) (q:Nat->Nat):Prop where
 crew:Crew P St (· =h) S T gs w q
 here:gs[h]? =some a
 past:PastS St Shun Hear w.heap.size h T
 hears: ∀i,Hear i->i=h\/S i≠none
 none:S h=none
section
variable {P:Program} {Φ:Array Goroutine->World->Trace->Prop} {St:Nat->Loc->Prop} {Shun:Loc->Prop} {Hear:Nat->Prop} {S:Nat->Option SeatD} {h:Nat} {a a':Goroutine} {T:Trace} {gs:Array Goroutine} {w w':World} {q:Nat->Nat}
def Hold.at (C:Hold P St Shun Hear S h a T gs w q) (d:Nat):Hold P St Shun Hear S h a T gs (w.at d) q:=⟨C.crew.at d,C.here,C.past,C.hears,C.none⟩
def yf {g:Goroutine} (h:g.status=.running) (w:World):g.again w=g:=f1i (.inl h) w
def Hold.leads {n:Nat} (hrun:a.status=.running)
    (j: ∀gs T q d sl,gs.size=n->Hold P St Shun Hear S h a T gs (w.at d) q-> ∃gs' w' ops,runT P (crowd gs (w.at d) sl) h=(.next (crowd gs' w' sl),ops)/\Leads P Φ gs' w' (T++ops)):
    ∀(μ:Nat) (gs:Array Goroutine) (T:Trace) (q:Nat->Nat) (d:Nat),sumTo gs.size q=μ->gs.size=n->Hold P St Shun Hear S h a T gs (w.at d) q->Leads P Φ gs (w.at d) T:=by
 intro μ
 induction μ using Nat.strongRecOn with
 | _ μ ih=>
   intro gs T q d hμ hn C
   have hSp: ∀x gx,x=h->gs[x]? =some gx->gx=a:=λx gx hx hgx=>by
     subst hx;rw[C.here] at hgx;exact(fy7 hgx).symm
   refine Leads.pick (C.crew.awake λx gx hx hgx=>.inl kp) ⟨h,a,C.here,hrun⟩ λi g d' sl hi hg=>?_;have C':Hold P St Shun Hear S h a T gs (w.at d') q:=by have:=C.at d';exact this
   by_cases e:i=h
   ·subst e;exact j gs T q d' sl hn C'
   ·obtain⟨gs',ops,q',h1,h2,h3,h4,h5,h6,h7,_,h8⟩:=C'.crew.by_step (sl:=sl) hi e hg (λx gx hx hgx=>by rw[hSp x gx hx hgx];exact yf hrun _)
      (λs g₂ hs _ x gx hx hgx=>f0l kq _ _)
    refine⟨gs',w.at d',ops,h1,ih (sumTo gs'.size q') (by rw[h2];omega) gs' (T++ops) q' d' rfl (h2.trans hn) ⟨h5,?_,?_,C'.hears,C'.none⟩⟩
    ·rw[h3 h (λe'=>e e'.symm)];exact C'.here
    ·exact h8 Shun Hear h (λhh=>(C'.hears i hh).elim (λx=>absurd x e) id) C'.past
def Hold.lead (hrun:a.status=.running)
    (m: ∀j T q d sl,j.size=gs.size->Hold P St Shun Hear S h a T j (w.at d) q-> ∃gs' w' ops,runT P (crowd j (w.at d) sl) h=(.next (crowd gs' w' sl),ops)/\Leads P Φ gs' w' (T++ops))
    (C:Hold P St Shun Hear S h a T gs w q):Leads P Φ gs w T:=by
 have:=Hold.leads hrun m _ gs T q w.drawn rfl rfl (C.at _);exact this
def EvW (St:Nat->Loc->Prop) (Shun:Loc->Prop) (n:Nat) (e:Event):Prop:=
 (∀b,(MemAct.ofEvent e).touch? =some b->(∀g,St g b.loc->b.write=false)/\ ¬Shun b.loc)/\(MemAct.ofEvent e).low n
def Hold.own_go (C:Hold P St Shun Hear S h a T gs w q) {es:Array Event} {sl:Option (Nat×Nat)} (J:stepG P (h==0) a w=.go a' w' es) (h1:w.heap.size<=w'.heap.size)
    (h2: ∀i s,S i=some s->w'.heap[s.c]? =w.heap[s.c]? /\Keeps s.D w') (h3: ∀e∈es,EvW St Shun w'.heap.size e) (h4:Hear h->deafBehind 0 es=0):
    ∃gs' ops,runT P (crowd gs w sl) h=(.next (crowd gs' w' sl),ops)/\gs'.size=gs.size/\Hold P St Shun Hear S h a' (T++ops) gs' w' q/\Deaf (T++ops) h=deafBehind (Deaf T h) es:=by
 have hlt:h<gs.size:=(fx5.1 C.here).1;have m: ∀op∈MemOp.ofEvents h a.frame.fn a.frame.place es,op.g=h:=λop A=>by obtain⟨e,_,rfl⟩:=fz7 A;rfl
 have C':Crew P St (· =h) S T gs w' q:=⟨C.crew.idle,λi s e=>by obtain⟨k,hk⟩:=C.crew.chans i s e;exact⟨k,by rw[(h2 i s e).1];exact hk⟩,C.crew.rows,λi s e=>(h2 i s e).2,C.crew.inj,
    λi s e=>⟨f08 (C.crew.low i s e).1 h1,f0f (C.crew.low i s e).2 h1⟩,C.crew.hear,C.crew.above⟩
 refine⟨_,_,f5t (sl:=sl) C.here J,by simp,⟨⟨λx y hx hy=>?_,C'.chans,C'.rows,C'.keeps,C'.inj,C'.low,λi s e=>?_,λj hj=>?_⟩,fy5 qj,?_,C.hears,C.none⟩,f5l _ _ _ _ _⟩
 ·rw[fy4 (λe=>hx e.symm),f2c] at hy;obtain⟨y₀,B,rfl⟩:=fy8.1 hy;rw[f5m (C'.fixed hx B)];have hi:=C.crew.idle x y₀ hx B;cases es':S x with
  | none=>rw[es'] at hi;exact⟨hi.1,by rw[f1g T (λz=>hx z.symm) _ m];exact hi.2⟩
  | some s=>rw[es'] at hi;exact hi
 ·have I:i≠h:=λe'=>by subst e';rw[C.none] at e;cases e
  rw[f1g T (λz=>I z.symm) _ m];exact C.crew.hear i s e
 ·simp only[f00,Array.size_map] at hj;rw[f1g T (g':=h) fe _ m];exact C.crew.above j hj
 ·refine PastS.appH (C.past.mono h1) m (λop A b hb=>?_) (λhh=>?_) (λop A=>?_)
  ·obtain⟨e,he,rfl⟩:=fz7 A;exact(h3 e he).1 b hb
  ·rw[f5l,C.past.hears h hh];exact h4 hh
  ·obtain⟨e,he,rfl⟩:=fz7 A;exact(h3 e he).2
def Hold.goes {D:World->World->Array Event->Prop} {Stop:Goroutine->World->Prop}
    (hD: ∀w w' es,(∀i s,S i=some s->Keeps s.D w)->D w w' es->w.heap.size<=w'.heap.size/\(∀i s,S i=some s->w'.heap[s.c]? =w.heap[s.c]? /\Keeps s.D w')/\(∀e∈es,EvW St Shun w'.heap.size e)/\(Hear h->deafBehind 0 es=0)):
    ∀{n:Nat} {a:Goroutine} {gs:Array Goroutine} {w:World} {T:Trace} {q:Nat->Nat},Hold P St Shun Hear S h a T gs w q->Goes P (h==0) AtRel D Stop n a w->
    Leads P (λgs' w' T'=> ∃a' q',Stop a' w'/\gs'.size=gs.size/\Hold P St Shun Hear S h a' T' gs' w' q') gs w T:=by
 intro n
 induction n with
 | zero=>exact λ{a gs w T q} C hG=>.done ⟨_,q,hG w (atRel_refl w),rfl,C⟩
 | succ n ih =>
   intro a gs w T q C hG;rcases hG with m|⟨hrun,A⟩
   ·exact .done ⟨_,q,m w (atRel_refl w),rfl,C⟩
   ·have key: ∀(μ:Nat) (j:Array Goroutine) (T:Trace) (q:Nat->Nat) (d:Nat),sumTo j.size q=μ->j.size=gs.size->Hold P St Shun Hear S h a T j (w.at d) q->
     Leads P (λgs' w' T'=> ∃a' q',Stop a' w'/\gs'.size=gs.size/\Hold P St Shun Hear S h a' T' gs' w' q') j (w.at d) T:=by
     intro μ
     induction μ using Nat.strongRecOn with
     | _ μ B=>
       intro j T q d hμ hsz C
       have hSp: ∀x gx,x=h->j[x]? =some gx->gx=a:=λx gx hx hgx=>by
         subst hx;rw[C.here] at hgx;exact(fy7 hgx).symm
       refine Leads.pick (C.crew.awake λx gx hx hgx=>.inl kp) ⟨h,a,C.here,hrun⟩ λi g d' sl hi hg=>?_;have C':Hold P St Shun Hear S h a T j (w.at d') q:=by have:=C.at d';exact this
       by_cases e:i=h
       ·subst e;have hs:=A (w.at d') ⟨d',rfl⟩;cases hgo:stepG P (i==0) a (w.at d') with
        | go a' w' es=>
          rw[hgo,goes_go] at hs;obtain⟨I,J⟩:=hs;obtain⟨k1,k2,k3,k4⟩:=hD _ _ _ C'.crew.keeps I;obtain⟨gs',ops,r1,r2,r3,_⟩:=C'.own_go (sl:=sl) hgo k1 k2 k3 k4;have:=ih r3 J;exact⟨gs',w',ops,r1,this.mono λM w2 T2 ⟨a2,q2,b1,b2,b3⟩=>⟨a2,q2,b1,by rw[b2,r2,hsz],b3⟩⟩
        | _=>rw[hgo] at hs;exact hs.elim
       ·obtain⟨gs',ops,q',h1,h2,h3,h4,h5,h6,h7,_,h8⟩:=C'.crew.by_step (sl:=sl) hi e hg (λx gx hx hgx=>by rw[hSp x gx hx hgx];exact yf hrun _)
          (λs g₂ hs _ x gx hx hgx=>f0l kq _ _)
        refine⟨gs',w.at d',ops,h1,B (sumTo gs'.size q') (by rw[h2];omega) gs' (T++ops) q' d' rfl (by rw[h2,hsz]) ⟨h5,?_,?_,C'.hears,C'.none⟩⟩
        ·rw[h3 h (λe'=>e e'.symm)];exact C'.here
        ·exact h8 Shun Hear h (λhh=>(C'.hears i hh).elim (λx=>absurd x e) id) C'.past
    have:=key _ gs T q w.drawn rfl rfl (C.at _);exact this
end
def az (S:Nat->Option SeatD) (h j:Nat) (s':SeatD):Nat->Option SeatD:=λi=>if i=h then some s' else if i=j then none else S i
section
variable {P:Program} {Φ:Array Goroutine->World->Trace->Prop} {St:Nat->Loc->Prop} {Shun:Loc->Prop} {Hear:Nat->Prop} {S:Nat->Option SeatD} {h j:Nat} {a a₂:Goroutine} {T:Trace} {gs:Array Goroutine} {w:World} {q:Nat->Nat} {s s':SeatD} {v z':Value}
def fkv {w:World} {c b k:Nat} {o:Obj} (hc:w.heap[c]? =some (.chan 0 #[] false k k false)) (hb:w.heap[b]? =some o) (ho: ∃x e f,o=.cells x e f):b≠c:=by
 rintro rfl;rw[hc] at hb;obtain⟨x,e,f,rfl⟩:=ho;cases hb
def f6m {w:World} {c b:Nat} (h:b≠c) (cap:Nat) (buf:Array Value) (cl:Bool) (x y:Nat) (tm:Bool):(w.setChan c cap buf cl x y tm).heap[b]? =w.heap[b]? :=by
 simp[World.setChan,fy4 (λe=>h e.symm)]
structure o8 (P:Program) (St:Nat->Loc->Prop) (S:Nat->Option SeatD) (h:Nat) (w:World) (s':SeatD):Prop where
 chan: ∃k,w.heap[s'.c]? =some (.chan 0 #[] false k k false)
 rows: ∀b o,s'.D b=some o-> ∃c e f,o=.cells c e f
 keeps:Keeps s'.D w
 free: ∀i s,S i=some s->s.c≠s'.c
 low:s'.B<=w.heap.size/\s'.c<w.heap.size
def fmc {gs':Array Goroutine} {g₂:Goroutine} {k nh:Nat} (C:Crew P St (· =h) S T gs w q) (hp:PastS St Shun Hear w.heap.size h T) (hh: ∀i,Hear i->i=h\/S i≠none) (ab:S h=none) (hj:S j=some s) (W:j≠h) (M:Deaf T h=0) (N:o8 P St S h w s')
    (hk:w.heap[s.c]? =some (.chan 0 #[] false k k false)) (A:Sits P (h==0) (Keeps s'.D) (St h) s'.B s'.seat nh (Go.Conc.served a₂ undef)) (hsz:gs'.size=gs.size) (aa:gs'[h]? =some (Go.Conc.served a₂ undef)) (Y:gs'[j]? =some (Go.Conc.served g₂ (recvd s.ok v true)))
    (U: ∀x,x≠h->x≠j->gs'[x]? =gs[x]?) (fh:FuncId) (ph:String) (fj:FuncId) (pj:String):
    ∃q',Hold P St Shun Hear (az S h j s') j (Go.Conc.served g₂ (recvd s.ok v true)) (T++Go.Conc.met h j fh ph fj pj s.c k 0) gs' (w.setChan s.c 0 #[] false (k+1) (k+1) false) q'/\Deaf (T++Go.Conc.met h j fh ph fj pj s.c k 0) j=0:=by
 have hq:=met_quiet h j fh ph fj pj s.c k 0;have hD: ∀g,Deaf (T++Go.Conc.met h j fh ph fj pj s.c k 0) g=Deaf T g:=λg=>Deaf_quiet (hq g)
 have m: ∀i s1,az S h j s' i=some s1->(i=h/\s1=s')\/(i≠h/\i≠j/\S i=some s1):=by
    intro i s1 e;unfold az at e;split at e
    ·rename_i e1;cases e;exact .inl ⟨e1,rfl⟩
    ·split at e
     ·cases e
     ·exact .inr ⟨by assumption,by assumption,e⟩
 have O: ∀i s1,az S h j s' i=some s1->s1.c≠s.c:=by
    intro i s1 e;rcases m i s1 e with⟨_,rfl⟩|⟨h1,h2,h3⟩
    ·exact λe=>N.free j s hj e.symm
    ·exact λe=>h2 (C.inj i j s1 s h3 hj e)
 refine⟨upd q h nh,⟨⟨λx y hx hy=>?_,λi s1 e=>?_,λi s1 b o e hb=>?_,λi s1 e b o hb=>?_,λi i' s1 s2 e1 e2 he=>?_,λi s1 e=>?_,λi s1 e=>?_,λi hi=>?_⟩,Y,?_,λi hi=>?_,?_⟩,?_⟩
 ·by_cases e:x=h
  ·subst e;rw[aa] at hy;obtain rfl:=fy7 hy;rw[f0b,show az S x j s' x=some s' by simp[az]];exact A
  ·rw[U x e hx] at hy;rw[f0p q nh e,show az S h j s' x=S x by simp[az,e,hx]];have:=C.idle x y e hy;cases es:S x with
   | none=>rw[es] at this;exact⟨this.1,by rw[hD];exact this.2⟩
   | some s1=>rw[es] at this;exact this
 ·have J:=O i s1 e;rcases m i s1 e with⟨_,rfl⟩|⟨_,_,h3⟩
  ·obtain⟨k',I⟩:=N.chan;exact⟨k',by rw[f6m J];exact I⟩
  ·obtain⟨k',I⟩:=C.chans i s1 h3;exact⟨k',by rw[f6m J];exact I⟩
 ·rcases m i s1 e with⟨_,rfl⟩|⟨_,_,h3⟩
  ·exact N.rows b o hb
  ·exact C.rows i s1 b o h3 hb
 ·rcases m i s1 e with⟨_,rfl⟩|⟨_,_,h3⟩
  ·rw[f6m (fkv hk (N.keeps b o hb) (N.rows b o hb))];exact N.keeps b o hb
  ·rw[f6m (fkv hk (C.keeps i s1 h3 b o hb) (C.rows i s1 b o h3 hb))];exact C.keeps i s1 h3 b o hb
 ·rcases m i s1 e1 with⟨h1,rfl⟩|⟨_,_,h3⟩ <;>rcases m i' s2 e2 with⟨X,rfl⟩|⟨_,_,R⟩
  ·rw[h1,X]
  ·exact absurd he.symm (N.free i' s2 R)
  ·exact absurd he (N.free i s1 h3)
  ·exact C.inj i i' s1 s2 h3 R he
 ·rcases m i s1 e with⟨_,rfl⟩|⟨_,_,h3⟩
  ·simpa[World.setChan] using N.low
  ·simpa[World.setChan] using C.low i s1 h3
 ·rw[hD];rcases m i s1 e with⟨rfl,_⟩|⟨_,_,h3⟩
  ·exact M
  ·exact C.hear i s1 h3
 ·rw[hD];exact C.above i fe
 ·have:=hp.give M (C.hear j s hj) fh ph fj pj k 0 (C.low j s hj).2;simpa[World.setChan] using this
 ·by_cases e:i=j
  ·exact .inl e
  ·refine .inr ?_;unfold az;by_cases e':i=h
   ·simp[e']
   ·simp only[e',e,f0s];exact(hh i hi).resolve_left e'
 ·simp[az,W]
 ·rw[hD];exact C.hear j s hj
def th {gs:Array Goroutine} {i x:Nat} {y:Goroutine} (h:(gs.setIfInBounds i ph)[x]? =some y):y=ph\/(x≠i/\gs[x]? =some y):=by
 rcases getElem?_stand gs i x y h with⟨_,rfl⟩|h
 ·exact .inl rfl
 ·exact .inr h
def Gave (P:Program) (St:Nat->Loc->Prop) (Shun:Loc->Prop) (Hear:Nat->Prop) (S:Nat->Option SeatD) (h j:Nat) (s s':SeatD) (v:Value) (w:World) (n:Nat) (gs':Array Goroutine) (w':World) (T':Trace):Prop:=
 ∃g₂ q' k d,s.home g₂/\w.heap[s.c]? =some (.chan 0 #[] false k k false)/\w'=((w.at d).setChan s.c 0 #[] false (k+1) (k+1) false)/\gs'.size=n/\Deaf T' j=0/\
  Hold P St Shun Hear (az S h j s') j (Go.Conc.served g₂ (recvd s.ok v true)) T' gs' w' q'
def fmd {gs:Array Goroutine} {i j:Nat} (A:j≠i) (hi:i<gs.size) (hj:j<gs.size) (x y:Goroutine):
    ((gs.setIfInBounds j x).setIfInBounds i y)[i]? =some y/\((gs.setIfInBounds j x).setIfInBounds i y)[j]? =some x/\ ∀z,z≠i->z≠j->((gs.setIfInBounds j x).setIfInBounds i y)[z]? =gs[z]? :=by
 refine⟨fy5 (by simpa using hi),?_,λz m q=>?_⟩
 ·rw[fy4 (λe=>A e.symm)];exact fy5 hj
 ·rw[fy4 (λe=>m e.symm),fy4 (λe=>q e.symm)]
def fdu (g:Goroutine) (c:Nat) (z:Value) (ok:Bool) (v:Value):g.finishComm P #[rcase c z] (.recv ok) 0 v true=Go.Conc.served g (recvd ok v true):=by
 cases ok <;>rfl
def fqa {nh:Nat} (hj:S j=some s) (A:j≠h) (aC:j<gs.size) (ak:S h=Option.none) (N:o8 P St S h w s') (hh: ∀i,Hear i->i=h\/S i≠Option.none)
    (R:Sits P (h==0) (Keeps s'.D) (St h) s'.B s'.seat nh (Go.Conc.served a₂ undef)):
    ∀ (μ:Nat) (m:Array Goroutine) (T1:Trace) (q1:Nat->Nat) (d:Nat),sumTo m.size q1=μ->m.size=gs.size->Deaf T1 h=0->m[h]? =some (parked a₂ #[scase s.c v z'] .send)->q1 j≠0->
      Crew P St (· =h) S T1 m (w.at d) q1->PastS St Shun Hear w.heap.size h T1->Leads P (Gave P St Shun Hear S h j s s' v w gs.size) m (w.at d) T1:=by
 intro μ
 induction μ using Nat.strongRecOn with
 | _ μ ih=>
   intro m T1 q1 d0 hμ hsz Y M aa C hp
   have hSp: ∀x gx,x=h->m[x]? =some gx->gx=parked a₂ #[scase s.c v z'] .send:=λx gx hx hgx=>by
     subst hx;rw[M] at hgx;exact(fy7 hgx).symm
   obtain⟨k,hk⟩:=C.chans j s hj;have hk:w.heap[s.c]? =some (.chan 0 #[] false k k false):=hk;obtain⟨gj,ae⟩: ∃gj,m[j]? =some gj:=⟨_,fz1 fe⟩
   have aB: ∃kj w0,q1 j=kj+1/\Goes P (j==0) (RK (Keeps s.D)) (DS (St j) s.B) (λg _=> ∃g₂,AtIn P (j==0) (Keeps s.D) (St j) s.B s.seat g g₂) kj gj w0:=by
     have:=C.idle j gj A ae;rw[hj] at this;rcases this with x|⟨x,_⟩
     ·exact x
     ·exact absurd x aa
   have an:gj.status=.running:=by
     obtain⟨kj,w0,h1,h2⟩:=aB;exact(f3b (C.keeps j s hj) (.inl ⟨kj,w0,h1,h2⟩)).elim (·.1) (λz=>by omega)
   refine Leads.pick (C.awake λx gx hx hgx=>.inr (by rw[hSp x gx hx hgx];rfl)) ⟨j,gj,ae,an⟩ λi g d' sl hi hg=>?_;have C':Crew P St (· =h) S T1 m (w.at d') q1:=C.at d'
   have e:i≠h:=λe=>by
     rw[hSp i g e hi] at hg;cases hg
   have U: ∀x gx,x=h->m[x]? =some gx->gx.again (w.at d')=gx:=λx gx hx hgx=>by
     rw[hSp x gx hx hgx];exact again_send_open (cap:=0) (buf:=#[]) (s:=k) (r:=k) (tm:=false) hk
   by_cases J:i=j/\ ∃g₂,AtIn P (j==0) (Keeps s.D) (St j) s.B s.seat g g₂
   ·
     obtain⟨rfl,g2,J⟩:=J;obtain⟨_,_,_,_,W,es,ab,ac⟩:=id J;obtain⟨q,hr,hl,hd⟩:=evC_ops (i:=i) (fn:=g.frame.fn) (pos:=g.frame.place) (λe he=>fgu (ab e he) (C'.low i s hj).1)
     have X:partners (m.setIfInBounds i ph) s.c true=[(h,0)]:=by
       rw[partners_one (j:=h) (g:=parked a₂ #[scase s.c v z'] .send) (by rw[fy4 (λe'=>A e')];exact M) λx y ah hy=>?_]
       ·rw[offersAt_parked_send,f02 rfl];rfl
       ·rcases th hy with rfl|⟨hx,ap⟩
        ·exact offersAt_ph _ _
        ·exact C'.noSend ah ap _
     have hrun:=crowd_recv_meets (sl:=sl) hi (ac (w.at d') (C'.keeps i s hj)) (cap:=0) (closed:=false) (s:=k) (r:=k) (tm:=false) (c:=s.c) (z:=s.z) hk (λe'=>A e'.symm) (gj:=a₂) (v:=v) (zj:=z') (shj:=.send) M X;refine⟨_,_,_,hrun,.done ?_⟩;have N':o8 P St S h (w.at d') s':=⟨N.chan,N.rows,N.keeps,N.free,N.low⟩;have I:=fmd (gs:=m) (i:=i) (j:=h) (λe'=>A e'.symm) fe ((fx5.1 M).1) (a₂.finishComm P #[scase s.c v z'] .send 0 undef false) (g2.finishComm P s.seat.cases s.seat.shape 0 v true)
     obtain⟨q',H1,H2⟩:=fmc (v:=v) (g₂:=g2) (nh:=nh) (C'.trace q (hd T1)) (hp.appRead q hr (f7f ab) (λ_=>by rw[hd T1];exact C'.hear i s hj) hl) hh ak hj A (by rw[f1g T1 e _ q];exact Y) N' hk R
       (gs':=(m.setIfInBounds h (a₂.finishComm P #[scase s.c v z'] .send 0 undef false)).setIfInBounds i (g2.finishComm P s.seat.cases s.seat.shape 0 v true)) fi I.2.1 (by rw[I.1];exact f3q some (fdu g2 s.c s.z s.ok v)) (λx h1 h2=>I.2.2 x h2 h1) a₂.frame.fn a₂.frame.place g2.frame.fn g2.frame.place
     rw[f3m] at H1 H2;exact⟨g2,q',k,d',W,hk,rfl,by simpa using hsz,H2,H1⟩
   ·obtain⟨gs',ops,q',h1,h2,h3,h4,h5,h6,h7,h8,h9⟩:=C'.by_step (sl:=sl) hi e hg U
      (λs1 g₂ hs ad x gx hx hgx=>by
        rw[hSp x gx hx hgx,offersAt_parked_send,fx9];intro he;have O:i=j:=C'.inj i j s1 s hs hj he.symm;subst O;rw[hj] at hs;obtain rfl:=fy7 hs;exact J ⟨rfl,g₂,ad⟩)
    refine⟨gs',w.at d',ops,h1,ih (sumTo gs'.size q') (by rw[h2];omega) gs' (T1++ops) q' d' rfl (h2.trans hsz) (by rw[f1g T1 e ops h7];exact Y) ?_ ?_ h5 ?_⟩
    ·rw[h3 h (λe'=>e e'.symm)];exact M
    ·by_cases O:i=j
     ·subst O;intro h0;exact J ⟨rfl,h8 s hj h0⟩
     ·rw[h4 j (λe'=>O e'.symm)];exact aa
    ·exact h9 Shun Hear h (λaA=>(hh i aA).elim (λx=>absurd x e) id) hp
def fio {nh : Nat} (C:Hold P St Shun Hear S h a T gs w q) (hrun:a.status=.running) (hj:S j=some s) (ad:j<gs.size) (ac: ∀d,stepG P (h==0) a (w.at d)=.comm a₂ #[scase s.c v z'] true .send (w.at d) #[])
    (O:Deaf T h=0) (N:o8 P St S h w s') (I:Sits P (h==0) (Keeps s'.D) (St h) s'.B s'.seat nh (Go.Conc.served a₂ undef)):
    Leads P (Gave P St Shun Hear S h j s s' v w gs.size) gs w T:=by
 have J:j≠h:=λe=>by subst e;rw[C.none] at hj;cases hj
 have aC:=C.crew.low j s hj
 suffices key: ∀(μ:Nat) (m:Array Goroutine) (T1:Trace) (q1:Nat->Nat) (d:Nat),sumTo m.size q1=μ->m.size=gs.size->Deaf T1 h=0->Hold P St Shun Hear S h a T1 m (w.at d) q1->
  Leads P (Gave P St Shun Hear S h j s s' v w gs.size) m (w.at d) T1 by
    exact key _ gs T q w.drawn rfl rfl O (C.at _)
 intro μ
 induction μ using Nat.strongRecOn with
 | _ μ ih=>
   intro m T1 q1 d0 hμ hsz O C
   have hSp: ∀x gx,x=h->m[x]? =some gx->gx=a:=λx gx hx hgx=>by
     subst hx;rw[C.here] at hgx;exact(fy7 hgx).symm
   refine Leads.pick (C.crew.awake λx gx hx hgx=>.inl kp) ⟨h,a,C.here,hrun⟩ λi g d' sl hi hg=>?_;have C':Hold P St Shun Hear S h a T1 m (w.at d') q1:=by have:=C.at d';exact this
   by_cases e:i=h;rotate_left
   ·obtain⟨gs',ops,q',h1,h2,h3,h4,h5,h6,h7,_,h8⟩:=C'.crew.by_step (sl:=sl) hi e hg (λx gx hx hgx=>by rw[hSp x gx hx hgx];exact yf hrun _)
      (λs g₂ hs _ x gx hx hgx=>f0l kq _ _)
    refine⟨gs',w.at d',ops,h1,ih (sumTo gs'.size q') (by rw[h2];omega) gs' (T1++ops) q' d' rfl (h2.trans hsz) (by rw[f1g T1 e ops h7];exact O) ⟨h5,?_,?_,C'.hears,C'.none⟩⟩
    ·rw[h3 h (λe'=>e e'.symm)];exact C'.here
    ·exact h8 Shun Hear h (λhh=>(C'.hears i hh).elim (λx=>absurd x e) id) C'.past
   ·subst e;obtain rfl:g=a:=hSp i g rfl hi;obtain⟨k,hk⟩:=C'.crew.chans j s hj;have hk:w.heap[s.c]? =some (.chan 0 #[] false k k false):=hk;obtain⟨gj,W⟩: ∃gj,m[j]? =some gj:=⟨_,fz1 fe⟩;have X:=C'.crew.idle j gj J W;rw[hj] at X;have A: ∀x y,x≠j->x≠i->m[x]? =some y->offersAt y s.c false=[]:=λx y M aA hy=>C'.crew.noRecv aA hy s.c λs1 aB he=>M (C'.crew.inj x j s1 s aB hj he);have N':o8 P St S i (w.at d') s':=⟨N.chan,N.rows,N.keeps,N.free,N.low⟩;rcases X with⟨kj,w0,ah,ap⟩|⟨ah,g0,g2,rfl,an⟩
    ·
      have ae: ∀cc∈ #[scase s.c v z'],NoWays (w.at d') (m.setIfInBounds i ph) cc:=by
       intro cc ak;obtain rfl:cc=scase s.c v z':=by simpa using ak
       refine ways_send_none (cap:=0) (buf:=#[]) hk fi (partners_nil λx y hy=>?_);rcases th hy with rfl|⟨hx,U⟩
       ·exact offersAt_ph _ _
       ·by_cases M:x=j
        ·subst M;rw[W] at U;obtain rfl:=fy7 U;have:=(f3b (C'.crew.keeps x s hj) (.inl ⟨kj,w0,ah,ap⟩)).elim (·.1) (λz=>by omega);exact f0l (λhb=>by rw[this] at hb;cases hb) _ _
        ·exact A x y M hx U
      have ab:i<m.size:=(fx5.1 hi).1;have Y:(m.setIfInBounds i (parked a₂ #[scase s.c v z'] .send))[i]? =some (parked a₂ #[scase s.c v z'] .send):=fy5 ab;refine⟨_,_,_,crowd_waits (sl:=sl) hi (ac d') ae,?_⟩;rw[show MemOp.ofEvents i g.frame.fn g.frame.place #[]=#[] from rfl,f1t];refine fqa (gs:=gs) hj J ad C'.none N C'.hears I _ _ T1 q1 d' rfl (by simpa using hsz) O Y fe ⟨λx y hx hy=>?_,C'.crew.chans,C'.crew.rows,C'.crew.keeps,C'.crew.inj,C'.crew.low,C'.crew.hear,λx hx=>C'.crew.above x (by simpa using hx)⟩ C'.past;rw[fy4 (λe'=>hx e'.symm)] at hy;exact C'.crew.idle x y hx hy
    ·
      have aa:partners (m.setIfInBounds i ph) s.c false=[(j,0)]:=by
       rw[partners_one (j:=j) (g:=parked g2 s.seat.cases s.seat.shape) (by rw[fy4 (λe=>J e.symm)];exact W) λx y M hy=>?_]
       ·rw[show parked g2 s.seat.cases s.seat.shape=parked g2 #[rcase s.c s.z] (.recv s.ok) from rfl,offersAt_parked_recv,f02 rfl];rfl
       ·rcases th hy with rfl|⟨hx,U⟩
        ·exact offersAt_ph _ _
        ·exact A x y M hx U
      have hr:=crowd_send_meets (sl:=sl) hi (ac d') (cap:=0) (buf:=#[]) (s:=k) (r:=k) (tm:=false) hk J (gj:=g2) (zj:=s.z) (shj:=.recv s.ok) W aa;refine⟨_,_,_,hr,.done ?_⟩;have R:=fmd (gs:=m) (i:=i) (j:=j) J ((fx5.1 hi).1) fe (g2.finishComm P #[rcase s.c s.z] (.recv s.ok) 0 v true) (a₂.finishComm P #[scase s.c v z'] .send 0 undef false);obtain⟨q',H1,H2⟩:=fmc (v:=v) (g₂:=g2) (nh:=nh) C'.crew C'.past C'.hears C'.none hj J O N' hk I
       (gs':=(m.setIfInBounds j (g2.finishComm P #[rcase s.c s.z] (.recv s.ok) 0 v true)).setIfInBounds i (a₂.finishComm P #[scase s.c v z'] .send 0 undef false)) fi R.1 (by rw[R.2.1,fdu]) (λx h1 h2=>R.2.2 x h1 h2) a₂.frame.fn a₂.frame.place g2.frame.fn g2.frame.place
      rw[show MemOp.ofEvents i g.frame.fn g.frame.place #[]=#[] from rfl,Array.empty_append];exact⟨g2,q',k,d',an.2.2.2.2.1,hk,rfl,by simpa using hsz,H2,H1⟩
end
abbrev u5:Nat->Prop:=λ_=>False
structure Prot (H:Hide) (S:Nat->Option SeatD) (St:Nat->Loc->Prop) (Shun:Loc->Prop):Prop where
 seats: ∀i s,S i=some s->H s.c≠none/\ ∀b o,s.D b=some o->H b≠none
 still: ∀g l,St g l-> ∃a,l=.cell a/\H a.block≠none
 shun: ∀l,Shun l-> ∃a,l=.cell a/\H a.block≠none
section
variable {P:Program} {F:Array Func} {Φ:Array Goroutine->World->Trace->Prop} {St:Nat->Loc->Prop} {Shun:Loc->Prop} {S:Nat->Option SeatD} {h:Nat} {a a':Goroutine} {T:Trace} {gs:Array Goroutine} {v w v' w':World} {q:Nat->Nat} {H:Hide}
def fvy (I:Prot H S St Shun) {e:Event} {n:Nat} (h:EvOK H n e):EvW St Shun n e:=by
 have hn: ∀(a:Addr),H a.block=none->(∀g,¬St g (.cell a))/\ ¬Shun (.cell a):=λa ha=>by
    refine⟨λg hs=>?_,λhs=>?_⟩
    ·obtain⟨b,hb,j⟩:=I.still g _ hs;cases hb;exact j ha
    ·obtain⟨b,hb,j⟩:=I.shun _ hs;cases hb;exact j ha
 have ho: ∀(r:Nat),(∀g,¬St g (.obj r))/\ ¬Shun (.obj r):=λr=>by
    refine⟨λg hs=>?_,λhs=>?_⟩
    ·obtain⟨b,hb,_⟩:=I.still g _ hs;cases hb
    ·obtain⟨b,hb,_⟩:=I.shun _ hs;cases hb
 obtain⟨l,wr,sy⟩:=e;cases l with
 | cell a=>
   obtain⟨h1,h2⟩:=h;refine⟨λb hb=>?_,h2⟩;simp only[MemAct.ofEvent,MemAct.touch?,f03] at hb;subst hb;exact⟨λg hs=>absurd hs ((hn a h1).1 g),(hn a h1).2⟩
 | obj r=>
   obtain⟨h1,_⟩:=h;refine⟨λb hb=>?_,?_⟩
   ·cases wr <;>cases sy <;>simp only[MemAct.ofEvent,MemAct.touch?,f03,reduceCtorEq] at hb;all_goals subst hb;exact⟨λg hs=>absurd hs ((ho r).1 g),(ho r).2⟩
   ·cases wr <;>cases sy <;>exact h1
 | mark m=>
   cases m <;>first|exact h.elim|exact⟨λb hb=>by simp[MemAct.ofEvent,MemAct.touch?] at hb,trivial⟩
 | _=>exact h.elim
def fip {es:Array Event} {n:Nat} (h: ∀e∈es,EvOK H n e) (d:Nat):deafBehind d es=d:=by
 have: ∀(l:List Event) (d:Nat),(∀e∈l,EvOK H n e)->l.foldl (λd e=>match e.loc with | .mark .disable=>d+1 | .mark .enable=>d-1|_=>d) d=d:=by
    intro l
    induction l with
    | nil=>intros;rfl
    | cons e l ih=>
      intro d hl;have he:=hl e fi;simp only[List.foldl_cons]
      have:(match e.loc with | .mark .disable=>d+1 | .mark .enable=>d-1|_=>d)=d:=by
        obtain⟨l,wr,sy⟩:=e;cases l with
        | mark m=>cases m <;>first|rfl|exact he.elim
        | _=>rfl
      rw[this];exact ih d λe he=>hl e (by simp[he])
 unfold deafBehind;rw[<- Array.foldl_toList];exact this es.toList d λe he=>h e (by simpa using he)
def fap (r1:Rel H v w) (r2:Rel H v' w') {b:Nat} (hb:H b≠none):w'.heap[b]? =w.heap[b]? :=by
 cases e:H b with
 | none=>exact absurd e hb
 | some o=>rw[r1.kept b o e,r2.kept b o e]
def Hold.ord {fr c:Frame} {cs:List Frame} {r:LRes} {es:Array Event} {sl:Option (Nat×Nat)} (C:Hold P St Shun u5 S h (G fr (c::cs)) T gs w q) (I:Prot H S St Shun) (rel:Rel H v w) (j:Rel H v' w') (hsz:v.heap.size<=v'.heap.size)
    (A:ff9 P fr w r w' es) (hn: ∀a b c d,r≠ .comm a b c d) (m: ∀e∈es,EvOK H w'.heap.size e):
    ∃gs' ops,runT P (crowd gs w sl) h=(.next (crowd gs' w' sl),ops)/\gs'.size=gs.size/\Hold P St Shun u5 S h (G (r.fr P c) (r.cs c cs)) (T++ops) gs' w' q/\Deaf (T++ops) h=Deaf T h:=by
 have B:stepG P (h==0) (G fr (c::cs)) w=.go (G (r.fr P c) (r.cs c cs)) w' es:=by
    rw[A];cases r with
    | comm a b d e=>exact absurd rfl (hn a b d e)
    | _=>rfl
 obtain⟨gs',ops,h1,h2,h3,h4⟩:=C.own_go (sl:=sl) B (by rw[<- rel.size,<- j.size];exact hsz)
    (λi s hs=>⟨fap rel j (I.seats i s hs).1,λb o hb=>by rw[fap rel j ((I.seats i s hs).2 b o hb)];exact C.crew.keeps i s hs b o hb⟩)
    (λe he=>fvy I (m e he)) (λhh=>hh.elim)
 exact⟨gs',ops,h1,h2,h3,by rw[h4,fip m]⟩
end
def EvP (H:Hide) (Shun:Loc->Prop) (n:Nat) (e:Event):Prop:=(∀t,(MemAct.ofEvent e).touch? =some t-> ∀a,t.loc=.cell a->H a.block=none\/(t.write=false/\ ¬Shun (.cell a)))/\(MemAct.ofEvent e).low n
structure fiq (H:Hide) (Shun:Loc->Prop) (w w1:World) (es:Array Event):Prop where
 size:w.heap.size<=w1.heap.size
 kept: ∀b,H b≠none->w1.heap[b]? =w.heap[b]?
 evs: ∀e∈es,EvP H Shun w1.heap.size e
def o9 {H:Hide} {Shun:Loc->Prop} {n:Nat} {e:Event} (h:EvOK H n e):EvP H Shun n e:=by
 obtain⟨l,wr,sy⟩:=e;cases l with
 | cell a=>
   obtain⟨h1,h2⟩:=h;refine⟨λt ht b hb=>?_,h2⟩;simp only[MemAct.ofEvent,MemAct.touch?,f03] at ht;subst ht;cases hb;exact .inl h1
 | obj r=>
   obtain⟨h1,_⟩:=h;refine⟨λt ht b hb=>?_,?_⟩
   ·cases wr <;>cases sy <;>simp only[MemAct.ofEvent,MemAct.touch?,f03,reduceCtorEq] at ht;all_goals subst ht;cases hb
   ·cases wr <;>cases sy <;>exact h1
 | mark m=>
   cases m <;>first|exact h.elim|exact⟨λb hb=>by simp[MemAct.ofEvent,MemAct.touch?] at hb,trivial⟩
 | _=>exact h.elim
def fo3 {H:Hide} {S:Nat->Option SeatD} {St:Nat->Loc->Prop} {Shun:Loc->Prop} (I:Prot H S St Shun) {n:Nat} {e:Event} (h:EvP H Shun n e):EvW St Shun n e:=by
 refine⟨λb hb=>⟨λg hs=>?_,λhs=>?_⟩,h.2⟩
 ·obtain⟨a,ha,hH⟩:=I.still g _ hs;rcases h.1 b hb a ha with h1|h1
  ·exact absurd h1 hH
  ·exact h1.1
 ·obtain⟨a,ha,hH⟩:=I.shun _ hs;rcases h.1 b hb a ha with h1|h1
  ·exact absurd h1 hH
  ·exact h1.2 (ha▸hs)
inductive OG (P:Program) (main:Bool) (H:Hide) (Shun:Loc->Prop) (Φ:Goroutine->World->Nat->Prop):Goroutine->World->Nat->Prop
 | stop {g:Goroutine} {w:World} {k:Nat}:(∀d,Φ g (w.at d) k)->OG P main H Shun Φ g w k
 | step {g:Goroutine} {w:World} {k:Nat} (g1:Nat->Goroutine) (w1:Nat->World) (es:Nat->Array Event):g.status=.running->(∀d,stepG P main g (w.at d)=.go (g1 d) (w1 d) (es d))->(∀d,fiq H Shun (w.at d) (w1 d) (es d))->
    (∀d,OG P main H Shun Φ (g1 d) (w1 d) (deafBehind k (es d)))->OG P main H Shun Φ g w k
section
variable {P:Program} {main:Bool} {H:Hide} {Φ Ψ:Goroutine->World->Nat->Prop} {g g1:Goroutine} {w w1 v v1:World} {k:Nat} {St:Nat->Loc->Prop} {Shun:Loc->Prop} {S:Nat->Option SeatD} {h:Nat} {T:Trace} {gs:Array Goroutine} {q:Nat->Nat}
def OG.now (h: ∀d,Φ g (w.at d) k):OG P main H Shun Φ g w k:=.stop h
def OG.one (hr:g.status=.running) (h: ∀d,∃g1 w1 es,stepG P main g (w.at d)=.go g1 w1 es/\fiq H Shun (w.at d) w1 es/\OG P main H Shun Φ g1 w1 (deafBehind k es)):OG P main H Shun Φ g w k:=by
 obtain⟨f,hf⟩:=f1v (r:=λd (x:Goroutine×World×Array Event)=>stepG P main g (w.at d)=.go x.1 x.2.1 x.2.2/\fiq H Shun (w.at d) x.2.1 x.2.2/\OG P main H Shun Φ x.1 x.2.1 (deafBehind k x.2.2)) λd=>by
    obtain⟨g1,w1,es,h1⟩:=h d;exact⟨(g1,w1,es),h1⟩
 exact .step (λd=>(f d).1) (λd=>(f d).2.1) (λd=>(f d).2.2) hr (λd=>(hf d).1) (λd=>(hf d).2.1) λd=>(hf d).2.2
def OG.bind (h:OG P main H Shun Φ g w k) (h': ∀g w k,Φ g w k->OG P main H Shun Ψ g w k) (j: ∀g w k d,OG P main H Shun Ψ g (w.at d) k->OG P main H Shun Ψ g w k):OG P main H Shun Ψ g w k:=by
 induction h with
 | stop h=>exact j _ _ _ 0 (h' _ _ _ (h 0))
 | step g1 w1 es hr h1 h2 _ ih=>exact .step g1 w1 es hr h1 h2 ih
def og_at (d:Nat) (h:OG P main H Shun Φ g (w.at d) k):OG P main H Shun Φ g w k:=by
 cases h with
 | stop h=>exact .stop h
 | step g1 w1 es hr h1 h2 h3=>exact .step g1 w1 es hr h1 h2 h3
def OG.trans (h:OG P main H Shun Φ g w k) (h': ∀g w k,Φ g w k->OG P main H Shun Ψ g w k):OG P main H Shun Ψ g w k:=h.bind h' λ_ _ _ d x=>og_at d x
def OG.mono (h:OG P main H Shun Φ g w k) (h': ∀g w k,Φ g w k->Ψ g w k):OG P main H Shun Ψ g w k:=by
 induction h with
 | stop h=>exact .stop λd=>h' _ _ _ (h d)
 | step g1 w1 es hr h1 h2 _ ih=>exact .step g1 w1 es hr h1 h2 ih
def fkw (w:World):fiq H Shun w w #[]:=⟨fx8 _,λ_ _=>rfl,by simp⟩
def io (hr:g.status=.running) (hs: ∀w,stepG P main g w=.go g1 w) (h:OG P main H Shun Φ g1 w k):OG P main H Shun Φ g w k:=
 .one hr λd=>⟨g1,w.at d,#[],hs _,fkw _,(by
    have:deafBehind k #[]=k:=rfl;rw[this];cases h with
    | stop h=>exact .stop h
    | step g1 w1 es hr h1 h2 h3=>exact .step g1 w1 es hr h1 h2 h3)⟩
def Hold.og (I:Prot H S St Shun) (hg:OG P (h==0) H Shun Φ g w k): ∀{gs:Array Goroutine} {T:Trace} {q:Nat->Nat},Hold P St Shun u5 S h g T gs w q->Deaf T h=k->
    Leads P (λgs' w' T'=> ∃a' q',Φ a' w' (Deaf T' h)/\gs'.size=gs.size/\Hold P St Shun u5 S h a' T' gs' w' q') gs w T:=by
 induction hg with
 | @stop g w k hs=>exact λ{gs T q} C hk=>.done ⟨_,q,by rw[hk];exact hs w.drawn,rfl,C⟩
 | @step g w k g1 w1 es hr h1 h2 _ ih=>
   intro gs T q C hk;have key: ∀(μ:Nat) (j:Array Goroutine) (T:Trace) (q:Nat->Nat) (d:Nat),sumTo j.size q=μ->j.size=gs.size->Deaf T h=k->Hold P St Shun u5 S h g T j (w.at d) q->
    Leads P (λgs' w' T'=> ∃a' q',Φ a' w' (Deaf T' h)/\gs'.size=gs.size/\Hold P St Shun u5 S h a' T' gs' w' q') j (w.at d) T:=by
    intro μ
    induction μ using Nat.strongRecOn with
    | _ μ m=>
      intro j T q d hμ hsz hk C
      have hSp: ∀x gx,x=h->j[x]? =some gx->gx=g:=λx gx hx hgx=>by
        subst hx;rw[C.here] at hgx;exact(fy7 hgx).symm
      refine Leads.pick (C.crew.awake λx gx hx hgx=>.inl (by rw[hSp x gx hx hgx];exact hr)) ⟨h,g,C.here,hr⟩ λi y d' sl hi hy=>?_;have C':Hold P St Shun u5 S h g T j (w.at d') q:=by have:=C.at d';exact this
      by_cases e:i=h
      ·subst e;have H2:=h2 d'
       obtain⟨gs',ops,r1,r2,r3,r4⟩:=C'.own_go (sl:=sl) (h1 d') H2.size (λi s hs=>⟨H2.kept _ (I.seats i s hs).1,λb o hb=>by rw[H2.kept _ ((I.seats i s hs).2 b o hb)];exact C'.crew.keeps i s hs b o hb⟩)
         (λe he=>fo3 I (H2.evs e he)) (λhh=>hh.elim)
       have:=ih d' r3 (by rw[r4,hk]);exact⟨gs',_,ops,r1,this.mono λA w2 T2 ⟨a2,q2,b1,b2,b3⟩=>⟨a2,q2,b1,by rw[b2,r2,hsz],b3⟩⟩
      ·obtain⟨gs',ops,q',s1,s2,s3,s4,s5,s6,s7,_,s8⟩:=C'.crew.by_step (sl:=sl) hi e hy (λx gx hx hgx=>by rw[hSp x gx hx hgx];exact yf hr _)
         (λs g₂ hs _ x gx hx hgx=>f0l (by rw[hSp x gx hx hgx,hr];simp) _ _)
       refine⟨gs',w.at d',ops,s1,m (sumTo gs'.size q') (by rw[s2];omega) gs' (T++ops) q' d' rfl (by rw[s2,hsz]) pz ⟨s5,?_,?_,C'.hears,C'.none⟩⟩
       ·rw[s3 h (λe'=>e e'.symm)];exact C'.here
       ·exact s8 Shun u5 h (λhh=>hh.elim) C'.past
   have:=key _ gs T q w.drawn rfl rfl hk (C.at _);exact this
end
end Go.Proofs.YtelecjnabeokeaaGreatDoor
namespace Go.Proofs.YtelecjnabeokeaaGreatDoor
open Go Go.Conc
def vl (e:Event):Prop:=e.loc≠ .mark .disable/\e.loc≠ .mark .enable
def f6s {es:Array Event} (h: ∀e∈es,vl e) (d:Nat):deafBehind d es=d:=by
 have: ∀(l:List Event) (d:Nat),(∀e∈l,vl e)->l.foldl (λd e=>match e.loc with | .mark .disable=>d+1 | .mark .enable=>d-1|_=>d) d=d:=by
    intro l
    induction l with
    | nil=>intros;rfl
    | cons e l ih=>
      intro d hl;have he:=hl e fi;simp only[List.foldl_cons]
      have:(match e.loc with | .mark .disable=>d+1 | .mark .enable=>d-1|_=>d)=d:=by
        split
        ·rename_i h;exact absurd h he.1
        ·rename_i h;exact absurd h he.2
        ·rfl
      rw[this];exact ih d λe he=>hl e (by simp[he])
 unfold deafBehind;rw[<- Array.foldl_toList];exact this es.toList d λe he=>h e (by simpa using he)
def fbm {H:Hide} {n:Nat} {e:Event} (h:EvOK H n e):vl e:=by
 obtain⟨l,wr,sy⟩:=e;cases l with
 | mark m=>cases m <;>first|exact h.elim|exact⟨by simp,by simp⟩
 | _=>exact⟨by simp,by simp⟩
section
variable {P:Program} {F:Array Func} {main:Bool} {H:Hide} {Shun:Loc->Prop} {Φ:Goroutine->World->Nat->Prop} {g g1:Goroutine} {w w1 v v1:World} {n:Nat} {b c:Frame} {a:Act} {k:List Item} {cs:List Frame} {ops:Array Oper} {i:Nat} {rest:List Nat} {o:Oper} {x:Value} {x1 x2:Code}
def uv (h:OG P main H Shun Φ (G (b.at a (.code x1:: .code x2::k)) cs) w n):OG P main H Shun Φ (G (b.at a (.code (.seq x1 x2)::k)) cs) w n:=io rfl (λ_=>f4d) h
def oa (h:OG P main H Shun Φ (G (b.at a k) cs) w n):OG P main H Shun Φ (G (b.at a (.code .skip::k)) cs) w n:=io rfl (λ_=>stepG_skip) h
def xl {y:Operand} {t:Bool} (hc:a.eval y=.bool t) (h:OG P main H Shun Φ (G (b.at a (.code (if t then x1 else x2)::k)) cs) w n):OG P main H Shun Φ (G (b.at a (.code (.cond y x1 x2)::k)) cs) w n:=io rfl (λ_=>stepG_cond hc) h
def rm {id:Nat} (h:OG P main H Shun Φ (G (b.at a (.inRegion ops (List.range ops.size)::k)) cs) w n):OG P main H Shun Φ (G (b.at a (.code (.region id ops false)::k)) cs) w n:=io rfl (λ_=>f2o) h
def u7 (h:OG P main H Shun Φ (G (b.at a k) cs) w n):OG P main H Shun Φ (G (b.at a (.inRegion ops []::k)) cs) w n:=io rfl (λ_=>f1o) h
def fiu (h:OG P main H Shun Φ (G { b.at a [] with mode:=.returning } cs) w n):OG P main H Shun Φ (G (b.at a []) cs) w n:=io rfl (λ_=>f4e) h
def fiv (h:OG P main H Shun Φ (G { b.at a (.code .ret::k) with mode:=.returning } cs) w n):OG P main H Shun Φ (G (b.at a (.code .ret::k)) cs) w n:=
 io rfl (λw=>by simp[G,stepG,stepG.exec,Frame.at]) h
def ze {fn:Func} {todo:List Item} (hk:b.kind=.normal\/b.kind=.deferred) (hd:a.defers=[]) (hf:P.funcs[b.fn]? =some fn) (hr:ResultsC P fn a.tmps x) (h:OG P main H Shun Φ (G (ur b.kind x c) cs) w n):
    OG P main H Shun Φ (G { b.at a todo with mode:=.returning } (c::cs)) w n:=by
 refine io rfl (λw=>?_) h;obtain⟨h1,h2⟩:=hr w
 have hT:(results fn a.tmps).runT P w #[]=(.ok x w,#[]):=by
    refine f2v ?_ h2;rw[f0d];exact h1
 have e1:stepG P main (G { b.at a todo with mode:=.returning } (c::cs)) w=GStep.after (seen P b.fn #[]) (doReturn P main { b.at a todo with mode:=.returning } (c::cs) none x w):=by
    simp[-Sem.runT_eq,G,stepG,unwind,Frame.at,hd,hf,hT]
 rw[e1,wn (by simpa[Frame.at] using hk)];have:seen P b.fn #[]=#[]:=seen_none P b.fn;rw[this];simp only[c9,ur,Frame.at,LRes.plug,GStep.after,f1t];rfl
def ll {es:Array Event} (hr:g.status=.running) (hs: ∀d,stepG P main g (w.at d)=.go g1 (w1.at d) es) (j:fiq H Shun w w1 es) (h:OG P main H Shun Φ g1 w1 (deafBehind n es)):OG P main H Shun Φ g w n:=
 .one hr λd=>⟨g1,w1.at d,es,hs d,⟨j.size,j.kept,j.evs⟩,by
    cases h with
    | stop h=>exact .stop h
    | step g1 w1 es hr h1 h2 h3=>exact .step g1 w1 es hr h1 h2 h3⟩
def qz (ho:ops[i]? =some o) (hw:Region.wanted o (yielded ops a.tmps)=true) (hk:b.kind≠ .early) (hrun: ∀d,(execOp a.eval o).run P (w.at d)=.ok (.value x) (w1.at d)) (hsz:w.heap.size<=w1.heap.size)
    (j: ∀b,H b≠none->w1.heap[b]? =w.heap[b]?) (hev: ∀d,∀e∈(execOp a.eval o).events P (w.at d) #[],EvP H Shun w1.heap.size e/\vl e) (h:OG P main H Shun Φ (G (b.at (a.put o.dst x) (.inRegion ops rest::k)) cs) w1 n):
    OG P main H Shun Φ (G (b.at a (.inRegion ops (i::rest)::k)) cs) w n:=by
 refine .one rfl λd=>⟨_,w1.at d,_,stepG_value ho hw hk (hrun d),⟨hsz,j,λe he=>(hev d e (f3e he)).1⟩,?_⟩;rw[show deafBehind n (listed P b.fn a o (w.at d))=n from f6s (λe he=>(hev d e (f3e he)).2) n];cases h with
 | stop h=>exact .stop h
 | step g1 w1 es hr h1 h2 h3=>exact .step g1 w1 es hr h1 h2 h3
def ov (x:Value) (w1:World) (h:OG P main H Shun Φ (G (b.at (a.put o.dst x) (.inRegion ops rest::k)) cs) w1 n) (ho:ops[i]? =some o:=by rfl) (hw:Region.wanted o (yielded ops a.tmps)=true:=by rfl) (hk:b.kind≠ .early:=by first|assumption|k_ne) (hrun: ∀d,(execOp a.eval o).run P (w.at d)=.ok (.value x) (w1.at d):=by intro d;go_simp) (hsz:w.heap.size<=w1.heap.size:=by exact fx8 _)
    (j: ∀b,H b≠none->w1.heap[b]? =w.heap[b]? :=by intros;rfl) (hev: ∀d,∀e∈(execOp a.eval o).events P (w.at d) #[],EvP H Shun w1.heap.size e/\vl e:=by intro d e he;first|(simp[go_sem] at he;done)|(have he:e∈(#[]:Array Event):=he;simp at he)):OG P main H Shun Φ (G (b.at a (.inRegion ops (i::rest)::k)) cs) w n:=qz ho hw hk hrun hsz j hev h
def ox (x:Value) (w1:World) (h:OG P main H Shun Φ (G (b.at (a.put o.dst x) (.inRegion ops rest::k)) cs) w1 n) (ho:ops[i]? =some o:=by rfl) (hw:Region.wanted o (yielded ops a.tmps)=true:=by rfl) (hk:b.kind≠ .early:=by first|assumption|k_ne) (hrun: ∀d,(execOp a.eval o).run P (w.at d)=.ok (.value x) (w1.at d):=by intro d;rfl) (hsz:w.heap.size<=w1.heap.size:=by exact fx8 _)
    (j: ∀b,H b≠none->w1.heap[b]? =w.heap[b]? :=by intros;rfl) (hev: ∀d,∀e∈(execOp a.eval o).events P (w.at d) #[],EvP H Shun w1.heap.size e/\vl e:=by intro d e he;first|(simp[go_sem] at he;done)|(have he:e∈(#[]:Array Event):=he;simp at he)):OG P main H Shun Φ (G (b.at a (.inRegion ops (i::rest)::k)) cs) w n:=qz ho hw hk hrun hsz j hev h
def fqd (rel:Rel H v w) (ho:ops[i]? =some o) (hw:Region.wanted o (yielded ops a.tmps)=true) (hk:b.kind≠ .early) (hs:Sim P F (λ_=>False) (execOp a.eval o)) (hv:(execOp a.eval o).run (V P F) v=.ok (.value x) v1) (hd:v1.drawn=v.drawn)
    (h: ∀w1,Rel H v1 w1->OG P main H Shun Φ (G (b.at (a.put o.dst x) (.inRegion ops rest::k)) cs) w1 n):OG P main H Shun Φ (G (b.at a (.inRegion ops (i::rest)::k)) cs) w n:=by
 refine .one rfl λd=>?_;have m:Rel H v (w.at d):=rel.re w.tape d;rcases ym hs m with⟨h',v',e,hh⟩|⟨R,hR,v',k',e,_,hsz,_,q,_,h4⟩
 ·rw[hv] at e;cases e
 ·rw[hv] at e;have e1:R=.ok (.value x)/\v'=v1:=by
   rcases hR with⟨y,rfl⟩|⟨y,rfl⟩
   ·cases e;exact⟨rfl,rfl⟩
   ·cases e
  obtain⟨rfl,rfl⟩:=e1;obtain rfl:k'=0:=by omega
  obtain⟨w1,new,g1,g2,g3,g4,g5⟩:=h4 λj hj=>by omega
  have hrun:(execOp a.eval o).run P (w.at d)=.ok (.value x) w1:=by rw[<- f0d P _ _ #[],g1]
  have hev:(execOp a.eval o).events P (w.at d) #[]=new:=by rw[show(execOp a.eval o).events P (w.at d) #[]=((execOp a.eval o).runT P (w.at d) #[]).2 from rfl,g1]
  refine⟨_,w1,_,stepG_value ho hw hk hrun,⟨by rw[<- m.size,<- g4.size];exact hsz,λb hb=>fap m g4 hb,λe he=>o9 (g5 e ?_)⟩,?_⟩
  ·have:=f3e he;rwa[hev] at this
  ·rw[show deafBehind n (listed P b.fn a o (w.at d))=n from f6s (λe he=>fbm (g5 e (by have:=f3e he;rwa[hev] at this))) n];exact h w1 g4
def fky (rel:Rel H v w) (ho:ops[i]? =some o) (hw:Region.wanted o (yielded ops a.tmps)=true) (hk:b.kind≠ .early) (hs:Sim P F (λ_=>False) (execOp a.eval o)) (hv:(execOp a.eval o).run (V P F) v=.ok .skip v1) (hd:v1.drawn=v.drawn)
    (h: ∀w1,Rel H v1 w1->OG P main H Shun Φ (G (b.at (a.put o.dst undef) (.inRegion ops rest::k)) cs) w1 n):OG P main H Shun Φ (G (b.at a (.inRegion ops (i::rest)::k)) cs) w n:=by
 refine .one rfl λd=>?_;have m:Rel H v (w.at d):=rel.re w.tape d;rcases ym hs m with⟨h',v',e,hh⟩|⟨R,hR,v',k',e,_,hsz,_,q,_,h4⟩
 ·rw[hv] at e;cases e
 ·rw[hv] at e;have e1:R=.ok .skip/\v'=v1:=by
   rcases hR with⟨y,rfl⟩|⟨y,rfl⟩
   ·cases e;exact⟨rfl,rfl⟩
   ·cases e
  obtain⟨rfl,rfl⟩:=e1;obtain rfl:k'=0:=by omega
  obtain⟨w1,new,g1,g2,g3,g4,g5⟩:=h4 λj hj=>by omega
  have hrun:(execOp a.eval o).run P (w.at d)=.ok .skip w1:=by rw[<- f0d P _ _ #[],g1]
  have hev:(execOp a.eval o).events P (w.at d) #[]=new:=by rw[show(execOp a.eval o).events P (w.at d) #[]=((execOp a.eval o).runT P (w.at d) #[]).2 from rfl,g1]
  refine⟨_,w1,_,stepG_none ho hw hk hrun,⟨by rw[<- m.size,<- g4.size];exact hsz,λb hb=>fap m g4 hb,λe he=>o9 (g5 e ?_)⟩,?_⟩
  ·have:=f3e he;rwa[hev] at this
  ·rw[show deafBehind n (listed P b.fn a o (w.at d))=n from f6s (λe he=>fbm (g5 e (by have:=f3e he;rwa[hev] at this))) n];exact h w1 g4
def enter_at {f:FuncId} {fn:Func} {cd:Code} {args:Array Value} {kind:CallKind} (hf:P.funcs[f]? =some fn) (hb:fn.body=some cd):
    Frame.enter P f args kind=({ (default:Frame) with fn:=f,kind:=kind }:Frame).at { tmps:=args++Array.replicate (fn.ntmps-args.size) undef,defers:=[] } [.code cd]:=by
 simp[Frame.enter,Frame.at,hf,hb]
end
def tr0 (fr:Frame):tryRecover fr []=none:=by unfold tryRecover;split <;>first|rfl|(rename_i h;cases h)
def trb (fr:Frame):tryRecover fr [botF]=none:=by
 unfold tryRecover;split
 ·rename_i h;injection h with h1 h2;subst h1;rfl
 ·rename_i h;injection h with h1 h2;subst h1;subst h2;rw[tr0];rfl
 ·rfl
def trl0 (l:Nat):tryRecoverLoop l []=none:=by unfold tryRecoverLoop;rfl
def trlb (l:Nat):tryRecoverLoop l [botF]=none:=by
 unfold tryRecoverLoop;show Option.map _ (tryRecoverLoop l [])=none;rw[trl0];rfl
section
variable {P:Program} {fr fr':Frame} {ab:List Frame} {w w':World} {es e0:Array Event} {main:Bool}
def zk:Item->Bool
 | .call .. | .extern .. =>false
 | _=>true
def fdw {i:Item} (h:wk i=true):zk i=true:=by cases i <;>first|rfl|cases h
def Uni (a b:GStep):Prop:= ∀fr' ab w' es,(∀i∈fr'.todo,zk i=true)->a=.go (G fr' (ab++[botF])) w' es->b=.go (G fr' ab) w' es
def vm (f:Frame) (l:List Frame) (u:World) (e:Array Event):Uni (.go (G f (l++[botF])) u e) (.go (G f l) u e):=by
 intro fr' ab w' es _ h;simp only[G,GStep.go.injEq,f1j] at h;obtain⟨⟨h1,h2,_⟩,h3,h4⟩:=h;obtain rfl:=fz2 h2;rw[h1,h3,h4]
def b7 (f:Frame) (l:List Frame) (u:World) (e:Array Event) (st:GoStatus) (b:GStep) (h:st≠ .running\/ ∃i∈f.todo,zk i=false):Uni (.go { frame:=f,callers:=l,status:=st,dying:=none } u e) b:=by
 intro fr' ab w' es j he;exfalso;simp only[G,GStep.go.injEq,f1j] at he;obtain⟨⟨h1,h2,h3,_⟩,_,_⟩:=he;rcases h with h|⟨i,hi,ho⟩
 ·exact h h3
 ·rw[h1] at hi;rw[j i hi] at ho;cases ho
def fqe (f:Frame) (ah:List ByteArray) (m:String) (wh:Bool) (u:World) (b:GStep):Uni (dieOf f ah m wh u) b:=by
 intro fr' ab w' es _ h;unfold dieOf at h;simp[G] at h
def rz (o:Outcome) (u:World) (e:Array Event) (b:GStep):Uni (.ended o u e) b:=λfr' ab w' es _ h=>by cases h
def xp {a b:GStep} (e:Array Event) (h:Uni a b):Uni (GStep.after e a) (GStep.after e b):=by
 intro fr' ab w' es j he;cases a with
 | go g u e1=>
   simp only[GStep.after] at he;injection he with h1 h2 h3
   subst h1;subst h2;rw[h fr' ab u e1 j rfl];simp only[GStep.after,h3]
 | _=>simp only[GStep.after] at he;cases he
def ti {f:Frame} {st:GoStatus} {u:World} {e:Array Event} (b:GStep):Uni (.go { frame:=f,callers:=[],status:=st,dying:=none } u e) b:=by
 intro fr' ab w' es _ h;simp[G] at h
def ag (v:Value) (u:World) (b:GStep):Uni (doReturn P main fr [botF] none v u) b:=by
 unfold doReturn;dsimp only;split
 ·exact ti _
 ·exact ti _
 ·exact ti _
 ·exact ti _
def fqf (g:Nat) (u:World):Uni (early P fr [botF] none g u) (early P fr [] none g u):=by
 have h0: ∀u:World,Uni (match u.heap[g]? with
    | some (.pending c elem)=>.go { frame:=fr,callers:=[botF],status:=.running,dying:=none } { u with heap:=u.heap.setIfInBounds g (.cells c elem) }
    | _=>.ended (.stuck "early: the variable does not wait" (fr.pos P)) u) (match u.heap[g]? with
    | some (.pending c elem)=>.go { frame:=fr,callers:=[],status:=.running,dying:=none } { u with heap:=u.heap.setIfInBounds g (.cells c elem) }
    | _=>.ended (.stuck "early: the variable does not wait" (fr.pos P)) u):=λu=>by
    split
    ·exact vm _ [] _ _
    ·exact rz _ _ _ _
 have h1: ∀(f:Frame) (l:List Frame) (u:World),Uni (.go { frame:=f,callers:=l++[fr,botF],status:=.running,dying:=none } u) (.go { frame:=f,callers:=l++[fr],status:=.running,dying:=none } u):=λf l u=>by
    have:=vm f (l++[fr]) u #[];simpa[G] using this
 unfold early;dsimp only;split
 ·exact h0 u
 split
 ·exact rz _ _ _ _
 split
 ·exact h0 u
 split
 ·exact h0 u
 split
 ·exact rz _ _ _ _
 ·exact h1 _ _ u
 ·exact rz _ _ _ _
 ·exact h0 u
 ·split
  ·exact h1 _ _ u
  split
  ·exact h0 u
  split
  ·exact h0 _
  ·exact h1 _ _ _
  ·exact rz _ _ _ _
def tj {s:Sem Next} (ht: ∀i∈fr.todo,zk i=true):Uni (stepG.apply P true fr [botF] none s w) (stepG.apply P true fr [] none s w):=by
 unfold stepG.apply;simp only[f0e];generalize s.runT P w #[]=p;obtain⟨r,e0⟩:=p;refine xp _ ?_;cases r with
 | ok x u=>
   cases x with
   | stack a b=>
     dsimp only;split
     ·rename_i hh;have:=ht _ qd;cases this
     ·exact b7 _ _ _ _ _ _ (.inr ⟨_,fz5,rfl⟩)
   | callThen=>
     dsimp only;split
     ·rename_i hh;have:=ht _ qd;cases this
     ·exact b7 _ _ _ _ _ _ (.inr ⟨_,fz5,rfl⟩)
   | row=>
     dsimp only;split
     ·rename_i hh;have:=ht _ qd;cases this
     ·exact b7 _ _ _ _ _ _ (.inr ⟨_,fz5,rfl⟩)
   | spawn d=>
     refine λfr' ab w' es j h=>?_;exfalso
     revert h
     dsimp only;generalize (P.follows Departure.goNilFatal&&_&&_&&_)=bb;cases bb <;>intro h
     ·cases h
     ·unfold endThrow dieOf at h;simp[G] at h
   | sleep q=>exact b7 _ _ _ _ _ _ (.inl fi)
   | recover=>
     dsimp only;generalize fr.roundOf=ro;cases ro with
     | none=>rw[tr0,trb];exact vm _ [] _ _
     | some l=>
       dsimp only;split <;>rename_i e1 <;>split <;>rename_i e2 <;>first|(rw[trb] at e1;cases e1;done)|(rw[tr0] at e2;cases e2;done)|(split at e1 <;>first|(rw[trb] at e1;cases e1;done)|(rw[trlb] at e1;cases e1;done))|(split at e2 <;>first|(rw[tr0] at e2;cases e2;done)|(rw[trl0] at e2;cases e2;done))|exact vm _ [] _ _
   | enter f args=>
     dsimp only;exact vm _ [fr] _ _
   | round l f ts a b=>exact vm _ [fr] _ _
   | _ =>
     first
       | exact vm _ [] _ _
       | (intro _ _ _ _ _ h;cases h;done)
       | (split <;>exact vm _ [] _ _)
 | halt x u=>
   cases x with
   | unsupported y=>
     cases y with
     | initOrder g=>exact fqf g u
     | _=>exact rz _ _ _ _
   | blocked=>exact b7 _ _ _ _ _ _ (.inl fi)
   | waiting=>exact b7 _ _ _ _ _ _ (.inl fi)
   | fatal m=>
     refine λfr' ab w' es j h=>?_;exfalso;have h:endFatal P fr [botF] none m u=_:=h;unfold endFatal at h;dsimp only at h;split at h
     ·unfold dieOf at h;simp[G] at h
     ·cases h
     ·cases h
   | throw m=>exact fqe _ _ _ _ _ _
   | _ =>
     first
       | exact vm _ [] _ _
       | exact rz _ _ _ _
def uni_run (hm:fr.mode=.run) (ht: ∀i∈fr.todo,zk i=true):Uni (stepG P main (G fr [botF]) w) (stepG P main (G fr []) w):=by
 have e: ∀cs,stepG P main (G fr cs) w=stepG.exec P main true fr cs none w:=λcs=>by
    unfold stepG G;dsimp only;rw[hm]
 rw[e,e];cases htd:fr.todo with
 | nil=>
   unfold stepG.exec;simp only[htd];cases fr.roundOf with
   | none=>exact vm _ [] _ _
   | some l=>exact xp _ jo
 | cons i k=>
   have hi:=ht i (by rw[htd];exact fz5);cases i with
   | code c=>
     cases c with
     | region id ops m=>
       unfold stepG.exec;simp only[htd];split
       ·exact vm _ [] _ _
       ·split
        ·exact vm _ [] _ _
        ·exact rz _ _ _ _
     | cond c a b=>
       unfold stepG.exec;simp only[htd];split
       ·exact vm _ [] _ _
       ·exact rz _ _ _ _
     | rangeFunc f ps a b=>
       unfold stepG.exec;simp only[htd];refine xp _ ?_;split
       ·refine tj λi j=>?_;rcases fy3.1 j with rfl|j
        ·rfl
        ·exact ht i (by rw[htd];exact f0c _ j)
       ·exact rz _ _ _ _
     | exit id=>
       unfold stepG.exec;simp only[htd];cases exitTo id k with
       | none=>
         cases fr.roundOf with
         | none=>exact rz _ _ _ _
         | some l=>exact xp _ jo
       | some k'=>exact vm _ [] _ _
     | goto id=>
       unfold stepG.exec;simp only[htd];cases gotoIn id k with
       | none=>
         cases fr.roundOf with
         | none=>exact rz _ _ _ _
         | some l=>exact xp _ jo
       | some k'=>exact vm _ [] _ _
     | refuse q=>unfold stepG.exec;simp only[htd];exact rz _ _ _ _
     | ret=>
       unfold stepG.exec;simp only[htd];cases fr.roundOf with
       | none=>exact vm _ [] _ _
       | some l=>exact xp _ jo
     | _=>unfold stepG.exec;simp only[htd];exact vm _ [] _ _
   | inRegion ops l=>
     cases l with
     | nil=>unfold stepG.exec;simp only[htd];exact vm _ [] _ _
     | cons i l=>
       unfold stepG.exec;simp only[htd];split
       ·unfold stepG.oper;split
        ·exact rz _ _ _ _
        ·split
         ·exact tj ht
         ·exact tj ht
       ·exact vm _ [] _ _
   | endRangeFunc l=>
     unfold stepG.exec;simp only[htd];refine xp _ ?_;split
     ·exact vm _ [] _ _
     ·exact vm _ [] _ _
     ·exact rz _ _ _ _
   | beginRound=>unfold stepG.exec;simp only[htd];exact tj ht
   | inRangeFunc l=>unfold stepG.exec;simp only[htd];exact rz _ _ _ _
   | call=>cases hi
   | extern=>cases hi
   | _=>unfold stepG.exec;simp only[htd];exact vm _ [] _ _
def fiw (ht: ∀i∈fr.todo,zk i=true) (d:Deferred):Uni (callDeferred P fr [botF] none d w) (callDeferred P fr [] none d w):=by
 unfold callDeferred;generalize ((d.target matches .nil)&&(fr.mode matches .panicking _))=bb;cases bb with
 | true=>exact rz _ _ _ _
 | false=>
 simp only[f0g,f0s];generalize (invoke d.target d.args).runT P w #[]=p;obtain⟨r,e0⟩:=p;refine xp _ ?_;simp only[tr0,trb];cases r with
 | ok x u=>
   cases x with
   | callThen=>exact b7 _ _ _ _ _ _ (.inr ⟨_,fz5,rfl⟩)
   | row=>exact b7 _ _ _ _ _ _ (.inr ⟨_,fz5,rfl⟩)
   | sleep j=>exact b7 _ _ _ _ _ _ (.inl fi)
   | enter f args=>exact vm _ [fr] _ _
   | round l f ts a b=>exact vm _ [fr] _ _
   | recover=>
     dsimp only;generalize fr.mode=mm;cases mm <;>exact vm _ [] _ _
   | alone b x=>
     cases b
     ·intro _ _ _ _ _ h;cases h
     ·exact rz _ _ _ _
   | coroswitch c e=>
     cases e
     ·exact rz _ _ _ _
     ·intro _ _ _ _ _ h;cases h
   | stack=>exact rz _ _ _ _
   | newcoro=>exact rz _ _ _ _
   | timer=>exact rz _ _ _ _
   | collect=>intro _ _ _ _ _ h;cases h
   | watch=>intro _ _ _ _ _ h;cases h
   | _=>exact vm _ [] _ _
 | halt x u=>
   cases x with
   | unsupported y=>exact rz _ _ _ _
   | blocked=>exact b7 _ _ _ _ _ _ (.inl fi)
   | waiting=>exact b7 _ _ _ _ _ _ (.inl fi)
   | fatal m=>
     refine λfr' ab w' es q h=>?_;exfalso;have h:endFatal P fr [botF] none m u=_:=h;unfold endFatal at h;dsimp only at h;split at h
     ·unfold dieOf at h;simp[G] at h
     ·cases h
     ·cases h
   | throw m=>exact fqe _ _ _ _ _ _
   | _ =>
     first
       | exact vm _ [] _ _
       | exact rz _ _ _ _
def fo4 (hm:fr.mode≠ .run) (ht: ∀i∈fr.todo,zk i=true):Uni (stepG P main (G fr [botF]) w) (stepG P main (G fr []) w):=by
 have e: ∀cs,stepG P main (G fr cs) w=unwind P main fr cs none w:=λcs=>by
    unfold stepG G;dsimp only;split
    ·rename_i e;cases e
    ·exact absurd fx4 hm
    ·rfl
 rw[e,e];unfold unwind;split
 ·dsimp only;refine xp _ ?_;split
  ·exact vm _ [] _ _
  ·exact rz _ _ _ _
 ·rename_i d ds _ _;have h:=fiw (P:=P) (w:=w) (fr:={ fr with defers:=ds }) ht d;exact h
 ·split
  ·exact rz _ _ _ _
  ·split
   ·exact rz _ _ _ _
   ·exact ti _
  ·split
   ·exact ag _ _ _
   ·refine xp _ ?_;split
    ·exact ag _ _ _
    ·exact rz _ _ _ _
    ·exact rz _ _ _ _
def fts (ht: ∀i∈fr.todo,zk i=true):Uni (stepG P main (G fr [botF]) w) (stepG P main (G fr []) w):=by
 by_cases hm:fr.mode=.run
 ·exact uni_run hm ht
 ·exact fo4 hm ht
end
open Go.ConcN (sumTo upd sumTo_upd upd_ne upd_same)
structure Inv (WS:Nat->Option SeatD) (Fx:Nat->Option (Obj×Option Obj)) (Sx:Nat->Option SeatD) (H:Hide) (S:Nat->Option SeatD) (St:Nat->Loc->Prop) (Shun:Loc->Prop) (v w:World):Prop where
 rel:Rel H v w
 prot:Prot H S St Shun
 on:H.on=true
 fix: ∀b x,Fx b=some x->H b=some x.1/\H.real b=x.2
 sus: ∀i s,Sx i=some s->S i=some s
 only: ∀i s,S i=some s->WS i=some s\/Sx i=some s
 marks: ∀b cap buf cl s q,H b=some (.chan cap buf cl s q true)->0<buf.size->buf.size=1/\ ∃j s,WS j=some s/\s.c=b/\S j=some s/\Sx j=none/\Fx b=none
 who: ∀g l,St g l->g=0\/WS g≠none\/Sx g≠none
abbrev f63:=Option (Frame×List Frame×Frame)
def fkz (l1:List Frame):f63->List Frame
 | none=>l1
 | some (D,l2,_)=>l1++D::l2
def tq (l1 cs:List Frame):f63->List Frame
 | none=>l1++cs
 | some (_,_,X)=>l1++X::cs
def BotK (fr:Frame) (l1:List Frame):Prop:= ∀y,(fr::l1).getLast? =some y->y.kind=.normal
section
variable {P:Program} {F:Array Func} {Stop:Frame->List Frame->World->Prop} {WS:Nat->Option SeatD} {Shun:Loc->Prop} {Φ:Array Goroutine->World->Trace->Prop}
def fl0 (P:Program) (F:Array Func) (Stop:Frame->List Frame->World->Prop) (WS:Nat->Option SeatD) (Shun:Loc->Prop) (Φ:Array Goroutine->World->Trace->Prop) (Fx:Nat->Option (Obj×Option Obj)) (Sx:Nat->Option SeatD) (h sz:Nat) (s:St) (dv:Value->Frame) (l2:List Frame) (xr:Value->Frame) (cs:List Frame):Prop:=
 ∀x v' w' H' S' St' gs' T' q',Ahead (V P F) Stop s (dv x,l2,v')->Inv WS Fx Sx H' S' St' Shun v' w'->gs'.size=sz->Hold P St' Shun u5 S' h (G (xr x) cs) T' gs' w' q'->Deaf T' h=0->Leads P Φ gs' w' T'
def fwi (P:Program) (F:Array Func) (Stop:Frame->List Frame->World->Prop) (WS:Nat->Option SeatD) (Shun:Loc->Prop) (Φ:Array Goroutine->World->Trace->Prop) (Fx:Nat->Option (Obj×Option Obj)) (Sx:Nat->Option SeatD) (h sz:Nat) (s:St) (cs:List Frame):Prop:=
 ∀fr v' w' H' S' St' gs' T' q',Desc (V P F) Stop s (fr,[],v')->Stop fr [] v'->Inv WS Fx Sx H' S' St' Shun v' w'->gs'.size=sz->Hold P St' Shun u5 S' h (G fr cs) T' gs' w' q'->Deaf T' h=0->Leads P Φ gs' w' T'
def ContX (P:Program) (F:Array Func) (Stop:Frame->List Frame->World->Prop) (WS:Nat->Option SeatD) (Shun:Loc->Prop) (Φ:Array Goroutine->World->Trace->Prop) (Fx:Nat->Option (Obj×Option Obj)) (Sx:Nat->Option SeatD) (h sz:Nat) (s:St) (cs:List Frame):f63->Prop
 | none=>fwi P F Stop WS Shun Φ Fx Sx h sz s cs
 | some (D,l2,X)=>fl0 P F Stop WS Shun Φ Fx Sx h sz s D.finish l2 X.finish cs
def fme (P:Program) (F:Array Func) (Stop:Frame->List Frame->World->Prop) (WS:Nat->Option SeatD) (Shun:Loc->Prop) (Φ:Array Goroutine->World->Trace->Prop) (s:St):Prop:=
 ∀ (Fx:Nat->Option (Obj×Option Obj)) (Sx:Nat->Option SeatD) (H:Hide) (S:Nat->Option SeatD) (St:Nat->Loc->Prop) (h:Nat) (l1:List Frame) (bl:f63) (cs:List Frame) (gs:Array Goroutine) (w:World) (T:Trace) (q:Nat->Nat),
   s.2.1=fkz l1 bl->FrOk P F s.1->(∀f∈l1,FrOk P F f)->BotK s.1 l1->(∀j s,WS j=some s->j<gs.size)->Lv P F Stop s->Inv WS Fx Sx H S St Shun s.2.2 w->Hold P St Shun u5 S h (G s.1 (tq l1 cs bl)) T gs w q->Deaf T h=0->
   ContX P F Stop WS Shun Φ Fx Sx h gs.size s cs bl->Leads P Φ gs w T
def fl1 (P:Program) (F:Array Func) (Stop:Frame->List Frame->World->Prop) (WS:Nat->Option SeatD) (Shun:Loc->Prop) (Φ:Array Goroutine->World->Trace->Prop) (f:FuncId) (args:Array Value) (kind:CallKind) (g:Frame) (l:List Frame) (v:World):Prop:=
 ∀ (Fx:Nat->Option (Obj×Option Obj)) (Sx:Nat->Option SeatD) (H:Hide) (S:Nat->Option SeatD) (St:Nat->Loc->Prop) (h:Nat) (X:Frame) (cs:List Frame) (gs:Array Goroutine) (w:World) (T:Trace) (q:Nat->Nat),
   kind=.normal\/kind=.deferred->(∀j s,WS j=some s->j<gs.size)->Lv P F Stop (Frame.enter (V P F) f args kind,g::l,v)->Inv WS Fx Sx H S St Shun v w->Hold P St Shun u5 S h (G (Frame.enter P f args kind) (X::cs)) T gs w q->Deaf T h=0->
   fl0 P F Stop WS Shun Φ Fx Sx h gs.size (Frame.enter (V P F) f args kind,g::l,v) (λx=>ur kind x g) l (λx=>ur kind x X) cs->Leads P Φ gs w T
def tu (P:Program) (F:Array Func) (sp:Nat->Prop) (Stop:Frame->List Frame->World->Prop) (WS:Nat->Option SeatD) (Shun:Loc->Prop) (Φ:Array Goroutine->World->Trace->Prop) (s:St):Prop:=
 ∀f args kind g l,sp f->s.1=Frame.enter (V P F) f args kind->s.2.1=g::l->fl1 P F Stop WS Shun Φ f args kind g l s.2.2
def SpecOk (P:Program) (F:Array Func) (f:FuncId):Prop:=
 ∀ (Stop:Frame->List Frame->World->Prop) (WS:Nat->Option SeatD) (Shun:Loc->Prop) (Φ:Array Goroutine->World->Trace->Prop) (args:Array Value) (kind:CallKind) (g:Frame) (l:List Frame) (v:World),
   VS P F Stop->(∀fr l v t d,Stop fr l v->Stop fr l (reW v t d))->fl1 P F Stop WS Shun Φ f args kind g l v
def fmf (P:Program) (F:Array Func) (sp:Nat->Prop) (j:(Nat->Option SeatD)->(Loc->Prop)->Prop) (f:FuncId):Prop:=
 ∀ (Stop:Frame->List Frame->World->Prop) (WS:Nat->Option SeatD) (Shun:Loc->Prop) (Φ:Array Goroutine->World->Trace->Prop) (args:Array Value) (kind:CallKind) (g:Frame) (l:List Frame) (v:World),
   VS P F Stop->(∀fr l v t d,Stop fr l v->Stop fr l (reW v t d))->j WS Shun->(∀s',Ahead (V P F) Stop (Frame.enter (V P F) f args kind,g::l,v) s'->fme P F Stop WS Shun Φ s'/\tu P F sp Stop WS Shun Φ s')->fl1 P F Stop WS Shun Φ f args kind g l v
structure LP (P:Program) (F:Array Func) (sp:Nat->Prop) (okW:(Nat->Option SeatD)->(Loc->Prop)->Prop):Prop where
 fok:FOk P F
 nc:Nc P F
 same: ∀f,¬sp f->(P.funcs[f]? =F[f]? /\ ∀fn c,F[f]? =some fn->fn.body=some c->yb c=true)\/ ∀args kind v,Dead (V P F) (Frame.enter (V P F) f args kind) v
 spec: ∀f,sp f->fmf P F sp okW f
def SpecOk.ofDo {P:Program} {F:Array Func} {f:FuncId} (h:SpecOk P F f) (sp:Nat->Prop) (j:(Nat->Option SeatD)->(Loc->Prop)->Prop):fmf P F sp j f:=
 λStop WS Shun Φ args kind g l v A hR _ _=>h Stop WS Shun Φ args kind g l v A hR
def fo5 (t:Touch) (f:Frame):(t.on f).kind=f.kind:=by
 cases t with
 | fin x=>exact ay f x
 | dret=>
   simp only[Touch.on];split
   ·split <;>rfl
   ·rfl
 | raise ch=>exact ma f ch
def fqg {fr f:Frame} {ab l1:List Frame} (hb:BotK fr l1) (hk:ffn fr.kind (.push f ab)):BotK f (ab++l1):=by
 intro y hy;cases l1 with
 | nil=>
   have j:fr.kind=.normal:=hb fr rfl;rw[f4m] at hy;rcases hk with⟨rfl,h⟩|⟨m,x,rfl,h⟩
   ·simp at hy;subst hy;rw[h,j]
   ·have:(f::(m++[x])).getLast? =some x:=by rw[<- f0j,List.getLast?_concat]
    rw[this] at hy;cases hy;rw[h,j]
 | cons c l1=>
   refine hb y ?_;rw[<- f0j,List.getLast?_append] at hy;rw[f2f];simpa using hy
def ffp {fr e g:Frame} {l1:List Frame} (hb:BotK fr l1) (hk:g.kind=fr.kind):BotK e (g::l1):=by
 intro y hy;rw[f2f] at hy;cases l1 with
 | nil=>
   simp at hy;subst hy;rw[hk];exact hb fr rfl
 | cons c l1=>
   refine hb y ?_;rw[f2f] at hy ⊢;exact hy
def ffq {fr c0:Frame} {l1:List Frame} (t:Touch) (hb:BotK fr (c0::l1)):BotK (t.on c0) l1:=by
 intro y hy;cases l1 with
 | nil=>
   simp at hy;subst hy;rw[fo5];exact hb c0 fi
 | cons c l1=>
   refine hb y ?_;rw[f2f] at hy;rw[f2f,f2f];exact hy
def ftt {l1:List Frame} {D X:Frame} {l2:List Frame}:fkz l1 (some (D,l2,X))≠[]:=by simp[fkz]
def Hold.lead' {S:Nat->Option SeatD} {St:Nat->Loc->Prop} {h:Nat} {a:Goroutine} {gs:Array Goroutine} {w:World} {T:Trace} {q:Nat->Nat} (C:Hold P St Shun u5 S h a T gs w q) (hD:Deaf T h=0) (hrun:a.status=.running)
    (A: ∀j T q d sl,j.size=gs.size->Deaf T h=0->Hold P St Shun u5 S h a T j (w.at d) q-> ∃gs' w' ops,runT P (crowd j (w.at d) sl) h=(.next (crowd gs' w' sl),ops)/\Leads P Φ gs' w' (T++ops)):Leads P Φ gs w T:=by
 have key: ∀(μ:Nat) (j:Array Goroutine) (T:Trace) (q:Nat->Nat) (d:Nat),sumTo j.size q=μ->j.size=gs.size->Deaf T h=0->Hold P St Shun u5 S h a T j (w.at d) q->Leads P Φ j (w.at d) T:=by
    intro μ
    induction μ using Nat.strongRecOn with
    | _ μ m=>
      intro j T q d hμ hsz hk C
      have hSp: ∀x gx,x=h->j[x]? =some gx->gx=a:=λx gx hx hgx=>by
        subst hx;rw[C.here] at hgx;exact(fy7 hgx).symm
      refine Leads.pick (C.crew.awake λx gx hx hgx=>.inl kp) ⟨h,a,C.here,hrun⟩ λi y d' sl hi hy=>?_;have C':Hold P St Shun u5 S h a T j (w.at d') q:=by have:=C.at d';exact this
      by_cases e:i=h
      ·subst e;exact A j T q d' sl hsz hk C'
      ·obtain⟨gs',ops,q',s1,s2,s3,s4,s5,s6,s7,_,s8⟩:=C'.crew.by_step (sl:=sl) hi e hy (λx gx hx hgx=>by rw[hSp x gx hx hgx];exact yf hrun _)
         (λs g₂ hs _ x gx hx hgx=>f0l kq _ _)
       refine⟨gs',w.at d',ops,s1,m (sumTo gs'.size q') (by rw[s2];omega) gs' (T++ops) q' d' rfl (by rw[s2,hsz]) pz ⟨s5,?_,?_,C'.hears,C'.none⟩⟩
       ·rw[s3 h (λe'=>e e'.symm)];exact C'.here
       ·exact s8 Shun u5 h (λhh=>hh.elim) C'.past
 exact key _ gs T q w.drawn rfl rfl hD (C.at _)
def LRes.below (R:List Frame):LRes->List Frame
 | .push _ ab=>ab++R
 | .enter _ _ _ g=>g::R
 | .touch _=>R.tail
 | .comm .. =>R
def Hold.ord' {F:Array Func} {S:Nat->Option SeatD} {St:Nat->Loc->Prop} {h:Nat} {gs:Array Goroutine} {v v' w w':World} {T:Trace} {q:Nat->Nat} {H:Hide} {fr:Frame} {R:List Frame} {r:LRes} {es:Array Event} {sl:Option (Nat×Nat)} (C:Hold P St Shun u5 S h (G fr R) T gs w q) (I:Prot H S St Shun) (rel:Rel H v w) (j:Rel H v' w') (hsz:v.heap.size<=v'.heap.size)
    (A:ff9 P fr w r w' es) (hn: ∀a b c d,r≠ .comm a b c d) (m: ∀e∈es,EvOK H w'.heap.size e) (hR:R=[]-> ∀t,r≠ .touch t) (B: ∀i∈fr.todo,wk i=true) (hr:fgq P F r):
    ∃gs' ops,runT P (crowd gs w sl) h=(.next (crowd gs' w' sl),ops)/\gs'.size=gs.size/\Hold P St Shun u5 S h (G (r.fr P (R.headD botF)) (r.below R)) (T++ops) gs' w' q/\Deaf (T++ops) h=Deaf T h:=by
 have D:stepG P (h==0) (G fr R) w=.go (G (r.fr P (R.headD botF)) (r.below R)) w' es:=by
    cases R with
    | cons c cs=>
      rw[A];cases r with
      | comm a b d e=>exact absurd rfl (hn a b d e)
      | _=>rfl
    | nil=>
      have hu:=fts (P:=P) (main:=h==0) (w:=w) (fr:=fr) λi hi=>fdw (B i hi);have h1:=A (h==0) botF [];cases r with
      | comm a b d e=>exact absurd rfl (hn a b d e)
      | touch t=>exact absurd rfl (hR rfl t)
      | push f ab=>
        have:=hu f ab w' es (λi hi=>fdw (hr.1.todo i hi)) h1;simpa[LRes.below,LRes.fr] using this
      | enter f args kind g=>
        refine hu (Frame.enter P f args kind) [g] w' es (λi hi=>?_) h1;unfold Frame.enter at hi;simp only[fy3,fz8,f0z] at hi;subst hi;rfl
 obtain⟨gs',ops,h1,h2,h3,h4⟩:=C.own_go (sl:=sl) D (by rw[<- rel.size,<- j.size];exact hsz)
    (λi s hs=>⟨fap rel j (I.seats i s hs).1,λb o hb=>by rw[fap rel j ((I.seats i s hs).2 b o hb)];exact C.crew.keeps i s hs b o hb⟩)
    (λe he=>fvy I (m e he)) (λhh=>hh.elim)
 exact⟨gs',ops,h1,h2,h3,by rw[h4,fip m]⟩
def Inv.step {Fx:Nat->Option (Obj×Option Obj)} {Sx:Nat->Option SeatD} {H:Hide} {S:Nat->Option SeatD} {St:Nat->Loc->Prop} {v w v' w':World} (I:Inv WS Fx Sx H S St Shun v w) (rel:Rel H v' w'):Inv WS Fx Sx H S St Shun v' w':=
 ⟨rel,I.prot,I.on,I.fix,I.sus,I.only,I.marks,I.who⟩
def bd {Fx:Nat->Option (Obj×Option Obj)} {Sx:Nat->Option SeatD} {h sz:Nat} {s s':St} {dv xr:Value->Frame} {l2 cs:List Frame} (ha:Ahead (V P F) Stop s s') (hc:fl0 P F Stop WS Shun Φ Fx Sx h sz s dv l2 xr cs):fl0 P F Stop WS Shun Φ Fx Sx h sz s' dv l2 xr cs:=
 λx v' w' H' S' St' gs' T' q' j=>hc x v' w' H' S' St' gs' T' q' (ha.desc j.to_desc)
def fdx {Fx:Nat->Option (Obj×Option Obj)} {Sx:Nat->Option SeatD} {h sz:Nat} {s s':St} {cs:List Frame} (ha:Ahead (V P F) Stop s s') (hc:fwi P F Stop WS Shun Φ Fx Sx h sz s cs):fwi P F Stop WS Shun Φ Fx Sx h sz s' cs:=
 λx v' w' H' S' St' gs' T' q' j=>hc x v' w' H' S' St' gs' T' q' (ha.to_desc.trans j)
def lift {sp:Nat->Prop} {aL:(Nat->Option SeatD)->(Loc->Prop)->Prop} (hP:LP P F sp aL) (A:VS P F Stop) (hR: ∀fr l v t d,Stop fr l v->Stop fr l (reW v t d)) (hW:aL WS Shun) {s:St} (hf:FinS (V P F) Stop s):
    fme P F Stop WS Shun Φ s/\tu P F sp Stop WS Shun Φ s:=by
 refine fin_ind (Ψ:=λs=>fme P F Stop WS Shun Φ s/\tu P F sp Stop WS Shun Φ s) ?_ hf;intro s hf ih;refine⟨?_,?_⟩;rotate_left 1
 ·intro f args kind g l an e1 e2;obtain⟨fr,l0,v⟩:=s;simp only at e1 e2;subst e1;subst e2;exact hP.spec f an Stop WS Shun Φ args kind g l v A hR hW ih
 intro Fx Sx H S St h l1 bl cs gs w T q hl aD Y M hlt L I C hD B;obtain⟨fr,l,v⟩:=s;simp only at hl aD M L I C;by_cases U:Stop fr l v
 ·
   have ah:=A.stopNil _ _ _ U;cases bl with
   | some y=>obtain⟨D,l2,X⟩:=y;rw[hl] at ah;exact absurd ah ftt
   | none=>
     have aZ:l1=[]:=by rw[hl] at ah;exact ah
     subst aZ;obtain rfl:l=[]:=ah;exact B fr v w H S St gs T q (.refl _) U I rfl C hD
 ·refine C.lead' hD rfl λa6 T1 q1 d sl hsz hD C1=>?_;have rel:Rel H v (w.at d):=I.rel.re w.tape d;have aT:i5 (V P F) F l:=λf aX=>L.stk f (by simp[aX]);obtain⟨r,v1,fr',l',w1,es,aQ,a3,aH,j,O,a4,aF,aR,a5,aB,aU,m⟩:=ftr hP.fok A.fok A.code hP.nc A.stopCalm hf U aD aT rel;have hn: ∀a b c d,r≠ .comm a b c d:=by
   rintro a b c d rfl;exact m
  have ha:Ahead (V P F) Stop (fr,l,v) (fr',l',v1):=⟨(fr',l',v1),w.tape,d,U,aQ,.refl _⟩;have L1:Lv P F Stop (fr',l',v1):=vn A L ha;generalize J:tq l1 cs bl=R at C1;have aK:R=[]->l=[]:=λe=>by
   subst e;rw[hl];cases bl with
   | none=>
     have:l1++cs=[]:=J;show l1=[];exact(List.append_eq_nil_iff.1 this).1
   | some y=>
     have:l1++y.2.2::cs=[]:=J;simp at this
  have a1:R=[]-> ∀t,r≠ .touch t:=λe t ht=>by
   subst ht;obtain⟨c0,h1,_⟩:=m;rw[aK e] at h1;cases h1
  obtain⟨gs',ops,e1,e2,C2,e3⟩:=C1.ord' (F:=F) (sl:=sl) I.prot rel aB aF aR hn aU a1 aD.todo j;refine⟨gs',w1,ops,e1,?_⟩;have I1:Inv WS Fx Sx H S St Shun v1 w1:=I.step aB;have ad:Deaf (T1++ops) h=0:=by rw[e3];exact hD
  have hsz1:gs'.size=gs.size:=e2.trans hsz;have W:ContX P F Stop WS Shun Φ Fx Sx h gs'.size (fr',l',v1) cs bl:=by
   rw[hsz1];cases bl with
   | none=>exact fdx ha B
   | some y=>exact bd ha B
  cases r with
  | push f ab=>
    obtain⟨rfl,rfl⟩:=m;have ak:ab++l=fkz (ab++l1) bl:=by
     rw[hl];cases bl with
     | none=>rfl
     | some y=>simp[fkz]
    have aE:(LRes.push fr' ab).below R=tq (ab++l1) cs bl:=by
     show ab++R=_;rw[<- J];cases bl with
     | none=>simp[tq]
     | some y=>simp[tq]
    rw[aE] at C2;exact(ih _ ha).1 Fx Sx H S St h (ab++l1) bl cs gs' w1 (T1++ops) q1 ak j.1 (λx hx=>(fz0.1 hx).elim (j.2 x) (Y x)) (fqg M O) pw L1 I1 C2 ad W
  | enter f args kind g=>
    obtain⟨rfl,rfl⟩:=m;have aE:(LRes.enter f args kind g).below R=g::tq l1 cs bl:=by
     show g::R=_;rw[<- J]
    rw[aE] at C2;have ak:g::l=fkz (g::l1) bl:=by
     rw[hl];cases bl with
     | none=>rfl
     | some y=>rfl
    have a0:g::tq l1 cs bl=tq (g::l1) cs bl:=by
     cases bl with
     | none=>rfl
     | some y=>rfl
    have aI: ∀x∈g::l1,FrOk P F x:=λx hx=>(fy3.1 hx).elim (λe=>e▸j.1) (Y x);by_cases an:sp f
    ·
      have aG: ∀x v' w' H' S' St' ae T' q',Ahead (V P F) Stop (Frame.enter (V P F) f args kind,g::l,v1) (ur kind x g,l,v')->Inv WS Fx Sx H' S' St' Shun v' w'->ae.size=gs'.size->Hold P St' Shun u5 S' h (G (ur kind x g) (tq l1 cs bl)) T' ae w' q'->Deaf T' h=0->Leads P Φ ae w' T':=by
         intro x v' w' H' S' St' ae T' q' aN I' aC C' a2;have ap:Ahead (V P F) Stop (fr,l,v) (ur kind x g,l,v'):=ha.desc aN.to_desc;have aP:FrOk P F (ur kind x g):=by
          unfold ur;split
          ·exact(td (t:=.fin x) trivial j.1).1
          ·exact(td (t:=.dret) trivial j.1).1
         have aS:BotK (ur kind x g) l1:=by
          refine ffq (fr:=fr) _ ?_;exact ffp (e:=fr) M O
         refine(ih _ ap).1 Fx Sx H' S' St' h l1 bl cs ae w' T' q' hl aP Y aS (by rw[aC,hsz1];exact hlt) (vn A L ap) I' C' a2 ?_;rw[aC,hsz1];cases bl with
         | none=>exact fdx ap B
         | some y=>exact bd ap B
      exact(ih _ ha).2 f args kind g l an rfl rfl Fx Sx H S St h g (tq l1 cs bl) gs' w1 (T1++ops) q1 j.2 pw L1 I1 C2 ad aG
    ·rcases hP.same f an with⟨ac,aV⟩|aJ
     ·have aa:Frame.enter P f args kind=Frame.enter (V P F) f args kind:=by
        unfold Frame.enter;rw[ac]
      have C3:Hold P St Shun u5 S h (G (Frame.enter (V P F) f args kind) (tq (g::l1) cs bl)) (T1++ops) gs' w1 q1:=by
        rw[<- aa,<- a0];exact C2
      have aO:FrOk P F (Frame.enter (V P F) f args kind):=by
        rw[<- aa];exact t9 A.code ac args j.2 λ_=>aV
      exact(ih _ ha).1 Fx Sx H S St h (g::l1) bl cs gs' w1 (T1++ops) q1 ak aO aI (ffp M O) pw L1 I1 C3 ad W
     ·exfalso;obtain⟨c',cs',aM⟩:=fc9 (g::l);obtain⟨o,u,aW,he⟩:=aJ args kind v1 true c' cs';exact mc A L1 fi ⟨o,u,aW,by rw[aM];exact he⟩
  | touch t=>
    obtain⟨c0,rfl,rfl⟩:=m;cases l1 with
    | cons f1 l1=>
      have aY:f1=c0/\l'=fkz l1 bl:=by
         cases bl with
         | none=>
           have:c0::l'=f1::l1:=hl;cases this;exact⟨rfl,rfl⟩
         | some y=>
           have:c0::l'=f1::(l1++y.1::y.2.1):=hl;cases this;exact⟨rfl,rfl⟩
      obtain⟨rfl,ak⟩:=aY
      have aA:R=f1::tq l1 cs bl:=by
         rw[<- J];cases bl with
         | none=>rfl
         | some y=>rfl
      rw[aA] at C2;exact(ih _ ha).1 Fx Sx H S St h l1 bl cs gs' w1 (T1++ops) q1 ak (td j (Y f1 fi)).1 (λx hx=>Y x (by simp[hx])) (ffq t M) pw L1 I1 C2 ad W
    | nil=>
      have hk:fr.kind=.normal:=M fr rfl;cases bl with
      | none=>
        have:c0::l'=[]:=hl;cases this
      | some y=>
        obtain⟨D,l2,X⟩:=y;have:c0::l'=D::l2:=hl;cases this;have:X::cs=R:=J;subst this;cases t with
        | fin x=>exact B x v1 w1 H S St gs' (T1++ops) q1 ha I1 hsz1 C2 ad
        | dret=>exact absurd hk O
        | raise ch=>cases aH
  | comm a b c d=>exact absurd rfl (hn a b c d)
end
end Go.Proofs.YtelecjnabeokeaaGreatDoor
namespace Go.Proofs.YtelecjnabeokeaaGreatDoor
open Go Go.Conc
open Go.ConcN (sumTo upd sumTo_upd upd_ne upd_same RelBy)
abbrev rdE (a:Addr):Event:=⟨.cell a,false,true⟩
abbrev wrE (a:Addr):Event:=⟨.cell a,true,true⟩
abbrev mkE (m:Mark):Event:=⟨.mark m,false,true⟩
abbrev K32:Int:=4294967296
abbrev stC (b:Nat):Addr:=⟨b,6,none⟩
abbrev smC (b:Nat):Addr:=⟨b,7,none⟩
def HasS (b:Nat) (w:World):Prop:= ∃c e,w.heap[b]? =some (.cells c e (0,0))/\c.size=8
def wgw (b:Nat) (w:World) (x y:Int):World:={ w with heap:=w.heap.modify b fun
 | .cells c e f=>.cells ((c.setIfInBounds 6 (.int .u64 x)).setIfInBounds 7 (.int .u32 y)) e f
 | o=>o }
structure CellsAt (b:Nat) (u:World) (x y:Int):Prop where
 st:u.cell? (stC b)=some (.int .u64 x)
 sm:u.cell? (smC b)=some (.int .u32 y)
 fst:u.frozen? (stC b)=false
 fsm:u.frozen? (smC b)=false
def WgLv (b:Nat) (u:World):Prop:= ∃x y,CellsAt b u x y
section
variable {b b':Nat} {w:World} {x y x' y':Int}
def yz (h:b'≠b):(wgw b w x y).heap[b']? =w.heap[b']? :=by
 unfold wgw;simp only[fy6];rw[fx9 λe=>h e.symm]
def fgx:(wgw b w x y).heap.size=w.heap.size:=by unfold wgw;simp
def fqh {c:Array Value} {e:TypeId} (h:w.heap[b]? =some (.cells c e (0,0))):(wgw b w x y).heap[b]? =some (.cells ((c.setIfInBounds 6 (.int .u64 x)).setIfInBounds 7 (.int .u32 y)) e (0,0)):=by
 unfold wgw;simp only[fy6,f0e,h,fz3]
def wo (h:HasS b w):CellsAt b (wgw b w x y) x y:=by
 obtain⟨c,e,h,hc⟩:=h;have hb:=fqh (x:=x) (y:=y) h;refine⟨?_,?_,?_,?_⟩
 ·simp[World.cell?,hb,hc]
 ·simp[World.cell?,hb,hc]
 ·simp[World.frozen?,hb]
 ·simp[World.frozen?,hb]
def fdy (h:HasS b w):(wgw b w x y).setCell (stC b) (.int .u64 x')=wgw b w x' y:=by
 obtain⟨c,e,h,hc⟩:=h;unfold World.setCell wgw;simp only[f5a,f2i,true_and];apply f0v;intro i;simp only[fy6];by_cases e:b=i
 ·subst e;simp only[f0e,h,fz3,f03,Obj.cells.injEq,f2i];rw[fx9 fi];apply f0v;intro j;simp only[fy1,f00,hc];by_cases e1:6=j
  ·subst e1;simp
  ·by_cases e2:7=j
   ·subst e2;simp
   ·simp[e1,e2]
 ·simp only[fx9 e]
def fiy (h:HasS b w):(wgw b w x y).setCell (smC b) (.int .u32 y')=wgw b w x y':=by
 obtain⟨c,e,h,hc⟩:=h;unfold World.setCell wgw;simp only[f5a,f2i,true_and];apply f0v;intro i;simp only[fy6];by_cases e:b=i
 ·subst e;simp only[f0e,h,fz3,f03,Obj.cells.injEq,f2i];rw[fx9 fi];apply f0v;intro j;simp only[fy1,f00,hc];by_cases e1:6=j
  ·subst e1;simp
  ·by_cases e2:7=j
   ·subst e2;simp
   ·simp[e1,e2]
 ·simp only[fx9 e]
def ftu (h:HasS b w) (hc:CellsAt b w x y):wgw b w x y=w:=by
 obtain⟨c,e,h,hs⟩:=h;have h1:=hc.st;have h2:=hc.sm;simp only[World.cell?,h] at h1 h2;rw[fx9 fi] at h1 h2;unfold wgw;have: ∀w':World,w'.heap=w.heap->w'.tape=w.tape->w'.drawn=w.drawn->w'.os=w.os->w'.output=w.output->w'=w:=λw' a b c d e=>by cases w';cases w;simp_all
 refine this _ ?_ rfl rfl rfl rfl;apply f0v;intro i;simp only[fy6];by_cases e:b=i
 ·subst e;simp only[f0e,h,fz3,f03,Obj.cells.injEq,f2i];apply f0v;intro j;simp only[fy1,f00];by_cases e1:7=j
  ·subst e1;rw[h2];simp[hs]
  ·by_cases e2:6=j
   ·subst e2;rw[h1];simp[hs]
   ·simp[e1,e2]
 ·simp only[fx9 e]
def fbn (d:Nat):(wgw b w x y).at d=wgw b (w.at d) x y:=rfl
def CellsAt.at {u:World} (h:CellsAt b u x y) (d:Nat):CellsAt b (u.at d) x y:=⟨h.st,h.sm,h.fst,h.fsm⟩
def CellsAt.lv {u:World} (h:CellsAt b u x y):WgLv b u:=⟨x,y,h⟩
end
def WB (P:Program) (K:World->Prop) (Φ:Goroutine->Nat->Prop):Nat->Goroutine->Nat->Prop
 | 0,g,d=>Φ g d
 | n+1,g,d=>Φ g d\/(g.status=.running/\ ∃g' es,(∀e∈es,Event.mute e=true)/\(∀u,K u->stepG P false g u=.go g' u es)/\WB P K Φ n g' (deafBehind d es))
section
variable (P:Program) (b:Nat)
def AtSm (g:Goroutine) (d:Nat):Prop:=g.status=.running/\1<=d/\mayWake P g=true/\ ∃g',(∀u,CellsAt b u 0 0->stepG P false g u=.go g' (u.setCell (smC b) (.int .u32 1)) (semEvents (smC b)))/\ ∃q,QuitsD P q d g'
def AtSt (g:Goroutine) (d:Nat):Prop:=g.status=.running/\1<=d/\ ∃g',(∀u y,CellsAt b u 1 y->stepG P false g u=.go g' (u.setCell (stC b) (.int .u64 0)) #[wrE (stC b)])/\ ∃m,WB P (WgLv b) (AtSm P b) m g' d
def AtLd (g:Goroutine) (d:Nat):Prop:=g.status=.running/\1<=d/\ ∃g',(∀u y,CellsAt b u 1 y->stepG P false g u=.go g' u #[rdE (stC b)])/\ ∃m,WB P (WgLv b) (AtSt P b) m g' d
def fwj (g:Goroutine) (d:Nat):Prop:=g.status=.running/\1<=d/\ ∀v wt:Nat,wt<=1->v<2147483647-> ∃g',(∀u y,CellsAt b u ((v+1:Nat)*K32+wt) y->stepG P false g u=.go g' (u.setCell (stC b) (.int .u64 ((v:Nat)*K32+wt))) #[rdE (stC b),wrE (stC b)])/\
 (¬(v=0/\wt=1)-> ∃q,QuitsD P q d g')/\((v=0/\wt=1)-> ∃m,WB P (WgLv b) (AtLd P b) m g' d)
def AtRel (g:Goroutine) (d:Nat):Prop:=g.status=.running/\d=0/\ ∃g',(∀u,WgLv b u->stepG P false g u=.go g' u #[mkE (.releaseMerge (stC b))])/\ ∃m,WB P (WgLv b) (fwj P b) m g' 0
end
section
variable (P:Program) (b:Nat) (Shun:Loc->Prop) (St:Nat->Loc->Prop) (S:Nat->Option SeatD)
def EvM (n:Nat) (e:Event):Prop:=(∀x,(MemAct.ofEvent e).touch? =some x->(Shun x.loc/\x.kind≠ .plain)\/((∀g,St g x.loc->x.write=false)/\ ¬Shun x.loc))/\(∀a,e.loc≠ .mark (.release a))/\(MemAct.ofEvent e).low n
structure StepM (w w':World):Prop where
 size:w.heap.size<=w'.heap.size
 seats: ∀i s,S i=some s->w'.heap[s.c]? =w.heap[s.c]? /\ ∀c o,s.D c=some o->w'.heap[c]? =w.heap[c]?
 has:HasS b w->HasS b w'
def OM (Φ:Goroutine->World->Nat->Prop):Nat->Goroutine->World->Nat->Prop
 | 0,g,w,d=>Φ g w d
 | n+1,g,w,d=>Φ g w d\/(g.status=.running/\ ∃g' w' es,(∀x y t,stepG P true g ((wgw b w x y).at t)=.go g' ((wgw b w' x y).at t) es)/\StepM b S w w'/\(∀e∈es,EvM Shun St w'.heap.size e)/\OM Φ n g' w' (deafBehind d es))
variable (Fin Anch:Goroutine->World->Nat->Prop)
def AtW4 (g:Goroutine) (w:World) (d:Nat):Prop:=g.status=.running/\ ∃g',(∀t,stepG P true g ((wgw b w 0 0).at t)=.go g' ((wgw b w 0 0).at t) #[rdE (stC b)])/\ ∃n,OM P b Shun St S Fin n g' w d
def AtW3 (g:Goroutine) (w:World) (d:Nat):Prop:=g.status=.running/\g.offers=none/\(∀x t,stepG P true g ((wgw b w x 0).at t)=.go { g with status:=.blocked } ((wgw b w x 0).at t) #[])/\
 ∃g',(∀t,stepG P true g ((wgw b w 0 1).at t)=.go g' ((wgw b w 0 0).at t) (semEvents (smC b)))/\ ∃n,OM P b Shun St S (AtW4 P b Shun St S Fin) n g' w d
def AtW2 (vs:Nat) (g:Goroutine) (w:World) (d:Nat):Prop:=g.status=.running/\(∃g',(∀t,stepG P true g ((wgw b w (vs*K32) 0).at t)=.go g' ((wgw b w (vs*K32+1) 0).at t) #[rdE (stC b),wrE (stC b)])/\ ∃n,OM P b Shun St S (AtW3 P b Shun St S Fin) n g' w d)/\
 ∀v:Nat,v≠vs->v<2147483648-> ∃g',(∀t,stepG P true g ((wgw b w (v*K32) 0).at t)=.go g' ((wgw b w (v*K32) 0).at t) #[rdE (stC b)])/\Anch g' w d
def AtW1 (g:Goroutine) (w:World) (d:Nat):Prop:=g.status=.running/\ ∀v:Nat,v<2147483648-> ∃g',(∀t,stepG P true g ((wgw b w (v*K32) 0).at t)=.go g' ((wgw b w (v*K32) 0).at t) #[rdE (stC b)])/\
 (v=0-> ∃n,OM P b Shun St S Fin n g' w d)/\(v≠0-> ∃n,OM P b Shun St S (AtW2 P b Shun St S Fin Anch v) n g' w d)
end
section
variable {P:Program} {K:World->Prop} {Φ:Goroutine->Nat->Prop} {n d:Nat} {g:Goroutine}
def WB.status (hΦ: ∀g d,Φ g d->g.status=.running) (h:WB P K Φ n g d):g.status=.running:=by
 cases n with
 | zero=>exact hΦ _ _ h
 | succ n=>exact h.elim (hΦ _ _) (·.1)
end
section
variable (P:Program) (b:Nat) (Shun:Loc->Prop) (St:Nat->Loc->Prop) (Wk:Nat->Prop) (k0:Nat)
def RelD (T:Trace) (i:Nat):Prop:=Wk i-> ∃r,k0<=r/\RelBy (stC b) T i r
def WaySt (s:SeatD) (i n:Nat) (g:Goroutine):Prop:=
 (∃k w0,n=k+1/\Goes P false (RK (Keeps s.D)) (DS (St i) s.B) (λg _=> ∃g₂,AtIn P false (Keeps s.D) (St i) s.B s.seat g g₂) k g w0)\/
    (n=0/\ ∃g0 g2,g={ parked g2 s.seat.cases s.seat.shape with status:=.running }/\AtIn P false (Keeps s.D) (St i) s.B s.seat g0 g2)
inductive Byw (i:Nat) (T:Trace) (w:World) (g:Goroutine):Nat->Nat->Option SeatD->Prop
 | sit {n k:Nat} {s:SeatD}:Sits P false (Keeps s.D) (St i) s.B s.seat n g->w.heap[s.c]? =some (.chan 0 #[] false k k false)->Deaf T i=0->Byw i T w g 8 n (some s)
 | way {n k:Nat} {s:SeatD}:WaySt P St s i n g->w.heap[s.c]? =some (.chan 0 #[] true k k false)->Deaf T i=0->Shut Shun T s.c->Byw i T w g 7 n (some s)
 | on {n:Nat}:KnP Shun T i->WB P (WgLv b) (AtRel P b) n g (Deaf T i)->Byw i T w g 6 n none
 | add {n:Nat}:KnP Shun T i->RelD b Wk k0 T i->WB P (WgLv b) (fwj P b) n g (Deaf T i)->Byw i T w g 5 n none
 | ld {n:Nat}:KnP Shun T i->RelD b Wk k0 T i->WB P (WgLv b) (AtLd P b) n g (Deaf T i)->Byw i T w g 4 n none
 | st {n:Nat}:KnP Shun T i->RelD b Wk k0 T i->WB P (WgLv b) (AtSt P b) n g (Deaf T i)->Byw i T w g 3 n none
 | sm {n:Nat}:KnP Shun T i->RelD b Wk k0 T i->WB P (WgLv b) (AtSm P b) n g (Deaf T i)->Byw i T w g 2 n none
 | out {n:Nat}:RelD b Wk k0 T i->QuitsD P n (Deaf T i) g->Byw i T w g 1 n none
structure Bye (S:Nat->Option SeatD) (R q:Nat->Nat) (a:Goroutine) (T:Trace) (gs:Array Goroutine) (w:World):Prop where
 each: ∀i g,i≠0->gs[i]? =some g->Byw P b Shun St Wk k0 i T w g (R i) (q i) (S i)
 here:gs[0]? =some a
 past:PastS St Shun u5 w.heap.size 0 T
 rows: ∀i s c o,S i=some s->s.D c=some o-> ∃x e f,o=.cells x e f
 keeps: ∀i s,S i=some s->Keeps s.D w
 apart: ∀i s,S i=some s->s.D b=none/\s.c≠b
 inj: ∀i i' s s',S i=some s->S i'=some s'->s.c=s'.c->i=i'
 low: ∀i s,S i=some s->s.B<=w.heap.size/\s.c<w.heap.size
 above: ∀j,gs.size<=j->Deaf T j=0
 has:HasS b w
 shun:Shun (.cell (stC b))/\Shun (.cell (smC b))
 norel: ∀k,k0<=k->T.act? k≠some (.mark (.release (stC b)))
 k0le:k0<=T.size
 after: ∀i s,S i=some s-> ∀g2,s.home g2-> ∃m,WB P (WgLv b) (AtRel P b) m (Go.Conc.served g2 (recvd s.ok s.z false)) 0
 zero:S 0=none/\R 0=0
end
section
variable {P:Program} {b:Nat} {Shun:Loc->Prop} {St:Nat->Loc->Prop} {Wk:Nat->Prop} {k0:Nat} {S:Nat->Option SeatD} {R q:Nat->Nat} {a:Goroutine} {T:Trace} {gs:Array Goroutine} {w:World} {x y x' y':Int}
def tz: ∀g d,AtRel P b g d->g.status=.running:=λ_ _ h=>h.1
def fa0: ∀g d,fwj P b g d->g.status=.running:=λ_ _ h=>h.1
def fca: ∀g d,AtLd P b g d->g.status=.running:=λ_ _ h=>h.1
def fcb: ∀g d,AtSt P b g d->g.status=.running:=λ_ _ h=>h.1
def fcc: ∀g d,AtSm P b g d->g.status=.running:=λ_ _ h=>h.1
def Byw.again {i r n:Nat} {os:Option SeatD} {g:Goroutine} {u:World} (h:Byw P b Shun St Wk k0 i T w g r n os) (hk: ∀s,os=some s->Keeps s.D u/\u.heap[s.c]? =w.heap[s.c]?):g.again u=g:=by
 cases h with
 | sit h1 h2 _=>
   refine Sits.again (hk _ rfl).1 h1 (Seat.one_wf _ _ _ _) λc hc=>?_;rw[SeatD.has hc,(hk _ rfl).2];exact⟨_,_,_,_,_,h2⟩
 | way h1 _ _ _=>
   rcases h1 with⟨k,w0,rfl,hg⟩|⟨_,g0,g2,rfl,_⟩
   ·exact f1i (.inl ((f3b (hk _ rfl).1 (.inl ⟨k,w0,rfl,hg⟩)).elim (·.1) λx=>by omega)) u
   ·exact f1i (.inl rfl) u
 | on _ h=>exact f1i (.inl (h.status tz)) u
 | add _ _ h=>exact f1i (.inl (h.status fa0)) u
 | ld _ _ h=>exact f1i (.inl (h.status fca)) u
 | st _ _ h=>exact f1i (.inl (h.status fcb)) u
 | sm _ _ h=>exact f1i (.inl (h.status fcc)) u
 | out _ h=>exact f1i h.status u
def Byw.other {i j r n:Nat} {os:Option SeatD} {g:Goroutine} {ops:Trace} (h:Byw P b Shun St Wk k0 i T w g r n os) (A:j≠i) (q: ∀op∈ops,op.g=j) (m: ∀op∈ops,∀t,op.act.touch? =some t->Shun t.loc->t.kind≠ .plain):
    Byw P b Shun St Wk k0 i (T++ops) w g r n os:=by
 have hD:Deaf (T++ops) i=Deaf T i:=f1g T A ops q
 have hR:RelD b Wk k0 T i->RelD b Wk k0 (T++ops) i:=λh hw=>by
    obtain⟨r,h1,h2⟩:=h hw;exact⟨r,h1,h2.appOther q A⟩
 cases h with
 | sit h1 h2 h3=>exact .sit h1 h2 (hD.trans h3)
 | way h1 h2 h3 h4=>exact .way h1 h2 (hD.trans h3) (h4.app m)
 | on h1 h2=>exact .on (h1.app m) (by rw[hD];exact h2)
 | add h1 h2 h3=>exact .add (h1.app m) (hR h2) qh
 | ld h1 h2 h3=>exact .ld (h1.app m) (hR h2) qh
 | st h1 h2 h3=>exact .st (h1.app m) (hR h2) qh
 | sm h1 h2 h3=>exact .sm (h1.app m) (hR h2) qh
 | out h2 h3=>exact .out (hR h2) qh
def fa1 {ops:Trace} (h: ∀k,k0<=k->T.act? k≠some (.mark (.release (stC b)))) (hu: ∀op∈ops,op.act≠ .mark (.release (stC b))): ∀k,k0<=k->(T++ops).act? k≠some (.mark (.release (stC b))):=by
 intro k hk e;obtain⟨op,ho,e2⟩:=fy8.1 e;rcases f07 ho with⟨_,h1⟩|⟨_,h1⟩
 ·exact h k hk (by rw[act?_of h1,e2])
 ·exact hu op h1 e2
def Woke (a a':Goroutine):Prop:=a'=a\/(a.status=.blocked/\a'={ a with status:=.running })
def woke_of {P:Program} {g g' a:Goroutine} {u:World} (h:a.status=.running\/(a.status=.blocked/\a.offers=none)):Woke a (woken P g g' u a):=by
 unfold woken;split
 ·rcases h with h|⟨h1,h2⟩
  ·exact .inl (f1i (.inl h) u)
  ·refine .inr ⟨h1,?_⟩;unfold Goroutine.again;rw[h1,h2]
 ·exact .inl rfl
def Bye.put (C:Bye P b Shun St Wk k0 S R q a T gs w) {i r' n':Nat} {g g':Goroutine} {es:Array Event} {d:Nat} {sl:Option (Nat×Nat)} {os':Option SeatD} (ha:a.status=.running\/(a.status=.blocked/\a.offers=none)) (hi:gs[i]? =some g) (m:i≠0)
    (Y:stepG P false g ((wgw b w x y).at d)=.go g' ((wgw b w x' y').at d) es) (J:os'=S i\/os'=none)
    (O:Byw P b Shun St Wk k0 i (T++MemOp.ofEvents i g.frame.fn g.frame.place es) w g' r' n' os')
    (B:PastS St Shun u5 w.heap.size 0 (T++MemOp.ofEvents i g.frame.fn g.frame.place es)) (M: ∀op∈MemOp.ofEvents i g.frame.fn g.frame.place es,∀t,op.act.touch? =some t->Shun t.loc->t.kind≠ .plain) (U: ∀op∈MemOp.ofEvents i g.frame.fn g.frame.place es,op.act≠ .mark (.release (stC b))):
    ∃ gs' a',runT P (crowd gs ((wgw b w x y).at d) sl) i=(.next (crowd gs' ((wgw b w x' y').at d) sl),MemOp.ofEvents i g.frame.fn g.frame.place es)/\gs'.size=gs.size/\Woke a a'/\(mayWake P g=true->g'.status=.running\/g'.status=.finished->a'.status=.running)/\
      Bye P b Shun St Wk k0 (upd S i os') (upd R i r') (upd q i n') a' (T++MemOp.ofEvents i g.frame.fn g.frame.place es) gs' w:=by
 have hlt:i<gs.size:=(fx5.1 hi).1;have D:(i==0)=false:=by simp[m]
 have A: ∀op∈MemOp.ofEvents i g.frame.fn g.frame.place es,op.g=i:=λop W=>by obtain⟨e,_,rfl⟩:=fz7 W;rfl
 have hS: ∀j s,upd S i os' j=some s->S j=some s:=λj s e=>by
    by_cases h:j=i
    ·subst h;rw[f0b] at e;rcases J with h|h
     ·rw[<- h];exact e
     ·rw[h] at e;cases e
    ·rw[f0p S _ h] at e;exact e
 refine⟨_,woken P g g' ((wgw b w x' y').at d) a,f5t (sl:=sl) hi (by rw[D];exact Y),by simp,woke_of ha,λh1 h2=>?_,?_⟩
 ·unfold woken;rw[f02 (by rcases h2 with h2|h2 <;>rw[h1,h2] <;>rfl)];rcases ha with ha|⟨e1,e2⟩
  ·rw[f1i (.inl ha)];exact ha
  ·unfold Goroutine.again;rw[e1,e2]
 ·refine⟨λj y hj hy=>?_,?_,B,λj s c o e=>C.rows j s c o (hS j s e),λj s e=>C.keeps j s (hS j s e),λj s e=>C.apart j s (hS j s e),λj j' s s' e e'=>C.inj j j' s s' (hS j s e) (hS j' s' e'),λj s e=>C.low j s (hS j s e),λj hj=>?_,C.has,C.shun,fa1 C.norel U,?_,λj s e=>C.after j s (hS j s e),?_⟩
  ·by_cases e:j=i
   ·subst e;rw[fy5 qj] at hy;obtain rfl:=fy7 hy;rw[f0b,f0b,f0b];exact O
   ·rw[fy4 (λx=>e x.symm),f2c] at hy;obtain⟨y0,X,rfl⟩:=fy8.1 hy;have h0:=C.each j y0 hj X;rw[f5m (h0.again λs hs=>⟨λc o hc=>?_,?_⟩),f0p S _ e,f0p R _ e,f0p q _ e]
    ·exact h0.other (λx=>e x.symm) A M
    ·have I:c≠b:=λz=>by subst z;rw[(C.apart j s hs).1] at hc;cases hc
     show(wgw b w x' y').heap[c]? =_;rw[yz I];exact C.keeps j s hs c o hc
    ·show(wgw b w x' y').heap[s.c]? =_;exact yz (C.apart j s hs).2
  ·rw[fy4 m,f2c,C.here];rfl
  ·simp only[f00,Array.size_map] at hj;rw[f1g T (g':=i) fe _ A];exact C.above j hj
  ·rw[f5v];exact f4s C.k0le
  ·rw[f0p S _ (λe=>m e.symm),f0p R _ (λe=>m e.symm)];exact C.zero
end
end Go.Proofs.YtelecjnabeokeaaGreatDoor
namespace Go.Proofs.YtelecjnabeokeaaGreatDoor
open Go Go.Conc
open Go.ConcN (sumTo upd sumTo_upd upd_ne upd_same RelBy le_sumTo)
def cntR (r:Nat):Nat:=if 5<=r then 1 else 0
def VC (n:Nat) (R:Nat->Nat):Nat:=sumTo n λi=>cntR (R i)
inductive Md (n:Nat) (R:Nat->Nat):Bool->Int->Int->Prop
 | opn:(∀i,i<n->R i<=1\/5<=R i)->Md n R false ((VC n R:Nat)*K32) 0
 | reg:(∀i,i<n->R i<=1\/5<=R i)->1<=VC n R->Md n R true ((VC n R:Nat)*K32+1) 0
 | last (L:Nat):L<n->(R L=4\/R L=3\/R L=2)->(∀i,i<n->i≠L->R i<=1)->Md n R true (if R L=2 then 0 else 1) 0
 | sema:(∀i,i<n->R i<=1)->Md n R true 0 1
section
variable {n:Nat} {R:Nat->Nat}
def ffr {i r:Nat} (hi:i<n):VC n (upd R i r)+cntR (R i)=VC n R+cntR r:=by
 have:=f1f R r cntR hi;simpa[VC] using this
def ftv {i r:Nat} (hi:i<n):sumTo n (upd R i r)+R i=sumTo n R+r:=by
 have:=f1f R r id hi;simpa using this
def i6 (h: ∀i,i<n->R i<5):VC n R=0:=by
 unfold VC
 have: ∀m,m<=n->sumTo m (λi=>cntR (R i))=0:=λm=>by
    induction m with
    | zero=>intro _;rfl
    | succ m ih=>
      intro hm;show sumTo m _+cntR (R m)=0;rw[ih fe];unfold cntR;rw[fx9 (by have:=h m fe;omega)]
 exact this n (fx8 _)
def fvz {i:Nat} (hi:i<n) (h:5<=R i):1<=VC n R:=by
 have:=le_sumTo (f:=λi=>cntR (R i)) hi;unfold VC;simp only[cntR,f02 h] at this ⊢;exact this
def fqi (h:VC n R=0) {i:Nat} (hi:i<n):R i<5:=by
 rcases f01 (R i) 5 with h1|h1
 ·exact h1
 ·have:=fvz hi h1;omega
def fdz {i r m:Nat} (h: ∀j,j<n->R j<=1\/5<=R j) (hr:r<=1\/5<=r): ∀j,j<n->upd R i r j<=1\/5<=upd R i r j:=λj hj=>by
 by_cases e:j=i
 ·subst e;rw[f0b];exact hr
 ·rw[f0p R _ e];exact h j hj
end
section
variable {P:Program} {b:Nat} {Shun:Loc->Prop} {St:Nat->Loc->Prop} {Wk:Nat->Prop} {k0:Nat} {S:Nat->Option SeatD} {R q:Nat->Nat} {a:Goroutine} {T:Trace} {gs:Array Goroutine} {w:World} {x y x' y':Int}
def Byw.noSend {i r n:Nat} {os:Option SeatD} {g:Goroutine} (h:Byw P b Shun St Wk k0 i T w g r n os) (hk: ∀s,os=some s->Keeps s.D w) (c:Nat):offersAt g c true=[]:=by
 have hn:g.status≠ .blocked->offersAt g c true=[]:=λh=>f0l h c true;cases h with
 | sit h1 _ _=>
   rcases h1 with⟨k,w₀,hq,hg⟩|⟨_,_,g₂,rfl,_⟩
   ·have:=(f3b (hk _ rfl) (.inl ⟨k,w₀,hq,hg⟩)).elim (·.1) (λz=>by omega);exact hn (by rw[this];simp)
   ·exact offersAt_parked_recv' _ _ _ _ _
 | way h1 _ _ _=>
   rcases h1 with⟨k,w0,rfl,hg⟩|⟨_,g0,g2,rfl,_⟩
   ·have:=(f3b (hk _ rfl) (.inl ⟨k,w0,rfl,hg⟩)).elim (·.1) (λz=>by omega);exact hn (by rw[this];simp)
   ·exact hn fi
 | on _ h=>exact hn (by rw[h.status tz];simp)
 | add _ _ h=>exact hn (by rw[h.status fa0];simp)
 | ld _ _ h=>exact hn (by rw[h.status fca];simp)
 | st _ _ h=>exact hn (by rw[h.status fcb];simp)
 | sm _ _ h=>exact hn (by rw[h.status fcc];simp)
 | out _ h=>exact hn (by rcases h.status with e|e <;>rw[e] <;>simp)
def Bye.noSend (C:Bye P b Shun St Wk k0 S R q a T gs w) (ha:a.status=.running\/(a.status=.blocked/\a.offers=none)) (i c:Nat):partners (gs.setIfInBounds i ph) c true=[]:=by
 refine partners_nil λx y hy=>?_;rcases getElem?_stand gs i x y hy with⟨_,rfl⟩|⟨hx,j⟩
 ·exact offersAt_ph _ _
 ·by_cases e:x=0
  ·subst e;rw[C.here] at j;obtain rfl:=fy7 j;rcases ha with h|⟨h1,h2⟩
   ·exact f0l (by rw[h];simp) _ _
   ·unfold offersAt;rw[h1,h2]
  ·exact(C.each x y e j).noSend (λs hs=>C.keeps x s hs) c
def Bye.set (C:Bye P b Shun St Wk k0 S R q a T gs w) {i r' n':Nat} {g':Goroutine} {ops:Trace} {os':Option SeatD} (hlt:i<gs.size) (B:i≠0) (D:os'=S i\/os'=none) (m: ∀op∈ops,op.g=i)
    (J:Byw P b Shun St Wk k0 i (T++ops) w g' r' n' os') (A:PastS St Shun u5 w.heap.size 0 (T++ops)) (I: ∀op∈ops,∀t,op.act.touch? =some t->Shun t.loc->t.kind≠ .plain) (M: ∀op∈ops,op.act≠ .mark (.release (stC b))):
    Bye P b Shun St Wk k0 (upd S i os') (upd R i r') (upd q i n') a (T++ops) (gs.setIfInBounds i g') w:=by
 have hS: ∀j s,upd S i os' j=some s->S j=some s:=λj s e=>by
    by_cases h:j=i
    ·subst h;rw[f0b] at e;rcases D with h|h
     ·rw[<- h];exact e
     ·rw[h] at e;cases e
    ·rw[f0p S _ h] at e;exact e
 refine⟨λj y hj hy=>?_,?_,A,λj s c o e=>C.rows j s c o (hS j s e),λj s e=>C.keeps j s (hS j s e),λj s e=>C.apart j s (hS j s e),λj j' s s' e e'=>C.inj j j' s s' (hS j s e) (hS j' s' e'),λj s e=>C.low j s (hS j s e),λj hj=>?_,C.has,C.shun,fa1 C.norel M,?_,λj s e=>C.after j s (hS j s e),?_⟩
 ·by_cases e:j=i
  ·subst e;rw[fy5 hlt] at hy;obtain rfl:=fy7 hy;rw[f0b,f0b,f0b];exact J
  ·rw[fy4 (λx=>e x.symm)] at hy;rw[f0p S _ e,f0p R _ e,f0p q _ e];exact(C.each j y hj hy).other (λx=>e x.symm) m I
 ·rw[fy4 B];exact C.here
 ·simp only[f00] at hj;rw[f1g T (g':=i) fe _ m];exact C.above j hj
 ·rw[f5v];exact f4s C.k0le
 ·rw[f0p S _ (λe=>B e.symm),f0p R _ (λe=>B e.symm)];exact C.zero
def ftw {i:Nat} {fn:FuncId} {pos:String} {es:Array Event} (hm: ∀e∈es,Event.mute e=true):(∀op∈MemOp.ofEvents i fn pos es,op.g=i)/\(∀op∈MemOp.ofEvents i fn pos es,op.act.touch? =none)/\(∀op∈MemOp.ofEvents i fn pos es,∀c,op.act≠ .mark (.release c))/\ ∀B,∀op∈MemOp.ofEvents i fn pos es,op.act.low B:=by
 refine⟨λop j=>?_,λop j=>?_,λop j c=>?_,λB op j=>?_⟩
 ·obtain⟨e,_,rfl⟩:=fz7 j;rfl
 ·obtain⟨e,he,rfl⟩:=fz7 j;exact touch_mute (hm e he)
 ·obtain⟨e,he,rfl⟩:=fz7 j;have:=hm e he;obtain⟨l,wr,sy⟩:=e;cases l with
  | mark m=>cases m <;>first|(cases this;done)|(intro h;cases h)
  | _=>cases this
 ·obtain⟨e,he,rfl⟩:=fz7 j;exact low_mute (hm e he) _
def AtmE (b d:Nat) (es:Array Event):Prop:= ∀j e,es[j]? =some e->((MemAct.ofEvent e).touch? =none/\(∀B,(MemAct.ofEvent e).low B)/\ ∀c,MemAct.ofEvent e≠ .mark (.release c))\/((∃wr,e=⟨.cell (stC b),wr,true⟩\/e=⟨.cell (smC b),wr,true⟩)/\0<deafBehind d (es.extract 0 j))
def atmE_rd {b d:Nat} (hd:1<=d):AtmE b d #[rdE (stC b)]:=by
 intro j e he;rcases j with _|j
 ·simp at he;subst he;exact .inr ⟨⟨false,.inl rfl⟩,hd⟩
 ·simp at he
def atmE_wr {b d:Nat} (hd:1<=d):AtmE b d #[wrE (stC b)]:=by
 intro j e he;rcases j with _|j
 ·simp at he;subst he;exact .inr ⟨⟨true,.inl rfl⟩,hd⟩
 ·simp at he
def atmE_rw {b d:Nat} (hd:1<=d):AtmE b d #[rdE (stC b),wrE (stC b)]:=by
 intro j e he;rcases j with _|_|j
 ·simp at he;subst he;exact .inr ⟨⟨false,.inl rfl⟩,hd⟩
 ·simp at he;subst he;exact .inr ⟨⟨true,.inl rfl⟩,hd⟩
 ·simp at he
def ftx {b d:Nat}:AtmE b d (semEvents (smC b)):=by
 intro j e he;rcases j with _|_|_|_|j
 ·simp[semEvents] at he;subst he;exact .inl ⟨rfl,λ_=>trivial,λc h=>by cases h⟩
 ·simp[semEvents] at he;subst he;exact .inr ⟨⟨false,.inr rfl⟩,by show 0<d+1;omega⟩
 ·simp[semEvents] at he;subst he;exact .inr ⟨⟨true,.inr rfl⟩,by show 0<d+1;omega⟩
 ·simp[semEvents] at he;subst he;exact .inl ⟨rfl,λ_=>trivial,λc h=>by cases h⟩
 ·simp[semEvents] at he
def fmg {b d:Nat}:deafBehind d (semEvents (smC b))=d:=by show d+1-1=d;omega
def fcd {i:Nat} {fn:FuncId} {pos:String} {es:Array Event} (H:PastS St Shun u5 w.heap.size 0 T) (hs:HasS b w) (J:Shun (.cell (stC b))/\Shun (.cell (smC b))) (hk:KnP Shun T i) (h:AtmE b (Deaf T i) es):
    PastS St Shun u5 w.heap.size 0 (T++MemOp.ofEvents i fn pos es)/\(∀op∈MemOp.ofEvents i fn pos es,∀t,op.act.touch? =some t->Shun t.loc->t.kind≠ .plain)/\(∀op∈MemOp.ofEvents i fn pos es,op.act≠ .mark (.release (stC b)))/\
     ∀r,RelBy (stC b) T i r->RelBy (stC b) (T++MemOp.ofEvents i fn pos es) i r:=by
 have A: ∀e∈es,((MemAct.ofEvent e).touch? =none/\(∀B,(MemAct.ofEvent e).low B)/\ ∀c,MemAct.ofEvent e≠ .mark (.release c))\/(∃wr,e=⟨.cell (stC b),wr,true⟩\/e=⟨.cell (smC b),wr,true⟩):=λe he=>by
    obtain⟨j,hj,rfl⟩:=Array.mem_iff_getElem.1 he;exact(h j _ (fz1 hj)).imp id (·.1)
 have C:b<w.heap.size:=by obtain⟨c,e,h,_⟩:=hs;exact(fx5.1 h).1
 have q: ∀e∈es,∀t,(MemAct.ofEvent e).touch? =some t->Shun t.loc/\t.kind=.atomic:=λe he t ht=>by
    rcases A e he with⟨h1,_⟩|⟨wr,rfl|rfl⟩
    ·rw[h1] at ht;cases ht
    ·cases wr <;>(simp[MemAct.ofEvent,MemAct.touch?] at ht;subst ht;exact⟨J.1,rfl⟩)
    ·cases wr <;>(simp[MemAct.ofEvent,MemAct.touch?] at ht;subst ht;exact⟨J.2,rfl⟩)
 have D: ∀op∈MemOp.ofEvents i fn pos es,op.g=i:=λop m=>by obtain⟨e,_,rfl⟩:=fz7 m;rfl
 refine⟨H.appShunW D (λop m t ht=>?_) (λk op I M=>?_) hk (λhh=>hh.elim) (λop m=>?_),λop m t ht _=>?_,λop m=>?_,λr hr=>hr.appOwn fn pos es λj e he=>?_⟩
 ·obtain⟨e,he,rfl⟩:=fz7 m;exact q e he t ht
 ·rw[ofEvents_eq,f2c] at I;obtain⟨e,he,rfl⟩:=fy8.1 I;have hj:k<=es.size:=by
   rcases f01 k es.size with h'|h'
   ·omega
   ·rw[f09 h'] at he;cases he
  rw[deaf_inside T i fn pos es k hj];rcases h k e he with⟨h1,_⟩|⟨_,h2⟩
  ·exact absurd h1 M
  ·omega
 ·obtain⟨e,he,rfl⟩:=fz7 m;rcases A e he with⟨_,h1,_⟩|⟨wr,rfl|rfl⟩
  ·exact h1 _
  ·cases wr <;>exact C
  ·cases wr <;>exact C
 ·obtain⟨e,he,rfl⟩:=fz7 m;rw[(q e he t ht).2];simp
 ·obtain⟨e,he,rfl⟩:=fz7 m;rcases A e he with⟨_,_,h1⟩|⟨wr,rfl|rfl⟩
  ·exact h1 _
  ·cases wr <;>(intro h;simp[MemAct.ofEvent] at h)
  ·cases wr <;>(intro h;simp[MemAct.ofEvent] at h)
 ·rcases h j e he with⟨h1,_⟩|⟨⟨wr,h2⟩,h3⟩
  ·exact .inl h1
  ·refine .inr ⟨?_,h3⟩;rcases h2 with rfl|rfl
   ·exact⟨_,_,rfl⟩
   ·exact⟨_,_,rfl⟩
end
def fiz {α:Type} (f:Nat->α) (i:Nat):upd f i (f i)=f:=by
 funext j
 by_cases e:j=i
 ·subst e;rw[f0b]
 ·rw[f0p f _ e]
section
variable {P:Program} {b:Nat} {Shun:Loc->Prop} {St:Nat->Loc->Prop} {Wk:Nat->Prop} {k0:Nat} {S:Nat->Option SeatD} {R q:Nat->Nat} {a:Goroutine} {T:Trace} {gs:Array Goroutine} {w:World} {x y x' y':Int}
def fmh (P:Program) (b:Nat) (Shun:Loc->Prop) (St:Nat->Loc->Prop) (Wk:Nat->Prop) (k0:Nat) (S:Nat->Option SeatD) (R q:Nat->Nat) (a:Goroutine) (T:Trace) (gs:Array Goroutine) (w:World) (x y:Int) (reg:Bool) (d:Nat) (sl:Option (Nat×Nat)) (i:Nat):Prop:=
 ∃ gs' S' R' q' x' y' a' ops,runT P (crowd gs ((wgw b w x y).at d) sl) i=(.next (crowd gs' ((wgw b w x' y').at d) sl),ops)/\gs'.size=gs.size/\Woke a a'/\Bye P b Shun St Wk k0 S' R' q' a' (T++ops) gs' w/\Md gs.size R' reg x' y'/\(∀op∈ops,op.g=i)/\
   (∀j s,S' j=some s->S j=some s)/\((∀j,R j=8->R' j=8/\S' j=S j)/\ ∀j,R' j<=R j)/\VC gs.size R'<=VC gs.size R/\(y=0->y'=1->a'.status=.running)/\(sumTo gs.size R'<sumTo gs.size R\/(R'=R/\sumTo gs.size q'<sumTo gs.size q/\x'=x/\y'=y))
def upd_sub {i:Nat} {os':Option SeatD} (m:os'=S i\/os'=none): ∀j s,upd S i os' j=some s->S j=some s:=λj s e=>by
 by_cases h:j=i
 ·subst h;rw[f0b] at e;rcases m with h|h
  ·rw[<- h];exact e
  ·rw[h] at e;cases e
 ·rw[f0p S _ h] at e;exact e
def Bye.stay (C:Bye P b Shun St Wk k0 S R q a T gs w) {reg:Bool} (M:Md gs.size R reg x y) {i n':Nat} {g g':Goroutine} {es:Array Event} {d:Nat} {sl:Option (Nat×Nat)} (ha:a.status=.running\/(a.status=.blocked/\a.offers=none)) (hi:gs[i]? =some g) (I:i≠0)
    (J:stepG P false g ((wgw b w x y).at d)=.go g' ((wgw b w x y).at d) es) (hn:n'<q i)
    (A:Byw P b Shun St Wk k0 i (T++MemOp.ofEvents i g.frame.fn g.frame.place es) w g' (R i) n' (S i))
    (j:PastS St Shun u5 w.heap.size 0 (T++MemOp.ofEvents i g.frame.fn g.frame.place es)) (m: ∀op∈MemOp.ofEvents i g.frame.fn g.frame.place es,∀t,op.act.touch? =some t->Shun t.loc->t.kind≠ .plain) (B: ∀op∈MemOp.ofEvents i g.frame.fn g.frame.place es,op.act≠ .mark (.release (stC b))):
    fmh P b Shun St Wk k0 S R q a T gs w x y reg d sl i:=by
 have hlt:i<gs.size:=(fx5.1 hi).1;obtain⟨gs',a',h1,h2,h3,h4,h5⟩:=C.put (sl:=sl) ha hi I J (.inl rfl) A j m B;rw[fiz,fiz] at h5;refine⟨gs',S,R,_,x,y,a',_,h1,h2,h3,h5,M,λop D=>by obtain⟨e,_,rfl⟩:=fz7 D;rfl,λ_ _ h=>h,⟨λ_ h=>⟨h,rfl⟩,λ_=>fx8 _⟩,fx8 _,λe1 e2=>qf,.inr ⟨rfl,?_,rfl,rfl⟩⟩;have:=ftv (R:=q) (r:=n') hlt;omega
def Bye.down (C:Bye P b Shun St Wk k0 S R q a T gs w) {reg:Bool} {i r' n':Nat} {g g':Goroutine} {es:Array Event} {d:Nat} {sl:Option (Nat×Nat)} (ha:a.status=.running\/(a.status=.blocked/\a.offers=none)) (hi:gs[i]? =some g) (J:i≠0)
    (O:stepG P false g ((wgw b w x y).at d)=.go g' ((wgw b w x' y').at d) es) (hr:r'<R i) (h8:R i≠8) (M':Md gs.size (upd R i r') reg x' y') (m:y=0->y'=1->mayWake P g=true/\(g'.status=.running\/g'.status=.finished))
    (D:Byw P b Shun St Wk k0 i (T++MemOp.ofEvents i g.frame.fn g.frame.place es) w g' r' n' (S i))
    (A:PastS St Shun u5 w.heap.size 0 (T++MemOp.ofEvents i g.frame.fn g.frame.place es)) (B: ∀op∈MemOp.ofEvents i g.frame.fn g.frame.place es,∀t,op.act.touch? =some t->Shun t.loc->t.kind≠ .plain) (I: ∀op∈MemOp.ofEvents i g.frame.fn g.frame.place es,op.act≠ .mark (.release (stC b))):
    fmh P b Shun St Wk k0 S R q a T gs w x y reg d sl i:=by
 have hlt:i<gs.size:=(fx5.1 hi).1;obtain⟨gs',a',h1,h2,h3,h4,h5⟩:=C.put (sl:=sl) ha hi J O (.inl rfl) D A B I;rw[fiz] at h5;have hv:=ffr (R:=R) (r:=r') hlt;have U:=ftv (R:=R) (r:=r') hlt;have hc:cntR r'<=cntR (R i):=by unfold cntR;split <;>split <;>omega
 exact⟨gs',S,_,_,x',y',a',_,h1,h2,h3,h5,M',λop M=>by obtain⟨e,_,rfl⟩:=fz7 M;rfl,λ_ _ h=>h,⟨λj hj=>⟨by rw[f0p R _ (λe=>by subst e;exact h8 hj)];exact hj,rfl⟩,λj=>by
    by_cases e:j=i
    ·subst e;rw[f0b];omega
    ·rw[f0p R _ e];exact fx8 _⟩,by omega,λe1 e2=>h4 (m e1 e2).1 (m e1 e2).2,.inl fe⟩
def WB.next {Φ:Goroutine->Nat->Prop} {n dd:Nat} {g:Goroutine} (h:WB P (WgLv b) Φ n g dd):Φ g dd\/ ∃m g' es,n=m+1/\(∀e∈es,Event.mute e=true)/\(∀u,WgLv b u->stepG P false g u=.go g' u es)/\WB P (WgLv b) Φ m g' (deafBehind dd es):=by
 cases n with
 | zero=>exact .inl h
 | succ n=>
   rcases h with h|⟨_,g',es,h1,h2,h3⟩
   ·exact .inl h
   ·exact .inr ⟨n,g',es,rfl,h1,h2,h3⟩
def Bye.seated (C:Bye P b Shun St Wk k0 S R q a T gs w) {i:Nat} {s:SeatD} (hs:S i=some s) (x y:Int) (d:Nat):Keeps s.D ((wgw b w x y).at d)/\((wgw b w x y).at d).heap[s.c]? =w.heap[s.c]? :=by
 obtain⟨h1,h2⟩:=C.apart i s hs;refine⟨λc o hc=>?_,yz h2⟩;have j:c≠b:=λz=>by subst z;rw[h1] at hc;cases hc
 show(wgw b w x y).heap[c]? =_;rw[yz j];exact C.keeps i s hs c o hc
def fmi (C:Bye P b Shun St Wk k0 S R q a T gs w) {reg:Bool} (M:Md gs.size R reg x y) (a4:VC gs.size R<2147483647) {i:Nat} {g:Goroutine} {d:Nat} {sl:Option (Nat×Nat)} (ha:a.status=.running\/(a.status=.blocked/\a.offers=none)) (hi:gs[i]? =some g) (W:i≠0) (hrun:g.status=.running):
    fmh P b Shun St Wk k0 S R q a T gs w x y reg d sl i:=by
 have hlt:i<gs.size:=(fx5.1 hi).1;have aK:(i==0)=false:=by simp[W]
 have J:=(wo (x:=x) (y:=y) C.has).at d;have aI:=C.each i g W hi;have mute: ∀{es:Array Event},(∀e∈es,Event.mute e=true)->(∀op∈MemOp.ofEvents i g.frame.fn g.frame.place es,op.act.touch? =none)/\PastS St Shun u5 w.heap.size 0 (T++MemOp.ofEvents i g.frame.fn g.frame.place es)/\(∀op∈MemOp.ofEvents i g.frame.fn g.frame.place es,∀t,op.act.touch? =some t->Shun t.loc->t.kind≠ .plain)/\
  (∀op∈MemOp.ofEvents i g.frame.fn g.frame.place es,op.act≠ .mark (.release (stC b)))/\(KnP Shun T i->KnP Shun (T++MemOp.ofEvents i g.frame.fn g.frame.place es) i)/\(RelD b Wk k0 T i->RelD b Wk k0 (T++MemOp.ofEvents i g.frame.fn g.frame.place es) i):=λ{es} hm=>by
    obtain⟨m1,m2,m3,m4⟩:=ftw (i:=i) (fn:=g.frame.fn) (pos:=g.frame.place) hm;have ak: ∀op∈MemOp.ofEvents i g.frame.fn g.frame.place es,∀t,op.act.touch? =some t->Shun t.loc->t.kind≠ .plain:=λop A t ht=>by rw[m2 op A] at ht;cases ht
    refine⟨m2,C.past.appMute m1 m2 (λhh=>hh.elim) (m4 _),ak,λop A=>m3 op A _,λh=>h.app ak,λh hw=>?_⟩;obtain⟨r,h1,h2⟩:=h hw;exact⟨r,h1,h2.appOwn _ _ _ λj e he=>.inl (touch_mute (hm e (Array.mem_of_getElem? he)))⟩
 have hR: ∀{r:Nat},Byw P b Shun St Wk k0 i T w g r (q i) (S i)->True:=λ_=>trivial;generalize X:R i=r at aI
 generalize O:S i=os at aI
 generalize a0:q i=n at aI
 cases aI with
 | @sit _ k s h1 h2 h3=>
   obtain⟨hK,aL⟩:=C.seated O x y d;obtain⟨k,w₀,hn,hg⟩: ∃k w₀,n=k+1/\Goes P false (RK (Keeps s.D)) (DS (St i) s.B) (λg _=> ∃g₂,AtIn P false (Keeps s.D) (St i) s.B s.seat g g₂) k g w₀:=by
    rcases h1 with h|⟨_,_,g₂,rfl,_⟩
    ·exact h
    ·cases hrun
   have hB:=(C.low i s O).1;have evs: ∀es:Array Event,(∀e∈es,EvC (St i) s.B e)->PastS St Shun u5 w.heap.size 0 (T++MemOp.ofEvents i g.frame.fn g.frame.place es)/\(∀op∈MemOp.ofEvents i g.frame.fn g.frame.place es,∀t,op.act.touch? =some t->Shun t.loc->t.kind≠ .plain)/\(∀op∈MemOp.ofEvents i g.frame.fn g.frame.place es,op.act≠ .mark (.release (stC b)))/\Deaf (T++MemOp.ofEvents i g.frame.fn g.frame.place es) i=0/\ ∀op∈MemOp.ofEvents i g.frame.fn g.frame.place es,op.g=i:=λes U=>by
    obtain⟨e1,e2,e3,e4⟩:=evC_ops (i:=i) (fn:=g.frame.fn) (pos:=g.frame.place) (λe he=>fgu (U e he) hB);refine⟨C.past.appRead e1 e2 (f7f U) (λhh=>hh.elim) e3,λop A t ht hs=>absurd hs (C.past.apart i _ (e2 op A t ht).2),λop A=>?_,(e4 T).trans h3,e1⟩;obtain⟨e,he,rfl⟩:=fz7 A;obtain⟨c,rfl,_⟩:=U e he;intro h;cases h
   have aA:(∃g₂,AtIn P false (Keeps s.D) (St i) s.B s.seat g g₂)\/ ∃k' g' es,k=k'+1/\stepG P false g ((wgw b w x y).at d)=.go g' ((wgw b w x y).at d) es/\(∀e∈es,EvC (St i) s.B e)/\Goes P false (RK (Keeps s.D)) (DS (St i) s.B) (λg _=> ∃g₂,AtIn P false (Keeps s.D) (St i) s.B s.seat g g₂) k' g' ((wgw b w x y).at d):=by
    cases k with
    | zero=>exact .inl (hg _ hK)
    | succ k'=>
      rcases hg with aB|⟨_,ap⟩
      ·exact .inl (aB _ hK)
      ·have hs:=ap _ hK;cases ae:stepG P false g ((wgw b w x y).at d) with
       | go g' w' es=>
         rw[ae,goes_go] at hs;obtain⟨⟨rfl,U⟩,aD⟩:=hs;exact .inr ⟨k',g',es,rfl,rfl,U,aD⟩
       | _=>rw[ae] at hs;exact hs.elim
   rcases aA with⟨g₂,ad⟩|⟨k',g',es,rfl,ae,U,aD⟩
   ·obtain⟨_,_,_,_,_,es,U,Y⟩:=id ad;obtain⟨p1,p2,p3,p4,p5⟩:=evs es U
    have hw: ∀cc∈s.seat.cases,NoWays ((wgw b w x y).at d) (gs.setIfInBounds i ph) cc:=by
       intro cc aS;obtain rfl:cc=rcase s.c s.z:=by simpa[SeatD.seat,Seat.one] using aS
       exact ways_recv_none (aL.trans h2) (C.noSend ha i s.c)
    have an:=crowd_waits (sl:=sl) hi (by rw[aK];exact Y _ hK) hw;have aJ:=C.set (ops:=MemOp.ofEvents i g.frame.fn g.frame.place es) (g':=parked g₂ s.seat.cases s.seat.shape) (r':=8) (n':=0) (os':=some s) hlt W (.inl O.symm) p5 (.sit (.inr ⟨rfl,g,g₂,rfl,ad⟩) h2 p4) p1 p2 p3;rw[<- O,fiz,<- X,fiz] at aJ;refine⟨_,S,R,_,x,y,a,_,an,by simp,.inl rfl,aJ,M,p5,λ_ _ h=>h,⟨λ_ h=>⟨h,rfl⟩,λ_=>fx8 _⟩,fx8 _,λe1 e2=>qf,.inr ⟨rfl,?_,rfl,rfl⟩⟩;have:=ftv (R:=q) (r:=0) hlt;omega
   ·obtain⟨p1,p2,p3,p4,p5⟩:=evs es U;refine C.stay (n':=k'+1) M ha hi W ae fe ?_ p1 p2 p3;rw[X,O];exact .sit (.inl ⟨k',_,rfl,aD⟩) h2 p4
 | @way _ k s h1 h2 h3 h4=>
   obtain⟨hK,aL⟩:=C.seated O x y d;have hB:=(C.low i s O).1;have evs: ∀es:Array Event,(∀e∈es,EvC (St i) s.B e)->PastS St Shun u5 w.heap.size 0 (T++MemOp.ofEvents i g.frame.fn g.frame.place es)/\(∀op∈MemOp.ofEvents i g.frame.fn g.frame.place es,∀t,op.act.touch? =some t->Shun t.loc->t.kind≠ .plain)/\(∀op∈MemOp.ofEvents i g.frame.fn g.frame.place es,op.act≠ .mark (.release (stC b)))/\Deaf (T++MemOp.ofEvents i g.frame.fn g.frame.place es) i=0/\ ∀op∈MemOp.ofEvents i g.frame.fn g.frame.place es,op.g=i:=λes U=>by
    obtain⟨e1,e2,e3,e4⟩:=evC_ops (i:=i) (fn:=g.frame.fn) (pos:=g.frame.place) (λe he=>fgu (U e he) hB);refine⟨C.past.appRead e1 e2 (f7f U) (λhh=>hh.elim) e3,λop A t ht hs=>absurd hs (C.past.apart i _ (e2 op A t ht).2),λop A=>?_,(e4 T).trans h3,e1⟩;obtain⟨e,he,rfl⟩:=fz7 A;obtain⟨c,rfl,_⟩:=U e he;intro h;cases h
   have take: ∀g₂ es,s.home g₂->(∀e∈es,EvC (St i) s.B e)->stepG P false g ((wgw b w x y).at d)=.comm g₂ s.seat.cases true s.seat.shape ((wgw b w x y).at d) es->fmh P b Shun St Wk k0 S R q a T gs w x y reg d sl i:=λg₂ es aN U Y=>by
    obtain⟨p1,p2,p3,p4,p5⟩:=evs es U;have an:=crowd_recv_closed (sl:=sl) (c:=s.c) (z:=s.z) (blocking:=true) (shape:=.recv s.ok) hi (by rw[aK];exact Y) (aL.trans h2) (C.noSend ha i s.c);obtain⟨m,hm⟩:=C.after i s O g₂ aN;generalize aa:MemOp.ofEvents i g.frame.fn g.frame.place es=u at*
    have aG:(T++(u++ #[({ g:=i,fn:=g₂.frame.fn,pos:=g₂.frame.place,act:=.recvClosed s.c }:MemOp)]))[T.size+u.size]? =some { g:=i,fn:=g₂.frame.fn,pos:=g₂.frame.place,act:=.recvClosed s.c }:=by
        rw[at_new];simp
    have aP: ∀op∈u++ #[({ g:=i,fn:=g₂.frame.fn,pos:=g₂.frame.place,act:=.recvClosed s.c }:MemOp)],op.g=i:=λop A=>by
        rcases f4c.1 A with h|h
        ·exact p5 op h
        ·simp at h;subst h;rfl
    have ak: ∀op∈u++ #[({ g:=i,fn:=g₂.frame.fn,pos:=g₂.frame.place,act:=.recvClosed s.c }:MemOp)],∀t,op.act.touch? =some t->Shun t.loc->t.kind≠ .plain:=λop A t ht hs=>by
        rcases f4c.1 A with h|h
        ·exact p2 op h t ht hs
        ·simp at h;subst h;cases ht
    have aW: ∀op∈u++ #[({ g:=i,fn:=g₂.frame.fn,pos:=g₂.frame.place,act:=.recvClosed s.c }:MemOp)],op.act≠ .mark (.release (stC b)):=λop A=>by
        rcases f4c.1 A with h|h
        ·exact p3 op h
        ·simp at h;subst h;simp
    have ac:T++(u++ #[({ g:=i,fn:=g₂.frame.fn,pos:=g₂.frame.place,act:=.recvClosed s.c }:MemOp)])=(T++u)++ #[{ g:=i,fn:=g₂.frame.fn,pos:=g₂.frame.place,act:=.recvClosed s.c }]:=by rw[f3m]
    have aM:PastS St Shun u5 w.heap.size 0 (T++(u++ #[({ g:=i,fn:=g₂.frame.fn,pos:=g₂.frame.place,act:=.recvClosed s.c }:MemOp)])):=by
        rw[ac];refine p1.appMute (g:=i) (λop A=>by simp at A;subst A;rfl) (λop A=>by simp at A;subst A;rfl) (λhh=>hh.elim) (λop A=>by simp at A;subst A;exact(C.low i s O).2)
    have aO:Deaf (T++(u++ #[({ g:=i,fn:=g₂.frame.fn,pos:=g₂.frame.place,act:=.recvClosed s.c }:MemOp)])) i=0:=by
        rw[ac];refine(Deaf_quiet λop A d=>?_).trans p4;simp at A;subst A;rfl
    have aT:KnP Shun (T++(u++ #[({ g:=i,fn:=g₂.frame.fn,pos:=g₂.frame.place,act:=.recvClosed s.c }:MemOp)])) i:=by
        obtain⟨p,c1,c2,c3⟩:=h4.app (u:=u++ #[({ g:=i,fn:=g₂.frame.fn,pos:=g₂.frame.place,act:=.recvClosed s.c }:MemOp)]) ak;intro j t ht hs hk;refine⟨T.size+u.size,_,aG,rfl,.inr ((c3 j t ht hs hk).trans (.single (.inr ⟨.closed c1 (act?_of aG),c2,i,g?_of aG,?_⟩)))⟩;rw[ac,show T.size+u.size=(T++u).size by simp,deaf_old (fx8 _)];exact p4
    have aV:g₂.finishComm P #[rcase s.c s.z] (.recv s.ok) 0 s.z false=Go.Conc.served g₂ (recvd s.ok s.z false):=by cases s.ok <;>rfl
    have aJ:=C.set (g':=g₂.finishComm P #[rcase s.c s.z] (.recv s.ok) 0 s.z false) (r':=6) (n':=m) (os':=none) hlt W (.inr rfl) aP (.on aT (by rw[aO,aV];exact hm)) aM ak aW;have hv:=ffr (R:=R) (r:=6) hlt;have aX:=ftv (R:=R) (r:=6) hlt;have hc:cntR 6=cntR (R i):=by rw[X];rfl
    have hM:Md gs.size (upd R i 6) reg x y:=by
        have e1:VC gs.size (upd R i 6)=VC gs.size R:=by omega
        cases M with
        | opn h=>rw[<- e1];exact .opn (fdz (m:=0) h (.inr fe))
        | reg h h'=>rw[<- e1] at h' ⊢;exact .reg (fdz (m:=0) h (.inr fe)) h'
        | last L h1 h2 h3=>
          have aH:i≠L:=λe=>by subst e;omega
          have:=h3 i hlt aH;omega
        | sema h=>have:=h i hlt;omega
    exact⟨_,_,_,_,x,y,a,_,an,by simp,.inl rfl,aJ,hM,aP,upd_sub (.inr rfl),⟨λj hj=>⟨by rw[f0p R _ (λe=>by subst e;omega)];exact hj,f0p S _ (λe=>by subst e;omega)⟩,λj=>by
        by_cases e:j=i
        ·subst e;rw[f0b];omega
        ·rw[f0p R _ e];exact fx8 _⟩,by omega,λe1 e2=>qf,.inl fe⟩
   rcases h1 with⟨k1,w₀,hn,hg⟩|⟨hn,g0,g2,rfl,ad⟩
   ·have aA:(∃g₂,AtIn P false (Keeps s.D) (St i) s.B s.seat g g₂)\/ ∃k' g' es,k1=k'+1/\stepG P false g ((wgw b w x y).at d)=.go g' ((wgw b w x y).at d) es/\(∀e∈es,EvC (St i) s.B e)/\Goes P false (RK (Keeps s.D)) (DS (St i) s.B) (λg _=> ∃g₂,AtIn P false (Keeps s.D) (St i) s.B s.seat g g₂) k' g' ((wgw b w x y).at d):=by
       cases k1 with
       | zero=>exact .inl (hg _ hK)
       | succ k'=>
         rcases hg with aB|⟨_,ap⟩
         ·exact .inl (aB _ hK)
         ·have hs:=ap _ hK;cases ae:stepG P false g ((wgw b w x y).at d) with
          | go g' w' es=>
            rw[ae,goes_go] at hs;obtain⟨⟨rfl,U⟩,aD⟩:=hs;exact .inr ⟨k',g',es,rfl,rfl,U,aD⟩
          | _=>rw[ae] at hs;exact hs.elim
    rcases aA with⟨g₂,ad⟩|⟨k',g',es,rfl,ae,U,aD⟩
    ·obtain⟨_,_,_,_,hh,es,U,Y⟩:=ad;exact take g₂ es hh U (Y _ hK)
    ·obtain⟨p1,p2,p3,p4,p5⟩:=evs es U;refine C.stay (n':=k'+1) M ha hi W ae fe ?_ p1 p2 p3;rw[X,O];exact .way (.inl ⟨k',_,rfl,aD⟩) h2 p4 (h4.app p2)
   ·obtain⟨_,e1,e2,e3,hh,es,U,Y⟩:=ad;refine take g2 es hh U ?_;rw[<- Y _ hK];exact stepG_same e1.symm e2.symm e3.symm _
 | @on _ h1 h2=>
   rcases h2.next with⟨hr,aO,g',I,m,hm⟩|⟨m,g',es,hn,hm,I,hw⟩
   ·have aF:Deaf T i=0:=aO
    have aa: ∀op∈MemOp.ofEvents i g.frame.fn g.frame.place #[mkE (.releaseMerge (stC b))],op.act=.mark (.releaseMerge (stC b))/\op.g=i:=λop A=>by
      obtain⟨e,he,rfl⟩:=fz7 A;simp at he;subst he;exact⟨rfl,rfl⟩
    have ak: ∀op∈MemOp.ofEvents i g.frame.fn g.frame.place #[mkE (.releaseMerge (stC b))],∀t,op.act.touch? =some t->Shun t.loc->t.kind≠ .plain:=λop A t ht=>by rw[(aa op A).1] at ht;cases ht
    have hD:Deaf (T++MemOp.ofEvents i g.frame.fn g.frame.place #[mkE (.releaseMerge (stC b))]) i=0:=by rw[f5l,aF];rfl
    refine C.down (r':=5) (n':=m) (x':=x) (y':=y) ha hi W (I _ J.lv) fe fe ?_ (λe1 e2=>qf) ?_ (C.past.appMute (λop A=>(aa op A).2) (λop A=>by rw[(aa op A).1];rfl) (λhh=>hh.elim) (λop A=>by rw[(aa op A).1];first|trivial|(obtain⟨c,e,hh,_⟩:=C.has;exact(fx5.1 hh).1))) ak (λop A=>by rw[(aa op A).1];simp)
    ·have hv:=ffr (R:=R) (r:=5) hlt;have hc:cntR 5=cntR (R i):=by rw[X];rfl
     have e1:VC gs.size (upd R i 5)=VC gs.size R:=by omega
     cases M with
     | opn h=>rw[<- e1];exact .opn (fdz (m:=0) h (.inr fe))
     | reg h h'=>rw[<- e1] at h' ⊢;exact .reg (fdz (m:=0) h (.inr fe)) h'
     | last L h1 h2 h3=>
       have aH:i≠L:=λe=>by subst e;omega
       have:=h3 i hlt aH;omega
     | sema h=>have:=h i hlt;omega
    ·rw[O];exact .add (h1.app ak) (λ_=>⟨T.size,C.k0le,RelBy.new aF _ _⟩) pa
   ·obtain⟨m2,p1,p2,p3,p4,p5⟩:=mute hm;refine C.stay (n':=m) M ha hi W (I _ J.lv) fe ?_ p1 p2 p3;rw[X,O];exact .on (p4 h1) pm
 | @add _ h1 h2 h3=>
   rcases h3.next with⟨hr,aE,ad⟩|⟨m,g',es,hn,hm,I,hw⟩
   ·have aY:=fvz (R:=R) hlt fe;obtain⟨v,aQ⟩: ∃v,VC gs.size R=v+1:=⟨VC gs.size R-1,by omega⟩;have aR:=fcd (i:=i) (fn:=g.frame.fn) (pos:=g.frame.place) C.past C.has C.shun h1 (atmE_rw aE);obtain⟨p1,p2,p3,p4⟩:=aR;have hD:Deaf (T++MemOp.ofEvents i g.frame.fn g.frame.place #[rdE (stC b),wrE (stC b)]) i=Deaf T i:=by rw[f5l];rfl
    have hrel:RelD b Wk k0 (T++MemOp.ofEvents i g.frame.fn g.frame.place #[rdE (stC b),wrE (stC b)]) i:=λhw=>by
       obtain⟨r,e1,e2⟩:=h2 hw;exact⟨r,e1,p4 r e2⟩
    have ab: ∀x',((wgw b w x y).at d).setCell (stC b) (.int .u64 x')=(wgw b w x' y).at d:=λx'=>by
       have:=fdy (x:=x) (y:=y) (x':=x') C.has;show((wgw b w x y).setCell (stC b) (.int .u64 x')).at d=_;rw[this]
    have a3:=ffr (R:=R) (r:=1) hlt;have a1:=ffr (R:=R) (r:=4) hlt;have a2:cntR (R i)=1:=by rw[X];rfl
    have aZ:cntR 1=0:=rfl;have hc4:cntR 4=0:=rfl;cases M with
    | opn h=>
      obtain⟨g',I,hq,_⟩:=ad v 0 fe fe;obtain⟨m,hq⟩:=hq fe;have I:=I ((wgw b w ((VC gs.size R:Nat)*K32) 0).at d) 0 (by rw[aQ] at J ⊢;simpa using J);rw[ab] at I;refine C.down (r':=1) (n':=m) (x':=(v:Nat)*K32+(0:Nat)) (y':=0) ha hi W I fe fe ?_ (λ_ e2=>by cases e2) ?_ p1 p2 p3
      ·have e1:VC gs.size (upd R i 1)=v:=by omega
       have:=Md.opn (n:=gs.size) (R:=upd R i 1) (fdz (m:=0) h (.inl fe));rw[e1] at this;simpa using this
      ·rw[O];exact .out hrel (by rw[hD];exact hq)
    | reg h h'=>
      obtain⟨g',I,hq,hl⟩:=ad v 1 fe fe;have I:=I ((wgw b w ((VC gs.size R:Nat)*K32+1) 0).at d) 0 (by rw[aQ] at J ⊢;simpa using J);rw[ab] at I;by_cases hv:v=0
      ·subst hv;obtain⟨m,hl⟩:=hl ⟨rfl,rfl⟩;refine C.down (r':=4) (n':=m) (x':=((0:Nat):Int)*K32+(1:Nat)) (y':=0) ha hi W I fe fe ?_ (λ_ e2=>by cases e2) ?_ p1 p2 p3
       ·have hz:VC gs.size (upd R i 4)=0:=by omega
        have:=Md.last (n:=gs.size) (R:=upd R i 4) i hlt (.inl (f0b _ _ _)) (λj hj aC=>by
          have h5:=fqi hz hj;rw[f0p R _ aC] at h5 ⊢;rcases h j hj with h6|h6 <;>omega)
        rw[f0b] at this;simpa using this
       ·rw[O];exact .ld (h1.app p2) hrel (by rw[hD];exact hl)
      ·obtain⟨m,hq⟩:=hq fe;refine C.down (r':=1) (n':=m) (x':=(v:Nat)*K32+(1:Nat)) (y':=0) ha hi W I fe fe ?_ (λ_ e2=>by cases e2) ?_ p1 p2 p3
       ·have e1:VC gs.size (upd R i 1)=v:=by omega
        have:=Md.reg (n:=gs.size) (R:=upd R i 1) (fdz (m:=0) h (.inl fe)) fe;rw[e1] at this;simpa using this
       ·rw[O];exact .out hrel (by rw[hD];exact hq)
    | last L h1 h2 h3=>
      have aH:i≠L:=λe=>by subst e;omega
      have:=h3 i hlt aH;omega
    | sema h=>have:=h i hlt;omega
   ·obtain⟨m2,p1,p2,p3,p4,p5⟩:=mute hm;refine C.stay (n':=m) M ha hi W (I _ J.lv) fe ?_ p1 p2 p3;rw[X,O];exact .add (p4 h1) (p5 h2) pm
 | @ld _ h1 h2 h3=>
   obtain⟨rfl,rfl,rfl,ah⟩:reg=true/\x=1/\y=0/\ ∀j,j<gs.size->j≠i->R j<=1:=by
    cases M with
    | opn h=>have:=h i hlt;omega
    | reg h _=>have:=h i hlt;omega
    | last L g1 g2 g3=>
      have hL:L=i:=f1e λe=>by have:=g3 i hlt (λz=>e z.symm);omega
      subst hL;rw[X];exact⟨rfl,rfl,rfl,g3⟩
    | sema h=>have:=h i hlt;omega
   rcases h3.next with⟨hr,aE,g',I,m,hm⟩|⟨m,g',es,hn,hm,I,hw⟩
   ·obtain⟨p1,p2,p3,p4⟩:=fcd (i:=i) (fn:=g.frame.fn) (pos:=g.frame.place) C.past C.has C.shun h1 (atmE_rd aE);have hD:Deaf (T++MemOp.ofEvents i g.frame.fn g.frame.place #[rdE (stC b)]) i=Deaf T i:=by rw[f5l];rfl
    refine C.down (r':=3) (n':=m) (x':=1) (y':=0) ha hi W (I _ 0 J) fe fe ?_ (λ_ e2=>by cases e2) ?_ p1 p2 p3
    ·have:=Md.last (n:=gs.size) (R:=upd R i 3) i hlt (.inr (.inl (f0b _ _ _))) (λj hj aC=>by rw[f0p R _ aC];exact ah j hj aC);rw[f0b] at this;exact this
    ·rw[O];exact .st (h1.app p2) (λhw=>by obtain⟨r,e1,e2⟩:=h2 hw;exact⟨r,e1,p4 r e2⟩) pa
   ·obtain⟨m2,p1,p2,p3,p4,p5⟩:=mute hm;refine C.stay (n':=m) M ha hi W (I _ J.lv) fe ?_ p1 p2 p3;rw[X,O];exact .ld (p4 h1) (p5 h2) pm
 | @st _ h1 h2 h3=>
   obtain⟨rfl,rfl,rfl,ah⟩:reg=true/\x=1/\y=0/\ ∀j,j<gs.size->j≠i->R j<=1:=by
    cases M with
    | opn h=>have:=h i hlt;omega
    | reg h _=>have:=h i hlt;omega
    | last L g1 g2 g3=>
      have hL:L=i:=f1e λe=>by have:=g3 i hlt (λz=>e z.symm);omega
      subst hL;rw[X];exact⟨rfl,rfl,rfl,g3⟩
    | sema h=>have:=h i hlt;omega
   rcases h3.next with⟨hr,aE,g',I,m,hm⟩|⟨m,g',es,hn,hm,I,hw⟩
   ·obtain⟨p1,p2,p3,p4⟩:=fcd (i:=i) (fn:=g.frame.fn) (pos:=g.frame.place) C.past C.has C.shun h1 (atmE_wr aE);have hD:Deaf (T++MemOp.ofEvents i g.frame.fn g.frame.place #[wrE (stC b)]) i=Deaf T i:=by rw[f5l];rfl
    have ab:((wgw b w 1 0).at d).setCell (stC b) (.int .u64 0)=(wgw b w 0 0).at d:=by
      have:=fdy (x:=1) (y:=0) (x':=0) C.has;show((wgw b w 1 0).setCell (stC b) (.int .u64 0)).at d=_;rw[this]
    have I:=I _ 0 J;rw[ab] at I;refine C.down (r':=2) (n':=m) (x':=0) (y':=0) ha hi W I fe fe ?_ (λ_ e2=>by cases e2) ?_ p1 p2 p3
    ·have:=Md.last (n:=gs.size) (R:=upd R i 2) i hlt (.inr (.inr (f0b _ _ _))) (λj hj aC=>by rw[f0p R _ aC];exact ah j hj aC);rw[f0b] at this;exact this
    ·rw[O];exact .sm (h1.app p2) (λhw=>by obtain⟨r,e1,e2⟩:=h2 hw;exact⟨r,e1,p4 r e2⟩) pa
   ·obtain⟨m2,p1,p2,p3,p4,p5⟩:=mute hm;refine C.stay (n':=m) M ha hi W (I _ J.lv) fe ?_ p1 p2 p3;rw[X,O];exact .st (p4 h1) (p5 h2) pm
 | @sm _ h1 h2 h3=>
   obtain⟨rfl,rfl,rfl,ah⟩:reg=true/\x=0/\y=0/\ ∀j,j<gs.size->j≠i->R j<=1:=by
    cases M with
    | opn h=>have:=h i hlt;omega
    | reg h _=>have:=h i hlt;omega
    | last L g1 g2 g3=>
      have hL:L=i:=f1e λe=>by have:=g3 i hlt (λz=>e z.symm);omega
      subst hL;rw[X];exact⟨rfl,rfl,rfl,g3⟩
    | sema h=>have:=h i hlt;omega
   rcases h3.next with⟨hr,aE,aU,g',I,m,hm⟩|⟨m,g',es,hn,hm,I,hw⟩
   ·obtain⟨p1,p2,p3,p4⟩:=fcd (i:=i) (fn:=g.frame.fn) (pos:=g.frame.place) C.past C.has C.shun h1 (ftx (b:=b) (d:=Deaf T i));have hD:Deaf (T++MemOp.ofEvents i g.frame.fn g.frame.place (semEvents (smC b))) i=Deaf T i:=by rw[f5l];exact fmg
    have ab:((wgw b w 0 0).at d).setCell (smC b) (.int .u32 1)=(wgw b w 0 1).at d:=by
      have:=fiy (x:=0) (y:=0) (y':=1) C.has;show((wgw b w 0 0).setCell (smC b) (.int .u32 1)).at d=_;rw[this]
    have I:=I _ J;rw[ab] at I;refine C.down (r':=1) (n':=m) (x':=0) (y':=1) ha hi W I fe fe ?_ (λ_ _=>⟨aU,hm.status⟩) ?_ p1 p2 p3
    ·refine .sema λj hj=>?_;by_cases e:j=i
     ·subst e;rw[f0b];omega
     ·rw[f0p R _ e];exact ah j hj e
    ·rw[O];exact .out (λhw=>by obtain⟨r,e1,e2⟩:=h2 hw;exact⟨r,e1,p4 r e2⟩) pa
   ·obtain⟨m2,p1,p2,p3,p4,p5⟩:=mute hm;refine C.stay (n':=m) M ha hi W (I _ J.lv) fe ?_ p1 p2 p3;rw[X,O];exact .sm (p4 h1) (p5 h2) pm
 | @out _ h2 h3=>
   cases n with
   | zero=>rw[h3.1] at hrun;cases hrun
   | succ m=>
     rcases h3 with⟨hf,_⟩|⟨_,g',es,hm,I,hq⟩
     ·rw[hf] at hrun;cases hrun
     ·obtain⟨m2,p1,p2,p3,p4,p5⟩:=mute hm;refine C.stay (n':=m) M ha hi W (I _) fe ?_ p1 p2 p3;rw[X,O];exact .out (p5 h2) (by rw[f5l];exact hq)
end
section
variable {P:Program} {b:Nat} {Shun:Loc->Prop} {St:Nat->Loc->Prop} {Wk:Nat->Prop} {k0:Nat} {S:Nat->Option SeatD} {R q:Nat->Nat} {a a':Goroutine} {T:Trace} {gs:Array Goroutine} {w w':World} {x y x' y':Int}
def Byw.world {i r n:Nat} {os:Option SeatD} {g:Goroutine} (h:Byw P b Shun St Wk k0 i T w g r n os) (hw: ∀s,os=some s->w'.heap[s.c]? =w.heap[s.c]?):Byw P b Shun St Wk k0 i T w' g r n os:=by
 cases h with
 | sit h1 h2 h3=>exact .sit h1 ((hw _ rfl).trans h2) h3
 | way h1 h2 h3 h4=>exact .way h1 ((hw _ rfl).trans h2) h3 h4
 | on h1 h2=>exact .on h1 h2
 | add h1 h2 h3=>exact .add h1 h2 h3
 | ld h1 h2 h3=>exact .ld h1 h2 h3
 | st h1 h2 h3=>exact .st h1 h2 h3
 | sm h1 h2 h3=>exact .sm h1 h2 h3
 | out h2 h3=>exact .out h2 h3
def Bye.own (C:Bye P b Shun St Wk k0 S R q a T gs w) {es:Array Event} {d:Nat} {sl:Option (Nat×Nat)} (O:stepG P true a ((wgw b w x y).at d)=.go a' ((wgw b w' x' y').at d) es) (hw:StepM b S w w') (D: ∀e∈es,EvM Shun St w'.heap.size e):
    ∃ gs',runT P (crowd gs ((wgw b w x y).at d) sl) 0=(.next (crowd gs' ((wgw b w' x' y').at d) sl),MemOp.ofEvents 0 a.frame.fn a.frame.place es)/\gs'.size=gs.size/\Bye P b Shun St Wk k0 S R q a' (T++MemOp.ofEvents 0 a.frame.fn a.frame.place es) gs' w'/\
      Deaf (T++MemOp.ofEvents 0 a.frame.fn a.frame.place es) 0=deafBehind (Deaf T 0) es:=by
 have hlt:0<gs.size:=(fx5.1 C.here).1;have B: ∀op∈MemOp.ofEvents 0 a.frame.fn a.frame.place es,op.g=0:=λop A=>by obtain⟨e,_,rfl⟩:=fz7 A;rfl
 have M: ∀op∈MemOp.ofEvents 0 a.frame.fn a.frame.place es,∀t,op.act.touch? =some t->Shun t.loc->t.kind≠ .plain:=λop A t ht hs=>by
    obtain⟨e,he,rfl⟩:=fz7 A;rcases(D e he).1 t ht with⟨_,h⟩|⟨_,h⟩
    ·exact h
    ·exact absurd hs h
 refine⟨_,f5t (sl:=sl) C.here O,by simp,⟨λj z hj hz=>?_,fy5 qj,?_,C.rows,λj s e c o hc=>?_,C.apart,C.inj,λj s e=>?_,λj hj=>?_,hw.has C.has,C.shun,fa1 C.norel λop A=>?_,?_,C.after,C.zero⟩,f5l _ _ _ _ _⟩
 ·rw[fy4 (λe=>hj e.symm),f2c] at hz;obtain⟨z0,J,rfl⟩:=fy8.1 hz;have h0:=C.each j z0 hj J;rw[f5m (h0.again λs hs=>⟨λc o hc=>?_,?_⟩)]
  ·exact(h0.other (λe=>hj e.symm) B M).world λs hs=>(hw.seats j s hs).1
  ·have I:c≠b:=λz=>by subst z;rw[(C.apart j s hs).1] at hc;cases hc
   show(wgw b w' x' y').heap[c]? =_;rw[yz I,(hw.seats j s hs).2 c o hc];exact C.keeps j s hs c o hc
  ·show(wgw b w' x' y').heap[s.c]? =_;rw[yz (C.apart j s hs).2];exact(hw.seats j s hs).1
 ·refine PastS.appShunH (C.past.mono hw.size) B (λop A t ht=>?_) (λhh=>hh.elim) (λop A=>?_)
  ·obtain⟨e,he,rfl⟩:=fz7 A;exact(D e he).1 t ht
  ·obtain⟨e,he,rfl⟩:=fz7 A;exact(D e he).2.2
 ·rw[(hw.seats j s e).2 c o hc];exact C.keeps j s e c o hc
 ·exact⟨f08 (C.low j s e).1 hw.size,f0f (C.low j s e).2 hw.size⟩
 ·simp only[f00,Array.size_map] at hj;rw[f1g T (g':=0) fe _ B];exact C.above j hj
 ·obtain⟨e,he,rfl⟩:=fz7 A;obtain⟨_,h2,_⟩:=D e he;intro h;obtain⟨l,wr,sy⟩:=e;cases l with
  | mark m=>
    have:m=.release (stC b):=by
     cases m <;>simp[MemAct.ofEvent] at h;subst h;rfl
    exact h2 _ (by rw[this])
  | cell c=>cases wr <;>cases sy <;>simp[MemAct.ofEvent] at h
  | obj c=>cases wr <;>cases sy <;>simp[MemAct.ofEvent] at h
  | _=>simp[MemAct.ofEvent] at h
 ·rw[f5v];exact f4s C.k0le
def Byw.awake {i r n:Nat} {os:Option SeatD} {g:Goroutine} (h:Byw P b Shun St Wk k0 i T w g r n os) (hk: ∀s,os=some s->Keeps s.D w):Go.Conc.awake g:=by
 have h1:g.status=.running\/g.status=.blocked\/g.status=.finished:=by
    cases h with
    | sit h1 _ _=>exact(f3b (hk _ rfl) h1).elim (λh=>.inl h.1) λh=>.inr (.inl h.1)
    | way h1 _ _ _=>
      rcases h1 with⟨k,w0,rfl,hg⟩|⟨_,g0,g2,rfl,_⟩
      ·exact .inl ((f3b (hk _ rfl) (.inl ⟨k,w0,rfl,hg⟩)).elim (·.1) λz=>by omega)
      ·exact .inl rfl
    | on _ h=>exact .inl (h.status tz)
    | add _ _ h=>exact .inl (h.status fa0)
    | ld _ _ h=>exact .inl (h.status fca)
    | st _ _ h=>exact .inl (h.status fcb)
    | sm _ _ h=>exact .inl (h.status fcc)
    | out _ h=>exact h.status.elim .inl λh=>.inr (.inr h)
 intro t;rcases h1 with h|h|h <;>rw[h] <;>simp
def Bye.awake (C:Bye P b Shun St Wk k0 S R q a T gs w) (ha:a.status=.running\/a.status=.blocked): ∀g∈gs,Go.Conc.awake g:=by
 intro g hg;obtain⟨i,hi,rfl⟩:=Array.mem_iff_getElem.1 hg;by_cases e:i=0
 ·subst e;have:=C.here;rw[fz1 hi] at this;rw[fy7 this];intro t;rcases ha with h|h <;>rw[h] <;>simp
 ·exact(C.each i _ e (fz1 hi)).awake λs hs=>C.keeps i s hs
def Less (S S':Nat->Option SeatD) (R R':Nat->Nat):Prop:=(∀j s,S' j=some s->S j=some s)/\(∀j,R j=8->R' j=8/\S' j=S j)/\ ∀j,R' j<=R j
def Less.refl (S:Nat->Option SeatD) (R:Nat->Nat):Less S S R R:=⟨λ_ _ h=>h,λ_ h=>⟨h,rfl⟩,λ_=>fx8 _⟩
def Less.trans {S1 S2 S3:Nat->Option SeatD} {R1 R2 R3:Nat->Nat} (h:Less S1 S2 R1 R2) (h':Less S2 S3 R2 R3):Less S1 S3 R1 R3:=
 ⟨λj s e=>h.1 j s (h'.1 j s e),λj e=>⟨(h'.2.1 j (h.2.1 j e).1).1,(h'.2.1 j (h.2.1 j e).1).2.trans (h.2.1 j e).2⟩,λj=>f08 (h'.2.2 j) (h.2.2 j)⟩
def Bye.lead {Ψ:Array Goroutine->World->Trace->Prop} {reg:Bool} (hrun:a.status=.running)
    (X: ∀j S1 R1 q1 T1 x1 y1 d sl,j.size=gs.size->Bye P b Shun St Wk k0 S1 R1 q1 a T1 j w->Md gs.size R1 reg x1 y1->VC gs.size R1<2147483647->Deaf T1 0=Deaf T 0->Less S S1 R R1-> ∃gs' u' ops,runT P (crowd j ((wgw b w x1 y1).at d) sl) 0=(.next (crowd gs' u' sl),ops)/\Leads P Ψ gs' u' (T1++ops))
    (C:Bye P b Shun St Wk k0 S R q a T gs w) (M:Md gs.size R reg x y) (O:VC gs.size R<2147483647) (d:Nat):Leads P Ψ gs ((wgw b w x y).at d) T:=by
 have key: ∀(μ1 μ2:Nat) (j:Array Goroutine) (S1:Nat->Option SeatD) (R1 q1:Nat->Nat) (T1:Trace) (x1 y1:Int) (d:Nat),sumTo gs.size R1=μ1->sumTo gs.size q1=μ2->j.size=gs.size->Bye P b Shun St Wk k0 S1 R1 q1 a T1 j w->Md gs.size R1 reg x1 y1->VC gs.size R1<2147483647->Deaf T1 0=Deaf T 0->Less S S1 R R1->Leads P Ψ j ((wgw b w x1 y1).at d) T1:=by
    intro μ1
    induction μ1 using Nat.strongRecOn with
    | _ μ1 W=>
      intro μ2
      induction μ2 using Nat.strongRecOn with
      | _ μ2 U=>
        intro j S1 R1 q1 T1 x1 y1 d h1 h2 hsz C1 M1 B I D;refine Leads.pick (C1.awake (.inl hrun)) ⟨0,a,C1.here,hrun⟩ λi g d' sl hi hg=>?_;show ∃gs' w' ops,runT P (crowd j ((wgw b w x1 y1).at d') sl) i=_/\_;by_cases e:i=0
        ·subst e;obtain⟨gs',u',ops,r1,r2⟩:=X j S1 R1 q1 T1 x1 y1 d' sl hsz C1 M1 B I D;exact⟨gs',u',ops,r1,r2⟩
        ·obtain⟨gs',S',R',q',x',y',a',ops,r1,r2,r3,r4,r5,r6,r7,r8,r9,Y,m⟩:=fmi (d:=d') (sl:=sl) C1 (by rw[hsz];exact M1) (by rw[hsz];exact B) (.inl hrun) hi e hg;rw[hsz] at r2 r5 r9 m;obtain rfl:a'=a:=r3.elim id λz=>by rw[hrun] at z;cases z.1
         have J:Deaf (T1++ops) 0=Deaf T 0:=by rw[f1g T1 e ops r6];exact I
         have A:Less S S' R R':=D.trans ⟨r7,r8.1,r8.2⟩;refine⟨gs',_,ops,r1,?_⟩;rcases m with h|⟨rfl,h,rfl,rfl⟩
         ·exact W _ fe _ gs' S' R' q' (T1++ops) x' y' d' rfl rfl r2 r4 r5 fe J A
         ·exact U _ fe gs' S' R' q' (T1++ops) x' y' d' h1 rfl r2 r4 r5 fe J A
 exact key _ _ gs S R q T x y d rfl rfl rfl C M O rfl (Less.refl _ _)
def StepM.less {S S':Nat->Option SeatD} (h:StepM b S w w') (hs: ∀j s,S' j=some s->S j=some s):StepM b S' w w':=⟨h.size,λi s e=>h.seats i s (hs i s e),h.has⟩
def ByL (P:Program) (b:Nat) (Shun:Loc->Prop) (St:Nat->Loc->Prop) (Wk:Nat->Prop) (k0:Nat) (S:Nat->Option SeatD) (R:Nat->Nat) (n:Nat) (reg:Bool) (Φ:Goroutine->World->Nat->Prop) (gs':Array Goroutine) (u:World) (T':Trace):Prop:=
 ∃S' R' q' a' w' x' y' d,u=(wgw b w' x' y').at d/\gs'.size=n/\Bye P b Shun St Wk k0 S' R' q' a' T' gs' w'/\Md n R' reg x' y'/\VC n R'<2147483647/\Φ a' w' (Deaf T' 0)/\Less S S' R R'
def fe0 {Φ:Goroutine->World->Nat->Prop} {reg:Bool} {S0:Nat->Option SeatD}: ∀(n:Nat) {S:Nat->Option SeatD} {R q:Nat->Nat} {a:Goroutine} {T:Trace} {gs:Array Goroutine} {w:World} {x y:Int} {d:Nat},(∀j s,S j=some s->S0 j=some s)->Bye P b Shun St Wk k0 S R q a T gs w->Md gs.size R reg x y->VC gs.size R<2147483647->OM P b Shun St S0 Φ n a w (Deaf T 0)->
    Leads P (ByL P b Shun St Wk k0 S R gs.size reg Φ) gs ((wgw b w x y).at d) T
 | 0,S,R,q,a,T,gs,w,x,y,d,hS,C,M,hb,h=>.done ⟨S,R,q,a,w,x,y,d,rfl,rfl,C,M,hb,h,Less.refl _ _⟩
 | n +1,S,R,q,a,T,gs,w,x,y,d,hS,C,M,hb,h=>by
   rcases h with h|⟨hrun,g',w',es,I,hw,A,hn⟩
   ·exact .done ⟨S,R,q,a,w,x,y,d,rfl,rfl,C,M,hb,h,Less.refl _ _⟩
   ·refine Bye.lead hrun (λO S1 R1 q1 T1 x1 y1 d1 sl hsz C1 M1 B D m=>?_) C M hb d;obtain⟨gs',r1,r2,r3,r4⟩:=C1.own (sl:=sl) (I x1 y1 d1) (hw.less λj s e=>hS j s (m.1 j s e)) A;refine⟨gs',_,_,r1,?_⟩;have:=fe0 n (λj s e=>hS j s (m.1 j s e)) (d:=d1) r3 (by rw[r2,hsz];exact M1) (by rw[r2,hsz];exact B) (by rw[r4,D];exact hn);refine this.mono λJ u2 T2 ⟨S',R',q',a',w',x',y',d',e1,e2,e3,e4,e5,e6,e7⟩=>⟨S',R',q',a',w',x',y',d',e1,by rw[e2,r2,hsz],e3,by rw[r2,hsz] at e4;exact e4,by rw[r2,hsz] at e5;exact e5,e6,m.trans e7⟩
end
def vv (w:World) (c k:Nat):World:={ w with heap:=w.heap.setIfInBounds c (.chan 0 #[] true k k false) }
section
variable {P:Program} {b:Nat} {Shun:Loc->Prop} {St:Nat->Loc->Prop} {Wk:Nat->Prop} {k0:Nat} {S:Nat->Option SeatD} {R q:Nat->Nat} {a a':Goroutine} {T:Trace} {gs:Array Goroutine} {w w':World} {x y x' y':Int}
def zl {c k i:Nat} (h:i≠c):(vv w c k).heap[i]? =w.heap[i]? :=by
 unfold vv;exact fy4 λe=>h e.symm
def bf {c k:Nat}:(vv w c k).heap.size=w.heap.size:=by unfold vv;simp
def mt {c:Nat} {fn:FuncId} {pos:String} (m: ∀l,Shun l-> ∃p,l=.cell p): ∀op∈MemOp.ofEvents 0 fn pos (closeEvents c),∀t,op.act.touch? =some t-> ¬Shun t.loc/\t.write=false:=by
 intro op j t ht;rw[closeOps] at j;simp only[f4b,fy3,fz8,f0z] at j;rcases j with rfl|rfl
 ·simp only[MemAct.touch?,f03] at ht;subst ht;exact⟨λh=>(by obtain⟨p,h⟩:=m _ h;cases h),rfl⟩
 ·cases ht
def fj0 {j:Nat} {s:SeatD} {d:Nat} (C:Bye P b Shun St Wk k0 S R q a T gs w) (M:Md gs.size R false x y) (aU:VC gs.size R<2147483647) (hrun:a.status=.running) (ak:a'.status=.running) (hj:R j=8) (aZ:j<gs.size) (hs:S j=some s) (aJ: ∀l,Shun l-> ∃p,l=.cell p) (aQ:mayWake P a=true) (hD:Deaf T 0=0)
    (aP: ∀k,w.heap[s.c]? =some (.chan 0 #[] false k k false)-> ∀x y t,stepG P true a ((wgw b w x y).at t)=.go a' ((wgw b (vv w s.c k) x y).at t) (closeEvents s.c)):
    Leads P (λgs' u T'=> ∃S' R' q' x' y' d k,u=(wgw b (vv w s.c k) x' y').at d/\gs'.size=gs.size/\w.heap[s.c]? =some (.chan 0 #[] false k k false)/\Bye P b Shun St Wk k0 S' R' q' a' T' gs' (vv w s.c k)/\Md gs.size R' false x' y'/\VC gs.size R'<2147483647/\Deaf T' 0=0/\
     (∀i s,S' i=some s->S i=some s)/\(∀i,i≠j->R i=8->R' i=8/\S' i=S i)/\(∀i,R' i<=R i)/\R' j<=7) gs ((wgw b w x y).at d) T:=by
 refine Bye.lead hrun (λac S1 R1 q1 T1 x1 y1 d1 sl hsz C1 M1 aN aE W=>?_) C M aU d;have aM:=(W.2.1 j hj).1;have Y:S1 j=some s:=(W.2.1 j hj).2.trans hs;have aI:j≠0:=λe=>by subst e;rw[C.zero.2] at hj;cases hj
 have ah:j<ac.size:=by omega
 obtain⟨gj,aL⟩: ∃gj,ac[j]? =some gj:=⟨ac[j],fz1 ah⟩;have ad:=C1.each j gj aI aL;generalize aS:q1 j=nj at ad;rw[aM,Y] at ad
 obtain⟨k,aB,X,aO⟩: ∃k,Sits P false (Keeps s.D) (St j) s.B s.seat nj gj/\w.heap[s.c]? =some (.chan 0 #[] false k k false)/\Deaf T1 j=0:=by
    cases ad with
    | sit h1 h2 h3=>exact⟨_,h1,h2,h3⟩
 have aD:=aP k X x1 y1 d1;have hlt:0<ac.size:=(fx5.1 C1.here).1;have aH:s.c≠b:=(C1.apart j s Y).2;have aa:s.c<w.heap.size:=(fx5.1 X).1;generalize J:MemOp.ofEvents 0 a.frame.fn a.frame.place (closeEvents s.c)=ops;have I:ops=#[{ g:=0,fn:=a.frame.fn,pos:=a.frame.place,act:=.access ⟨.obj s.c,false,true⟩ },{ g:=0,fn:=a.frame.fn,pos:=a.frame.place,act:=.close s.c }]:=by rw[<- J,closeOps]
 have hg: ∀op∈ops,op.g=0:=λop A=>by rw[I] at A;simp at A;rcases A with rfl|rfl <;>rfl
 have ab: ∀op∈ops,∀t,op.act.touch? =some t-> ¬Shun t.loc/\t.write=false:=by rw[<- J];exact mt aJ
 have aV: ∀op∈ops,∀t,op.act.touch? =some t->Shun t.loc->t.kind≠ .plain:=λop A t ht hs=>absurd hs (ab op A t ht).1
 have aY:Deaf (T1++ops) 0=0:=by
    rw[<- J,f5l,aE,hD];simp[closeEvents,deafBehind]
 have ae:(T1++ops)[T1.size+1]? =some { g:=0,fn:=a.frame.fn,pos:=a.frame.place,act:=.close s.c }:=by rw[at_new,I];rfl
 have aA:Shut Shun (T1++ops) s.c:=by
    refine⟨T1.size+1,act?_of ae,⟨0,g?_of ae,?_⟩,λi t ht hs hk=>?_⟩
    ·rw[<- J,deaf_inside T1 0 _ _ _ 1 (by simp[closeEvents]),aE,hD];simp[closeEvents,deafBehind]
    ·obtain⟨op,ho,aK⟩:=f3d ht;rcases f07 ho with⟨_,h1⟩|⟨_,h1⟩
     ·obtain⟨p,hp⟩:=aJ _ hs;rcases C1.past.known i t (by rw[touchAt_of h1];exact aK) (by rw[hp];rfl) with h2|⟨_,g,_,h2,_⟩|⟨_,h2,_⟩
      ·exact h2.hb_new fe ae rfl
      ·exact absurd hs (C1.past.apart g _ h2)
      ·rw[h2] at hk;cases hk
     ·exact absurd hs (ab op h1 t aK).1
 have hu:((wgw b (vv w s.c k) x1 y1).at d1).heap[s.c]? =some (.chan 0 #[] true k k false):=by
    show(wgw b (vv w s.c k) x1 y1).heap[s.c]? =_;rw[yz aH];unfold vv;exact fy5 aa
 have U: ∀i s',i≠j->S1 i=some s'->s'.c≠s.c:=λi s' aR e1 e2=>aR (C1.inj i j s' s e1 Y e2);have hv:=ffr (n:=gs.size) (R:=R1) (r:=7) (by omega:j<gs.size);have aG:VC gs.size (upd R1 j 7)=VC gs.size R1:=by rw[aM] at hv;simp[cntR] at hv;exact hv
 refine⟨_,_,ops,by rw[<- J];exact f5t (sl:=sl) C1.here aD,.done ⟨S1,upd R1 j 7,q1,x1,y1,d1,k,rfl,by simp[hsz],X,⟨λi z hi hz=>?_,fy5 qj,?_,C1.rows,λi s' e c o hc=>?_,C1.apart,C1.inj,λi s' e=>?_,λi hi=>?_,?_,C1.shun,fa1 C1.norel λop A=>?_,?_,C1.after,C1.zero.1,?_⟩,?_,by rw[aG];exact aN,aY,W.1,λi hi h8=>?_,λi=>?_,by rw[f0b];omega⟩⟩
 ·rw [fy4 (λe=>hi e.symm),f2c] at hz;obtain⟨z0,ap,rfl⟩:=fy8.1 hz;by_cases e:i=j
  ·subst e;rw[aL] at ap;obtain rfl:=fy7 ap;rw[f0b,Y,aS]
   have aC:WaySt P St s i nj (woken P a a' ((wgw b (vv w s.c k) x1 y1).at d1) gj):=by
     rcases aB with⟨k1,w0,hn,aF⟩|⟨hn,g0,g2,rfl,aT⟩
     ·have aW:=(f3b (C1.seated Y x1 y1 d1).1 (.inl ⟨k1,w0,hn,aF⟩)).elim (·.1) (λz=>by omega);rw[f5m (f1i (.inl aW) _)];exact .inl ⟨k1,w0,hn,aF⟩
     ·refine .inr ⟨hn,g0,g2,?_,aT⟩;unfold woken;rw[f02 (by rw[aQ,ak];rfl)];exact again_recv_closed hu
   refine .way (k:=k) aC ?_ ?_ aA
   ·unfold vv;exact fy5 aa
   ·rw[f1g T1 (λe=>hi e.symm) ops hg];exact aO
  ·have h0:=C1.each i z0 hi ap;rw[f0p R1 _ e];rw[f5m (h0.again λs' O=>⟨λc o hc=>?_,?_⟩)]
   ·exact(h0.other (λz=>hi z.symm) hg aV).world λs' O=>zl (U i s' e O)
   ·have aX:c≠b:=λz=>by subst z;rw[(C1.apart i s' O).1] at hc;cases hc
    have an:c≠s.c:=λz=>by
     subst z;obtain⟨x,e,f,rfl⟩:=C1.rows i s' _ o O hc;have:=C1.keeps i s' O _ _ hc;rw[X] at this;cases this
    show(wgw b (vv w s.c k) x1 y1).heap[c]? =_;rw[yz aX,zl an];exact C1.keeps i s' O c o hc
   ·show(wgw b (vv w s.c k) x1 y1).heap[s'.c]? =_;rw[yz (C1.apart i s' O).2,zl (U i s' e O)]
 ·refine PastS.appShunH (C1.past.mono (by rw[bf];exact fx8 _)) hg (λop A t ht=>.inr ⟨λ_ _=>(ab op A t ht).2,(ab op A t ht).1⟩) (λhh=>hh.elim) (λop A=>?_);rw[I] at A;rw[bf];simp at A;rcases A with rfl|rfl <;>exact aa
 ·have an:c≠s.c:=λz=>by
   subst z;obtain⟨x,e',f,rfl⟩:=C1.rows i s' _ o e hc;have:=C1.keeps i s' e _ _ hc;rw[X] at this;cases this
  rw[zl an];exact C1.keeps i s' e c o hc
 ·rw[bf];exact C1.low i s' e
 ·simp only[f00,Array.size_map] at hi;rw[f1g T1 (g':=0) fe _ hg];exact C1.above i hi
 ·obtain⟨c,e,h1,h2⟩:=C1.has;exact⟨c,e,by rw[zl (λz=>aH z.symm)];exact h1,h2⟩
 ·rw[I] at A;simp at A;rcases A with rfl|rfl <;>simp
 ·rw[f5v];exact f4s C1.k0le
 ·rw[f0p R1 _ (λe=>aI e.symm)];exact C1.zero.2
 ·cases M1 with
  | opn h=>rw[<- aG];exact .opn (fdz (m:=0) h (.inr fe))
 ·rw[f0p R1 _ hi];exact W.2.1 i h8
 ·by_cases e:i=j
  ·subst e;rw[f0b];have:=W.2.2 i;omega
  ·rw[f0p R1 _ e];exact W.2.2 i
end
section
variable (P:Program) (b:Nat) (Shun:Loc->Prop) (St:Nat->Loc->Prop) (S0:Nat->Option SeatD) (Fin Anch:Goroutine->World->Nat->Prop)
inductive MPh (V:Nat):Bool->Nat->Nat->Goroutine->World->Nat->Prop
 | w1 {n:Nat} {g:Goroutine} {w:World} {d:Nat}:OM P b Shun St S0 (AtW1 P b Shun St S0 Fin Anch) n g w d->MPh V false (2*V+20) n g w d
 | w2 {n vs:Nat} {g:Goroutine} {w:World} {d:Nat}:OM P b Shun St S0 (AtW2 P b Shun St S0 Fin Anch vs) n g w d->V<=vs->1<=vs->MPh V false (2*vs+19) n g w d
 | w3 {n:Nat} {g:Goroutine} {w:World} {d:Nat}:OM P b Shun St S0 (AtW3 P b Shun St S0 Fin) n g w d->MPh V true 10 (n+1) g w d
 | blk {g:Goroutine} {w:World} {d:Nat}:AtW3 P b Shun St S0 Fin g w d->MPh V true 10 0 { g with status:=.blocked } w d
def WEnd (S:Nat->Option SeatD) (R:Nat->Nat) (n:Nat) (Wk:Nat->Prop) (k0:Nat) (gs':Array Goroutine) (u:World) (T':Trace):Prop:=
 ∃S' R' q' a' w' d,u=(wgw b w' 0 0).at d/\gs'.size=n/\Bye P b Shun St Wk k0 S' R' q' a' T' gs' w'/\(∀i,i<n->R' i<=1)/\Less S S' R R'/\((∃m,OM P b Shun St S0 (AtW4 P b Shun St S0 Fin) m a' w' (Deaf T' 0))\/ ∃m,OM P b Shun St S0 Fin m a' w' (Deaf T' 0))
def fe1 (S:Nat->Option SeatD) (R:Nat->Nat) (Wk:Nat->Prop) (k0:Nat) (T:Trace) (gs:Array Goroutine) (u:World) (sl:Option (Nat×Nat)):Prop:=
 ∃gs' w' ops,runT P (crowd gs u sl) 0=(.next (crowd gs' w' sl),ops)/\Leads P (WEnd P b Shun St S0 Fin S R gs.size Wk k0) gs' w' (T++ops)
end
section
variable {P:Program} {b:Nat} {Shun:Loc->Prop} {St:Nat->Loc->Prop} {Wk:Nat->Prop} {k0:Nat} {S0:Nat->Option SeatD} {Fin Anch:Goroutine->World->Nat->Prop}
def f6n {S:Nat->Option SeatD} (w:World):StepM b S w w:=⟨fx8 _,λ_ _ _=>⟨rfl,λ_ _ _=>rfl⟩,id⟩
def fqj {es:Array Event} {B:Nat} (j:Shun (.cell (stC b))/\Shun (.cell (smC b))) (hb:b<B) (h: ∀e∈es,(∃wr,e=⟨.cell (stC b),wr,true⟩\/e=⟨.cell (smC b),wr,true⟩)\/e=⟨.mark .disable,false,true⟩\/e=⟨.mark .enable,false,true⟩): ∀e∈es,EvM Shun St B e:=by
 intro e he;rcases h e he with⟨wr,rfl|rfl⟩|rfl|rfl
 ·refine⟨λx hx=>.inl ?_,λa h=>je,?_⟩
  ·cases wr <;>(simp[MemAct.ofEvent,MemAct.touch?] at hx;subst hx;exact⟨j.1,by simp⟩)
  ·cases wr <;>exact hb
 ·refine⟨λx hx=>.inl ?_,λa h=>je,?_⟩
  ·cases wr <;>(simp[MemAct.ofEvent,MemAct.touch?] at hx;subst hx;exact⟨j.2,by simp⟩)
  ·cases wr <;>exact hb
 ·exact⟨λx hx=>pl,λa h=>je,trivial⟩
 ·exact⟨λx hx=>pl,λa h=>je,trivial⟩
def OM.run {P:Program} {S:Nat->Option SeatD} {Φ:Goroutine->World->Nat->Prop} (hΦ: ∀g w d,Φ g w d->g.status=.running) {n:Nat} {g:Goroutine} {w:World} {d:Nat} (h:OM P b Shun St S Φ n g w d):g.status=.running:=by
 cases n with
 | zero=>exact hΦ _ _ _ h
 | succ n=>exact h.elim (hΦ _ _ _) (·.1)
def OM.next {P:Program} {S:Nat->Option SeatD} {Φ:Goroutine->World->Nat->Prop} {n:Nat} {g:Goroutine} {w:World} {d:Nat} (h:OM P b Shun St S Φ n g w d):
    Φ g w d\/ ∃m g' w' es,n=m+1/\(∀x y t,stepG P true g ((wgw b w x y).at t)=.go g' ((wgw b w' x y).at t) es)/\StepM b S w w'/\(∀e∈es,EvM Shun St w'.heap.size e)/\OM P b Shun St S Φ m g' w' (deafBehind d es):=by
 cases n with
 | zero=>exact .inl h
 | succ n=>
   rcases h with h|⟨_,g',w',es,h1,h2,h3,h4⟩
   ·exact .inl h
   ·exact .inr ⟨n,g',w',es,rfl,h1,h2,h3,h4⟩
def HasS.lt {w:World} (h:HasS b w):b<w.heap.size:=by obtain⟨c,e,h,_⟩:=h;exact(fx5.1 h).1
def fty (aP: ∀g w d,Anch g w d-> ∃n,OM P b Shun St S0 (AtW1 P b Shun St S0 Fin Anch) n g w d): ∀(M F:Nat) {S:Nat->Option SeatD} {R q:Nat->Nat} {a:Goroutine} {T:Trace} {gs:Array Goroutine} {w:World} {x y:Int} {d:Nat} {reg:Bool} {phi f:Nat},
    phi+sumTo gs.size R=M->f+2*sumTo gs.size q=F->(∀j s,S j=some s->S0 j=some s)->(∀i,R i<=7)->Bye P b Shun St Wk k0 S R q a T gs w->Md gs.size R reg x y->VC gs.size R<2147483647->MPh P b Shun St S0 Fin Anch (VC gs.size R) reg phi f a w (Deaf T 0)->(a.status=.blocked->y=0)->
    Leads P (WEnd P b Shun St S0 Fin S R gs.size Wk k0) gs ((wgw b w x y).at d) T:=by
 intro M
 induction M using Nat.strongRecOn with
 | _ M aC =>
   intro F
   induction F using Nat.strongRecOn with
   | _ F aD =>
     intro S R q a T gs w x y d reg phi f hM hF ae ad C Mo hb ph ab;have aU:=ph
     have aa:a.status=.running\/(a.status=.blocked/\a.offers=none):=by
       cases ph with
       | w1 h=>exact .inl (h.run λ_ _ _ h=>h.1)
       | w2 h _ _=>exact .inl (h.run λ_ _ _ h=>h.1)
       | w3 h=>exact .inl (h.run λ_ _ _ h=>h.1)
       | blk h=>exact .inr ⟨rfl,h.2.1⟩
     have aT:0<gs.size:=(fx5.1 C.here).1
     have rk: ∀i g,i≠0->gs[i]? =some g->2<=R i->g.status=.running:=λi g hi hg h2=>by
       have ap:=C.each i g hi hg;have h7:=ad i;generalize R i=r at ap h2 h7;generalize aI:S i=os at ap
       cases ap with
       | sit=>omega
       | way h1 _ _ _=>
         rcases h1 with⟨k,w0,hn,aN⟩|⟨_,g0,g2,rfl,_⟩
         ·exact(f3b (C.keeps i _ aI) (.inl ⟨k,w0,hn,aN⟩)).elim (·.1) λz=>by omega
         ·rfl
       | on _ h=>exact h.status tz
       | add _ _ h=>exact h.status fa0
       | ld _ _ h=>exact h.status fca
       | st _ _ h=>exact h.status fcb
       | sm _ _ h=>exact h.status fcc
       | out=>omega
     have aA: ∃(i:Nat) (g:Goroutine),gs[i]? =some g/\g.status=.running:=by
       rcases aa with h|⟨h,_⟩
       ·exact⟨0,a,C.here,h⟩
       ·have hy :=ab h
        have aM: ∃i,i<gs.size/\2<=R i:=by
          cases ph with
          | w1 h1=>rw[h1.run λ_ _ _ h=>h.1] at h;cases h
          | w2 h1 _ _=>rw[h1.run λ_ _ _ h=>h.1] at h;cases h
          | w3 h1=>rw[h1.run λ_ _ _ h=>h.1] at h;cases h
          | blk _=>
            cases Mo with
            | reg h1 h2=>
              refine f1e λaQ=>?_
              have:=i6 (n:=gs.size) (R:=R) λi hi=>by
                rcases f01 (R i) 2 with h3|h3
                ·omega
                ·exact absurd ⟨i,hi,h3⟩ aQ
              omega
            | last L h1 h2 h3=>exact⟨L,h1,by omega⟩
            | sema=>cases hy
        obtain⟨i,hi,h2⟩:=aM;have aJ:i≠0:=λe=>by subst e;rw[C.zero.2] at h2;omega
        exact⟨i,gs[i],fz1 hi,rk i _ aJ (fz1 hi) h2⟩
     refine Leads.pick (C.awake (aa.imp id (·.1))) aA λi g d' sl hi hg=>?_;show ∃gs' w' ops,runT P (crowd gs ((wgw b w x y).at d') sl) i=_/\_;have O:=λ(es:Array Event)=>fqj (Shun:=Shun) (St:=St) (b:=b) (es:=es) (B:=w.heap.size) C.shun C.has.lt;by_cases e:i=0
     ·subst e;show fe1 P b Shun St S0 Fin S R Wk k0 T gs ((wgw b w x y).at d') sl;rw[C.here] at hi;obtain rfl:=fy7 hi
      have go: ∀{n:Nat} {g':Goroutine} {w':World} {es:Array Event} (ac:Bool) (D f':Nat) {x' y':Int},stepG P true a ((wgw b w x y).at d')=.go g' ((wgw b w' x' y').at d') es->StepM b S0 w w'->(∀e∈es,EvM Shun St w'.heap.size e)->(D<phi\/(D=phi/\f'<f))->Md gs.size R ac x' y'->MPh P b Shun St S0 Fin Anch (VC gs.size R) ac D f' g' w' (deafBehind (Deaf T 0) es)->(g'.status=.blocked->y'=0)->
          fe1 P b Shun St S0 Fin S R Wk k0 T gs ((wgw b w x y).at d') sl:=λ{n g' w' es} ac D f' {x' y'} A hw I hlt Mo' Y hb'=>by
        obtain⟨gs',r1,r2,r3,r4⟩:=C.own (sl:=sl) A (hw.less ae) I;refine⟨gs',_,_,r1,?_⟩;rcases hlt with h|⟨h1,h2⟩
        ·have:=aC (D+sumTo gs.size R) fe (f'+2*sumTo gs.size q) (d:=d') (by rw[r2]) (by rw[r2]) ae ad r3 (by rw[r2];exact Mo') (by rw[r2];exact hb) (by rw[r2,r4];exact Y) hb';rw[r2] at this;exact this
        ·have:=aD (f'+2*sumTo gs.size q) fe (d:=d') (phi:=D) (f:=f') (by rw[r2,h1];exact hM) (by rw[r2]) ae ad r3 (by rw[r2];exact Mo') (by rw[r2];exact hb) (by rw[r2,r4];exact Y) hb';rw[r2] at this;exact this
      have fin: ∀{g':Goroutine} {es:Array Event},stepG P true a ((wgw b w x y).at d')=.go g' ((wgw b w 0 0).at d') es->(∀e∈es,EvM Shun St w.heap.size e)->(∀i,i<gs.size->R i<=1)->((∃m,OM P b Shun St S0 (AtW4 P b Shun St S0 Fin) m g' w (deafBehind (Deaf T 0) es))\/ ∃m,OM P b Shun St S0 Fin m g' w (deafBehind (Deaf T 0) es))->
          fe1 P b Shun St S0 Fin S R Wk k0 T gs ((wgw b w x y).at d') sl:=λ{g' es} A I h1 hm=>by
        obtain⟨gs',r1,r2,r3,r4⟩:=C.own (sl:=sl) A (f6n w) I;exact⟨gs',_,_,r1,.done ⟨S,R,q,g',w,d',rfl,r2,r3,h1,Less.refl _ _,by rw[r4];exact hm⟩⟩
      cases ph with
      | w1 h=>
        obtain⟨rfl,rfl,X⟩:x=(VC gs.size R:Nat)*K32/\y=0/\ ∀i,i<gs.size->R i<=1\/5<=R i:=by cases Mo with|opn h=>exact⟨rfl,rfl,h⟩
        have stop:AtW1 P b Shun St S0 Fin Anch a w (Deaf T 0)->fe1 P b Shun St S0 Fin S R Wk k0 T gs ((wgw b w ((VC gs.size R:Nat)*K32) 0).at d') sl:=λJ=>by
          obtain⟨g',A,h0,h1⟩:=J.2 (VC gs.size R) fe;have A:=A d';by_cases hv:VC gs.size R=0
          ·rw[hv] at A;have hx:((0:Nat):Int)*K32=0:=by simp
           rw[hx] at A;refine fin (g':=g') (es:=#[rdE (stC b)]) (by rw[hv,hx];exact A) (O _ λe he=>by simp at he;subst he;exact .inl ⟨false,.inl rfl⟩) (λi hi=>?_) (.inr (h0 hv));have:=fqi hv hi;rcases X i hi with h|h <;>omega
          ·obtain⟨m,hm⟩:=h1 hv;refine go (n:=0) (w':=w) false (2*VC gs.size R+19) m A (f6n w) (O _ λe he=>by simp at he;subst he;exact .inl ⟨false,.inl rfl⟩) (.inl fe) (.opn X) (.w2 hm (fx8 _) fe) (λ_=>rfl)
        rcases h.next with h|⟨m,g',w',es,aH,A,hw,I,hn⟩
        ·exact stop h
        ·exact go (n:=0) false _ m (A _ _ d') hw I (.inr ⟨rfl,by omega⟩) Mo (.w1 hn) (λ_=>rfl)
      | @w2 _ vs _ _ _ h aE ah=>
        obtain⟨rfl,rfl,X⟩:x=(VC gs.size R:Nat)*K32/\y=0/\ ∀i,i<gs.size->R i<=1\/5<=R i:=by cases Mo with|opn h=>exact⟨rfl,rfl,h⟩
        have stop:AtW2 P b Shun St S0 Fin Anch vs a w (Deaf T 0)->fe1 P b Shun St S0 Fin S R Wk k0 T gs ((wgw b w ((VC gs.size R:Nat)*K32) 0).at d') sl:=λJ=>by
          by_cases hv:VC gs.size R=vs
          ·subst hv;obtain⟨g',A,m,hm⟩:=J.2.1;refine go (n:=0) (w':=w) true 10 (m+1) (A d') (f6n w) (O _ λe he=>by simp at he;rcases he with rfl|rfl;exact .inl ⟨false,.inl rfl⟩;exact .inl ⟨true,.inl rfl⟩) (.inl fe) (.reg X ah) (.w3 hm) (λ_=>rfl)
          ·obtain⟨g',A,hA⟩:=J.2.2 (VC gs.size R) hv fe;obtain⟨m,hm⟩:=aP _ _ _ hA;refine go (n:=0) (w':=w) false (2*VC gs.size R+20) m (A d') (f6n w) (O _ λe he=>by simp at he;subst he;exact .inl ⟨false,.inl rfl⟩) (.inl fe) (.opn X) (.w1 hm) (λ_=>rfl)
        rcases h.next with h|⟨m,g',w',es,aH,A,hw,I,hn⟩
        ·exact stop h
        ·exact go (n:=0) false _ m (A _ _ d') hw I (.inr ⟨rfl,by omega⟩) Mo (.w2 hn aE ah) (λ_=>rfl)
      | w3 h=>
        have stop:AtW3 P b Shun St S0 Fin a w (Deaf T 0)->fe1 P b Shun St S0 Fin S R Wk k0 T gs ((wgw b w x y).at d') sl:=λJ=>by
          have y0:y=0->fe1 P b Shun St S0 Fin S R Wk k0 T gs ((wgw b w x y).at d') sl:=λhy=>by
            subst hy;exact go (n:=0) (w':=w) (es:=#[]) true 10 0 (J.2.2.1 x d') (f6n w) (λe he=>by simp at he) (.inr ⟨rfl,Nat.succ_pos _⟩) Mo (.blk J) (λ_=>rfl)
          cases Mo with
          | reg=>exact y0 rfl
          | last=>exact y0 rfl
          | sema h1=>
            obtain⟨g',A,hm⟩:=J.2.2.2;refine fin (A d') (O _ λe he=>?_) h1 (.inl (by rw[fmg];exact hm));simp[semEvents] at he;rcases he with rfl|rfl|rfl|rfl
            ·exact .inr (.inl rfl)
            ·exact .inl ⟨false,.inr rfl⟩
            ·exact .inl ⟨true,.inr rfl⟩
            ·exact .inr (.inr rfl)
        rcases h.next with h|⟨m,g',w',es,aH,A,hw,I,hn⟩
        ·exact stop h
        ·refine go (n:=0) true _ (m+1) (A _ _ d') hw I (.inr ⟨rfl,by omega⟩) Mo (.w3 hn) (λW=>?_);rw[hn.run λ_ _ _ h=>h.1] at W;cases W
      | blk h=>cases hg
     ·obtain ⟨gs',S',R',q',x',y',a',ops,r1,r2,r3,r4,r5,r6,r7,r8,r9,aR,aK⟩:=fmi (d:=d') (sl:=sl) C Mo hb aa hi e hg;have aG:Deaf (T++ops) 0=Deaf T 0:=f1g T e ops r6;have aF:Less S S' R R':=⟨r7,r8.1,r8.2⟩;refine⟨gs',_,ops,r1,?_⟩
      have aB:a'.status=.blocked->y'=0:=λW=>by
        have aL:y=0:=by
          rcases r3 with rfl|⟨h1,rfl⟩
          ·exact ab W
          ·exact ab h1
        have h1:=aR aL;cases r5 with
        | sema=>rw[h1 rfl] at W;cases W
        | _=>rfl
      obtain ⟨D,f',Y,aS,hf⟩: ∃D f',MPh P b Shun St S0 Fin Anch (VC gs.size R') reg D f' a' w (Deaf T 0)/\D<=phi/\(R'=R->D=phi/\f'<=f+1):=by
        have U:a.status=.running->a'=a:=λh=>r3.elim id λz=>by rw[h] at z;cases z.1
        cases ph with
        | w1 h=>
          obtain rfl:=U (h.run λ_ _ _ h=>h.1);exact⟨_,_,.w1 h,by omega,λe=>by rw[e];exact⟨rfl,by omega⟩⟩
        | w2 h aE ah=>
          obtain rfl:=U (h.run λ_ _ _ h=>h.1);exact⟨_,_,.w2 h fe ah,fx8 _,λe=>⟨rfl,by omega⟩⟩
        | w3 h=>
          obtain rfl:=U (h.run λ_ _ _ h=>h.1);exact⟨_,_,.w3 h,fx8 _,λe=>⟨rfl,by omega⟩⟩
        | @blk g0 _ _ h=>
          rcases r3 with rfl|⟨_,rfl⟩
          ·exact⟨_,0,.blk h,fx8 _,λe=>⟨rfl,by omega⟩⟩
          ·have aO:{ { g0 with status:=GoStatus.blocked } with status:=.running }=g0:=by
             have:=h.1;cases g0;simp only at this;subst this;rfl
           refine⟨10,1,?_,fx8 _,λe=>⟨rfl,by omega⟩⟩;rw[aO];exact .w3 (n:=0) h
      have an: ∀i,R' i<=7:=λi=>f08 (aF.2.2 i) (ad i);have ak: ∀j s,S' j=some s->S0 j=some s:=λj s h=>ae j s (r7 j s h)
      have lift:Leads P (WEnd P b Shun St S0 Fin S' R' gs'.size Wk k0) gs' ((wgw b w x' y').at d') (T++ops)->Leads P (WEnd P b Shun St S0 Fin S R gs.size Wk k0) gs' ((wgw b w x' y').at d') (T++ops):=λh=>by
        refine h.mono λaV u2 T2 ⟨S2,R2,q2,a2,w2,d2,e1,e2,e3,e4,e5,e6⟩=>⟨S2,R2,q2,a2,w2,d2,e1,by rw[e2,r2],e3,by rw[<- r2];exact e4,aF.trans e5,e6⟩
      refine lift ?_;rcases aK with h|⟨rfl,h,rfl,rfl⟩
      ·exact aC (D+sumTo gs.size R') fe (f'+2*sumTo gs.size q') (d:=d') (by rw[r2]) (by rw[r2]) ak an r4 (by rw[r2];exact r5) (by rw[r2];omega) (by rw[r2,aG];exact Y) aB
      ·obtain⟨rfl,hf⟩:=hf rfl;exact aD (f'+2*sumTo gs.size q') fe (d:=d') (phi:=D) (f:=f') (by rw[r2];exact hM) (by rw[r2]) ak an r4 (by rw[r2];exact r5) (by rw[r2];omega) (by rw[r2,aG];exact Y) aB
end
def StL (St:Nat->Loc->Prop) (Wk:Nat->Prop):Nat->Loc->Prop:=λg l=>St g l/\ ¬Wk g
section
variable {P:Program} {b:Nat} {Shun:Loc->Prop} {St:Nat->Loc->Prop} {Wk:Nat->Prop} {k0:Nat} {S S0:Nat->Option SeatD} {R q:Nat->Nat} {a a':Goroutine} {T:Trace} {gs:Array Goroutine} {w w':World} {x y:Int}
def PastS.acquire {B:Nat} {fn:FuncId} {pos:String} (H:PastS St Shun u5 B 0 T) (hb:b<B) (hD:Deaf T 0=0) (hrel: ∀i,Wk i-> ∃r,k0<=r/\RelBy (stC b) T i r) (M: ∀k,k0<=k->T.act? k≠some (.mark (.release (stC b)))):
    PastS (StL St Wk) Shun u5 B 0 (T++MemOp.ofEvents 0 fn pos #[mkE (.acquire (stC b))]):=by
 have e1:MemOp.ofEvents 0 fn pos #[mkE (.acquire (stC b))]=#[{ g:=0,fn,pos,act:=.mark (.acquire (stC b)) }]:=by simp[MemOp.ofEvents,MemAct.ofEvent]
 rw[e1];have hq:(T++ #[({ g:=0,fn,pos,act:=.mark (.acquire (stC b)) }:MemOp)])[T.size]? =some { g:=0,fn,pos,act:=.mark (.acquire (stC b)) }:=by simp
 have C: ∀op∈ #[({ g:=0,fn,pos,act:=.mark (.acquire (stC b)) }:MemOp)],op.g=0:=λop j=>by simp at j;subst j;rfl
 have hn: ∀op∈ #[({ g:=0,fn,pos,act:=.mark (.acquire (stC b)) }:MemOp)],op.act.touch? =none:=λop j=>by simp at j;subst j;rfl
 have H1:=H.appMute C hn (λhh=>hh.elim) (λop j=>by simp at j;subst j;exact hb);refine⟨H1.clean,λi t ht hm=>?_,λi t ht hw g hs=>H1.wrote i t ht hw g hs.1,λg l hs=>H1.apart g l hs.1,H1.hears,H1.seen⟩;rcases H1.known i t ht hm with h|⟨hw,g,hg,hs,hk⟩|h
 ·exact .inl h
 ·by_cases D:Wk g
  ·refine .inl ?_;obtain⟨op,ho,q⟩:=f3d ht;have hi:i<T.size:=by
    rcases f07 ho with⟨h,_⟩|⟨_,h1⟩
    ·exact h
    ·rw[hn op h1] at q;cases q
   have A:T[i]? =some op:=by rw[<- getElem?_append_old (u:=#[({ g:=0,fn,pos,act:=.mark (.acquire (stC b)) }:MemOp)]) hi];exact ho
   have I:T.g? i=some g:=by rw[<- g?_old (u:=#[({ g:=0,fn,pos,act:=.mark (.acquire (stC b)) }:MemOp)]) hi];exact hg
   obtain⟨r,R,hr⟩:=hrel g D;have m:r<T.size:=lt_of_act? hr.act;have hle:i<=r:=Nat.le_of_not_lt λhlt=>hr.after i hlt I ⟨t,by rw[<- q];simp[Trace.act?,A],hm,.inl (by rw[hk];simp)⟩;have O:i≠r:=λe=>by
    subst e;have:=hr.act;rw[act?_of A] at this;rw[fy7 this] at q;cases q
   have edge:HappensBefore (T++ #[({ g:=0,fn,pos,act:=.mark (.acquire (stC b)) }:MemOp)]) r T.size:=.single (.inr ⟨.marked m (.inr (by rw[act?_old m];exact hr.act)) (act?_of hq) (λk U J=>by
    rw[act?_old J];exact M k fe),(fcq m).2 hr.heard,0,g?_of hq,by rw[deaf_old (fx8 _)];exact hD⟩)
   exact⟨T.size,_,hq,rfl,.inr (.trans (.single (.inl ⟨by omega,g,by rw[g?_old hi];exact I,by rw[g?_old m];exact hr.g⟩)) edge)⟩
  ·exact .inr (.inl ⟨hw,g,hg,⟨hs,D⟩,hk⟩)
 ·exact .inr (.inr h)
def Bye.gone (C:Bye P b Shun St Wk k0 S R q a T gs w) (h1: ∀i,i<gs.size->R i<=1) {i:Nat} {g:Goroutine} (hi:i≠0) (hg:gs[i]? =some g):QuitsD P (q i) (Deaf T i) g/\R i=1/\RelD b Wk k0 T i/\S i=none:=by
 have j:=C.each i g hi hg;have h:=h1 i (fx5.1 hg).1;generalize R i=r at*;generalize m:S i=os at*;generalize q i=n at*;cases j with
 | out h2 h3=>exact⟨h3,rfl,h2,rfl⟩
 | _=>omega
def fe2 (P:Program) (b:Nat) (Shun:Loc->Prop) (St:Nat->Loc->Prop) (Φ:Goroutine->World->Nat->Prop) (g:Goroutine) (w:World) (d:Nat):Prop:=
 g.status=.running/\d=0/\ ∃g',(∀x y t,stepG P true g ((wgw b w x y).at t)=.go g' ((wgw b w x y).at t) #[mkE (.acquire (stC b))])/\ ∃n,OM P b Shun St (λ_=>none) Φ n g' w 0
def Gone (P:Program) (b:Nat) (Shun:Loc->Prop) (St:Nat->Loc->Prop) (n:Nat) (Φ:Goroutine->World->Nat->Prop) (gs':Array Goroutine) (u:World) (T':Trace):Prop:=
 ∃a' w' q' d,u=(wgw b w' 0 0).at d/\gs'.size=n/\HasS b w'/\Hold P St Shun u5 (λ_=>none) 0 a' T' gs' u q'/\Φ a' w' (Deaf T' 0)
def Md.all (h:Md gs.size R false x y) (h1: ∀i,i<gs.size->R i<=1):x=0/\y=0:=by
 cases h with
 | opn h=>rw[i6 λi hi=>by have:=h1 i hi;omega];exact⟨by simp,rfl⟩
def Md.allOf (h1: ∀i,i<gs.size->R i<=1):Md gs.size R false 0 0:=by
 have:=Md.opn (n:=gs.size) (R:=R) λi hi=>.inl (h1 i hi);rw[i6 λi hi=>by have:=h1 i hi;omega] at this;simpa using this
def ftz {Φ:Goroutine->World->Nat->Prop} {d:Nat} (hS: ∀j s,S j=some s->S0 j=some s) (ab: ∀i,Wk i->i≠0/\i<gs.size) (C:Bye P b Shun St Wk k0 S R q a T gs w) (h1: ∀i,i<gs.size->R i<=1)
    (ah:(∃m,OM P b Shun St S0 (AtW4 P b Shun St S0 (fe2 P b Shun (StL St Wk) Φ)) m a w (Deaf T 0))\/ ∃m,OM P b Shun St S0 (fe2 P b Shun (StL St Wk) Φ) m a w (Deaf T 0)):Leads P (Gone P b Shun (StL St Wk) gs.size Φ) gs ((wgw b w 0 0).at d) T:=by
 have W: ∀{S R q:_} {a:Goroutine} {T:Trace} {A:Array Goroutine} {w:World} {d:Nat},A.size=gs.size->(∀j s,S j=some s->S0 j=some s)->Bye P b Shun St Wk k0 S R q a T A w->(∀i,i<gs.size->R i<=1)->fe2 P b Shun (StL St Wk) Φ a w (Deaf T 0)->Leads P (Gone P b Shun (StL St Wk) gs.size Φ) A ((wgw b w 0 0).at d) T:=by
    intro S R q a T A w d hsz hS C h1 ae;obtain⟨hrun,hD,g',U,n,hn⟩:=ae;refine Bye.lead hrun (λB S2 R2 q2 T2 x2 y2 d2 sl J C2 M2 ad aa M=>?_) C (Md.allOf (by rw[hsz];exact h1)) (by rw[i6 λi hi=>by have:=h1 i fe;omega];omega) d;have h2: ∀i,i<B.size->R2 i<=1:=λi hi=>f08 (M.2.2 i) (h1 i fe);obtain⟨rfl,rfl⟩:=Md.all (gs:=B) (by rw[J];exact M2) h2;have X:Deaf T2 0=0:=by omega
    obtain⟨I,r1,r2,r3,r4⟩:=C2.own (sl:=sl) (U 0 0 d2) (f6n w) (λe he=>by
     simp at he;subst he;exact⟨λx hx=>pl,λa h=>je,C2.has.lt⟩)
    refine⟨I,_,_,r1,?_⟩;have hrel: ∀i,Wk i-> ∃r,k0<=r/\RelBy (stC b) T2 i r:=λi hi=>by
     obtain⟨ac,ak⟩:=ab i hi;have hlt:i<B.size:=by omega
     exact(C2.gone h2 ac (fz1 hlt)).2.2.1 hi
    have O:=C2.past.acquire (fn:=a.frame.fn) (pos:=a.frame.place) C2.has.lt X hrel C2.norel;have h3: ∀i,i<I.size->R2 i<=1:=by rw[r2];exact h2
    have C3:Bye P b Shun (StL St Wk) (λ_=>False) k0 (λ_=>none) R2 q2 g' (T2++MemOp.ofEvents 0 a.frame.fn a.frame.place #[mkE (.acquire (stC b))]) I w:=by
     refine⟨λi g hi hg=>?_,r3.here,O,λ_ _ _ _ e=>kz,λ_ _ e=>kz,λ_ _ e=>kz,λ_ _ _ _ e=>kz,λ_ _ e=>kz,r3.above,r3.has,r3.shun,r3.norel,r3.k0le,λ_ _ e=>kz,rfl,r3.zero.2⟩;obtain⟨g1,g2,_,_⟩:=r3.gone h3 hi hg;rw[g2];exact .out (λh=>h.elim) g1
    have:=fe0 (reg:=false) (d:=d2) n (λ_ _ e=>e) C3 (Md.allOf h3) (by rw[i6 λi hi=>by have:=h3 i hi;omega];omega) (by rw[r4,X];exact hn);refine this.mono λD u4 T4 ⟨S4,R4,q4,a4,w4,x4,y4,d4,e1,e2,e3,e4,e5,e6,e7⟩=>?_;have h4: ∀i,i<D.size->R4 i<=1:=λi hi=>f08 (e7.2.2 i) (h3 i fe);obtain⟨rfl,rfl⟩:=Md.all (gs:=D) pq h4;refine⟨a4,w4,q4,d4,e1,by omega,e3.has,?_,e6⟩;rw[e1];refine⟨⟨λi g hi hg=>?_,λ_ _ e=>kz,λ_ _ _ _ e=>kz,λ_ _ e=>kz,λ_ _ _ _ e=>kz,λ_ _ e=>kz,λ_ _ e=>kz,e3.above⟩,e3.here,?_,λ_ hh=>hh.elim,rfl⟩
    ·have hi:i≠0:=hi;exact⟨by omega,(e3.gone h4 hi hg).1⟩
    ·show PastS _ _ _ (wgw b w4 0 0).heap.size _ _;rw[fgx];exact e3.past
 rcases ah with⟨m,hm⟩|⟨m,hm⟩
 ·refine(fe0 (reg:=false) (d:=d) m hS C (Md.allOf h1) px hm).trans λA u1 T1 ⟨S1,R1,q1,a1,w1,x1,y1,d1,e1,e2,e3,e4,e5,e6,e7⟩=>?_;subst e1;have h2: ∀i,i<A.size->R1 i<=1:=λi hi=>f08 (e7.2.2 i) (h1 i fe);obtain⟨rfl,rfl⟩:=Md.all (gs:=A) pq h2;obtain⟨hrun,g',U,n,hn⟩:=e6;refine Bye.lead hrun (λB S2 R2 q2 T2 x2 y2 d2 sl J C2 M2 ad aa M=>?_) e3 (Md.allOf h2) (by rw[i6 λi hi=>by have:=h2 i hi;omega];omega) d1;have h3: ∀i,i<B.size->R2 i<=1:=λi hi=>f08 (M.2.2 i) (h2 i fe);obtain⟨rfl,rfl⟩:=Md.all (gs:=B) (by rw[J];exact M2) h3;obtain⟨I,r1,r2,r3,r4⟩:=C2.own (sl:=sl) (U d2) (f6n w1) (fqj C2.shun C2.has.lt λe he=>by simp at he;subst he;exact .inl ⟨false,.inl rfl⟩);refine⟨I,_,_,r1,?_⟩;have Y: ∀j s,S2 j=some s->S0 j=some s:=λj s h=>hS j s (e7.1 j s (M.1 j s h));refine(fe0 (Φ:=fe2 P b Shun (StL St Wk) Φ) (reg:=false) (d:=d2) n Y r3 (Md.allOf (by rw[r2];exact h3)) (by rw[i6 λi hi=>by have:=h3 i fe;omega];omega) (by rw[r4,aa];exact hn)).trans λD u4 T4 ⟨S4,R4,q4,a4,w4,x4,y4,d4,f1,f2,f3,f4,f5,f6,f7⟩=>?_;subst f1;have h4: ∀i,i<D.size->R4 i<=1:=λi hi=>f08 (f7.2.2 i) (h3 i fe);obtain⟨rfl,rfl⟩:=Md.all (gs:=D) (by rw[f2];exact f4) h4;exact W fe (λj s h=>Y j s (f7.1 j s h)) f3 (λi hi=>h4 i fe) f6
 ·refine(fe0 (reg:=false) (d:=d) m hS C (Md.allOf h1) px hm).trans λA u1 T1 ⟨S1,R1,q1,a1,w1,x1,y1,d1,e1,e2,e3,e4,e5,e6,e7⟩=>?_;subst e1;have h2: ∀i,i<A.size->R1 i<=1:=λi hi=>f08 (e7.2.2 i) (h1 i fe);obtain⟨rfl,rfl⟩:=Md.all (gs:=A) pq h2;exact W e2 (λj s h=>hS j s (e7.1 j s h)) e3 (λi hi=>h2 i fe) e6
def bye_all {Φ Anch:Goroutine->World->Nat->Prop} {d n:Nat} (B: ∀g w d,Anch g w d-> ∃n,OM P b Shun St S0 (AtW1 P b Shun St S0 (fe2 P b Shun (StL St Wk) Φ) Anch) n g w d) (hS: ∀j s,S j=some s->S0 j=some s) (A: ∀i,Wk i->i≠0/\i<gs.size) (C:Bye P b Shun St Wk k0 S R q a T gs w) (hR: ∀i,R i<=7)
    (M:Md gs.size R false x y) (hb:VC gs.size R<2147483647) (m:OM P b Shun St S0 (AtW1 P b Shun St S0 (fe2 P b Shun (StL St Wk) Φ) Anch) n a w (Deaf T 0)):Leads P (Gone P b Shun (StL St Wk) gs.size Φ) gs ((wgw b w x y).at d) T:=by
 have hrun:=m.run λ_ _ _ h=>h.1;refine(fty B _ _ (d:=d) rfl rfl hS hR C M hb (.w1 m) (λh=>by rw[hrun] at h;cases h)).trans λD u1 T1 ⟨S1,R1,q1,a1,w1,d1,e1,e2,e3,e4,e5,e6⟩=>?_;subst e1;have:=ftz (d:=d1) (λj s h=>hS j s (e5.1 j s h)) (by rw[e2];exact A) e3 pq e6;rw[e2] at this;exact this
end
end Go.Proofs.YtelecjnabeokeaaGreatDoor
namespace Go.Proofs.YtelecjnabeokeaaGreatDoor
open Go Go.Conc Go.Conc.Lib
def Lw:WgLink:={ add:=77,done:=79,wait:=28,relMerge:=97,disable:=61,enable:=63,inBubble:=69,associate:=106,fatal:=107,uOr:=108,uAdd:=109,raceRead:=110,uLoad:=62,uStore:=111,disassociate:=67,semrelease:=112,acquire:=64,isAssociated:=65,uCas:=66,raceWrite:=68,semacquire:=70,orU64:=126,addU64:=127,loadU64:=100,storeU64:=128,casU64:=101,tWgP:=128,tUP:=132,tAssoc:=185,tWg:=73,tAU:=71,tU64:=69,tUint:=130,tU32:=60,tPU32:=136,tPAU:=177,tPU64:=179,tNoCopy:=59,tANoCopy:=67,tAlign64:=68 }
def wgLib:WgLib Tryz.prog Lw where
 f_add:=Tryz.func77
 f_done:=Tryz.func79
 f_wait:=Tryz.func28
 f_relMerge:=Tryz.func97
 f_disable:=Tryz.func61
 f_enable:=Tryz.func63
 f_inBubble:=Tryz.func69
 f_associate:=Tryz.func106
 f_fatal:=Tryz.func107
 f_uOr:=Tryz.func108
 f_uAdd:=Tryz.func109
 f_raceRead:=Tryz.func110
 f_uLoad:=Tryz.func62
 f_uStore:=Tryz.func111
 f_disassociate:=Tryz.func67
 f_semrelease:=Tryz.func112
 f_acquire:=Tryz.func64
 f_isAssociated:=Tryz.func65
 f_uCas:=Tryz.func66
 f_raceWrite:=Tryz.func68
 f_semacquire:=Tryz.func70
 f_orU64:=Tryz.func126
 f_addU64:=Tryz.func127
 f_loadU64:=Tryz.func100
 f_storeU64:=Tryz.func128
 f_casU64:=Tryz.func101
 underlying_tWgP:=Tryz.underlying128
 runUnderlying_tWgP:=Tryz.runUnderlying128
 sizeOf_tWgP:=Tryz.sizeOf128
 isAgg_tWgP:=Tryz.isAgg128
 zeroValue_tWgP:=Tryz.zeroValue128
 underlying_tUP:=Tryz.underlying132
 runUnderlying_tUP:=Tryz.runUnderlying132
 sizeOf_tUP:=Tryz.sizeOf132
 isAgg_tUP:=Tryz.isAgg132
 zeroValue_tUP:=Tryz.zeroValue132
 underlying_tI32:=Tryz.underlying185
 runUnderlying_tI32:=Tryz.runUnderlying185
 sizeOf_tI32:=Tryz.sizeOf185
 isAgg_tI32:=Tryz.isAgg185
 zeroValue_tI32:=Tryz.zeroValue185
 underlying_tWg:=Tryz.underlying73
 runUnderlying_tWg:=Tryz.runUnderlying73
 sizeOf_tWg:=Tryz.sizeOf73
 isAgg_tWg:=Tryz.isAgg73
 zeroValue_tWg:=Tryz.zeroValue73
 underlying_tAU:=Tryz.underlying71
 runUnderlying_tAU:=Tryz.runUnderlying71
 sizeOf_tAU:=Tryz.sizeOf71
 isAgg_tAU:=Tryz.isAgg71
 zeroValue_tAU:=Tryz.zeroValue71
 underlying_tU64:=Tryz.underlying69
 runUnderlying_tU64:=Tryz.runUnderlying69
 sizeOf_tU64:=Tryz.sizeOf69
 isAgg_tU64:=Tryz.isAgg69
 zeroValue_tU64:=Tryz.zeroValue69
 underlying_tSh:=Tryz.underlying130
 runUnderlying_tSh:=Tryz.runUnderlying130
 sizeOf_tSh:=Tryz.sizeOf130
 isAgg_tSh:=Tryz.isAgg130
 zeroValue_tSh:=Tryz.zeroValue130
 underlying_tU32:=Tryz.underlying60
 runUnderlying_tU32:=Tryz.runUnderlying60
 sizeOf_tU32:=Tryz.sizeOf60
 isAgg_tU32:=Tryz.isAgg60
 zeroValue_tU32:=Tryz.zeroValue60
 underlying_tPU32:=Tryz.underlying136
 runUnderlying_tPU32:=Tryz.runUnderlying136
 sizeOf_tPU32:=Tryz.sizeOf136
 isAgg_tPU32:=Tryz.isAgg136
 zeroValue_tPU32:=Tryz.zeroValue136
 underlying_tPAU:=Tryz.underlying177
 runUnderlying_tPAU:=Tryz.runUnderlying177
 sizeOf_tPAU:=Tryz.sizeOf177
 isAgg_tPAU:=Tryz.isAgg177
 zeroValue_tPAU:=Tryz.zeroValue177
 underlying_tPU64:=Tryz.underlying179
 runUnderlying_tPU64:=Tryz.runUnderlying179
 sizeOf_tPU64:=Tryz.sizeOf179
 isAgg_tPU64:=Tryz.isAgg179
 zeroValue_tPU64:=Tryz.zeroValue179
 underlying_t0:=Tryz.underlying0
 runUnderlying_t0:=Tryz.runUnderlying0
 sizeOf_t0:=Tryz.sizeOf0
 isAgg_t0:=Tryz.isAgg0
 zeroValue_t0:=Tryz.zeroValue0
 underlying_t3:=Tryz.underlying3
 runUnderlying_t3:=Tryz.runUnderlying3
 sizeOf_t3:=Tryz.sizeOf3
 isAgg_t3:=Tryz.isAgg3
 zeroValue_t3:=Tryz.zeroValue3
 underlying_t4:=Tryz.underlying4
 runUnderlying_t4:=Tryz.runUnderlying4
 sizeOf_t4:=Tryz.sizeOf4
 isAgg_t4:=Tryz.isAgg4
 zeroValue_t4:=Tryz.zeroValue4
 underlying_t9:=Tryz.underlying9
 runUnderlying_t9:=Tryz.runUnderlying9
 sizeOf_t9:=Tryz.sizeOf9
 isAgg_t9:=Tryz.isAgg9
 zeroValue_t9:=Tryz.zeroValue9
 underlying_t20:=Tryz.underlying20
 runUnderlying_t20:=Tryz.runUnderlying20
 sizeOf_t20:=Tryz.sizeOf20
 isAgg_t20:=Tryz.isAgg20
 zeroValue_t20:=Tryz.zeroValue20
 underlying_t21:=Tryz.underlying21
 runUnderlying_t21:=Tryz.runUnderlying21
 sizeOf_t21:=Tryz.sizeOf21
 isAgg_t21:=Tryz.isAgg21
 zeroValue_t21:=Tryz.zeroValue21
 room_tWg:=by kernel_rfl
 room_tU32:=by kernel_rfl
open Go.RowKit
def WK (P:Program) (main:Bool) (K:World->Prop) (E:Event->Prop) (Φ:Goroutine->Nat->Prop):Nat->Goroutine->Nat->Prop
 | 0,g,d=>Φ g d
 | n+1,g,d=>Φ g d\/(g.status=.running/\ ∃g' es,(∀e∈es,E e)/\(∀u,K u->stepG P main g u=.go g' u es)/\WK P main K E Φ n g' (deafBehind d es))
def WKE (P:Program) (main:Bool) (K:World->Prop) (E:Event->Prop) (Φ:Goroutine->Nat->Prop) (g:Goroutine) (d:Nat):Prop:= ∃n,WK P main K E Φ n g d
section
variable {P:Program} {main:Bool} {K:World->Prop} {E:Event->Prop} {Φ:Goroutine->Nat->Prop} {n d:Nat} {g g':Goroutine}
def fa2 (h:WKE P false K (λe=>e.mute=true) Φ g d): ∃n,WB P K Φ n g d:=by
 obtain⟨n,h⟩:=h;refine⟨n,?_⟩
 induction n generalizing g d with
 | zero=>exact h
 | succ n ih=>
   rcases h with h|⟨h1,g',es,h2,h3,h4⟩
   ·exact .inl h
   ·exact .inr ⟨h1,g',es,h2,h3,ih h4⟩
def fe3 (h:WKE P false (λ_=>True) (λe=>e.mute=true) (λg d=>g.status=.finished/\d=0) g d): ∃n,QuitsD P n d g:=by
 obtain⟨n,h⟩:=h;refine⟨n,?_⟩
 induction n generalizing g d with
 | zero=>exact h
 | succ n ih=>
   rcases h with h|⟨h1,g',es,h2,h3,h4⟩
   ·exact .inl h
   ·exact .inr ⟨h1,g',es,h2,λw=>h3 w trivial,ih h4⟩
def fu0 {b:Nat} {Shun:Loc->Prop} {St:Nat->Loc->Prop} {S:Nat->Option SeatD} {Ψ:Goroutine->World->Nat->Prop} {w:World} (hs:HasS b w) (hE: ∀e,E e->EvM Shun St w.heap.size e) (hK: ∀u,WgLv b u->K u) (h:WKE P true K E Φ g d) (hΦ: ∀g d,Φ g d-> ∃n,OM P b Shun St S Ψ n g w d): ∃n,OM P b Shun St S Ψ n g w d:=by
 obtain⟨n,h⟩:=h
 induction n generalizing g d with
 | zero=>exact hΦ _ _ h
 | succ n ih=>
   rcases h with h|⟨h1,g',es,h2,h3,h4⟩
   ·exact hΦ _ _ h
   ·obtain⟨m,hm⟩:=ih h4;exact⟨m+1,.inr ⟨h1,g',w,es,λx y t=>h3 _ (hK _ ((wo hs).at t).lv),f6n w,λe he=>hE e (h2 e he),hm⟩⟩
def WKE.mono {Φ':Goroutine->Nat->Prop} (h:WKE P main K E Φ g d) (h': ∀g d,Φ g d->WKE P main K E Φ' g d):WKE P main K E Φ' g d:=by
 obtain⟨n,h⟩:=h
 induction n generalizing g d with
 | zero=>exact h' _ _ h
 | succ n ih=>
   rcases h with h|⟨h1,g',es,h2,h3,h4⟩
   ·exact h' _ _ h
   ·obtain⟨m,hm⟩:=ih h4;exact⟨m+1,.inr ⟨h1,g',es,h2,h3,hm⟩⟩
def ug (h:Φ g d):WKE P main K E Φ g d:=⟨0,h⟩
def ri (hs:g.status=.running) (h: ∀u,stepG P main g u=.go g' u) (hq:WKE P main K E Φ g' d):WKE P main K E Φ g d:=by
 obtain⟨n,hq⟩:=hq;exact⟨n+1,.inr ⟨hs,g',#[],by simp,λu _=>h u,hq⟩⟩
def fe4 (e:Event) (he:E e) (hs:g.status=.running) (h: ∀u,K u->stepG P main g u=.go g' u #[e]) (hq:WKE P main K E Φ g' (deafBehind d #[e])):WKE P main K E Φ g d:=by
 obtain⟨n,hq⟩:=hq;exact⟨n+1,.inr ⟨hs,g',#[e],by simp[he],h,hq⟩⟩
variable {b b₀:Frame} {a a₀:Act} {k:List Item} {cs:List Frame} {ops:Array Oper} {i:Nat} {rest:List Nat} {o:Oper} {todo:List Item}
def ww (v:Value) (ho:ops[i]? =some o) (hw:Region.wanted o (yielded ops a.tmps)=true) (hk:b.kind≠ .early) (hr: ∀u,K u->(execOp a.eval o).run P u=.ok (.value v) u) (he: ∀u,K u->(execOp a.eval o).events P u #[]=#[])
    (hq:WKE P main K E Φ (G (b.at (a.put o.dst v) (.inRegion ops rest::k)) cs) d):WKE P main K E Φ (G (b.at a (.inRegion ops (i::rest)::k)) cs) d:=by
 obtain⟨n,hq⟩:=hq;exact⟨n+1,.inr ⟨rfl,_,#[],by simp,λu hu=>by rw[stepG_value ho hw hk (hr u hu)];unfold listed;rw[he u hu,seen_none],hq⟩⟩
def wk_skip (ho:ops[i]? =some o) (hw:Region.wanted o (yielded ops a.tmps)=false) (hq:WKE P main K E Φ (G (b.at (a.put o.dst undef) (.inRegion ops rest::k)) cs) d):WKE P main K E Φ (G (b.at a (.inRegion ops (i::rest)::k)) cs) d:=
 ri rfl (λ_=>stepG_unwanted ho hw) hq
def i7 {f:FuncId} {fn:Func} {c:Code} {args:Array Operand} {A:Array TypeId} (ho:ops[i]? =some o) (hw:Region.wanted o (yielded ops a.tmps)=true) (hk:b.kind≠ .early) (m:o.op=.call { callee:=.value (.func f),args,argTypes:=A })
    (hf:P.funcs[f]? =some fn) (j:(fn.name== "runtime.NumGoroutine")=false) (hb:fn.body=some c)
    (hq:WKE P main K E Φ (G ((base f).at { tmps:=args.map a.eval++Array.replicate (fn.ntmps-(args.map a.eval).size) undef,defers:=[] } [.code c]) (b.at a (.inRegion ops (i::rest)::k)::cs)) d):WKE P main K E Φ (G (b.at a (.inRegion ops (i::rest)::k)) cs) d:=
 ri rfl (λu=>by
    have q:fn.body.isNone=false:=by rw[hb];rfl
    rw[stepG_enter ho hw hk (run_call_body m hf j q),Go.Conc.enter_at _ hf hb];have:listed P b.fn a o u=#[]:=by unfold listed;rw[events_call_body m hf j q];exact seen_none P _
    rw[this]) hq
def fmj {f:FuncId} {xs:Array Operand} {m:Array TypeId} (ho:ops[i]? =some o) (hw:Region.wanted o (yielded ops a.tmps)=true) (hk:b.kind≠ .early) (j:o.op=.defer { callee:=.value (.func f),args:=xs,argTypes:=m })
    (hq:WKE P main K E Φ (G (b.at (Act.put ⟨a.tmps,dcall f (xs.map a.eval)::a.defers⟩ o.dst undef) (.inRegion ops rest::k)) cs) d):WKE P main K E Φ (G (b.at a (.inRegion ops (i::rest)::k)) cs) d:=
 ri rfl (λ_=>stepG_defer ho hw hk j) hq
def yo {fn:Func} (hn:b.kind=.normal) (hd:a.defers=[]) (hf:P.funcs[b.fn]? =some fn) (hr:fn.results=#[]) (hq:WKE P main K E Φ (G (b₀.at (a₀.put ((ops[i]?).bind (·.dst)) (.tuple #[])) (.inRegion ops rest::k)) cs) d):
    WKE P main K E Φ (G { b.at a todo with mode:=.returning } (b₀.at a₀ (.inRegion ops (i::rest)::k)::cs)) d:=
 ri rfl (λu=>by rw[stepG_leave hn hd hf (f2g hr _ P u) (events_results_none hr _ _),f0i]) hq
def vw {fn:Func} {t:Tmp} (hn:b.kind=.normal) (hd:a.defers=[]) (hf:P.funcs[b.fn]? =some fn) (hr:fn.results=#[.tmp t]) (hq:WKE P main K E Φ (G (b₀.at (a₀.put ((ops[i]?).bind (·.dst)) (a.tmps.getD t undef)) (.inRegion ops rest::k)) cs) d):
    WKE P main K E Φ (G { b.at a todo with mode:=.returning } (b₀.at a₀ (.inRegion ops (i::rest)::k)::cs)) d:=
 ri rfl (λu=>by rw[stepG_leave hn hd hf (f0x hr _ P u) (events_results_tmp hr _ _),f0i]) hq
def fa3 {fn:Func} {c:Frame} (hn:b.kind=.deferred) (hd:a.defers=[]) (hf:P.funcs[b.fn]? =some fn) (hr:fn.results=#[]) (hc:c.mode=.returning) (hq:WKE P main K E Φ (G c cs) d):
    WKE P main K E Φ (G { b.at a todo with mode:=.returning } (c::cs)) d:=
 ri rfl (λu=>stepG_leave_deferred hn hd hf (f2g hr _ P u) (events_results_none hr _ _) hc) hq
def i8 {f:FuncId} {fn:Func} {xs:Array Operand} {q:Array TypeId} (m:Mark) (hm: ∀g,m≠ .extern g) (hE:E ⟨.mark m,false,true⟩) (ho:ops[i]? =some o) (hw:Region.wanted o (yielded ops a.tmps)=true) (hk:b.kind≠ .early) (A:o.op=.call { callee:=.value (.func f),args:=xs,argTypes:=q })
    (hf:P.funcs[f]? =some fn) (j:(fn.name== "runtime.NumGoroutine")=false) (hb:fn.body.isNone=true) (hn:Extern.findNext fn=none) (he:Extern.find fn=some (λ_=>do mark m;pure Extern.Race.none_))
    (hq:WKE P main K E Φ (G (b.at (a.put o.dst (.tuple #[])) (.inRegion ops rest::k)) cs) (deafBehind d #[⟨.mark m,false,true⟩])):WKE P main K E Φ (G (b.at a (.inRegion ops (i::rest)::k)) cs) d:=
 fe4 _ hE rfl (λ_ _=>stepG_mark0 m hm ho hw hk A hf j hb hn he) hq
def fqk {f:FuncId} {fn:Func} {xs:Array Operand} {m:Array TypeId} (v:Value) (ho:ops[i]? =some o) (hw:Region.wanted o (yielded ops a.tmps)=true) (hk:b.kind≠ .early) (q:o.op=.call { callee:=.value (.func f),args:=xs,argTypes:=m })
    (hf:P.funcs[f]? =some fn) (j:(fn.name== "runtime.NumGoroutine")=false) (hb:fn.body.isNone=true) (hn:Extern.findNext fn=none) (he:Extern.find fn=some (λ_=>pure v))
    (hq:WKE P main K E Φ (G (b.at (a.put o.dst v) (.inRegion ops rest::k)) cs) d):WKE P main K E Φ (G (b.at a (.inRegion ops (i::rest)::k)) cs) d:=
 ri rfl (λ_=>stepG_entry_pure v ho hw hk q hf j hb hn he) hq
def dm {f:FuncId} {fn:Func} {ds:List Deferred} (m:Mark) (hE:E ⟨.mark m,false,true⟩) (hx: ∀g,m≠ .extern g) (hd:a.defers=dcall f #[]::ds) (hf:P.funcs[f]? =some fn) (j:(fn.name== "runtime.NumGoroutine")=false) (hb:fn.body.isNone=true) (hn:Extern.findNext fn=none)
    (he:Extern.find fn=some (λ_=>do mark m;pure Extern.Race.none_)) (hq:WKE P main K E Φ (G { b.at ⟨a.tmps,ds⟩ todo with mode:=.returning } cs) (deafBehind d #[⟨.mark m,false,true⟩])):WKE P main K E Φ (G { b.at a todo with mode:=.returning } cs) d:=
 fe4 _ hE rfl (λu _=>stepG_unwind_entry (v:=.tuple #[]) hd hf j hb hn he (by simp[Extern.Race.none_]) fi (by
    intro x hx';simp at hx';subst hx';exact⟨rfl,λg h=>hx g (Loc.mark.inj h)⟩)) hq
def ffs {f:FuncId} {fn:Func} {c:Code} {args:Array Value} {ds:List Deferred} (hd:a.defers=dcall f args::ds) (hf:P.funcs[f]? =some fn) (j:(fn.name== "runtime.NumGoroutine")=false) (hb:fn.body=some c)
    (hq:WKE P main K E Φ (G ((baseD f).at { tmps:=args++Array.replicate (fn.ntmps-args.size) undef,defers:=[] } [.code c]) ({ b.at ⟨a.tmps,ds⟩ todo with mode:=.returning }::cs)) d):WKE P main K E Φ (G { b.at a todo with mode:=.returning } cs) d:=
 ri rfl (λ_=>stepG_unwind_enter hd hf j hb) hq
end
section
open Go.ConcR.Gen
variable {main:Bool} {K:World->Prop} {E:Event->Prop} {Φ:Goroutine->Nat->Prop} {d:Nat} {b:Frame} {a:Act} {k:List Item} {cs:List Frame} {ops:Array Oper} {i:Nat} {rest:List Nat} {o:Oper} {todo:List Item}
def faq {p:Addr} {x:Operand} {src:TypeId} {t:TypeId} (j:o.op=.convert src 132 x) (hx:a.eval x=.pointer (some p)) (hs:Tryz.prog.underlying src=some (.pointer t)) (hz:(Tryz.prog.info? t).map (λi=>decide (i.size=0))=some false) (hK: ∀u,K u-> ∃v,u.cell? p=some v)
    (ho:ops[i]? =some o) (hw:Region.wanted o (yielded ops a.tmps)=true) (hk:b.kind≠ .early) (hq:WKE Tryz.prog main K E Φ (G (b.at (a.put o.dst (.pointer (some p))) (.inRegion ops rest::k)) cs) d):WKE Tryz.prog main K E Φ (G (b.at a (.inRegion ops (i::rest)::k)) cs) d:=by
 refine ww (.pointer (some p)) ho hw hk (λu hu=>?_) (λu hu=>?_) hq
 ·obtain⟨v,hv⟩:=hK u hu;have h1:=f3v (P:=Tryz.prog) hs Tryz.underlying132 hz hv;unfold execOp;rw[j];refine qw ?_;rw[hx];exact h1
 ·obtain⟨v,hv⟩:=hK u hu;have h1:=f3v (P:=Tryz.prog) hs Tryz.underlying132 hz hv;have h2:=f4u (P:=Tryz.prog) hs Tryz.underlying132 hz hv #[];unfold execOp;rw[j];show((convert src 132 (a.eval x) >>= λx=>(Pure.pure (Next.value x):Sem Next)).runT Tryz.prog u #[]).2=_;rw[hx];simp[go_sem,h1,h2]
end
section
open Go.ConcR.Gen
variable {P:Program} {main:Bool} {K:World->Prop} {E:Event->Prop} {Φ:Goroutine->Nat->Prop} {d:Nat} {b:Frame} {a:Act} {k:List Item} {cs:List Frame} {ops:Array Oper} {i:Nat} {rest:List Nat} {o:Oper} {x y:Code}
def wv (v:Value) (hq:WKE P main K E Φ (G (b.at (a.put o.dst v) (.inRegion ops rest::k)) cs) d) (ho:ops[i]? =some o:=by rfl) (hw:Region.wanted o (yielded ops a.tmps)=true:=by rfl) (hk:b.kind≠ .early:=by k_ne) (hr: ∀u,K u->(execOp a.eval o).run P u=.ok (.value v) u:=by intro _ _;go_simp) (he: ∀u,K u->(execOp a.eval o).events P u #[]=#[]:=by intro _ _;simp[go_sem]):WKE P main K E Φ (G (b.at a (.inRegion ops (i::rest)::k)) cs) d:=ww v ho hw hk hr he hq
def wu (v:Value) (hq:WKE P main K E Φ (G (b.at (a.put o.dst v) (.inRegion ops rest::k)) cs) d) (ho:ops[i]? =some o:=by rfl) (hw:Region.wanted o (yielded ops a.tmps)=true:=by rfl) (hk:b.kind≠ .early:=by k_ne) (hr: ∀u,K u->(execOp a.eval o).run P u=.ok (.value v) u:=by intro _ _;go_simp;try (first|omega|(w_num;omega)|w_num|decide)) (he: ∀u,K u->(execOp a.eval o).events P u #[]=#[]:=by intro _ _;simp[go_sem]):WKE P main K E Φ (G (b.at a (.inRegion ops (i::rest)::k)) cs) d:=ww v ho hw hk hr he hq
def wf {z:Operand} (hq:WKE P main K E Φ (G (b.at a (.code y::k)) cs) d) (h:a.eval z=.bool false:=by rfl):WKE P main K E Φ (G (b.at a (.code (.cond z x y)::k)) cs) d:=ri rfl (λ_=>stepG_cond (t:=false) h) hq
def wt {z:Operand} (hq:WKE P main K E Φ (G (b.at a (.code x::k)) cs) d) (h:a.eval z=.bool true:=by rfl):WKE P main K E Φ (G (b.at a (.code (.cond z x y)::k)) cs) d:=ri rfl (λ_=>stepG_cond (t:=true) h) hq
def wq (hq:WKE P main K E Φ (G (b.at a (.code x:: .code y::k)) cs) d):WKE P main K E Φ (G (b.at a (.code (.seq x y)::k)) cs) d:=ri rfl (λ_=>f4d) hq
def we (hq:WKE P main K E Φ (G (b.at a k) cs) d):WKE P main K E Φ (G (b.at a (.inRegion ops []::k)) cs) d:=ri rfl (λ_=>f1o) hq
def wr {id:Nat} (hq:WKE P main K E Φ (G (b.at a (.inRegion ops (List.range ops.size)::k)) cs) d):WKE P main K E Φ (G (b.at a (.code (.region id ops false)::k)) cs) d:=ri rfl (λ_=>f2o) hq
def ws (hq:WKE P main K E Φ (G (b.at a k) cs) d):WKE P main K E Φ (G (b.at a (.code .skip::k)) cs) d:=ri rfl (λ_=>stepG_skip) hq
def wz (hq:WKE P main K E Φ (G (b.at (a.put o.dst undef) (.inRegion ops rest::k)) cs) d) (ho:ops[i]? =some o:=by rfl) (hw:Region.wanted o (yielded ops a.tmps)=false:=by rfl):WKE P main K E Φ (G (b.at a (.inRegion ops (i::rest)::k)) cs) d:=wk_skip ho hw hq
end
end Go.Proofs.YtelecjnabeokeaaGreatDoor
namespace Go.Proofs.YtelecjnabeokeaaGreatDoor
open Go Go.Conc Go.RowKit
def Tryz.room62:(Tryz.prog.info? 62).map (λi=>decide (i.size=0))=some false:=by kernel_rfl
section
variable {main:Bool} {H:Hide} {Shun:Loc->Prop} {Φ:Goroutine->World->Nat->Prop} {w:World} {n:Nat} {c:Frame} {cs:List Frame}
def xh {p:Addr} (hH:H p.block=none) {m:Nat} (hlt:p.block<m) (wr sy:Bool):EvP H Shun m ⟨.cell p,wr,sy⟩:=o9 (show EvOK H m ⟨.cell p,wr,sy⟩ from⟨hH,hlt⟩)
def fe7 (k:Nat):EvP H Shun k ⟨.mark .disable,false,true⟩:=⟨λt ht a ha=>by simp[MemAct.ofEvent,MemAct.touch?] at ht,trivial⟩
def ffu (k:Nat):EvP H Shun k ⟨.mark .enable,false,true⟩:=⟨λt ht a ha=>by simp[MemAct.ofEvent,MemAct.touch?] at ht,trivial⟩
def fl4 {p:Addr} {k:Nat} (h:p.block<k):EvP H Shun k ⟨.mark (.acquire p),false,true⟩:=⟨λt ht a ha=>by simp[MemAct.ofEvent,MemAct.touch?] at ht,h⟩
def fc2 {p:Addr} {k:Nat} (h:p.block<k):EvP H Shun k ⟨.mark (.releaseMerge p),false,true⟩:=⟨λt ht a ha=>by simp[MemAct.ofEvent,MemAct.touch?] at ht,h⟩
def ai {p:Addr} (hH:H p.block=none) (x:Value):(w.heap.size<=(w.setCell p x).heap.size)/\ ∀b,H b≠none->(w.setCell p x).heap[b]? =w.heap[b]? :=by
 refine⟨by simp[World.setCell],λb hb=>?_⟩;have j:p.block≠b:=by rintro rfl;exact hb hH
 simp[World.setCell,fy6,j]
def fqr {p:Addr} {args:Array Value} {kind:CallKind} (hk:kind=.normal\/kind=.deferred) (hp:args.getD 0 undef=.pointer (some p)) (hH:H p.block=none) (hc:w.cell? p=some (.int .i32 0)) (hz:w.frozen? p=false)
    (h:OG Tryz.prog main H Shun Φ (G (ur kind (.tuple #[]) c) cs) (w.setCell p (.int .i32 1)) n):OG Tryz.prog main H Shun Φ (G (Frame.enter Tryz.prog 57 args kind) (c::cs)) w n:=by
 have j:kind≠ .early:=by rcases hk with rfl|rfl <;>simp
 have hlt:p.block<w.heap.size:=zq hc;rw[enter_at Tryz.func57 rfl];obtain⟨L,m,hL,h0⟩:=fa5 args Tryz.f57.ntmps;rw[hL];have m:13<=L.length:=m;rcases L with _|⟨x0,_|⟨x1,_|⟨x2,_|⟨x3,_|⟨x4,_|⟨x5,_|⟨x6,_|⟨x7,_|⟨x8,_|⟨x9,_|⟨J,_|⟨D,_|⟨I,tl⟩⟩⟩⟩⟩⟩⟩⟩⟩⟩⟩⟩⟩ <;>first|(simp at m;done)|skip
 have q:=(h0 0).trans hp;simp only[f1y] at q;subst q;refine uv (rm ?_);refine ll (es:=#[⟨.mark .disable,false,true⟩]) rfl (λd=>stepG_mark0 .disable fi rfl rfl j rfl Tryz.func61 fd fd fd fd) ⟨fx8 _,λ_ _=>rfl,λe he=>by simp at he;subst he;exact fe7 _⟩ ?_;refine u7 (uv (uv (rm ?_)));refine ov (.pointer (some p)) w ?_;refine ov (.pointer (some p)) w ?_;refine ov (.pointer (some p)) w ?_;obtain⟨s1,s2⟩:=ai (w:=w) hH (.int .i32 1)
 refine ll (w1:=w.setCell p (.int .i32 1)) (es:=#[⟨.cell p,false,true⟩,⟨.cell p,true,true⟩]) rfl (λd=>stepG_cas_hit rfl rfl j rfl Tryz.func95 fd fd fd .i32 fd rfl rfl rfl hc hz)
    ⟨s1,s2,λe he=>by simp at he;rcases he with rfl|rfl <;>exact xh hH jy _ _⟩ ?_
 have B:(w.setCell p (.int .i32 1)).cell? p=some (.int .i32 1):=by simp[go_sem,hc]
 refine u7 (xl (t:=true) rfl (uv (xl (t:=true) rfl (uv (rm ?_)))));refine ll (es:=#[⟨.mark .enable,false,true⟩]) rfl (λd=>stepG_mark0 .enable fi rfl rfl j rfl Tryz.func63 fd fd fd fd) ⟨fx8 _,λ_ _=>rfl,λe he=>by simp at he;subst he;exact ffu _⟩ ?_;refine u7 (rm ?_);refine ov (.pointer (some p)) (w.setCell p (.int .i32 1)) ?_;have A:=λd=>f3v (P:=Tryz.prog) (src:=172) (dst:=132) (w:=(w.setCell p (.int .i32 1)).at d) Tryz.underlying172 Tryz.underlying132 Tryz.room62 B;have C:=λd es=>f4u (P:=Tryz.prog) (src:=172) (dst:=132) (w:=(w.setCell p (.int .i32 1)).at d) Tryz.underlying172 Tryz.underlying132 Tryz.room62 B es;refine qz (x:=.pointer (some p)) (w1:=w.setCell p (.int .i32 1)) rfl rfl j (λd=>by have:=A d;go_simp) (fx8 _) (λ_ _=>rfl) (λd e he=>by simp[go_sem,A,C] at he) ?_;refine ll (es:=#[⟨.mark (.acquire p),false,true⟩]) rfl (λd=>f4t .acquire fi rfl rfl j rfl Tryz.func64 fd fd fd fd (by simp[Act.put,Act.eval])) ⟨fx8 _,λ_ _=>rfl,λe he=>by simp at he;subst he;exact fl4 jy⟩ ?_;refine u7 (fiv (ze hk rfl Tryz.func57 (f2z Tryz.results57 _) ?_));exact h
def fqs {p:Addr} {args:Array Value} {kind:CallKind} (hk:kind=.normal\/kind=.deferred) (hp:args.getD 0 undef=.pointer (some p)) (hH:H p.block=none) (hc:w.cell? p=some (.int .i32 1)) (hz:w.frozen? p=false)
    (h:OG Tryz.prog main H Shun Φ (G (ur kind (.tuple #[]) c) cs) (w.setCell p (.int .i32 0)) n):OG Tryz.prog main H Shun Φ (G (Frame.enter Tryz.prog 58 args kind) (c::cs)) w n:=by
 have j:kind≠ .early:=by rcases hk with rfl|rfl <;>simp
 have hlt:p.block<w.heap.size:=zq hc;rw[enter_at Tryz.func58 rfl];obtain⟨L,m,hL,h0⟩:=fa5 args Tryz.f58.ntmps;rw[hL];have m:21<=L.length:=m;rcases L with _|⟨x0,_|⟨x1,_|⟨x2,_|⟨x3,_|⟨x4,_|⟨x5,_|⟨x6,_|⟨x7,_|⟨x8,_|⟨x9,_|⟨U,_|⟨I,_|⟨J,_|⟨O,_|⟨R,_|⟨M,_|⟨X,_|⟨Y,_|⟨aa,_|⟨W,_|⟨D,tl⟩⟩⟩⟩⟩⟩⟩⟩⟩⟩⟩⟩⟩⟩⟩⟩⟩⟩⟩⟩⟩ <;>first|(simp at m;done)|skip
 have A:=(h0 0).trans hp;simp only[f1y] at A;subst A;have q: ∀d,(w.at d).cell? p=some (.int .i32 1):=λd=>hc;refine uv (xl (t:=true) rfl (uv (rm ?_)));refine ov (.pointer (some p)) w ?_;refine ov (.pointer (some p)) w ?_;refine ov (.pointer (some p)) w ?_;refine qz (x:=.int .i32 1) (w1:=w) rfl rfl j (λd=>by have:=q d;go_simp) (fx8 _) (λ_ _=>rfl) (λd e he=>by simp[go_sem,q] at he;subst he;exact⟨xh hH hlt _ _,by simp[vl]⟩) ?_;walk_nrm;refine u7 (uv (rm ?_));refine ov (.pointer (some p)) w ?_;have B:=λd=>f3v (P:=Tryz.prog) (src:=172) (dst:=132) (w:=w.at d) Tryz.underlying172 Tryz.underlying132 Tryz.room62 hc;have C:=λd es=>f4u (P:=Tryz.prog) (src:=172) (dst:=132) (w:=w.at d) Tryz.underlying172 Tryz.underlying132 Tryz.room62 hc es;refine qz (x:=.pointer (some p)) (w1:=w) rfl rfl j (λd=>by have:=B d;go_simp) (fx8 _) (λ_ _=>rfl) (λd e he=>by simp[go_sem,B,C] at he) ?_;refine ll (es:=#[⟨.mark (.releaseMerge p),false,true⟩]) rfl (λd=>f4t .releaseMerge fi rfl rfl j rfl Tryz.func97 fd fd fd fd (by simp[Act.put,Act.eval])) ⟨fx8 _,λ_ _=>rfl,λe he=>by simp at he;subst he;exact fc2 hlt⟩ ?_;walk_nrm;refine u7 (rm ?_);refine ll (es:=#[⟨.mark .disable,false,true⟩]) rfl (λd=>stepG_mark0 .disable fi rfl rfl j rfl Tryz.func61 fd fd fd fd) ⟨fx8 _,λ_ _=>rfl,λe he=>by simp at he;subst he;exact fe7 _⟩ ?_;walk_nrm;refine u7 (uv (rm ?_));refine ov (.pointer (some p)) w ?_;refine ov (.pointer (some p)) w ?_;refine ov (.pointer (some p)) w ?_;obtain⟨s1,s2⟩:=ai (w:=w) hH (.int .i32 0)
 refine ll (w1:=w.setCell p (.int .i32 0)) (es:=#[⟨.cell p,false,true⟩,⟨.cell p,true,true⟩]) rfl (λd=>stepG_add_atomic (w:=w.at d) (v:=1) (d:= -1) rfl rfl j rfl Tryz.func98 fd fd fd .i32 fd rfl rfl (q d) hz)
    ⟨s1,s2,λe he=>by simp at he;rcases he with rfl|rfl <;>exact xh hH jy _ _⟩ ?_
 have e0:IntKind.i32.wrap (1+ -1)=0:=by decide
 rw[e0];refine ov (.int .i32 0) (w.setCell p (.int .i32 0)) ?_;walk_nrm;refine u7 (uv (uv (rm ?_)));refine ov (.int .i32 0) (w.setCell p (.int .i32 0)) ?_;refine ov (.bool false) (w.setCell p (.int .i32 0)) ?_;walk_nrm;refine u7 (xl (t:=false) rfl (oa (rm ?_)));refine ll (es:=#[⟨.mark .enable,false,true⟩]) rfl (λd=>stepG_mark0 .enable fi rfl rfl j rfl Tryz.func63 fd fd fd fd) ⟨fx8 _,λ_ _=>rfl,λe he=>by simp at he;subst he;exact ffu _⟩ ?_;walk_nrm;refine u7 (fiu (ze hk rfl Tryz.func58 (f2z Tryz.results58 _) ?_));exact h
end
def cL:Code->Code
 | .seq x _=>x
 | _=>.skip
def cR:Code->Code
 | .seq _ y=>y
 | _=>.skip
def cIn:Code->Code
 | .block _ c | .loop c=>c
 | _=>.skip
def cOps:Code->Array Oper
 | .region _ ops _=>ops
 | _=>#[]
def zw (f:Func):Code:=f.body.getD .skip
def Tryz.infos49:(Tryz.prog.info? 49).isSome=true:=by kernel_rfl
section
variable {main:Bool} {H:Hide} {Shun:Loc->Prop} {Φ:Goroutine->World->Nat->Prop} {w:World} {n:Nat} {c:Frame} {cs:List Frame}
def fa6 (hH: ∀b,H b≠none->b<w.heap.size) (o:Obj):(w.heap.size<=(w.alloc o).heap.size)/\(∀b,H b≠none->(w.alloc o).heap[b]? =w.heap[b]?)/\ ∀b,H b≠none->b<(w.alloc o).heap.size:=by
 have hs:(w.alloc o).heap.size=w.heap.size+1:=by show(w.heap.push o).size=_;simp
 refine⟨by omega,λb hb=>?_,λb hb=>by have:=hH b hb;omega⟩;show(w.heap.push o)[b]? =_;rw[f05,fx9 (by have:=hH b hb;omega)]
def xd (w:World) (o:Obj):(w.alloc o).heap.size=w.heap.size+1:=by show(w.heap.push o).size=_;simp
def fa7 (u:World) (x y:Value) (t:TypeId):(u.alloc (.cells #[x] t)).setCell ⟨u.heap.size,0,none⟩ y=u.alloc (.cells #[y] t):=by
 have:((u.heap.push (.cells #[x] t)).modify u.heap.size λo=>match o with
  | .cells c elem frozen=>.cells (if (none:Option Nat).isSome then c else c.setIfInBounds 0 y) elem frozen
  | o=>o)=u.heap.push (.cells #[y] t):=by
    apply f0v;intro i;rw[fy6,f05,f05];by_cases e:u.heap.size=i
    ·rw[f02 e,f02 e.symm,f02 e.symm];rfl
    ·rw[fx9 e,fx9 λh=>e h.symm,fx9 λh=>e h.symm]
 have e:(u.alloc (.cells #[x] t)).setCell ⟨u.heap.size,0,none⟩ y={ (u.alloc (.cells #[x] t)) with heap:=(u.heap.push (.cells #[x] t)).modify u.heap.size λo=>match o with
  | .cells c elem frozen=>.cells (if (none:Option Nat).isSome then c else c.setIfInBounds 0 y) elem frozen
  | o=>o }:=rfl
 rw[e,this];rfl
def fl5 {P:Program} {ops:Array Oper} {o:Oper} {a:Act} {b:Frame} {k:List Item} {w1:World} {i:Nat} {rest:List Nat} (ho:ops[i]? =some o) (hw:Region.wanted o (yielded ops a.tmps)=true) (hk:b.kind≠ .early) (hrun: ∀d,(execOp a.eval o).run P (w.at d)=.ok .skip (w1.at d)) (hsz:w.heap.size<=w1.heap.size)
    (j: ∀b,H b≠none->w1.heap[b]? =w.heap[b]?) (hev: ∀d,∀e∈(execOp a.eval o).events P (w.at d) #[],EvP H Shun w1.heap.size e/\vl e) (h:OG P main H Shun Φ (G (b.at (a.put o.dst undef) (.inRegion ops rest::k)) cs) w1 n):
    OG P main H Shun Φ (G (b.at a (.inRegion ops (i::rest)::k)) cs) w n:=by
 refine .one rfl λd=>⟨_,w1.at d,_,stepG_none ho hw hk (hrun d),⟨hsz,j,λe he=>(hev d e (f3e he)).1⟩,?_⟩;rw[show deafBehind n (listed P b.fn a o (w.at d))=n from f6s (λe he=>(hev d e (f3e he)).2) n];cases h with
 | stop h=>exact .stop h
 | step g1 w1 es hr h1 h2 h3=>exact .step g1 w1 es hr h1 h2 h3
def doW (w:World) (x1:Value):World:=((w.alloc (.cells x1.cells 116)).alloc (.chan 0 #[] false 0 0 false)).alloc (.cells #[.chan (some (w.heap.size+1))] 163)
abbrev mB (kind:CallKind):Frame:={ (default:Frame) with fn:=46,kind:=kind }
noncomputable abbrev R2:Array Oper:=cOps (cL (cR (cR (zw Tryz.f46))))
noncomputable abbrev C3:Code:=cR (cR (cR (zw Tryz.f46)))
noncomputable abbrev R3:Array Oper:=cOps (cL C3)
abbrev fu1 (m:Nat):Value:=.func (.func 86) #[] #[.pointer (some ⟨m+2,0,none⟩),.pointer (some ⟨m,0,none⟩)]
def og_do {args:Array Value} {kind:CallKind} {x0 x1:Value} (hk:kind=.normal\/kind=.deferred) (h0:args.getD 0 undef=x0) (h1:args.getD 1 undef=x1) (hH: ∀b,H b≠none->b<w.heap.size)
    (h: ∀a:Act,a.defers=[]->a.tmps.getD 5 undef=.pointer (some ⟨w.heap.size+2,0,none⟩)->11<=a.tmps.size->a.eval (.tmp 7)=x0->a.eval (.tmp 8)=fu1 w.heap.size->OG Tryz.prog main H Shun Φ (G ((mB kind).at a [.inRegion R2 [2],.code C3]) (c::cs)) (doW w x1) n):
    OG Tryz.prog main H Shun Φ (G (Frame.enter Tryz.prog 46 args kind) (c::cs)) w n:=by
 have m:kind≠ .early:=by rcases hk with rfl|rfl <;>simp
 rw[enter_at Tryz.func46 rfl];obtain⟨L,q,hL,hg⟩:=fa5 args Tryz.f46.ntmps;rw[hL];have q:11<=L.length:=q;rcases L with _|⟨y0,_|⟨y1,_|⟨y2,_|⟨y3,_|⟨y4,_|⟨y5,_|⟨y6,_|⟨y7,_|⟨y8,_|⟨y9,_|⟨R,tl⟩⟩⟩⟩⟩⟩⟩⟩⟩⟩⟩ <;>first|(simp at q;done)|skip
 have I:=(hg 0).trans h0;have C:=(hg 1).trans h1;simp only[f1y,List.getD_cons_succ] at I C;subst I;subst C;have hW:doW w y1=((w.alloc (.cells y1.cells 116)).alloc (.chan 0 #[] false 0 0 false)).alloc (.cells #[.chan (some (w.heap.size+1))] 163):=rfl;obtain⟨s1,s2,s3⟩:=fa6 hH (.cells y1.cells 116);refine uv (rm ?_);refine qz (x:=.pointer (some ⟨w.heap.size,0,none⟩)) (w1:=w.alloc (.cells y1.cells 116)) rfl rfl m (λd=>rfl) s1 s2 (λd e he=>by simp[go_sem] at he) ?_;have e1:=xd w (.cells y1.cells 116);generalize w.alloc (.cells y1.cells 116)=u at*;rw[<- e1] at hW;have D:w.heap.size+2=u.heap.size+1:=by omega
 rw[D] at h;obtain⟨t1,t2,t3⟩:=fa6 s3 (.chan 0 #[] false 0 0 false);refine ox (.nilIface) u ?_;refine u7 (uv (rm ?_))
 refine qz (x:=.chan (some u.heap.size)) (w1:=u.alloc (.chan 0 #[] false 0 0 false)) rfl rfl m (λd=>rfl) t1 t2 (λd e he=>by
    have he:e∈(Instr.makeChan 163 (.int .i64 ((0:Nat):Int))).events Tryz.prog (u.at d) #[]:=he;obtain⟨i49,J⟩:=Option.isSome_iff_exists.1 Tryz.infos49;rw[events_makeChan Tryz.underlying163 J .i64 0 fu fi] at he;simp at he) ?_
 have e2:=xd u (.chan 0 #[] false 0 0 false);generalize u.alloc (.chan 0 #[] false 0 0 false)=u2 at*;rw[<- e2] at h;generalize hM:u.heap.size=M at*;have O:u2.heap.size=w.heap.size+2:=by omega
 clear e1 D e2;obtain⟨r1,r2,r3⟩:=fa6 t3 (.cells #[.chan none] 163);refine qz (x:=.pointer (some ⟨u2.heap.size,0,none⟩)) (w1:=u2.alloc (.cells #[.chan none] 163)) rfl rfl m (λd=>by go_simp;rfl) r1 r2 (λd e he=>by simp[go_sem] at he) ?_
 have A:H u2.heap.size=none:=by
    cases e:H u2.heap.size with
    | none=>rfl
    | some o=>exact absurd (t3 u2.heap.size pb) fe
 walk_nrm;have hz: ∀d,((u2.alloc (.cells #[.chan none] 163)).at d).frozen? ⟨u2.heap.size,0,none⟩=false:=λd=>by go_simp
 have j: ∀d,((u2.alloc (.cells #[.chan none] 163)).at d).cell? ⟨u2.heap.size,0,none⟩=some (.chan none):=λd=>by go_simp
 obtain⟨q1,q2⟩:=ai (w:=u2.alloc (.cells #[.chan none] 163)) (p:=⟨u2.heap.size,0,none⟩) A (.chan (some M));rw[fa7] at q1 q2;have B:u2.alloc (.cells #[.chan (some M)] 163)=doW w y1:=by rw[hW]
 refine fl5 (w1:=u2.alloc (.cells #[.chan (some M)] 163)) rfl rfl m (λd=>by have:=hz d;have:=j d;clear h hW B O;go_simp;exact f3q (λw:World=>w.at d) (fa7 u2 (.chan none) (.chan (some M)) 163)) q1 q2 (λd e he=>by
    simp[go_sem,hz,j] at he;subst he;exact⟨xh A (by rw[xd];exact Nat.lt_succ_self _) _ _,by simp[vl]⟩) ?_
 rw[B];walk_nrm;refine u7 (uv (rm ?_));refine ox y0 (doW w y1) ?_;walk_nrm;refine qz (x:=fu1 w.heap.size) (w1:=doW w y1) rfl rfl m (λd=>by clear h hW B hz j;go_simp) (fx8 _) (λ_ _=>rfl) (λd e he=>by have he:e∈(#[]:Array Event):=he;simp at he) ?_;walk_nrm;exact h _ rfl rfl fi rfl rfl
end
def fc3 (x:Value):Sem Next:=Deferred.ofValue x #[] >>= λd=>invoke d.target d.args
def yg {ρ:Operand->Value} {o:Oper} {y:Operand} (h:o.op=.call { callee:=.value y,args:=#[],argTypes:=#[] }):execOp ρ o=fc3 (ρ y):=by
 unfold execOp;rw[h];show(resolve ρ _ o.type >>= λd=>invoke d.target d.args)=fc3 (ρ y);have e:(#[]:Array Operand).map ρ=#[]:=by simp
 show((Deferred.ofValue (ρ y) ((#[]:Array Operand).map ρ)) >>= λd=>invoke d.target d.args)=fc3 (ρ y);rw[e];rfl
section
variable {P:Program} {F:Array Func} {N:Nat->Prop}
def fqt (hF:FOk P F) (x:Value):Sim P F N (fc3 x):=by
 have h:=af (N:=N) hF (λ_=>x) (o:={ dst:=none,op:=.call { callee:=.value (.tmp 0),args:=#[],argTypes:=#[] },type:=49,pos:= "",after:=#[],guard:=none }) rfl;rwa[yg rfl] at h
def NextC (x:Next):Prop:=(∃y,x=.value y)\/(∃f xs,x=.enter f xs)\/ ∃l f ts a b,x=.round l f ts a b/\(va a=true/\va b=true)/\um a=true/\um b=true
def NextCall.c {x:Next} (h:NextCall x):NextC x:=by
 cases x <;>first|exact .inl ⟨_,rfl⟩|exact .inr (.inl ⟨_,_,rfl⟩)|cases h
def NextC.ok {x:Next} {cm:Prop} (h:NextC x):vr cm x:=by
 rcases h with⟨y,rfl⟩|⟨f,xs,rfl⟩|⟨l,f,ts,a,b,rfl,h⟩
 ·trivial
 ·trivial
 ·exact h
def fl6 (l:Nat) (xs:Array Value) {v v1:World} {x:Next} (h:(Instr.yield l xs).run P v=.ok x v1): ∃f ts a b,x=.round l f ts a b:=by
 unfold Instr.yield at h;have h:(Sem.getObj l (λo=>Sem.bind (match o with
  | .loop r=>Pure.pure r
  | _=>Go.stuck "range over a function: no such loop" :Sem Loop) λr=>(do
    if xs.size≠r.params.size then Go.stuck "yield: the wrong number of arguments"
    Pure.pure (.round l r.fn ((r.params.zip xs).foldl (λtmps (t,a)=>tmps.setIfInBounds t a) r.tmps) r.assign r.body)))).run P v=.ok x v1:=h
 cases hv:v.heap[l]? with
 | none=>simp[Sem.run,hv] at h
 | some o=>
   cases o with
   | loop r=>
     simp only[Sem.run,hv] at h;dsimp only[Pure.pure,Sem.bind] at h;split at h
     ·cases h
     ·cases h;exact⟨_,_,_,_,rfl⟩
   | cells=>simp[Sem.run,hv] at h
   | _=>
     simp only[Sem.run,hv] at h;cases h
def fl7 (hF:FOk P F) (y:Value) {v v1:World} {x:Next} (ho:ut v) (h:(fc3 y).run (V P F) v=.ok x v1):NextC x:=by
 unfold fc3 at h;cases hr:(Deferred.ofValue y #[]).run (V P F) v with
 | halt z v2=>
   have:=(f2r (f:=λd:Deferred=>invoke d.target d.args) hr).symm.trans h;cases this
 | ok d v2=>
   replace h:=(qw hr).symm.trans h;have hd:v2=v/\(d.target=.nil\/ ∃f c,d.target=.fn f c):=by
    unfold Deferred.ofValue at hr;split at hr <;>cases hr <;>first|exact⟨rfl,.inl rfl⟩|exact⟨rfl,.inr ⟨_,_,rfl⟩⟩
   obtain⟨rfl,hd⟩:=hd;rcases hd with hd|⟨f,c,hd⟩ <;>rw[hd] at h <;>unfold invoke at h
   ·exact aw (Q:=NextC) (uj _) _ _ _ h
   ·dsimp only at h;cases f with
    | func f=>exact(xo hF _ _ _ x v1 h).c
    | method n=>
      dsimp only at h;split at h
      ·exact(xx hF _ _ _ _ x v1 h).c
      ·cases h
    | methodOf t n=>
      dsimp only at h;split at h
      ·exact(ux (Q:=NextCall) (λy=>xx hF _ _ _) _ x v1 h).c
      ·cases h
    | via t p f q=>
      dsimp only at h;split at h
      ·exact(ux (Q:=NextCall) (λy=>xo hF _ _) _ x v1 h).c
      ·cases h
    | yield l=>
      obtain⟨f,ts,a,b,rfl⟩:=fl6 _ _ h;exact .inr (.inr ⟨_,_,_,_,_,rfl,fdj (cm:=False) _ _ ho h⟩)
end
section
variable {P:Program} {F:Array Func} {Stop:Frame->List Frame->World->Prop} {H:Hide} {v w:World} {b b' g:Frame} {a a':Act} {k k':List Item} {l:List Frame} {ops ops':Array Oper} {i i':Nat} {rest rest':List Nat} {o o':Oper} {y y':Operand} {x1:Value}
def VCall (P:Program) (F:Array Func) (Stop:Frame->List Frame->World->Prop) (s:St) (D0:Frame) (l:List Frame) (v1:World):Next->Prop
 | .value y=>Ahead (V P F) Stop s (D0.finish y,l,v1)
 | .enter f xs=>Ahead (V P F) Stop s (Frame.enter (V P F) f xs .normal,D0::l,v1)
 | .round lo f ts ca cb=>Ahead (V P F) Stop s (Frame.round lo f ts ca cb .normal,D0::l,v1)
 | _=>False
def fqu (A:VS P F Stop) (hF:FOk P F) (rel:Rel H v w) (d:Nat) (ho:ops[i]? =some o) (O:o.op=.call { callee:=.value y,args:=#[],argTypes:=#[] }) (hy:a.eval y=x1) (hw:Region.wanted o (yielded ops a.tmps)=true)
    (X:ops'[i']? =some o') (J:o'.op=.call { callee:=.value y',args:=#[],argTypes:=#[] }) (W:a'.eval y'=x1) (aa:Region.wanted o' (yielded ops' a'.tmps)=true) (ab:b'.kind=.normal\/b'.kind=.deferred) (ac: ∀it∈k',wk it=true) (M:ops'.all fpj=true)
    (L:Lv P F Stop (b.at a (.inRegion ops (i::rest)::k),g::l,v)):
    ∃ x v1 w1 es,NextC x/\VCall P F Stop (b.at a (.inRegion ops (i::rest)::k),g::l,v) (b.at a (.inRegion ops (i::rest)::k)) (g::l) v1 x/\v.heap.size<=v1.heap.size/\
      ff9 P (b'.at a' (.inRegion ops' (i'::rest')::k')) (w.at d) (zr (b'.at a' (.inRegion ops' (i'::rest')::k')) x) w1 es/\w1.tape=w.tape/\Rel H v1 w1/\ ∀e∈es,EvOK H w1.heap.size e:=by
 have hn: ¬Stop (b.at a (.inRegion ops (i::rest)::k)) (g::l) v:=λh=>by have:=A.stopNil _ _ _ h;cases this
 have D:=L.stk (b.at a (.inRegion ops (i::rest)::k)) fi;have m:=stepG_oper (P:=V P F) (main:=true) (b:=b) (a:=a) (k:=k) (cs:=g::(l++[botF])) (w:=reW v w.tape d) (rest:=rest) ho hw;rw[yg O,hy] at m;have B: ∀main c cs,stepG P main (G (b'.at a' (.inRegion ops' (i'::rest')::k')) (c::cs)) (w.at d)=_:=λmain c cs=>stepG_oper (P:=P) (main:=main) (b:=b') (a:=a') (k:=k') (cs:=c::cs) (w:=w.at d) (rest:=rest') X aa;rw[yg J,W] at B
 obtain⟨fr',l',v',I,ad⟩: ∃fr' l' v',step (V P F) (lone (b.at a (.inRegion ops (i::rest)::k)) ((g::l)++[botF]) (reW v w.tape d))=.next (lone fr' (l'++[botF]) v')/\Fin (V P F) Stop fr' l' v':=by
    have hf:=L.fin;cases hf with
    | stop h=>exact absurd h hn
    | step fr' l' v' h1 h2=>exact⟨_,_,_,h1 w.tape d,h2 _ _⟩
 have C:Rel H (reW v w.tape d) (w.at d):=(rel.re w.tape d).re' w.tape d;rcases ym (fqt (N:=λ_=>False) hF x1) C with⟨h',v1,e,hh⟩|⟨R,hR,v1,kk,e,ak,hsz,ae,ah,_,h4⟩
 ·exfalso;obtain⟨o2,u,an,e2⟩:=dg (fr:=b.at a (.inRegion ops (i::rest)::k)) e hh g (l++[botF]);rw[e2] at m;have U:step (V P F) (lone (b.at a (.inRegion ops (i::rest)::k)) (g::(l++[botF])) (reW v w.tape d))=.ended o2 u:=f3u (by unfold G at m;rw[m];rfl);rw[f0j,U] at I;cases I
 ·obtain⟨w1,new,Y,g2,g3,g4,g5⟩:=h4 λj _=>rfl;obtain⟨es,hT⟩:=uu e;rcases hR with⟨x,rfl⟩|⟨x,rfl⟩
  ·have hc:NextC x:=fl7 hF x1 C.objs e;refine⟨x,v1,w1,seen P b'.fn new,hc,?_,hsz,λmain c cs=>?_,g2,g4,λe he=>g5 e (f3e he)⟩
   ·rw[f6y (fr:=b.at a (.inRegion ops (i::rest)::k)) (cm:=True) hT hc.ok D.kind D.todo] at m;have go: ∀(f1:Frame) (l1:List Frame),stepG (V P F) true (G (b.at a (.inRegion ops (i::rest)::k)) (g::(l++[botF]))) (reW v w.tape d)=.go (G f1 (l1++[botF])) v1 (seen (V P F) b.fn es)->Ahead (V P F) Stop (b.at a (.inRegion ops (i::rest)::k),g::l,v) (f1,l1,v1):=λf1 l1 h=>
     ⟨(f1,l1,v1),w.tape,d,hn,f3t (by unfold G at h;rw[show((b.at a (.inRegion ops (i::rest)::k),g::l,v):St).2.1++[botF]=g::(l++[botF]) from rfl,h];rfl),.refl _⟩
    rcases hc with⟨y,rfl⟩|⟨f,xs,rfl⟩|⟨lo,f,ts,ca,cb,rfl,_⟩
    ·exact go _ (g::l) m
    ·exact go _ (_::g::l) m
    ·exact go _ (_::g::l) m
   ·rw[B main c cs];exact f6y (fr:=b'.at a' (.inRegion ops' (i'::rest')::k')) (cm:=True) Y hc.ok ab (λit q=>by
     simp only[Frame.at,fy3] at q;rcases q with rfl|q
     ·exact M
     ·exact ac it q) c cs
  ·exfalso;rw[ax (fr:=b.at a (.inRegion ops (i::rest)::k)) hT D.kind g (l++[botF])] at m
   have ha:Ahead (V P F) Stop (b.at a (.inRegion ops (i::rest)::k),g::l,v) ((b.at a (.inRegion ops (i::rest)::k)).raise [{ v:=x,recovered:=false }],g::l,v1):=
      ⟨(_,g::l,v1),w.tape,d,hn,f3t (by unfold G at m;rw[show((b.at a (.inRegion ops (i::rest)::k),g::l,v):St).2.1++[botF]=g::(l++[botF]) from rfl,m];rfl),.refl _⟩
   exact fgv A (vn A L ha) ⟨(b.at a (.inRegion ops (i::rest)::k)).raise [{ v:=x,recovered:=false }],fz5,vu _ _⟩
end
section
variable {P:Program} {main:Bool} {K:World->Prop} {Still:Loc->Prop} {B:Nat} {Stop:Goroutine->World->Prop} {n:Nat} {g g1:Goroutine} {w w1:World}
def fw0 (h:Goes P main (RK K) (DS Still B) Stop n g w) (hk:K w1):Goes P main (RK K) (DS Still B) Stop n g w1:=h.rely (λ_ _ _ _ h=>h) hk
def fe8 (hr:g.status=.running) (hs: ∀w,stepG P main g w=.go g1 w) (h:Goes P main (RK K) (DS Still B) Stop n g1 w):Goes P main (RK K) (DS Still B) Stop (n+1) g w:=
 Goes.step hr λw₁ h₁=>by rw[hs];exact⟨ds_none _,fw0 h h₁⟩
variable {b:Frame} {a:Act} {k:List Item} {cs:List Frame} {x1 x2:Code} {ops:Array Oper} {i:Nat} {rest:List Nat} {o:Oper} {x:Value} {H:Hide} {Shun:Loc->Prop} {Φ:Goroutine->World->Nat->Prop}
def fqv (h:Goes P main (RK K) (DS Still B) Stop n (G (b.at a (.code x1:: .code x2::k)) cs) w):Goes P main (RK K) (DS Still B) Stop (n+1) (G (b.at a (.code (.seq x1 x2)::k)) cs) w:=fe8 rfl (λ_=>f4d) h
def fj8 (h:Goes P main (RK K) (DS Still B) Stop n (G (b.at a k) cs) w):Goes P main (RK K) (DS Still B) Stop (n+1) (G (b.at a (.inRegion ops []::k)) cs) w:=fe8 rfl (λ_=>f1o) h
def fa8 {id:Nat} (h:Goes P main (RK K) (DS Still B) Stop n (G (b.at a (.inRegion ops (List.range ops.size)::k)) cs) w):Goes P main (RK K) (DS Still B) Stop (n+1) (G (b.at a (.code (.region id ops false)::k)) cs) w:=fe8 rfl (λ_=>f2o) h
def fqw {id:Nat} (h:Goes P main (RK K) (DS Still B) Stop n (G (b.at a k) cs) w):Goes P main (RK K) (DS Still B) Stop (n+1) (G (b.at a (.inBlock id::k)) cs) w:=fe8 rfl (λ_=>stepG_inBlock) h
def fu2 {c:Code} (h:Goes P main (RK K) (DS Still B) Stop n (G (b.at a (.code c:: .inLoop c::k)) cs) w):Goes P main (RK K) (DS Still B) Stop (n+1) (G (b.at a (.inLoop c::k)) cs) w:=fe8 rfl (λ_=>stepG_inLoop) h
def k_end (h:Goes P main (RK K) (DS Still B) Stop n (G { b.at a [] with mode:=.returning } cs) w):Goes P main (RK K) (DS Still B) Stop (n+1) (G (b.at a []) cs) w:=fe8 rfl (λ_=>f4e) h
def fj9 (ho:ops[i]? =some o) (hw:Region.wanted o (yielded ops a.tmps)=true) (hk:b.kind≠ .early) (hrun: ∀w,K w->(execOp a.eval o).run P w=.ok (.value x) w) (hev: ∀w,K w-> ∀e∈(execOp a.eval o).events P w #[],EvC Still B e)
    (h:Goes P main (RK K) (DS Still B) Stop n (G (b.at (a.put o.dst x) (.inRegion ops rest::k)) cs) w):Goes P main (RK K) (DS Still B) Stop (n+1) (G (b.at a (.inRegion ops (i::rest)::k)) cs) w:=
 Goes.step rfl λw₁ h₁=>by
    rw[stepG_value ho hw hk (hrun w₁ h₁)];exact⟨⟨rfl,λe he=>hev w₁ h₁ e (f3e he)⟩,fw0 h h₁⟩
def fcf {id:Nat} (h:OG P main H Shun Φ (G (b.at a (.code x1:: .inBlock id::k)) cs) w n):OG P main H Shun Φ (G (b.at a (.code (.block id x1)::k)) cs) w n:=io rfl (λ_=>f5i) h
def og_draw {id:Nat} (h: ∀t,OG P main H Shun Φ (G (b.at a (.inRegion ops (Region.schedule (P.follows .mixedOrders) ops t)::k)) cs) w n):OG P main H Shun Φ (G (b.at a (.code (.region id ops true)::k)) cs) w n:=
 .one rfl λd=>⟨_,_,#[],stepG_region_draw,⟨fx8 _,λ_ _=>rfl,by simp⟩,(by
    have h1:=h ((w.at d).tape (w.at d).drawn (.order b.fn id));cases h1 with
    | stop h=>exact .stop h
    | step g1 w1 es hr h1 h2 h3=>exact .step g1 w1 es hr h1 h2 h3)⟩
def fmn {f:FuncId} {args:Array Value} (ho:ops[i]? =some o) (hw:Region.wanted o (yielded ops a.tmps)=true) (hk:b.kind≠ .early) (hrun: ∀d,(execOp a.eval o).run P (w.at d)=.ok (.enter f args) (w.at d))
    (hev: ∀d,∀e∈(execOp a.eval o).events P (w.at d) #[],EvP H Shun w.heap.size e/\vl e) (h:OG P main H Shun Φ (G (Frame.enter P f args .normal) (b.at a (.inRegion ops (i::rest)::k)::cs)) w n):
    OG P main H Shun Φ (G (b.at a (.inRegion ops (i::rest)::k)) cs) w n:=by
 refine .one rfl λd=>⟨_,w.at d,_,stepG_enter ho hw hk (hrun d),⟨fx8 _,λ_ _=>rfl,λe he=>(hev d e (f3e he)).1⟩,?_⟩;rw[show deafBehind n (listed P b.fn a o (w.at d))=n from f6s (λe he=>(hev d e (f3e he)).2) n];cases h with
 | stop h=>exact .stop h
 | step g1 w1 es hr h1 h2 h3=>exact .step g1 w1 es hr h1 h2 h3
end
def fja {P:Program} {f:FuncId} {fn:Func} {cap:Array Value} (hf:P.funcs[f]? =some fn) (hn:(fn.name== "runtime.NumGoroutine")=false) (hb:fn.body.isNone=false) (w:World):(fc3 (.func (.func f) #[] cap)).runT P w #[]=(.ok (.enter f cap) w,#[]):=by
 have e : (fc3 (.func (.func f) #[] cap)).runT P w #[]=(match P.funcs[f]? with
        | none=>Go.stuck "call: no such function"
        | some fn=>if fn.name== "runtime.NumGoroutine" then Pure.pure Next.numGoroutine else if fn.body.isNone then (do
           mark (.extern f)
           if let some e:=Extern.findNext fn then return <- e (#[]++ #[]++cap)
           match Extern.find fn with
           | some e=>Pure.pure (.value (<- e (#[]++ #[]++cap)))
           | none=>if fn.name.endsWith ".init" && !fn.name.startsWith "(" && !fn.name.startsWith "gosem." then Pure.pure (.value (.tuple #[])) else unsupported (.extern fn.name)) else Pure.pure (.enter f (#[]++ #[]++cap)):Sem Next).runT P w #[]:=rfl
 rw[e,hf];simp only[hn,hb,f0g,f0s];have e2: #[]++ #[]++cap=cap:=by simp
 rw[e2];rfl
noncomputable abbrev fat:Code:=cIn (cIn (cR (cR (zw Tryz.f78))))
noncomputable abbrev fwk:Array Oper:=cOps (cL fat)
noncomputable abbrev wCall:Array Oper:=cOps (cR (cIn (cR (cR fat))))
noncomputable abbrev homeK:List Item:=[.inRegion fwk [0,1],.code (cR fat),.inLoop fat,.inBlock 0]
noncomputable abbrev callK:List Item:=[.inRegion wCall [1],.inBlock 1,.inLoop fat,.inBlock 0]
abbrev wB:Frame:={ (default:Frame) with fn:=78,kind:=.deferred }
def fbr (ds:List Deferred) (c0:List Frame) (k:Nat) (g:Goroutine):Prop:= ∃a:Act,g=G (wB.at a homeK) c0/\a.defers=ds/\a.tmps.getD 6 undef=.chan (some k)/\a.tmps.size=12
def fa9 (a:Act) {N:Nat} (h:a.tmps.size=N): ∃(L:List Value) (ds:List Deferred),L.length=N/\a={ tmps:=L.toArray,defers:=ds }:=⟨a.tmps.toList,a.defers,by simpa using h,by simp⟩
section
variable {main:Bool} {H:Hide} {Shun:Loc->Prop} {Φ:Goroutine->World->Nat->Prop} {w:World} {n:Nat}
def fu3 {ds:List Deferred} {c0:List Frame} {k:Nat} {g:Goroutine} {cap:Array Value} (hg:fbr ds c0 k g)
    (h: ∀a2:Act,a2.defers=ds->a2.tmps.getD 6 undef=.chan (some k)->a2.tmps.size=12->
      OG Tryz.prog main H Shun Φ (G (Frame.enter Tryz.prog 86 cap .normal) (wB.at a2 callK::c0)) w n):
    OG Tryz.prog main H Shun Φ (Go.Conc.served g (recvd true (.func (.func 86) #[] cap) true)) w n:=by
 obtain⟨a,rfl,hd,h6,hsz⟩:=hg;obtain⟨L,j,m,rfl⟩:=fa9 a hsz;rcases L with _|⟨y0,_|⟨y1,_|⟨y2,_|⟨y3,_|⟨y4,_|⟨y5,_|⟨y6,_|⟨y7,_|⟨y8,_|⟨y9,_|⟨q,_|⟨A,_|⟨B,tl⟩⟩⟩⟩⟩⟩⟩⟩⟩⟩⟩⟩⟩ <;>first|(simp at m;done)|skip
 have hd:j=ds:=hd;have h6:y6=.chan (some k):=h6;subst hd;subst h6;rw[served_fr,f0i];show OG Tryz.prog main H Shun Φ (G (wB.at { tmps:=#[y0,y1,y2,y3,y4,y5,.chan (some k),.tuple #[.func (.func 86) #[] cap,.bool true],y8,y9,q,A],defers:=j } [.inRegion fwk [1],.code (cR fat),.inLoop fat,.inBlock 0]) c0) w n;refine qz (x:=.bool true) (w1:=w) rfl rfl fu (λd=>rfl) (fx8 _) (λ_ _=>rfl) (λd e he=>by have he:e∈(#[]:Array Event):=he;simp at he) ?_;refine u7 (uv (xl (t:=true) rfl (oa (fcf (uv (rm ?_))))));refine qz (x:=.func (.func 86) #[] cap) (w1:=w) rfl rfl fu (λd=>rfl) (fx8 _) (λ_ _=>rfl) (λd e he=>by have he:e∈(#[]:Array Event):=he;simp at he) ?_;refine qz (x:=.func (.func 86) #[] cap) (w1:=w) rfl rfl fu (λd=>rfl) (fx8 _) (λ_ _=>rfl) (λd e he=>by have he:e∈(#[]:Array Event):=he;simp at he) ?_;refine u7 (rm ?_);refine qz (x:=.func (.func 86) #[] cap) (w1:=w) rfl rfl fu (λd=>rfl) (fx8 _) (λ_ _=>rfl) (λd e he=>by have he:e∈(#[]:Array Event):=he;simp at he) ?_;refine fmn (f:=86) (args:=cap) rfl rfl fu (λd=>?_) (λd e he=>?_) ?_
 ·rw[yg rfl];show(fc3 (.func (.func 86) #[] cap)).run Tryz.prog (w.at d)=_;rw[<- f0d _ _ _ #[],fja Tryz.func86 fd fd]
 ·rw[yg rfl] at he;have he:e∈((fc3 (.func (.func 86) #[] cap)).runT Tryz.prog (w.at d) #[]).2:=he;rw[fja Tryz.func86 fd fd] at he;simp at he
 ·exact h _ rfl rfl rfl
noncomputable abbrev dOps:Array Oper:=cOps (zw Tryz.f86)
abbrev dB:Frame:={ (default:Frame) with fn:=86,kind:=.normal }
def mf (m:Region.Mode) (ops:Array Oper) (j t:Nat) (listed:Array Bool) (q:List Nat) (rs:List Nat) (h:((List.range ops.size).filter λi=> !listed.getD i true&&((ops[i]?).map (·.after.all λe=> !Region.binds m e||listed.getD e.on false)).getD false)=rs):
    Region.linearise.go m ops (j+1) t listed q=match rs[t%rs.length]? with
     | some i=>Region.linearise.go m ops j (t / rs.length) (listed.setIfInBounds i true) (i::q)
     | none=>q.reverse:=by
 subst h;rfl
def sched86 (t:Nat):Region.schedule (Tryz.prog.follows .mixedOrders) dOps t=[0,1,2,3]\/Region.schedule (Tryz.prog.follows .mixedOrders) dOps t=[1,0,2,3]\/Region.schedule (Tryz.prog.follows .mixedOrders) dOps t=[1,2,0,3]:=by
 have e:Region.schedule (Tryz.prog.follows .mixedOrders) dOps t=Region.linearise.go .any dOps 4 t #[false,false,false,false] []:=by
    unfold Region.schedule;rw[show Region.departs dOps=false by kernel_rfl];simp only[Bool.not_false,Bool.or_true,f0e];rfl
 rw[e,mf .any dOps 3 t _ _ [0,1] fd]
 have h3: ∀t j,Region.linearise.go .any dOps 1 t #[true,true,true,false] j=(3::j).reverse:=λt j=>by
    rw[mf .any dOps 0 t _ _ [3] fd];simp only[fz6,f06,Nat.mod_one,fx7,f1k];rfl
 have h2: ∀t j,Region.linearise.go .any dOps 2 t #[true,true,false,false] j=(3::2::j).reverse:=λt j=>by
    rw[mf .any dOps 1 t _ _ [2] fd];simp only[fz6,f06,Nat.mod_one,fx7,f1k];exact h3 _ _
 rcases Nat.mod_two_eq_zero_or_one t with h|h
 ·left;simp only[fz6,f06,f1k,Nat.reduceAdd,h,fx7];show Region.linearise.go .any dOps 3 (t / 2) #[true,false,false,false] [0]=_;rw[mf .any dOps 2 _ _ _ [1] fd];simp only[fz6,f06,Nat.mod_one,fx7,f1k];exact h2 _ _
 ·right;simp only[fz6,f06,f1k,Nat.reduceAdd,h,fy0,fx7];show Region.linearise.go .any dOps 3 (t / 2) #[false,true,false,false] [1]=_\/Region.linearise.go .any dOps 3 (t / 2) #[false,true,false,false] [1]=_;rw[mf .any dOps 2 _ _ _ [0,2] fd];rcases Nat.mod_two_eq_zero_or_one (t / 2) with h|h
  ·left;simp only[fz6,f06,f1k,Nat.reduceAdd,h,fx7];exact h2 _ _
  ·right;simp only[fz6,f06,f1k,Nat.reduceAdd,h,fy0,fx7];show Region.linearise.go .any dOps 2 (t / 2 / 2) #[false,true,true,false] [2,1]=_;rw[mf .any dOps 1 _ _ _ [0] fd];simp only[fz6,f06,Nat.mod_one,fx7,f1k];exact h3 _ _
def fcg {P:Program} {ρ:Operand->Value} {o:Oper} {t:TypeId} {y:Operand} {x:Value} {u:World} (ho:o.op=.load t y) (h:(Instr.loadAt t (ρ y)).run P u=.ok x u):(execOp ρ o).run P u=.ok (.value x) u:=by
 unfold execOp;rw[ho];exact qw h
def fch {P:Program} {ρ:Operand->Value} {o:Oper} {t:TypeId} {y:Operand} {x:Value} {u:World} (ho:o.op=.load t y) (h:(Instr.loadAt t (ρ y)).run P u=.ok x u):(execOp ρ o).events P u #[]=(Instr.loadAt t (ρ y)).events P u #[]:=by
 unfold execOp;rw[ho];show(((Instr.loadAt t (ρ y)) >>= λx=>(Pure.pure (Next.value x):Sem Next)).runT P u #[]).2=_;simp[go_sem,h]
def fmo (c2:Addr) (dc:Nat) (x1:Value) (rest:List Nat) (a3:Act):Prop:=a3.eval (.tmp 3)=x1/\a3.eval (.tmp 0)=.pointer (some c2)/\a3.tmps.size=5/\a3.defers=[]/\((rest=[3]/\a3.eval (.tmp 2)=.chan (some dc))\/rest=[0,3])
def fh0 {p:Addr} (hH:H p.block=none\/ ¬Shun (.cell p)) {m:Nat} (hlt:p.block<m):EvP H Shun m ⟨.cell p,false,false⟩:=
 ⟨λt ht a ha=>by
    simp only[MemAct.ofEvent,MemAct.touch?,f03] at ht;subst ht;cases ha;exact hH.imp id λh=>⟨rfl,h⟩,(hlt:(MemAct.ofEvent ⟨.cell p,false,false⟩).low m)⟩
def og_do1 {cs:List Frame} {c1 c2:Addr} {dc:Nat} {fv:Fn} {f1 f2:Array Value} (q:w.cell? c2=some (.chan (some dc))) (A:w.cell? c1=some (.func fv f1 f2)) (B:H c2.block=none\/ ¬Shun (.cell c2)) (I:H c1.block=none\/ ¬Shun (.cell c1))
    (h: ∀a3 rest,fmo c2 dc (.func fv f1 f2) rest a3->OG Tryz.prog main H Shun Φ (G (dB.at a3 [.inRegion dOps (2::rest)]) cs) w n):
    OG Tryz.prog main H Shun Φ (G (Frame.enter Tryz.prog 86 #[.pointer (some c2),.pointer (some c1)] .normal) cs) w n:=by
 rw[enter_at Tryz.func86 rfl];show OG Tryz.prog main H Shun Φ (G (dB.at { tmps:=#[.pointer (some c2),.pointer (some c1),undef,undef,undef],defers:=[] } [.code (zw Tryz.f86)]) cs) w n;have D:=zq q;have C:=zq A;have m: ∀d,(w.at d).cell? c1=some (.func fv f1 f2):=λd=>A;have j: ∀d,(w.at d).cell? c2=some (.chan (some dc)):=λd=>q;have r1: ∀d,(Instr.loadAt 116 (.pointer (some c1))).run Tryz.prog (w.at d)=.ok (.func fv f1 f2) (w.at d):=λd=>by have:=m d;go_simp
 have r2: ∀d,(Instr.loadAt 163 (.pointer (some c2))).run Tryz.prog (w.at d)=.ok (.chan (some dc)) (w.at d):=λd=>by have:=j d;go_simp
 have v1: ∀d,∀e∈(Instr.loadAt 116 (.pointer (some c1))).events Tryz.prog (w.at d) #[],EvP H Shun w.heap.size e/\vl e:=λd e he=>by
    simp[go_sem,m] at he;subst he;exact⟨fh0 I C,by simp[vl]⟩
 have v2: ∀d,∀e∈(Instr.loadAt 163 (.pointer (some c2))).events Tryz.prog (w.at d) #[],EvP H Shun w.heap.size e/\vl e:=λd e he=>by
    simp[go_sem,j] at he;subst he;exact⟨fh0 B D,by simp[vl]⟩
 have L1: ∀(a:Act) (rest:List Nat),a.eval (.tmp 1)=.pointer (some c1)->OG Tryz.prog main H Shun Φ (G (dB.at (a.put (some 3) (.func fv f1 f2)) [.inRegion dOps rest]) cs) w n->OG Tryz.prog main H Shun Φ (G (dB.at a [.inRegion dOps (1::rest)]) cs) w n:=λa rest ha hh=>by
    refine qz (x:=.func fv f1 f2) (w1:=w) rfl rfl fu (λd=>fcg (t:=116) (y:=.tmp 1) rfl (by rw[ha];exact r1 d)) (fx8 _) (λ_ _=>rfl) (λd e he=>?_) hh;rw[fch (t:=116) (y:=.tmp 1) rfl (by rw[ha];exact r1 d),ha] at he;exact v1 d e he
 have L0: ∀(a:Act) (rest:List Nat),a.eval (.tmp 0)=.pointer (some c2)->OG Tryz.prog main H Shun Φ (G (dB.at (a.put (some 2) (.chan (some dc))) [.inRegion dOps rest]) cs) w n->OG Tryz.prog main H Shun Φ (G (dB.at a [.inRegion dOps (0::rest)]) cs) w n:=λa rest ha hh=>by
    refine qz (x:=.chan (some dc)) (w1:=w) rfl rfl fu (λd=>fcg (t:=163) (y:=.tmp 0) rfl qm) (fx8 _) (λ_ _=>rfl) (λd e he=>?_) hh;rw[fch (t:=163) (y:=.tmp 0) rfl qm,ha] at he;exact v2 d e he
 refine og_draw λt=>?_;show OG Tryz.prog main H Shun Φ (G (dB.at { tmps:=#[.pointer (some c2),.pointer (some c1),undef,undef,undef],defers:=[] } [.inRegion dOps (Region.schedule (Tryz.prog.follows .mixedOrders) dOps t)]) cs) w n;rcases sched86 t with e|e|e
 ·rw[e];exact L0 _ _ rfl (L1 _ _ rfl (h _ _ ⟨rfl,rfl,rfl,rfl,.inl ⟨rfl,rfl⟩⟩))
 ·rw[e];exact L1 _ _ rfl (L0 _ _ rfl (h _ _ ⟨rfl,rfl,rfl,rfl,.inl ⟨rfl,rfl⟩⟩))
 ·rw[e];exact L1 _ _ rfl (h _ _ ⟨rfl,rfl,rfl,rfl,.inr rfl⟩)
def og_back {cs:List Frame} {c2:Addr} {dc:Nat} {x1 x:Value} {rest:List Nat} {a3:Act} (m:w.cell? c2=some (.chan (some dc))) (B:H c2.block=none\/ ¬Shun (.cell c2)) (ha:fmo c2 dc x1 rest a3)
    (h: ∀a4:Act,a4.eval (.tmp 2)=.chan (some dc)->a4.eval (.tmp 4)=x->a4.defers=[]->OG Tryz.prog main H Shun Φ (G (dB.at a4 [.inRegion dOps [3]]) cs) w n):
    OG Tryz.prog main H Shun Φ (G ((dB.at a3 [.inRegion dOps (2::rest)]).finish x) cs) w n:=by
 obtain⟨h3,h0,hsz,hd,hr⟩:=ha;have C:=zq m;have j: ∀d,(w.at d).cell? c2=some (.chan (some dc)):=λd=>m;have r2: ∀d,(Instr.loadAt 163 (.pointer (some c2))).run Tryz.prog (w.at d)=.ok (.chan (some dc)) (w.at d):=λd=>by have:=j d;go_simp
 have v2: ∀d,∀e∈(Instr.loadAt 163 (.pointer (some c2))).events Tryz.prog (w.at d) #[],EvP H Shun w.heap.size e/\vl e:=λd e he=>by
    simp[go_sem,j] at he;subst he;exact⟨fh0 B C,by simp[vl]⟩
 obtain⟨L,A,q,rfl⟩:=fa9 a3 hsz;rcases L with _|⟨y0,_|⟨y1,_|⟨y2,_|⟨y3,_|⟨y4,_|⟨y5,tl⟩⟩⟩⟩⟩⟩ <;>first|(simp at q;done)|skip
 have h0:y0=.pointer (some c2):=h0;have hd:A=[]:=hd;subst h0;subst hd;rw[f0i];rcases hr with⟨rfl,h2⟩|rfl
 ·have h2:y2=.chan (some dc):=h2;subst h2;exact h _ rfl rfl rfl
 ·show OG Tryz.prog main H Shun Φ (G (dB.at { tmps:=#[.pointer (some c2),y1,y2,y3,x],defers:=[] } [.inRegion dOps (0::[3])]) cs) w n;have L0: ∀(a:Act) (rest:List Nat),a.eval (.tmp 0)=.pointer (some c2)->OG Tryz.prog main H Shun Φ (G (dB.at (a.put (some 2) (.chan (some dc))) [.inRegion dOps rest]) cs) w n->OG Tryz.prog main H Shun Φ (G (dB.at a [.inRegion dOps (0::rest)]) cs) w n:=λa rest ha hh=>by
   refine qz (x:=.chan (some dc)) (w1:=w) rfl rfl fu (λd=>fcg (t:=163) (y:=.tmp 0) rfl qm) (fx8 _) (λ_ _=>rfl) (λd e he=>?_) hh;rw[fch (t:=163) (y:=.tmp 0) rfl qm,ha] at he;exact v2 d e he
  exact L0 _ _ rfl (h _ rfl rfl rfl)
end
end Go.Proofs.YtelecjnabeokeaaGreatDoor
