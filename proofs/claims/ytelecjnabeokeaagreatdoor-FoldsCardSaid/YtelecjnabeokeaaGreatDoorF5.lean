/- Folds answers true for every script, and the script reads as it did; condition: the package-level variables hold what the program's text lays. Part 5 of 6. -/
import Derived.Test.YtelecjnabeokeaaGreatDoorF4
set_option maxRecDepth 100000
set_option maxHeartbeats 16000000
set_option linter.defProp false
set_option linter.unusedVariables false
set_option linter.unusedSimpArgs false
namespace Go.Proofs.YtelecjnabeokeaaGreatDoor
open Go Go.RowKit
open Go.ChangeMaps (setBlock)
def fox {n:Nat} {f:Nat→Int} {c:Nat} (h:c<n):(cr n f)[c]? =some (.int .i64 (f c)):=by
 simp [cr,h]
def foy {n:Nat} {f:Nat→Int} {c:Nat} (v:Int):(cr n f).setIfInBounds c (.int .i64 v)=cr n (Plain.put f c v):=by
 apply Array.ext';apply List.ext_getElem?;intro i;simp only [cr,f1m,List.getElem?_set,f1s,List.length_map,List.length_range];by_cases h:i<n
 · rw [f5k h];by_cases e:c=i
   · subst e;simp [h,Plain.put_same]
   · simp [e,Plain.put_ne f v (fun e':i=c=>e e'.symm)]
 · rw [f2q qv];by_cases e:c=i
   · subst e;simp [h]
   · simp [e]
def fsc {n:Nat} {f g:Nat→Int} (h: ∀ i,i<n→f i=g i):cr n f=cr n g:=by
 unfold cr
 congr 1
 apply f5j;intro i hi;rw [h i (f2s.1 hi)]
def Ends.cv {w:World} {L:Lay} {n:Nat} {es es':Nat→Plain.EndS} {er:Nat→Value} (h:Ends w L n es er) (e: ∀ i,i<n→es i=es' i):Ends w L n es' er:=by
 obtain ⟨cs,h1,h2,h3⟩:=h.bk;exact ⟨cs,h1,h2,fun c hc=>by rw [← e c hc];exact h3 c hc⟩
def uz {w:World} {base n size g:Nat} {e:TypeId} {v:Value} {xs:List Value} {o:Obj} (h:w.ownsRow base e size v n xs) (hg:w.heap[g]? =some o) (hne: ∀ c t f,o≠ .cells c t f): ∀ x,v.ownBlock=some x→x≠g:=by
 intro x hx;rcases h.2 with ⟨rfl,_⟩ | ⟨g',cap,cur,rfl,_,hh,_⟩
 · simp [Value.ownBlock] at hx
 · obtain rfl:g'=x:=by simpa [Value.ownBlock] using hx
   rintro rfl;rw [hg] at hh;injection hh with hh
   exact hne _ _ _ hh
section
variable {L:Lay} {V V':Vals} {S S':Plain.Ses} {m:Int} {ow:Nat→Nat} {w w' w1 w2:World} {E:Nat→Value}
def Mem.cv (h:Mem L V S m ow w) (hn:S'.n=S.n) (hr:S'.room=S.room) (ht:S'.text=S.text) (hl:S'.log=S.log) (hc:S'.calls=S.calls)
    (h1: ∀ i,i<S.n→S'.cl i=S.cl i∧S'.curs i=S.curs i∧S'.ends i=S.ends i∧S'.known i=S.known i):Mem L V S' m ow w:=by
 obtain ⟨n,room,cl,text,log,curs,ends,known,calls⟩:=S';simp only at hn hr ht hl hc h1;subst hn hr ht hl hc
 exact ⟨h.base,h.tag,h.fresh,h.bb,h.ss,h.ee.cv fun i hi=>(h1 i hi).2.2.1.symm,h.nn.cv (fsc fun i hi=>(h1 i hi).2.2.2.symm),h.mp.cv fun i hi=>(h1 i hi).2.1.symm,h.ar,h.st,h.lg,
    fun c hc=>by simp only [(h1 c hc).1];exact h.kk c hc,fun c hc=>by simp only [(h1 c hc).1];exact h.up c hc,fun c hc=>by simp only [(h1 c hc).1];exact h.dn c hc,fun c hc=>by simp only [(h1 c hc).1];exact h.tx c hc,fun c hc=>by simp only [(h1 c hc).1];exact h.rw c hc,fun c hc=>by simp only [(h1 c hc).2.2.1];exact h.er c hc⟩
structure Stg (L:Lay) (V:Vals) (S:Plain.Ses) (m:Int) (ow:Nat→Nat) (w1:World) (x:Nat) (t:TypeId) (Q:Array Value) (w:World):Prop where
 out: ∃ ow',Mem L V S m ow' w∧Bk w x t Q∧ow' x=0∧Ex ow ow' w1 w
def Stg.step {x:Nat} {t:TypeId} {Q:Array Value} (h:Stg L V S m ow w1 x t Q w) (hs: ∀ ow',Mem L V S m ow' w→ ∃ ow'',Mem L V' S' m ow'' w'∧Ex ow' ow'' w w'):Stg L V' S' m ow w1 x t Q w':=by
 obtain ⟨ow',hM,hB,h0,hE⟩:=h.out;obtain ⟨ow'',hM',hE'⟩:=hs ow' hM;exact ⟨ow'',hM',hB.ch hE'.ch (fun hn=>hn h0),(hE'.own x hB.lt).trans h0,hE.tr hE'⟩
def Stg.bl {x:Nat} {t:TypeId} {Q:Array Value} (h:Stg L V S m ow w1 x t Q w) (hb:Bl w w'):Stg L V S m ow w1 x t Q w':=h.step fun ow' hM=>⟨ow',hM.bl hb,Ex.bl hb⟩
def fsd (h:Mem L V S m ow w) {c:Nat} (v:Int): ∃ ow',Mem L V { S with known:=Plain.put S.known c v } m ow' (w.setCell ⟨L.nb,c,none⟩ (.int .i64 v))∧Ex ow ow' w (w.setCell ⟨L.nb,c,none⟩ (.int .i64 v)):=by
 have hC:Ch (fun x=>x=L.nb) w (w.setCell ⟨L.nb,c,none⟩ (.int .i64 v)):=(Ch.rf (fun x=>x=L.nb) _).st (.inl rfl) _;obtain ⟨ow',hM,ho⟩:=h.know (Plain.put S.known c v) hC (fun x _ hx=>by subst hx;exact h.tag.nb) ⟨fun u t hu x hx hk=>rp hu h.nn fu x hx hk⟩ ((h.nn.st _).cv (foy _));exact ⟨ow',hM,Ex.of hC ho (fun x _ hx=>by subst hx;rw [h.tag.nb];refine ⟨by omega,by omega,fun c'=>by omega⟩)⟩
def fv4 (h:Mem L V S m ow w) (hb:Bl w w1) {v:Value} {t':List Plain.El} (ht:Txt w1 v t'): ∃ ow',Mem L { V with st:=v } { S with text:=t' } m ow' (w1.setCell ⟨L.sb,0,none⟩ v)∧Ex ow ow' w (w1.setCell ⟨L.sb,0,none⟩ v):=by
 have hs:=Bk.bl hb h.ss;have hC:Ch (fun x=>x=L.sb) w (w1.setCell ⟨L.sb,0,none⟩ v):=(Ch.ba (K:=fun x=>x=L.sb) hb).st (.inl rfl) _;obtain ⟨ow',hM,ho⟩:=h.text_ t' v hC (fun x _ hx=>by subst hx;exact h.tag.sb) ⟨fun u t hu x hx hk=>rp hu h.ss fu x hx hk⟩ ((hs.st v).cv fi) (qx (K:=fun x=>x=L.sb) ((Ch.rf (fun x=>x=L.sb) _).st (.inl rfl) _) ht (rp ht hs fu));exact ⟨ow',hM,Ex.of hC ho (fun x _ hx=>by subst hx;rw [h.tag.sb];refine ⟨by omega,by omega,fun c'=>by omega⟩)⟩
def mem_log (h:Mem L V S m ow w) (hb:Bl w w1) (hg:w1.grownBy w2 V.lg.ownBlock) {lg':Value} {a:Plain.Chg} (hr:w2.ownsRow 0 40 6 lg' (S.log.length+1) (logF S.log++chgL a)) (ho: ∀ x,lg'.ownBlock=some x→V.lg.ownBlock=some x∨w.heap.size≤x):
    ∃ ow',Mem L { V with lg:=lg' } { S with log:=S.log++[a] } m ow' (w2.setCell ⟨L.sb,1,none⟩ lg')∧Ex ow ow' w (w2.setCell ⟨L.sb,1,none⟩ lg'):=by
 have hn: ∀ x,V.lg.ownBlock=some x→x≠L.sb:=rp h.lg h.ss fu;have hs:Bk w2 L.sb 80 (srvC L S.n V.st V.lg):=Bk.gr hg (fun e=>hn _ e.symm rfl) (Bk.bl hb h.ss);have hC:Ch (fun x=>x=L.sb∨V.lg.ownBlock=some x) w (w2.setCell ⟨L.sb,1,none⟩ lg'):=((Ch.ba (K:=fun x=>x=L.sb∨V.lg.ownBlock=some x) hb).gr hg (fun k hk=> .inl (.inr hk))).st (.inl (.inl rfl)) _
 obtain ⟨ow',hM,ho⟩:=h.log_ (S.log++[a]) lg' hC (fun x _ hx=>by rcases hx with hx | hx;subst hx;exact .inl h.tag.sb;exact .inr (h.tag.lg x hx)) ⟨fun u t hu x hx hk=>by rcases hk with hk | hk;exact rp hu h.ss fu x hx hk;exact vo hu h.lg fu x hx hk⟩ ((hs.st lg').cv fi)
    (by
      have e:logF (S.log++[a])=logF S.log++chgL a:=by rw [flp];simp [logF]
      rw [e,f0a];exact qx (K:=fun x=>x=L.sb) ((Ch.rf (fun x=>x=L.sb) _).st (.inl rfl) _) hr (rp hr hs fu)) ho
 exact ⟨ow',hM,Ex.of hC ho (fun x _ hx=>by rcases hx with hx | hx;subst hx;rw [h.tag.sb];refine ⟨by omega,by omega,fun c'=>by omega⟩;rw [h.tag.lg x hx];refine ⟨by omega,by omega,fun c'=>by omega⟩)⟩
def fnd (h:Mem L V S m ow w) {c:Nat} (v:Int): ∃ ow',Mem L V { S with curs:=Plain.put S.curs c v } m ow' (setBlock w L.mb (.map (mapE S.n (Plain.put S.curs c v)) S.n))∧Ex ow ow' w (setBlock w L.mb (.map (mapE S.n (Plain.put S.curs c v)) S.n)):=by
 have hC:Ch (fun x=>x=L.mb) w (setBlock w L.mb (.map (mapE S.n (Plain.put S.curs c v)) S.n)):=(Ch.rf (fun x=>x=L.mb) _).sb (.inl rfl) _;obtain ⟨ow',hM,ho⟩:=h.curs_ (Plain.put S.curs c v) hC (fun x _ hx=>by subst hx;exact h.tag.mb) ⟨fun u t hu x hx hk=>uz hu h.mp.at_ (fun _ _ _ e=>by cases e) x hx hk⟩ h.mp.sb;exact ⟨ow',hM,Ex.of hC ho (fun x _ hx=>by subst hx;rw [h.tag.mb];refine ⟨by omega,by omega,fun c'=>by omega⟩)⟩
def fv5 (h:Mem L V S m ow w) {r b n:Nat} {seen:Array Nat} (hi:It w r b n seen) (h0:ow r=0) (hC:Ch (fun x=>x=r) w w'):Mem L V S m ow w':=by
 have hn: ∀ (g:Nat) (t:TypeId) (c:Array Value),Bk w g t c→g≠r:=fun g t c hg e=>by
    have:=hg.at_;rw [e,hi.at_] at this;cases this
 obtain ⟨t0,c0,b0⟩:=h.base.b0;obtain ⟨t1,c1,b1⟩:=h.base.b1;exact h.ch hC (fun x hx=>by subst hx;exact h0) ⟨fun u t hu x hx hk=>uz hu hi.at_ (fun _ _ _ e=>by cases e) x hx hk⟩ (hn _ _ _ b0) (hn _ _ _ b1)
def fse {n c:Nat} {cs:Array Value} {es:Nat→Plain.EndS} {er:Nat→Value} (hc:c<n) (hs:cs.size=n*4) (he: ∀ c,c<n→EndC cs (c*4) (es c) (er c)) (e':Plain.EndS) (h1:e'.other=(es c).other) (h2:e'.acked=(es c).acked) {rv':Value}
    (hB:Bk w' L.eb 86 ((cs.setIfInBounds (c*4+3) rv').setIfInBounds (c*4) (.int .i64 e'.mine))):Ends w' L n (Plain.put es c e') (Plain.put er c rv'):=by
 refine ⟨_,hB,by simp [hs],fun i hi=> ?_⟩;have h:=he i hi;by_cases e:i=c
 · subst e;simp only [Plain.put_same];refine ⟨?_,?_,?_,?_⟩
   · simp only [fy1];simp only [f00,f0e,hs];rw [f02 fe]
   · simp only [fy1];rw [fx9 fe,fx9 fe,h.other,h1]
   · simp only [fy1];rw [fx9 fe,fx9 fe,h.acked,h2]
   · simp only [fy1];simp only [f00,f0e,hs];rw [fx9 fe,f02 fe]
 · simp only [Plain.put_ne _ _ e];refine ⟨?_,?_,?_,?_⟩ <;>simp only [fy1]
   · rw [fx9 fe,fx9 fe];exact h.mine
   · rw [fx9 fe,fx9 fe];exact h.other
   · rw [fx9 fe,fx9 fe];exact h.acked
   · rw [fx9 fe,fx9 fe];exact h.row
def fv6 (h:Mem L V S m ow w) {c:Nat} (hc:c<S.n) (a:Plain.Chg) (k:Int) (hl:(S.ends c).row.length≤4000) (hm:0≤(S.ends c).mine∧(S.ends c).mine≤1000000):
    Calls PV 91 #[.pointer (some ⟨L.eb,c*4,none⟩),chgV a,.int .i64 k] w fun x w'=> ∃ er' ow',x= .returned (frmV (Plain.frame (S.ends c) a k))∧
     Mem L { V with er:=Plain.put V.er c er' } { S with ends:=Plain.put S.ends c (Plain.send (S.ends c) a) } m ow' w'∧Ex ow ow' w w'∧Ch (fun x=>x=L.eb∨(V.er c).ownBlock=some x) w w':=by
 obtain ⟨cs,hee,hes,hec⟩:=h.ee.bk;have t:=h.tag;refine (fcm L.eb (c*4) 86 cs (V.er c) (S.ends c) a k w hee (hec c hc) (h.er c hc) (fun e=>rp (h.er c hc) hee fu _ e rfl) hm hl).mono ?_;rintro x w' ⟨rv',rfl,hB,hR,hO,hC⟩
 obtain ⟨ow',hM,ho⟩:=h.end hc (Plain.send (S.ends c) a) rv' hC (fun x _ hx=>by rcases hx with hx | hx;subst hx;exact .inl t.eb;exact .inr (t.er c hc x hx)) ⟨fun v t' hv x hx hk=>by rcases hk with hk | hk;exact rp hv hee fu x hx hk;exact vo hv (h.er c hc) fu x hx hk⟩
    (fse hc hes hec (Plain.send (S.ends c) a) rfl rfl hB) hR (fun x hx=>by
      rcases hO with hO | ⟨b,hb,hlt⟩
      · exact .inl (hO▸hx)
      · rw [hb] at hx;cases hx;exact .inr hlt)
 exact ⟨rv',ow',rfl,hM,Ex.of hC ho (fun x _ hx=>by rcases hx with hx | hx;subst hx;rw [t.eb];refine ⟨by omega,by omega,fun c'=>by omega⟩;rw [t.er c hc x hx];refine ⟨by omega,by omega,fun c'=>by omega⟩),hC⟩
def fv7 (h:Mem L V S m ow w) {c:Nat} (hc:c<S.n) (f:Plain.Frm) (hl:(S.cl c).down.length<S.room) (hr:S.room≤1000):
    Calls PV 90 #[.pointer (some ⟨L.dl c,0,none⟩),frmV f] w fun x w'=> ∃ ow',x= .returned (.bool true)∧
     Mem L V { S with cl:=Plain.put S.cl c { S.cl c with down:=(S.cl c).down++[f] } } m ow' w'∧Ex ow ow' w w'∧Ch (fun x=>x=L.dc c) w w':=by
 have t:=h.tag;have hL:=h.dn c hc;refine (fcn (L.dl c) (L.dc c) S.room _ f w h.base hL (by have:=t.ge (x:=L.dl c) (by rw [t.dl c hc];omega);omega) hl hr).mono ?_;rintro x w' ⟨rfl,hL',hC⟩
 have hkt: ∀ x,x=L.dc c→ow x=16*c+20:=by
    rintro x rfl;exact t.dc c hc
 have hnt:NT (fun x=>x=L.dc c) w:=⟨fun v t' hv x hx hk=>ui hv hL x hx hk⟩
 obtain ⟨ow',hM,ho⟩:=h.cli hc { S.cl c with down:=(S.cl c).down++[f] } S.calls (V.tv c) (V.rv c) m hC (fun x _ hx=>by have:=hkt x hx;omega) hnt
    (h.bb.ch hC (fun e=>by have:=hkt _ e;rw [t.b] at this;omega)) ((h.kk c hc).ch hC (fun e=>by have:=hkt _ e;rw [t.kb c hc] at this;omega)) ((h.up c hc).ch_ hC (fun e=>by have:=hkt _ e;rw [t.ul c hc] at this;omega) (fun e=>by have:=hkt _ e;rw [t.uc c hc] at this;omega)) hL'
    (qx hC (h.tx c hc) (hnt.out _ _ (h.tx c hc))) (qx hC (h.rw c hc) (fun x hx e=>by have:=hkt _ e;rw [t.rv c hc x hx] at this;omega)) (fun x hx=> .inl hx)
 rw [ic,ic] at hM;exact ⟨ow',rfl,hM,Ex.of hC ho (fun x _ hx=>by have:=hkt x hx;refine ⟨by omega,by omega,fun c'=>by omega⟩),hC⟩
def fsf (h:Mem L V S m ow w) {x:Nat} {t:TypeId} {Q:Array Value} (hB:Bk w x t Q) (ht:(38:TypeId)≠t) (h0:ow x=0) (h12:2≤x) (hC:Ch (fun y=>y=x) w w'):Mem L V S m ow w':=
 h.ch hC (fun y hy=>by subst hy;exact h0) ⟨fun u t' hu y hy hk=>rp hu hB ht y hy hk⟩ fe fe
structure StgI (L:Lay) (V:Vals) (S:Plain.Ses) (m:Int) (ow:Nat→Nat) (w1:World) (x:Nat) (t:TypeId) (Q:Array Value) (r:Nat) (seen:Array Nat) (w:World):Prop where
 out: ∃ ow',Mem L V S m ow' w∧Bk w x t Q∧ow' x=0∧Ex ow ow' w1 w∧It w r L.mb S.n seen∧ow' r=0∧r≠x∧w1.heap.size≤r
section
variable {x r:Nat} {t:TypeId} {Q:Array Value} {seen:Array Nat}
def Stg.start (h:Stg L V S m ow w1 x t Q w):StgI L V S m ow w1 x t Q w.heap.size #[] (w.alloc (.mapIter (some L.mb) S.n #[] S.n)):=by
 obtain ⟨ow',hM,hB,h0,hE⟩:=h.out;exact ⟨ow',hM.bl ((Bl.rf _).al _),hB.al _,h0,hE.tr (Ex.bl ((Bl.rf _).al _)),It.nw,hM.fresh _ (fx8 _),fun e=>by have:=hB.lt;omega,hE.ch.size⟩
def StgI.bl (h:StgI L V S m ow w1 x t Q r seen w) (hb:Bl w w'):StgI L V S m ow w1 x t Q r seen w':=by
 obtain ⟨ow',hM,hB,h0,hE,hI,hr,hx,hl⟩:=h.out;exact ⟨ow',hM.bl hb,hB.bl hb,h0,hE.tr (Ex.bl hb),hI.ch (K:=fun _=>False) (Ch.ba hb) (fun h=>h),hr,hx,hl⟩
def StgI.move {seen':Array Nat} (h:StgI L V S m ow w1 x t Q r seen w) (hC:Ch (fun y=>y=r) w w') (hI:It w' r L.mb S.n seen'):StgI L V S m ow w1 x t Q r seen' w':=by
 obtain ⟨ow',hM,hB,h0,hE,hI0,hr,hx,hl⟩:=h.out;exact ⟨ow',fv5 hM hI0 hr hC,hB.ch hC (fun e=>hx e.symm),h0,⟨hE.ch.tr hC (fun y hy=> .inr fe),hE.own,fun y hy ht=>(hC.block y (f0f hy hE.ch.size) (fun hk=>by omega)).trans (hE.marks y hy ht)⟩,hI,hr,hx,hl⟩
def StgI.step (h:StgI L V S m ow w1 x t Q r seen w) (hn:S'.n=S.n) (hs: ∀ ow',Mem L V S m ow' w→ ∃ ow'',Mem L V' S' m ow'' w'∧Ex ow' ow'' w w'):StgI L V' S' m ow w1 x t Q r seen w':=by
 obtain ⟨ow',hM,hB,h0,hE,hI,hr,hx,hl⟩:=h.out;obtain ⟨ow'',hM',hE'⟩:=hs ow' hM;exact ⟨ow'',hM',hB.ch hE'.ch (fun hn=>hn h0),(hE'.own x hB.lt).trans h0,hE.tr hE',by rw [hn];exact hI.ch hE'.ch (fun hn=>hn hr),(hE'.own r hI.lt).trans hr,hx,hl⟩
def StgI.stop (h:StgI L V S m ow w1 x t Q r seen w):Stg L V S m ow w1 x t Q w:=by
 obtain ⟨ow',hM,hB,h0,hE,_⟩:=h.out;exact ⟨ow',hM,hB,h0,hE⟩
def Stg.cv (h:Stg L V S m ow w1 x t Q w) (hn:S'.n=S.n) (hr:S'.room=S.room) (ht:S'.text=S.text) (hl:S'.log=S.log) (hc:S'.calls=S.calls)
    (h1: ∀ i,i<S.n→S'.cl i=S.cl i∧S'.curs i=S.curs i∧S'.ends i=S.ends i∧S'.known i=S.known i):Stg L V S' m ow w1 x t Q w:=
 h.step fun ow' hM=>⟨ow',hM.cv hn hr ht hl hc h1,Ex.rf⟩
def StgI.cv (h:StgI L V S m ow w1 x t Q r seen w) (hn:S'.n=S.n) (hr:S'.room=S.room) (ht:S'.text=S.text) (hl:S'.log=S.log) (hc:S'.calls=S.calls)
    (h1: ∀ i,i<S.n→S'.cl i=S.cl i∧S'.curs i=S.curs i∧S'.ends i=S.ends i∧S'.known i=S.known i):StgI L V S' m ow w1 x t Q r seen w:=
 h.step hn fun ow' hM=>⟨ow',hM.cv hn hr ht hl hc h1,Ex.rf⟩
end
def Mem.cls_at (h:Mem L V S m ow w) {ab cap:Nat} (e:L.cls= .slice (some ⟨ab,0,none⟩) S.n cap) (i:Nat) (hi:i<S.n):w.cell? ⟨ab,i,none⟩=some (.pointer (some ⟨L.kb i,0,none⟩)):=by
 obtain ⟨ab',cap',e',h'⟩:=h.cls_ fe;rw [e] at e';injection e' with e1
 injection e1 with e1
 injection e1 with e1
 subst e1;exact h' i hi
def fls (h:Mem L V S m ow w) {i c:Nat} (hi:i<S.n) (hc:c<S.n):(binOp .neq 83 (.pointer (some ⟨L.kb i,0,none⟩)) (.pointer (some ⟨L.kb c,0,none⟩))).run PV w= .ok (.bool (decide (i≠c))) w:=by
 rw [fsb (h.kk i hi) (h.kk c hc)]
 congr 2
 exact decide_eq_decide.2 ⟨fun h e=>h (by rw [e]),fun h' e=>h' (h.kb_inj hi hc e)⟩
def fv8 {c:Nat} {f:Plain.Frm} {U:List Plain.Frm} (hu:(S.cl c).up=f::U) (hf:Plain.fullAt S c S.n=false):Plain.serve S c=(0,Plain.served S c f U):=by
 unfold Plain.serve;rw [hu];simp only;rw [fx9 (by rw [hf];simp)]
def iu (S:Plain.Ses) (c:Nat) (f:Plain.Frm) (q:Plain.Chg) (i:Nat):Nat→Plain.EndS:=fun o=>if o=c then Plain.take (S.ends o) f else if o<i then Plain.send (S.ends o) q else S.ends o
def clI (S:Plain.Ses) (c:Nat) (U:List Plain.Frm) (q:Plain.Chg) (k:Int) (i:Nat):Nat→Plain.Cl:=fun o=>if o=c then { S.cl o with up:=U } else if o<i then { S.cl o with down:=(S.cl o).down++[Plain.frame (S.ends o) q k] } else S.cl o
section
variable {c i:Nat} {f:Plain.Frm} {q:Plain.Chg} {k:Int} {U:List Plain.Frm}
def fv9 (h:i≠c):iu S c f q i i=S.ends i:=by simp [iu,h]
def fwa (h:i≠c):clI S c U q k i i=S.cl i:=by simp [clI,h]
def foz:iu S c f q 0=Plain.put S.ends c (Plain.take (S.ends c) f):=by
 funext o
 unfold iu Plain.put;by_cases e:o=c
 · subst e;simp
 · simp [e]
def fva:clI S c U q k 0=Plain.put S.cl c { S.cl c with up:=U }:=by
 funext o
 unfold clI Plain.put;by_cases e:o=c
 · subst e;simp
 · simp [e]
def fsg:iu S c f q (c+1)=iu S c f q c:=by
 funext o
 unfold iu;by_cases e:o=c
 · simp [e]
 · have:(o<c+1)=(o<c):=by simp;omega
   simp [e,this]
def clI_own:clI S c U q k (c+1)=clI S c U q k c:=by
 funext o
 unfold clI;by_cases e:o=c
 · simp [e]
 · have:(o<c+1)=(o<c):=by simp;omega
   simp [e,this]
def fsh (h:i≠c):Plain.put (iu S c f q i) i (Plain.send (S.ends i) q)=iu S c f q (i+1):=by
 funext o
 unfold iu Plain.put;by_cases e:o=i
 · subst e;simp [h]
 · have:(o<i+1)=(o<i):=by simp;omega
   simp [e,this]
def clI_put (h:i≠c):Plain.put (clI S c U q k i) i { S.cl i with down:=(S.cl i).down++[Plain.frame (S.ends i) q k] }=clI S c U q k (i+1):=by
 funext o
 unfold clI Plain.put;by_cases e:o=i
 · subst e;simp [h]
 · have:(o<i+1)=(o<i):=by simp;omega
   simp [e,this]
def fsi {B:Plain.Ses} {C:Nat→Plain.Cl} (h:Mem L V { B with cl:=C,ends:=iu S c f q i } m ow w) (hn:B.n=S.n) (hi:i<S.n) (hic:i≠c) (hl:(S.ends i).row.length≤4000) (hm:0≤(S.ends i).mine∧(S.ends i).mine≤1000000):
    Calls PV 91 #[.pointer (some ⟨L.eb,i*4,none⟩),chgV q,.int .i64 k] w fun x w'=> ∃ er' ow',x= .returned (frmV (Plain.frame (S.ends i) q k))∧
     Mem L { V with er:=Plain.put V.er i er' } { B with cl:=C,ends:=iu S c f q (i+1) } m ow' w'∧Ex ow ow' w w'∧Ch (fun x=>x=L.eb∨(V.er i).ownBlock=some x) w w':=by
 have he:=fv9 (S:=S) (f:=f) (q:=q) hic;have:=fv6 h (c:=i) (by rw [← hn] at hi;exact hi) q k (by show ((iu S c f q i) i).row.length≤4000;rw [he];exact hl) (by show 0≤((iu S c f q i) i).mine∧((iu S c f q i) i).mine≤1000000;rw [he];exact hm);dsimp only at this;rw [he,fsh hic] at this;exact this
def fsj {B:Plain.Ses} {D:Nat→Plain.EndS} (h:Mem L V { B with cl:=clI S c U q k i,ends:=D } m ow w) (hn:B.n=S.n) (hr:B.room=S.room) (hi:i<S.n) (hic:i≠c) (hl:(S.cl i).down.length<S.room) (hr2:S.room≤1000):
    Calls PV 90 #[.pointer (some ⟨L.dl i,0,none⟩),frmV (Plain.frame (S.ends i) q k)] w fun x w'=> ∃ ow',x= .returned (.bool true)∧
     Mem L V { B with cl:=clI S c U q k (i+1),ends:=D } m ow' w'∧Ex ow ow' w w'∧Ch (fun x=>x=L.dc i) w w':=by
 have he:=fwa (S:=S) (U:=U) (q:=q) (k:=k) hic;have:=fv7 h (c:=i) (by rw [← hn] at hi;exact hi) (Plain.frame (S.ends i) q k) (by show ((clI S c U q k i) i).down.length<B.room;rw [he,hr];exact hl) (by show B.room≤1000;rw [hr];exact hr2);dsimp only at this;rw [he,clI_put hic] at this;exact this
def fsk {out:List Plain.Sent} (h:Mem L V { S with cl:=clI S c U q k S.n,ends:=iu S c f q S.n,known:=if q.kind=1 then Plain.put S.known c (S.known c+1) else S.known,text:=Plain.apply q S.text,log:=S.log++[q],curs:=fun o=>if o=c then k else Plain.index q (S.curs o) } m ow w) (hq:(q,k,out)=Plain.tryF (S.ends c) f):
    Mem L V (Plain.served S c f U) m ow w:=by
 refine h.cv rfl rfl ?_ ?_ rfl fun i hi=>⟨?_,?_,?_,?_⟩;all_goals (simp only [Plain.served,← hq])
 · have hi':i<S.n:=hi;simp [clI,hi']
 · have hi':i<S.n:=hi;simp [iu,hi']
end
def stg_of {x:Nat} {t:TypeId} {Q:Array Value} {ow1 ow2:Nat→Nat} (gX:Bk w x t Q) (gz:ow1 x=0) (gE:Ex ow ow1 w1 w) (hM:Mem L V S m ow2 w') (hE:Ex ow1 ow2 w w'):Stg L V S m ow w1 x t Q w':=
 ⟨ow2,hM,gX.ch hE.ch (fun hn=>hn gz),(hE.own x gX.lt).trans gz,gE.tr hE⟩
def mixC (q:Plain.Chg) (cu:Nat→Int) (seen:Array Nat):Nat→Int:=fun o=>if seen.contains o=true then Plain.index q (cu o) else cu o
def fsl {q:Plain.Chg} {cu:Nat→Int} {seen:Array Nat} {i:Nat} (h:seen.contains i=false):mixC q cu seen i=cu i:=by
 unfold mixC;rw [h];rfl
def fjz {q:Plain.Chg} {cu:Nat→Int} {seen:Array Nat} {i:Nat} (h:seen.contains i=true):mixC q cu seen i=Plain.index q (cu i):=by
 unfold mixC;rw [h];rfl
def fvb {q:Plain.Chg} {cu:Nat→Int}:mixC q cu #[]=cu:=by
 funext o
 exact fsl fi
def fsn {q:Plain.Chg} {cu:Nat→Int} {seen:Array Nat} {i:Nat}:Plain.put (mixC q cu seen) i (Plain.index q (cu i))=mixC q cu (seen.push i):=by
 funext o
 unfold Plain.put;by_cases e:o=i
 · subst e;rw [f02 rfl,fjz (by rw [contains_push];simp)]
 · rw [fx9 e];have e':(seen.push i).contains o=seen.contains o:=by
    rw [contains_push];have:(o==i)=false∧(i==o)=false:=⟨by simpa using e,by simpa using fun h=>e h.symm⟩;simp [this]
   unfold mixC;rw [e']
def fso:(PV.info? 40).map (fun i=>(i.zero,i.size,i.bytes))=some (some (.agg #[.int .i64 0,.int .i64 0,.int .i32 0,.int .i64 0,.int .i64 0,.int .i64 0]),6,48):=by kernel_rfl
def fwo:PV.underlying 33=some (.slice 40):=by kernel_rfl
end
section
variable {L:Lay} {V:Vals} {S:Plain.Ses} {m:Int} {ow:Nat→Nat} {w:World} {E:Nat→Value}
def Ex.fresh_ {ow ow':Nat→Nat} {w w' w2:World} {K:Nat→Prop} (h:Ex ow ow' w w') (hC:Ch K w' w2) (hK: ∀ x,K x→w.heap.size≤x):Ex ow ow' w w2:=
 ⟨h.ch.tr hC (fun x hx=> .inr (hK x hx)),h.own,fun x hx ht=>(hC.block x (f0f hx h.ch.size) (fun hk=>by have:=hK x hk;omega)).trans (h.marks x hx ht)⟩
def serve1 (h : Mem L V S m ow w) (hG:Plain.Good S) (hB:Plain.Bnd S) (hE:Errs E w) {c:Nat} (hc:c<S.n) {f:Plain.Frm} {U:List Plain.Frm} (hu:(S.cl c).up=f::U):
    Calls PV 55 #[.pointer (some ⟨L.b,0,none⟩),.pointer (some ⟨L.kb c,0,none⟩)] w (Served L E S c m ow w):=by
 obtain ⟨⟨fk,fp,⟨fr,fc,fn⟩,fcl⟩,fm,fo,fcu⟩:=f;have h5:=hE.at_ 5 fe;have h12:=h.size;obtain ⟨ab,cap,ecls,hcls⟩:=h.cls_ hG.n0;have hABl:ab<w.heap.size:=lr h.ar ab (by rw [ecls];rfl);obtain ⟨cB,dB⟩:=h.bb.ceF;simp only [sesC,ecls] at cB;obtain ⟨cK,dK⟩:=(h.kk c hc).ceF;have hn6:=hG.n6;have hul:=hG.upR c hc;have hrm:=hG.room16;have HL:=fx6 (h.up c hc);have HM:=fx6 h;have HG:=fx6 hG;have HB:=fx6 hB;have hup:((S.cl c).up.length:Int)=U.length+1:=by rw [hu];simp
 have hz0:((U.length:Int)+1==0)=false:=by simp;omega
 clear h hG hB hE;go_enter PV.func55,Tryz.ntmps55;go_wp2_with (first | (go_at_call 92;refine (flo (L.ul c) (L.uc c) S.room _ _ HL.out fe).mono ?_;rintro e w1 ⟨rfl,rfl⟩;rw [hup]))
 go_loopw [28] (fun iv wr=> ∃ i:Nat,i≤S.n∧iv= .int .i64 (i:Int)∧Bl w1 wr∧Plain.fullAt S c i=false) (fun iv _=>S.n-(intOf iv).toNat)
 case atStart => exact ⟨0,f1n _,rfl,Bl.rf _,rfl⟩
 case round=>
    obtain ⟨i,hi,rfl,hb,hf0⟩:=hrel;by_cases hlt:i<S.n
    · have hMi:=HM.out.bl hb;obtain ⟨cO,dO⟩:=(hMi.kk i hlt).ceF;have hci:=(f0h (a:=⟨ab,i,none⟩) (hb.block ab (hABl))).trans (hcls i hlt);have HD:=fx6 (hMi.dn i hlt);have h5i:=(f0h (a:=⟨5,0,none⟩) (hb.block 5 fe)).trans h5;have hdr:=HG.out.downR i hlt;have hq:(binOp .neq 83 (.pointer (some ⟨L.kb i,0,none⟩)) (.pointer (some ⟨L.kb c,0,none⟩))).run PV wr= .ok (.bool (decide (i≠c))) wr:=by
       rw [fsb (hMi.kk i hlt) (hMi.kk c hc)]
       congr 2
       exact decide_eq_decide.2 ⟨fun h e=>h (by rw [e]),fun h e=>h (hMi.kb_inj hlt hc e)⟩
      clear hMi;have hfs:Plain.fullAt S c (i+1)=(decide (i≠c)&&decide ((S.cl i).down.length=S.room)):=by simp only [Plain.fullAt,hf0,Bool.false_or]
      by_cases hic:i=c
      · have hd:decide (i≠c)=false:=by simp [hic]
        rw [hd] at hq hfs;clear hd;subst hic;go_wp2
        go_roundw
        case rel => exact ⟨i+1,hlt,by simp,hb,by rw [hfs];rfl⟩
        case measure => simp [intOf];omega
      · have hd:decide (i≠c)=true:=by simp [hic]
        rw [hd] at hq hfs;by_cases hfu:(S.cl i).down.length=S.room
        · have hfz:decide (((S.cl i).down.length:Int)=(S.room:Int))=true:=by simp [hfu]
          go_wp2_with (first | (go_at_call 87;refine (ia (L.dl i) (L.dc i) S.room _ _ HD.out fe fe).mono ?_;rintro e w2 ⟨rfl,rfl⟩;rw [hfz]));go_ret
          have e:Plain.serve S c=(5,S):=by
            unfold Plain.serve;rw [hu];simp only;rw [f02 ((Plain.fullAt_iff S c S.n).2 ⟨i,hlt,hic,hfu⟩)]
          exact ⟨by rw [e];exact ⟨rfl,V,ow,HM.out.bl hb.dr,Ex.bl hb.dr⟩⟩
        · have hfz:decide (((S.cl i).down.length:Int)=(S.room:Int))=false:=by simp;omega
          have hfz':decide ((S.cl i).down.length=S.room)=false:=by simp [hfu]
          rw [hfz'] at hfs;go_wp2_with (first | (go_at_call 87;refine (ia (L.dl i) (L.dc i) S.room _ _ HD.out fe fe).mono ?_;rintro e w2 ⟨rfl,rfl⟩;rw [hfz]))
          go_roundw
          case rel => exact ⟨i+1,hlt,by simp,hb.dr,by rw [hfs];rfl⟩
          case measure => simp [intOf];omega
    · obtain rfl:i=S.n:=by omega
      have hM:=HM.out.bl hb;have hL:=hM.up c hc;rw [hu] at hL;have hx0:Ex ow ow w1 wr:=Ex.bl hb;replace HM:=fx6 hM;replace hx0:=fx6 hx0;have hfz0:=fx6 hf0;clear HL h5 hcls cB dB cK dK hb h12 hABl hf0;obtain ⟨cB,dB⟩:=hM.bb.ceF;obtain ⟨cK,dK⟩:=(hM.kk c hc).ceF;have HT:=fx6 (fun W (hW:Bl wr W)=>fga (L.ul c) (L.uc c) S.room ⟨⟨fk,fp,⟨fr,fc,fn⟩,fcl⟩,fm,fo,fcu⟩ U W (hM.base.bl hW) (hL.bl hW) (by have:=hM.tag.ge (x:=L.ul c) (by rw [hM.tag.ul c hc];omega);omega) HG.out.room0);clear hL hM;go_wp2_with (first | (go_at_call 93;refine (HT.out _ ga).mono ?_;rintro e w2 ⟨rfl,gL2,gC2⟩;obtain ⟨ow2,gM2,gX2⟩:=mem_up HM.out hc gL2 gC2;replace gX2:=fx6 (hx0.out.tr gX2);obtain ⟨cS,dS⟩:=gM2.bb.ceF;have gsz:=gM2.bb.lt;obtain ⟨a1,a2⟩:=bx L.b;replace gM2:=fx6 gM2;clear gL2 gC2));refine vy (F:=fun W=>Mem L V { S with cl:=Plain.put S.cl c { S.cl c with up:=U } } m ow2 W∧Bk W w2.heap.size 110 #[.int .i64 fk,.int .i64 fp,.int .i32 fr,.int .i64 fc,.int .i64 fn,.int .i64 fcl,.int .i64 fm,.int .i64 fo,.int .i64 fcu]∧Ex ow ow2 w1 W) ⟨gM2.out.bl ((Bl.rf _).al _),Bk.nw rfl,gX2.out.tr (Ex.bl ((Bl.rf _).al _))⟩ ?_;clear cS dS a1 a2 gM2 gX2 cB dB cK dK gsz hx0 HT HM;generalize w2.heap.size=xb;rintro W ⟨gM,gX,gE⟩;have hss:Bk W L.sb 80 #[V.st,V.lg,.map (some L.mb),.slice (some ⟨L.eb,0,none⟩) S.n S.n,.slice (some ⟨L.nb,0,none⟩) S.n S.n,.chan (some L.c0)]:=gM.ss;have hkk:Bk W (L.kb c) 89 #[.int .i64 (c:Int),V.tv c,.int .i64 (S.cl c).cur,.int .i64 (S.cl c).en.mine,.int .i64 (S.cl c).en.other,.int .i64 (S.cl c).en.acked,V.rv c,.pointer (some ⟨L.ul c,0,none⟩),.pointer (some ⟨L.dl c,0,none⟩),.int .i64 (S.cl c).typed,.chan (some (L.wc c))]:=by have:=gM.kk c hc;simpa only [Plain.put_same] using this
      obtain ⟨cs,hee,hes,hec⟩:=gM.ee.bk;have hEBl:=hee.lt;have hse: ¬ L.sb=L.eb:=hss.ne_ hee fu;have hke: ¬ L.kb c=L.eb:=hkk.ne_ hee fu;have hxe: ¬ xb=L.eb:=gX.ne_ hee fu;have hcn:(c:Int)<(S.n:Int):=by omega
      have hmi:=HG.out.mine c hc;have hrw:=HG.out.rows c hc;have hca:=HG.out.calls;have hll:=HG.out.log_len;have hN:=fsa (HB.out.up c hc ⟨⟨fk,fp,⟨fr,fc,fn⟩,fcl⟩,fm,fo,fcu⟩ jx) (HB.out.er c hc) fe;have hT:=fx6 (fun W' (hW:Bl W W')=>fv3 (gM.bl hW) hc ⟨⟨fk,fp,⟨fr,fc,fn⟩,fcl⟩,fm,fo,fcu⟩ (by show (S.ends c).row.length≤4000;omega) hN (by show 0≤(S.ends c).other∧(S.ends c).other≤1000000;omega));have hPs:=HG.out.pair c hc;rw [hu] at hPs;obtain ⟨hqf,hqc,hqk,_⟩:=hPs.serve (Z':=fun _ _ _=>True) fun _ _ _ _ _ _ _ _=>trivial;have hqs:=Plain.tryF_sm (by have:=HG.out.text_len;omega) hqf (Plain.turn_kd (HG.out.upK c hc ⟨⟨fk,fp,⟨fr,fc,fn⟩,fcl⟩,fm,fo,fcu⟩ jx)) (HB.out.up c hc ⟨⟨fk,fp,⟨fr,fc,fn⟩,fcl⟩,fm,fo,fcu⟩ jx).1;obtain ⟨⟨⟨qk,qp,⟨qr,qc,qn⟩,qcl⟩,qq,out⟩,hq⟩: ∃ q,q=Plain.tryF (S.ends c) ⟨⟨fk,fp,⟨fr,fc,fn⟩,fcl⟩,fm,fo,fcu⟩:=⟨_,rfl⟩;dsimp only at hT;rw [← hq] at hT hqf hqc hqk hqs;dsimp only at hqf hqk hqs;replace hq:=fx6 hq;replace hqf:=fx6 hqf;replace hqk:=fx6 hqk;replace hqs:=fx6 hqs;have hEs:ow2 xb=ow2 xb:=rfl;clear hmi hrw hca hll hN hee hes hec hPs hqc hEs
      go_cut [10,11] from 52 to 160 (fun t10 t11 wx=> ∃ (xq:Nat) (er':Value),t10= .pointer (some ⟨xq,0,none⟩)∧t11= .int .i64 qq∧Stg L { V with er:=Plain.put V.er c er' } { S with cl:=Plain.put S.cl c { S.cl c with up:=U },ends:=Plain.put S.ends c (Plain.take (S.ends c) ⟨⟨fk,fp,⟨fr,fc,fn⟩,fcl⟩,fm,fo,fcu⟩) } m ow w1 xq 40 #[.int .i64 qk,.int .i64 qp,.int .i32 qr,.int .i64 qc,.int .i64 qn,.int .i64 qcl] wx)
      case first=>
       refine fbu (sel [fun w'=>Bk w' L.sb 80 #[V.st,V.lg,.map (some L.mb),.slice (some ⟨L.eb,0,none⟩) S.n S.n,.slice (some ⟨L.nb,0,none⟩) S.n S.n,.chan (some L.c0)],fun w'=>Bk w' (L.kb c) 89 #[.int .i64 (c:Int),V.tv c,.int .i64 (S.cl c).cur,.int .i64 (S.cl c).en.mine,.int .i64 (S.cl c).en.other,.int .i64 (S.cl c).en.acked,V.rv c,.pointer (some ⟨L.ul c,0,none⟩),.pointer (some ⟨L.dl c,0,none⟩),.int .i64 (S.cl c).typed,.chan (some (L.wc c))],fun w'=>Bk w' xb 110 #[.int .i64 fk,.int .i64 fp,.int .i32 fr,.int .i64 fc,.int .i64 fn,.int .i64 fcl,.int .i64 fm,.int .i64 fo,.int .i64 fcu]]) [(.h 9,0),(.h 9,1),(.h 9,2),(.h 0,3),(.h 9,4),(.h 9,5),(.h 9,6),(.h 1,7),(.h 9,8),(.h 2,9)] (.c [9],10) [(.h 9,11),(.h 9,12),(.h 9,13),(.c [0,1,2,9],14),(.c [9],15),(.h 9,16)] (.c [0,1,2,9],14) [(.c [9],10),(.h 9,11),(.h 9,12),(.h 9,13),(.c [9],15),(.h 9,16)] fd fd (qy (Bk.dr hss) (qy (Bk.dr hkk) (qy (Bk.dr gX) (fun _=>un)))) ?_;simp only [vg,fy9,fz4,fz3,fy2,fx7,fy0];iterate 10 (refine oH ?_;try simp only [aps])
       refine fjy ?_ ?_
       · try simp only [vg,fy9,fz4,fz3,fy2,fx7,fy0]
         (refine rx (fun K hK=> ?_);go_simp;go_at_call 94;refine (hT.out _ ga).mono ?_;rintro e w3 ⟨er',ow3,rfl,gM3,gX3,gC3⟩;replace gM3:=fx6 gM3;replace gX3:=fx6 gX3;(try dsimp only);refine hK _ _ (rh trivial ry) ?_;clear hK K;try simp only [aps]);iterate 3 (refine oH ?_;try simp only [aps])
         (refine rx (fun K hK=> ?_);go_simp;refine hK _ _ (rh (Bk.al (Bk.ch gC3 hse (Bk.dr hss)) _) (rh (Bk.al (Bk.ch gC3 hke (Bk.dr hkk)) _) (rh (Bk.al (Bk.ch gC3 hxe (Bk.dr gX)) _) (rh trivial ry)))) ?_;clear hK K;try simp only [aps])
         (refine rx (fun K hK=> ?_);go_simp;refine hK _ _ (rh trivial ry) ?_;clear hK K;try simp only [aps])
         (refine oH ?_;try simp only [aps]);refine ub ?_;refine vy (F:=fun W'=>Stg L { V with er:=Plain.put V.er c er' } { S with cl:=Plain.put S.cl c { S.cl c with up:=U },ends:=Plain.put S.ends c (Plain.take (S.ends c) ⟨⟨fk,fp,⟨fr,fc,fn⟩,fcl⟩,fm,fo,fcu⟩) } m ow w1 w3.heap.size 40 #[.int .i64 qk,.int .i64 qp,.int .i32 qr,.int .i64 qc,.int .i64 qn,.int .i64 qcl] W') ⟨ow3,gM3.out.bl ((Bl.rf _).al _),Bk.nw rfl,gM3.out.fresh _ (fx8 _),(gE.tr ((Ex.bl (Bl.rf _).dr).tr gX3.out)).tr (Ex.bl ((Bl.rf _).al _))⟩ ?_;rintro W9 k1;go_wp2_with fail
         go_meet
         case rel => exact ⟨_,er',rfl,rfl,k1⟩
       · try simp only [vg,fy9,fz4,fz3,fy2,fx7,fy0]
         (refine rx (fun K hK=> ?_);go_simp;refine hK _ _ (rh ff (rh ff (rh ff (rh trivial ry)))) ?_;clear hK K;try simp only [aps])
         (refine rx (fun K hK=> ?_);go_simp;go_at_call 94;refine (hT.out _ ga).mono ?_;rintro e w3 ⟨er',ow3,rfl,gM3,gX3,gC3⟩;have gZ:=Bk.ch (g:=W.heap.size) (t:=40) (cs:= #[.int .i64 0,.int .i64 0,.int .i32 0,.int .i64 0,.int .i64 0,.int .i64 0]) gC3 (by have:=hEBl;(try dsimp only);omega) (Bk.dr (Bk.nw rfl));obtain ⟨cZ,dZ⟩:=gZ.ceF;replace gM3:=fx6 gM3;replace gX3:=fx6 gX3;(try dsimp only);refine hK _ _ (rh trivial ry) ?_;clear hK K;try simp only [aps]);iterate 3 (refine oH ?_;try simp only [aps])
         (refine rx (fun K hK=> ?_);go_simp;refine hK _ _ (rh trivial ry) ?_;clear hK K;try simp only [aps])
         (refine oH ?_;try simp only [aps]);refine ub ?_;have h12':=gM.size;have h0':ow3 W.heap.size=0:=(gX3.out.own W.heap.size (by simp [World.drew])).trans (gM.fresh _ (fx8 _));refine vy (F:=fun W'=>Stg L { V with er:=Plain.put V.er c er' } { S with cl:=Plain.put S.cl c { S.cl c with up:=U },ends:=Plain.put S.ends c (Plain.take (S.ends c) ⟨⟨fk,fp,⟨fr,fc,fn⟩,fcl⟩,fm,fo,fcu⟩) } m ow w1 W.heap.size 40 #[.int .i64 qk,.int .i64 qp,.int .i32 qr,.int .i64 qc,.int .i64 qn,.int .i64 qcl] W') ⟨ow3,fsf gM3.out gZ fu h0' fe ?_,Bk.st6 gZ,h0',Ex.fresh_ (K:=fun x=>x=W.heap.size) (gE.tr ((Ex.bl (((Bl.rf _).al _).dr)).tr gX3.out)) ?_ (fun x hx=>by subst hx;exact gE.ch.size)⟩ ?_;iterate 2 (repeat' (first | with_reducible exact Ch.rf _ _ | with_reducible refine Ch.st ?_ fi _))
         rintro W9 k1;go_wp2_with fail
         go_meet
         case rel => exact ⟨_,er',rfl,rfl,k1⟩
      case rest =>
       obtain ⟨xq,er',rfl,rfl,gG⟩:=hcut;clear hss hkk hEBl hse hke hxe gM gX gE hT W;have hXL:(c:Int)<(S.n:Int):=hcn;obtain ⟨cX,dX⟩:CeF wc xq #[.int .i64 qk,.int .i64 qp,.int .i32 qr,.int .i64 qc,.int .i64 qn,.int .i64 qcl]:=by obtain ⟨_,_,gX,_⟩:=gG.out;exact gX.ceF
       go_upto_if 72 with fail
       go_cut [] from 70 to 160 (fun wx=>Stg L { V with er:=Plain.put V.er c er' } { S with cl:=Plain.put S.cl c { S.cl c with up:=U },ends:=Plain.put S.ends c (Plain.take (S.ends c) ⟨⟨fk,fp,⟨fr,fc,fn⟩,fcl⟩,fm,fo,fcu⟩),known:=if qk=1 then Plain.put S.known c (S.known c+1) else S.known } m ow w1 xq 40 #[.int .i64 qk,.int .i64 qp,.int .i32 qr,.int .i64 qc,.int .i64 qn,.int .i64 qcl] wx)
       case first=>
        by_cases hk1:qk=1
        · subst hk1;obtain ⟨owz,gM,gX,gz,gE⟩:=gG.out;have hss:Bk wc L.sb 80 #[V.st,V.lg,.map (some L.mb),.slice (some ⟨L.eb,0,none⟩) S.n S.n,.slice (some ⟨L.nb,0,none⟩) S.n S.n,.chan (some L.c0)]:=gM.ss;have hkk:Bk wc (L.kb c) 89 #[.int .i64 (c:Int),V.tv c,.int .i64 (S.cl c).cur,.int .i64 (S.cl c).en.mine,.int .i64 (S.cl c).en.other,.int .i64 (S.cl c).en.acked,V.rv c,.pointer (some ⟨L.ul c,0,none⟩),.pointer (some ⟨L.dl c,0,none⟩),.int .i64 (S.cl c).typed,.chan (some (L.wc c))]:=by have:=gM.kk c hc;simpa only [Plain.put_same] using this
          have hnn:Bk wc L.nb 3 (cr S.n S.known):=gM.nn;have hkc:=fox (f:=S.known) hc;have hkn:=HG.out.known c hc;have hll:=HG.out.log_len;have hca:=HG.out.calls;have hwr:IntKind.i64.wrap (S.known c+1)=S.known c+1:=f0t _ fe;obtain ⟨dn,en⟩:=hnn.ceF;replace gM:=fx6 gM;go_upto_region 13 with fail
          refine rn (sel [fun w'=>Bk w' L.sb 80 #[V.st,V.lg,.map (some L.mb),.slice (some ⟨L.eb,0,none⟩) S.n S.n,.slice (some ⟨L.nb,0,none⟩) S.n S.n,.chan (some L.c0)],fun w'=>Bk w' (L.kb c) 89 #[.int .i64 (c:Int),V.tv c,.int .i64 (S.cl c).cur,.int .i64 (S.cl c).en.mine,.int .i64 (S.cl c).en.other,.int .i64 (S.cl c).en.acked,V.rv c,.pointer (some ⟨L.ul c,0,none⟩),.pointer (some ⟨L.dl c,0,none⟩),.int .i64 (S.cl c).typed,.chan (some (L.wc c))],fun w'=>Bk w' L.nb 3 (cr S.n S.known)]) [(.h 9,0),(.h 9,1),(.h 9,2),(.h 0,3),(.h 9,4),(.h 9,5),(.h 9,6),(.h 1,7),(.h 9,8),(.h 2,9),(.h 9,10),(.h 9,11),(.c [],12)] fd fd (qy (Bk.dr hss) (qy (Bk.dr hkk) (qy (Bk.dr hnn) (fun _=>un)))) ?_;simp only [vg,fy9,fz4,fz3,fy2,fx7,fy0];iterate 12 (refine oH ?_;try simp only [aps])
          (refine rx (fun K hK=> ?_);go_simp;refine hK _ _ ry ?_;clear hK K;try simp only [aps]);refine ub ?_;refine vy (F:=fun W'=>Stg L { V with er:=Plain.put V.er c er' } { S with cl:=Plain.put S.cl c { S.cl c with up:=U },ends:=Plain.put S.ends c (Plain.take (S.ends c) ⟨⟨fk,fp,⟨fr,fc,fn⟩,fcl⟩,fm,fo,fcu⟩),known:=if (1:Int)=1 then Plain.put S.known c (S.known c+1) else S.known } m ow w1 xq 40 #[.int .i64 (1:Int),.int .i64 qp,.int .i32 qr,.int .i64 qc,.int .i64 qn,.int .i64 qcl] W') ?_ ?_
          · refine (gG.bl (Bl.rf _).dr).step fun ow' hM=> ?_;obtain ⟨ow5,gM5,gE5⟩:=fsd hM (c:=c) (S.known c+1);exact ⟨ow5,by rw [f02 (show (1:Int)=1 from rfl)];exact gM5,gE5⟩
          rintro W9 k1;go_wp2_with fail
          go_meet
          case rel => exact k1
        · have hkz:(qk==1)=false:=by simp [hk1]
          go_wp2_with fail
          go_meet
          case rel => simpa only [fx9 hk1] using gG
       case rest =>
        have gG:=hcut;clear hcut;obtain ⟨owz,gM,gX,gz,gE⟩:=gG.out;have hss:Bk wc L.sb 80 #[V.st,V.lg,.map (some L.mb),.slice (some ⟨L.eb,0,none⟩) S.n S.n,.slice (some ⟨L.nb,0,none⟩) S.n S.n,.chan (some L.c0)]:=gM.ss;have hkk:Bk wc (L.kb c) 89 #[.int .i64 (c:Int),V.tv c,.int .i64 (S.cl c).cur,.int .i64 (S.cl c).en.mine,.int .i64 (S.cl c).en.other,.int .i64 (S.cl c).en.acked,V.rv c,.pointer (some ⟨L.ul c,0,none⟩),.pointer (some ⟨L.dl c,0,none⟩),.int .i64 (S.cl c).typed,.chan (some (L.wc c))]:=by have:=gM.kk c hc;simpa only [Plain.put_same] using this
        have gT0:Txt wc V.st S.text:=gM.st;have htl:=HG.out.text_len;have hll:=HG.out.log_len;have hca:=HG.out.calls;have hA:=fx6 (fun W (hW:Bl wc W)=>dy ⟨qk,qp,⟨qr,qc,qn⟩,qcl⟩ S.text V.st W (gT0.bl hW) hqf.out fe);clear gT0 htl hll hca hkk;have hsS:=hss.lt;replace gM:=fx6 gM;go_upto_region 14 with fail
        refine rn (sel [fun w'=>Bk w' L.sb 80 #[V.st,V.lg,.map (some L.mb),.slice (some ⟨L.eb,0,none⟩) S.n S.n,.slice (some ⟨L.nb,0,none⟩) S.n S.n,.chan (some L.c0)],fun w'=>Bk w' xq 40 #[.int .i64 qk,.int .i64 qp,.int .i32 qr,.int .i64 qc,.int .i64 qn,.int .i64 qcl]]) [(.h 9,0),(.h 1,1),(.h 9,2),(.h 9,3),(.h 9,4),(.h 0,5),(.c [9],6),(.h 9,7),(.h 9,8),(.c [],9)] fd fd (qy (Bk.dr hss) (qy (Bk.dr gX) (fun _=>un))) ?_;simp only [vg,fy9,fz4,fz3,fy2,fx7,fy0];iterate 6 (refine oH ?_;try simp only [aps])
        (refine rx (fun K hK=> ?_);go_simp;go_at_call 88;refine (hA.out _ ga).mono ?_;rintro e w3 ⟨v2,rfl,gT,gb⟩;obtain ⟨A2,m2,cc2,rfl⟩:=bj gT;have k3:=Bk.bl gb (Bk.dr hss);obtain ⟨c3,d3⟩:=k3.ceF;refine hK _ _ (rh trivial ry) ?_;clear hK K;try simp only [aps]);iterate 2 (refine oH ?_;try simp only [aps])
        (refine rx (fun K hK=> ?_);go_simp;refine hK _ _ ry ?_;clear hK K;try simp only [aps]);refine ub ?_;refine vy (F:=fun W'=>Stg L { V with er:=Plain.put V.er c er',st:= .slice A2 m2 cc2 } { S with cl:=Plain.put S.cl c { S.cl c with up:=U },ends:=Plain.put S.ends c (Plain.take (S.ends c) ⟨⟨fk,fp,⟨fr,fc,fn⟩,fcl⟩,fm,fo,fcu⟩),known:=if qk=1 then Plain.put S.known c (S.known c+1) else S.known,text:=Plain.apply ⟨qk,qp,⟨qr,qc,qn⟩,qcl⟩ S.text } m ow w1 xq 40 #[.int .i64 qk,.int .i64 qp,.int .i32 qr,.int .i64 qc,.int .i64 qn,.int .i64 qcl] W') ?_ ?_
        · refine gG.step fun ow' hM=> ?_;exact fv4 hM ((Bl.rf _).dr.cl gb) gT
        rintro wt gG;generalize (Value.slice A2 m2 cc2)=v2 at gG gT;clear gM gX gz gE hss hsS hA c3 d3 k3 gT gb owz;obtain ⟨owz,gM,gX,gz,gE⟩:=gG.out;have hss:Bk wt L.sb 80 #[v2,V.lg,.map (some L.mb),.slice (some ⟨L.eb,0,none⟩) S.n S.n,.slice (some ⟨L.nb,0,none⟩) S.n S.n,.chan (some L.c0)]:=gM.ss;have gR0:=fx6 (show wt.ownsRow 0 40 6 V.lg S.log.length (logF S.log) from gM.lg);have hnl:=fx6 (rp gM.lg hss fu);have hRl:=fx6 (lr gM.lg);have hll:=HG.out.log_len;have hca:=HG.out.calls;obtain ⟨i0,hi0,hz0',hz1,hz2⟩:=f4i fso;have hI:=fx6 hi0;have hZ0:=fx6 hz0';have hZ1:=fx6 hz1;have hZ2:=fx6 hz2;clear hi0 hz0' hz1 hz2;have hsS:=hss.lt;replace gM:=fx6 gM;go_upto_region 15 with fail
        refine rn (sel [fun w'=>Bk w' L.sb 80 #[v2,V.lg,.map (some L.mb),.slice (some ⟨L.eb,0,none⟩) S.n S.n,.slice (some ⟨L.nb,0,none⟩) S.n S.n,.chan (some L.c0)],fun w'=>Bk w' xq 40 #[.int .i64 qk,.int .i64 qp,.int .i32 qr,.int .i64 qc,.int .i64 qn,.int .i64 qcl]]) [(.h 9,0),(.h 9,1),(.h 9,2),(.h 9,3),(.h 0,4),(.h 1,5),(.c [0,9],6),(.c [9],7),(.h 9,8),(.h 9,9),(.c [],10)] fd fd (qy (Bk.dr hss) (qy (Bk.dr gX) (fun _=>un))) ?_;simp only [vg,fy9,fz4,fz3,fy2,fx7,fy0];iterate 6 (refine oH ?_;try simp only [aps])
        (refine rx (fun K hK=> ?_);go_simp;refine hK _ _ (rh ff (rh trivial ry)) ?_;clear hK K;try simp only [aps])
        (refine rx (fun K hK=> ?_);refine wp_append_lies _ (.tmp 98) (.tmp 100) _ rfl 0 40 i0 _ 6 48 fwo hI.out hZ0.out hZ1.out hZ2.out rfl fe V.lg S.log.length (logF S.log) rfl (qx (K:=fun _=>False) (Ch.ba ga) gR0.out (fun _ _ h=>h)) ⟨_,0,none⟩ 1 1 (chgL ⟨qk,qp,⟨qr,qc,qn⟩,qcl⟩) rfl rfl (f2m (cs:=(chgL ⟨qk,qp,⟨qr,qc,qn⟩,qcl⟩).toArray) (t:=40) (fr:=(0,0)) (Bk.nw fi).at_) p9 fe jq fe fi _ rfl ?_;intro gg cap4 w4 hown4 gr4 hat4 hlt4;have k4:=Bk.gr gr4 (fun e=>hnl.out _ e.symm rfl) (Bk.al (Bk.dr hss) _);obtain ⟨c4,d4⟩:=k4.ceF;refine hK _ _ (rh trivial ry) ?_;clear hK K;try simp only [aps]);iterate 2 (refine oH ?_;try simp only [aps])
        (refine rx (fun K hK=> ?_);go_simp;refine hK _ _ ry ?_;clear hK K;try simp only [aps]);refine ub ?_;refine vy (F:=fun W'=>Stg L { V with er:=Plain.put V.er c er',st:=v2,lg:= .slice (some ⟨gg,0,none⟩) (S.log.length+1) cap4 } { S with cl:=Plain.put S.cl c { S.cl c with up:=U },ends:=Plain.put S.ends c (Plain.take (S.ends c) ⟨⟨fk,fp,⟨fr,fc,fn⟩,fcl⟩,fm,fo,fcu⟩),known:=if qk=1 then Plain.put S.known c (S.known c+1) else S.known,text:=Plain.apply ⟨qk,qp,⟨qr,qc,qn⟩,qcl⟩ S.text,log:=S.log++[⟨qk,qp,⟨qr,qc,qn⟩,qcl⟩] } m ow w1 xq 40 #[.int .i64 qk,.int .i64 qp,.int .i32 qr,.int .i64 qc,.int .i64 qn,.int .i64 qcl] W') ?_ ?_
        · refine gG.step fun ow' hM=> ?_;exact mem_log hM ((Bl.rf _).dr.al _) gr4 hown4 (fun x hx=>by obtain rfl:gg=x:=(by simpa [Value.ownBlock] using hx);exact hat4.imp id (fun e=>by rw [e];simp))
        rintro wl gG;generalize (Value.slice (some ⟨gg,0,none⟩) (S.log.length+1) cap4)=lg' at gG;clear gM gX gz gE hss hsS gR0 hnl hRl c4 d4 k4 hown4 gr4 hat4 hlt4 hI hZ0 hZ1 hZ2 owz;obtain ⟨owz,gM,gX,gz,gE⟩:=gG.out;have hss:Bk wl L.sb 80 #[v2,lg',.map (some L.mb),.slice (some ⟨L.eb,0,none⟩) S.n S.n,.slice (some ⟨L.nb,0,none⟩) S.n S.n,.chan (some L.c0)]:=gM.ss;have hmp:Mp wl L.mb S.n S.curs:=gM.mp;have hrg:=fv1 hmp;obtain ⟨cS,dS⟩:=hss.ceF;clear hmp;have hgI:=gG.start;replace gM:=fx6 gM;go_wp2_with fail
        go_loopw [12,13] (fun _ _ wr=> ∃ seen:Array Nat,StgI L { V with er:=Plain.put V.er c er',st:=v2,lg:=lg' } { S with cl:=Plain.put S.cl c { S.cl c with up:=U },ends:=Plain.put S.ends c (Plain.take (S.ends c) ⟨⟨fk,fp,⟨fr,fc,fn⟩,fcl⟩,fm,fo,fcu⟩),known:=if qk=1 then Plain.put S.known c (S.known c+1) else S.known,text:=Plain.apply ⟨qk,qp,⟨qr,qc,qn⟩,qcl⟩ S.text,log:=S.log++[⟨qk,qp,⟨qr,qc,qn⟩,qcl⟩],curs:=mixC ⟨qk,qp,⟨qr,qc,qn⟩,qcl⟩ S.curs seen } m ow w1 xq 40 #[.int .i64 qk,.int .i64 qp,.int .i32 qr,.int .i64 qc,.int .i64 qn,.int .i64 qcl] wl.heap.size seen wr) (fun _ _ wr=>fs7 S.n wl.heap.size wr)
        case atStart => exact ⟨#[],by rw [fvb];exact hgI⟩
        case round=>
            obtain ⟨seen,gI⟩:=hrel;obtain ⟨owy,gM2,gX2,gz2,gE2,hIt,hr2,_⟩:=gI.out;have hmp2:Mp wr L.mb S.n (mixC ⟨qk,qp,⟨qr,qc,qn⟩,qcl⟩ S.curs seen):=gM2.mp;have hs2:Bk wr L.sb 80 #[v2,lg',.map (some L.mb),.slice (some ⟨L.eb,0,none⟩) S.n S.n,.slice (some ⟨L.nb,0,none⟩) S.n S.n,.chan (some L.c0)]:=gM2.ss;have hIt2:=fx6 hIt;replace gM2:=fx6 gM2;clear hrg;go_wp2_with (first | (at_next;refine ffe rfl _ rfl L.mb wl.heap.size S.n _ seen rfl hmp2 hIt ?_ ?_) | go_in)
            · intro hall;have gG:=(gI.stop).cv (S':={ S with cl:=Plain.put S.cl c { S.cl c with up:=U },ends:=Plain.put S.ends c (Plain.take (S.ends c) ⟨⟨fk,fp,⟨fr,fc,fn⟩,fcl⟩,fm,fo,fcu⟩),known:=if qk=1 then Plain.put S.known c (S.known c+1) else S.known,text:=Plain.apply ⟨qk,qp,⟨qr,qc,qn⟩,qcl⟩ S.text,log:=S.log++[⟨qk,qp,⟨qr,qc,qn⟩,qcl⟩],curs:=fun o=>Plain.index ⟨qk,qp,⟨qr,qc,qn⟩,qcl⟩ (S.curs o) }) rfl rfl rfl rfl rfl (fun i hi=>⟨rfl,(fjz (seen:=seen) (i:=i) (by simpa using hall i hi)).symm,rfl,rfl⟩);clear gI gM2 hmp2 hs2 hIt hIt2 hr2 gE2 gz2 gX2 hall hss cS dS gM gX gz gE;obtain ⟨owz,gM,gX,gz,gE⟩:=gG.out;have hss:Bk wr L.sb 80 #[v2,lg',.map (some L.mb),.slice (some ⟨L.eb,0,none⟩) S.n S.n,.slice (some ⟨L.nb,0,none⟩) S.n S.n,.chan (some L.c0)]:=gM.ss;have hkk:Bk wr (L.kb c) 89 #[.int .i64 (c:Int),V.tv c,.int .i64 (S.cl c).cur,.int .i64 (S.cl c).en.mine,.int .i64 (S.cl c).en.other,.int .i64 (S.cl c).en.acked,V.rv c,.pointer (some ⟨L.ul c,0,none⟩),.pointer (some ⟨L.dl c,0,none⟩),.int .i64 (S.cl c).typed,.chan (some (L.wc c))]:=by have:=gM.kk c hc;simpa only [Plain.put_same] using this
              have hmpE:Mp wr L.mb S.n (fun o=>Plain.index ⟨qk,qp,⟨qr,qc,qn⟩,qcl⟩ (S.curs o)):=gM.mp;have hmu:=fw9 (hmpE.ch (K:=fun _=>False) (Ch.ba (Bl.rf _).dr) (fun h=>h)) hc fe qq;clear hmpE;replace gM:=fx6 gM;go_upto_region 20 with fail
              refine rn (sel [fun w'=>Bk w' L.sb 80 #[v2,lg',.map (some L.mb),.slice (some ⟨L.eb,0,none⟩) S.n S.n,.slice (some ⟨L.nb,0,none⟩) S.n S.n,.chan (some L.c0)],fun w'=>Bk w' (L.kb c) 89 #[.int .i64 (c:Int),V.tv c,.int .i64 (S.cl c).cur,.int .i64 (S.cl c).en.mine,.int .i64 (S.cl c).en.other,.int .i64 (S.cl c).en.acked,V.rv c,.pointer (some ⟨L.ul c,0,none⟩),.pointer (some ⟨L.dl c,0,none⟩),.int .i64 (S.cl c).typed,.chan (some (L.wc c))]]) [(.h 9,0),(.h 9,1),(.h 9,2),(.h 0,3),(.h 9,4),(.h 9,5),(.h 9,6),(.h 1,7),(.h 9,8),(.c [],9)] fd fd (qy (Bk.dr hss) (qy (Bk.dr hkk) (fun _=>un))) ?_;simp only [vg,fy9,fz4,fz3,fy2,fx7,fy0];iterate 9 (refine oH ?_;try simp only [aps])
              (refine rx (fun K hK=> ?_);go_simp;refine hK _ _ ry ?_;clear hK K;try simp only [aps]);refine ub ?_;refine vy (F:=fun W'=>Stg L { V with er:=Plain.put V.er c er',st:=v2,lg:=lg' } { S with cl:=Plain.put S.cl c { S.cl c with up:=U },ends:=Plain.put S.ends c (Plain.take (S.ends c) ⟨⟨fk,fp,⟨fr,fc,fn⟩,fcl⟩,fm,fo,fcu⟩),known:=if qk=1 then Plain.put S.known c (S.known c+1) else S.known,text:=Plain.apply ⟨qk,qp,⟨qr,qc,qn⟩,qcl⟩ S.text,log:=S.log++[⟨qk,qp,⟨qr,qc,qn⟩,qcl⟩],curs:=fun o=>if o=c then qq else Plain.index ⟨qk,qp,⟨qr,qc,qn⟩,qcl⟩ (S.curs o) } m ow w1 xq 40 #[.int .i64 qk,.int .i64 qp,.int .i32 qr,.int .i64 qc,.int .i64 qn,.int .i64 qcl] W') ?_ ?_
              · refine (gG.bl (Bl.rf _).dr).step fun ow' hM=> ?_;obtain ⟨ow5,k1,k2⟩:=fnd hM (c:=c) qq;exact ⟨ow5,k1.cv rfl rfl rfl rfl rfl (fun i hi=>⟨rfl,rfl,rfl,rfl⟩),k2⟩
              rintro wm gG;clear hmu hss hkk gM gX gz gE;obtain ⟨owz,gM,gX,gz,gE⟩:=gG.out;obtain ⟨cB3,dB3⟩:=gM.bb.ceF;simp only [sesC,ecls] at cB3;clear gX gz gE;replace gM:=fx6 gM;go_wp2_with fail
              go_loopw [136] (fun iv wr=> ∃ (i:Nat) (V':Vals),i≤S.n∧iv= .int .i64 (i:Int)∧Stg L V' { S with cl:=clI S c U ⟨qk,qp,⟨qr,qc,qn⟩,qcl⟩ qq i,ends:=iu S c ⟨⟨fk,fp,⟨fr,fc,fn⟩,fcl⟩,fm,fo,fcu⟩ ⟨qk,qp,⟨qr,qc,qn⟩,qcl⟩ i,known:=if qk=1 then Plain.put S.known c (S.known c+1) else S.known,text:=Plain.apply ⟨qk,qp,⟨qr,qc,qn⟩,qcl⟩ S.text,log:=S.log++[⟨qk,qp,⟨qr,qc,qn⟩,qcl⟩],curs:=fun o=>if o=c then qq else Plain.index ⟨qk,qp,⟨qr,qc,qn⟩,qcl⟩ (S.curs o) } m ow w1 xq 40 #[.int .i64 qk,.int .i64 qp,.int .i32 qr,.int .i64 qc,.int .i64 qn,.int .i64 qcl] wr) (fun iv _=>S.n-(intOf iv).toNat)
              case atStart => exact ⟨0,_,f1n _,rfl,by rw [fva,foz];exact gG⟩
              case round=>
                obtain ⟨i,V',hi,rfl,gI⟩:=hrel;obtain ⟨owy,gM5,gX5,gz5,gE5⟩:=gI.out;by_cases hlt:i<S.n
                · have hci:=gM5.cls_at ecls i hlt;have hq3:=fls gM5 hlt hc;by_cases hic:i=c
                  · have hd:decide (i≠c)=false:=by simp [hic]
                    rw [hd] at hq3;clear hd;subst hic;replace gM5:=fx6 gM5;go_wp2
                    go_roundw
                    case rel => exact ⟨i+1,V',hlt,by simp,by rw [clI_own,fsg];exact gI⟩
                    case measure => simp [intOf];omega
                  · have hd:decide (i≠c)=true:=by simp [hic]
                    rw [hd] at hq3;clear hd;have hs5:Bk wr L.sb 80 #[V'.st,V'.lg,.map (some L.mb),.slice (some ⟨L.eb,0,none⟩) S.n S.n,.slice (some ⟨L.nb,0,none⟩) S.n S.n,.chan (some L.c0)]:=gM5.ss;have hki:Bk wr (L.kb i) 89 #[.int .i64 (i:Int),V'.tv i,.int .i64 (S.cl i).cur,.int .i64 (S.cl i).en.mine,.int .i64 (S.cl i).en.other,.int .i64 (S.cl i).en.acked,V'.rv i,.pointer (some ⟨L.ul i,0,none⟩),.pointer (some ⟨L.dl i,0,none⟩),.int .i64 (S.cl i).typed,.chan (some (L.wc i))]:=by have:=gM5.kk i hlt;simpa only [fwa hic] using this
                    have hKe: ¬ (L.kb i=L.eb∨(V'.er i).ownBlock=some (L.kb i)):=by
                      obtain ⟨_,hee,_⟩:=gM5.ee.bk;rintro (e | e)
                      · exact hki.ne_ hee fu e
                      · exact rp (gM5.er i hlt) hki fu _ e rfl
                    have hmi:=HG.out.mine i hlt;have hrw:=HG.out.rows i hlt;have hca:=HG.out.calls;have hll:=HG.out.log_len
                    have hdo:(S.cl i).down.length<S.room:=by
                      have h1:=HG.out.downR i hlt;rcases f01 (S.cl i).down.length S.room with h' | h'
                      · exact h'
                      · have:=(Plain.fullAt_iff S c S.n).2 ⟨i,hlt,hic,by omega⟩;rw [hfz0.out] at this;cases this
                    have hsnd:=fx6 (fun W (hW:Bl wr W)=>fsi (S:=S) (B:={ S with cl:=Plain.put S.cl c { S.cl c with up:=U },ends:=Plain.put S.ends c (Plain.take (S.ends c) ⟨⟨fk,fp,⟨fr,fc,fn⟩,fcl⟩,fm,fo,fcu⟩),known:=if qk=1 then Plain.put S.known c (S.known c+1) else S.known,text:=Plain.apply ⟨qk,qp,⟨qr,qc,qn⟩,qcl⟩ S.text,log:=S.log++[⟨qk,qp,⟨qr,qc,qn⟩,qcl⟩],curs:=fun o=>if o=c then qq else Plain.index ⟨qk,qp,⟨qr,qc,qn⟩,qcl⟩ (S.curs o) }) (f:=⟨⟨fk,fp,⟨fr,fc,fn⟩,fcl⟩,fm,fo,fcu⟩) (q:=⟨qk,qp,⟨qr,qc,qn⟩,qcl⟩) (k:=qq) (gM5.bl hW) rfl hlt hic fe fe);have hin:(i:Int)<(S.n:Int):=by omega
                    replace gM5:=fx6 gM5;clear hmi hrw hca hll;go_upto_region 25 with fail
                    refine rn (sel [fun w'=>Bk w' L.sb 80 #[V'.st,V'.lg,.map (some L.mb),.slice (some ⟨L.eb,0,none⟩) S.n S.n,.slice (some ⟨L.nb,0,none⟩) S.n S.n,.chan (some L.c0)],fun w'=>Bk w' (L.kb i) 89 #[.int .i64 (i:Int),V'.tv i,.int .i64 (S.cl i).cur,.int .i64 (S.cl i).en.mine,.int .i64 (S.cl i).en.other,.int .i64 (S.cl i).en.acked,V'.rv i,.pointer (some ⟨L.ul i,0,none⟩),.pointer (some ⟨L.dl i,0,none⟩),.int .i64 (S.cl i).typed,.chan (some (L.wc i))],fun w'=>Bk w' xq 40 #[.int .i64 qk,.int .i64 qp,.int .i32 qr,.int .i64 qc,.int .i64 qn,.int .i64 qcl]]) [(.h 9,0),(.h 9,1),(.h 9,2),(.h 1,3),(.h 9,4),(.h 9,5),(.h 9,6),(.h 0,7),(.h 9,8),(.h 9,9),(.h 9,10),(.h 1,11),(.h 9,12),(.h 2,13),(.h 9,14),(.c [1,9],15),(.c [],16)] fd fd (qy (Bk.dr hs5) (qy (Bk.dr hki) (qy (Bk.dr gX5) (fun _=>un)))) ?_;simp only [vg,fy9,fz4,fz3,fy2,fx7,fy0];iterate 15 (refine oH ?_;try simp only [aps])
                    (refine rx (fun K hK=> ?_);go_simp;go_at_call 91;refine (hsnd.out _ ga).mono ?_;rintro e w3 ⟨er2,ow4,rfl,gM6,gX6,gC6⟩;have k3:=Bk.ch gC6 hKe (Bk.dr hki);have hdn:=fx6 (fsj (S:=S) (B:={ S with cl:=Plain.put S.cl c { S.cl c with up:=U },ends:=Plain.put S.ends c (Plain.take (S.ends c) ⟨⟨fk,fp,⟨fr,fc,fn⟩,fcl⟩,fm,fo,fcu⟩),known:=if qk=1 then Plain.put S.known c (S.known c+1) else S.known,text:=Plain.apply ⟨qk,qp,⟨qr,qc,qn⟩,qcl⟩ S.text,log:=S.log++[⟨qk,qp,⟨qr,qc,qn⟩,qcl⟩],curs:=fun o=>if o=c then qq else Plain.index ⟨qk,qp,⟨qr,qc,qn⟩,qcl⟩ (S.curs o) }) (q:=⟨qk,qp,⟨qr,qc,qn⟩,qcl⟩) (k:=qq) gM6 rfl rfl hlt hic hdo fe);replace gM6:=fx6 gM6;refine hK _ _ (rh ff (rh trivial ry)) ?_;clear hK K;try simp only [aps])
                    (refine rx (fun K hK=> ?_);go_simp;go_at_call 90;refine hdn.out.mono ?_;rintro e w4 ⟨ow5,rfl,gM7,gX7,gC7⟩;replace gM7:=fx6 gM7;refine hK _ _ ry ?_;clear hK K;try simp only [aps]);refine ub ?_;have gN:=stg_of gX5 gz5 gE5 gM7.out (((Ex.bl (Bl.rf _).dr).tr gX6).tr gX7);go_wp2_with fail
                    go_roundw
                    case rel => exact ⟨i+1,_,hlt,by simp,gN⟩
                    case measure => simp [intOf];omega
                · obtain rfl:i=S.n:=by omega
                  replace gM5:=fx6 gM5;go_wp2;go_ret;exact ⟨by rw [fv8 hu hfz0.out];exact ⟨rfl,V',owy,fsk gM5.out hq.out,gE5⟩⟩
            · intro i w5 hin hns hC5 hsz5 hIt5 hen;replace hns:seen.contains i=false:=by simpa using hns
              have gI5:=gI.move hC5 hIt5;rw [fsl hns] at hen;obtain ⟨owx,gM5,gX5,gz5,gE5,hIt6,hr6,_⟩:=gI5.out;have hs5:Bk w5 L.sb 80 #[v2,lg',.map (some L.mb),.slice (some ⟨L.eb,0,none⟩) S.n S.n,.slice (some ⟨L.nb,0,none⟩) S.n S.n,.chan (some L.c0)]:=gM5.ss;have hmp5:Mp w5 L.mb S.n (mixC ⟨qk,qp,⟨qr,qc,qn⟩,qcl⟩ S.curs seen):=gM5.mp;have hcu:=HG.out.curs i hin;have htl:=HG.out.text_len;have hll:=HG.out.log_len;have hca:=HG.out.calls;have hA:=fx6 (fun W=>bh ⟨qk,qp,⟨qr,qc,qn⟩,qcl⟩ (S.curs i) W fe fe);have hmu:=fx6 (fun W (hW:Bl w5 W)=>fw9 (hmp5.ch (K:=fun _=>False) (Ch.ba hW) (fun h=>h)) hin fe (Plain.index ⟨qk,qp,⟨qr,qc,qn⟩,qcl⟩ (S.curs i)));have hl0:=fx6 hIt.left;clear hcu htl hll hca hmp5 hIt hIt2 hmp2 hs2 gM2 hr2 gE2 gz2 gX2 hss cS dS;replace gM5:=fx6 gM5;go_upto_region 19 with fail
              refine rn (sel [fun w'=>Bk w' L.sb 80 #[v2,lg',.map (some L.mb),.slice (some ⟨L.eb,0,none⟩) S.n S.n,.slice (some ⟨L.nb,0,none⟩) S.n S.n,.chan (some L.c0)],fun w'=>Bk w' xq 40 #[.int .i64 qk,.int .i64 qp,.int .i32 qr,.int .i64 qc,.int .i64 qn,.int .i64 qcl]]) [(.h 9,0),(.h 9,1),(.h 9,2),(.h 0,3),(.h 9,4),(.h 1,5),(.h 9,6),(.c [0,9],7),(.c [],8)] fd fd (qy (Bk.dr hs5) (qy (Bk.dr gX5) (fun _=>un))) ?_;simp only [vg,fy9,fz4,fz3,fy2,fx7,fy0];iterate 7 (refine oH ?_;try simp only [aps])
              (refine rx (fun K hK=> ?_);go_simp;go_at_call 89;refine (hA.out _).mono ?_;rintro e w7 ⟨rfl,gb7⟩;have hmv:=hmu.out _ ((Bl.rf _).dr.cl gb7);refine hK _ _ (rh ff (rh trivial ry)) ?_;clear hK K;try simp only [aps])
              (refine rx (fun K hK=> ?_);go_simp;refine hK _ _ ry ?_;clear hK K;try simp only [aps]);refine ub ?_
              have gN:=(gI5.bl ((Bl.rf _).dr.cl gb7)).step (S':={ S with cl:=Plain.put S.cl c { S.cl c with up:=U },ends:=Plain.put S.ends c (Plain.take (S.ends c) ⟨⟨fk,fp,⟨fr,fc,fn⟩,fcl⟩,fm,fo,fcu⟩),known:=if qk=1 then Plain.put S.known c (S.known c+1) else S.known,text:=Plain.apply ⟨qk,qp,⟨qr,qc,qn⟩,qcl⟩ S.text,log:=S.log++[⟨qk,qp,⟨qr,qc,qn⟩,qcl⟩],curs:=mixC ⟨qk,qp,⟨qr,qc,qn⟩,qcl⟩ S.curs (seen.push i) }) (V':={ V with er:=Plain.put V.er c er',st:=v2,lg:=lg' }) rfl fun ow' hM=>by
                obtain ⟨ow5,k1,k2⟩:=fnd hM (c:=i) (Plain.index ⟨qk,qp,⟨qr,qc,qn⟩,qcl⟩ (S.curs i));exact ⟨ow5,by rw [← fsn];exact k1,k2⟩
              go_wp2_with fail
              go_roundw
              case rel => exact ⟨seen.push i,gN⟩
              case measure=>
                obtain ⟨_,_,_,_,_,hI8,_⟩:=gN.out;exact Nat.lt_of_le_of_lt (Nat.le_of_eq hI8.left) (f0f (fv0 hin hns) (Nat.le_of_eq hl0.out.symm))
end
end Go.Proofs.YtelecjnabeokeaaGreatDoor
namespace Go.Proofs.YtelecjnabeokeaaGreatDoor
open Go Go.RowKit
def fsp:doV.ntmps=11:=rfl
def cap78 {k cap s r:Nat} {buf:Array Value} {cl tm:Bool} {v:World} (hk:v.heap[k]? =some (.chan cap buf cl s r tm)):(Builtin.cap_ #[78] 3 #[.chan (some k)]).run PV v= .ok (goInt (if tm then 0 else cap)) v:=by
 obtain ⟨e,d,hd⟩: ∃ d e,Tryz.prog.underlying 78=some (.chan d e):=⟨_,_,Tryz.underlying78⟩;have hu:(underlying 78).run PV v= .ok (.chan e d) v:=by rw [ua];exact f0u hd v
 have hst:(Builtin.cap_ #[78] 3 #[.chan (some k)]).run PV v=(Go.getObj k >>= fun o=>match o with
    | .chan n _ _ _ _ timer=>Pure.pure (goInt (if timer then 0 else n))
    | _=>Go.stuck "cap: channel expected" :Sem Value).run PV v:=by
    simp [Builtin.cap_,fz9,hu,Result.andThen];rfl
 rw [hst];simp [Go.getObj,Sem.run,Bind.bind,Sem.bind,hk,Pure.pure]
def info49:(PV.info? 49).map (·.bytes)=some 16:=by kernel_rfl
def mkDone (w:World):(Instr.makeChan 163 (.int .i64 0)).run PV w= .ok (.chan (some w.heap.size)) (w.alloc (.chan 0 #[] false 0 0 false)):=by
 obtain ⟨i,hi,hs⟩: ∃ i,PV.info? 49=some i∧i.bytes=16:=by
    have:=info49;cases hi:PV.info? 49 with
    | none=>rw [hi] at this;cases this
    | some i=>rw [hi] at this;exact ⟨i,rfl,by simpa using this⟩
 have:=Conc.run_makeChan (P:=PV) (w:=w) (show PV.underlying 163=_ from Tryz.underlying163) hi .i64 0 fe (by rw [hs];omega);exact this
structure Busy (w:World) (k:Nat):Prop where
 at_: ∃ s r,w.heap[k]? =some (.chan 1 #[] false s r true)
def do_any (k f:Nat) {fn:Func} (hfn:PV.funcs[f]? =some fn) (hnm:(fn.name== "runtime.NumGoroutine")=false) (hbd:fn.body.isNone=false) (bound free:Array Value) (w:World) (hm:MarkAt w k) {R:Value→World→Prop}
    (hf: ∀ W,Ch (fun y=>y=k) w W→Busy W k→Calls PV f (bound++ #[]++free) W fun x w'=>Busy w' k∧ ∃ v,x= .returned v∧R v w'):
    Calls PV 46 #[.chan (some k),.func (.func f) bound free] w fun x w2=> ∃ v w',x= .returned v∧R v w'∧MarkAt w2 k∧Ch (fun y=>y=k) w' w2∧w2.heap.size=w'.heap.size:=by
 obtain ⟨x,s,r,hk⟩:=hm;have hcap:=cap78 hk;simp only [f0e] at hcap;have hlt:k<w.heap.size:=(fx5.1 hk).1;go_enter PV.func46,fsp;simp only [oper];go_upto_region 101 with fail
 refine yr ?_;refine bn (c:=⟨.chan (some k),none,.nilFunc⟩) (w1:=w) rfl rfl fd (.inl ⟨rfl,rfl,rfl⟩) (val:= .tuple #[goInt 0,.bool true,x]) (w':=w.setChan k 1 #[] false s (r+1) true) ?_ ?_
 · simp only [uk,hk];rfl
 refine xg rfl rfl (v:= .bool true) (w':=w.setChan k 1 #[] false s (r+1) true) rfl ?_;refine dz ?_;simp only [Act.put,f2x,f2j,f2k,f1m,f3i,f3j];have hC:Ch (fun y=>y=k) w (w.setChan k 1 #[] false s (r+1) true):=(Ch.rf (fun y=>y=k) w).sc (.inl rfl);have hBy:Busy (w.setChan k 1 #[] false s (r+1) true) k:=⟨s,r+1,Conc.heap_setChan _ _ _ _ _ _ _ _ hlt⟩
 have hf':=fx6 (fun W (hW:Bl (w.setChan k 1 #[] false s (r+1) true) W)=>hf W (hC.cl hW) (by
    obtain ⟨s',r',h'⟩:=hBy.at_;exact ⟨s',r',(hW.block k (by simpa [World.setChan] using hlt)).trans h'⟩))
 clear hk hcap hf hC hBy;generalize w.setChan k 1 #[] false s (r+1) true=w1 at hf' ⊢;have hmk:=fun W=>mkDone W;go_upto_region 103 with fail
 refine wp_region_list (wpList_plain rfl fun K' hK'=> ?_)
 have e: ∀ (a:Act) (W:World),a.eval (.tmp 1)= .func (.func f) bound free→(execOp a.eval { dst:=some 4,op:= .call { callee:= .value (.tmp 1),args:= #[],argTypes:= #[] },type:=49,pos:= "",after:= #[],guard:=none }).run PV W= .ok (.enter f (bound++ #[]++free)) W:=fun a W h=>by
    have hc:(callFunc f (bound++ #[]++free)).run PV W= .ok (.enter f (bound++ #[]++free)) W:=by
     unfold callFunc;simp only [Go.program,Bind.bind,Sem.bind,Sem.run,hfn,hnm,hbd,f0g,f0s,Pure.pure]
    rw [← hc];simp only [execOp,resolve,invoke,h];simp [Deferred.ofValue,fz9,Result.andThen,Pure.pure,Sem.run]
 unfold Oper.wp;rw [e _ _ rfl,Oper.upon_enter];refine (hf'.out _ (((Bl.rf _).al _).al _ |>.al _)).mono ?_;rintro y w3 ⟨⟨s3,r3,h3⟩,v,rfl,hR⟩;refine hK' _ _ (wpList_nil ?_);have hl3:k<w3.heap.size:=(fx5.1 h3).1;simp only [Act.put,f2x,f2j,f2k,f1m,f3i,f3j];clear hf' hmk e;go_upto_region 104 with fail
 refine yr ?_;refine bn (c:=⟨.chan (some k),some (.bool true),undef⟩) (w1:=w3) rfl rfl rfl (.inr ⟨rfl,rfl,_,rfl⟩) (val:=undef) (w':=w3.setChan k 1 #[.bool true] false (s3+1) r3 true) ?_ ?_
 · simp only [uk,h3];rfl
 refine dz ?_;simp only [Act.put,f2x,f2j,f2k,f1m,f3i,f3j];have g1:MarkAt (w3.setChan k 1 #[.bool true] false (s3+1) r3 true) k:=⟨_,_,_,Conc.heap_setChan _ _ _ _ _ _ _ _ hl3⟩;have g2:Ch (fun y=>y=k) w3 (w3.setChan k 1 #[.bool true] false (s3+1) r3 true):=(Ch.rf (fun y=>y=k) w3).sc (.inl rfl);have g3:(w3.setChan k 1 #[.bool true] false (s3+1) r3 true).heap.size=w3.heap.size:=by simp [World.setChan]
 generalize w3.setChan k 1 #[.bool true] false (s3+1) r3 true=w4 at*;clear h3 hl3;go_wp2;go_ret;exact ⟨v,rfl,w3,hR,g1,g2,g3⟩
def Txt.slice {w:World} {v:Value} {t:List Plain.El} (h:Txt w v t): ∃ A cc,v= .slice A t.length cc:=by
 rcases h.form with ⟨h1,h2⟩ | ⟨g,cap,h1,_⟩
 · subst h2;exact ⟨_,_,h1⟩
 · exact ⟨_,_,h1⟩
section
variable {L:Lay} {V:Vals} {S:Plain.Ses} {m:Int} {ow:Nat→Nat} {w:World} {E:Nat→Value}
structure Done (L:Lay) (E:Nat→Value) (R:Nat×Plain.Ses) (m:Int) (ow:Nat→Nat) (w:World) (x:Ending) (w':World):Prop where
 out:x= .returned (errV E R.1)∧ ∃ V' ow',Mem L V' R.2 m ow' w'∧Ex ow ow' w w'
def Done.bl {R:Nat×Plain.Ses} {w1 w':World} {x:Ending} (hb:Bl w w1) (h:Done L E R m ow w1 x w'):Done L E R m ow w x w':=
 ⟨h.out.1,let ⟨V',ow',hM,hE⟩:=h.out.2;⟨V',ow',hM,(Ex.bl hb).tr hE⟩⟩
def clo_ins (h:Mem L V S m ow w) (hG:Plain.Good S) (hB:Plain.Bnd S) (hE:Errs E w) {c:Nat} (hc:c<S.n) (pos:Int) (r:Int) (bs:Nat) (bk:Nat) (ba:Nat) (br:Nat) (hbs:Bk w bs 26 #[.pointer (some ⟨L.b,0,none⟩)]) (hbk:Bk w bk 83 #[.pointer (some ⟨L.kb c,0,none⟩)]) (hba:Bk w ba 3 #[.int .i64 pos]) (hbr:Bk w br 21 #[.int .i32 r]):
    Calls PV 47 #[.pointer (some ⟨bs,0,none⟩),.pointer (some ⟨bk,0,none⟩),.pointer (some ⟨ba,0,none⟩),.pointer (some ⟨br,0,none⟩)] w (Done L E (Plain.change S c 1 pos r) m ow w):=by
 obtain ⟨A,cc,hv⟩:=(h.tx c hc).slice;have hkk:Bk w (L.kb c) 89 #[.int .i64 (c:Int),.slice A (S.cl c).text.length cc,.int .i64 (S.cl c).cur,.int .i64 (S.cl c).en.mine,.int .i64 (S.cl c).en.other,.int .i64 (S.cl c).en.acked,V.rv c,.pointer (some ⟨L.ul c,0,none⟩),.pointer (some ⟨L.dl c,0,none⟩),.int .i64 (S.cl c).typed,.chan (some (L.wc c))]:=by rw [← hv];exact h.kk c hc
 have hl:=hG.cl_len hc;have hw1:IntKind.i64.wrap (((S.cl c).text.length:Int)-1)=((S.cl c).text.length:Int)-1:=f0t _ fe;have hI:=fx6 (fun W (hW:Bl w W)=>mem_ins (h.bl hW) hG hB ⟨fun i hi=>(f0h (a:=⟨i,0,none⟩) (hW.block i qi)).trans (hE.at_ i hi),hE.form⟩ hc pos r);have hM:=fx6 h;clear h hG hB hE hl hv;go_enter PV.func47,Tryz.ntmps47;go_upto_region 1 with fail
 refine rn (sel [fun w'=>Bk w' bs 26 #[.pointer (some ⟨L.b,0,none⟩)],fun w'=>Bk w' bk 83 #[.pointer (some ⟨L.kb c,0,none⟩)],fun w'=>Bk w' ba 3 #[.int .i64 pos],fun w'=>Bk w' br 21 #[.int .i32 r],fun w'=>Bk w' (L.kb c) 89 #[.int .i64 (c:Int),.slice A (S.cl c).text.length cc,.int .i64 (S.cl c).cur,.int .i64 (S.cl c).en.mine,.int .i64 (S.cl c).en.other,.int .i64 (S.cl c).en.acked,V.rv c,.pointer (some ⟨L.ul c,0,none⟩),.pointer (some ⟨L.dl c,0,none⟩),.int .i64 (S.cl c).typed,.chan (some (L.wc c))]]) [(.h 0,0),(.h 1,1),(.h 2,2),(.h 3,3),(.h 9,4),(.h 9,5),(.h 1,6),(.h 9,7),(.h 9,8),(.h 4,9),(.h 9,10),(.c [9],11),(.h 9,12)] fd fd (qy (Bk.dr hbs) (qy (Bk.dr hbk) (qy (Bk.dr hba) (qy (Bk.dr hbr) (qy (Bk.dr hkk) (fun _=>un)))))) ?_;simp only [vg,fy9,fz4,fz3,fy2,fx7,fy0];iterate 11 (refine oH ?_;try simp only [aps])
 (refine rx (fun K hK=> ?_);go_simp;go_at_call 48;refine (hI.out _ ga).mono ?_;rintro e w3 ⟨rfl,gD2⟩;refine hK _ _ (rh trivial ry) ?_;clear hK K;try simp only [aps])
 (refine oH ?_;try simp only [aps]);refine ub ?_;go_wp2;go_ret;exact Done.bl ((Bl.rf _).dr) ⟨rfl,gD2⟩
def clo_del (h:Mem L V S m ow w) (hG:Plain.Good S) (hB:Plain.Bnd S) (hE:Errs E w) {c:Nat} (hc:c<S.n) (pos:Int) (bs:Nat) (bk:Nat) (ba:Nat) (hbs:Bk w bs 26 #[.pointer (some ⟨L.b,0,none⟩)]) (hbk:Bk w bk 83 #[.pointer (some ⟨L.kb c,0,none⟩)]) (hba:Bk w ba 3 #[.int .i64 pos]):
    Calls PV 50 #[.pointer (some ⟨bs,0,none⟩),.pointer (some ⟨bk,0,none⟩),.pointer (some ⟨ba,0,none⟩)] w (Done L E (Plain.change S c 2 pos 0) m ow w):=by
 obtain ⟨A,cc,hv⟩:=(h.tx c hc).slice;have hkk:Bk w (L.kb c) 89 #[.int .i64 (c:Int),.slice A (S.cl c).text.length cc,.int .i64 (S.cl c).cur,.int .i64 (S.cl c).en.mine,.int .i64 (S.cl c).en.other,.int .i64 (S.cl c).en.acked,V.rv c,.pointer (some ⟨L.ul c,0,none⟩),.pointer (some ⟨L.dl c,0,none⟩),.int .i64 (S.cl c).typed,.chan (some (L.wc c))]:=by rw [← hv];exact h.kk c hc
 have hl:=hG.cl_len hc;have hw1:IntKind.i64.wrap (((S.cl c).text.length:Int)-1)=((S.cl c).text.length:Int)-1:=f0t _ fe;have hI:=fx6 (fun W (hW:Bl w W)=>mem_del (h.bl hW) hG hB ⟨fun i hi=>(f0h (a:=⟨i,0,none⟩) (hW.block i qi)).trans (hE.at_ i hi),hE.form⟩ hc pos);have hM:=fx6 h;clear h hG hB hE hl hv;go_enter PV.func50,Tryz.ntmps50;go_upto_region 1 with fail
 refine rn (sel [fun w'=>Bk w' bs 26 #[.pointer (some ⟨L.b,0,none⟩)],fun w'=>Bk w' bk 83 #[.pointer (some ⟨L.kb c,0,none⟩)],fun w'=>Bk w' ba 3 #[.int .i64 pos],fun w'=>Bk w' (L.kb c) 89 #[.int .i64 (c:Int),.slice A (S.cl c).text.length cc,.int .i64 (S.cl c).cur,.int .i64 (S.cl c).en.mine,.int .i64 (S.cl c).en.other,.int .i64 (S.cl c).en.acked,V.rv c,.pointer (some ⟨L.ul c,0,none⟩),.pointer (some ⟨L.dl c,0,none⟩),.int .i64 (S.cl c).typed,.chan (some (L.wc c))]]) [(.h 0,0),(.h 1,1),(.h 2,2),(.h 9,3),(.h 1,4),(.h 9,5),(.h 9,6),(.h 3,7),(.h 9,8),(.h 9,9),(.c [9],10),(.h 9,11)] fd fd (qy (Bk.dr hbs) (qy (Bk.dr hbk) (qy (Bk.dr hba) (qy (Bk.dr hkk) (fun _=>un))))) ?_;simp only [vg,fy9,fz4,fz3,fy2,fx7,fy0];iterate 10 (refine oH ?_;try simp only [aps])
 (refine rx (fun K hK=> ?_);go_simp;go_at_call 48;refine (hI.out _ ga).mono ?_;rintro e w3 ⟨rfl,gD2⟩;refine hK _ _ (rh trivial ry) ?_;clear hK K;try simp only [aps])
 (refine oH ?_;try simp only [aps]);refine ub ?_;go_wp2;go_ret;exact Done.bl ((Bl.rf _).dr) ⟨rfl,gD2⟩
def clo_mov (h:Mem L V S m ow w) (hG:Plain.Good S) (hB:Plain.Bnd S) (hE:Errs E w) {c:Nat} (hc:c<S.n) (pos:Int) (bs:Nat) (bk:Nat) (ba:Nat) (hbs:Bk w bs 26 #[.pointer (some ⟨L.b,0,none⟩)]) (hbk:Bk w bk 83 #[.pointer (some ⟨L.kb c,0,none⟩)]) (hba:Bk w ba 3 #[.int .i64 pos]):
    Calls PV 52 #[.pointer (some ⟨bs,0,none⟩),.pointer (some ⟨bk,0,none⟩),.pointer (some ⟨ba,0,none⟩)] w (Done L E (Plain.change S c 3 pos 0) m ow w):=by
 obtain ⟨A,cc,hv⟩:=(h.tx c hc).slice;have hkk:Bk w (L.kb c) 89 #[.int .i64 (c:Int),.slice A (S.cl c).text.length cc,.int .i64 (S.cl c).cur,.int .i64 (S.cl c).en.mine,.int .i64 (S.cl c).en.other,.int .i64 (S.cl c).en.acked,V.rv c,.pointer (some ⟨L.ul c,0,none⟩),.pointer (some ⟨L.dl c,0,none⟩),.int .i64 (S.cl c).typed,.chan (some (L.wc c))]:=by rw [← hv];exact h.kk c hc
 have hl:=hG.cl_len hc;have hw1:IntKind.i64.wrap (((S.cl c).text.length:Int)-1)=((S.cl c).text.length:Int)-1:=f0t _ fe;have hI:=fx6 (fun W (hW:Bl w W)=>mem_mov (h.bl hW) hG hB ⟨fun i hi=>(f0h (a:=⟨i,0,none⟩) (hW.block i qi)).trans (hE.at_ i hi),hE.form⟩ hc pos);have hM:=fx6 h;clear h hG hB hE hl hv;go_enter PV.func52,Tryz.ntmps52;go_upto_region 1 with fail
 refine rn (sel [fun w'=>Bk w' bs 26 #[.pointer (some ⟨L.b,0,none⟩)],fun w'=>Bk w' bk 83 #[.pointer (some ⟨L.kb c,0,none⟩)],fun w'=>Bk w' ba 3 #[.int .i64 pos],fun w'=>Bk w' (L.kb c) 89 #[.int .i64 (c:Int),.slice A (S.cl c).text.length cc,.int .i64 (S.cl c).cur,.int .i64 (S.cl c).en.mine,.int .i64 (S.cl c).en.other,.int .i64 (S.cl c).en.acked,V.rv c,.pointer (some ⟨L.ul c,0,none⟩),.pointer (some ⟨L.dl c,0,none⟩),.int .i64 (S.cl c).typed,.chan (some (L.wc c))]]) [(.h 0,0),(.h 1,1),(.h 2,2),(.h 9,3),(.h 1,4),(.h 9,5),(.h 9,6),(.h 3,7),(.h 9,8),(.c [9],9),(.h 9,10)] fd fd (qy (Bk.dr hbs) (qy (Bk.dr hbk) (qy (Bk.dr hba) (qy (Bk.dr hkk) (fun _=>un))))) ?_;simp only [vg,fy9,fz4,fz3,fy2,fx7,fy0];iterate 9 (refine oH ?_;try simp only [aps])
 (refine rx (fun K hK=> ?_);go_simp;go_at_call 48;refine (hI.out _ ga).mono ?_;rintro e w3 ⟨rfl,gD2⟩;refine hK _ _ (rh trivial ry) ?_;clear hK K;try simp only [aps])
 (refine oH ?_;try simp only [aps]);refine ub ?_;go_wp2;go_ret;exact Done.bl ((Bl.rf _).dr) ⟨rfl,gD2⟩
def fsq (h:Mem L V S m ow w) (hG:Plain.Good S) (hB:Plain.Bnd S) (hE:Errs E w) {c:Nat} (hc:c<S.n):
    Calls PV 55 #[.pointer (some ⟨L.b,0,none⟩),.pointer (some ⟨L.kb c,0,none⟩)] w (Done L E (Plain.serve S c) m ow w):=by
 cases hu:(S.cl c).up with
 | nil=>
   refine (flr h hE hc hu).mono ?_;rintro x w' ⟨rfl,rfl⟩;have e:Plain.serve S c=(7,S):=by unfold Plain.serve;rw [hu]
   rw [e];exact ⟨rfl,V,ow,h,Ex.rf⟩
 | cons f U=>exact (serve1 h hG hB hE hc hu).mono fun x w' hs=>⟨hs.out.1,hs.out.2⟩
def clo_up (h:Mem L V S m ow w) (hG:Plain.Good S) (hB:Plain.Bnd S) (hE:Errs E w) {c:Nat} (hc:c<S.n) (bs bk:Nat) (hbs:Bk w bs 26 #[.pointer (some ⟨L.b,0,none⟩)]) (hbk:Bk w bk 83 #[.pointer (some ⟨L.kb c,0,none⟩)]):
    Calls PV 54 #[.pointer (some ⟨bs,0,none⟩),.pointer (some ⟨bk,0,none⟩)] w (Done L E (Plain.serve S c) m ow w):=by
 have hI:=fx6 (fsq h hG hB hE hc);obtain ⟨c1,d1⟩:=hbs.ceF;obtain ⟨c2,d2⟩:=hbk.ceF;clear h hG hB hE;go_enter PV.func54,Tryz.ntmps54;go_wp2_with (first | (go_at_call 55;refine hI.out.mono ?_;rintro e w3 gD;obtain ⟨rfl,gD2⟩:=gD.out));go_ret;exact ⟨rfl,gD2⟩
end
def flt:lockV.ntmps=3:=rfl
def fhg:unlockV.ntmps=3:=rfl
section
variable {w:World} {b:Nat} {t:TypeId} {cs:Array Value}
def lock57 (hb:Base w) (hB:Bk w b t cs) (h2:2≤b) (h0:cs[0]? =some (.int .i32 0)):Calls PV 57 #[.pointer (some ⟨b,0,none⟩)] w fun x w'=>x= .returned (.tuple #[])∧w'=w.setCell ⟨b,0,none⟩ (.int .i32 1):=by
 obtain ⟨k0,k1⟩:=hb.chk hB h2 0;have c:=(hB.ce 0).trans h0;have d:=hB.fz 0;clear hb hB;go_enter PV.func57,flt;simp only [fql,chkR,chk,oper];go_wp2
 first | (go_end0;exact ⟨rfl,rfl⟩) | (refine f0q (f2g rfl _ _ _) rfl ?_;exact ⟨rfl,rfl⟩)
def fvc (hb:Base w) (hB:Bk w b t cs) (h2:2≤b) (h0:cs[0]? =some (.int .i32 1)):Calls PV 58 #[.pointer (some ⟨b,0,none⟩)] w fun x w'=>x= .returned (.tuple #[])∧w'=w.setCell ⟨b,0,none⟩ (.int .i32 0):=by
 obtain ⟨k0,k1⟩:=hb.chk hB h2 0;have c:=(hB.ce 0).trans h0;have d:=hB.fz 0;clear hb hB;go_enter PV.func58,fhg;simp only [fe5,chkR,chk,oper];go_wp2
 first | (go_end0;exact ⟨rfl,rfl⟩) | (refine f0q (f2g rfl _ _ _) rfl ?_;exact ⟨rfl,rfl⟩)
def lock25 (hb:Base w) (hB:Bk w b t cs) (h2:2≤b) (h0:cs[0]? =some (.int .i32 0)):Calls PV 25 #[.pointer (some ⟨b,0,none⟩)] w fun x w'=>x= .returned (.tuple #[])∧w'=w.setCell ⟨b,0,none⟩ (.int .i32 1):=by
 have hL:=lock57 hb hB h2 h0;have hL':=fx6 hL;clear hb hB hL;go_enter PV.func25,Tryz.ntmps25;go_wp2_with (first | (go_at_call 57;refine hL'.out.mono ?_;rintro e w1 ⟨rfl,rfl⟩))
 first | (go_end0;exact ⟨rfl,rfl⟩) | (refine f0q (f2g rfl _ _ _) rfl ?_;exact ⟨rfl,rfl⟩)
def fne (u:FrameMode) (hb:Base w) (hB:Bk w b t cs) (h2:2≤b) (h0:cs[0]? =some (.int .i32 1)):CallsD PV 26 #[.pointer (some ⟨b,0,none⟩)] u w fun x u' w'=>u'=u∧(x= .returned (.tuple #[])∧w'=w.setCell ⟨b,0,none⟩ (.int .i32 0)):=by
 have hL:=fvc hb hB h2 h0;have hL':=fx6 hL;clear hb hB hL
 go_enter_d PV.func26,Tryz.ntmps26
 go_wp2_with (first | (go_at_call 58;refine hL'.out.mono ?_;rintro e w1 ⟨rfl,rfl⟩))
 first | (go_end0;exact ⟨rfl,rfl⟩) | (refine f0q (f2g rfl _ _ _) rfl ?_;exact ⟨rfl,rfl⟩)
end
structure Marks (L:Lay) (n:Nat) (w:World):Prop where
 m0:MarkAt w L.c0
 ms: ∀ i,i<n→MarkAt w (L.wc i)
structure Ey (ow ow':Nat→Nat) (w w':World):Prop where
 ch:Ch (fun x=>ow x≠0) w w'
 own: ∀ x,x<w.heap.size→ow' x=ow x
section
variable {ow ow' ow2:Nat→Nat} {w w' w2:World} {E:Nat→Value}
def Ex.ey (h:Ex ow ow' w w'):Ey ow ow' w w':=⟨h.ch,h.own⟩
def Ey.rf:Ey ow ow w w:=⟨Ch.rf _ _,fun _ _=>rfl⟩
def Ey.tr (h:Ey ow ow' w w') (h2:Ey ow' ow2 w' w2):Ey ow ow2 w w2:=
 ⟨h.ch.tr h2.ch (fun x hx=>by
  rcases f01 x w.heap.size with h' | h'
  · exact .inl (by rw [← h.own x h'];exact hx)
  · exact .inr h'),
  fun x hx=>(h2.own x (f0f hx h.ch.size)).trans (h.own x hx)⟩
def Ey.bl (hb:Bl w w'):Ey ow ow w w':=(Ex.bl hb).ey
def Ey.of {K:Nat→Prop} (hC:Ch K w w') (hK: ∀ x,x<w.heap.size→K x→ow x≠0):Ey ow ow w w':=
 ⟨⟨hC.os,hC.tape,hC.output,hC.size,fun x hx hn=>hC.block x hx fun hk=>hn (hK x hx hk)⟩,fun _ _=>rfl⟩
def Errs.ey (h:Errs E w) (hx:Ey ow ow' w w') (hlo: ∀ x,x<12→ow x=0) (hsz:12≤w.heap.size):Errs E w':=
 ⟨fun i hi=>(f0h (a:=⟨i,0,none⟩) (hx.ch.block i fe (fun hn=>hn (hlo i hi)))).trans (h.at_ i hi),h.form⟩
def Bk.ey {g:Nat} {t:TypeId} {cs:Array Value} (h:Bk w g t cs) (hx:Ey ow ow' w w') (h0:ow g=0):Bk w' g t cs:=h.ch hx.ch (fun hn=>hn h0)
end
section
variable {L:Lay} {V:Vals} {S:Plain.Ses} {m:Int} {ow ow':Nat→Nat} {w w':World} {E:Nat→Value}
def Mem.mark (h:Mem L V S m ow w) {k:Nat} (hk:ow k=6∨ ∃ c,ow k=16*c+21) (hC:Ch (fun y=>y=k) w w') {a c d:Nat} {b:Array Value} {f g:Bool} (ho:w.heap[k]? =some (.chan a b f c d g)):Mem L V S m ow w':=by
 have t:=h.tag;have h12:12≤k:=t.ge fe
 have tg: ∀ x,(ow x≠6∧ ∀ c,ow x≠16*c+21)→ ¬ x=k:=fun x hx e=>by
    subst e;rcases hk with hk | ⟨c,hk⟩
    · exact hx.1 hk
    · exact hx.2 c hk
 have hT:NT (fun y=>y=k) w:=⟨fun v t hv x hx hk=>uz hv ho (fun _ _ _ e=>by cases e) x hx hk⟩
 exact ⟨h.base.ch hC fe fe,t,fun x hx=>h.fresh x (f08 hC.size hx),h.bb.ch hC (tg _ (by rw [t.b];exact ⟨by omega,fun c=>by omega⟩)),h.ss.ch hC (tg _ (by rw [t.sb];exact ⟨by omega,fun c=>by omega⟩)),h.ee.ch hC (tg _ (by rw [t.eb];exact ⟨by omega,fun c=>by omega⟩)),h.nn.ch hC (tg _ (by rw [t.nb];exact ⟨by omega,fun c=>by omega⟩)),h.mp.ch hC (tg _ (by rw [t.mb];exact ⟨by omega,fun c=>by omega⟩)),
    qx hC h.ar (fun x hx=>tg _ (by rw [t.ar x hx];exact ⟨by omega,fun c=>by omega⟩)),qx hC h.st (hT.out _ _ h.st),qx hC h.lg (fun x hx=>tg _ (by rw [t.lg x hx];exact ⟨by omega,fun c=>by omega⟩)),fun c hc=>(h.kk c hc).ch hC (tg _ (by rw [t.kb c hc];exact ⟨by omega,fun c=>by omega⟩)),fun c hc=>(h.up c hc).ch_ hC (tg _ (by rw [t.ul c hc];exact ⟨by omega,fun c=>by omega⟩)) (tg _ (by rw [t.uc c hc];exact ⟨by omega,fun c=>by omega⟩)),
    fun c hc=>(h.dn c hc).ch_ hC (tg _ (by rw [t.dl c hc];exact ⟨by omega,fun c=>by omega⟩)) (tg _ (by rw [t.dc c hc];exact ⟨by omega,fun c=>by omega⟩)),fun c hc=>qx hC (h.tx c hc) (hT.out _ _ (h.tx c hc)),fun c hc=>qx hC (h.rw c hc) (fun x hx=>tg _ (by rw [t.rv c hc x hx];exact ⟨by omega,fun c=>by omega⟩)),fun c hc=>qx hC (h.er c hc) (fun x hx=>tg _ (by rw [t.er c hc x hx];exact ⟨by omega,fun c=>by omega⟩))⟩
def Marks.get (h:Marks L S.n w) {k:Nat} (hk:k=L.c0∨ ∃ c,c<S.n∧k=L.wc c):MarkAt w k:=by
 rcases hk with rfl | ⟨c,hc,rfl⟩
 · exact h.m0
 · exact h.ms c hc
def Mem.mtag (h:Mem L V S m ow w) {k:Nat} (hk:k=L.c0∨ ∃ c,c<S.n∧k=L.wc c):ow k=6∨ ∃ c,ow k=16*c+21:=by
 rcases hk with rfl | ⟨c,hc,rfl⟩
 · exact .inl h.tag.c0
 · exact .inr ⟨c,h.tag.wc c hc⟩
def MarkAt.lt {k:Nat} (h:MarkAt w k):k<w.heap.size:=by
 obtain ⟨x,s,r,h⟩:=h;exact (fx5.1 h).1
def MarkAt.to {k:Nat} (h:MarkAt w k) (e:w'.heap[k]? =w.heap[k]?):MarkAt w' k:=by
 obtain ⟨x,s,r,h⟩:=h;exact ⟨x,s,r,e.trans h⟩
structure Done2 (L:Lay) (E:Nat→Value) (R:Nat×Plain.Ses) (m:Int) (ow:Nat→Nat) (w:World) (x:Ending) (w':World):Prop where
 out:x= .returned (errV E R.1)∧ ∃ V' ow',Mem L V' R.2 m ow' w'∧Marks L R.2.n w'∧Ey ow ow' w w'
def Done2.bl {R:Nat×Plain.Ses} {w1 w':World} {x:Ending} (hb:Bl w w1) (h:Done2 L E R m ow w1 x w'):Done2 L E R m ow w x w':=
 ⟨h.out.1,let ⟨V',ow',hM,hm,hE⟩:=h.out.2;⟨V',ow',hM,hm,(Ey.bl hb).tr hE⟩⟩
def fk0 (h:Mem L V S m ow w) (hM:Marks L S.n w) {k:Nat} (hk:k=L.c0∨ ∃ c,c<S.n∧k=L.wc c) (f:Nat) {fn:Func} (hfn:PV.funcs[f]? =some fn) (hnm:(fn.name== "runtime.NumGoroutine")=false) (hbd:fn.body.isNone=false) (bound free:Array Value) {R:Nat×Plain.Ses} (hRn:R.2.n=S.n)
    (hf: ∀ W,Mem L V S m ow W→Ch (fun y=>y=k) w W→Calls PV f (bound++ #[]++free) W (Done L E R m ow W)):
    Calls PV 46 #[.chan (some k),.func (.func f) bound free] w (Done2 L E R m ow w):=by
 have ht:=h.mtag hk;have hm:=hM.get hk;obtain ⟨x0,s0,r0,ho⟩:=id hm;refine (do_any k f hfn hnm hbd bound free w hm (R:=fun v w'=>v=errV E R.1∧ ∃ V' ow',Mem L V' R.2 m ow' w'∧Busy w' k∧ow' k=ow k∧(∀ j,(j=L.c0∨ ∃ c,c<S.n∧j=L.wc c)→j≠k→MarkAt w' j)∧Ey ow ow' w w') ?_).mono ?_
 · intro W hC hBy;refine (hf W (h.mark ht hC ho) hC).mono ?_;intro x w' hD;obtain ⟨rfl,V',ow',hM',hX⟩:=hD.out;have hlt:k<W.heap.size:=f0f hm.lt hC.size;have hb2:Busy w' k:=by
    obtain ⟨s,r,hb⟩:=hBy.at_;exact ⟨s,r,(hX.marks k hlt ht).trans hb⟩
   refine ⟨hb2,_,rfl,rfl,V',ow',hM',hb2,hX.own k hlt,fun j hj hne=> ?_,(Ey.of hC (fun y _ e=>by subst e;omega)).tr hX.ey⟩;have hj1:=hM.get hj;have hj2:=hC.block j hj1.lt hne;exact (hj1.to hj2).to (hX.marks j (f0f hj1.lt hC.size) (h.mtag hj))
 · rintro x w2 ⟨v,w',rfl,⟨rfl,V',ow',hM',hb,hok,hms,hE⟩,hmk,hC,hsz⟩;obtain ⟨s,r,hb⟩:=hb.at_;have hM2:=hM'.mark (by rw [hok];exact ht) hC hb;have hall: ∀ j,(j=L.c0∨ ∃ c,c<S.n∧j=L.wc c)→MarkAt w2 j:=fun j hj=>by
    by_cases e:j=k
    · subst e;exact hmk
    · exact (hms j hj e).to (hC.block j (hms j hj e).lt e)
   exact ⟨rfl,V',ow',hM2,⟨hall _ (.inl rfl),fun i hi=>hall _ (.inr ⟨i,by rw [← hRn];exact hi,rfl⟩)⟩,hE.tr (Ey.of hC (fun y _ e=>by subst e;omega))⟩
end
def fhh (r:Int) (w:World):Calls PV 45 #[.int .i32 r] w fun x w'=>x= .returned (.bool (Plain.validR r))∧w'=w:=by
 by_cases h1:0≤r <;>by_cases h2:r<55296 <;>by_cases h3:57343<r <;>by_cases h4:r≤1114111;all_goals first | (exfalso;omega) | skip
 all_goals
    go_enter PV.func45,Tryz.ntmps45;go_wp2;go_ret;exact ⟨by simp [Plain.validR,h1,h2,h3,h4],rfl⟩
section
variable {L:Lay} {V:Vals} {S:Plain.Ses} {ow:Nat→Nat} {w:World} {E:Nat→Value}
def fhi {S:Plain.Ses} {c:Nat} {k pos r:Int}:(Plain.change S c k pos r).2.n=S.n:=by
 unfold Plain.change;repeat' split
 all_goals rfl
def serve_n {S:Plain.Ses} {c:Nat}:(Plain.serve S c).2.n=S.n:=by
 unfold Plain.serve;split
 · rfl
 · split <;>rfl
def get_n {S:Plain.Ses} {c:Nat}:(Plain.get S c).2.n=S.n:=by
 unfold Plain.get;split <;>rfl
def e8 {m:Int} (h:Mem L V S m ow w) (hM:Marks L S.n w) (hE:Errs E w) {k:Nat} (hk:k=L.c0∨ ∃ c,c<S.n∧k=L.wc c) {W:World} (hC:Ch (fun y=>y=k) w W):Errs E W∧ ∀ g t cs,Bk w g t cs→Bk W g t cs:=by
 have ht:=h.mtag hk;have h12:12≤k:=h.tag.ge fe;obtain ⟨x,s,r,hm⟩:=hM.get hk;have hs:=h.size;refine ⟨⟨fun i hi=>(f0h (a:=⟨i,0,none⟩) (hC.block i fe fe)).trans (hE.at_ i hi),hE.form⟩,fun g t cs hg=>hg.ch hC (fun e=> ?_)⟩;have:=hg.at_;rw [e,hm] at this;cases this
def Errs.bl {W:World} (hE:Errs E w) (hs:12≤w.heap.size) (hb:Bl w W):Errs E W:=⟨fun i hi=>(f0h (a:=⟨i,0,none⟩) (hb.block i fe)).trans (hE.at_ i hi),hE.form⟩
def Marks.bl {n:Nat} {W:World} (hM:Marks L n w) (hb:Bl w W):Marks L n W:=⟨hM.m0.to (hb.block _ hM.m0.lt),fun i hi=>(hM.ms i hi).to (hb.block _ (hM.ms i hi).lt)⟩
def fvd (h:Mem L V S 1 ow w) (hM:Marks L S.n w) (hG:Plain.Good S) (hB:Plain.Bnd S) (hE:Errs E w) {c:Nat} (hc:c<S.n) (pos:Int) (bs:Nat) (ba:Nat) (hbs:Bk w bs 26 #[.pointer (some ⟨L.b,0,none⟩)]) (hba:Bk w ba 3 #[.int .i64 pos]):
    Calls PV 49 #[.pointer (some ⟨L.kb c,0,none⟩),.pointer (some ⟨bs,0,none⟩),.pointer (some ⟨ba,0,none⟩)] w (Done2 L E (Plain.change S c 2 pos 0) 1 ow w):=by
 have hb1:Bl w (w.alloc (.cells #[.pointer (some ⟨L.kb c,0,none⟩)] 83)):=(Bl.rf _).al _;have hkk:Bk (w.alloc (.cells #[.pointer (some ⟨L.kb c,0,none⟩)] 83)) (L.kb c) 89 #[.int .i64 (c:Int),V.tv c,.int .i64 (S.cl c).cur,.int .i64 (S.cl c).en.mine,.int .i64 (S.cl c).en.other,.int .i64 (S.cl c).en.acked,V.rv c,.pointer (some ⟨L.ul c,0,none⟩),.pointer (some ⟨L.dl c,0,none⟩),.int .i64 (S.cl c).typed,.chan (some (L.wc c))]:=((h.kk c hc).al _);obtain ⟨ck,dk⟩:=hkk.ceF
 have hD:=fx6 (fk0 (h.bl hb1) (hM.bl hb1) (k:=L.wc c) (.inr ⟨c,hc,rfl⟩) 50 PV.func50 fd fd #[] #[.pointer (some ⟨bs,0,none⟩),.pointer (some ⟨w.heap.size,0,none⟩),.pointer (some ⟨ba,0,none⟩)] (R:=Plain.change S c 2 pos 0) fhi (fun W hW hC=>by
    have hK:=e8 (h.bl hb1) (hM.bl hb1) (hE.bl h.size hb1) (k:=L.wc c) (.inr ⟨c,hc,rfl⟩) hC;exact clo_del hW hG hB hK.1 hc pos bs w.heap.size ba (hK.2 _ _ _ (hbs.al _)) (hK.2 _ _ _ (Bk.nw rfl)) (hK.2 _ _ _ (hba.al _))))
 have hh:=fx6 h;have hMM:=fx6 hM;clear h hM hG hB hE hkk;go_enter PV.func49,Tryz.ntmps49;go_wp2_with (first | (go_at_call 46;refine hD.out.mono ?_;rintro e w3 gD;obtain ⟨rfl,gD2⟩:=gD.out));go_ret;exact Done2.bl hb1 ⟨rfl,gD2⟩
def fve (h:Mem L V S 1 ow w) (hM:Marks L S.n w) (hG:Plain.Good S) (hB:Plain.Bnd S) (hE:Errs E w) {c:Nat} (hc:c<S.n) (pos:Int) (bs:Nat) (ba:Nat) (hbs:Bk w bs 26 #[.pointer (some ⟨L.b,0,none⟩)]) (hba:Bk w ba 3 #[.int .i64 pos]):
    Calls PV 51 #[.pointer (some ⟨L.kb c,0,none⟩),.pointer (some ⟨bs,0,none⟩),.pointer (some ⟨ba,0,none⟩)] w (Done2 L E (Plain.change S c 3 pos 0) 1 ow w):=by
 have hb1:Bl w (w.alloc (.cells #[.pointer (some ⟨L.kb c,0,none⟩)] 83)):=(Bl.rf _).al _;have hkk:Bk (w.alloc (.cells #[.pointer (some ⟨L.kb c,0,none⟩)] 83)) (L.kb c) 89 #[.int .i64 (c:Int),V.tv c,.int .i64 (S.cl c).cur,.int .i64 (S.cl c).en.mine,.int .i64 (S.cl c).en.other,.int .i64 (S.cl c).en.acked,V.rv c,.pointer (some ⟨L.ul c,0,none⟩),.pointer (some ⟨L.dl c,0,none⟩),.int .i64 (S.cl c).typed,.chan (some (L.wc c))]:=((h.kk c hc).al _);obtain ⟨ck,dk⟩:=hkk.ceF
 have hD:=fx6 (fk0 (h.bl hb1) (hM.bl hb1) (k:=L.wc c) (.inr ⟨c,hc,rfl⟩) 52 PV.func52 fd fd #[] #[.pointer (some ⟨bs,0,none⟩),.pointer (some ⟨w.heap.size,0,none⟩),.pointer (some ⟨ba,0,none⟩)] (R:=Plain.change S c 3 pos 0) fhi (fun W hW hC=>by
    have hK:=e8 (h.bl hb1) (hM.bl hb1) (hE.bl h.size hb1) (k:=L.wc c) (.inr ⟨c,hc,rfl⟩) hC;exact clo_mov hW hG hB hK.1 hc pos bs w.heap.size ba (hK.2 _ _ _ (hbs.al _)) (hK.2 _ _ _ (Bk.nw rfl)) (hK.2 _ _ _ (hba.al _))))
 have hh:=fx6 h;have hMM:=fx6 hM;clear h hM hG hB hE hkk;go_enter PV.func51,Tryz.ntmps51;go_wp2_with (first | (go_at_call 46;refine hD.out.mono ?_;rintro e w3 gD;obtain ⟨rfl,gD2⟩:=gD.out));go_ret;exact Done2.bl hb1 ⟨rfl,gD2⟩
def fvf (h:Mem L V S 1 ow w) (hM:Marks L S.n w) (hG:Plain.Good S) (hB:Plain.Bnd S) (hE:Errs E w) {c:Nat} (hc:c<S.n) (pos:Int) (r:Int) (br:Nat) (bs:Nat) (ba:Nat) (hbr:Bk w br 21 #[.int .i32 r]) (hbs:Bk w bs 26 #[.pointer (some ⟨L.b,0,none⟩)]) (hba:Bk w ba 3 #[.int .i64 pos]):
    Calls PV 44 #[.pointer (some ⟨L.kb c,0,none⟩),.pointer (some ⟨br,0,none⟩),.pointer (some ⟨bs,0,none⟩),.pointer (some ⟨ba,0,none⟩)] w (Done2 L E (if Plain.validR r then Plain.change S c 1 pos r else (3,S)) 1 ow w):=by
 have h1:=hE.at_ 1 fe;have h1':(w.alloc (.cells #[.pointer (some ⟨L.kb c,0,none⟩)] 83)).cell? ⟨1,0,none⟩=some (E 1):=(f0h (a:=⟨1,0,none⟩) (f14 w _ 1 qi)).trans h1;obtain ⟨cr0,dr0⟩:=(hbr.al (.cells #[.pointer (some ⟨L.kb c,0,none⟩)] 83)).ceF;have hV:=fx6 (fun W=>fhh r W);have hb1:Bl w (w.alloc (.cells #[.pointer (some ⟨L.kb c,0,none⟩)] 83)):=(Bl.rf _).al _;have hkk:Bk (w.alloc (.cells #[.pointer (some ⟨L.kb c,0,none⟩)] 83)) (L.kb c) 89 #[.int .i64 (c:Int),V.tv c,.int .i64 (S.cl c).cur,.int .i64 (S.cl c).en.mine,.int .i64 (S.cl c).en.other,.int .i64 (S.cl c).en.acked,V.rv c,.pointer (some ⟨L.ul c,0,none⟩),.pointer (some ⟨L.dl c,0,none⟩),.int .i64 (S.cl c).typed,.chan (some (L.wc c))]:=((h.kk c hc).al _);obtain ⟨ck,dk⟩:=hkk.ceF
 have hD:=fx6 (fk0 (h.bl hb1) (hM.bl hb1) (k:=L.wc c) (.inr ⟨c,hc,rfl⟩) 47 PV.func47 fd fd #[] #[.pointer (some ⟨bs,0,none⟩),.pointer (some ⟨w.heap.size,0,none⟩),.pointer (some ⟨ba,0,none⟩),.pointer (some ⟨br,0,none⟩)] (R:=Plain.change S c 1 pos r) fhi (fun W hW hC=>by
    have hK:=e8 (h.bl hb1) (hM.bl hb1) (hE.bl h.size hb1) (k:=L.wc c) (.inr ⟨c,hc,rfl⟩) hC;exact clo_ins hW hG hB hK.1 hc pos r bs w.heap.size ba br (hK.2 _ _ _ (hbs.al _)) (hK.2 _ _ _ (Bk.nw rfl)) (hK.2 _ _ _ (hba.al _)) (hK.2 _ _ _ (hbr.al _))))
 have hh:=fx6 h;have hMM:=fx6 hM;clear h hM hG hB hE hkk;by_cases hv:Plain.validR r=true
 · rw [f02 hv];go_enter PV.func44,Tryz.ntmps44;go_wp2_with (first | (go_at_call 45;refine (hV.out _).mono ?_;rintro e w1 ⟨rfl,rfl⟩;rw [hv]) | (go_at_call 46;refine hD.out.mono ?_;rintro e w3 gD;obtain ⟨rfl,gD2⟩:=gD.out));go_ret;exact Done2.bl hb1 ⟨rfl,gD2⟩
 · have hv':Plain.validR r=false:=by simpa using hv
   rw [fx9 hv];clear hv;go_enter PV.func44,Tryz.ntmps44;go_wp2_with (first | (go_at_call 45;refine (hV.out _).mono ?_;rintro e w1 ⟨rfl,rfl⟩;rw [hv']));go_ret;exact Done2.bl hb1 ⟨rfl,V,ow,hh.out.bl hb1,hMM.out.bl hb1,Ey.rf⟩
def call_up (h:Mem L V S 1 ow w) (hM:Marks L S.n w) (hG:Plain.Good S) (hB:Plain.Bnd S) (hE:Errs E w) {c:Nat} (hc:c<S.n) (bu bs:Nat) (hbu:Bk w bu 4 #[.bool true]) (hbs:Bk w bs 26 #[.pointer (some ⟨L.b,0,none⟩)]):
    Calls PV 53 #[.pointer (some ⟨L.kb c,0,none⟩),.pointer (some ⟨bu,0,none⟩),.pointer (some ⟨bs,0,none⟩)] w (Done2 L E (Plain.serve S c) 1 ow w):=by
 have hb1:Bl w (w.alloc (.cells #[.pointer (some ⟨L.kb c,0,none⟩)] 83)):=(Bl.rf _).al _;have hkk:Bk (w.alloc (.cells #[.pointer (some ⟨L.kb c,0,none⟩)] 83)) (L.kb c) 89 #[.int .i64 (c:Int),V.tv c,.int .i64 (S.cl c).cur,.int .i64 (S.cl c).en.mine,.int .i64 (S.cl c).en.other,.int .i64 (S.cl c).en.acked,V.rv c,.pointer (some ⟨L.ul c,0,none⟩),.pointer (some ⟨L.dl c,0,none⟩),.int .i64 (S.cl c).typed,.chan (some (L.wc c))]:=((h.kk c hc).al _);obtain ⟨ck,dk⟩:=hkk.ceF;have hbx:Bk (w.alloc (.cells #[.pointer (some ⟨L.kb c,0,none⟩)] 83)) w.heap.size 83 #[.pointer (some ⟨L.kb c,0,none⟩)]:=Bk.nw rfl;obtain ⟨cu,du⟩:=(hbu.al (.cells #[.pointer (some ⟨L.kb c,0,none⟩)] 83)).ceF;obtain ⟨cs,ds⟩:=(hbs.al (.cells #[.pointer (some ⟨L.kb c,0,none⟩)] 83)).ceF;obtain ⟨cb,db⟩:=(h.bb.al (.cells #[.pointer (some ⟨L.kb c,0,none⟩)] 83)).ceF;obtain ⟨cv,dv⟩:=(h.ss.al (.cells #[.pointer (some ⟨L.kb c,0,none⟩)] 83)).ceF
 have hD:=fx6 (fk0 (h.bl hb1) (hM.bl hb1) (k:=L.c0) (.inl rfl) 54 PV.func54 fd fd #[] #[.pointer (some ⟨bs,0,none⟩),.pointer (some ⟨w.heap.size,0,none⟩)] (R:=Plain.serve S c) serve_n (fun W hW hC=>by
    have hK:=e8 (h.bl hb1) (hM.bl hb1) (hE.bl h.size hb1) (k:=L.c0) (.inl rfl) hC;exact clo_up hW hG hB hK.1 hc bs w.heap.size (hK.2 _ _ _ (hbs.al _)) (hK.2 _ _ _ hbx)))
 clear h hM hG hB hE hkk hbx;go_enter PV.func53,Tryz.ntmps53;go_wp2_with (first | (go_at_call 46;refine hD.out.mono ?_;rintro e w3 gD;obtain ⟨rfl,gD2⟩:=gD.out));go_ret;exact Done2.bl hb1 ⟨rfl,gD2⟩
def fsr (h:Mem L V S 1 ow w) (hM:Marks L S.n w) (hG:Plain.Good S) (hB:Plain.Bnd S) (hE:Errs E w) {c:Nat} (hc:c<S.n) (bu bs:Nat) (hbu:Bk w bu 4 #[.bool false]):
    Calls PV 53 #[.pointer (some ⟨L.kb c,0,none⟩),.pointer (some ⟨bu,0,none⟩),.pointer (some ⟨bs,0,none⟩)] w (Done2 L E (Plain.get S c) 1 ow w):=by
 have hb1:Bl w (w.alloc (.cells #[.pointer (some ⟨L.kb c,0,none⟩)] 83)):=(Bl.rf _).al _;have hkk:Bk (w.alloc (.cells #[.pointer (some ⟨L.kb c,0,none⟩)] 83)) (L.kb c) 89 #[.int .i64 (c:Int),V.tv c,.int .i64 (S.cl c).cur,.int .i64 (S.cl c).en.mine,.int .i64 (S.cl c).en.other,.int .i64 (S.cl c).en.acked,V.rv c,.pointer (some ⟨L.ul c,0,none⟩),.pointer (some ⟨L.dl c,0,none⟩),.int .i64 (S.cl c).typed,.chan (some (L.wc c))]:=((h.kk c hc).al _);obtain ⟨ck,dk⟩:=hkk.ceF;have hbx:Bk (w.alloc (.cells #[.pointer (some ⟨L.kb c,0,none⟩)] 83)) w.heap.size 83 #[.pointer (some ⟨L.kb c,0,none⟩)]:=Bk.nw rfl;obtain ⟨cu,du⟩:=(hbu.al (.cells #[.pointer (some ⟨L.kb c,0,none⟩)] 83)).ceF
 have hD:=fx6 (fun W0 (hW0:Bl w W0)=>fk0 (h.bl hW0) (hM.bl hW0) (k:=L.wc c) (.inr ⟨c,hc,rfl⟩) 56 PV.func56 fd fd #[.pointer (some ⟨L.kb c,0,none⟩)] #[] (R:=Plain.get S c) get_n (fun W hW hC=>by
    have hK:=e8 (h.bl hW0) (hM.bl hW0) (hE.bl h.size hW0) (k:=L.wc c) (.inr ⟨c,hc,rfl⟩) hC;exact (mem_get hW hG hB hK.1 hc).mono fun x w' hx=>⟨hx⟩))
 clear h hM hG hB hE;go_enter PV.func53,Tryz.ntmps53;go_upto_region 3 with fail
 refine rn (sel [fun w'=>Bk w' w.heap.size 83 #[.pointer (some ⟨L.kb c,0,none⟩)],fun w'=>Bk w' (L.kb c) 89 #[.int .i64 (c:Int),V.tv c,.int .i64 (S.cl c).cur,.int .i64 (S.cl c).en.mine,.int .i64 (S.cl c).en.other,.int .i64 (S.cl c).en.acked,V.rv c,.pointer (some ⟨L.ul c,0,none⟩),.pointer (some ⟨L.dl c,0,none⟩),.int .i64 (S.cl c).typed,.chan (some (L.wc c))]]) [(.h 0,0),(.h 9,1),(.h 9,2),(.h 1,3),(.h 0,4),(.h 9,5),(.c [9],6),(.h 9,7)] fd fd (qy (Bk.dr hbx) (qy (Bk.dr hkk) (fun _=>un))) ?_;simp only [vg,fy9,fz4,fz3,fy2,fx7,fy0];iterate 6 (refine oH ?_;try simp only [aps])
 (refine rx (fun K hK=> ?_);go_simp;go_at_call 46;refine (hD.out _ ga).mono ?_;rintro e w3 gD;obtain ⟨rfl,gD2⟩:=gD.out;refine hK _ _ (rh trivial ry) ?_;clear hK K;try simp only [aps])
 (refine oH ?_;try simp only [aps]);refine ub ?_;go_wp2;go_ret;exact Done2.bl hb1.dr ⟨rfl,gD2⟩
end
def fhj: ∃ m,PV.underlying 49=some (.interface m):=⟨_,Tryz.underlying49⟩
def lx (t:TypeId) (v:Value) (w:World):(binOp .neq 49 (.iface t v) .nilIface).run PV w= .ok (.bool true) w:=by
 obtain ⟨m,hu⟩:=fhj
 have h: ∀ d:Nat,(Op.equalIn (d+1) 49 (.iface t v) .nilIface).run PV w= .ok false w:=fun d=>by
    simp [Op.equalIn,f1l hu]
 simp only [binOp];simp [Op.equal,Op.maxDepth,h 9999]
def fhk (t:TypeId) (v:Value) (w:World):(binOp .eql 49 (.iface t v) .nilIface).run PV w= .ok (.bool false) w:=by
 obtain ⟨m,hu⟩:=fhj
 have h: ∀ d:Nat,(Op.equalIn (d+1) 49 (.iface t v) .nilIface).run PV w= .ok false w:=fun d=>by
    simp [Op.equalIn,f1l hu]
 simp only [binOp];simp [Op.equal,Op.maxDepth,h 9999]
def fco (w:World):(binOp .neq 49 .nilIface .nilIface).run PV w= .ok (.bool false) w:=by
 obtain ⟨m,hu⟩:=fhj
 have h: ∀ d:Nat,(Op.equalIn (d+1) 49 .nilIface .nilIface).run PV w= .ok true w:=fun d=>by
    simp [Op.equalIn,f1l hu]
 simp only [binOp];simp [Op.equal,Op.maxDepth,h 9999]
def fvg (w:World):(binOp .eql 49 .nilIface .nilIface).run PV w= .ok (.bool true) w:=by
 obtain ⟨m,hu⟩:=fhj
 have h: ∀ d:Nat,(Op.equalIn (d+1) 49 .nilIface .nilIface).run PV w= .ok true w:=fun d=>by
    simp [Op.equalIn,f1l hu]
 simp only [binOp];simp [Op.equal,Op.maxDepth,h 9999]
section
variable {L:Lay} {V:Vals} {S:Plain.Ses} {m:Int} {ow ow':Nat→Nat} {w w':World} {E:Nat→Value}
def fhl (h:Mem L V S m ow w) (m':Int): ∃ ow',Mem L V S m' ow' (w.setCell ⟨L.b,0,none⟩ (.int .i32 m'))∧Ex ow ow' w (w.setCell ⟨L.b,0,none⟩ (.int .i32 m'))∧Ch (fun x=>x=L.b) w (w.setCell ⟨L.b,0,none⟩ (.int .i32 m')):=by
 have hC:Ch (fun x=>x=L.b) w (w.setCell ⟨L.b,0,none⟩ (.int .i32 m')):=(Ch.rf (fun x=>x=L.b) _).st (.inl rfl) _;obtain ⟨ow',hM,ho⟩:=h.lock_ m' hC (fun x _ hx=>by subst hx;exact h.tag.b) ⟨fun u t hu x hx hk=>rp hu h.bb fu x hx hk⟩ ((h.bb.st _).cv fi);exact ⟨ow',hM,Ex.of hC ho (fun x _ hx=>by subst hx;rw [h.tag.b];refine ⟨by omega,by omega,fun c'=>by omega⟩),hC⟩
def Marks.ex {n:Nat} (hM:Marks L n w) (hT:Mem L V S m ow w) (hn:n=S.n) (hE:Ex ow ow' w w'):Marks L n w':=
 ⟨hM.m0.to (hE.marks _ hM.m0.lt (.inl hT.tag.c0)),fun i hi=>(hM.ms i hi).to (hE.marks _ (hM.ms i hi).lt (.inr ⟨i,hT.tag.wc i (hn▸hi)⟩))⟩
structure fk1 (L:Lay) (V:Vals) (S:Plain.Ses) (E:Nat→Value) (ow:Nat→Nat) (w:World) (w':World) (ow':Nat→Nat):Prop where
 mem:Mem L V S 1 ow' w'
 marks:Marks L S.n w'
 errs:Errs E w'
 ex:Ex ow ow' w w'
 ch:Ch (fun x=>x=L.b) w w'
def wd (h:Mem L V S 0 ow w) (hM:Marks L S.n w) (hE:Errs E w):Calls PV 25 #[.pointer (some ⟨L.b,0,none⟩)] w fun x w'=>x= .returned (.tuple #[])∧ ∃ ow',fk1 L V S E ow w w' ow':=by
 refine (lock25 h.base h.bb kh rfl).mono ?_;rintro x w' ⟨rfl,rfl⟩;obtain ⟨ow',h1,h2,h3⟩:=fhl h 1;exact ⟨rfl,ow',h1,hM.ex h rfl h2,hE.ex h2 h.tag.lo h.size,h2,h3⟩
def vk (h:Mem L V S 1 ow w) (u:FrameMode):CallsD PV 26 #[.pointer (some ⟨L.b,0,none⟩)] u w fun x u' w'=>u'=u∧(x= .returned (.tuple #[])∧ ∃ ow',Mem L V S 0 ow' w'∧Ex ow ow' w w'):=by
 refine (fne u h.base h.bb kh rfl).mono ?_;rintro x u' w' ⟨rfl,rfl,rfl⟩;obtain ⟨ow',h1,h2,_⟩:=fhl h 0;exact ⟨rfl,rfl,ow',h1,h2⟩
structure CallEnd (L:Lay) (E:Nat→Value) (nm:ByteArray) (c:Int) (R:Nat×Plain.Ses) (ow:Nat→Nat) (w:World) (x:Ending) (w':World):Prop where
 out: ∃ V' ow',Mem L V' R.2 0 ow' w'∧Marks L R.2.n w'∧Ey ow ow' w w'∧((R.1=0∧x= .returned .nilIface)∨(R.1≠0∧ ∃ g,x= .returned (.iface 111 (.pointer (some ⟨g,0,none⟩)))∧Bk w' g 115 #[.string nm,.int .i64 c,E (fhf R.1)]∧ow' g=0))
def CallEnd.bl {nm:ByteArray} {c:Int} {R:Nat×Plain.Ses} {w1:World} {x:Ending} (hb:Bl w w1) (h:CallEnd L E nm c R ow w1 x w'):CallEnd L E nm c R ow w x w':=
 ⟨let ⟨V',ow',hM,hm,hE,h'⟩:=h.out;⟨V',ow',hM,hm,(Ey.bl hb).tr hE,h'⟩⟩
def fnf {k:Nat} (h:k≤7):fhf k<12∧fhf k≠2:=by
 unfold fhf;split
 · omega
 · split <;>omega
def fag (hE:Errs E w) {k:Nat} (h0:k≠0) (h:k≤7): ∃ t v,errV E k= .iface t v∧E (fhf k)= .iface t v:=by
 obtain ⟨t,v,e⟩:=hE.form _ (fnf h).1 (fnf h).2;exact ⟨t,v,by unfold errV;rw [fx9 h0,e],e⟩
def f2b {K:Nat} (hK: ∀ (x:Array Value) (W:World),(callFunc K x).run PV W= .ok (.enter K x) W) (fs:Array Value) (h:Mem L V S 0 ow w) (hM:Marks L S.n w) (hE:Errs E w) (nm:ByteArray) {i:Nat} (hi:i<S.n) (hn6:S.n≤6) {R:Nat×Plain.Ses} (hR:R.1≤7)
    (hf: ∀ W ow1,fk1 L V S E ow w W ow1→Calls PV K (#[.pointer (some ⟨L.kb i,0,none⟩)]++fs) W (Done2 L E R 1 ow1 W)):
    Calls PV 43 #[.pointer (some ⟨L.b,0,none⟩),.string nm,.int .i64 (i:Int),.func (.func K) #[] fs] w (CallEnd L E nm i R ow w):=by
 obtain ⟨ab,cap,ecls,_⟩:=h.cls_ fe;have hin:(i:Int)<(S.n:Int):=by omega
 have hz:((i:Int)<0)=False:=by simp
 have hLk:=fx6 (wd h hM hE);have hF:=fx6 hf;have hform:=fx6 (fun k h0 hk=>fag hE (k:=k) h0 hk);clear h hM hE hf;by_cases h0:R.1=0
 · have e0:errV E R.1= .nilIface:=by unfold errV;rw [f02 h0]
   have hcmp:=fun w=>fco w
   go_enter_defers PV.func43,Tryz.ntmps43
   go_wp2_with (first | (go_at_call 25;refine hLk.out.mono ?_;rintro e w1 ⟨rfl,ow1,g1⟩;obtain ⟨cB,dB⟩:=g1.mem.bb.ceF;simp only [sesC,ecls] at cB;have h11:=g1.errs.at_ 11 fe;have hci:=g1.mem.cls_at ecls i hi;have hFF:=fx6 (hF.out _ _ g1);replace g1:=fx6 g1) | (refine hFF.out.mono ?_;rintro e w3 gD;obtain ⟨rfl,gD2⟩:=gD.out;obtain ⟨V3,ow3,gM3,gK3,gY3⟩:=gD2;rw [e0];replace gM3:=fx6 gM3));refine f1p (f:=26) (args:= #[.pointer (some ⟨L.b,0,none⟩)]) fi jg ?_;refine (vk gM3.out .returning).mono ?_;rintro e u' w4 ⟨rfl,rfl,ow4,gM4,gX4⟩;exact ⟨_,f0x rfl _ _ _,V3,ow4,gM4,gK3.ex gM3.out rfl gX4,(g1.out.ex.ey.tr gY3).tr gX4.ey,.inl ⟨h0,rfl⟩⟩
 · obtain ⟨t,v,e0,e1⟩:=hform.out _ h0 hR;have hcmp:=fun w=>lx t v w
   go_enter_defers PV.func43,Tryz.ntmps43
   go_wp2_with (first | (go_at_call 25;refine hLk.out.mono ?_;rintro e w1 ⟨rfl,ow1,g1⟩;obtain ⟨cB,dB⟩:=g1.mem.bb.ceF;simp only [sesC,ecls] at cB;have h11:=g1.errs.at_ 11 fe;have hci:=g1.mem.cls_at ecls i hi;have hFF:=fx6 (hF.out _ _ g1);replace g1:=fx6 g1) | (refine hFF.out.mono ?_;rintro e w3 gD;obtain ⟨rfl,gD2⟩:=gD.out;obtain ⟨V3,ow3,gM3,gK3,gY3⟩:=gD2;rw [e0];replace gM3:=fx6 gM3));refine f1p (f:=26) (args:= #[.pointer (some ⟨L.b,0,none⟩)]) fi jg ?_;have hb3:Bl w3 (w3.alloc (.cells #[.string nm,.int .i64 (i:Int),.iface t v] 115)):=(Bl.rf _).al _;refine (vk (gM3.out.bl hb3) .returning).mono ?_;rintro e u' w4 ⟨rfl,rfl,ow4,gM4,gX4⟩;have gB:=Bk.nw (w:=w3) (t:=115) (cs:= #[.string nm,.int .i64 (i:Int),.iface t v]) rfl;have g0:=gM3.out.fresh w3.heap.size (fx8 _);exact ⟨_,f0x rfl _ _ _,V3,ow4,gM4,(gK3.bl hb3).ex (gM3.out.bl hb3) rfl gX4,((g1.out.ex.ey.tr gY3).tr (Ey.bl hb3)).tr gX4.ey,.inr ⟨h0,_,rfl,by rw [e1];exact gB.ch gX4.ch (fun hn=>hn g0),(gX4.own _ gB.lt).trans g0⟩⟩
def f1b (fv:Value) (h:Mem L V S 0 ow w) (hM:Marks L S.n w) (hE:Errs E w) (nm:ByteArray) {c:Int} (hc:c<0∨(S.n:Int)≤c) (hn1:1≤S.n) (hn6:S.n≤6):
    Calls PV 43 #[.pointer (some ⟨L.b,0,none⟩),.string nm,.int .i64 c,fv] w (CallEnd L E nm c (2,S) ow w):=by
 obtain ⟨ab,cap,ecls,_⟩:=h.cls_ hn1;have hLk:=fx6 (wd h hM hE);obtain ⟨t,v,e1⟩:=hE.form 3 fe fe;have hcmp:=fun w=>lx t v w;clear h hM hE;by_cases hc0:c<0
 all_goals
    have hcx:decide (c<0)=decide (c<0):=rfl;try (have hcn:(S.n:Int)≤c:=by omega)
    go_enter_defers PV.func43,Tryz.ntmps43
    go_wp2_with (first | (go_at_call 25;refine hLk.out.mono ?_;rintro e w1 ⟨rfl,ow1,g1⟩;obtain ⟨cB,dB⟩:=g1.mem.bb.ceF;simp only [sesC,ecls] at cB;have h11:=g1.errs.at_ 11 fe;have h3:=g1.errs.at_ 3 fe;rw [e1] at h3;replace g1:=fx6 g1));refine f1p (f:=26) (args:= #[.pointer (some ⟨L.b,0,none⟩)]) fi jg ?_;have hb3:Bl w1 (w1.alloc (.cells #[.string nm,.int .i64 c,.iface t v] 115)):=(Bl.rf _).al _;refine (vk (g1.out.mem.bl hb3) .returning).mono ?_;rintro e u' w4 ⟨rfl,rfl,ow4,gM4,gX4⟩;have gB:=Bk.nw (w:=w1) (t:=115) (cs:= #[.string nm,.int .i64 c,.iface t v]) rfl;have g0:=g1.out.mem.fresh w1.heap.size (fx8 _);exact ⟨_,f0x rfl _ _ _,V,ow4,gM4,(g1.out.marks.bl hb3).ex (g1.out.mem.bl hb3) rfl gX4,(g1.out.ex.ey.tr (Ey.bl hb3)).tr gX4.ey,.inr ⟨pt,_,rfl,by show Bk _ _ _ #[_,_,E 3];rw [e1];exact gB.ch gX4.ch (fun hn=>hn g0),(gX4.own _ gB.lt).trans g0⟩⟩
end
def e9 {S:Plain.Ses} {c:Nat} {k pos r:Int}:(Plain.change S c k pos r).1≤7:=by
 unfold Plain.change;repeat' split
 all_goals (simp only [];omega)
def fng {S:Plain.Ses} {c:Nat}:(Plain.serve S c).1≤7:=by
 unfold Plain.serve;split
 · simp
 · split <;>simp
def fwb {S:Plain.Ses} {c:Nat}:(Plain.get S c).1≤7:=by
 unfold Plain.get;split <;>simp
def ins_le {S:Plain.Ses} {c:Nat} {pos r:Int}:(if Plain.validR r then Plain.change S c 1 pos r else (3,S)).1≤7:=by
 split
 · exact e9
 · simp
section
variable {L:Lay} {V:Vals} {S:Plain.Ses} {ow:Nat→Nat} {w:World} {E:Nat→Value}
def fp3 (h:Mem L V S 0 ow w) (hM:Marks L S.n w) (hG:Plain.Good S) (hB:Plain.Bnd S) (hE:Errs E w) (c pos r:Int):
    Calls PV 21 #[.pointer (some ⟨L.b,0,none⟩),.int .i64 c,.int .i64 pos,.int .i32 r] w (CallEnd L E ⟨#[73,110,115,101,114,116]⟩ c (Plain.call S 1 c pos r) ow w):=by
 have hbl:=h.bb.lt;have hb3:Bl w (((w.alloc (.cells #[.pointer (some ⟨L.b,0,none⟩)] 26)).alloc (.cells #[.int .i64 pos] 3)).alloc (.cells #[.int .i32 r] 21)):=(((Bl.rf _).al _).al _).al _;have hlk:=fx6 (fun (W:World) (x t:Nat) (cs:Array Value) (hx:Bk (((w.alloc (.cells #[.pointer (some ⟨L.b,0,none⟩)] 26)).alloc (.cells #[.int .i64 pos] 3)).alloc (.cells #[.int .i32 r] 21)) x t cs) (hge:w.heap.size≤x) (hC:Ch (fun y=>y=L.b) (((w.alloc (.cells #[.pointer (some ⟨L.b,0,none⟩)] 26)).alloc (.cells #[.int .i64 pos] 3)).alloc (.cells #[.int .i32 r] 21)) W)=>hx.ch hC (fun e=>by omega));have x0:Bk (((w.alloc (.cells #[.pointer (some ⟨L.b,0,none⟩)] 26)).alloc (.cells #[.int .i64 pos] 3)).alloc (.cells #[.int .i32 r] 21)) (w.heap.size) 26 #[.pointer (some ⟨L.b,0,none⟩)]:=(Bk.al (Bk.al (Bk.nw (w:=w) (t:=26) (cs:= #[.pointer (some ⟨L.b,0,none⟩)]) fi) _) _);have x1:Bk (((w.alloc (.cells #[.pointer (some ⟨L.b,0,none⟩)] 26)).alloc (.cells #[.int .i64 pos] 3)).alloc (.cells #[.int .i32 r] 21)) (w.heap.size+1) 3 #[.int .i64 pos]:=(Bk.al (Bk.nw (w:=(w.alloc (.cells #[.pointer (some ⟨L.b,0,none⟩)] 26))) (t:=3) (cs:= #[.int .i64 pos]) fi) _);have x2:Bk (((w.alloc (.cells #[.pointer (some ⟨L.b,0,none⟩)] 26)).alloc (.cells #[.int .i64 pos] 3)).alloc (.cells #[.int .i32 r] 21)) (w.heap.size+1+1) 21 #[.int .i32 r]:=(Bk.nw (w:=((w.alloc (.cells #[.pointer (some ⟨L.b,0,none⟩)] 26)).alloc (.cells #[.int .i64 pos] 3))) (t:=21) (cs:= #[.int .i32 r]) fi);obtain ⟨c0,d0⟩:=x0.ceF;have hn1:=hG.n0;have hn6:=hG.n6
 have hK:RowKit.Hid (Calls PV 43 #[.pointer (some ⟨L.b,0,none⟩),.string ⟨#[73,110,115,101,114,116]⟩,.int .i64 c,.func (.func 44) #[] #[.pointer (some ⟨w.heap.size+1+1,0,none⟩),.pointer (some ⟨w.heap.size,0,none⟩),.pointer (some ⟨w.heap.size+1,0,none⟩)]] (((w.alloc (.cells #[.pointer (some ⟨L.b,0,none⟩)] 26)).alloc (.cells #[.int .i64 pos] 3)).alloc (.cells #[.int .i32 r] 21)) (CallEnd L E ⟨#[73,110,115,101,114,116]⟩ c (Plain.call S 1 c pos r) ow (((w.alloc (.cells #[.pointer (some ⟨L.b,0,none⟩)] 26)).alloc (.cells #[.int .i64 pos] 3)).alloc (.cells #[.int .i32 r] 21)))):=by
    by_cases hc:c<0∨(S.n:Int)≤c
    · have e:Plain.call S 1 c pos r=(2,S):=by unfold Plain.call;rw [f02 hc]
      rw [e];exact fx6 (f1b _ (h.bl hb3) (hM.bl hb3) (hE.bl h.size hb3) ⟨#[73,110,115,101,114,116]⟩ hc hn1 hn6)
    · obtain ⟨i,rfl⟩: ∃ i:Nat,c=i:=⟨c.toNat,by omega⟩;have hi:i<S.n:=by omega
      have e:Plain.call S 1 i pos r=if Plain.validR r then Plain.change S i 1 pos r else (3,S):=by
        unfold Plain.call;rw [fx9 hc];simp
      rw [e];exact fx6 (f2b (K:=44) PV.call44 _ (h.bl hb3) (hM.bl hb3) (hE.bl h.size hb3) ⟨#[73,110,115,101,114,116]⟩ hi hn6 (R:=if Plain.validR r then Plain.change S i 1 pos r else (3,S)) ins_le (fun W ow1 g=>fvf g.mem g.marks hG hB g.errs hi pos r _ _ _ (hlk.out _ _ _ _ x2 fe g.ch) (hlk.out _ _ _ _ x0 fe g.ch) (hlk.out _ _ _ _ x1 fe g.ch)))
 generalize Plain.call S 1 c pos r=RR at hK ⊢;clear h hM hG hB hE;go_enter PV.func21,Tryz.ntmps21;go_wp2_with (first | (go_at_call 43;refine hK.out.mono ?_;rintro e w3 gD;obtain ⟨V',ow',g1,g2,g3,g4⟩:=gD.out;rcases g4 with ⟨g5,rfl⟩ | ⟨g5,g,rfl,g6,g7⟩));all_goals go_ret
 · exact ⟨V',ow',g1,g2,(Ey.bl hb3).tr g3,.inl ⟨g5,rfl⟩⟩
 · exact ⟨V',ow',g1,g2,(Ey.bl hb3).tr g3,.inr ⟨g5,g,rfl,g6,g7⟩⟩
def fp4 (h:Mem L V S 0 ow w) (hM:Marks L S.n w) (hG:Plain.Good S) (hB:Plain.Bnd S) (hE:Errs E w) (c pos r:Int):
    Calls PV 22 #[.pointer (some ⟨L.b,0,none⟩),.int .i64 c,.int .i64 pos] w (CallEnd L E ⟨#[68,101,108,101,116,101]⟩ c (Plain.call S 2 c pos r) ow w):=by
 have hbl:=h.bb.lt;have hb3:Bl w ((w.alloc (.cells #[.pointer (some ⟨L.b,0,none⟩)] 26)).alloc (.cells #[.int .i64 pos] 3)):=((Bl.rf _).al _).al _;have hlk:=fx6 (fun (W:World) (x t:Nat) (cs:Array Value) (hx:Bk ((w.alloc (.cells #[.pointer (some ⟨L.b,0,none⟩)] 26)).alloc (.cells #[.int .i64 pos] 3)) x t cs) (hge:w.heap.size≤x) (hC:Ch (fun y=>y=L.b) ((w.alloc (.cells #[.pointer (some ⟨L.b,0,none⟩)] 26)).alloc (.cells #[.int .i64 pos] 3)) W)=>hx.ch hC (fun e=>by omega));have x0:Bk ((w.alloc (.cells #[.pointer (some ⟨L.b,0,none⟩)] 26)).alloc (.cells #[.int .i64 pos] 3)) (w.heap.size) 26 #[.pointer (some ⟨L.b,0,none⟩)]:=(Bk.al (Bk.nw (w:=w) (t:=26) (cs:= #[.pointer (some ⟨L.b,0,none⟩)]) fi) _);have x1:Bk ((w.alloc (.cells #[.pointer (some ⟨L.b,0,none⟩)] 26)).alloc (.cells #[.int .i64 pos] 3)) (w.heap.size+1) 3 #[.int .i64 pos]:=(Bk.nw (w:=(w.alloc (.cells #[.pointer (some ⟨L.b,0,none⟩)] 26))) (t:=3) (cs:= #[.int .i64 pos]) fi);obtain ⟨c0,d0⟩:=x0.ceF;have hn1:=hG.n0;have hn6:=hG.n6
 have hK:RowKit.Hid (Calls PV 43 #[.pointer (some ⟨L.b,0,none⟩),.string ⟨#[68,101,108,101,116,101]⟩,.int .i64 c,.func (.func 49) #[] #[.pointer (some ⟨w.heap.size,0,none⟩),.pointer (some ⟨w.heap.size+1,0,none⟩)]] ((w.alloc (.cells #[.pointer (some ⟨L.b,0,none⟩)] 26)).alloc (.cells #[.int .i64 pos] 3)) (CallEnd L E ⟨#[68,101,108,101,116,101]⟩ c (Plain.call S 2 c pos r) ow ((w.alloc (.cells #[.pointer (some ⟨L.b,0,none⟩)] 26)).alloc (.cells #[.int .i64 pos] 3)))):=by
    by_cases hc:c<0∨(S.n:Int)≤c
    · have e:Plain.call S 2 c pos r=(2,S):=by unfold Plain.call;rw [f02 hc]
      rw [e];exact fx6 (f1b _ (h.bl hb3) (hM.bl hb3) (hE.bl h.size hb3) ⟨#[68,101,108,101,116,101]⟩ hc hn1 hn6)
    · obtain ⟨i,rfl⟩: ∃ i:Nat,c=i:=⟨c.toNat,by omega⟩;have hi:i<S.n:=by omega
      have e:Plain.call S 2 i pos r=Plain.change S i 2 pos 0:=by
        unfold Plain.call;rw [fx9 hc];simp
      rw [e];exact fx6 (f2b (K:=49) PV.call49 _ (h.bl hb3) (hM.bl hb3) (hE.bl h.size hb3) ⟨#[68,101,108,101,116,101]⟩ hi hn6 (R:=Plain.change S i 2 pos 0) e9 (fun W ow1 g=>fvd g.mem g.marks hG hB g.errs hi pos _ _ (hlk.out _ _ _ _ x0 fe g.ch) (hlk.out _ _ _ _ x1 fe g.ch)))
 generalize Plain.call S 2 c pos r=RR at hK ⊢;clear h hM hG hB hE;go_enter PV.func22,Tryz.ntmps22;go_wp2_with (first | (go_at_call 43;refine hK.out.mono ?_;rintro e w3 gD;obtain ⟨V',ow',g1,g2,g3,g4⟩:=gD.out;rcases g4 with ⟨g5,rfl⟩ | ⟨g5,g,rfl,g6,g7⟩));all_goals go_ret
 · exact ⟨V',ow',g1,g2,(Ey.bl hb3).tr g3,.inl ⟨g5,rfl⟩⟩
 · exact ⟨V',ow',g1,g2,(Ey.bl hb3).tr g3,.inr ⟨g5,g,rfl,g6,g7⟩⟩
def fvh (h:Mem L V S 0 ow w) (hM:Marks L S.n w) (hG:Plain.Good S) (hB:Plain.Bnd S) (hE:Errs E w) (c pos r:Int):
    Calls PV 23 #[.pointer (some ⟨L.b,0,none⟩),.int .i64 c,.int .i64 pos] w (CallEnd L E ⟨#[77,111,118,101]⟩ c (Plain.call S 3 c pos r) ow w):=by
 have hbl:=h.bb.lt;have hb3:Bl w ((w.alloc (.cells #[.pointer (some ⟨L.b,0,none⟩)] 26)).alloc (.cells #[.int .i64 pos] 3)):=((Bl.rf _).al _).al _;have hlk:=fx6 (fun (W:World) (x t:Nat) (cs:Array Value) (hx:Bk ((w.alloc (.cells #[.pointer (some ⟨L.b,0,none⟩)] 26)).alloc (.cells #[.int .i64 pos] 3)) x t cs) (hge:w.heap.size≤x) (hC:Ch (fun y=>y=L.b) ((w.alloc (.cells #[.pointer (some ⟨L.b,0,none⟩)] 26)).alloc (.cells #[.int .i64 pos] 3)) W)=>hx.ch hC (fun e=>by omega));have x0:Bk ((w.alloc (.cells #[.pointer (some ⟨L.b,0,none⟩)] 26)).alloc (.cells #[.int .i64 pos] 3)) (w.heap.size) 26 #[.pointer (some ⟨L.b,0,none⟩)]:=(Bk.al (Bk.nw (w:=w) (t:=26) (cs:= #[.pointer (some ⟨L.b,0,none⟩)]) fi) _);have x1:Bk ((w.alloc (.cells #[.pointer (some ⟨L.b,0,none⟩)] 26)).alloc (.cells #[.int .i64 pos] 3)) (w.heap.size+1) 3 #[.int .i64 pos]:=(Bk.nw (w:=(w.alloc (.cells #[.pointer (some ⟨L.b,0,none⟩)] 26))) (t:=3) (cs:= #[.int .i64 pos]) fi);obtain ⟨c0,d0⟩:=x0.ceF;have hn1:=hG.n0;have hn6:=hG.n6
 have hK:RowKit.Hid (Calls PV 43 #[.pointer (some ⟨L.b,0,none⟩),.string ⟨#[77,111,118,101]⟩,.int .i64 c,.func (.func 51) #[] #[.pointer (some ⟨w.heap.size,0,none⟩),.pointer (some ⟨w.heap.size+1,0,none⟩)]] ((w.alloc (.cells #[.pointer (some ⟨L.b,0,none⟩)] 26)).alloc (.cells #[.int .i64 pos] 3)) (CallEnd L E ⟨#[77,111,118,101]⟩ c (Plain.call S 3 c pos r) ow ((w.alloc (.cells #[.pointer (some ⟨L.b,0,none⟩)] 26)).alloc (.cells #[.int .i64 pos] 3)))):=by
    by_cases hc:c<0∨(S.n:Int)≤c
    · have e:Plain.call S 3 c pos r=(2,S):=by unfold Plain.call;rw [f02 hc]
      rw [e];exact fx6 (f1b _ (h.bl hb3) (hM.bl hb3) (hE.bl h.size hb3) ⟨#[77,111,118,101]⟩ hc hn1 hn6)
    · obtain ⟨i,rfl⟩: ∃ i:Nat,c=i:=⟨c.toNat,by omega⟩;have hi:i<S.n:=by omega
      have e:Plain.call S 3 i pos r=Plain.change S i 3 pos 0:=by
        unfold Plain.call;rw [fx9 hc];simp
      rw [e];exact fx6 (f2b (K:=51) PV.call51 _ (h.bl hb3) (hM.bl hb3) (hE.bl h.size hb3) ⟨#[77,111,118,101]⟩ hi hn6 (R:=Plain.change S i 3 pos 0) e9 (fun W ow1 g=>fve g.mem g.marks hG hB g.errs hi pos _ _ (hlk.out _ _ _ _ x0 fe g.ch) (hlk.out _ _ _ _ x1 fe g.ch)))
 generalize Plain.call S 3 c pos r=RR at hK ⊢;clear h hM hG hB hE;go_enter PV.func23,Tryz.ntmps23;go_wp2_with (first | (go_at_call 43;refine hK.out.mono ?_;rintro e w3 gD;obtain ⟨V',ow',g1,g2,g3,g4⟩:=gD.out;rcases g4 with ⟨g5,rfl⟩ | ⟨g5,g,rfl,g6,g7⟩));all_goals go_ret
 · exact ⟨V',ow',g1,g2,(Ey.bl hb3).tr g3,.inl ⟨g5,rfl⟩⟩
 · exact ⟨V',ow',g1,g2,(Ey.bl hb3).tr g3,.inr ⟨g5,g,rfl,g6,g7⟩⟩
def f2l (b:Bool) (h:Mem L V S 0 ow w) (hM:Marks L S.n w) (hG:Plain.Good S) (hB:Plain.Bnd S) (hE:Errs E w) (c pos r:Int):
    Calls PV 24 #[.pointer (some ⟨L.b,0,none⟩),.int .i64 c,.bool b] w (CallEnd L E ⟨#[68,101,108,105,118,101,114]⟩ c (Plain.call S (if b then 4 else 5) c pos r) ow w):=by
 have hbl:=h.bb.lt;have hb3:Bl w ((w.alloc (.cells #[.pointer (some ⟨L.b,0,none⟩)] 26)).alloc (.cells #[.bool b] 4)):=((Bl.rf _).al _).al _;have hlk:=fx6 (fun (W:World) (x t:Nat) (cs:Array Value) (hx:Bk ((w.alloc (.cells #[.pointer (some ⟨L.b,0,none⟩)] 26)).alloc (.cells #[.bool b] 4)) x t cs) (hge:w.heap.size≤x) (hC:Ch (fun y=>y=L.b) ((w.alloc (.cells #[.pointer (some ⟨L.b,0,none⟩)] 26)).alloc (.cells #[.bool b] 4)) W)=>hx.ch hC (fun e=>by omega));have x0:Bk ((w.alloc (.cells #[.pointer (some ⟨L.b,0,none⟩)] 26)).alloc (.cells #[.bool b] 4)) (w.heap.size) 26 #[.pointer (some ⟨L.b,0,none⟩)]:=(Bk.al (Bk.nw (w:=w) (t:=26) (cs:= #[.pointer (some ⟨L.b,0,none⟩)]) fi) _);have x1:Bk ((w.alloc (.cells #[.pointer (some ⟨L.b,0,none⟩)] 26)).alloc (.cells #[.bool b] 4)) (w.heap.size+1) 4 #[.bool b]:=(Bk.nw (w:=(w.alloc (.cells #[.pointer (some ⟨L.b,0,none⟩)] 26))) (t:=4) (cs:= #[.bool b]) fi);obtain ⟨c0,d0⟩:=x0.ceF;have hn1:=hG.n0;have hn6:=hG.n6
 have hK:RowKit.Hid (Calls PV 43 #[.pointer (some ⟨L.b,0,none⟩),.string ⟨#[68,101,108,105,118,101,114]⟩,.int .i64 c,.func (.func 53) #[] #[.pointer (some ⟨w.heap.size+1,0,none⟩),.pointer (some ⟨w.heap.size,0,none⟩)]] ((w.alloc (.cells #[.pointer (some ⟨L.b,0,none⟩)] 26)).alloc (.cells #[.bool b] 4)) (CallEnd L E ⟨#[68,101,108,105,118,101,114]⟩ c (Plain.call S (if b then 4 else 5) c pos r) ow ((w.alloc (.cells #[.pointer (some ⟨L.b,0,none⟩)] 26)).alloc (.cells #[.bool b] 4)))):=by
    by_cases hc:c<0∨(S.n:Int)≤c
    · have e:Plain.call S (if b then 4 else 5) c pos r=(2,S):=by unfold Plain.call;rw [f02 hc]
      rw [e];exact fx6 (f1b _ (h.bl hb3) (hM.bl hb3) (hE.bl h.size hb3) ⟨#[68,101,108,105,118,101,114]⟩ hc hn1 hn6)
    · obtain ⟨i,rfl⟩: ∃ i:Nat,c=i:=⟨c.toNat,by omega⟩;have hi:i<S.n:=by omega
      cases b
      · have e:Plain.call S 5 i pos r=Plain.get S i:=by unfold Plain.call;rw [fx9 hc];simp
        show RowKit.Hid (Calls _ _ _ _ (CallEnd _ _ _ _ (Plain.call S 5 i pos r) _ _));rw [e];exact fx6 (f2b (K:=53) PV.call53 _ (h.bl hb3) (hM.bl hb3) (hE.bl h.size hb3) ⟨#[68,101,108,105,118,101,114]⟩ hi hn6 (R:=Plain.get S i) fwb (fun W ow1 g=>fsr g.mem g.marks hG hB g.errs hi _ _ (hlk.out _ _ _ _ x1 fe g.ch)))
      · have e:Plain.call S 4 i pos r=Plain.serve S i:=by unfold Plain.call;rw [fx9 hc];simp
        show RowKit.Hid (Calls _ _ _ _ (CallEnd _ _ _ _ (Plain.call S 4 i pos r) _ _));rw [e];exact fx6 (f2b (K:=53) PV.call53 _ (h.bl hb3) (hM.bl hb3) (hE.bl h.size hb3) ⟨#[68,101,108,105,118,101,114]⟩ hi hn6 (R:=Plain.serve S i) fng (fun W ow1 g=>call_up g.mem g.marks hG hB g.errs hi _ _ (hlk.out _ _ _ _ x1 fe g.ch) (hlk.out _ _ _ _ x0 fe g.ch)))
 generalize Plain.call S (if b then 4 else 5) c pos r=RR at hK ⊢;clear h hM hG hB hE;go_enter PV.func24,Tryz.ntmps24;go_wp2_with (first | (go_at_call 43;refine hK.out.mono ?_;rintro e w3 gD;obtain ⟨V',ow',g1,g2,g3,g4⟩:=gD.out;rcases g4 with ⟨g5,rfl⟩ | ⟨g5,g,rfl,g6,g7⟩));all_goals go_ret
 · exact ⟨V',ow',g1,g2,(Ey.bl hb3).tr g3,.inl ⟨g5,rfl⟩⟩
 · exact ⟨V',ow',g1,g2,(Ey.bl hb3).tr g3,.inr ⟨g5,g,rfl,g6,g7⟩⟩
def up_any (h:Mem L V S 0 ow w) (hM:Marks L S.n w) (hG:Plain.Good S) (hB:Plain.Bnd S) (hE:Errs E w) (c pos r:Int):
    Calls PV 24 #[.pointer (some ⟨L.b,0,none⟩),.int .i64 c,.bool true] w (CallEnd L E ⟨#[68,101,108,105,118,101,114]⟩ c (Plain.call S 4 c pos r) ow w):=f2l true h hM hG hB hE c pos r
def fvi (h:Mem L V S 0 ow w) (hM:Marks L S.n w) (hG:Plain.Good S) (hB:Plain.Bnd S) (hE:Errs E w) (c pos r:Int):
    Calls PV 24 #[.pointer (some ⟨L.b,0,none⟩),.int .i64 c,.bool false] w (CallEnd L E ⟨#[68,101,108,105,118,101,114]⟩ c (Plain.call S 5 c pos r) ow w):=f2l false h hM hG hB hE c pos r
end
open Go.Extern.Stop Go.Stop Go.Extern
namespace As
def valueOf113 (t:Addr) (w:World):(ReflectliteValue.unpack (.iface 113 (.pointer (some t)))).run PV w
    = .ok (.agg #[.pointer (some ⟨13,113,none⟩),.pointer (some ⟨w.heap.size,0,none⟩),.int .u64 150]) (w.alloc (.cells #[.pointer (some t)] 113)):=by kernel_rfl
def type113 (a:Addr) (w:World):(ReflectliteValue.methodAny (ReflectliteValue.valueError "reflectlite.Value.Type" 0) (fun t _ _ _=>ReflectliteType.toType t) #[.agg #[.pointer (some ⟨13,113,none⟩),.pointer (some a),.int .u64 150]]).run PV w
    = .ok (.iface 192 (.agg #[.pointer (some ⟨13,113,none⟩)])) w:=by kernel_rfl
def methodKind (h:Value) (w:World):(Go.method 358 192 (.agg #[h]) "Kind").run PV w= .ok (146,h) w:=by kernel_rfl
def kind113 (w:World):((ReflectliteType.abiMethod fun t=>(fun a:Nat=>Value.int IntKind.u8 (a:Int)) <$> Rtype.kind t) #[.pointer (some ⟨13,113,none⟩)]).run PV w= .ok (.int .u8 22) w:=by kernel_rfl
def kind111 (w:World):((ReflectliteType.abiMethod fun t=>(fun a:Nat=>Value.int IntKind.u8 (a:Int)) <$> Rtype.kind t) #[.pointer (some ⟨13,111,none⟩)]).run PV w= .ok (.int .u8 22) w:=by kernel_rfl
def rlm (z:Sem Value) (f:TypeId→Addr→Nat→Nat→Sem Value) (v:Value):
    ReflectliteValue.method z f #[v]=(do match ← ReflectliteValue.parts v with | none=>z | some (t,a,fl)=>f t a fl (fl%32)):=rfl
def fnh (a:Addr) (w:World):(ReflectliteValue.parts (.agg #[.pointer (some ⟨13,113,none⟩),.pointer (some a),.int .u64 150])).run PV w= .ok (some (113,a,150)) w:=by kernel_rfl
def u113:PV.underlying 113=some (.pointer 111):=by kernel_rfl
def u111:PV.underlying 111=some (.pointer 115):=by kernel_rfl
def isNil113 (a p:Addr) (W:World) (ha:W.cell? a=some (.pointer (some p))):
    (ReflectliteValue.method (ReflectliteValue.valueError "reflectlite.Value.IsNil" 0) ReflectliteValue.isNil #[.agg #[.pointer (some ⟨13,113,none⟩),.pointer (some a),.int .u64 150]]).run PV W= .ok (.bool false) W:=by
 have h:=u113;rw [rlm];simp only [fz9,fnh,Result.andThen];simp [ReflectliteValue.isNil,loadVar,isAgg,f1l h,ha,Result.andThen]
def methodElem (h:Value) (w:World):(Go.method 358 192 (.agg #[h]) "Elem").run PV w= .ok (159,.agg #[h]) w:=by kernel_rfl
def methodImplements (h:Value) (w:World):(Go.method 358 192 (.agg #[h]) "Implements").run PV w= .ok (160,.agg #[h]) w:=by kernel_rfl
def methodAssignableTo (h:Value) (w:World):(Go.method 358 192 (.agg #[h]) "AssignableTo").run PV w= .ok (157,.agg #[h]) w:=by kernel_rfl
def methodComparable (h:Value) (w:World):(Go.method 358 192 (.agg #[h]) "Comparable").run PV w= .ok (158,.agg #[h]) w:=by kernel_rfl
def elem113 (w:World):(ReflectliteType.method ReflectliteType.elem #[.agg #[.pointer (some ⟨13,113,none⟩)]]).run PV w= .ok (.iface 192 (.agg #[.pointer (some ⟨13,111,none⟩)])) w:=by kernel_rfl
def implements111 (w:World):(ReflectliteType.relation "Implements" ReflectliteType.implements_ #[.agg #[.pointer (some ⟨13,111,none⟩)],.iface 192 (.agg #[.pointer (some ⟨13,49,none⟩)])]).run PV w= .ok (.bool true) w:=by kernel_rfl
def typeOf111 (v:Value) (w:World):(ReflectliteType.typeOf #[.iface 111 v]).run PV w= .ok (.iface 192 (.agg #[.pointer (some ⟨13,111,none⟩)])) w:=by kernel_rfl
def typeOf227 (v:Value) (w:World):(ReflectliteType.typeOf #[.iface 227 v]).run PV w= .ok (.iface 192 (.agg #[.pointer (some ⟨13,227,none⟩)])) w:=by kernel_rfl
def assignable111 (w:World):(ReflectliteType.relation "AssignableTo" ReflectliteType.assignableTo #[.agg #[.pointer (some ⟨13,111,none⟩)],.iface 192 (.agg #[.pointer (some ⟨13,111,none⟩)])]).run PV w= .ok (.bool true) w:=by kernel_rfl
def valueOf111 (e:Addr) (w:World):(ReflectliteValue.unpack (.iface 111 (.pointer (some e)))).run PV w
    = .ok (.agg #[.pointer (some ⟨13,111,none⟩),.pointer (some ⟨w.heap.size,0,none⟩),.int .u64 150]) (w.alloc (.cells #[.pointer (some e)] 111)):=by kernel_rfl
def fsw (w:World):(Rtype.elem? 113).run PV w= .ok (some 111) w:=by kernel_rfl
def mk111 (p:Addr) (w:World):(ReflectliteValue.mk 111 p ReflectliteValue.flagAddr).run PV w= .ok (.agg #[.pointer (some ⟨13,111,none⟩),.pointer (some p),.int .u64 406]) w:=by kernel_rfl
def elemV113 (a p:Addr) (W:World) (ha:W.cell? a=some (.pointer (some p))):
    (ReflectliteValue.method (ReflectliteValue.valueError "reflectlite.Value.Elem" 0) ReflectliteValue.elem #[.agg #[.pointer (some ⟨13,113,none⟩),.pointer (some a),.int .u64 150]]).run PV W
      = .ok (.agg #[.pointer (some ⟨13,111,none⟩),.pointer (some p),.int .u64 406]) W:=by
 have h:=u113;rw [rlm];simp only [fz9,fnh,Result.andThen];simp [ReflectliteValue.elem,loadVar,isAgg,f1l h,ha,Result.andThen,fsw,mk111]
def rls (v x:Value):ReflectliteValue.set #[v,x]=(do
    let (some (dst,a,fl),some (src,b,_)):=(← ReflectliteValue.parts v,← ReflectliteValue.parts x)
     | unsupported (.noEntry "extern/(internal/reflectlite.Value).Set.zeroValue")
    if fl / ReflectliteValue.flagAddr%2==0 then unsupported (.noEntry "extern/(internal/reflectlite.Value).Set.unaddressable")
    let val ← loadVar src b
    if ← Rtype.directlyAssignable dst src then storeVar dst a val
    else if ← Rtype.implements dst src then
     if (← Rtype.kind src)==20 then
        match val with
        | .nilIface=>unsupported (.noEntry "extern/reflectlite: a nil value of one interface type handed on as a value of another")
        | _=>storeVar dst a val
     else storeVar dst a (.iface src val)
    else panicString ("reflectlite.Set: value of type " ++(← Rtype.spelt src)++ " is not assignable to type " ++(← Rtype.spelt dst))
    pure (.tuple #[])):=rfl
def fsx (a:Addr) (w:World):(ReflectliteValue.parts (.agg #[.pointer (some ⟨13,111,none⟩),.pointer (some a),.int .u64 406])).run PV w= .ok (some (111,a,406)) w:=by kernel_rfl
def fvj (a:Addr) (w:World):(ReflectliteValue.parts (.agg #[.pointer (some ⟨13,111,none⟩),.pointer (some a),.int .u64 150])).run PV w= .ok (some (111,a,150)) w:=by kernel_rfl
def fsy (w:World):(Rtype.directlyAssignable 111 111).run PV w= .ok true w:=by kernel_rfl
def size111 (w:World):(sizeOf 111).run PV w= .ok 1 w:=by kernel_rfl
def set111 (ta b e:Addr) (old:Value) (W:World) (hb:W.cell? b=some (.pointer (some e))) (ht:W.cell? ta=some old) (hf:W.frozen? ta=false):
    (ReflectliteValue.set #[.agg #[.pointer (some ⟨13,111,none⟩),.pointer (some ta),.int .u64 406],.agg #[.pointer (some ⟨13,111,none⟩),.pointer (some b),.int .u64 150]]).run PV W
      = .ok (.tuple #[]) (W.setCell ta (.pointer (some e))):=by
 have h:=u111;rw [rls];simp only [fz9,fsx,fvj,Result.andThen];simp [ReflectliteValue.flagAddr,loadVar,isAgg,f1l h,hb,Result.andThen,fsy,size111,storeVar,Value.cells,storeCells,Addr.add];rw [run_store PV W ta _ _ (by rfl)];simp [ht,hf]
end As
def fvk (e t:Addr) (a:Nat) (old:Value) (w:World) (ha:w.cell? ⟨a,0,none⟩=some (.pointer (some t))) (ht0:w.cell? t=some old) (hf0:w.frozen? t=false):
    Calls PV 83 #[.iface 111 (.pointer (some e)),.iface 113 (.pointer (some t)),.agg #[.pointer (some ⟨13,113,none⟩),.pointer (some ⟨a,0,none⟩),.int .u64 150],.iface 192 (.agg #[.pointer (some ⟨13,111,none⟩)])] w fun ev w'=>ev= .returned (.bool true)∧w'=((w.alloc (.cells #[.pointer (some ⟨13,113,none⟩),.pointer (some ⟨a,0,none⟩),.int .u64 150] 152)).alloc (.cells #[.pointer (some e)] 111)).setCell t (.pointer (some e)):=by
 have h80:= @run_callFunc_extern PV 80 _ (fun args=>ReflectliteValue.unpack (args.getD 0 (.tuple #[]))) PV.func80 fd fd fd fd;have h84:= @run_callFunc_extern PV 84 _ ReflectliteType.typeOf PV.func84 fd fd fd fd;have h157:= @run_callFunc_extern PV 157 _ (ReflectliteType.relation "AssignableTo" ReflectliteType.assignableTo) PV.func157 fd fd fd fd;have h113:= @run_callFunc_extern PV 113 _ (ReflectliteValue.method (ReflectliteValue.valueError "reflectlite.Value.Elem" 0) ReflectliteValue.elem) PV.func113 fd fd fd fd;have h114:= @run_callFunc_extern PV 114 _ ReflectliteValue.set PV.func114 fd fd fd fd;have tO:=As.typeOf111;have mA:=As.methodAssignableTo;have a25:=As.assignable111;have v25:=As.valueOf111
 have hal:a<w.heap.size:=by
    rcases f01 a w.heap.size with h | h
    · exact h
    · simp [World.cell?,f09 h] at ha
 have htl:t.block<w.heap.size:=by
    rcases f01 t.block w.heap.size with h | h
    · exact h
    · simp [World.cell?,f09 h] at ht0
 have el:=As.elemV113 ⟨a,0,none⟩ t (w.alloc (.cells #[.pointer (some ⟨13,113,none⟩),.pointer (some ⟨a,0,none⟩),.int .u64 150] 152)) (by rw [f3a _ _ ⟨a,0,none⟩ hal];exact ha)
 have st:=As.set111 t ⟨w.heap.size+1,0,none⟩ e old ((w.alloc (.cells #[.pointer (some ⟨13,113,none⟩),.pointer (some ⟨a,0,none⟩),.int .u64 150] 152)).alloc (.cells #[.pointer (some e)] 111))
    (by rw [World.cell?_alloc_at _ _ _ _ fi];rfl)
    kl
    ju
 go_enter PV.func83,Tryz.ntmps83;go_wp2;refine wp_loop_rounds 1 ?_;rw [rounds_succ];go_wp2;go_ret;exact ⟨rfl,rfl⟩
def as_hit (e t:Addr) (old:Value) (w:World) (hg:w.cell? ⟨2,0,none⟩=some (.iface 192 (.agg #[.pointer (some ⟨13,49,none⟩)]))) (ht0:w.cell? t=some old) (hf0:w.frozen? t=false):
    Calls PV 39 #[.iface 111 (.pointer (some e)),.iface 113 (.pointer (some t))] w fun ev w'=>ev= .returned (.bool true)∧w'=((((w.alloc (.cells #[.pointer (some t)] 113)).alloc (.cells #[.pointer (some ⟨13,113,none⟩),.pointer (some ⟨w.heap.size,0,none⟩),.int .u64 150] 152)).alloc (.cells #[.pointer (some ⟨13,113,none⟩),.pointer (some ⟨w.heap.size,0,none⟩),.int .u64 150] 152)).alloc (.cells #[.pointer (some e)] 111)).setCell t (.pointer (some e)):=by
 have h80:= @run_callFunc_extern PV 80 _ (fun args=>ReflectliteValue.unpack (args.getD 0 (.tuple #[]))) PV.func80 fd fd fd fd;have h81:= @run_callFunc_extern PV 81 _ (ReflectliteValue.methodAny (ReflectliteValue.valueError "reflectlite.Value.Type" 0) (fun t _ _ _=>ReflectliteType.toType t)) PV.func81 fd fd fd fd;have h82:= @run_callFunc_extern PV 82 _ (ReflectliteValue.method (ReflectliteValue.valueError "reflectlite.Value.IsNil" 0) ReflectliteValue.isNil) PV.func82 fd fd fd fd;have h146:= @run_callFunc_extern PV 146 _ (ReflectliteType.abiMethod fun t=>do pure (.int .u8 (← Rtype.kind t))) PV.func146 fd fd fd fd;have h159:= @run_callFunc_extern PV 159 _ (ReflectliteType.method ReflectliteType.elem) PV.func159 fd fd fd fd;have h160:= @run_callFunc_extern PV 160 _ (ReflectliteType.relation "Implements" ReflectliteType.implements_) PV.func160 fd fd fd fd;have tO:=As.typeOf111;have mA:=As.methodAssignableTo;have a25:=As.assignable111;have v25:=As.valueOf111;have f6:=As.valueOf113;have f7:=As.type113;have mK:=As.methodKind;have mE:=As.methodElem;have mI:=As.methodImplements;have k27:=As.kind113;have k25:=As.kind111;have e27:=As.elem113;have i25:=As.implements111;have n8:=As.isNil113 ⟨w.heap.size,0,none⟩ t ((w.alloc (.cells #[.pointer (some t)] 113)).alloc (.cells #[.pointer (some ⟨13,113,none⟩),.pointer (some ⟨w.heap.size,0,none⟩),.int .u64 150] 152)) fi
 have hlt:2<w.heap.size:=by
    rcases f01 2 w.heap.size with h | h
    · exact h
    · simp [World.cell?,f09 h] at hg
 have hg2:((w.alloc (.cells #[.pointer (some t)] 113)).alloc (.cells #[.pointer (some ⟨13,113,none⟩),.pointer (some ⟨w.heap.size,0,none⟩),.int .u64 150] 152)).cell? ⟨2,0,none⟩=some (.iface 192 (.agg #[.pointer (some ⟨13,49,none⟩)])):=by
    rw [f3a _ _ ⟨2,0,none⟩ ja,f3a _ _ ⟨2,0,none⟩ hlt];exact hg
 have htl:t.block<w.heap.size:=by
    rcases f01 t.block w.heap.size with h | h
    · exact h
    · simp [World.cell?,f09 h] at ht0
 have h83:=fx6 (fvk e t w.heap.size old ((w.alloc (.cells #[.pointer (some t)] 113)).alloc (.cells #[.pointer (some ⟨13,113,none⟩),.pointer (some ⟨w.heap.size,0,none⟩),.int .u64 150] 152)) (by rw [f3a _ _ ⟨w.heap.size,0,none⟩ fi];simp) kl ju);go_enter PV.func39,Tryz.ntmps39;go_wp2_with (first | (go_at_call 83;refine h83.out.mono ?_;rintro e w1 ⟨rfl,rfl⟩));go_ret;exact ⟨rfl,rfl⟩
abbrev ev (a:Addr):Value:= .iface 227 (.pointer (some a))
namespace As
def i49: ∃ m,PV.underlying 49=some (.interface m):=fhj
def u227:PV.underlying 227=some (.pointer 246):=by kernel_rfl
def c227:(PV.info? 227).map (·.comparable)=some true:=by kernel_rfl
def c111:(PV.info? 111).map (·.comparable)=some true:=by kernel_rfl
def s246:(PV.info? 246).map (·.size)=some 1:=by kernel_rfl
def s115:(PV.info? 115).map (·.size)=some 3:=by kernel_rfl
def eql_other (g:Addr) (a:Addr) (w:World):(binOp .eql 49 (.iface 111 (.pointer (some g))) (ev a)).run PV w= .ok (.bool false) w:=by
 obtain ⟨m,hu⟩:=fhj
 have h: ∀ d:Nat,(Op.equalIn (d+1) 49 (.iface 111 (.pointer (some g))) (ev a)).run PV w= .ok false w:=fun d=>by
    simp [Op.equalIn,f1l hu]
 simp only [binOp];simp [Op.equal,Op.maxDepth,h 9999]
def eql_ev {a b:Addr} {w:World} (ha: ∃ c t,w.heap[a.block]? =some (.cells c t (0,0))) (hb: ∃ c t,w.heap[b.block]? =some (.cells c t (0,0))):(binOp .eql 49 (ev a) (ev b)).run PV w= .ok (.bool (decide (a=b))) w:=by
 obtain ⟨m,hu⟩:=fhj;obtain ⟨i,hi,hc⟩:=fy8.1 c227;obtain ⟨j,hj,hs⟩:=fy8.1 s246;by_cases e:a=b
 · subst e;rw [run_eql_iface_ptr_same w a hu u227 hi hc hj];simp
 · obtain ⟨ca,ta,ha⟩:=ha;obtain ⟨cb,tb,hb⟩:=hb;rw [run_eql_iface_ptr_other w hu u227 hi hc hj (by rw [hs];decide) e ha hb];simp [e]
def noIs111 (v:Value) (w:World):(Instr.typeAssert (.iface 111 v) 49 201 true).run PV w= .ok (.tuple #[.nilIface,.bool false]) w:=f5d (P:=PV) (show PV.underlying 201=some _ from Tryz.underlying201) fd fd v 49 w
def has111 (v:Value) (w:World):(Instr.typeAssert (.iface 111 v) 49 199 true).run PV w= .ok (.tuple #[.iface 111 v,.bool true]) w:=run_typeAssert_hasB (P:=PV) (show PV.underlying 199=some _ from Tryz.underlying199) fd v 49 w
def noIs227 (v:Value) (w:World):(Instr.typeAssert (.iface 227 v) 49 201 true).run PV w= .ok (.tuple #[.nilIface,.bool false]) w:=f5d (P:=PV) (show PV.underlying 201=some _ from Tryz.underlying201) fd fd v 49 w
def no199 (v:Value) (w:World):(Instr.typeAssert (.iface 227 v) 49 199 true).run PV w= .ok (.tuple #[.nilIface,.bool false]) w:=f5d (P:=PV) (show PV.underlying 199=some _ from Tryz.underlying199) fd fd v 49 w
def no200 (v:Value) (w:World):(Instr.typeAssert (.iface 227 v) 49 200 true).run PV w= .ok (.tuple #[.nilIface,.bool false]) w:=f5d (P:=PV) (show PV.underlying 200=some _ from Tryz.underlying200) fd fd v 49 w
def mUnwrap (v:Value) (w:World):(Go.method 358 111 v "Unwrap").run PV w= .ok (40,v) w:=by kernel_rfl
def comparable227 (w:World):(ReflectliteType.method (fun t=>do Rtype.noPackHeld "Comparable" t;(fun a=>Value.bool a.comparable) <$> typeInfo t) #[.agg #[.pointer (some ⟨13,227,none⟩)]]).run PV w= .ok (.bool true) w:=by kernel_rfl
end As
section
variable {w:World}
def fgd (g:Nat) (nm:ByteArray) (c:Int) (e:Value) (hB:Bk w g 115 #[.string nm,.int .i64 c,e]):Calls PV 40 #[.pointer (some ⟨g,0,none⟩)] w fun x w'=>x= .returned e∧w'=w:=by
 obtain ⟨c1,d1⟩:=hB.ceF;clear hB;go_enter PV.func40,Tryz.ntmps40;go_wp2;go_ret;exact ⟨rfl,rfl⟩
def is85 (g:Nat) (nm:ByteArray) (c:Int) (a b:Addr) (hB:Bk w g 115 #[.string nm,.int .i64 c,ev a]) (ha: ∃ c t,w.heap[a.block]? =some (.cells c t (0,0))) (hb: ∃ c t,w.heap[b.block]? =some (.cells c t (0,0))):
    Calls PV 85 #[.iface 111 (.pointer (some ⟨g,0,none⟩)),ev b,.bool true] w fun x w'=>x= .returned (.bool (decide (a=b)))∧w'=w:=by
 have h1:=As.eql_other ⟨g,0,none⟩ b w;have h2:=As.eql_ev ha hb;have n1:=As.noIs111;have n2:=As.has111;have n3:=As.noIs227;have n4:=As.no199;have n5:=As.no200;have mU:=As.mUnwrap;have hen:=fun w=>fhk 227 (.pointer (some a)) w;have hU:=fx6 (fgd g nm c (ev a) hB);clear hB ha hb;by_cases e:a=b
 · have e':decide (a=b)=true:=by simpa using e
   rw [e'] at h2 ⊢;clear e e';go_enter PV.func85,Tryz.ntmps85;go_wp2;refine wp_loop_rounds 2 ?_;rw [rounds_succ];go_wp2_with (first | (go_at_call 40;refine hU.out.mono ?_;rintro e w1 ⟨rfl,rfl⟩));rw [rounds_succ];go_wp2;go_ret;exact ⟨rfl,rfl⟩
 · have e':decide (a=b)=false:=by simpa using e
   rw [e'] at h2 ⊢;clear e e';go_enter PV.func85,Tryz.ntmps85;go_wp2;refine wp_loop_rounds 2 ?_;rw [rounds_succ];go_wp2_with (first | (go_at_call 40;refine hU.out.mono ?_;rintro e w1 ⟨rfl,rfl⟩));rw [rounds_succ];go_wp2;go_ret;exact ⟨rfl,rfl⟩
def is_any (g:Nat) (nm:ByteArray) (c:Int) (a b:Addr) (hB:Bk w g 115 #[.string nm,.int .i64 c,ev a]) (ha: ∃ c t,w.heap[a.block]? =some (.cells c t (0,0))) (hb: ∃ c t,w.heap[b.block]? =some (.cells c t (0,0))):
    Calls PV 42 #[.iface 111 (.pointer (some ⟨g,0,none⟩)),ev b] w fun x w'=>x= .returned (.bool (decide (a=b)))∧w'=w:=by
 have h84:= @run_callFunc_extern PV 84 _ ReflectliteType.typeOf PV.func84 fd fd fd fd;have h158:= @run_callFunc_extern PV 158 _ (ReflectliteType.method (fun t=>do Rtype.noPackHeld "Comparable" t;pure (.bool (← typeInfo t).comparable))) PV.func158 fd fd fd fd;have tO:=As.typeOf227;have mC:=As.methodComparable;have c2:=As.comparable227;have h1:=fun w=>fhk 111 (.pointer (some ⟨g,0,none⟩)) w;have h2:=fun w=>fhk 227 (.pointer (some b)) w;have hU:=fx6 (is85 g nm c a b hB ha hb);clear hB ha hb;go_enter PV.func42,Tryz.ntmps42;go_wp2_with (first | (go_at_call 85;refine hU.out.mono ?_;rintro e w1 ⟨rfl,rfl⟩));go_ret;exact ⟨rfl,rfl⟩
end
end Go.Proofs.YtelecjnabeokeaaGreatDoor
namespace Go.Proofs.YtelecjnabeokeaaGreatDoor
open Go Go.RowKit
structure EV (E:Nat→Value) (A:Nat→Addr) (w:World):Prop where
 cell: ∀ i,i<12→w.cell? ⟨i,0,none⟩=some (E i)
 ev: ∀ i,i<12→i≠2→E i=ev (A i)
 ne: ∀ i j,i<12→j<12→i≠2→j≠2→i≠j→A i≠A j
 row: ∀ i,i<12→i≠2→ ∃ c t,w.heap[(A i).block]? =some (.cells c t (0,0))
 ty:E 2= .iface 192 (.agg #[.pointer (some ⟨13,49,none⟩)])
def EV.errs {E:Nat→Value} {A:Nat→Addr} {w:World} (h:EV E A w):Errs E w:=⟨h.cell,fun i hi h2=>⟨_,_,h.ev i hi h2⟩⟩
def EV.ch {E:Nat→Value} {A:Nat→Addr} {w w':World} {K:Nat→Prop} (h:EV E A w) (hC:Ch K w w') (h1: ∀ x,x<12→ ¬ K x) (h2: ∀ i,i<12→i≠2→ ¬ K (A i).block):EV E A w':=
 ⟨fun i hi=>(f0h (a:=⟨i,0,none⟩) (hC.block i (by
  have:=h.cell i hi;rcases f01 i w.heap.size with h' | h'
  · exact h'
  · simp [World.cell?,f09 h'] at this) (h1 i hi))).trans (h.cell i hi),h.ev,h.ne,fun i hi hne=>by
    obtain ⟨c,t,hr⟩:=h.row i hi hne;exact ⟨c,t,(hC.block _ (fx5.1 hr).1 (h2 i hi hne)).trans hr⟩,h.ty⟩
def EV.bl {E:Nat→Value} {A:Nat→Addr} {w w':World} (h:EV E A w) (hb:Bl w w'):EV E A w':=h.ch (K:=fun _=>False) (Ch.ba hb) (fun _ _ h=>h) (fun _ _ _ h=>h)
def EV.size {E:Nat→Value} {A:Nat→Addr} {w:World} (h:EV E A w):12≤w.heap.size:=by
 have:=h.cell 11 fe;rcases f01 11 w.heap.size with h' | h'
 · exact h'
 · simp [World.cell?,f09 h'] at this
def gix (j:Nat):Nat:=[0,3,1,4,5,6,7,8,9,10,11].getD j 0
def feq {j:Nat} (h:j<11):gix j<12∧gix j≠2:=by
 rcases (by omega:j=0∨j=1∨j=2∨j=3∨j=4∨j=5∨j=6∨j=7∨j=8∨j=9∨j=10) with rfl | rfl | rfl | rfl | rfl | rfl | rfl | rfl | rfl | rfl | rfl <;>decide
def gix_inj {i j:Nat} (hi:i<11) (hj:j<11) (e:gix i=gix j):i=j:=by
 rcases (by omega:j=0∨j=1∨j=2∨j=3∨j=4∨j=5∨j=6∨j=7∨j=8∨j=9∨j=10) with rfl | rfl | rfl | rfl | rfl | rfl | rfl | rfl | rfl | rfl | rfl <;>
 rcases (by omega:i=0∨i=1∨i=2∨i=3∨i=4∨i=5∨i=6∨i=7∨i=8∨i=9∨i=10) with rfl | rfl | rfl | rfl | rfl | rfl | rfl | rfl | rfl | rfl | rfl <;>first | rfl | (exfalso;revert e;decide)
def fsz {k:Nat} (h0:2≤k) (h:k≤7):fhf k=gix (k-1):=by
 rcases (by omega:k=2∨k=3∨k=4∨k=5∨k=6∨k=7) with rfl | rfl | rfl | rfl | rfl | rfl <;>rfl
section
variable {E:Nat→Value} {A:Nat→Addr} {w:World}
def all_any (h:EV E A w):Calls PV 41 #[] w fun x w'=>x= .returned (.slice (some ⟨w.heap.size,0,none⟩) 11 11)∧w'=w.alloc (.cells #[E 0,E 3,E 1,E 4,E 5,E 6,E 7,E 8,E 9,E 10,E 11] 49):=by
 have h0:=h.cell 0 fe;have h1:=h.cell 1 fe;have h3:=h.cell 3 fe;have h4:=h.cell 4 fe;have h5:=h.cell 5 fe;have h6:=h.cell 6 fe;have h7:=h.cell 7 fe;have h8:=h.cell 8 fe;have h9:=h.cell 9 fe;have h10:=h.cell 10 fe;have h11:=h.cell 11 fe;rw [h.ev 0 fe fe] at h0 ⊢;rw [h.ev 1 fe fe] at h1 ⊢;rw [h.ev 3 fe fe] at h3 ⊢;rw [h.ev 4 fe fe] at h4 ⊢;rw [h.ev 5 fe fe] at h5 ⊢;rw [h.ev 6 fe fe] at h6 ⊢;rw [h.ev 7 fe fe] at h7 ⊢;rw [h.ev 8 fe fe] at h8 ⊢;rw [h.ev 9 fe fe] at h9 ⊢;rw [h.ev 10 fe fe] at h10 ⊢;rw [h.ev 11 fe fe] at h11 ⊢;clear h;go_enter PV.func41,Tryz.ntmps41;go_wp2;go_ret;exact ⟨rfl,rfl⟩
def fvl (h:EV E A w) {i:Nat} (hi:i<11):(#[E 0,E 3,E 1,E 4,E 5,E 6,E 7,E 8,E 9,E 10,E 11]:Array Value)[i]? =some (ev (A (gix i))):=by
 rw [← h.ev _ (feq hi).1 (feq hi).2];rcases (by omega:i=0∨i=1∨i=2∨i=3∨i=4∨i=5∨i=6∨i=7∨i=8∨i=9∨i=10) with rfl | rfl | rfl | rfl | rfl | rfl | rfl | rfl | rfl | rfl | rfl <;>rfl
def zf {w1 w2:World} {K:Nat→Prop} (h:Bl w w1) (hC:Ch K w1 w2) (hK: ∀ x,K x→w.heap.size≤x):Bl w w2:=by
 have:=(Ch.ba (K:=fun _=>False) h).tr hC (fun x hx=> .inr (hK x hx));exact ⟨this.os,this.tape,this.output,this.size,fun x hx=>this.block x hx (fun h=>h)⟩
def as_bk (h:EV E A w) (g:Nat) {t:Nat} (hT:Bk w t 111 #[.pointer none]):Calls PV 39 #[.iface 111 (.pointer (some ⟨g,0,none⟩)),.iface 113 (.pointer (some ⟨t,0,none⟩))] w fun x w'=>x= .returned (.bool true)∧Bk w' t 111 #[.pointer (some ⟨g,0,none⟩)]∧Ch (fun y=>y=t) w w':=by
 refine (as_hit ⟨g,0,none⟩ ⟨t,0,none⟩ (.pointer none) w (by rw [h.cell 2 fe,h.ty]) (by rw [hT.ce];rfl) (hT.fz 0)).mono ?_;rintro x w' ⟨rfl,rfl⟩;have hb:Bl w ((((w.alloc (.cells #[.pointer (some ⟨t,0,none⟩)] 113)).alloc (.cells #[.pointer (some ⟨13,113,none⟩),.pointer (some ⟨w.heap.size,0,none⟩),.int .u64 150] 152)).alloc (.cells #[.pointer (some ⟨13,113,none⟩),.pointer (some ⟨w.heap.size,0,none⟩),.int .u64 150] 152)).alloc (.cells #[.pointer (some ⟨g,0,none⟩)] 111)):=((((Bl.rf _).al _).al _).al _).al _;exact ⟨rfl,((Bk.bl hb hT).st _).cv fi,(Ch.ba (K:=fun y=>y=t) hb).st (.inl rfl) _⟩
def fni (w:World):Calls PV 19 #[.nilIface] w fun x w'=>x= .returned (.tuple #[.int .i64 0,.string ⟨#[]⟩,.int .i64 0])∧w'=w:=by
 have h:=fun w=>fvg w;go_enter PV.func19,Tryz.ntmps19;go_wp2;refine f0q (v:= .tuple #[.int .i64 0,.string ⟨#[]⟩,.int .i64 0]) (by simp [results,Tryz.results19,go_sem]) rfl ⟨rfl,rfl⟩
end
def flu (g:Addr) (w:World):(binOp .neq 49 (.iface 111 (.pointer (some g))) (.iface 111 (.pointer (some g)))).run PV w= .ok (.bool false) w:=by
 obtain ⟨m,hu⟩:=fhj;obtain ⟨i,hi,hc⟩:=fy8.1 As.c111;obtain ⟨j,hj,hs⟩:=fy8.1 As.s115;simp only [binOp];simp [Op.equal,Op.maxDepth,run_equalIn_iface_ptr_same w 9998 g hu As.u111 hi hc hj]
def flv (g:Addr) (w:World):(binOp .neq 49 (ev g) (ev g)).run PV w= .ok (.bool false) w:=by
 obtain ⟨m,hu⟩:=fhj;obtain ⟨i,hi,hc⟩:=fy8.1 As.c227;obtain ⟨j,hj,hs⟩:=fy8.1 As.s246;simp only [binOp];simp [Op.equal,Op.maxDepth,run_equalIn_iface_ptr_same w 9998 g hu As.u227 hi hc hj]
section
variable {E:Nat→Value} {A:Nat→Addr} {w:World}
def fvm (h:EV E A w) (g:Nat) (nm:ByteArray) (c:Int) {k:Nat} (h2:2≤k) (h7:k≤7) (hB:Bk w g 115 #[.string nm,.int .i64 c,E (fhf k)]):
    Calls PV 19 #[.iface 111 (.pointer (some ⟨g,0,none⟩))] w fun x w'=>x= .returned (.tuple #[.int .i64 (k:Int),.string nm,.int .i64 c])∧Bl w w':=by
 have hk:=feq (j:=k-1) fe;rw [fsz h2 h7,h.ev _ hk.1 hk.2] at hB;have c1:=fun w=>fhk 111 (.pointer (some ⟨g,0,none⟩)) w;have c2:=fun w=>flu ⟨g,0,none⟩ w;have c3:=fun w=>flv (A (gix (k-1))) w;have hgl:=hB.lt;have hT:Bk (w.alloc (.cells #[.pointer none] 111)) w.heap.size 111 #[.pointer none]:=Bk.nw rfl;have hAs:=fx6 (as_bk (h.bl ((Bl.rf _).al (.cells #[.pointer none] 111))) g hT);have hH:=fx6 h;have hBB:=fx6 hB;clear h hB hT;go_enter PV.func19,Tryz.ntmps19;go_wp2_with (first | (go_at_call 39;refine hAs.out.mono ?_;rintro e w1 ⟨rfl,gT,gC⟩;have gW:=zf ((Bl.rf w).al (.cells #[.pointer none] 111)) gC (by rintro x rfl;exact fx8 _)));have gB:=Bk.bl gW hBB.out;have hU:=fx6 (fun (W:World) (hW:W.heap=w1.heap)=>fgd g nm c (ev (A (gix (k-1)))) (w:=W) ⟨by rw [hW];exact gB.at_⟩);obtain ⟨d1,f1⟩:=gT.ceF;obtain ⟨d2,f2⟩:=gB.ceF;have hW:=fx6 gW;have kT:=fx6 gT;have kB:=fx6 gB;clear gT gC gB gW
 go_quiet (fail)
 go_upto_region 7 with fail
 refine vy (F:=fun W=>Bl w1 W∧W.heap=w1.heap) ⟨⟨rfl,rfl,rfl,fx8 _,fun _ _=>rfl⟩,rfl⟩ ?_;clear d1 f1 d2 f2;rintro W ⟨hb,hh⟩;obtain ⟨d1,f1⟩:=(Bk.bl hb kT.out).ceF;obtain ⟨d2,f2⟩:=(Bk.bl hb kB.out).ceF;have hal:=fx6 (fun W (hb:Bl w1 W)=>all_any (hH.out.bl (hW.out.cl hb)));have hU2:=fx6 (fun n=>hU.out (W.drewN n) hh)
 go_quiet ((go_at_call 40;exact Calls.quiet_of_same (hU2.out _)))
 go_wp2_with (first | (go_at_call 41;refine (hal.out _ (by exact ⟨hb.os,hb.tape,hb.output,hb.size,hb.block⟩)).mono ?_;rintro e w2 ⟨rfl,rfl⟩));refine vy (F:=fun W2=>Bl w W2∧Bk W2 w1.heap.size 49 #[E 0,E 3,E 1,E 4,E 5,E 6,E 7,E 8,E 9,E 10,E 11]) ⟨(hW.out.cl hb).cl (by exact ⟨rfl,rfl,rfl,by simp [World.alloc,World.drewN],fun x hx=>f14 _ _ _ hx⟩),Bk.nw (by show W.heap.size=_;rw [hh])⟩ ?_;generalize w1.heap.size=xa;clear d1 f1 d2 f2 hal hU2 hU hb hh kT kB hW hAs;rintro W2 ⟨gW,gA⟩;have gE:=hH.out.bl gW;have gB:=Bk.bl gW hBB.out
 go_loopw [40] (fun iv wr=> ∃ i:Nat,i≤k-1∧iv= .int .i64 (i:Int)∧wr=W2) (fun iv _=>11-(intOf iv).toNat)
 case atStart => exact ⟨0,f1n _,rfl,rfl⟩
 case round=>
    obtain ⟨i,hi,rfl,rfl⟩:=hrel;have hi11:i<11:=by omega
    have hin:(i:Int)<11:=by omega
    have hci:=(gA.ce i).trans (fvl gE hi11);have hIs:=fx6 (is_any g nm c (A (gix (k-1))) (A (gix i)) gB (gE.row _ hk.1 hk.2) (gE.row _ (feq hi11).1 (feq hi11).2));have hw1:IntKind.i64.wrap ((i:Int)+1)=(i:Int)+1:=f0t _ fe;have hE:=fx6 gE;clear gE gB gA;by_cases e:i=k-1
    · have hd:decide (A (gix (k-1))=A (gix i))=true:=by rw [e];simp
      rw [hd] at hIs;have hki:=fx6 (show (i:Int)+1=(k:Int) by omega);clear hd e;go_wp2_with (first | (go_at_call 42;refine hIs.out.mono ?_;rintro e w2 ⟨rfl,rfl⟩));try simp only [Exit.inBlock,Exit.then]
      refine f0q (v:= .tuple #[.int .i64 ((i:Int)+1),.string nm,.int .i64 c]) (by simp [results,Tryz.results19,go_sem]) rfl ⟨?_,gW⟩;rw [hki.out]
    · have hd:decide (A (gix (k-1))=A (gix i))=false:=by
        simp only [f1u];exact hE.out.ne _ _ hk.1 (feq hi11).1 hk.2 (feq hi11).2 (fun h=>e (gix_inj hi11 fe h.symm))
      rw [hd] at hIs;clear hd;go_wp2_with (first | (go_at_call 42;refine hIs.out.mono ?_;rintro e w2 ⟨rfl,rfl⟩))
      go_roundw
      case rel => exact ⟨i+1,by omega,by simp,trivial⟩
      case measure => simp [intOf];omega
end
section
variable {E:Nat→Value} {A:Nat→Addr} {w:World}
def ly (nm:ByteArray) (c:Int) (w:World):Calls PV 20 #[.nilIface,.string nm,.int .i64 c] w fun x w'=>x= .returned (.int .i64 0)∧w'=w:=by
 have hC:=fun w=>fni w;have hCC:=fx6 hC;clear hC;go_enter PV.func20,Tryz.ntmps20;go_wp2_with (first | (go_at_call 19;refine (hCC.out _).mono ?_;rintro e w1 ⟨rfl,rfl⟩));go_ret;exact ⟨rfl,rfl⟩
def lz (h:EV E A w) (g:Nat) (nm:ByteArray) (c:Int) {k:Nat} (h2:2≤k) (h7:k≤7) (hB:Bk w g 115 #[.string nm,.int .i64 c,E (fhf k)]):
    Calls PV 20 #[.iface 111 (.pointer (some ⟨g,0,none⟩)),.string nm,.int .i64 c] w fun x w'=>x= .returned (.int .i64 (k:Int))∧Bl w w':=by
 have hC:=fx6 (fvm h g nm c h2 h7 hB);have b1:(0:Int)<(k:Int):=by omega
 have b2:(k:Int)<12:=by omega
 clear h hB;go_enter PV.func20,Tryz.ntmps20;go_wp2_with (first | (go_at_call 19;refine hC.out.mono ?_;rintro e w1 ⟨rfl,gb⟩));go_ret;exact ⟨rfl,gb⟩
end
structure Live (L:Lay) (E:Nat→Value) (A:Nat→Addr) (S:Plain.Ses) (ow:Nat→Nat) (w:World):Prop where
 mem: ∃ V,Mem L V S 0 ow w
 marks:Marks L S.n w
 ev:EV E A w
 good:Plain.Good S
 bnd:Plain.Bnd S
 low: ∀ i,i<12→i≠2→ow (A i).block=0
section
variable {L:Lay} {V V':Vals} {S S':Plain.Ses} {ow ow':Nat→Nat} {w w':World} {E:Nat→Value} {A:Nat→Addr}
def Live.to (h:Live L E A S ow w) (hM:Mem L V' S' 0 ow' w') (hm:Marks L S'.n w') (hE:Ey ow ow' w w') (hG:Plain.Good S') (hB:Plain.Bnd S'):Live L E A S' ow' w':=by
 obtain ⟨V,hM0⟩:=h.mem;refine ⟨⟨V',hM⟩,hm,h.ev.ch hE.ch (fun x hx hn=>hn (hM0.tag.lo x hx)) (fun i hi h2 hn=>hn (h.low i hi h2)),hG,hB,fun i hi h2=> ?_⟩;obtain ⟨c,t,hr⟩:=h.ev.row i hi h2;exact (hE.own _ (fx5.1 hr).1).trans (h.low i hi h2)
def Live.bl (h:Live L E A S ow w) (hb:Bl w w'):Live L E A S ow w':=by
 obtain ⟨V,hM0⟩:=h.mem;exact h.to (hM0.bl hb) (h.marks.bl hb) (Ey.bl hb) h.good h.bnd
def ou {S:Plain.Ses} {c:Nat} {k pos r:Int}:(Plain.change S c k pos r).1=0∨2≤(Plain.change S c k pos r).1:=by
 unfold Plain.change;repeat' split
 all_goals first | exact .inl rfl | exact .inr fi
def m5 {S:Plain.Ses} {k c pos r:Int}:(Plain.call S k c pos r).1≤7∧((Plain.call S k c pos r).1=0∨2≤(Plain.call S k c pos r).1):=by
 unfold Plain.call;split
 · simp
 split
 · split
   · exact ⟨e9,ou⟩
   · simp
 split
 · exact ⟨e9,ou⟩
 split
 · exact ⟨e9,ou⟩
 split
 · refine ⟨fng,?_⟩;unfold Plain.serve;split
   · simp
   · split <;>simp
 · refine ⟨fwb,?_⟩;unfold Plain.get;split <;>simp
def fvn (h:Live L E A S ow w) (k c pos r:Int) (h1:1≤k) (h5:k≤5):
    Calls PV 9 #[.pointer (some ⟨L.b,0,none⟩),.int .i64 k,.int .i64 c,.int .i64 pos,.int .i64 r] w fun x w'=>x= .returned (.int .i64 ((Plain.call S k c pos (IntKind.i32.wrap r)).1:Int))∧ ∃ ow',Live L E A (Plain.call S k c pos (IntKind.i32.wrap r)).2 ow' w'∧Ey ow ow' w w':=by
 obtain ⟨V,hM⟩:=h.mem;have hG:=fx6 (Plain.call_good h.good (k:=k) (c:=c) (pos:=pos) (r:=IntKind.i32.wrap r));have hB:=fx6 (Plain.call_bnd h.good h.bnd (k:=k) (c:=c) (pos:=pos) (r:=IntKind.i32.wrap r));have hcc:=m5 (S:=S) (k:=k) (c:=c) (pos:=pos) (r:=IntKind.i32.wrap r);generalize hR:Plain.call S k c pos (IntKind.i32.wrap r)=R at*;rcases (by omega:k=1∨k=2∨k=3∨k=4∨k=5) with rfl | rfl | rfl | rfl | rfl;(have hI:=fp3 hM h.marks h.good h.bnd h.ev.errs c pos (IntKind.i32.wrap r));rotate_left
 (have hI:=fp4 hM h.marks h.good h.bnd h.ev.errs c pos (IntKind.i32.wrap r));rotate_left
 (have hI:=fvh hM h.marks h.good h.bnd h.ev.errs c pos (IntKind.i32.wrap r));rotate_left
 (have hI:=up_any hM h.marks h.good h.bnd h.ev.errs c pos (IntKind.i32.wrap r));rotate_left
 (have hI:=fvi hM h.marks h.good h.bnd h.ev.errs c pos (IntKind.i32.wrap r));rotate_left
 all_goals
    rw [hR] at hI;replace hI:=fx6 hI;clear hR;obtain ⟨hc7,hc2⟩:=hcc;have hL:=fx6 h;clear h hM;have wr32:wrap32 r=IntKind.i32.wrap r:=by rw [f5h];unfold wrap32;omega
    go_enter PV.func9,Tryz.ntmps9;go_wp2_with (first | ((first | go_at_call 21 | go_at_call 22 | go_at_call 23 | go_at_call 24);(try rw [wr32]);refine hI.out.mono ?_;rintro e w1 gD;obtain ⟨V',ow',g1,g2,g3,g4⟩:=gD.out;have gL:=fx6 (hL.out.to g1 g2 g3 hG.out hB.out);rcases g4 with ⟨g5,rfl⟩ | ⟨g5,g,rfl,g6,g7⟩;(have gN:=fx6 (fun nm=>ly nm c w1));rotate_left;(have gN:=fx6 (lz gL.out.ev g _ _ fe hc7 g6));rotate_left;all_goals (replace g1:=fx6 g1;replace g2:=fx6 g2;replace g3:=fx6 g3)) | (go_at_call 20;refine (gN.out _).mono ?_;rintro e w2 ⟨rfl,rfl⟩) | (go_at_call 20;refine gN.out.mono ?_;rintro e w2 ⟨rfl,gb⟩))
    · go_ret;exact ⟨by rw [g5];rfl,ow',gL.out,g3.out⟩
    · go_ret;exact ⟨rfl,ow',gL.out.bl gb,g3.out.tr (Ey.bl gb)⟩
end
open Go.Conc
open Go.ConcN (sumTo upd sumTo_upd upd_ne upd_same)
section
variable {w:World}
def Bk.re {g:Nat} {ty:TypeId} {cs:Array Value} (h:Bk w g ty cs) (t:Nat→Question→Nat) (d:Nat):Bk (reW w t d) g ty cs:=⟨h.at_⟩
def Mp.re {b n:Nat} {f:Nat→Int} (h:Mp w b n f) (t:Nat→Question→Nat) (d:Nat):Mp (reW w t d) b n f:=⟨h.at_⟩
def Base.re (h:Base w) (t:Nat→Question→Nat) (d:Nat):Base (reW w t d):=⟨by obtain ⟨a,b,h⟩:=h.b0;exact ⟨a,b,h.re t d⟩,by obtain ⟨a,b,h⟩:=h.b1;exact ⟨a,b,h.re t d⟩⟩
def Lnk.re {l c room:Nat} {U:List Plain.Frm} (h:Lnk w l c room U) (t:Nat→Question→Nat) (d:Nat):Lnk (reW w t d) l c room U:=⟨h.lb.re t d,h.ch⟩
def Ends.re {L:Lay} {n:Nat} {es:Nat→Plain.EndS} {er:Nat→Value} (h:Ends w L n es er) (t:Nat→Question→Nat) (d:Nat):Ends (reW w t d) L n es er:=⟨by obtain ⟨cs,h1,h2⟩:=h.bk;exact ⟨cs,h1.re t d,h2⟩⟩
def Mem.re {L:Lay} {V:Vals} {S:Plain.Ses} {m:Int} {ow:Nat→Nat} (h:Mem L V S m ow w) (t:Nat→Question→Nat) (d:Nat):Mem L V S m ow (reW w t d):=
 ⟨h.base.re t d,h.tag,h.fresh,h.bb.re t d,h.ss.re t d,h.ee.re t d,h.nn.re t d,h.mp.re t d,h.ar,h.st,h.lg,fun c hc=>(h.kk c hc).re t d,fun c hc=>(h.up c hc).re t d,fun c hc=>(h.dn c hc).re t d,h.tx,h.rw,h.er⟩
def Marks.re {L:Lay} {n:Nat} (h:Marks L n w) (t:Nat→Question→Nat) (d:Nat):Marks L n (reW w t d):=⟨h.m0,h.ms⟩
def EV.re {E:Nat→Value} {A:Nat→Addr} (h:EV E A w) (t:Nat→Question→Nat) (d:Nat):EV E A (reW w t d):=⟨h.cell,h.ev,h.ne,h.row,h.ty⟩
def Live.re {L:Lay} {E:Nat→Value} {A:Nat→Addr} {S:Plain.Ses} {ow:Nat→Nat} (h:Live L E A S ow w) (t:Nat→Question→Nat) (d:Nat):Live L E A S ow (reW w t d):=
 ⟨by obtain ⟨V,h⟩:=h.mem;exact ⟨V,h.re t d⟩,h.marks.re t d,h.ev.re t d,h.good,h.bnd,h.low⟩
end
structure Old (n:Nat) (v v':World):Prop where
 le:n≤v.heap.size
 size:v.heap.size≤v'.heap.size
 block: ∀ x,x<n→v'.heap[x]? =v.heap[x]?
 os:v'.os=v.os
 output:v'.output=v.output
def Old.rf {n:Nat} {v:World} (h:n≤v.heap.size):Old n v v:=⟨h,fx8 _,fun _ _=>rfl,rfl,rfl⟩
def Old.tr {n:Nat} {v v1 v2:World} (h:Old n v v1) (h2:Old n v1 v2):Old n v v2:=⟨h.le,f08 h.size h2.size,fun x hx=>(h2.block x hx).trans (h.block x hx),h2.os.trans h.os,h2.output.trans h.output⟩
def Old.mo {n m:Nat} {v v':World} (h:Old n v v') (hm:m≤n):Old m v v':=⟨f08 hm h.le,h.size,fun x hx=>h.block x (f0f hx hm),h.os,h.output⟩
def Old.ch {n:Nat} {v v':World} {K:Nat→Prop} (hn:n≤v.heap.size) (h:Ch K v v') (hK: ∀ x,x<n→ ¬ K x):Old n v v':=⟨hn,h.size,fun x hx=>h.block x (f0f hx hn) (hK x hx),h.os,h.output⟩
def Old.bl {n:Nat} {v v':World} (hn:n≤v.heap.size) (h:Bl v v'):Old n v v':=Old.ch (K:=fun _=>False) hn (Ch.ba h) fun _ _ h=>h
def Old.re {n:Nat} {v v':World} (h:Old n v v') (t:Nat→Question→Nat) (d:Nat):Old n v (reW v' t d):=⟨h.le,h.size,h.block,h.os,h.output⟩
def Old.re' {n:Nat} {v v':World} {t:Nat→Question→Nat} {d:Nat} (h:Old n (reW v t d) v'):Old n v v':=⟨h.le,h.size,h.block,h.os,h.output⟩
def Old.but {n:Nat} {v v':World} {C:Nat→Prop} (hn:n≤v.heap.size) (h:fll C v v') (hK: ∀ x,x<n→ ¬ C x):Old n v v':=⟨hn,Nat.le_of_eq h.size.symm,fun x hx=>h.same x (hK x hx),h.os,h.output⟩
def EV.old {E:Nat→Value} {A:Nat→Addr} {n:Nat} {v v':World} (h:EV E A v) (hO:Old n v v') (h12:12≤n) (hA: ∀ i,i<12→i≠2→(A i).block<n):EV E A v':=
 ⟨fun i hi=>(f0h (a:=⟨i,0,none⟩) (hO.block i fe)).trans (h.cell i hi),h.ev,h.ne,fun i hi hne=>by
    obtain ⟨c,t,hr⟩:=h.row i hi hne;exact ⟨c,t,(hO.block _ (hA i hi hne)).trans hr⟩,h.ty⟩
structure RunTo (Z:Frame→World→Prop) (fr:Frame) (v:World):Prop where
 out: ∃ fr' v',Steps PV (lone fr [botF] v) (lone fr' [botF] v')∧Z fr' v'
section
variable {Z:Frame→World→Prop} {fr fr1:Frame} {v v1:World} {b:Frame} {a:Act} {k:List Item} {x y c:Code} {ops:Array Oper} {i:Nat} {rest:List Nat} {o:Oper}
def zt (h:Z fr v):RunTo Z fr v:=⟨fr,v,.refl _ _,h⟩
def za (hs:step PV (lone fr [botF] v)= .next (lone fr1 [botF] v1)) (h:RunTo Z fr1 v1):RunTo Z fr v:=by
 obtain ⟨fr',v',h1,h2⟩:=h.out;exact ⟨fr',v',.head hs h1,h2⟩
def rl (h:RunTo Z (b.at a (.code x:: .code y::k)) v):RunTo Z (b.at a (.code (.seq x y)::k)) v:=za step_seq h
def bo (h:RunTo Z (b.at a k) v):RunTo Z (b.at a (.code .skip::k)) v:=za step_skip h
def ya {y':Operand} {t:Bool} (hc:a.eval y'= .bool t) (h:RunTo Z (b.at a (.code (if t then x else y)::k)) v):RunTo Z (b.at a (.code (.cond y' x y)::k)) v:=za (step_cond hc) h
def yt {id:Nat} (h:RunTo Z (b.at a (.inRegion ops (List.range ops.size)::k)) v):RunTo Z (b.at a (.code (.region id ops false)::k)) v:=za step_region h
def ie (h:RunTo Z (b.at a k) v):RunTo Z (b.at a (.inRegion ops []::k)) v:=za step_region_end h
def yv {id:Nat} (h:RunTo Z (b.at a (.code c:: .inBlock id::k)) v):RunTo Z (b.at a (.code (.block id c)::k)) v:=za step_block h
def zb {id:Nat} (h:RunTo Z (b.at a k) v):RunTo Z (b.at a (.inBlock id::k)) v:=za step_inBlock h
def fhm (h:RunTo Z (b.at a (.code c:: .inLoop c::k)) v):RunTo Z (b.at a (.code (.loop c)::k)) v:=za step_loop h
def bt (h:RunTo Z (b.at a (.code c:: .inLoop c::k)) v):RunTo Z (b.at a (.inLoop c::k)) v:=za step_inLoop h
def fhn {id:Nat} {k':List Item} (hk:exitTo id k=some k') (h:RunTo Z (b.at a k') v):RunTo Z (b.at a (.code (.exit id)::k)) v:=za (step_exit hk) h
def fnj (h:RunTo Z { b.at a (.code .ret::k) with mode:= .returning } v):RunTo Z (b.at a (.code .ret::k)) v:=za step_ret h
def uy {u:Value} (ho:ops[i]? =some o) (hg:o.guard=none) (hr:(execOp a.eval o).run PV v= .ok (.value u) v1) (h:RunTo Z (b.at (a.put o.dst u) (.inRegion ops rest::k)) v1):RunTo Z (b.at a (.inRegion ops (i::rest)::k)) v:=by
 have hg:=stepG_op (P:=PV) (b:=b) (k:=k) (cs:=[botF]) (w:=v) (rest:=rest) ho (by simp [Region.wanted,hg]:Region.wanted o (yielded ops a.tmps)=true)
 have hfin: ∀ v,(b.at a (.inRegion ops (i::rest)::k)).finish v=b.at (a.put o.dst v) (.inRegion ops rest::k):=by
    intro v;rw [f0i,ho];rfl
 refine za (f3t ?_) h;rw [hg,← hfin];simp [stepG.apply,hr]
def rj (hc:c.wp PV (fun e a' v'=>(e= .normal∧RunTo Z (b.at a' k) v')∨(e= .ret∧ ∀ todo,RunTo Z { b.at a' todo with mode:= .returning } v')) a v):RunTo Z (b.at a (.code c::k)) v:=by
 obtain ⟨e,a',w',h,harr⟩:=hc b k [botF];rcases h with ⟨rfl,h⟩ | ⟨rfl,h⟩
 · obtain ⟨fr',v',h1,h2⟩:=h.out;exact ⟨fr',v',Steps.trans harr h1,h2⟩
 · obtain ⟨todo,harr⟩:=harr;obtain ⟨fr',v',h1,h2⟩:=(h todo).out;exact ⟨fr',v',Steps.trans harr h1,h2⟩
end
def zu {f:FuncId} {fn:Func} {a:Act} {k:List Item} (h1:Tryz.prog.funcs[f]? =some fn) (h2:PV.funcs[f]? =some fn) (hi:(k.all fun i=>wk i&&fdk i)=true) (hd:a.defers=[]):FrOk Tryz.prog rg ((base f).at a k):=by
 have hk: ∀ i∈k,wk i=true∧fdk i=true:=fun i hm=>by
    have:=f1x.1 hi i hm;simpa using this
 exact {
    kind:= .inl rfl
    todo:=fun i hi=>(hk i hi).1
    round:=fun i hi=>⟨fun hr=>(by cases hr),fun _=>(hk i hi).2⟩
    defers:=fun d hm=>by
     have:d∈a.defers:=hm;rw [hd] at this;cases this
    chain:=fun ch hm=>by cases hm
    fn:=fun _=>by rw [fl2] at h2;exact h1.trans h2.symm
    back:=fun hr=>by cases hr }
section
variable {Φ:Goal} {WS:Nat→Option SeatD} {Shun:Loc→Prop} {v:World} {N:Nat} {g:Goroutine} {cs:List Frame} {X:Frame}
def co_re {t:Nat→Question→Nat} {d:Nat} (h:Co Φ WS Shun (reW v t d) N g):Co Φ WS Shun v N g:=by
 rintro gs w T hN ⟨H,S,St,q,hlt,I,C,hD⟩;refine h gs w T hN ⟨H,S,St,q,hlt,⟨?_,I.prot,I.on,I.fix,I.sus,I.only,I.marks,I.who⟩,C,hD⟩;exact ⟨I.rel.size,I.rel.same,I.rel.laid,I.rel.os,I.rel.output,I.rel.objs,I.rel.kept,I.rel.chans⟩
def fge {Z:Frame→World→Prop} {fr:Frame} (hW:WsOk WS Shun) (hp: ∀ fr v,Z fr v→vt fr=false) (hok:FrOk Tryz.prog rg fr) (hk:fr.kind= .normal) (h: ∀ t d,RunTo Z fr (reW v t d)) (hcont: ∀ fr' v',Z fr' v'→Co Φ WS Shun v' N (G fr' cs)):Co Φ WS Shun v N (G fr cs):=by
 rintro gs w T hN ⟨H,S,St,q,hlt,I,C,hD⟩
 let Y:Frame→List Frame→World→Prop:=fun fr l v=>l=[]∧ ∃ t d,Z fr (reW v t d)
 have A:VS Tryz.prog rg Y:=vs (fun _ _ _ h=>h.1) fun fr l v hy=>by
    obtain ⟨rfl,t,d,hz⟩:=hy;rintro ⟨f,hf,hpan⟩;simp only [fy3,fz8,f0z] at hf;subst hf;rw [hp _ _ hz] at hpan;cases hpan
 have hR: ∀ fr l v t d,Y fr l v→Y fr l (reW v t d):=fun fr l v t d ⟨h1,t',d',h2⟩=>⟨h1,t',d',h2⟩
 have hstk:i5 PV rg [fr]:=fun f hf=>by
    simp only [fy3,fz8,f0z] at hf;subst hf;exact fis hok
 have hfin:Fin PV Y fr [] v:=by
    refine fdt A.fok A.code A.stopCalm hR hstk I.rel.objs fun t d=> ?_;obtain ⟨fr',v',⟨n,hn⟩,hz⟩:=(h t d).out;exact ⟨n,fr',[],v',hn,rfl,v'.tape,v'.drawn,hz⟩
 have L:Lv Tryz.prog rg Y (fr,[],v):=⟨hfin,hstk,I.rel.objs⟩;refine (lift lp A hR hW (s:=(fr,[],v)) hfin).1 Φ.fx vb H S St 0 [] none cs gs w T q rfl hok fi (fun y hy=>by simp at hy;subst hy;exact hk) hlt L I C hD ?_;intro fr' v' w' H' S' St' gs' T' q' hdesc hstop I' hsz C' hD';obtain ⟨_,t,d,hz⟩:=hstop;exact co_re (t:=t) (d:=d) (hcont fr' _ hz) gs' w' T' (hsz.trans hN) ⟨H',S',St',q',fun j s hj=>by rw [hsz];exact hlt j s hj,I',C',hD'⟩
variable {b:Frame} {a:Act} {k:List Item} {ops:Array Oper} {i:Nat} {rest:List Nat} {o:Oper}
def co_call {f:FuncId} {fn:Func} {c:Code} {args:Array Operand} {ats:Array TypeId} (ho:ops[i]? =some o) (hw:Region.wanted o (yielded ops a.tmps)=true) (hk:b.kind≠ .early) (hop:o.op= .call { callee:= .value (.func f),args:=args,argTypes:=ats })
    (hf:Tryz.prog.funcs[f]? =some fn) (hname:(fn.name== "runtime.NumGoroutine")=false) (hb:fn.body=some c) (h:Co Φ WS Shun v N (G (Frame.enter Tryz.prog f (args.map a.eval) .normal) (b.at a (.inRegion ops (i::rest)::k)::cs))):
    Co Φ WS Shun v N (G (b.at a (.inRegion ops (i::rest)::k)) cs):=co_wk (fmp ho hw hk hop hf hname hb (ug ⟨rfl,h⟩))
def fho {u:Value} (ho:ops[i]? =some o):ur .normal u (b.at a (.inRegion ops (i::rest)::k))=b.at (a.put o.dst u) (.inRegion ops rest::k):=by
 simp only [ur,f0e,Touch.on,f0i,ho];rfl
def fhp {fn:Func} {todo:List Item} {u:Value} (hk:b.kind= .normal) (hd:a.defers=[]) (hf:Tryz.prog.funcs[b.fn]? =some fn) (hr:ResultsC Tryz.prog fn a.tmps u) (h:Co Φ WS Shun v N (G (ur .normal u X) cs)):
    Co Φ WS Shun v N (G { b.at a todo with mode:= .returning } (X::cs)):=co_wk (faa (.inl hk) hd hf hr (ug ⟨rfl,by rw [hk];exact h⟩))
end
structure Fc (WS:Nat→Option SeatD) (Shun:Loc→Prop) (v:World) (N:Nat) (f:FuncId) (args:Array Value) (R:Value→(Nat→Option SeatD)→(Loc→Prop)→World→Nat→Prop):Prop where
 out: ∀ (Φ:Goal) (X:Frame) (cs:List Frame),(∀ x WS' Shun' v' N',R x WS' Shun' v' N'→Co Φ WS' Shun' v' N' (G (ur .normal x X) cs))→Co Φ WS Shun v N (G (Frame.enter Tryz.prog f args .normal) (X::cs))
def ea {f:FuncId} {fn:Func} {cd:Code} {args:Array Value} (hf:Tryz.prog.funcs[f]? =some fn) (hb:fn.body=some cd):
    Frame.enter Tryz.prog f args .normal=(base f).at { tmps:=args++Array.replicate (fn.ntmps-args.size) undef,defers:=[] } [.code cd]:=enter_at hf hb
end Go.Proofs.YtelecjnabeokeaaGreatDoor
namespace Go.Proofs.YtelecjnabeokeaaGreatDoor
open Go Go.Conc Go.RowKit
def und77:PV.underlying 77=some (.slice 86):=by kernel_rfl
def und46:PV.underlying 46=some (.slice 3):=by kernel_rfl
def inf86:(PV.info? 86).map (fun i=>(i.bytes,i.size))=some (48,4):=by kernel_rfl
def inf86z:(PV.info? 86).bind (fun i=>i.zero)=some (.agg #[.int .i64 0,.int .i64 0,.int .i64 0,.slice none 0 0]):=by kernel_rfl
def inf3:(PV.info? 3).map (fun i=>(i.bytes,i.size))=some (8,1):=by kernel_rfl
def inf3z:(PV.info? 3).bind (fun i=>i.zero)=some (.int .i64 0):=by kernel_rfl
def inf1:(PV.info? 1).map (fun i=>i.bytes)=some 8:=by kernel_rfl
def und78:PV.underlying 78=some (.chan .both 1):=by kernel_rfl
def mkEnds (n:Nat) (hn:n≤6) (w:World):(Instr.makeSlice 77 (.int .i64 (n:Int)) (.int .i64 (n:Int))).run PV w= .ok (.slice (some ⟨w.heap.size,0,none⟩) n n) (w.alloc (.cells (madeCells #[.int .i64 0,.int .i64 0,.int .i64 0,.slice none 0 0] (n*4)) 86)):=by
 obtain ⟨i,hi,hb,hs⟩: ∃ i,PV.info? 86=some i∧i.bytes=48∧i.size=4:=by
    have:=inf86;cases hi:PV.info? 86 with
    | none=>rw [hi] at this;cases this
    | some i=>rw [hi] at this;exact ⟨i,rfl,by simpa using this⟩
 have hz:i.zero=some (.agg #[.int .i64 0,.int .i64 0,.int .i64 0,.slice none 0 0]):=by have:=inf86z;rw [hi] at this;exact this
 rw [run_makeSlice w 77 86 i _ und77 hi hz .i64 .i64 n n fe fe (by rw [hs];omega) (by rw [hb];omega) fe,hs];rfl
def mkKnown (n:Nat) (hn:n≤6) (w:World):(Instr.makeSlice 46 (.int .i64 (n:Int)) (.int .i64 (n:Int))).run PV w= .ok (.slice (some ⟨w.heap.size,0,none⟩) n n) (w.alloc (.cells (madeCells #[.int .i64 0] (n*1)) 3)):=by
 obtain ⟨i,hi,hb,hs⟩: ∃ i,PV.info? 3=some i∧i.bytes=8∧i.size=1:=by
    have:=inf3;cases hi:PV.info? 3 with
    | none=>rw [hi] at this;cases this
    | some i=>rw [hi] at this;exact ⟨i,rfl,by simpa using this⟩
 have hz:i.zero=some (.int .i64 0):=by have:=inf3z;rw [hi] at this;exact this
 rw [run_makeSlice w 46 3 i _ und46 hi hz .i64 .i64 n n fe fe (by rw [hs];omega) (by rw [hb];omega) fe,hs];rfl
def fwc (w:World):(Instr.makeChan 78 (.int .i64 0)).run PV w= .ok (.chan (some w.heap.size)) (w.alloc (.chan 0 #[] false 0 0 false)):=by
 obtain ⟨i,hi,hs⟩: ∃ i,PV.info? 1=some i∧i.bytes=8:=by
    have:=inf1;cases hi:PV.info? 1 with
    | none=>rw [hi] at this;cases this
    | some i=>rw [hi] at this;exact ⟨i,rfl,by simpa using this⟩
 exact Conc.run_makeChan (show PV.underlying 78=_ from und78) hi .i64 0 fe fe
def pv18:PV.funcs[18]? =some Tryz.f18:=rd 18 _ _ Tryz.func18 fd fd rfl fd
def nv (w:World) (o:Obj) (x:Nat):(w.alloc o).heap[x]? =if x=w.heap.size then some o else w.heap[x]? :=by
 show (w.heap.push o)[x]? =_;rw [f05]
def vp (w:World) (o:Obj):(w.alloc o).heap.size=w.heap.size+1:=by show (w.heap.push o).size=_;simp
def fer (w:World) (x:Nat):w.drew.heap[x]? =w.heap[x]? :=rfl
abbrev endZ (n:Nat):Array Value:=madeCells #[.int .i64 0,.int .i64 0,.int .i64 0,.slice none 0 0] (n*4)
abbrev ft0 (n:Nat):Array Value:=madeCells #[.int .i64 0] n
structure NewA (n:Nat) (v w:World) (bm es ns ch sb b:Nat):Prop where
 old:Bl v w
 ge:v.heap.size≤bm∧v.heap.size≤es∧v.heap.size≤ns∧v.heap.size≤ch∧v.heap.size≤sb∧v.heap.size≤b
 ne1:bm≠es∧bm≠ns∧bm≠ch∧bm≠sb∧bm≠b
 ne2:es≠ns∧es≠ch∧es≠sb∧es≠b
 ne3:ns≠ch∧ns≠sb∧ns≠b
 ne4:ch≠sb∧ch≠b∧sb≠b
 m_:w.heap[bm]? =some (.map #[] 0)
 e_:Bk w es 86 (endZ n)
 n_:Bk w ns 3 (ft0 n)
 c_:w.heap[ch]? =some (.chan 0 #[] false 0 0 false)
 s_:Bk w sb 80 #[.slice none 0 0,.slice none 0 0,.map (some bm),.slice (some ⟨es,0,none⟩) n n,.slice (some ⟨ns,0,none⟩) n n,.chan (some ch)]
 b_:Bk w b 75 #[.int .i32 0,.int .u32 0,.slice none 0 0,.pointer (some ⟨sb,0,none⟩),.int .i64 0,.bool false,.int .u64 0,.int .u32 0]
noncomputable def new4:Code:=match Tryz.f18.body with | some (.seq _ (.seq _ (.seq _ c)))=>c | _=> .skip
def new_a {Z:Frame→World→Prop} (n room:Nat) (hn1:1≤n) (hn6:n≤6) (hr1:1≤room) (hr16:room≤16) (v:World)
    (hk: ∀ (x2 x3 x7 x8 x9 x10 x11 x12 x13 x14 x15 x16 x17 x18 x19 x20 x21 x22 x23 x25 x27 x30 x32 x33 x34 x35 x36 x37 x38 x39 x40 x41 x42 x43 x44 x45 x46 x47 x48 x49 x50 x51 x52 x53 x54 x55 x56 x57 x58 x59 x60 x61 x62 x63 x64 x65 x66 x67 x68 x69 x70 x71 x72 x73 x74 x75 x76 x77 x78 x79 x80:Value) (bm es ns ch sb b:Nat) (w:World),NewA n v w bm es ns ch sb b→RunTo Z ((base 18).at ⟨(.int .i64 (n:Int):: .int .i64 (room:Int)::x2::x3:: .pointer none:: .nilIface:: .pointer (some ⟨b,0,none⟩)::x7::x8::x9::x10::x11::x12::x13::x14::x15::x16::x17::x18::x19::x20::x21::x22::x23:: .map (some bm)::x25:: .slice (some ⟨es,0,none⟩) n n::x27:: .slice (some ⟨ns,0,none⟩) n n:: .chan (some ch)::x30:: .pointer (some ⟨sb,0,none⟩)::x32::x33::x34::x35::x36::x37::x38::x39::x40::x41::x42::x43::x44::x45::x46::x47::x48::x49::x50::x51::x52::x53::x54::x55::x56::x57::x58::x59::x60::x61::x62::x63::x64::x65::x66::x67::x68::x69::x70::x71::x72::x73::x74::x75::x76::x77::x78::x79::x80::[]).toArray,[]⟩ [.code new4]) w):
    RunTo Z (Frame.enter Tryz.prog 18 #[.int .i64 (n:Int),.int .i64 (room:Int)] .normal) v:=by
 have h1:=fx6 (mkEnds n hn6);have h2:=fx6 (mkKnown n hn6);have hK:=fx6 hk;clear hk;rw [ea Tryz.func18 rfl];simp only [show Tryz.f18.ntmps=81 from rfl];walk_nrm;have e1: ¬ ((n:Int)<1):=by omega
 have e2: ¬ ((n:Int)>6):=by omega
 have e3: ¬ ((room:Int)<1):=by omega
 have e4: ¬ ((room:Int)>16):=by omega
 refine rl (rj ?_);go_wp2;refine rl (rj ?_);go_wp2;refine rl (rj ?_);have h3:=fwc;have h4: ∀ W,(Instr.makeMap 76 none).run PV W= .ok (.map (some W.heap.size)) (W.alloc (.map #[] 0)):=fun W=>run_makeMap 76 W;replace h1:=h1.out;replace h2:=h2.out
 go_region
 all_goals clear h1 h2 h3 h4
 all_goals (refine .inl ⟨rfl,hK.out _ _ _ _ _ _ _ _ _ _ _ _ _ _ _ _ _ _ _ _ _ _ _ _ _ _ _ _ _ _ _ _ _ _ _ _ _ _ _ _ _ _ _ _ _ _ _ _ _ _ _ _ _ _ _ _ _ _ _ _ _ _ _ _ _ _ _ _ _ _ _ _ _ _ _ _ _ _ ⟨ga,fe,fe,fe,fe,fe,gm,⟨gm⟩,⟨gm⟩,gm,⟨gm⟩,⟨gm⟩⟩⟩)
noncomputable def ft1:Code:=match new4 with | .seq c _=>c | _=> .skip
noncomputable def new5:Code:=match new4 with | .seq _ c=>c | _=> .skip
noncomputable def da:Code→Array Oper | .region _ ops _=>ops | _=> #[]
def ft2 (n room:Nat) (v:World) (fr:Frame) (w:World):Prop:=
 ∃ (x2 x3 x7 x8 x9 x10 x11 x12 x13 x14 x15 x16 x17 x18 x19 x20 x21 x22 x23 x24 x25 x26 x27 x28 x29 x30 x31 x32 x33 x35 x36 x37 x38 x39 x40 x42 x43 x44 x45 x46 x47 x48 x49 x50 x51 x52 x53 x54 x55 x56 x57 x58 x59 x60 x61 x62 x63 x64 x65 x66 x67 x68 x69 x70 x71 x72 x73 x74 x75 x76 x77 x78 x79 x80:Value) (bm es ns ch sb b:Nat),NewA n v w bm es ns ch sb b∧fr=(base 18).at ⟨(.int .i64 (n:Int):: .int .i64 (room:Int)::x2::x3:: .pointer none:: .nilIface:: .pointer (some ⟨b,0,none⟩)::x7::x8::x9::x10::x11::x12::x13::x14::x15::x16::x17::x18::x19::x20::x21::x22::x23::x24::x25::x26::x27::x28::x29::x30::x31::x32::x33:: .pointer (some ⟨b,0,none⟩)::x35::x36::x37::x38::x39::x40:: .chan (some ch)::x42::x43::x44::x45::x46::x47::x48::x49::x50::x51::x52::x53::x54::x55::x56::x57::x58::x59::x60::x61::x62::x63::x64::x65::x66::x67::x68::x69::x70::x71::x72::x73::x74::x75::x76::x77::x78::x79::x80::[]).toArray,[]⟩ [.inRegion (da ft1) [8],.code new5]
def new_1 (n room:Nat) (hn1:1≤n) (hn6:n≤6) (hr1:1≤room) (hr16:room≤16) (v:World):RunTo (ft2 n room v) (Frame.enter Tryz.prog 18 #[.int .i64 (n:Int),.int .i64 (room:Int)] .normal) v:=by
 refine new_a n room hn1 hn6 hr1 hr16 v ?_;intro x2 x3 x7 x8 x9 x10 x11 x12 x13 x14 x15 x16 x17 x18 x19 x20 x21 x22 x23 x25 x27 x30 x32 x33 x34 x35 x36 x37 x38 x39 x40 x41 x42 x43 x44 x45 x46 x47 x48 x49 x50 x51 x52 x53 x54 x55 x56 x57 x58 x59 x60 x61 x62 x63 x64 x65 x66 x67 x68 x69 x70 x71 x72 x73 x74 x75 x76 x77 x78 x79 x80 bm es ns ch sb b w hA;obtain ⟨c0,d0⟩:=hA.b_.ceF;obtain ⟨c1,d1⟩:=hA.s_.ceF;have hL:=fx6 hA;clear hA;refine rl (yt ?_);simp only [szs];refine uy rfl rfl (u:= .pointer (some ⟨b,0,none⟩)) (v1:=w) gw ?_;walk_nrm;refine uy rfl rfl (u:= .pointer (some ⟨b,0,none⟩)) (v1:=w) gw ?_;walk_nrm;refine uy rfl rfl (u:= .pointer (some ⟨b,0,none⟩)) (v1:=w) gw ?_;walk_nrm;refine uy rfl rfl (u:= .pointer (some ⟨b,3,none⟩)) (v1:=w) gw ?_;walk_nrm;refine uy rfl rfl (u:= .pointer (some ⟨sb,0,none⟩)) (v1:=w) gw ?_;walk_nrm;refine uy rfl rfl (u:= .pointer (some ⟨sb,0,none⟩)) (v1:=w) gw ?_;walk_nrm;refine uy rfl rfl (u:= .pointer (some ⟨sb,5,none⟩)) (v1:=w) gw ?_;walk_nrm;refine uy rfl rfl (u:= .chan (some ch)) (v1:=w) gw ?_;walk_nrm;exact zt ⟨_,_,_,_,_,_,_,_,_,_,_,_,_,_,_,_,_,_,_,_,_,_,_,_,_,_,_,_,_,_,_,_,_,_,_,_,_,_,_,_,_,_,_,_,_,_,_,_,_,_,_,_,_,_,_,_,_,_,_,_,_,_,_,_,_,_,_,_,_,_,_,_,_,_,bm,es,ns,ch,sb,b,hL.out,rfl⟩
def RtQ (Z:Frame→World→Prop) (b:Frame) (k:List Item):Exit→Act→World→Prop
 | .normal,a,v=>RunTo Z (b.at a k) v
 | .ret,a,v=> ∀ todo,RunTo Z { b.at a todo with mode:= .returning } v
 | _,_,_=>False
def ig (w:World):w.drew.heap.size=w.heap.size:=rfl
def rt_q {Z:Frame→World→Prop} {b:Frame} {k:List Item} {c:Code} {a:Act} {v:World} (h:c.wp PV (RtQ Z b k) a v):RunTo Z (b.at a (.code c::k)) v:=by
 refine rj (wp_mono h fun e a' v' h=> ?_);cases e with
 | normal=>exact .inl ⟨rfl,h⟩
 | ret=>exact .inr ⟨rfl,h⟩
 | _=>exact h.elim
def rt_n {Z:Frame→World→Prop} {b:Frame} {k:List Item} {a:Act} {v:World} (h:RunTo Z (b.at a k) v):RtQ Z b k .normal a v:=h
noncomputable def ft3:Code:=match new5 with | .seq (.seq _ (.block _ (.loop c))) _=>c | _=> .skip
noncomputable def new13:Code:=match new5 with | .seq _ c=>c | _=> .skip
abbrev nilS:Value:= .slice none 0 0
def V0:Vals:=⟨fun _=>nilS,fun _=>nilS,fun _=>nilS,nilS,nilS⟩
def cl0:Plain.Cl:=⟨[],0,⟨0,0,0,[]⟩,0,[],[]⟩
def fes (n room i:Nat) (L:Lay) (fr:Frame):Prop:=
 ∃ (x2 x3 x7 x8 x9 x10 x11 x12 x13 x14 x15 x16 x17 x18 x19 x20 x21 x22 x23 x24 x25 x26 x27 x28 x29 x30 x31 x32 x33 x34 x35 x36 x37 x38 x39 x40 x41 x42 x45 x46 x47 x48 x49 x50 x51 x52 x53 x54 x55 x56 x57 x58 x59 x60 x61 x62 x63 x64 x65 x66 x67 x68 x69 x70 x71 x72 x73 x74 x75 x76 x77 x78 x79 x80:Value),fr=(base 18).at ⟨(.int .i64 (n:Int):: .int .i64 (room:Int)::x2::x3:: .pointer none:: .nilIface:: .pointer (some ⟨L.b,0,none⟩)::x7::x8::x9::x10::x11::x12::x13::x14::x15::x16::x17::x18::x19::x20::x21::x22::x23::x24::x25::x26::x27::x28::x29::x30::x31::x32::x33::x34::x35::x36::x37::x38::x39::x40::x41::x42:: .int .i64 (n:Int):: .int .i64 (i:Int)::x45::x46::x47::x48::x49::x50::x51::x52::x53::x54::x55::x56::x57::x58::x59::x60::x61::x62::x63::x64::x65::x66::x67::x68::x69::x70::x71::x72::x73::x74::x75::x76::x77::x78::x79::x80::[]).toArray,[]⟩ [.code ft3,.inLoop ft3,.inBlock 0,.code new13]
structure NewK (i room:Nat) (w w':World) (k uc dc ch:Nat):Prop where
 old:Bl w w'
 ge:w.heap.size≤k∧w.heap.size≤uc∧w.heap.size≤dc∧w.heap.size≤ch
 ne1:k≠uc∧k≠uc+1∧k≠dc∧k≠dc+1∧k≠ch
 ne2:uc≠dc∧uc≠dc+1∧uc≠ch
 ne3:uc+1≠dc∧uc+1≠ch
 ne4:dc≠ch∧dc+1≠ch
 k_:Bk w' k 89 #[.int .i64 (i:Int),nilS,.int .i64 0,.int .i64 0,.int .i64 0,.int .i64 0,nilS,.pointer (some ⟨uc+1,0,none⟩),.pointer (some ⟨dc+1,0,none⟩),.int .i64 0,.chan (some ch)]
 up:Lnk w' (uc+1) uc room []
 dn:Lnk w' (dc+1) dc room []
 c_:w'.heap[ch]? =some (.chan 0 #[] false 0 0 false)
noncomputable def newB1:Code:=match ft3 with | .seq _ (.seq _ (.seq (.block _ c) _))=>c | _=> .skip
noncomputable def new12:Code:=match ft3 with | .seq _ (.seq _ (.seq _ c))=>c | _=> .skip
noncomputable def new9:Code:=match newB1 with | .seq _ (.seq _ c)=>c | _=> .skip
noncomputable def fp5:List Item:=[.inBlock 1,.code new12,.inLoop ft3,.inBlock 0,.code new13]
def new_2 {Z:Frame→World→Prop} (n room i:Nat) (L:Lay) (hi:i<n) (hn6:n≤6) (hr1:1≤room) (hr16:room≤16) (w:World) {fr:Frame} (hfr:fes n room i L fr)
    (hk: ∀ (x2 x3 x9 x10 x11 x12 x13 x14 x15 x16 x17 x18 x19 x20 x21 x22 x23 x24 x25 x26 x27 x28 x29 x30 x31 x32 x33 x34 x35 x36 x37 x38 x39 x40 x41 x42 x45 x46 x47 x48 x50 x53 x54 x55 x56 x57 x58 x59 x60 x61 x62 x63 x64 x65 x66 x67 x68 x69 x70 x71 x72 x73 x74 x75 x76 x77 x78 x79 x80:Value) (k uc dc ch:Nat) (w':World),NewK i room w w' k uc dc ch→RunTo Z ((base 18).at ⟨(.int .i64 (n:Int):: .int .i64 (room:Int)::x2::x3:: .pointer none:: .nilIface:: .pointer (some ⟨L.b,0,none⟩):: .int .i64 (i:Int):: .pointer (some ⟨k,0,none⟩)::x9::x10::x11::x12::x13::x14::x15::x16::x17::x18::x19::x20::x21::x22::x23::x24::x25::x26::x27::x28::x29::x30::x31::x32::x33::x34::x35::x36::x37::x38::x39::x40::x41::x42:: .int .i64 (n:Int):: .int .i64 (i:Int)::x45::x46::x47::x48:: .pointer (some ⟨uc+1,0,none⟩)::x50:: .pointer (some ⟨dc+1,0,none⟩):: .chan (some ch)::x53::x54::x55::x56::x57::x58::x59::x60::x61::x62::x63::x64::x65::x66::x67::x68::x69::x70::x71::x72::x73::x74::x75::x76::x77::x78::x79::x80::[]).toArray,[]⟩ (.code new9::fp5)) w'):RunTo Z fr w:=by
 obtain ⟨x2,x3,x7,x8,x9,x10,x11,x12,x13,x14,x15,x16,x17,x18,x19,x20,x21,x22,x23,x24,x25,x26,x27,x28,x29,x30,x31,x32,x33,x34,x35,x36,x37,x38,x39,x40,x41,x42,x45,x46,x47,x48,x49,x50,x51,x52,x53,x54,x55,x56,x57,x58,x59,x60,x61,x62,x63,x64,x65,x66,x67,x68,x69,x70,x71,x72,x73,x74,x75,x76,x77,x78,x79,x80,rfl⟩:=hfr;have e1:(i:Int)<n:=by omega
 have hNL:=fx6 (fun W=>newlink room W fe);have h3:=fx6 fwc;have hK:=fx6 hk;clear hk;refine rl (rj ?_);go_wp2;refine rl (ya (t:=true) rfl (bo (rl (yv (rl (rj ?_))))));go_wp2;refine rl (rt_q ?_);replace h3:=h3.out
 go_region_with (first | (go_at_call 38;refine (hNL.out _).mono ?_;rintro e w1 ⟨rfl,hL1,hB1⟩;replace hL1:=fx6 hL1;replace hB1:=fx6 hB1))
 all_goals clear h3 hNL
 all_goals walk_nrm
 all_goals rename_i wa hLa hBa
 all_goals (have la:=hLa.out.lb.lt;have lb:=hL1.out.lb.lt;have sa:=hBa.out.size;have sb:=hB1.out.size)
 all_goals try simp only [ig,vp] at la lb sa sb
 all_goals (have hA2:=hLa.out;have hC2:=hL1.out)
 all_goals try simp only [ig,vp] at hA2
 all_goals try simp only [ig,vp] at hC2
 all_goals exact rt_n (hK.out _ _ _ _ _ _ _ _ _ _ _ _ _ _ _ _ _ _ _ _ _ _ _ _ _ _ _ _ _ _ _ _ _ _ _ _ _ _ _ _ _ _ _ _ _ _ _ _ _ _ _ _ _ _ _ _ _ _ _ _ _ _ _ _ _ _ _ _ _ _ _ _ _ _ ⟨gn,jv,jv,jv,jv,jv,Bk.nw (by first | rfl | exact vp _ _),(hA2.bl gn),(hC2.bl gn),(by
    rw [nv]
    first
     | (rw [fx9 (by simp only [vp];omega),nv,f02 rfl];done)
     | (rw [fx9 fe];exact (hB1.out.block _ (by simp only [vp];omega)).trans (by rw [nv,f02 rfl]))
     | (rw [fx9 fe];exact (hB1.out.block _ fe).trans ((hBa.out.block _ (by simp only [ig,vp];omega)).trans (by rw [fer,nv,f02 rfl]))))⟩)
structure Part (n room i m j:Nat) (L:Lay) (ow:Nat→Nat) (n0:Nat) (w:World):Prop where
 base:Base w
 n12:12≤n0
 low: ∀ x,x<n0→ow x=0
 le:n0≤w.heap.size
 fresh: ∀ x,w.heap.size≤x→ow x=0
 tag:Tags L V0 i ow
 bb:Bk w L.b 75 #[.int .i32 0,.int .u32 0,L.cls,.pointer (some ⟨L.sb,0,none⟩),.int .i64 0,.bool false,.int .u64 ((m:Nat)*K32),.int .u32 0]
 ss:Bk w L.sb 80 (srvC L n nilS nilS)
 ee:Bk w L.eb 86 (endZ n)
 nn:Bk w L.nb 3 (ft0 n)
 mp:Mp w L.mb i (fun _=>0)
 ar:w.ownsRow 0 83 1 L.cls i (clsL L i)
 kk: ∀ c,c<i→Bk w (L.kb c) 89 (cliC L c nilS nilS cl0)
 up: ∀ c,c<i→Lnk w (L.ul c) (L.uc c) room []
 dn: ∀ c,c<i→Lnk w (L.dl c) (L.dc c) room []
 m0:MarkAt w L.c0
 ms: ∀ c,c<j→MarkAt w (L.wc c)
def MarkAt.lt' {v:World} {c:Nat} (h:MarkAt v c):c<v.heap.size:=by
 obtain ⟨x,s,r,h⟩:=h;exact (fx5.1 h).1
def fb9 (L:Lay) (i k uc dc ch g cap:Nat):Lay:=
 { L with cls:= .slice (some ⟨g,0,none⟩) (i+1) cap,kb:=Plain.put L.kb i k,ul:=Plain.put L.ul i (uc+1),uc:=Plain.put L.uc i uc,dl:=Plain.put L.dl i (dc+1),dc:=Plain.put L.dc i dc,wc:=Plain.put L.wc i ch }
def zz (ow:Nat→Nat) (i k uc dc ch g:Nat) (x:Nat):Nat:=
 if x=k then 16*i+16 else if x=uc+1 then 16*i+17 else if x=uc then 16*i+18 else if x=dc+1 then 16*i+19 else if x=dc then 16*i+20 else if x=ch then 16*i+21 else if x=g then 9 else ow x
def fk3 {ow:Nat→Nat} {i k uc dc ch g x:Nat} (h1:x≠k) (h2:x≠uc+1) (h3:x≠uc) (h4:x≠dc+1) (h5:x≠dc) (h6:x≠ch) (h7:x≠g):zz ow i k uc dc ch g x=ow x:=by
 simp only [zz,fx9 h1,fx9 h2,fx9 h3,fx9 h4,fx9 h5,fx9 h6,fx9 h7]
section
variable {n room i m j:Nat} {L:Lay} {ow:Nat→Nat} {n0:Nat} {w w1 w2:World} {k uc dc ch g cap:Nat}
def ft4 (L:Lay) (i k uc dc ch g cap:Nat):clsL (fb9 L i k uc dc ch g cap) (i+1)=clsL L i++[.pointer (some ⟨k,0,none⟩)]:=by
 unfold clsL;rw [List.range_succ,List.map_append]
 congr 1
 · apply f5j;intro c hc;have:=f2s.1 hc;simp only [fb9,Plain.put_ne _ _ (show c≠i by omega)]
 · simp [fb9,Plain.put_same]
def ft5 (hi:i<n) (hn:n≤6) (hP:Part n room i m j L ow n0 w) (hN:NewK i room w w1 k uc dc ch) (hj:j≤i)
    (hC:Ch (fun x=>x=L.mb∨x=L.b∨L.cls.ownBlock=some x) w1 w2)
    (hbb:Bk w2 L.b 75 #[.int .i32 0,.int .u32 0,.slice (some ⟨g,0,none⟩) (i+1) cap,.pointer (some ⟨L.sb,0,none⟩),.int .i64 0,.bool false,.int .u64 ((m:Nat)*K32),.int .u32 0])
    (hmp:Mp w2 L.mb (i+1) (Plain.put (fun _=>0) i 0)) (har:w2.ownsRow 0 83 1 (.slice (some ⟨g,0,none⟩) (i+1) cap) (i+1) (clsL L i++[.pointer (some ⟨k,0,none⟩)]))
    (hg:L.cls.ownBlock=some g∨w1.heap.size≤g) (hgl:g<w2.heap.size):
    Part n room (i+1) m j (fb9 L i k uc dc ch g cap) (zz ow i k uc dc ch g) n0 w2∧w2.heap[ch]? =some (.chan 0 #[] false 0 0 false):=by
 obtain ⟨g1,g2,g3,g4⟩:=hN.ge;obtain ⟨a1,a2,a3,a4,a5⟩:=hN.ne1;obtain ⟨b1,b2,b3⟩:=hN.ne2;obtain ⟨c1,c2⟩:=hN.ne3;obtain ⟨d1,d2⟩:=hN.ne4;have T:=hP.tag;have lk:=hN.k_.lt;have lu:=hN.up.lb.lt;have ld:=hN.dn.lb.lt;have lc:ch<w1.heap.size:=(fx5.1 hN.c_).1;have hs1:=hN.old.size;have hs2:=hC.size
 have hold: ∀ x,ow x≠0→x<w.heap.size:=fun x hx=>by
    rcases f01 x w.heap.size with h | h
    · exact h
    · exact absurd (hP.fresh x h) hx
 have hgO:g<w.heap.size→ow g=9:=fun h=>by
    rcases hg with h' | h'
    · exact T.ar g h'
    · omega
 have hgN:g<w.heap.size∨w1.heap.size≤g:=by
    rcases hg with h' | h'
    · exact .inl (hold g (by rw [T.ar g h'];omega))
    · exact .inr h'
 have old: ∀ x,x<w.heap.size→zz ow i k uc dc ch g x=ow x:=fun x hx=>by
    by_cases e:x=g
    · subst e;have:=hgO hx;simp only [zz,fx9 (show x≠k by omega),fx9 (show x≠uc+1 by omega),fx9 (show x≠uc by omega),fx9 (show x≠dc+1 by omega),fx9 (show x≠dc by omega),fx9 (show x≠ch by omega),f0e,this]
    · exact fk3 fe fe fe fe fe fe e
 have tk:zz ow i k uc dc ch g k=16*i+16:=by simp [zz]
 have tul:zz ow i k uc dc ch g (uc+1)=16*i+17:=by simp only [zz,fx9 (show uc+1≠k by omega),f0e]
 have tuc:zz ow i k uc dc ch g uc=16*i+18:=by simp only [zz,fx9 (show uc≠k by omega),fx9 (show uc≠uc+1 by omega),f0e]
 have tdl:zz ow i k uc dc ch g (dc+1)=16*i+19:=by simp only [zz,fx9 (show dc+1≠k by omega),fx9 (show dc+1≠uc+1 by omega),fx9 (show dc+1≠uc by omega),f0e]
 have tdc:zz ow i k uc dc ch g dc=16*i+20:=by simp only [zz,fx9 (show dc≠k by omega),fx9 (show dc≠uc+1 by omega),fx9 (show dc≠uc by omega),fx9 (show dc≠dc+1 by omega),f0e]
 have tch:zz ow i k uc dc ch g ch=16*i+21:=by simp only [zz,fx9 (show ch≠k by omega),fx9 (show ch≠uc+1 by omega),fx9 (show ch≠uc by omega),fx9 (show ch≠dc+1 by omega),fx9 (show ch≠dc by omega),f0e]
 have tg:zz ow i k uc dc ch g g=9:=by
    rcases hgN with h | h
    · rw [old g h];exact hgO h
    · simp only [zz,fx9 (show g≠k by omega),fx9 (show g≠uc+1 by omega),fx9 (show g≠uc by omega),fx9 (show g≠dc+1 by omega),fx9 (show g≠dc by omega),fx9 (show g≠ch by omega),f0e]
 have nz: ∀ x y,ow x=y→y≠0→x<w.heap.size:=fun x y h hy=>hold x (by rw [h];exact hy)
 have keep1: ∀ x,x<w.heap.size→ow x≠5→ow x≠1→ow x≠9→w2.heap[x]? =w.heap[x]? :=fun x hx h5 h1 h9=>by
    refine (hC.block x fe ?_).trans (hN.old.block x hx);rintro (rfl | rfl | h)
    · exact h5 T.mb
    · exact h1 T.b
    · exact h9 (T.ar x h)
 have keep2: ∀ x,w.heap.size≤x→x<w1.heap.size→w2.heap[x]? =w1.heap[x]? :=fun x hx hx'=>by
    refine hC.block x hx' ?_;rintro (rfl | rfl | h)
    · have:=nz _ _ T.mb fe;omega
    · have:=nz _ _ T.b fe;omega
    · have:=nz _ _ (T.ar x h) fe;omega
 have keptB: ∀ {x t cs},Bk w x t cs→ow x≠5→ow x≠1→ow x≠9→Bk w2 x t cs:=fun hb h5 h1 h9=>⟨(keep1 _ hb.lt h5 h1 h9).trans hb.at_⟩
 have keptL: ∀ {l c U},Lnk w l c room U→ow l≠5→ow l≠1→ow l≠9→ow c≠5→ow c≠1→ow c≠9→Lnk w2 l c room U:=fun hl h5 h1 h9 k5 k1 k9=>⟨keptB hl.lb h5 h1 h9,by
    obtain ⟨s,r,h⟩:=hl.ch;exact ⟨s,r,(keep1 _ (fx5.1 h).1 k5 k1 k9).trans h⟩⟩
 refine ⟨?_,(keep2 ch fe lc).trans hN.c_⟩;refine ⟨?_,hP.n12,fun x hx=> ?_,by have:=hP.le;omega,fun x hx=> ?_,?_,hbb,?_,?_,?_,?_,?_,?_,?_,?_,?_,?_⟩
 · obtain ⟨⟨t0,q0,h0⟩,⟨t1,q1,h1⟩⟩:=hP.base;have z0:=T.lo 0 fe;have z1:=T.lo 1 fe;exact ⟨⟨t0,q0,keptB h0 fe fe fe⟩,⟨t1,q1,keptB h1 fe fe fe⟩⟩
 · have:=hP.le;rw [old x fe];exact hP.low x hx
 · rw [fk3 fe fe fe fe fe fe fe];exact hP.fresh x fe
 · have ld': ∀ x y,ow x=y+1→zz ow i k uc dc ch g x=y+1:=fun x y h=>by rw [old x (nz x _ h fe)];exact h
   have pick: ∀ {f:Nat→Nat} {y:Nat} {o:Nat},(∀ c,c<i→ow (f c)=16*c+o)→16≤o→zz ow i k uc dc ch g y=16*i+o→ ∀ c,c<i+1→zz ow i k uc dc ch g (Plain.put f i y c)=16*c+o:=fun {f y o} h ho hy c hc=>by
    by_cases e:c=i
    · subst e;rw [Plain.put_same];exact hy
    · rw [Plain.put_ne _ _ e,old _ (nz _ _ (h c fe) fe)];exact h c fe
   refine ⟨fun x hx=> ?_,ld' _ _ T.b,ld' _ _ T.sb,ld' _ _ T.eb,ld' _ _ T.nb,ld' _ _ T.mb,ld' _ _ T.c0,fun x hx=>pl,fun x hx=> ?_,pick T.kb fe tk,pick T.ul fe tul,pick T.uc fe tuc,pick T.dl fe tdl,pick T.dc fe tdc,pick T.wc fe tch,fun c _ x hx=>pl,fun c _ x hx=>pl⟩
   · have:=hP.n12;have:=hP.le;rw [old x fe];exact T.lo x hx
   · obtain rfl:g=x:=by simpa [fb9,Value.ownBlock] using hx
     exact tg
 · exact keptB hP.ss (by have:=T.sb;show ow L.sb≠5;omega) (by have:=T.sb;show ow L.sb≠1;omega) (by have:=T.sb;show ow L.sb≠9;omega)
 · exact keptB hP.ee (by have:=T.eb;show ow L.eb≠5;omega) (by have:=T.eb;show ow L.eb≠1;omega) (by have:=T.eb;show ow L.eb≠9;omega)
 · exact keptB hP.nn (by have:=T.nb;show ow L.nb≠5;omega) (by have:=T.nb;show ow L.nb≠1;omega) (by have:=T.nb;show ow L.nb≠9;omega)
 · exact hmp.cv fun c hc=>by
    by_cases e:c=i
    · subst e;rw [Plain.put_same]
    · rw [Plain.put_ne _ _ e]
 · rw [ft4];exact har
 · intro c hc;by_cases e:c=i
   · subst e;show Bk w2 (Plain.put L.kb c k c) 89 (cliC (fb9 L c k uc dc ch g cap) c nilS nilS cl0);rw [Plain.put_same];refine Bk.cv ⟨(keep2 k g1 lk).trans hN.k_.at_⟩ ?_;simp [cliC,fb9,Plain.put_same,cl0]
   · show Bk w2 (Plain.put L.kb i k c) 89 (cliC (fb9 L i k uc dc ch g cap) c nilS nilS cl0);rw [Plain.put_ne _ _ e];have hc':c<i:=by omega
     have ht:=T.kb c hc';refine Bk.cv (keptB (hP.kk c hc') fe fe fe) ?_;simp [cliC,fb9,Plain.put_ne _ _ e]
 · intro c hc;by_cases e:c=i
   · subst e;show Lnk w2 (Plain.put L.ul c (uc+1) c) (Plain.put L.uc c uc c) room [];rw [Plain.put_same,Plain.put_same];refine ⟨⟨(keep2 (uc+1) fe lu).trans hN.up.lb.at_⟩,?_⟩;obtain ⟨s,r,h⟩:=hN.up.ch;exact ⟨s,r,(keep2 uc g2 fe).trans h⟩
   · show Lnk w2 (Plain.put L.ul i (uc+1) c) (Plain.put L.uc i uc c) room [];rw [Plain.put_ne _ _ e,Plain.put_ne _ _ e];have hc':c<i:=by omega
     have ht:=T.ul c hc';have ht':=T.uc c hc';exact keptL (hP.up c hc') fe fe fe fe fe fe
 · intro c hc;by_cases e:c=i
   · subst e;show Lnk w2 (Plain.put L.dl c (dc+1) c) (Plain.put L.dc c dc c) room [];rw [Plain.put_same,Plain.put_same];refine ⟨⟨(keep2 (dc+1) fe ld).trans hN.dn.lb.at_⟩,?_⟩;obtain ⟨s,r,h⟩:=hN.dn.ch;exact ⟨s,r,(keep2 dc g3 fe).trans h⟩
   · show Lnk w2 (Plain.put L.dl i (dc+1) c) (Plain.put L.dc i dc c) room [];rw [Plain.put_ne _ _ e,Plain.put_ne _ _ e];have hc':c<i:=by omega
     have ht:=T.dl c hc';have ht':=T.dc c hc';exact keptL (hP.dn c hc') fe fe fe fe fe fe
 · have:=T.c0;exact hP.m0.to (keep1 _ hP.m0.lt' (by show ow L.c0≠5;omega) (by show ow L.c0≠1;omega) (by show ow L.c0≠9;omega))
 · intro c hc;show MarkAt w2 (Plain.put L.wc i ch c);rw [Plain.put_ne _ _ (show c≠i by omega)];have ht:=T.wc c fe;exact (hP.ms c hc).to (keep1 _ (hP.ms c hc).lt' fe fe fe)
end
section
variable {n room i:Nat} {L:Lay} {ow:Nat→Nat} {n0:Nat} {w w1 w2 v:World}
def StartV.keep {b k m:Nat} (h:StartV b k m w w1): ∀ x,x<w.heap.size→x≠b→x≠k→w1.heap[x]? =w.heap[x]? :=h.same
def fk4 (hi:i<n) (hP:Part n room (i+1) (i+1) i L ow n0 w) (hS:StartV L.b (L.wc i) (i+1) w w1):Part n room (i+1) (i+2) (i+1) L ow n0 w1:=by
 have T:=hP.tag;have hk:ow (L.wc i)=16*i+21:=T.wc i fe;have keep: ∀ x,x<w.heap.size→ow x≠1→ow x≠16*i+21→w1.heap[x]? =w.heap[x]? :=fun x hx h1 h2=>hS.same x hx (fun e=>h1 (by rw [e];exact T.b)) (fun e=>h2 (by rw [e];exact hk));have keptB: ∀ {x t cs},Bk w x t cs→ow x≠1→ow x≠16*i+21→Bk w1 x t cs:=fun hb h1 h2=>⟨(keep _ hb.lt h1 h2).trans hb.at_⟩
 have keptL: ∀ {l c U},Lnk w l c room U→ow l≠1→ow l≠16*i+21→ow c≠1→ow c≠16*i+21→Lnk w1 l c room U:=fun hl h1 h2 h3 h4=>⟨keptB hl.lb h1 h2,by
    obtain ⟨s,r,h⟩:=hl.ch;exact ⟨s,r,(keep _ (fx5.1 h).1 h3 h4).trans h⟩⟩
 have tsb:=T.sb;have teb:=T.eb;have tnb:=T.nb;have tmb:=T.mb;have tc0:=T.c0;have z0:=T.lo 0 fe;have z1:=T.lo 1 fe;refine ⟨?_,hP.n12,hP.low,by have:=hP.le;have:=hS.size;omega,fun x hx=>hP.fresh x (by have:=hS.size;omega),T,?_,?_,?_,?_,?_,?_,?_,?_,?_,?_,?_⟩
 · obtain ⟨⟨t0,q0,h0⟩,⟨t1,q1,h1⟩⟩:=hP.base;exact ⟨⟨t0,q0,keptB h0 fe fe⟩,⟨t1,q1,keptB h1 fe fe⟩⟩
 · have:=hS.ses _ _ hP.bb.at_;exact ⟨this⟩
 · exact keptB hP.ss fe fe
 · exact keptB hP.ee fe fe
 · exact keptB hP.nn fe fe
 · exact ⟨(keep _ hP.mp.lt fe fe).trans hP.mp.at_⟩
 · refine ⟨hP.ar.1,?_⟩;rcases hP.ar.2 with h | ⟨g,cap,cur,h1,h2,h3,h4⟩
   · exact .inl h
   · have hg:=T.ar g (by rw [h1];rfl);exact .inr ⟨g,cap,cur,h1,h2,(keep g (fx5.1 h3).1 fe fe).trans h3,h4⟩
 · intro c hc;have:=T.kb c hc;exact keptB (hP.kk c hc) fe fe
 · intro c hc;have:=T.ul c hc;have:=T.uc c hc;exact keptL (hP.up c hc) fe fe fe fe
 · intro c hc;have:=T.dl c hc;have:=T.dc c hc;exact keptL (hP.dn c hc) fe fe fe fe
 · exact hP.m0.to (keep _ hP.m0.lt' fe fe)
 · intro c hc;by_cases e:c=i
   · subst e;exact ⟨_,_,_,hS.mark⟩
   · have:=T.wc c fe;exact (hP.ms c fe).to (keep _ (hP.ms c fe).lt' fe fe)
def L0 (b sb es ns bm ch:Nat):Lay:=⟨b,sb,es,ns,bm,ch,nilS,.int .u32 0,.int .u64 0,.int .u32 0,fun _=>0,fun _=>0,fun _=>0,fun _=>0,fun _=>0,fun _=>0⟩
def O0 (b sb es ns bm ch:Nat) (x:Nat):Nat:=if x=b then 1 else if x=sb then 2 else if x=es then 3 else if x=ns then 4 else if x=bm then 5 else if x=ch then 6 else 0
def fp6 {bm es ns ch sb b:Nat} (hb:Base v) (h12:12≤v.heap.size) (hA:NewA n v w bm es ns ch sb b) (hS:StartV b ch 0 w w1):
    Part n room 0 1 0 (L0 b sb es ns bm ch) (O0 b sb es ns bm ch) v.heap.size w1:=by
 obtain ⟨g1,g2,g3,g4,g5,g6⟩:=hA.ge;obtain ⟨a1,a2,a3,a4,a5⟩:=hA.ne1;obtain ⟨b1,b2,b3,b4⟩:=hA.ne2;obtain ⟨c1,c2,c3⟩:=hA.ne3;obtain ⟨d1,d2,d3⟩:=hA.ne4;have l1:=(fx5.1 hA.m_).1;have l2:=hA.e_.lt;have l3:=hA.n_.lt;have l4:=(fx5.1 hA.c_).1;have l5:=hA.s_.lt;have l6:=hA.b_.lt;have hsz:=hA.old.size;have hs2:=hS.size
 have zero: ∀ x,x≠b→x≠sb→x≠es→x≠ns→x≠bm→x≠ch→O0 b sb es ns bm ch x=0:=fun x h1 h2 h3 h4 h5 h6=>by
    simp only [O0,fx9 h1,fx9 h2,fx9 h3,fx9 h4,fx9 h5,fx9 h6]
 have keptO: ∀ {x t cs},Bk v x t cs→Bk w1 x t cs:=fun {x t cs} hb=>⟨by
    have:=hb.lt;rw [hS.same x fe fe fe,hA.old.block x fe];exact hb.at_⟩
 refine ⟨?_,h12,fun x hx=>zero x fe fe fe fe fe fe,by omega,fun x hx=>zero x fe fe fe fe fe fe,?_,?_,?_,?_,?_,?_,?_,fun c hc=>by omega,fun c hc=>by omega,fun c hc=>by omega,?_,fun c hc=>by omega⟩
 · obtain ⟨⟨t0,q0,h0⟩,⟨t1,q1,h1⟩⟩:=hb;exact ⟨⟨t0,q0,keptO h0⟩,⟨t1,q1,keptO h1⟩⟩
 · refine ⟨fun x hx=>zero x fe fe fe fe fe fe,?_,?_,?_,?_,?_,?_,fun x hx=>pl,fun x hx=>pl,fun c hc=>by omega,fun c hc=>by omega,fun c hc=>by omega,fun c hc=>by omega,fun c hc=>by omega,fun c hc=>by omega,fun c _ x hx=>pl,fun c _ x hx=>pl⟩
   · simp [O0,L0]
   · simp only [O0,L0,fx9 (show sb≠b by omega),f0e]
   · simp only [O0,L0,fx9 (show es≠b by omega),fx9 (show es≠sb by omega),f0e]
   · simp only [O0,L0,fx9 (show ns≠b by omega),fx9 (show ns≠sb by omega),fx9 (show ns≠es by omega),f0e]
   · simp only [O0,L0,fx9 (show bm≠b by omega),fx9 (show bm≠sb by omega),fx9 (show bm≠es by omega),fx9 (show bm≠ns by omega),f0e]
   · simp only [O0,L0,fx9 (show ch≠b by omega),fx9 (show ch≠sb by omega),fx9 (show ch≠es by omega),fx9 (show ch≠ns by omega),fx9 (show ch≠bm by omega),f0e]
 · have:=hS.ses _ _ hA.b_.at_;exact ⟨this⟩
 · exact ⟨(hS.same sb l5 fe fe).trans hA.s_.at_⟩
 · exact ⟨(hS.same es l2 fe fe).trans hA.e_.at_⟩
 · exact ⟨(hS.same ns l3 fe fe).trans hA.n_.at_⟩
 · refine ⟨(hS.same bm l1 fe fe).trans ?_⟩;rw [hA.m_];rfl
 · exact f0w w1 0 83 1
 · exact ⟨_,_,_,hS.mark⟩
def finL (n:Nat) (L:Lay):Lay:={ L with y1:= .int .u32 0,y6:= .int .u64 ((n+1:Nat)*K32),y7:= .int .u32 0 }
def ft6:ft0 n=cr n (fun _=>0):=by
 apply Array.ext';rw [toList_madeCells_one];unfold cr;simp only [List.map_const',List.length_range]
def fcp {c o:Nat} (hc:c<n) (ho:o<4):(endZ n)[c*4+o]? =(#[.int .i64 0,.int .i64 0,.int .i64 0,.slice none 0 0]:Array Value)[o]? :=by
 have h:c*4+o<n*4:=by omega
 unfold endZ madeCells;rw [f2c,Array.getElem?_range,f02 h];simp only [fz3]
 have e:(c*4+o)%(#[Value.int .i64 0,.int .i64 0,.int .i64 0,.slice none 0 0]:Array Value).size=o:=by
    show (c*4+o)%4=o;omega
 simp only [e];rcases (by omega:o=0∨o=1∨o=2∨o=3) with rfl | rfl | rfl | rfl <;>rfl
def ft7 (hP:Part n room n (n+1) n L ow n0 w):Mem (finL n L) V0 (Plain.new n room) 0 ow w∧Marks (finL n L) n w:=by
 have T:=hP.tag;refine ⟨⟨hP.base,?_,hP.fresh,?_,hP.ss,⟨⟨endZ n,hP.ee,size_madeCells _ _,fun c hc=>⟨fcp (o:=0) hc fe,fcp (o:=1) hc fe,fcp (o:=2) hc fe,fcp (o:=3) hc fe⟩⟩⟩,?_,hP.mp,hP.ar,Txt.nil w,f0w w 0 40 6,fun c hc=>hP.kk c hc,hP.up,hP.dn,fun c hc=>Txt.nil w,fun c hc=>f0w w 0 209 7,fun c hc=>f0w w 0 209 7⟩,⟨hP.m0,hP.ms⟩⟩
 · exact ⟨T.lo,T.b,T.sb,T.eb,T.nb,T.mb,T.c0,T.lg,T.ar,T.kb,T.ul,T.uc,T.dl,T.dc,T.wc,T.rv,T.er⟩
 · exact hP.bb
 · exact Bk.cv hP.nn ft6
end
noncomputable def ft8:Code:=match new9 with | .seq _ (.seq _ c)=>c | _=> .skip
structure fwp (i:Nat) (L L':Lay):Prop where
 b:L'.b=L.b
 c0:L'.c0=L.c0
 wc: ∀ c,c<i→L'.wc c=L.wc c
def flw (n room i:Nat) (L:Lay) (n0:Nat) (w0:World) (fr:Frame) (w:World):Prop:=
 ∃ (L':Lay) (ow':Nat→Nat),fwp i L L'∧Part n room (i+1) (i+1) i L' ow' n0 w∧w.heap[L'.wc i]? =some (.chan 0 #[] false 0 0 false)∧(∀ c,c<i→L'.wc c≠L'.wc i)∧L'.c0≠L'.wc i∧Old n0 w0 w∧
   ∃ (x2 x3 x7 x8 x9 x10 x11 x12 x13 x14 x15 x16 x17 x18 x19 x20 x21 x22 x23 x24 x25 x26 x27 x28 x29 x30 x31 x32 x33 x34 x35 x36 x37 x38 x39 x40 x41 x42 x45 x46 x47 x48 x49 x50 x51 x52 x53 x54 x55 x56 x57 x58 x59 x60 x61 x62 x63 x64 x65 x66 x67 x68 x69 x70 x71 x72 x74 x75 x76 x78 x79 x80:Value),fr=(base 18).at ⟨(.int .i64 (n:Int):: .int .i64 (room:Int)::x2::x3:: .pointer none:: .nilIface:: .pointer (some ⟨L'.b,0,none⟩)::x7::x8::x9::x10::x11::x12::x13::x14::x15::x16::x17::x18::x19::x20::x21::x22::x23::x24::x25::x26::x27::x28::x29::x30::x31::x32::x33::x34::x35::x36::x37::x38::x39::x40::x41::x42:: .int .i64 (n:Int):: .int .i64 (i:Int)::x45::x46::x47::x48::x49::x50::x51::x52::x53::x54::x55::x56::x57::x58::x59::x60::x61::x62::x63::x64::x65::x66::x67::x68::x69::x70::x71::x72:: .pointer (some ⟨L'.b,0,none⟩)::x74::x75::x76:: .chan (some (L'.wc i))::x78::x79::x80::[]).toArray,[]⟩ (.inRegion (da ft8) [5]::fp5)
def info83:(PV.info? 83).map (fun i=>(i.zero,i.size,i.bytes))=some (some (.pointer none),1,8):=by kernel_rfl
def und65:PV.underlying 65=some (.slice 83):=by kernel_rfl
def new_3 (n room i:Nat) (L:Lay) (ow:Nat→Nat) (n0:Nat) (hi:i<n) (hn6:n≤6) (w0 w:World) (hP:Part n room i (i+1) i L ow n0 w0) {k uc dc ch:Nat} (hN:NewK i room w0 w k uc dc ch)
    (x2 x3 x9 x10 x11 x12 x13 x14 x15 x16 x17 x18 x19 x20 x21 x22 x23 x24 x25 x26 x27 x28 x29 x30 x31 x32 x33 x34 x35 x36 x37 x38 x39 x40 x41 x42 x45 x46 x47 x48 x50 x53 x54 x55 x56 x57 x58 x59 x60 x61 x62 x63 x64 x65 x66 x67 x68 x69 x70 x71 x72 x73 x74 x75 x76 x77 x78 x79 x80:Value):RunTo (flw n room i L n0 w0) ((base 18).at ⟨(.int .i64 (n:Int):: .int .i64 (room:Int)::x2::x3:: .pointer none:: .nilIface:: .pointer (some ⟨L.b,0,none⟩):: .int .i64 (i:Int):: .pointer (some ⟨k,0,none⟩)::x9::x10::x11::x12::x13::x14::x15::x16::x17::x18::x19::x20::x21::x22::x23::x24::x25::x26::x27::x28::x29::x30::x31::x32::x33::x34::x35::x36::x37::x38::x39::x40::x41::x42:: .int .i64 (n:Int):: .int .i64 (i:Int)::x45::x46::x47::x48:: .pointer (some ⟨uc+1,0,none⟩)::x50:: .pointer (some ⟨dc+1,0,none⟩):: .chan (some ch)::x53::x54::x55::x56::x57::x58::x59::x60::x61::x62::x63::x64::x65::x66::x67::x68::x69::x70::x71::x72::x73::x74::x75::x76::x77::x78::x79::x80::[]).toArray,[]⟩ (.code new9::fp5)) w:=by
 have hb:Bk w L.b 75 #[.int .i32 0,.int .u32 0,L.cls,.pointer (some ⟨L.sb,0,none⟩),.int .i64 0,.bool false,.int .u64 ((i+1:Nat)*K32),.int .u32 0]:=hP.bb.bl hN.old;have hs:Bk w L.sb 80 (srvC L n nilS nilS):=hP.ss.bl hN.old;have hmp:Mp w L.mb i (fun _=>0):=hP.mp.ch (Ch.ba (K:=fun _=>False) hN.old) (fun h=>h);have har:w.ownsRow 0 83 1 L.cls i (clsL L i):=qx (Ch.ba (K:=fun _=>False) hN.old) hP.ar (fun _ _ h=>h);have T:=hP.tag;have n1:L.b≠L.mb:=fun e=>by have h1:=T.b;have h2:=T.mb;rw [e] at h1;omega
 have n2:L.sb≠L.mb:=fun e=>by have h1:=T.sb;have h2:=T.mb;rw [e] at h1;omega
 have n3: ∀ x,L.cls.ownBlock=some x→x≠L.b∧x≠L.mb:=fun x hx=>by
    have h0:=T.ar x hx;have h1:=T.b;have h2:=T.mb;exact ⟨fun e=>by rw [e] at h0;omega,fun e=>by rw [e] at h0;omega⟩
 have hnk:k≠L.mb∧k≠L.b∧ ∀ x,L.cls.ownBlock=some x→x≠k:=by
    have h1:=hN.ge.1;have h2:=hP.mp.lt;have h3:=hP.bb.lt;exact ⟨by omega,by omega,fun x hx=>by have:=lr hP.ar x hx;omega⟩
 obtain ⟨cB,dB⟩:=hb.ceF;obtain ⟨cS,dS⟩:=hs.ceF;have hmu:=mp_push hmp fe 0;obtain ⟨i0,hi0,hz0',hz1,hz2⟩:=f4i info83;have hI:=fx6 hi0;have hZ0:=fx6 hz0';have hZ1:=fx6 hz1;have hZ2:=fx6 hz2;clear hi0 hz0' hz1 hz2;have gP:=fx6 hP;have gN:=fx6 hN;have gT:=fx6 T;have hkk:=fx6 hN.k_;have gA:=fx6 har;clear hP hN T har;refine rl (rj ?_);go_wp2;refine vy (F:=fun w3=>Bk w3 L.b 75 #[.int .i32 0,.int .u32 0,L.cls,.pointer (some ⟨L.sb,0,none⟩),.int .i64 0,.bool false,.int .u64 ((i+1:Nat)*K32),.int .u32 0]∧Mp w3 L.mb (i+1) (Plain.put (fun _=>0) i 0)∧Ch (fun x=>x=L.mb) w w3) ⟨?_,?_,?_⟩ ?_
 · exact hb.ch ((Ch.rf (fun x=>x=L.mb) w).sb (.inl rfl) _) n1
 · exact ⟨by
    have:=hmp.lt;simp [Go.ChangeMaps.setBlock,fy1,this]⟩
 · exact (Ch.rf (fun x=>x=L.mb) w).sb (.inl rfl) _
 clear hmu cB dB cS dS;rintro w3 ⟨hb3,hm3,hC3⟩;obtain ⟨cB,dB⟩:=hb3.ceF;have hm3:=fx6 hm3;have gA3:=fx6 (qx hC3 gA.out (fun x hx e=>(n3 x hx).2 e));refine rl (rj ?_);go_wp2_with (first | (at_builtin;refine wpList_append_lies _ rfl (.tmp 67) (.tmp 69) _ rfl 0 83 i0 _ 1 8 und65 hI.out hZ0.out hZ1.out hZ2.out rfl fe L.cls i (clsL L i) rfl (qx (K:=fun _=>False) (Ch.ba ((Bl.rf _).al _)) gA3.out (fun _ _ h=>h)) ⟨w3.heap.size,0,none⟩ 1 1 [.pointer (some ⟨k,0,none⟩)] rfl rfl (f2m (cs:= #[.pointer (some ⟨k,0,none⟩)]) (t:=83) (fr:=(0,0)) (Bk.nw rfl).at_) p9 fe jq fe fi _ rfl ?_;intro g cap w4 hown4 gr4 hat4 hlt4;have k4:=Bk.gr gr4 (fun e=>(n3 _ e.symm).1 rfl) (Bk.al hb3 _);obtain ⟨c4,d4⟩:=k4.ceF));refine vy (F:=fun w5=>Part n room (i+1) (i+1) i (fb9 L i k uc dc ch g cap) (zz ow i k uc dc ch g) n0 w5∧w5.heap[ch]? =some (.chan 0 #[] false 0 0 false)∧Old n0 w0 w5∧Bk w5 k 89 #[.int .i64 (i:Int),nilS,.int .i64 0,.int .i64 0,.int .i64 0,.int .i64 0,nilS,.pointer (some ⟨uc+1,0,none⟩),.pointer (some ⟨dc+1,0,none⟩),.int .i64 0,.chan (some ch)]) ?_ ?_
 · have hC4:Ch (fun x=>x=L.mb∨L.cls.ownBlock=some x) w w4:=((hC3.mo fun x hx=> .inl hx).al _).gr gr4 fun x hx=> .inl (.inr hx);have hC5:=hC4.mo (K':=fun x=>x=L.mb∨x=L.b∨L.cls.ownBlock=some x) fun x hx=>hx.imp id .inr;have hC6:=hC5.st (p:=⟨L.b,2,none⟩) (.inl (.inr (.inl rfl))) (.slice (some ⟨g,0,none⟩) (i+1) cap);have hbb:=Bk.st (i:=2) (.slice (some ⟨g,0,none⟩) (i+1) cap) k4;have hmm:Mp (w4.setCell ⟨L.b,2,none⟩ (.slice (some ⟨g,0,none⟩) (i+1) cap)) L.mb (i+1) (Plain.put (fun _=>0) i 0):=by
    have h0:Ch (fun x=>L.cls.ownBlock=some x) w3 w4:=((Ch.rf _ w3).al _).gr gr4 fun x hx=> .inl hx;have h1:=hm3.out.ch h0 (fun e=>(n3 _ e).2 rfl);exact h1.ch ((Ch.rf (fun x=>x=L.b) w4).st (.inl rfl) _) (fun e=>n1 e.symm)
   have hgn:g≠L.b:=by
    rcases hat4 with h | h
    · exact (n3 g h).1
    · have:=hb3.lt;have h':=h;simp only [vp] at h';omega
   have har5:(w4.setCell ⟨L.b,2,none⟩ (.slice (some ⟨g,0,none⟩) (i+1) cap)).ownsRow 0 83 1 (.slice (some ⟨g,0,none⟩) (i+1) cap) (i+1) (clsL L i++[.pointer (some ⟨k,0,none⟩)]):=
    qx ((Ch.rf (fun x=>x=L.b) w4).st (.inl rfl) _) hown4 (fun x hx e=>by
     obtain rfl:g=x:=by simpa [Value.ownBlock] using hx
     exact hgn e)
   have hs3:=hC3.size;obtain ⟨r1,r2⟩:=ft5 (w2:=w4.setCell ⟨L.b,2,none⟩ (.slice (some ⟨g,0,none⟩) (i+1) cap)) hi hn6 gP.out gN.out (fx8 _) hC6 (by simpa using hbb) hmm har5 (hat4.imp id fun e=>by simp only [vp] at e;omega) (by simpa [World.setCell] using hlt4);refine ⟨r1,r2,⟨gP.out.le,f08 gN.out.old.size hC6.size,fun x hx=>(hC6.block x ?_ ?_).trans (gN.out.old.block x ?_),hC6.os.trans gN.out.old.os,hC6.output.trans gN.out.old.output⟩,hkk.out.ch hC6 ?_⟩
   · have:=gP.out.le;have:=gN.out.old.size;omega
   · have h0:=gP.out.low x hx;rintro (rfl | rfl | h)
     · have:=gT.out.mb;omega
     · have:=gT.out.b;omega
     · have:=gT.out.ar x h;omega
   · have:=gP.out.le;omega
   · rintro (h | h | h)
     · exact hnk.1 h
     · exact hnk.2.1 h
     · exact hnk.2.2 k h rfl
 rintro w5 ⟨gP5,hch,hO,hk5⟩;obtain ⟨cK,dK⟩:=hk5.ceF;refine yt ?_;simp only [szs];refine uy rfl rfl (u:= .pointer (some ⟨L.b,0,none⟩)) (v1:=w5) gw ?_;walk_nrm;refine uy rfl rfl (u:= .pointer (some ⟨k,0,none⟩)) (v1:=w5) gw ?_;walk_nrm;refine uy rfl rfl (u:= .pointer (some ⟨k,0,none⟩)) (v1:=w5) gw ?_;walk_nrm;refine uy rfl rfl (u:= .pointer (some ⟨k,10,none⟩)) (v1:=w5) gw ?_;walk_nrm;refine uy rfl rfl (u:= .chan (some ch)) (v1:=w5) gw ?_;walk_nrm;have e:(fb9 L i k uc dc ch g cap).wc i=ch:=by simp [fb9,Plain.put_same]
 have T5:=gP5.tag;rw [← e] at hch;rw [← e];refine zt ⟨fb9 L i k uc dc ch g cap,zz ow i k uc dc ch g,⟨rfl,rfl,fun c hc=>Plain.put_ne _ _ (show c≠i by omega)⟩,gP5,hch,fun c hc h=> ?_,fun h=> ?_,hO,_,_,_,_,_,_,_,_,_,_,_,_,_,_,_,_,_,_,_,_,_,_,_,_,_,_,_,_,_,_,_,_,_,_,_,_,_,_,_,_,_,_,_,_,_,_,_,_,_,_,_,_,_,_,_,_,_,_,_,_,_,_,_,_,_,_,_,_,_,_,_,_,rfl⟩
 · have h1:=T5.wc c fe;have h2:=T5.wc i fe;rw [h] at h1;omega
 · have h1:=T5.c0;have h2:=T5.wc i fe;rw [h] at h1;omega
open Go.ConcN (sumTo upd sumTo_upd upd_ne upd_same)
def RunTo.mono {Z Z':Frame→World→Prop} {fr:Frame} {v:World} (h:RunTo Z fr v) (h': ∀ fr v,Z fr v→Z' fr v):RunTo Z' fr v:=by
 obtain ⟨fr',v',h1,h2⟩:=h.out;exact ⟨fr',v',h1,h' _ _ h2⟩
def NewEnd (L:Lay) (fr:Frame):Prop:= ∃ (todo:List Item) (x0 x1 x2 x3 x6 x7 x8 x9 x10 x11 x12 x13 x14 x15 x16 x17 x18 x19 x20 x21 x22 x23 x24 x25 x26 x27 x28 x29 x30 x31 x32 x33 x34 x35 x36 x37 x38 x39 x40 x41 x42 x43 x44 x45 x46 x47 x48 x49 x50 x51 x52 x53 x54 x55 x56 x57 x58 x59 x60 x61 x62 x63 x64 x65 x66 x67 x68 x69 x70 x71 x72 x73 x74 x75 x76 x77 x78 x79 x80:Value),fr={ (base 18).at ⟨(x0::x1::x2::x3:: .pointer (some ⟨L.b,0,none⟩):: .nilIface::x6::x7::x8::x9::x10::x11::x12::x13::x14::x15::x16::x17::x18::x19::x20::x21::x22::x23::x24::x25::x26::x27::x28::x29::x30::x31::x32::x33::x34::x35::x36::x37::x38::x39::x40::x41::x42::x43::x44::x45::x46::x47::x48::x49::x50::x51::x52::x53::x54::x55::x56::x57::x58::x59::x60::x61::x62::x63::x64::x65::x66::x67::x68::x69::x70::x71::x72::x73::x74::x75::x76::x77::x78::x79::x80::[]).toArray,[]⟩ todo with mode:= .returning }
def new_end (n room i:Nat) (L:Lay) (hi:i=n) (hn6:n≤6) (w:World) {fr:Frame} (hfr:fes n room i L fr):RunTo (fun fr w'=>NewEnd L fr∧w'=w) fr w:=by
 obtain ⟨x2,x3,x7,x8,x9,x10,x11,x12,x13,x14,x15,x16,x17,x18,x19,x20,x21,x22,x23,x24,x25,x26,x27,x28,x29,x30,x31,x32,x33,x34,x35,x36,x37,x38,x39,x40,x41,x42,x45,x46,x47,x48,x49,x50,x51,x52,x53,x54,x55,x56,x57,x58,x59,x60,x61,x62,x63,x64,x65,x66,x67,x68,x69,x70,x71,x72,x73,x74,x75,x76,x77,x78,x79,x80,rfl⟩:=hfr;have e1: ¬ ((i:Int)<n):=by omega
 clear hi;refine rl (rj ?_);go_wp2;refine rl (ya (t:=false) rfl (fhn rfl ?_));refine rl (rj ?_);go_wp2;refine fnj (zt ⟨⟨_,_,_,_,_,_,_,_,_,_,_,_,_,_,_,_,_,_,_,_,_,_,_,_,_,_,_,_,_,_,_,_,_,_,_,_,_,_,_,_,_,_,_,_,_,_,_,_,_,_,_,_,_,_,_,_,_,_,_,_,_,_,_,_,_,_,_,_,_,_,_,_,_,_,_,_,_,_,_,_,rfl⟩,rfl⟩)
def fwd (n room:Nat) (L:Lay) (fr:Frame):Prop:= ∃ (x2 x3 x7 x8 x9 x10 x11 x12 x13 x14 x15 x16 x17 x18 x19 x20 x21 x22 x23 x24 x25 x26 x27 x28 x29 x30 x31 x32 x33 x34 x35 x36 x37 x38 x39 x40 x41 x42 x43 x44 x45 x46 x47 x48 x49 x50 x51 x52 x53 x54 x55 x56 x57 x58 x59 x60 x61 x62 x63 x64 x65 x66 x67 x68 x69 x70 x71 x72 x73 x74 x75 x76 x77 x78 x79 x80:Value),fr=(base 18).at ⟨(.int .i64 (n:Int):: .int .i64 (room:Int)::x2::x3:: .pointer none:: .nilIface:: .pointer (some ⟨L.b,0,none⟩)::x7::x8::x9::x10::x11::x12::x13::x14::x15::x16::x17::x18::x19::x20::x21::x22::x23::x24::x25::x26::x27::x28::x29::x30::x31::x32::x33::x34::x35::x36::x37::x38::x39::x40::x41::x42::x43::x44::x45::x46::x47::x48::x49::x50::x51::x52::x53::x54::x55::x56::x57::x58::x59::x60::x61::x62::x63::x64::x65::x66::x67::x68::x69::x70::x71::x72::x73::x74::x75::x76::x77::x78::x79::x80::[]).toArray,[]⟩ [.inRegion (da ft1) [],.code new5]
def fp7 {Z:Frame→World→Prop} (n room:Nat) (L:Lay) (w:World) {fr:Frame} (hfr:fwd n room L fr) (h: ∀ fr',fes n room 0 L fr'→RunTo Z fr' w):RunTo Z fr w:=by
 obtain ⟨x2,x3,x7,x8,x9,x10,x11,x12,x13,x14,x15,x16,x17,x18,x19,x20,x21,x22,x23,x24,x25,x26,x27,x28,x29,x30,x31,x32,x33,x34,x35,x36,x37,x38,x39,x40,x41,x42,x43,x44,x45,x46,x47,x48,x49,x50,x51,x52,x53,x54,x55,x56,x57,x58,x59,x60,x61,x62,x63,x64,x65,x66,x67,x68,x69,x70,x71,x72,x73,x74,x75,x76,x77,x78,x79,x80,rfl⟩:=hfr;have hh:=fx6 h;clear h;refine ie (rl (rl (rj ?_)));go_wp2;refine yv (fhm ?_);exact hh.out _ ⟨_,_,_,_,_,_,_,_,_,_,_,_,_,_,_,_,_,_,_,_,_,_,_,_,_,_,_,_,_,_,_,_,_,_,_,_,_,_,_,_,_,_,_,_,_,_,_,_,_,_,_,_,_,_,_,_,_,_,_,_,_,_,_,_,_,_,_,_,_,_,_,_,_,_,rfl⟩
def ft9 (n room i:Nat) (L:Lay) (fr:Frame):Prop:= ∃ (x2 x3 x7 x8 x9 x10 x11 x12 x13 x14 x15 x16 x17 x18 x19 x20 x21 x22 x23 x24 x25 x26 x27 x28 x29 x30 x31 x32 x33 x34 x35 x36 x37 x38 x39 x40 x41 x42 x45 x46 x47 x48 x49 x50 x51 x52 x53 x54 x55 x56 x57 x58 x59 x60 x61 x62 x63 x64 x65 x66 x67 x68 x69 x70 x71 x72 x73 x74 x75 x76 x77 x78 x79 x80:Value),fr=(base 18).at ⟨(.int .i64 (n:Int):: .int .i64 (room:Int)::x2::x3:: .pointer none:: .nilIface:: .pointer (some ⟨L.b,0,none⟩)::x7::x8::x9::x10::x11::x12::x13::x14::x15::x16::x17::x18::x19::x20::x21::x22::x23::x24::x25::x26::x27::x28::x29::x30::x31::x32::x33::x34::x35::x36::x37::x38::x39::x40::x41::x42:: .int .i64 (n:Int):: .int .i64 (i:Int)::x45::x46::x47::x48::x49::x50::x51::x52::x53::x54::x55::x56::x57::x58::x59::x60::x61::x62::x63::x64::x65::x66::x67::x68::x69::x70::x71::x72::x73::x74::x75::x76::x77::x78::x79::x80::[]).toArray,[]⟩ (.inRegion (da ft8) []::fp5)
def flx {Z:Frame→World→Prop} (n room i:Nat) (L:Lay) (w:World) (hi:i<1000) {fr:Frame} (hfr:ft9 n room i L fr) (h: ∀ fr',fes n room (i+1) L fr'→RunTo Z fr' w):RunTo Z fr w:=by
 obtain ⟨x2,x3,x7,x8,x9,x10,x11,x12,x13,x14,x15,x16,x17,x18,x19,x20,x21,x22,x23,x24,x25,x26,x27,x28,x29,x30,x31,x32,x33,x34,x35,x36,x37,x38,x39,x40,x41,x42,x45,x46,x47,x48,x49,x50,x51,x52,x53,x54,x55,x56,x57,x58,x59,x60,x61,x62,x63,x64,x65,x66,x67,x68,x69,x70,x71,x72,x73,x74,x75,x76,x77,x78,x79,x80,rfl⟩:=hfr;have hh:=fx6 h;clear h;have e:IntKind.i64.wrap ((i:Int)+1)=((i+1:Nat):Int):=by rw [f3h];omega
 refine ie (zb (yt ?_));simp only [szs];refine uy rfl rfl (u:= .int .i64 ((i+1:Nat):Int)) (v1:=w) (by go_simp;try rw [e];try omega) ?_;walk_nrm;refine uy rfl rfl (u:= .int .i64 ((i+1:Nat):Int)) (v1:=w) gw ?_;walk_nrm;refine ie (bt ?_);exact hh.out _ ⟨_,_,_,_,_,_,_,_,_,_,_,_,_,_,_,_,_,_,_,_,_,_,_,_,_,_,_,_,_,_,_,_,_,_,_,_,_,_,_,_,_,_,_,_,_,_,_,_,_,_,_,_,_,_,_,_,_,_,_,_,_,_,_,_,_,_,_,_,_,_,_,_,_,_,rfl⟩
end Go.Proofs.YtelecjnabeokeaaGreatDoor
namespace Go.Proofs.YtelecjnabeokeaaGreatDoor
open Go Go.Conc Go.RowKit
def NewEnd.form {L:Lay} {fr:Frame} (h:NewEnd L fr): ∃ T todo,fr={ (base 18).at ⟨T,[]⟩ todo with mode:= .returning }∧T.getD 4 undef= .pointer (some ⟨L.b,0,none⟩)∧T.getD 5 undef= .nilIface:=by
 obtain ⟨todo,y0,y1,y2,y3,y6,y7,y8,y9,y10,y11,y12,y13,y14,y15,y16,y17,y18,y19,y20,y21,y22,y23,y24,y25,y26,y27,y28,y29,y30,y31,y32,y33,y34,y35,y36,y37,y38,y39,y40,y41,y42,y43,y44,y45,y46,y47,y48,y49,y50,y51,y52,y53,y54,y55,y56,y57,y58,y59,y60,y61,y62,y63,y64,y65,y66,y67,y68,y69,y70,y71,y72,y73,y74,y75,y76,y77,y78,y79,y80,rfl⟩:=h;exact ⟨_,todo,rfl,rfl,rfl⟩
def fwe {n room i:Nat} {L:Lay} {n0:Nat} {w0:World} {fr:Frame} {w:World} (h:flw n room i L n0 w0 fr w): ∃ (L':Lay) (ow':Nat→Nat) (T:Array Value),fwp i L L'∧Part n room (i+1) (i+1) i L' ow' n0 w∧w.heap[L'.wc i]? =some (.chan 0 #[] false 0 0 false)∧(∀ c,c<i→L'.wc c≠L'.wc i)∧L'.c0≠L'.wc i∧Old n0 w0 w∧
    fr=(base 18).at ⟨T,[]⟩ (.inRegion (da ft8) [5]::fp5)∧T.getD 73 undef= .pointer (some ⟨L'.b,0,none⟩)∧T.getD 77 undef= .chan (some (L'.wc i))∧ ∀ u,ft9 n room i L' ((base 18).at (Act.put ⟨T,[]⟩ (some 78) u) (.inRegion (da ft8) []::fp5)):=by
 obtain ⟨L',ow',hS,hP',hch,hne,hne0,hO',y2,y3,y7,y8,y9,y10,y11,y12,y13,y14,y15,y16,y17,y18,y19,y20,y21,y22,y23,y24,y25,y26,y27,y28,y29,y30,y31,y32,y33,y34,y35,y36,y37,y38,y39,y40,y41,y42,y45,y46,y47,y48,y49,y50,y51,y52,y53,y54,y55,y56,y57,y58,y59,y60,y61,y62,y63,y64,y65,y66,y67,y68,y69,y70,y71,y72,y74,y75,y76,y78,y79,y80,rfl⟩:=h;refine ⟨L',ow',_,hS,hP',hch,hne,hne0,hO',rfl,rfl,rfl,fun u=> ?_⟩;walk_nrm;exact ⟨_,_,_,_,_,_,_,_,_,_,_,_,_,_,_,_,_,_,_,_,_,_,_,_,_,_,_,_,_,_,_,_,_,_,_,_,_,_,_,_,_,_,_,_,_,_,_,_,_,_,_,_,_,_,_,_,_,_,_,_,_,_,_,_,_,_,_,_,_,_,_,_,_,_,rfl⟩
def form4 {n room:Nat} {v:World} {fr:Frame} {w:World} (h:ft2 n room v fr w): ∃ (bm es ns ch sb b:Nat) (T:Array Value),NewA n v w bm es ns ch sb b∧fr=(base 18).at ⟨T,[]⟩ [.inRegion (da ft1) [8],.code new5]∧T.getD 34 undef= .pointer (some ⟨b,0,none⟩)∧T.getD 41 undef= .chan (some ch)∧ ∀ u (L:Lay),L.b=b→fwd n room L ((base 18).at (Act.put ⟨T,[]⟩ (some 42) u) [.inRegion (da ft1) [],.code new5]):=by
 obtain ⟨y2,y3,y7,y8,y9,y10,y11,y12,y13,y14,y15,y16,y17,y18,y19,y20,y21,y22,y23,y24,y25,y26,y27,y28,y29,y30,y31,y32,y33,y35,y36,y37,y38,y39,y40,y42,y43,y44,y45,y46,y47,y48,y49,y50,y51,y52,y53,y54,y55,y56,y57,y58,y59,y60,y61,y62,y63,y64,y65,y66,y67,y68,y69,y70,y71,y72,y73,y74,y75,y76,y77,y78,y79,y80,bm,es,ns,ch,sb,b,hA,rfl⟩:=h;refine ⟨bm,es,ns,ch,sb,b,_,hA,rfl,rfl,rfl,fun u L e=> ?_⟩;subst e;walk_nrm;exact ⟨_,_,_,_,_,_,_,_,_,_,_,_,_,_,_,_,_,_,_,_,_,_,_,_,_,_,_,_,_,_,_,_,_,_,_,_,_,_,_,_,_,_,_,_,_,_,_,_,_,_,_,_,_,_,_,_,_,_,_,_,_,_,_,_,_,_,_,_,_,_,_,_,_,_,_,_,rfl⟩
open Go.ConcN (sumTo upd sumTo_upd upd_ne upd_same)
def Part.re {n room i m j:Nat} {L:Lay} {ow:Nat→Nat} {n0:Nat} {w:World} (h:Part n room i m j L ow n0 w) (t:Nat→Question→Nat) (d:Nat):Part n room i m j L ow n0 (reW w t d):=
 ⟨h.base.re t d,h.n12,h.low,h.le,h.fresh,h.tag,h.bb.re t d,h.ss.re t d,h.ee.re t d,h.nn.re t d,h.mp.re t d,h.ar,fun c hc=>(h.kk c hc).re t d,fun c hc=>(h.up c hc).re t d,fun c hc=>(h.dn c hc).re t d,h.m0,h.ms⟩
def Old.ge2 {n:Nat} {v v':World} (h:Old n v v'):n≤v'.heap.size:=f08 h.le h.size
def Old.sv {n0 b k m:Nat} {v v':World} (h:StartV b k m v v') (hn:n0≤v.heap.size) (hb:n0≤b) (hk:n0≤k):Old n0 v v':=
 ⟨hn,by have:=h.size;omega,fun x hx=>h.same x fe fe fe,h.os,h.output⟩
def chs (L:Lay) (x:Nat):Nat:=if x=0 then L.c0 else L.wc (x-1)
def SesN.cg {b j0 n:Nat} {ch ch':Nat→Nat} {WS:Nat→Option SeatD} (W:SesN b j0 n ch WS) (h: ∀ i,i<n→ch' i=ch i):SesN b j0 n ch' WS:=
 ⟨fun i hi=>by obtain ⟨m,hm⟩:=W.at_ i hi;exact ⟨m,by rw [h i hi];exact hm⟩,W.no,fun i i' hi hi' e=>W.inj i i' hi hi' (by rw [← h i hi,← h i' hi'];exact e)⟩
def fnk {i:Nat} {L L':Lay} (h:fwp i L L'): ∀ x,x<i+1→chs L' x=chs L x:=fun x hx=>by
 unfold chs;by_cases e:x=0
 · rw [f02 e,f02 e];exact h.c0
 · rw [fx9 e,fx9 e];exact h.wc _ fe
structure Made (n room N:Nat) (v0:World) (L:Lay) (ow:Nat→Nat) (WS:Nat→Option SeatD) (v:World):Prop where
 mem:Mem L V0 (Plain.new n room) 0 ow v
 marks:Marks L n v
 y1:L.y1= .int .u32 0
 y6:L.y6= .int .u64 ((n+1:Nat)*K32)
 y7:L.y7= .int .u32 0
 seats:SesN L.b N (n+1) (chs L) WS
 old:Old v0.heap.size v0 v
 low: ∀ x,x<v0.heap.size→ow x=0
def NewR (n room N:Nat) (Shun:Loc→Prop) (v0:World) (x:Value) (WS':Nat→Option SeatD) (Shun':Loc→Prop) (v':World) (N':Nat):Prop:=
 Shun'=Shun∧N'=N+(n+1)∧ ∃ L ow,x= .tuple #[.pointer (some ⟨L.b,0,none⟩),.nilIface]∧Made n room N v0 L ow WS' v'
def NewEnd.calm {L:Lay} {fr:Frame} (h:NewEnd L fr):vt fr=false:=by
 obtain ⟨_,_,rfl,_⟩:=h.form;rfl
section
variable {Φ:Goal} {WS:Nat→Option SeatD} {Shun:Loc→Prop} {v v0:World} {n room N:Nat} {X:Frame} {cs:List Frame}
def fhq {b:Frame} {a:Act} {k:List Item} {ops:Array Oper} {i:Nat} {rest:List Nat} {o:Oper} {f:FuncId} {fn:Func} {c:Code} {args:Array Operand} {ats:Array TypeId} (xs:Array Value) (hx:args.map a.eval=xs) (ho:ops[i]? =some o) (hw:o.guard=none) (hk:b.kind≠ .early) (hop:o.op= .call { callee:= .value (.func f),args:=args,argTypes:=ats })
    (hf:Tryz.prog.funcs[f]? =some fn) (hname:(fn.name== "runtime.NumGoroutine")=false) (hb:fn.body=some c) (h:Co Φ WS Shun v N (G (Frame.enter Tryz.prog f xs .normal) (b.at a (.inRegion ops (i::rest)::k)::cs))):
    Co Φ WS Shun v N (G (b.at a (.inRegion ops (i::rest)::k)) cs):=co_call ho (by simp [Region.wanted,hw]) hk hop hf hname hb (by rw [hx];exact h)
noncomputable def call11:Oper:=(da ft8)[5]?.getD default
noncomputable def call4:Oper:=(da ft1)[8]?.getD default
def fvo (hn6:n≤6) (hr1:1≤room) (hr16:room≤16) (hc: ∀ x WS' Shun' v' N',NewR n room N Shun v0 x WS' Shun' v' N'→Co Φ WS' Shun' v' N' (G (ur .normal x X) cs)):
    ∀ (d i:Nat),i+d=n→ ∀ (L:Lay) (ow:Nat→Nat) (WS:Nat→Option SeatD) (w:World) (fr:Frame),Part n room i (i+1) i L ow v0.heap.size w→SesN L.b N (i+1) (chs L) WS→Old v0.heap.size v0 w→
      FrOk Tryz.prog rg fr→fr.kind= .normal→(∀ Z t d,(∀ fr',fes n room i L fr'→RunTo Z fr' (reW w t d))→RunTo Z fr (reW w t d))→Co Φ WS Shun w (N+(i+1)) (G fr (X::cs)):=by
 intro d
 induction d with
 | zero=>
   intro i hi L ow WS w fr hP hW hO hok hk hrun;obtain rfl:i=n:=by omega
   refine fge (Z:=fun fr w'=>NewEnd L fr∧ ∃ t d,w'=reW w t d) hW.ok (fun fr v h=>h.1.calm) hok hk (fun t d=>hrun _ t d fun fr' hfr=>(new_end i room i L rfl hn6 (reW w t d) hfr).mono fun fr v h=>⟨h.1,t,d,h.2⟩) ?_;rintro fr' w' ⟨he,t,d,rfl⟩;obtain ⟨T,todo,rfl,h4,h5⟩:=he.form;refine fhp (fn:=Tryz.f18) rfl rfl Tryz.func18 (resultsC_tmp2 (t:=4) (u:=5) rfl T) ?_;rw [h4,h5];obtain ⟨hM,hMk⟩:=ft7 hP;exact hc _ _ _ _ _ ⟨rfl,rfl,finL i L,ow,rfl,hM.re t d,hMk.re t d,rfl,rfl,rfl,hW.cg fun x _=>rfl,hO.re t d,hP.low⟩
 | succ d ih=>
   intro i hi L ow WS w fr hP hW hO hok hk hrun;have hlt:i<n:=by omega
   refine fge (Z:=fun fr w'=> ∃ w0,(∃ t d,w0=reW w t d)∧flw n room i L v0.heap.size w0 fr w') hW.ok (fun fr v h=> ?_) hok hk (fun t d=>hrun _ t d fun fr' hfr=> ?_) ?_
   · obtain ⟨w0,_,h⟩:=h;obtain ⟨_,_,_,_,_,_,_,_,_,rfl,_⟩:=fwe h;rfl
   · refine new_2 n room i L hlt hn6 hr1 hr16 _ hfr ?_;intros;rename_i hN;exact (new_3 n room i L ow v0.heap.size hlt hn6 (reW w t d) _ (hP.re t d) hN _ _ _ _ _ _ _ _ _ _ _ _ _ _ _ _ _ _ _ _ _ _ _ _ _ _ _ _ _ _ _ _ _ _ _ _ _ _ _ _ _ _ _ _ _ _ _ _ _ _ _ _ _ _ _ _ _ _ _ _ _ _ _ _ _ _ _ _ _).mono fun fr v h=>⟨_,⟨t,d,rfl⟩,h⟩
   · rintro fr' w' ⟨w0,⟨t,d',rfl⟩,hfr⟩;obtain ⟨L',ow',T,hS,hP',hch,hne,hne0,hO',rfl,h73,h77,hAft⟩:=fwe hfr;refine fhq (o:=call11) (f:=37) (fn:=Tryz.f37) (args:= #[.tmp 73,.tmp 77]) #[.pointer (some ⟨L'.b,0,none⟩),.chan (some (L'.wc i))] (by simp only [List.map_toArray,f3c,List.map_nil,Act.eval,h73,h77]) rfl rfl gh rfl Tryz.func37 fd rfl ?_;refine fn1 (b:=L'.b) (k:=L'.wc i) (m:=i+1) hP'.bb.at_ rfl rfl rfl fe hch (fun j s hj=> ?_) ?_
     · obtain ⟨x,m,hx,_,rfl⟩:=hW.seat hj;show chs L x≠L'.wc i;rw [← fnk hS x hx];unfold chs;by_cases e:x=0
       · rw [f02 e];exact hne0
       · rw [fx9 e];exact hne _ fe
     · intro v' hV;rw [fho (o:=call11) rfl];have T':=hP'.tag;have hP2:=fk4 hlt hP' hV;have hW2:SesN L'.b N (i+1+1) (chs L') (upd WS (N+(i+1)) (some (vc w'.heap.size L'.b (L'.wc i)))):=by
        have h1:SesN L'.b N (i+1) (chs L') WS:=by rw [hS.b];exact hW.cg (fnk hS)
        have h2:=h1.more (m:=w'.heap.size) (fun x hx=>by
         show chs L' x≠L'.wc i;unfold chs;by_cases e:x=0
         · rw [f02 e];exact hne0
         · rw [fx9 e];exact hne _ fe)
        exact h2
       refine ih (i+1) fe L' ow' _ v' _ hP2 hW2 ((hO.tr hO'.re').tr (Old.sv hV hO'.ge2 ?_ ?_)) (zu Tryz.func18 pv18 fd rfl) rfl ?_
       · rcases f01 L'.b v0.heap.size with h | h
         · have h1:=hP'.low _ h;have h2:=T'.b;omega
         · exact h
       · rcases f01 (L'.wc i) v0.heap.size with h | h
         · have h1:=hP'.low _ h;have h2:=T'.wc i fe;omega
         · exact h
       · intro Z t d h;exact flx n room i L' _ fe (hAft _) h
def fp8 {f:FuncId} {fn:Func} {cd:Code} {args:Array Value} (h1:Tryz.prog.funcs[f]? =some fn) (h2:PV.funcs[f]? =some fn) (hb:fn.body=some cd) (hi:(va cd&&yb cd)=true):FrOk Tryz.prog rg (Frame.enter Tryz.prog f args .normal):=by
 rw [ea h1 hb];refine zu h1 h2 ?_ rfl;simp only [List.all_cons,List.all_nil,Bool.and_true];exact hi
def new_fc (hn1:1≤n) (hn6:n≤6) (hr1:1≤room) (hr16:room≤16) (hB:Base v0) (h12:12≤v0.heap.size):Fc vb Shun v0 N 18 #[.int .i64 (n:Int),.int .i64 (room:Int)] (NewR n room N Shun v0):=by
 refine ⟨fun Φ X cs hc=> ?_⟩;refine fge (Z:=fun fr w=> ∃ t d,ft2 n room (reW v0 t d) fr w) bg (fun fr v h=> ?_) (fp8 Tryz.func18 pv18 rfl fd) rfl (fun t d=>(new_1 n room hn1 hn6 hr1 hr16 (reW v0 t d)).mono fun fr v h=>⟨t,d,h⟩) ?_
 · obtain ⟨t,d,h⟩:=h;obtain ⟨_,_,_,_,_,_,_,_,rfl,_⟩:=form4 h;rfl
 · rintro fr w ⟨t,d,h⟩;obtain ⟨bm,es,ns,ch,sb,b,T,hA,rfl,h34,h41,hAft⟩:=form4 h;refine fhq (o:=call4) (f:=37) (fn:=Tryz.f37) (args:= #[.tmp 34,.tmp 41]) #[.pointer (some ⟨b,0,none⟩),.chan (some ch)] (by simp only [List.map_toArray,f3c,List.map_nil,Act.eval,h34,h41]) rfl rfl gh rfl Tryz.func37 fd rfl ?_;refine fn1 (b:=b) (k:=ch) (m:=0) hA.b_.at_ rfl fi rfl fe hA.c_ (fun j s hj=>by cases hj) ?_;intro v' hV;rw [fho (o:=call4) rfl];have hP:=fp6 (room:=room) (hB.re t d) h12 hA hV;have hW:SesN b N (0+1) (chs (L0 b sb es ns bm ch)) (upd vb (N+0) (some (vc w.heap.size b ch))):=SesN.none.more (fun x hx=>by omega);obtain ⟨g1,g2,g3,g4,g5,g6⟩:=hA.ge;refine fvo hn6 hr1 hr16 hc n 0 fe _ _ _ v' _ hP hW (((Old.bl (v:=reW v0 t d) (fx8 _) hA.old).re').tr (Old.sv hV hA.old.size g6 g4)) (zu Tryz.func18 pv18 fd rfl) rfl ?_;intro Z t d h;exact fp7 n room _ _ (hAft _ _ rfl) h
end
end Go.Proofs.YtelecjnabeokeaaGreatDoor
namespace Go.Proofs.YtelecjnabeokeaaGreatDoor
open Go Go.Conc Go.RowKit
structure Sess (n N n0:Nat) (L:Lay) (E:Nat→Value) (A:Nat→Addr) (S:Plain.Ses) (ow:Nat→Nat) (WS:Nat→Option SeatD) (v:World):Prop where
 live:Live L E A S ow v
 num:S.n=n
 y6:L.y6= .int .u64 ((n+1:Nat)*K32)
 y7:L.y7= .int .u32 0
 seats:SesN L.b N (n+1) (chs L) WS
 low: ∀ x,x<n0→ow x=0
def PNewR (n room N:Nat) (Shun:Loc→Prop) (E:Nat→Value) (A:Nat→Addr) (v0:World) (x:Value) (WS':Nat→Option SeatD) (Shun':Loc→Prop) (v':World) (N':Nat):Prop:=
 Shun'=Shun∧N'=N+(n+1)∧ ∃ L ow,x= .tuple #[.pointer (some ⟨L.b,0,none⟩),.int .i64 0]∧Sess n N v0.heap.size L E A (Plain.new n room) ow WS' v'∧Old v0.heap.size v0 v'
def pv8:PV.funcs[8]? =some Tryz.f8:=rd 8 _ _ Tryz.func8 fd fd rfl fd
section
variable {Φ:Goal} {WS:Nat→Option SeatD} {Shun:Loc→Prop} {v v0:World} {n room N:Nat} {X:Frame} {cs:List Frame} {E:Nat→Value} {A:Nat→Addr}
def fet {fr:Frame} (hW:WsOk WS Shun) (hok:FrOk Tryz.prog rg fr) (hk:fr.kind= .normal) (h: ∃ F,(∀ t d,RunTo (fun fr w=>fr=F∧ ∃ t d,w=reW v t d) fr (reW v t d))∧vt F=false∧ ∀ t d,Co Φ WS Shun (reW v t d) N (G F cs)):Co Φ WS Shun v N (G fr cs):=by
 obtain ⟨F,h1,h2,h3⟩:=h;exact fge (Z:=fun fr w=>fr=F∧ ∃ t d,w=reW v t d) hW (fun fr v h=>by rw [h.1];exact h2) hok hk h1 (by rintro _ _ ⟨rfl,t,d,rfl⟩;exact h3 t d)
def fba {f:FuncId} {args:Array Value} {R:Value→(Nat→Option SeatD)→(Loc→Prop)→World→Nat→Prop} (h:Fc WS Shun v N f args R) {b:Frame} {a:Act} {k:List Item} {ops:Array Oper} {i:Nat} {rest:List Nat} {o:Oper} {fn:Func} {c:Code} {ags:Array Operand} {ats:Array TypeId}
    (hx:ags.map a.eval=args) (ho:ops[i]? =some o) (hw:o.guard=none) (hk:b.kind≠ .early) (hop:o.op= .call { callee:= .value (.func f),args:=ags,argTypes:=ats })
    (hf:Tryz.prog.funcs[f]? =some fn) (hname:(fn.name== "runtime.NumGoroutine")=false) (hb:fn.body=some c)
    (hc: ∀ x WS' Shun' v' N',R x WS' Shun' v' N'→Co Φ WS' Shun' v' N' (G (b.at (a.put o.dst x) (.inRegion ops rest::k)) cs)):
    Co Φ WS Shun v N (G (b.at a (.inRegion ops (i::rest)::k)) cs):=by
 refine fhq args hx ho hw hk hop hf hname hb (h.out Φ _ cs fun x WS' Shun' v' N' hr=> ?_);rw [fho ho];exact hc x WS' Shun' v' N' hr
def feu (hn1:1≤n) (hn6:n≤6) (hr1:1≤room) (hr16:room≤16) (hB:Base v0) (hE:EV E A v0) (hA: ∀ i,i<12→i≠2→(A i).block<v0.heap.size):
    Fc vb Shun v0 N 8 #[.int .i64 (n:Int),.int .i64 (room:Int)] (PNewR n room N Shun E A v0):=by
 refine ⟨fun Φ X cs hc=> ?_⟩;have h12:=hE.size;rw [ea Tryz.func8 rfl];simp only [show Tryz.f8.ntmps=27 from rfl];walk_nrm;refine fet bg (zu Tryz.func8 pv8 fd rfl) rfl ?_;apply Exists.intro
 case' h => refine And.intro ?ha (And.intro ?hp ?hc)
 case ha=>
    intro t d;refine rl (rj ?_);go_wp2;refine rl (yt ?_);simp only [szs];refine uy rfl rfl (u:= .int .i64 (n:Int)) (v1:=reW v0 t d) gw ?_;walk_nrm;refine uy rfl rfl (u:= .int .i64 (room:Int)) (v1:=reW v0 t d) gw ?_;walk_nrm;exact zt ⟨rfl,t,d,rfl⟩
 case hp => rfl
 case hc=>
    intro t d;refine fba (new_fc (N:=N) hn1 hn6 hr1 hr16 (hB.re t d) h12) jh rfl rfl gh rfl Tryz.func18 fd rfl ?_;rintro x WS' Shun' v1 N' ⟨rfl,rfl,L,ow,rfl,hM⟩;have hO:Old v0.heap.size v0 v1:=hM.old.re';have hlive:Live L E A (Plain.new n room) ow v1:=⟨⟨V0,hM.mem⟩,hM.marks,hE.old hO h12 hA,Plain.new_good hn1 hn6 hr1 hr16,Plain.new_bnd,fun i hi h2=>hM.low _ (hA i hi h2)⟩;walk_nrm;refine fet hM.seats.ok (zu Tryz.func8 pv8 fd rfl) rfl ?_;apply Exists.intro
    case' h => refine And.intro ?ha (And.intro ?hp ?hc)
    case ha=>
     intro t d;refine uy rfl rfl (u:= .tuple #[.pointer (some ⟨L.b,0,none⟩),.nilIface]) (v1:=reW v1 t d) gw ?_;walk_nrm;refine uy rfl rfl (u:= .pointer (some ⟨L.b,0,none⟩)) (v1:=reW v1 t d) gw ?_;walk_nrm;refine uy rfl rfl (u:= .nilIface) (v1:=reW v1 t d) gw ?_;walk_nrm;refine uy rfl rfl (u:= .pointer (some ⟨L.b,0,none⟩)) (v1:=reW v1 t d) gw ?_;walk_nrm;refine uy rfl rfl (u:= .nilIface) (v1:=reW v1 t d) gw ?_;walk_nrm;refine ie (rl (rj ?_));go_wp2_with (first | (go_at_call 19;refine (fni _).mono ?_;rintro e w1 ⟨rfl,rfl⟩));refine rl (rj ?_);go_wp2;refine rl (rj ?_);go_wp2;exact fnj (zt ⟨rfl,t,d,rfl⟩)
    case hp => rfl
    case hc=>
     intro t' d';refine fhp (fn:=Tryz.f8) rfl rfl Tryz.func8 (resultsC_tmp2 (t:=4) (u:=5) rfl _) ?_;exact hc _ _ _ _ _ ⟨rfl,rfl,L,ow,rfl,⟨hlive.re _ _,rfl,hM.y6,hM.y7,hM.seats,hM.low⟩,hO.re _ _⟩
end
section
variable {Φ:Goal} {WS:Nat→Option SeatD} {Shun:Loc→Prop} {v v0:World} {n room N N' n0:Nat} {X:Frame} {cs:List Frame} {E:Nat→Value} {A:Nat→Addr} {L:Lay} {S:Plain.Ses} {ow:Nat→Nat}
def Sess.re (h:Sess n N n0 L E A S ow WS v) (t:Nat→Question→Nat) (d:Nat):Sess n N n0 L E A S ow WS (reW v t d):=⟨h.live.re t d,h.num,h.y6,h.y7,h.seats,h.low⟩
def Sess.sesV (h:Sess n N n0 L E A S ow WS v) (h1:1≤n) (h6:n≤6): ∃ ab cp,SesV L.b L.sb ab n cp L.c0 L.kb L.wc v:=by
 obtain ⟨V,hM⟩:=h.live.mem;have hn:=h.num;subst hn;have T:=hM.tag;have har:=hM.ar;rcases har.2 with ⟨_,h0⟩ | ⟨g,cap,cur,e,_,hh,_⟩
 · omega
 · refine ⟨g,cap,⟨⟨_,_,hM.bb.at_,rfl,rfl,?_,rfl,rfl,?_,?_⟩,?_,fun i hi=>⟨?_,?_⟩,⟨?_,?_,fun i hi=> ?_⟩,by omega,h1,h.live.marks.m0,h.live.marks.ms,fun i hi=> ?_⟩⟩
   · show some L.cls=_;rw [e]
   · show some L.y6=_;rw [h.y6]
   · show some L.y7=_;rw [h.y7]
   · rw [hM.ss.ce 5];rfl
   · have:=f3g har (g:=g) qe i (.pointer (some ⟨L.kb i,0,none⟩)) (by
      unfold clsL;rw [f1s,f5k hi];rfl)
     have hadd:(⟨g,0,none⟩:Addr).add i=⟨g,i,none⟩:=by unfold Addr.add;split <;>simp_all
     rw [hadd] at this;exact this
   · rw [(hM.kk i hi).ce 10];rfl
   · intro e;have h1:=T.sb;have h2:=T.b;rw [e] at h1;omega
   · intro e';have h1:=T.ar g qe;have h2:=T.b;rw [e'] at h1;omega
   · intro e;have h1:=T.kb i hi;have h2:=T.b;rw [e] at h1;omega
   · intro e;have h1:=T.wc i hi;have h2:=T.c0;rw [e] at h1;omega
def StopR (n0 N':Nat) (L:Lay) (Shun:Loc→Prop) (v:World) (x:Value) (WS':Nat→Option SeatD) (Shun':Loc→Prop) (v':World) (N2:Nat):Prop:=
 x= .tuple #[]∧WS'=vb∧Shun'=fax L.b Shun∧N2=N'∧Old n0 v v'
def stop_fc (h:Sess n N n0 L E A S ow WS v) (h1:1≤n) (h6:n≤6) (hN:1≤N) (hN':N+(n+1)≤N') (hn0:n0≤v.heap.size):Fc WS Shun v N' 12 #[.pointer (some ⟨L.b,0,none⟩)] (StopR n0 N' L Shun v):=by
 refine ⟨fun Φ X cs hc=> ?_⟩;obtain ⟨ab,cp,hV⟩:=h.sesV h1 h6;have hW:=h.seats.all (N:=N') hN hN';have hch:(fun i=>chs L (i+1))=L.wc:=by funext i;simp [chs]
 have hc0:chs L 0=L.c0:=rfl;rw [hch,hc0] at hW;refine frl hW hV fun v' hK=> ?_;obtain ⟨V,hM⟩:=h.live.mem;have T:=hM.tag;refine hc _ _ _ _ _ ⟨rfl,rfl,rfl,rfl,Old.but hn0 hK fun x hx=> ?_⟩;have h0:=h.low x hx;rintro (rfl | rfl | ⟨i,hi,rfl⟩)
 · have:=T.b;omega
 · have:=T.c0;omega
 · have hn:=h.num;have:=T.wc i fe;omega
end
end Go.Proofs.YtelecjnabeokeaaGreatDoor
namespace Go.Proofs.YtelecjnabeokeaaGreatDoor
open Go Go.RowKit
def txV (V:Vals) (n:Nat) (c:Int):Value:=if c= -1 then V.st else if 0≤c∧c<n then V.tv c.toNat else .slice none 0 0
def Plain.textOf (S:Plain.Ses) (c:Int):List Plain.El:=if c= -1 then S.text else if 0≤c∧c<S.n then (S.cl c.toNat).text else []
section
variable {L:Lay} {V:Vals} {S:Plain.Ses} {ow ow':Nat→Nat} {w w':World} {E:Nat→Value} {A:Nat→Addr}
def Mem.textAt {m:Int} (h:Mem L V S m ow w) (c:Int):Txt w (txV V S.n c) (Plain.textOf S c):=by
 unfold txV Plain.textOf;split
 · exact h.st
 split
 · rename_i h1 h2;exact h.tx _ fe
 · exact Txt.nil w
def zc (h:Mem L V S 1 ow w) (u:FrameMode):CallsD PV 26 #[.pointer (some ⟨L.b,0,none⟩)] u w fun x u' w'=>u'=u∧(x= .returned (.tuple #[])∧(∃ ow',Mem L V S 0 ow' w')∧Ch (fun y=>y=L.b) w w'):=by
 refine (fne u h.base h.bb kh rfl).mono ?_;rintro x u' w' ⟨rfl,rfl,rfl⟩;obtain ⟨ow',h1,h2,h3⟩:=fhl h 0;exact ⟨rfl,rfl,⟨ow',h1⟩,h3⟩
def aq {ow4:Nat→Nat} {w4:World} (h:Mem L V S 0 ow w) (h4:Mem L V S 0 ow4 w4) (hC:Ch (fun x=>x=L.b) w w4):Bl w w4:=
 ⟨hC.os,hC.tape,hC.output,hC.size,fun x hx=>by
    by_cases e:x=L.b
    · subst e;rw [h4.bb.at_,h.bb.at_]
    · exact hC.block x hx e⟩
def fnl (h:Mem L V S 0 ow w) (hM:Marks L S.n w) (hE:Errs E w) (hn1:1≤S.n) (hn6:S.n≤6) (c:Int):
    Calls PV 60 #[.pointer (some ⟨L.b,0,none⟩),.int .i64 c] w fun x w'=>x= .returned (txV V S.n c)∧Bl w w':=by
 obtain ⟨ab,cap,ecls,_⟩:=h.cls_ hn1;have hLk:=fx6 (wd h hM hE);have hh:=fx6 h;clear h hM hE;by_cases hc:c= -1
 · subst hc
   go_enter_defers PV.func60,Tryz.ntmps60
   go_wp2_with (first | (go_at_call 25;refine hLk.out.mono ?_;rintro e w1 ⟨rfl,ow1,g1⟩;obtain ⟨cB,dB⟩:=g1.mem.bb.ceF;simp only [sesC,ecls] at cB;obtain ⟨cS,dS⟩:=g1.mem.ss.ceF;replace g1:=fx6 g1));refine f1p (f:=26) (args:= #[.pointer (some ⟨L.b,0,none⟩)]) fi jg ?_;refine (zc g1.out.mem .returning).mono ?_;rintro e u' w4 ⟨rfl,rfl,⟨ow4,gM4⟩,gC4⟩;exact ⟨_,f0x rfl _ _ _,by simp [txV],aq hh.out gM4 (g1.out.ch.tr gC4 (fun x hx=> .inl hx))⟩
 by_cases hr:0≤c∧c<(S.n:Int)
 · obtain ⟨i,rfl⟩: ∃ i:Nat,c=i:=⟨c.toNat,by omega⟩;have hi:i<S.n:=by omega
   have hin:(i:Int)<(S.n:Int):=by omega
   have hz:((i:Int)== -1)=false:=by simp
   have hge:(0:Int)≤(i:Int):=by omega
   have e:txV V S.n i=V.tv i:=by unfold txV;rw [fx9 hc,f02 hr];simp
   rw [e];clear e hr hc
   go_enter_defers PV.func60,Tryz.ntmps60
   go_wp2_with (first | (go_at_call 25;refine hLk.out.mono ?_;rintro e w1 ⟨rfl,ow1,g1⟩;obtain ⟨cB,dB⟩:=g1.mem.bb.ceF;simp only [sesC,ecls] at cB;obtain ⟨cK,dK⟩:=(g1.mem.kk i hi).ceF;have hci:=g1.mem.cls_at ecls i hi;replace g1:=fx6 g1));refine f1p (f:=26) (args:= #[.pointer (some ⟨L.b,0,none⟩)]) fi jg ?_;refine (zc g1.out.mem .returning).mono ?_;rintro e u' w4 ⟨rfl,rfl,⟨ow4,gM4⟩,gC4⟩;exact ⟨_,f0x rfl _ _ _,rfl,aq hh.out gM4 (g1.out.ch.tr gC4 (fun x hx=> .inl hx))⟩
 · have e:txV V S.n c= .slice none 0 0:=by unfold txV;rw [fx9 hc,fx9 hr]
   rw [e];clear e;have hz:(c== -1)=false:=by simpa using hc
   by_cases h0:0≤c
   · have h1:(S.n:Int)≤c:=by omega
     clear hr hc
     go_enter_defers PV.func60,Tryz.ntmps60
     go_wp2_with (first | (go_at_call 25;refine hLk.out.mono ?_;rintro e w1 ⟨rfl,ow1,g1⟩;obtain ⟨cB,dB⟩:=g1.mem.bb.ceF;simp only [sesC,ecls] at cB;replace g1:=fx6 g1));refine f1p (f:=26) (args:= #[.pointer (some ⟨L.b,0,none⟩)]) fi jg ?_;refine (zc g1.out.mem .returning).mono ?_;rintro e u' w4 ⟨rfl,rfl,⟨ow4,gM4⟩,gC4⟩;exact ⟨_,f0x rfl _ _ _,rfl,aq hh.out gM4 (g1.out.ch.tr gC4 (fun x hx=> .inl hx))⟩
   · have h1:c<0:=by omega
     clear hr hc
     go_enter_defers PV.func60,Tryz.ntmps60
     go_wp2_with (first | (go_at_call 25;refine hLk.out.mono ?_;rintro e w1 ⟨rfl,ow1,g1⟩;obtain ⟨cB,dB⟩:=g1.mem.bb.ceF;simp only [sesC,ecls] at cB;replace g1:=fx6 g1));refine f1p (f:=26) (args:= #[.pointer (some ⟨L.b,0,none⟩)]) fi jg ?_;refine (zc g1.out.mem .returning).mono ?_;rintro e u' w4 ⟨rfl,rfl,⟨ow4,gM4⟩,gC4⟩;exact ⟨_,f0x rfl _ _ _,rfl,aq hh.out gM4 (g1.out.ch.tr gC4 (fun x hx=> .inl hx))⟩
def fnm: ∀ (R:List Plain.Chg),∀ u∈logF R,u.oneCell'=true
 | [],u,h=>by cases h
 | a ::R,u,h=>by
   rcases fz0.1 h with h | h
   · simp only [chgL,fy3,fz8,f0z] at h;rcases h with rfl | rfl | rfl | rfl | rfl | rfl <;>simp [Value.oneCell']
   · exact fnm R u h
def lg_form {m:Int} (h:Mem L V S m ow w):(V.lg= .slice none 0 0∧S.log=[])∨ ∃ g cap,V.lg= .slice (some ⟨g,0,none⟩) S.log.length cap:=by
 rcases h.lg.2 with ⟨h1,h2⟩ | ⟨g,cap,cur,h1,_⟩
 · exact .inl ⟨h1,f1a h2⟩
 · exact .inr ⟨g,cap,h1⟩
def log_any (h:Mem L V S 0 ow w) (hM:Marks L S.n w) (hE:Errs E w) (hl:S.log.length≤4000):
    Calls PV 10 #[.pointer (some ⟨L.b,0,none⟩)] w fun x w'=> ∃ v,x= .returned v∧w'.ownsRow w.heap.size 40 6 v S.log.length (logF S.log)∧Bl w w':=by
 have hLk:=fx6 (wd h hM hE);have hh:=fx6 h;rcases lg_form h with ⟨e1,e2⟩ | ⟨g,cap,e1⟩
 · have hrow: ∀ W:World,W.ownsRow w.heap.size 40 6 (.slice none 0 0) S.log.length (logF S.log):=fun W=>by rw [e2];exact f0w _ _ _ _
   obtain ⟨i0,hi0,hz0',hz1,hz2⟩:=f4i fso;have hI:=fx6 hi0;clear h hM hE hi0 hz0' hz1 hz2
   go_enter_defers PV.func10,Tryz.ntmps10
   go_wp2_with (first | (go_at_call 25;refine hLk.out.mono ?_;rintro e w1 ⟨rfl,ow1,g1⟩;obtain ⟨cB,dB⟩:=g1.mem.bb.ceF;obtain ⟨cS,dS⟩:=g1.mem.ss.ceF;simp only [srvC,e1] at cS;replace g1:=fx6 g1) | (at_builtin;refine wpList_append_own_none (P:=PV) rfl (.const (.slice none 0 0)) (.tmp 16) _ rfl 0 40 i0 6 fwo hI.out (.slice none 0 0) 0 [] rfl (f0w _ _ _ _) rfl ?_));refine f1p (f:=26) (args:= #[.pointer (some ⟨L.b,0,none⟩)]) fi jg ?_;refine (zc g1.out.mem .returning).mono ?_;rintro e u' w4 ⟨rfl,rfl,⟨ow4,gM4⟩,gC4⟩;exact ⟨_,f0x rfl _ _ _,_,rfl,hrow _,aq hh.out gM4 (g1.out.ch.tr gC4 (fun x hx=> .inl hx))⟩
 · obtain ⟨i0,hi0,hz0',hz1,hz2⟩:=f4i fso;have hI:=fx6 hi0;have hZ0:=fx6 hz0';have hZ1:=fx6 hz1;have hZ2:=fx6 hz2;have hlf:=flq S.log;have hone:=fx6 (fnm S.log);clear h hM hE hi0 hz0' hz1 hz2
   go_enter_defers PV.func10,Tryz.ntmps10
   go_wp2_with (first | (go_at_call 25;refine hLk.out.mono ?_;rintro e w1 ⟨rfl,ow1,g1⟩;obtain ⟨cB,dB⟩:=g1.mem.bb.ceF;obtain ⟨cS,dS⟩:=g1.mem.ss.ceF;simp only [srvC,e1] at cS;have hcl:=fx6 (f3g g1.mem.lg (g:=g) (by rw [e1];rfl));replace g1:=fx6 g1) | (at_builtin;refine wpList_append_own_at _ rfl (.const (.slice none 0 0)) (.tmp 16) _ rfl w.heap.size 40 i0 _ 6 48 fwo hI.out hZ0.out hZ1.out hZ2.out rfl fe (.slice none 0 0) 0 [] rfl (f0w _ _ _ _) ⟨g,0,none⟩ S.log.length cap (logF S.log) rfl hlf hcl.out hone.out jq fe g1.out.ch.size ?_;intro v2 w2 hown2 hg2 hn2 ho2));have hb2:Bl w1 w2:=(Bl.rf _).gr hg2 ku;refine f1p (f:=26) (args:= #[.pointer (some ⟨L.b,0,none⟩)]) fi jg ?_;refine (zc (g1.out.mem.bl hb2) .returning).mono ?_;rintro e u' w4 ⟨rfl,rfl,⟨ow4,gM4⟩,gC4⟩;have hown3:w2.ownsRow w.heap.size 40 6 v2 S.log.length (logF S.log):=by simpa using hown2
   exact ⟨_,f0x rfl _ _ _,v2,rfl,qx gC4 hown3 (fun x hx hn=>by subst hn;have:=(hown3.lt _ hx).1;have:=hh.out.bb.lt;omega),aq hh.out gM4 ((g1.out.ch.cl hb2).tr gC4 (fun x hx=> .inl hx))⟩
end
attribute [local go_sem] f5q
def fhr {t:List Plain.El} {k:Nat} {e:Plain.El} (h:t[k]? =some e):(flat t)[k*3]? =some (.int .i32 e.r)∧(flat t)[k*3+1]? =some (.int .i64 e.c)∧(flat t)[k*3+2]? =some (.int .i64 e.n):=by
 induction t generalizing k with
 | nil=>simp at h
 | cons x t ih=>
   cases k with
   | zero=>simp at h;subst h;simp [flat]
   | succ k=>
     simp at h;have:=ih h;simp only [flat];rw [show (k+1)*3=k*3+1+1+1 by omega];simpa using this
section
variable {L:Lay} {V:Vals} {S:Plain.Ses} {ow ow':Nat→Nat} {w w':World} {E:Nat→Value}
def fta (n:Nat) {w0:World} (h:Mem L V S 0 ow w0) (hM:Marks L S.n w0) (hE:Errs E w0) (hw0:Bl w0 w) (hn1:1≤S.n) (hn6:S.n≤6) (c:Int) (bs bc l:Nat) (hbs:Bk w bs 26 #[.pointer (some ⟨L.b,0,none⟩)]) (hbc:Bk w bc 3 #[.int .i64 c]) (hlen:(Plain.textOf S c).length≤4000)
    (J:Nat→World→Prop) (hJ0: ∀ W,Bl w W→J 0 W) (hJb: ∀ k W,J k W→Bl w0 W) (hJa: ∀ k W o,J k W→J k (W.alloc o))
    (hY: ∀ k W e,J k W→(Plain.textOf S c)[k]? =some e→YieldAt Fence.wide (n-1) PV l #[.int .i64 (k:Int),elV e] W fun x W'=>x= .returned (.bool true)∧J (k+1) W'):
    CallsIn Fence.wide n PV 59 #[.func (.yield l) #[] #[],.pointer (some ⟨bs,0,none⟩),.pointer (some ⟨bc,0,none⟩)] w fun x W'=>(∃ v,x= .returned v)∧J (Plain.textOf S c).length W':=by
 have hT:=h.textAt c;obtain ⟨A,cc,hv⟩:=hT.slice;have hX:=fx6 (fnl (h.bl hw0) (hM.bl hw0) (hE.bl h.size hw0) hn1 hn6 c);rw [hv] at hT hX;have hTT:=fx6 hT;obtain ⟨c1,d1⟩:=hbs.ceF;obtain ⟨c2,d2⟩:=hbc.ceF;clear h hM hE hv hT;generalize Plain.textOf S c=t at*;refine callsIn_of_wp PV.func59 rfl trivial ?_ rfl;simp only [Tryz.ntmps59,f3s,fz6,f06,Nat.reduceAdd,Nat.reduceSub,Array.replicate_succ,Array.replicate_zero,List.push_toArray,List.append_toArray,f2h,f0j]
 gi_wp2_with (first | (refine ⟨trivial,fun hh=>absurd hh fu,?_⟩;gi_at_call 60;refine (f4j.2 hX.out).mono ?_;rintro e w1 ⟨rfl,hb⟩))
 gi_loopw [10] (fun i wr=> ∃ k:Nat,k≤t.length∧i= .int .i64 (k:Int)∧J k wr) (fun i _=>t.length-(intOf i).toNat)
 case atStart => exact ⟨0,f1n _,rfl,hJ0 _ hb⟩
 case round=>
    obtain ⟨k,hk,rfl,hJs⟩:=hrel;by_cases hlt:k<t.length
    · have hTr:=hTT.out.bl (hJb k wr hJs);obtain ⟨e,he⟩: ∃ e,t[k]? =some e:=⟨t[k],f0r hlt⟩
      obtain ⟨g,rfl⟩: ∃ g,A=some ⟨g,0,none⟩:=by
        rcases hTr.form with ⟨_,h2⟩ | ⟨g,cap,h1,_⟩
        · rw [h2] at hlt;simp at hlt
        · injection h1 with h1;exact ⟨g,h1⟩
      have hc:=hTr.cells;obtain ⟨f0,f1,f2⟩:=fhr he;have q0:=hc _ _ f0;have q1:=hc _ _ f1;have q2:=hc _ _ f2;simp only [f2u,f1k] at q0 q1 q2;have hin:(k:Int)<(t.length:Int):=by omega
      have hw1:IntKind.i64.wrap ((k:Int)+1)=(k:Int)+1:=f0t _ fe;obtain ⟨fn,tmps,assign,body,hy,hR⟩:=hY k (wr.alloc (.cells #[.int .i32 e.r,.int .i64 e.c,.int .i64 e.n] 38)) e (hJa _ _ _ hJs) he;clear hTT hTr hc f0 f1 f2 hY
      gi_wp2
      refine ⟨fun hh=>absurd hh fu,hR.mono ?_⟩;rintro x W3 ⟨rfl,hJ3⟩
      gi_wp2
      go_roundw
      case rel => exact ⟨k+1,by omega,by simp,hJ3⟩
      case measure => simp [intOf];omega
    · obtain rfl:k=t.length:=by omega
      gi_wp2
      go_end0
      exact ⟨⟨_,rfl⟩,hJs⟩
def ftb (c:Int) (b:Addr) (w:World):Calls PV 27 #[.pointer (some b),.int .i64 c] w fun x w'=>x= .returned (.func (.func 59) #[] #[.pointer (some ⟨w.heap.size,0,none⟩),.pointer (some ⟨w.heap.size+1,0,none⟩)])∧w'=(w.alloc (.cells #[.pointer (some b)] 26)).alloc (.cells #[.int .i64 c] 3):=by
 go_enter PV.func27,Tryz.ntmps27;go_wp2;go_ret;exact ⟨rfl,rfl⟩
end
section
open Go.Shelf
def fk5 {g:Operand} {ps:Array Tmp} {assign body:Code} {Q:Exit→Act→World→Prop} {a:Act} {w:World} {n gf:Nat} {lb:Array Value} (hg:a.eval g= .func (.func gf) #[] lb)
    (eg: ∀ args w,(callFunc gf args).run PV w= .ok (.enter gf args) w) (Z:World→Prop)
    (hcall: ∀ (r:Loop),r.state= .ready→r.pending=none→r.tmps=a.tmps→r.params=ps→r.assign=assign→r.body=body→ ∀ W1,W1=(w.alloc (.deferred (some []))).alloc (.loop r)→
      CallsIn Fence.wide (n-1) PV gf (#[.func (.yield (w.heap.size+1)) #[] #[]]++lb) W1 (fun e W2=>(∃ v,e= .returned v)∧W2.heap[w.heap.size+1]? =some (.loop r)∧Z W2))
    (hdone: ∀ (r:Loop) W2,Z W2→W2.heap[w.heap.size+1]? =some (.loop r)→Q .normal { a with defers:={ target:= .collected w.heap.size,args:= #[] }::a.defers } (W2.putObj (w.heap.size+1) (.loop { r with state:= .exhausted }))):
    (Code.rangeFunc g ps assign body).wpIn Fence.wide n PV Q a w:=by
 refine wpIn_rangeFunc ?_;intro fn hfn;obtain ⟨r,hr⟩: ∃ r:Loop,r={ state:= .ready,pending:=none,fn:=fn,tmps:=a.tmps,params:=ps,assign:=assign,body:=body,defers:=w.heap.size }:=⟨_,rfl⟩;have hc:=hcall r (by rw [hr]) (by rw [hr]) (by rw [hr]) (by rw [hr]) (by rw [hr]) (by rw [hr]) _ rfl
 refine ⟨w.heap.size+1,[{ target:= .collected w.heap.size,args:= #[] }],(w.alloc (.deferred (some []))).alloc (.loop r),{ target:= .fn (.func gf) lb,args:= #[.func (.yield (w.heap.size+1)) #[] #[]] },(w.alloc (.deferred (some []))).alloc (.loop r),gf,
    #[.func (.yield (w.heap.size+1)) #[] #[]]++lb,(w.alloc (.deferred (some []))).alloc (.loop r),?_,?_,?_,?_,fun hh=>absurd hh fu,?_⟩
 · rw [hr];exact run_enterLoop_outer _ _ _ _ _
 · simp only [resolve,hg];simp [go_sem]
 · intro f' hf';trivial
 · simp [invoke,go_sem,eg]
 · refine hc.mono ?_;rintro e W2 ⟨⟨v,rfl⟩,hl,hz⟩;refine ⟨none,W2.putObj (w.heap.size+1) (.loop { r with state:= .exhausted }),?_,hdone r W2 hz hl⟩;have:=_root_.Go.run_endLoop (P:=PV) hl (by rw [hr];simp);rw [this,hr]
def fk6 {W:World} {l m:Nat} {r:Loop} {args:Array Value} {R:World→Prop} (hl:W.heap[l]? =some (.loop r)) (hr:r.state= .ready) (hp:r.pending=none) (hs:args.size=r.params.size)
    (h: ∀ rb:Loop,r.assign.wpIn (Fence.wide.inRound l) m PV (Exit.then (fun a₁ w₁=>w₁.heap[l]? =some (.loop r)∧r.body.wpIn (Fence.wide.inRound l) m PV (fun e _ w2=>e= .normal∧w2.heap[l]? =some (.loop rb)∧R (w2.putObj l (.loop r))) a₁ (w₁.putObj l (.loop rb))) (fun _ _ _=>False))
      { tmps:=(r.params.zip args).foldl (fun t (p,v)=>t.setIfInBounds p v) r.tmps,defers:=[] } W):
    YieldAt Fence.wide m PV l args W fun x W'=>x= .returned (.bool true)∧R W':=by
 refine ⟨_,_,_,_,run_yield hl hs,roundIn_of_wpIn trivial (wpIn_mono (h { r with state:= .busy }) ?_)⟩;intro e a1 w1 hq;cases e with
 | normal=>
   obtain ⟨h1,h2⟩:=hq;refine ⟨_,run_beginRound h1 hr,wpIn_mono h2 ?_⟩;rintro e2 a2 w2 ⟨rfl,h3,h4⟩;have e:({ r with state:= .ready,pending:=none }:Loop)=r:=by cases r;simp_all
   refine ⟨_,_,run_endRound none h3,rfl,?_⟩;simp only [Option.isNone_none,f0e];rw [e];exact h4
 | ret=>exact hq.elim
 | exit _=>exact hq.elim
 | goto _=>exact hq.elim
 | panic _=>exact hq.elim
 | outgrown=>exact hq.elim
end
def fly {w:World} {base n size:Nat} {e:TypeId} {v:Value} {xs:List Value} (h:w.ownsRow base e size v n xs): ∃ A c,v= .slice A n c:=by
 rcases h.2 with ⟨rfl,h2⟩ | ⟨g,cap,cur,rfl,_⟩
 · subst h2;exact ⟨_,_,rfl⟩
 · exact ⟨_,_,rfl⟩
def Ch.po {K:Nat→Prop} {w w1:World} (h:Ch K w w1) {l:Nat} (hl:K l∨w.heap.size≤l) (o:Obj):Ch K w (w1.putObj l o):=
 h.tr (K':=fun x=>x=l) ⟨rfl,rfl,rfl,by simp [World.putObj],fun x _ hn=>World.putObj_heap_other hn⟩ fun x hx=>by subst hx;exact hl
end Go.Proofs.YtelecjnabeokeaaGreatDoor
namespace Go.Proofs.YtelecjnabeokeaaGreatDoor
open Go Go.RowKit
attribute [local go_sem] f5q
section
variable {L:Lay} {V:Vals} {S:Plain.Ses} {ow ow':Nat→Nat} {w w':World} {E:Nat→Value}
structure EI (w:World) (s0 D:Nat) (t:List Plain.El) (k:Nat) (W:World):Prop where
 bl:Bl w W
 n0:Bk W s0 3 #[.int .i64 0]
 ok:Bk W (s0+1+1) 4 #[.bool true]
 dd:W.heap[D]? =some (.deferred (some []))
 row: ∃ v,Bk W (s0+1) 32 #[v]∧W.ownsRow s0 38 3 v k (flat (t.take k))
def EI.ch {s0 D k:Nat} {t:List Plain.El} {W W':World} {K:Nat→Prop} (h:EI w s0 D t k W) (hC:Ch K W W') (hK: ∀ x,K x→w.heap.size≤x) (h0: ¬ K s0) (h1: ¬ K (s0+1)) (h2: ¬ K (s0+1+1)) (hD: ¬ K D) (hR: ∀ v,W.ownsRow s0 38 3 v k (flat (t.take k))→ ∀ x,v.ownBlock=some x→ ¬ K x):EI w s0 D t k W':=by
 obtain ⟨v,hv,hr⟩:=h.row;exact ⟨zf h.bl hC hK,h.n0.ch hC h0,h.ok.ch hC h2,(hC.block D (fx5.1 h.dd).1 hD).trans h.dd,v,hv.ch hC h1,qx hC hr (hR v hr)⟩
def EI.al {s0 D k:Nat} {t:List Plain.El} {W:World} (h:EI w s0 D t k W) (o:Obj):EI w s0 D t k (W.alloc o):=
 h.ch (K:=fun _=>False) ((Ch.rf _ _).al o) (fun _ h=>h.elim) (fun h=>h) (fun h=>h) (fun h=>h) (fun h=>h) (fun _ _ _ _ h=>h)
def EI.bl' {s0 D k:Nat} {t:List Plain.El} {W W':World} (h:EI w s0 D t k W) (hb:Bl W W'):EI w s0 D t k W':=
 h.ch (K:=fun _=>False) (Ch.ba hb) (fun _ h=>h.elim) (fun h=>h) (fun h=>h) (fun h=>h) (fun h=>h) (fun _ _ _ _ h=>h)
def ftc (h:Mem L V S 0 ow w) (hM:Marks L S.n w) (hE:Errs E w) (hn1:1≤S.n) (hn6:S.n≤6) (c:Int) (hlen:(Plain.textOf S c).length<3000):
    Calls PV 11 #[.pointer (some ⟨L.b,0,none⟩),.int .i64 c,.int .i64 0] w fun x w'=> ∃ v,x= .returned (.tuple #[v,.bool true])∧w'.ownsRow w.heap.size 38 3 v (Plain.textOf S c).length (flat (Plain.textOf S c))∧Bl w w':=by
 have hh:=fx6 h;have hMM:=fx6 hM;have hEE:=fx6 hE;clear h hM hE;refine (f4j (n:=8)).1 ?_;refine callsIn_of_wp_marks PV.func11 rfl trivial ?_ rfl;simp only [Tryz.ntmps11,f3s,fz6,f06,Nat.reduceAdd,Nat.reduceSub,Array.replicate_succ,Array.replicate_zero,List.push_toArray,List.append_toArray,f2h,f0j]
 gi_wp2_with (first | (refine ⟨trivial,?_⟩;gi_at_call 27;refine (f4j.2 (ftb _ _ _)).mono ?_;rintro e w1 ⟨rfl,rfl⟩))
 refine vy (F:=fun W0=>Bl w W0∧Bk W0 w.heap.size 3 #[.int .i64 0]∧Bk W0 (w.heap.size+1) 32 #[.slice none 0 0]∧Bk W0 (w.heap.size+1+1) 4 #[.bool true]∧Bk W0 (w.heap.size+1+1+1) 26 #[.pointer (some ⟨L.b,0,none⟩)]∧Bk W0 (w.heap.size+1+1+1+1) 3 #[.int .i64 c]∧W0.heap.size=w.heap.size+5) ?_ ?_
 · refine ⟨((((((Bl.rf _).al _).al _).al _).al _).al _),((((Bk.nw fi).al _).al _).al _).al _,(((Bk.nw fi).al _).al _).al _,((Bk.nw fi).al _).al _,(Bk.nw fi).al _,Bk.nw fi,by simp⟩
 rintro W0 ⟨gb,b5,b8,b9,bs,bc,hsz⟩;obtain ⟨s0,hse⟩: ∃ s0,w.heap.size=s0:=⟨_,rfl⟩;rw [hse] at b5 b8 b9 bs bc hsz ⊢;refine fk5 (gf:=59) (lb:= #[.pointer (some ⟨s0+1+1+1,0,none⟩),.pointer (some ⟨s0+1+1+1+1,0,none⟩)]) rfl (fun args w=>PV.call59 args w) (fun W=>EI w s0 (s0+5) (Plain.textOf S c) (Plain.textOf S c).length W) ?_ ?_
 · intro r r1 r2 r3 r4 r5 r6 W1 hW1;rw [hsz];have hD1:W1.heap[s0+5]? =some (.deferred (some [])):=by rw [hW1,← hsz];exact (f14 _ _ _ fi).trans (f3n W0 _)
   have hl1:W1.heap[s0+5+1]? =some (.loop r):=by
    rw [hW1,← hsz];have:=f3n (W0.alloc (.deferred (some []))) (.loop r);simpa using this
   have hb1:Bl W0 W1:=by rw [hW1];exact ((Bl.rf _).al _).al _
   clear hW1;have h0:EI w s0 (s0+5) (Plain.textOf S c) 0 W1:=⟨gb.cl hb1,b5.bl hb1,b9.bl hb1,hD1,.slice none 0 0,b8.bl hb1,f0w _ _ _ _⟩;refine (fta (8-1) hh.out hMM.out hEE.out (gb.cl hb1) hn1 hn6 c (s0+1+1+1) (s0+1+1+1+1) (s0+5+1) (bs.bl hb1) (bc.bl hb1) fe (fun k W=>EI w s0 (s0+5) (Plain.textOf S c) k W∧W.heap[s0+5+1]? =some (.loop r)) ?_ ?_ ?_ ?_).mono ?_
   · exact fun W hb=>⟨h0.bl' hb,(hb.block _ (fx5.1 hl1).1).trans hl1⟩
   · exact fun k W hJ=>hJ.1.bl
   · exact fun k W o hJ=>⟨hJ.1.al o,(f14 W o _ (fx5.1 hJ.2).1).trans hJ.2⟩
   · rintro k W e ⟨hI,hl⟩ he;refine fk6 hl r1 r2 (by rw [r4];rfl) fun rb=> ?_;rw [r3,r4,r5,r6];have hkl:k<(Plain.textOf S c).length:=(f1c.1 he).1;generalize Plain.textOf S c=t at*;have hWs:=(fx5.1 hl).1
     gi_wp2
     refine ⟨(f14 _ _ _ hWs).trans hl,?_⟩;have hl':(W.alloc (.cells #[.int .i32 e.r,.int .i64 e.c,.int .i64 e.n] 38)).heap[s0+5+1]? =some (.loop r):=(f14 _ _ _ hWs).trans hl
     have hneK: ∀ g tt cs,Bk (W.alloc (.cells #[.int .i32 e.r,.int .i64 e.c,.int .i64 e.n] 38)) g tt cs→ ¬ g=s0+5+1:=fun g tt cs hg e=>by
        have:=hg.at_;rw [e,hl'] at this;cases this
     have hIa:=hI.al (.cells #[.int .i32 e.r,.int .i64 e.c,.int .i64 e.n] 38);have hCl:Ch (fun x=>x=s0+5+1) (W.alloc (.cells #[.int .i32 e.r,.int .i64 e.c,.int .i64 e.n] 38)) ((W.alloc (.cells #[.int .i32 e.r,.int .i64 e.c,.int .i64 e.n] 38)).putObj (s0+5+1) (.loop rb)):=(Ch.rf (fun x=>x=s0+5+1) _).po (.inl rfl) _;refine vy (F:=fun W2=>EI w s0 (s0+5) t k W2∧W2.heap[s0+5+1]? =some (.loop rb)∧Bk W2 W.heap.size 38 #[.int .i32 e.r,.int .i64 e.c,.int .i64 e.n]) ⟨?_,?_,?_⟩ ?_
     · exact hIa.ch hCl (fun x e=>by omega) (hneK _ _ _ hIa.n0) (by obtain ⟨v,hv,_⟩:=hIa.row;exact hneK _ _ _ hv) (hneK _ _ _ hIa.ok) fe (fun v hv x hx e=>uz hv hl' (fun _ _ _ e=>by cases e) x hx e)
     · exact f4v ja
     · exact (Bk.nw rfl).ch hCl (hneK _ _ _ (Bk.nw rfl))
     generalize W.heap.size=xe;clear hCl hneK hl' hIa hI hl hWs;rintro W2 ⟨hI2,hl2,hx⟩;obtain ⟨v,hv,hrow⟩:=hI2.row;obtain ⟨A,cc,rfl⟩:=fly hrow;obtain ⟨i0,hi0,hz0,hz1,hz2⟩:=f4i frt;have hI0:=fx6 hi0;have hZ0:=fx6 hz0;have hZ1:=fx6 hz1;have hZ2:=fx6 hz2;clear hi0 hz0 hz1 hz2;have hR:=fx6 (fun W' (hC:Ch (fun x=>x=s0+1+1) W2 W')=>qx hC hrow (fun x hx e=>rp hrow hI2.ok fu x hx e));obtain ⟨c1,d1⟩:=hI2.n0.ceF;obtain ⟨c2,d2⟩:=hI2.ok.ceF;obtain ⟨c3,d3⟩:=hv.ceF;obtain ⟨c4,d4⟩:=hx.ceF;have hne1: ¬ xe=s0+1+1:=hx.ne_ hI2.ok fu;have hne2: ¬ xe=s0+1:=hx.ne_ hv fu;have hO8:=fx6 (rp hrow hv fu);have hO5:=fx6 (rp hrow hI2.n0 fu);have hin3:((k:Int)+1==3000)=false:=by simp;omega
     have hin0:((k:Int)+1==0)=false:=by simp;omega
     have hsz2:s0≤W2.heap.size:=by have:=hI2.n0.lt;omega
     gi_wp2_with (first | (gi_at_builtin;refine wpListIn_append_own _ rfl (.tmp 24) (.tmp 26) _ rfl s0 38 i0 _ 3 24 fru hI0.out hZ0.out hZ1.out hZ2.out rfl fe (.slice A k cc) k (flat (t.take k)) rfl (hR.out _ (((Ch.rf (fun x=>x=s0+1+1) W2).st (p:=⟨s0+1+1,0,none⟩) (.inl rfl) _).al _)) ⟨W2.heap.size,0,none⟩ 1 1 [.int .i32 e.r,.int .i64 e.c,.int .i64 e.n] rfl rfl (f2m (cs:= #[.int .i32 e.r,.int .i64 e.c,.int .i64 e.n]) (t:=38) (fr:=(0,0)) (Bk.nw (by simp [World.setCell])).at_) p9 jq fe ja ?_;intro v' w1 hown' hgrow _;obtain ⟨A',cc',rfl⟩:=fly hown';have k8:=Bk.gr hgrow (fun e=>hO8.out _ e.symm rfl) (Bk.al (Bk.fr _ fi hv) _);have k5:=Bk.gr hgrow (fun e=>hO5.out _ e.symm rfl) (Bk.al (Bk.fr _ ja hI2.n0) _);obtain ⟨c8,d8⟩:=k8.ceF;obtain ⟨c5,d5⟩:=k5.ceF))
     have hlt2:=(fx5.1 hl2).1;have hOl:=uz hrow hl2 (fun _ _ _ e=>by cases e)
     have hC5:Ch (fun x=>x=s0+1+1∨x=s0+1∨(Value.slice A k cc).ownBlock=some x) W2 (w1.setCell ⟨s0+1,0,none⟩ (.slice A' (k+1) cc')):=
        ((((Ch.rf (fun x=>x=s0+1+1∨x=s0+1∨(Value.slice A k cc).ownBlock=some x) W2).st (p:=⟨s0+1+1,0,none⟩) (.inl (.inl rfl)) _).al _).gr hgrow (fun x hx=> .inl (.inr (.inr hx)))).st (p:=⟨s0+1,0,none⟩) (.inl (.inr (.inl rfl))) _
     have hl5:(w1.setCell ⟨s0+1,0,none⟩ (.slice A' (k+1) cc')).heap[s0+5+1]? =some (.loop rb):=(hC5.block _ hlt2 (by rintro (e | e | e);omega;omega;exact hOl _ e rfl)).trans hl2;have hlt5:=(fx5.1 hl5).1;have hC6:=(hC5.mo (K':=fun x=>(x=s0+1+1∨x=s0+1∨(Value.slice A k cc).ownBlock=some x)∨x=s0+5+1) (fun x hx=> .inl hx)).po (l:=s0+5+1) (.inl (.inr rfl)) (.loop r);have hCl:Ch (fun x=>x=s0+5+1) (w1.setCell ⟨s0+1,0,none⟩ (.slice A' (k+1) cc')) ((w1.setCell ⟨s0+1,0,none⟩ (.slice A' (k+1) cc')).putObj (s0+5+1) (.loop r)):=(Ch.rf (fun x=>x=s0+5+1) _).po (.inl rfl) _;have hO2:=rp hrow hI2.ok fu;refine ⟨hl5,⟨zf hI2.bl hC6 (fun x hx=> ?_),hI2.n0.ch hC6 ?_,?_,(hC6.block _ (fx5.1 hI2.dd).1 ?_).trans hI2.dd,.slice A' (k+1) cc',((k8.st _).cv fi).ch hCl fe,?_⟩,f4v hlt5⟩
     · rcases hx with (e | e | e) | e
       · omega
       · omega
       · have:=(hrow.lt x e).1;omega
       · omega
     · rintro ((e | e | e) | e)
       · omega
       · omega
       · exact hO5.out _ e rfl
       · omega
     · have k2:=Bk.gr hgrow (fun e=>hO2 _ e.symm rfl) (Bk.al ((hI2.ok.st (i:=0) (.bool true)).cv (cs':= #[.bool true]) fi) (.cells #[.int .i32 e.r,.int .i64 e.c,.int .i64 e.n] 38));exact (Bk.fr _ fi k2).ch hCl fe
     · rintro ((e | e | e) | e)
       · omega
       · omega
       · exact uz hrow hI2.dd (fun _ _ _ e=>by cases e) _ e rfl
       · omega
     · have e1:flat (t.take (k+1))=flat (t.take k)++[.int .i32 e.r,.int .i64 e.c,.int .i64 e.n]:=by
         rw [List.take_add_one,he,ol];rfl
       rw [e1];have o1:(w1.setCell ⟨s0+1,0,none⟩ (.slice A' (k+1) cc')).ownsRow s0 38 3 (.slice A' (k+1) cc') (k+1) (flat (t.take k)++[.int .i32 e.r,.int .i64 e.c,.int .i64 e.n]):=qx (K:=fun x=>x=s0+1) ((Ch.rf (fun x=>x=s0+1) _).st (p:=⟨s0+1,0,none⟩) (.inl rfl) _) hown' (rp hown' k8 fu);exact qx hCl o1 (fun x hx e=>uz o1 hl5 (fun _ _ _ e=>by cases e) x hx e)
   · rintro e W ⟨hv,hI,hl⟩;exact ⟨hv,hl,hI⟩
 · intro r W2 hI hl;rw [hsz] at hl ⊢;have hCl:Ch (fun x=>x=s0+5+1) W2 (W2.putObj (s0+5+1) (.loop { r with state:= .exhausted })):=(Ch.rf (fun x=>x=s0+5+1) _).po (.inl rfl) _;have hI3:=hI.ch hCl (fun x e=>by omega) fe fe fe fe (fun v hv x hx e=>uz hv hl (fun _ _ _ e=>by cases e) x hx e);refine vy (F:=fun W3=>EI w s0 (s0+5) (Plain.textOf S c) (Plain.textOf S c).length W3) hI3 ?_;clear hI3 hCl hI hl;rintro W3 hI;obtain ⟨v,hv,hrow⟩:=hI.row;obtain ⟨c1,d1⟩:=hI.ok.ceF;obtain ⟨c2,d2⟩:=hv.ceF
   gi_wp2
   gi_region
   all_goals gi_wp2
   have hdd:W3.drew.heap[s0+5]? =some (.deferred (some [])):=hI.dd;have hCd:Ch (fun x=>x=s0+5) W3 (W3.drew.putObj (s0+5) (.deferred none)):=((Ch.rf (fun x=>x=s0+5) W3).dr).po (.inl rfl) _;refine ⟨by simp,.inl ⟨_,_,rfl,run_takeDeferred hdd,?_⟩⟩;refine ⟨_,results_tmp2 rfl _ _ _,v,rfl,?_,zf hI.bl hCd (fun x e=>by omega)⟩;rw [hse];have:=qx hCd hrow (fun x hx e=>uz hrow hI.dd (fun _ _ _ e=>by cases e) x hx e);rwa [f4a] at this
end
end Go.Proofs.YtelecjnabeokeaaGreatDoor
namespace Go.Proofs.YtelecjnabeokeaaGreatDoor
open Go Go.RowKit
def fk7:ccV.ntmps=5:=rfl
def fnn:((PV.info? 102).map fun i=>decide (i.bytes<2 ^ 64))=some true:=by kernel_rfl
def lies102:liesAt Tryz.prog Tryz.prog.depth 102 (2 / Tryz.prog.cellsOf 102) 0 102 1=true:=by kernel_rfl
def us99 {v:World} {bb:Nat} {cs:Array Value} (hB:Bk v bb 102 cs) (hs:cs.size=2):(Builtin.unsafeSlice_ #[99,3] 0 #[.pointer (some ⟨bb,0,none⟩),.int .i64 1]).run PV v= .ok (.slice (some ⟨bb,0,none⟩) 1 1) v:=by
 have hsh:v.shape? bb=some (102,2):=by simp [World.shape?,hB.at_,hs]
 have hu: ∀ w,(underlying 99).run PV w= .ok (.pointer 102) w:=fun w=>by rw [ua];exact Tryz.runUnderlying99 w
 have hel: ∀ w,(elemOf 99).run PV w= .ok 102 w:=fun w=>by simp [elemOf,fz9,hu,Result.andThen,Pure.pure,Sem.run]
 have hva:(variablesAt ⟨bb,0,none⟩ 102 1).run PV v= .ok true v:=by
    have:(Go.shape bb:Sem _).run PV v= .ok (some (102,2)) v:=by simp [Go.shape,Sem.run,hsh]
    show ((Go.program >>= fun p'=>Go.shape bb >>= fun s=>(match s with
     | some (e,cells)=>Pure.pure (liesAt p' p'.depth e (cells / p'.cellsOf e) 0 102 1)
     | none=>Pure.pure false):Sem Bool)).run PV v=_
    simp [Go.program,fz9,this,Result.andThen,Sem.run,Pure.pure,m9,yw,vf,lies102]
 have hsz: ∀ w,(sizeOf 102).run PV w= .ok 2 w:=fun w=>by rw [fce];exact Tryz.sizeOf102 w
 obtain ⟨i,hi,hb⟩:=fy8.1 fnn;have hb: ¬ i.bytes≥2 ^ 64:=by simp at hb;omega
 have hti: ∀ w,(typeInfo 102).run PV w= .ok i w:=fun w=>by simp [typeInfo,Go.program,fz9,Sem.run,hi,Result.andThen,Pure.pure]
 have key: ∀ y:Value,(∀ w,(asInt y).run PV w= .ok 1 w)→(Builtin.unsafeSlice_ #[99,3] 0 #[.pointer (some ⟨bb,0,none⟩),y]).run PV v= .ok (.slice (some ⟨bb,0,none⟩) 1 1) v:=fun y hy=>by
    unfold Builtin.unsafeSlice_;refine (qw (hy v)).trans ?_;dsimp only;refine (qw (hel v)).trans ?_;rw [fx9 fu,fx9 fu];refine (qw (hti v)).trans ?_;have e1:(1:Int).toNat*i.bytes=i.bytes:=by simp
    rw [e1,fx9 hb];refine (qw (hsz v)).trans ?_;refine (qw hva).trans ?_;rfl
 exact key _ fun w=>rfl
section
variable {w:World} {bb:Nat} {v:Value}
def cc0 (hb:Base w) (hB:Bk w bb 102 #[.pointer none,v]) (h2:2≤bb):Calls PV 75 #[.pointer (some ⟨bb,0,none⟩)] w fun x w'=>x= .returned (.tuple #[])∧w'=w.setCell ⟨bb,0,none⟩ (.pointer (some ⟨bb,0,none⟩)):=by
 obtain ⟨k0,k1⟩:=hb.chk hB h2 0;obtain ⟨c,d⟩:=hB.ceF;have hu:=us99 hB rfl;clear hb hB;go_enter PV.func75,fk7;simp only [ccB,chkR,chk,oper];go_wp2
 first | (go_end0;exact ⟨rfl,rfl⟩) | (refine f0q (f2g rfl _ _ _) rfl ?_;exact ⟨rfl,rfl⟩)
def eql99 (p:Addr) (w:World):(binOp .eql 99 (.pointer (some p)) (.pointer (some p))).run PV w= .ok (.bool true) w:=by
 obtain ⟨j,hj,_⟩:=fy8.1 fnn;have hp:PV.underlying 99=some (.pointer 102):=Tryz.underlying99
 have h: ∀ d:Nat,(Op.equalIn (d+1) 99 (.pointer (some p)) (.pointer (some p))).run PV w= .ok true w:=fun d=>by
    simp [Op.equalIn,f1l hp,sizeOf,typeInfo,hj,run_sameAddr_same]
 simp only [binOp];simp [Op.equal,Op.maxDepth,h 9999]
def cc1 (hb:Base w) (hB:Bk w bb 102 #[.pointer (some ⟨bb,0,none⟩),v]) (h2:2≤bb):Calls PV 75 #[.pointer (some ⟨bb,0,none⟩)] w fun x w'=>x= .returned (.tuple #[])∧w'=w:=by
 obtain ⟨k0,k1⟩:=hb.chk hB h2 0;obtain ⟨c,d⟩:=hB.ceF;have he:=fun w=>eql99 ⟨bb,0,none⟩ w;clear hb hB;go_enter PV.func75,fk7;simp only [ccB,chkR,chk,oper];go_wp2
 first | (go_end0;exact ⟨rfl,rfl⟩) | (refine f0q (f2g rfl _ _ _) rfl ?_;exact ⟨rfl,rfl⟩)
def info5:(PV.info? 5).map (fun i=>(i.zero,i.size,i.bytes))=some (some (.int .u8 0),1,1):=by kernel_rfl
def und100:PV.underlying 100=some (.slice 5):=by kernel_rfl
abbrev fk8 (l:List Nat):List Value:=l.map fun (b:Nat)=>Value.int .u8 (b:Int)
def fff (s0 r:Nat) (l:List Nat) (hr:r≤127) (hO:w.ownsRow s0 5 1 v l.length (fk8 l)) (hl:l.length≤4000) (hs:s0≤w.heap.size):
    Calls PV 76 #[v,.int .i32 (r:Int)] w fun x w'=> ∃ g cap,x= .returned (.slice (some ⟨g,0,none⟩) (l.length+1) cap)∧w'.ownsRow s0 5 1 (.slice (some ⟨g,0,none⟩) (l.length+1) cap) (l.length+1) (fk8 (l++[r]))∧Ch (fun x=>v.ownBlock=some x) w w':=by
 obtain ⟨i0,hi0,hz0,hz1,hz2⟩:=f4i info5;have hI:=fx6 hi0;have hZ0:=fx6 hz0;have hZ1:=fx6 hz1;have hZ2:=fx6 hz2;clear hi0 hz0 hz1 hz2
 have hu:IntKind.u32.wrap (r:Int)=(r:Int):=by
    simp [IntKind.wrap,IntKind.signed,IntKind.bits,IntKind.min,IntKind.max];omega
 have hb:IntKind.u8.wrap (r:Int)=(r:Int):=by
    simp [IntKind.wrap,IntKind.signed,IntKind.bits,IntKind.min,IntKind.max];omega
 have hle:(r:Int)≤127:=by omega
 have hOO:=fx6 hO;clear hO;go_enter PV.func76,Tryz.ntmps76;go_wp2_with (first | (at_builtin;refine wpList_append_lies _ rfl (.tmp 8) (.tmp 11) _ rfl s0 5 i0 _ 1 1 und100 hI.out hZ0.out hZ1.out hZ2.out rfl fe v l.length (fk8 l) rfl (qx (K:=fun _=>False) (Ch.ba ((Bl.rf _).al _)) hOO.out (fun _ _ h=>h)) ⟨w.heap.size,0,none⟩ 1 1 [.int .u8 (r:Int)] rfl rfl (f2m (cs:= #[.int .u8 (r:Int)]) (t:=5) (fr:=(0,0)) (Bk.nw rfl).at_) p9 fe jq fe ja _ rfl ?_;intro g cap w1 hown1 hg1 hat1 hlt1));go_ret;exact ⟨g,cap,rfl,by simpa [fk8] using hown1,((Ch.rf (fun x=>v.ownBlock=some x) w).al _).gr hg1 (fun k hk=> .inl hk)⟩
structure BB (w:World) (bb s0:Nat) (l:List Nat):Prop where
 out: ∃ p v,(p= .pointer none∨p= .pointer (some ⟨bb,0,none⟩))∧Bk w bb 102 #[p,v]∧w.ownsRow s0 5 1 v l.length (fk8 l)
def fbv (s0 r:Nat) (l:List Nat) (hb:Base w) {p:Value} (hp:p= .pointer none∨p= .pointer (some ⟨bb,0,none⟩)) (hB:Bk w bb 102 #[p,v]) (hO:w.ownsRow s0 5 1 v l.length (fk8 l)) (h2:2≤bb) (hr:r≤127) (hl:l.length≤4000) (hs:s0≤w.heap.size):
    Calls PV 34 #[.pointer (some ⟨bb,0,none⟩),.int .i32 (r:Int)] w fun x w'=>(∃ y,x= .returned y)∧BB w' bb s0 (l++[r])∧Ch (fun x=>x=bb∨v.ownBlock=some x) w w':=by
 have hcc:Calls PV 75 #[.pointer (some ⟨bb,0,none⟩)] w fun x w'=>x= .returned (.tuple #[])∧Bk w' bb 102 #[.pointer (some ⟨bb,0,none⟩),v]∧Ch (fun x=>x=bb) w w':=by
    rcases hp with rfl | rfl
    · refine (cc0 hb hB h2).mono ?_;rintro x w' ⟨rfl,rfl⟩;exact ⟨rfl,(hB.st _).cv fi,(Ch.rf (fun x=>x=bb) w).st (p:=⟨bb,0,none⟩) (.inl rfl) _⟩
    · refine (cc1 hb hB h2).mono ?_;rintro x w' ⟨rfl,rfl⟩;exact ⟨rfl,hB,Ch.rf _ _⟩
 have hne:=rp hO hB fu;obtain ⟨A,cc,rfl⟩:=fly hO;have hOO:=fx6 hO;have hCC:=fx6 hcc;have hOlt:=fx6 hO.lt;clear hcc hO hB hb;go_enter PV.func34,Tryz.ntmps34;go_wp2_with (first | (go_at_call 75;refine hCC.out.mono ?_;rintro e w1 ⟨rfl,gB,gC⟩;have gO:=qx gC hOO.out hne;obtain ⟨c1,d1⟩:=gB.ceF;have hA:=fx6 (fff (w:=w1) s0 r l hr gO hl (f08 hs gC.size));have gBB:=fx6 gB;replace gC:=fx6 gC) | (go_at_call 76;refine hA.out.mono ?_;rintro e w2 ⟨g,cap,rfl,gO2,gC2⟩;have gB2:=gBB.out.ch gC2 (fun e=>hne _ e rfl);obtain ⟨c2,d2⟩:=gB2.ceF;have gB2':=fx6 gB2));refine f0q (v:= .tuple #[.int .i64 ((l.length:Int)+1-(l.length:Int)),.nilIface]) (by simp [results,Tryz.results34,go_sem]) rfl ⟨⟨_,rfl⟩,⟨⟨_,_,.inr rfl,(gB2'.out.st _).cv (by simp;rfl),?_⟩⟩,?_⟩
 · have:=qx (K:=fun x=>x=bb) ((Ch.rf (fun x=>x=bb) w2).st (p:=⟨bb,1,none⟩) (.inl rfl) (.slice (some ⟨g,0,none⟩) (l.length+1) cap)) gO2 (rp gO2 gB2'.out fu);simpa using this
 · exact (((gC.out.mo (K':=fun x=>x=bb∨(Value.slice A l.length cc).ownBlock=some x) (fun x hx=> .inl hx)).tr gC2 (fun x hx=> .inl (.inr hx))).st (p:=⟨bb,1,none⟩) (.inl (.inl rfl)) _)
def fhs (s0 r:Nat) (l:List Nat) (hb:Base w) (h:BB w bb s0 l) (h2:2≤bb) (hr:r≤127) (hl:l.length≤4000) (hs:s0≤w.heap.size):
    Calls PV 34 #[.pointer (some ⟨bb,0,none⟩),.int .i32 (r:Int)] w fun x w'=>(∃ y,x= .returned y)∧BB w' bb s0 (l++[r])∧Ch (fun x=>x=bb∨s0≤x) w w':=by
 obtain ⟨p,v,hp,hB,hO⟩:=h.out;exact (fbv s0 r l hb hp hB hO h2 hr hl hs).mono fun x w' ⟨h1,h3,h4⟩=>⟨h1,h3,h4.mo fun x hx=>hx.imp id fun e=>(hO.lt x e).1⟩
def und144:PV.underlying 144=some (.pointer 5):=by kernel_rfl
def cells5:PV.cellsOf 5=1:=by kernel_rfl
def Ch.fz {K:Nat→Prop} {w w1:World} (h:Ch K w w1) {p:Addr} (hp:K p.block) (n:Nat):Ch K w (w1.freeze p n):=by
 unfold World.freeze;split
 · exact h
 · exact h.tr (K':=fun x=>x=p.block) ⟨rfl,rfl,rfl,by simp,fun x _ hn=>by simp only [fy6];rw [fx9 (fun e=>hn e.symm)]⟩ fun x hx=>by subst hx;exact .inl hp
def bstr (l:List Nat):ByteArray:=⟨(l.map fun b=>UInt8.ofNat b).toArray⟩
def fk9 (s0:Nat) (l:List Nat) {p:Value} (hB:Bk w bb 102 #[p,v]) (hO:w.ownsRow s0 5 1 v l.length (fk8 l)) (hne:l≠[]) (h255: ∀ b∈l,b≤255) (hl:l.length≤4000):
    Calls PV 36 #[.pointer (some ⟨bb,0,none⟩)] w fun x w'=>x= .returned (.string (bstr l))∧Ch (fun x=>v.ownBlock=some x) w w':=by
 obtain ⟨hxl,hnil | ⟨g,cap,cur,rfl,hsg,hcur,hlc,hmx,hcc,htk⟩⟩:=hO
 · exact absurd (f1a hnil.2) hne
 have hl0:0<l.length:=List.length_pos_iff.2 hne;have hSD:=fun W:World=>Lib.run_unsafeSliceData_row (P:=PV) (w:=W) #[100] 144 ⟨g,0,none⟩ l.length cap fe;have hgcur:Bk w g 5 cur:=⟨hcur⟩
 have hUS:(Builtin.unsafeString_ #[144,3] 9 #[.pointer (some ⟨g,0,none⟩),.int .i64 (l.length:Int)]).run PV w.drew= .ok (.string (bstr l)) (w.drew.freeze ⟨g,0,none⟩ l.length):=by
    have hsh:w.drew.shape? g=some (5,cur.size):=by
     have:w.drew.heap[g]? =some (.cells cur 5 (0,0)):=hcur;simp [World.shape?,this]
    have:=Lib.run_unsafeString_row (P:=PV) (w:=w.drew) 144 3 9 5 und144 cells5 g cur.size hsh (l.map fun b=>UInt8.ofNat b) (by simpa using hne) ja ja (fun j x hx=>by
     simp only [f2u,f1k];rw [(hgcur.dr).ce j];simp only [f1s,fy8] at hx;obtain ⟨b,hb,rfl⟩:=hx;have hj:=(f1c.1 hb).1
     have h1:(cur.toList.take (l.length*1))[j]? =some (.int .u8 (b:Int)):=by
        rw [htk];simp [fk8,hb]
     rw [f5r,f02 fe] at h1;have h2:=h255 b (f3x hb);rw [← Array.getElem?_toList,h1];simp;omega)
    simpa [bstr] using this
 clear hcur hgcur htk hxl;go_enter PV.func36,Tryz.ntmps36;go_upto_region 1 with fail
 refine rn (sel [fun w'=>Bk w' bb 102 #[p,.slice (some ⟨g,0,none⟩) l.length cap]]) [(.h 9,0),(.h 9,1),(.h 9,2),(.h 0,3),(.h 9,4),(.h 9,5),(.h 9,6),(.h 9,7),(.h 0,8),(.h 9,9),(.c [9],10),(.h 9,11)] fd fd (qy (Bk.dr hB) (fun _=>un)) ?_;simp only [vg,fy9,fz4,fz3,fy2,fx7,fy0];iterate 10 (refine oH ?_;try simp only [aps])
 (refine rx (fun K hK=> ?_);go_simp;refine hK _ _ (rh trivial ry) ?_;clear hK K;try simp only [aps])
 (refine oH ?_;try simp only [aps]);refine ub ?_;go_wp2;go_ret
 first | exact ⟨rfl,((Ch.rf (fun x=>(Value.slice (some ⟨g,0,none⟩) l.length cap).ownBlock=some x) w).dr).fz (p:=⟨g,0,none⟩) rfl _⟩ | exact ⟨rfl,((Ch.rf (fun x=>(Value.slice (some ⟨g,0,none⟩) l.length cap).ownBlock=some x) w).fz (p:=⟨g,0,none⟩) rfl _).dr⟩
def fp9 (s0:Nat) (l:List Nat) (h:BB w bb s0 l) (hne:l≠[]) (h255: ∀ b∈l,b≤255) (hl:l.length≤4000):
    Calls PV 36 #[.pointer (some ⟨bb,0,none⟩)] w fun x w'=>x= .returned (.string (bstr l))∧Ch (fun x=>s0≤x) w w':=by
 obtain ⟨p,v,hp,hB,hO⟩:=h.out;exact (fk9 s0 l hB hO hne h255 hl).mono fun x w' ⟨h1,h2⟩=>⟨h1,h2.mo fun x e=>(hO.lt x e).1⟩
end
attribute [local go_sem] f5q
abbrev vq (t:List Plain.El):List Nat:=t.map fun e=>e.r.toNat
def Asc (t:List Plain.El):Prop:= ∀ e∈t,0≤e.r∧e.r≤127
section
variable {L:Lay} {V:Vals} {S:Plain.Ses} {ow ow':Nat→Nat} {w w':World} {E:Nat→Value}
def text35 (h:Mem L V S 0 ow w) (hM:Marks L S.n w) (hE:Errs E w) (hn1:1≤S.n) (hn6:S.n≤6) (c:Int) (hlen:(Plain.textOf S c).length≤3000) (hne:Plain.textOf S c≠[]) (hA:Asc (Plain.textOf S c)):
    Calls PV 35 #[.pointer (some ⟨L.b,0,none⟩),.int .i64 c] w fun x w'=>x= .returned (.string (bstr (vq (Plain.textOf S c))))∧Bl w w':=by
 have hT:=h.textAt c;obtain ⟨A,cc,hv⟩:=hT.slice;have hb1:Bl w (w.alloc (.cells #[.pointer none,.slice none 0 0] 102)):=(Bl.rf _).al _;have hX:=fx6 (fnl (h.bl hb1) (hM.bl hb1) (hE.bl h.size hb1) hn1 hn6 c);have hbase:=fx6 h.base;have h12:=h.size;rw [hv] at hT hX;have hTT:=fx6 hT;have hB0:BB (w.alloc (.cells #[.pointer none,.slice none 0 0] 102)) w.heap.size w.heap.size []:=⟨_,_,.inl rfl,Bk.nw rfl,f0w _ _ _ _⟩;clear h hM hE hv hT;generalize Plain.textOf S c=t at*;go_enter PV.func35,Tryz.ntmps35;go_wp2_with (first | (go_at_call 60;refine hX.out.mono ?_;rintro e w1 ⟨rfl,hb⟩))
 go_loopw [12] (fun i wr=> ∃ k:Nat,k≤t.length∧i= .int .i64 (k:Int)∧Bl w wr∧BB wr w.heap.size w.heap.size (vq (t.take k))) (fun i _=>t.length-(intOf i).toNat)
 case atStart => exact ⟨0,f1n _,rfl,hb1.cl hb,by obtain ⟨p,v,h1,h2,h3⟩:=hB0.out;exact ⟨p,v,h1,h2.bl hb,qx (K:=fun _=>False) (Ch.ba hb) h3 (fun _ _ h=>h)⟩⟩
 case round=>
    obtain ⟨k,hk,rfl,hbr,hBB⟩:=hrel;by_cases hlt:k<t.length
    · have hTr:=hTT.out.bl hbr;obtain ⟨e,he⟩: ∃ e,t[k]? =some e:=⟨t[k],f0r hlt⟩;obtain ⟨g,rfl⟩: ∃ g,A=some ⟨g,0,none⟩:=by
       rcases hTr.form with ⟨_,h2⟩ | ⟨g,cap,h1,_⟩
       · rw [h2] at hlt;simp at hlt
       · injection h1 with h1;exact ⟨g,h1⟩
      have hc:=hTr.cells;obtain ⟨f0,f1,f2⟩:=fhr he;have q0:=hc _ _ f0;have q1:=hc _ _ f1;have q2:=hc _ _ f2;simp only [f2u,f1k] at q0 q1 q2;have hin:(k:Int)<(t.length:Int):=by omega
      have hw1:IntKind.i64.wrap ((k:Int)+1)=(k:Int)+1:=f0t _ fe;obtain ⟨ha1,ha2⟩:=hA e (f3x he);obtain ⟨r,hr⟩: ∃ r:Nat,e.r=r:=⟨e.r.toNat,by omega⟩;have hB1:BB (wr.alloc (.cells #[.int .i32 (r:Int),.int .i64 e.c,.int .i64 e.n] 38)) w.heap.size w.heap.size (vq (t.take k)):=by
       obtain ⟨p,v,h1,h2,h3⟩:=hBB.out;exact ⟨p,v,h1,h2.al _,qx (K:=fun _=>False) (Ch.ba ((Bl.rf _).al _)) h3 (fun _ _ h=>h)⟩
      have hWr:=fx6 (fhs w.heap.size r _ ((hbase.out.bl hbr).bl ((Bl.rf _).al _)) hB1 fe fe ja (by have:=hbr.size;simp;omega));rw [hr] at q0;have het:vq (t.take (k+1))=vq (t.take k)++[r]:=by
       rw [List.take_add_one,he];simp [vq,hr]
      have het':=fx6 het;clear hTT hTr hc f0 f1 f2 het hr;go_wp2_with (first | (go_at_call 34;refine hWr.out.mono ?_;rintro x w3 ⟨⟨y,rfl⟩,gB,gC⟩;have gb:=zf (hbr.al (.cells #[.int .i32 (r:Int),.int .i64 e.c,.int .i64 e.n] 38)) gC (fun x hx=>by omega)))
      go_roundw
      case rel => exact ⟨k+1,by omega,by simp,gb,by rw [het'.out];exact gB⟩
      case measure => simp [intOf];omega
    · obtain rfl:k=t.length:=by omega
      have hS:=fx6 (fp9 w.heap.size _ hBB (by simpa using hne) (fun b hb=>by
       simp only [f4a,f3p] at hb;obtain ⟨e,he,rfl⟩:=hb;have:=hA e he;omega) ja)
      rw [f4a] at hS;clear hTT hA hbase;go_wp2_with (first | (go_at_call 36;refine hS.out.mono ?_;rintro x w3 ⟨rfl,gC⟩;have gb:=zf hbr gC (fun x hx=>hx)));go_ret;exact ⟨rfl,gb⟩
end
end Go.Proofs.YtelecjnabeokeaaGreatDoor
namespace Go.Proofs.YtelecjnabeokeaaGreatDoor
open Go Go.RowKit
attribute [local go_sem] f5q
section
variable {L:Lay} {V:Vals} {S:Plain.Ses} {ow ow':Nat→Nat} {w w':World} {E:Nat→Value}
structure TI (w:World) (s0 D:Nat) (t:List Plain.El) (k:Nat) (W:World):Prop where
 bl:Bl w W
 dd:W.heap[D]? =some (.deferred (some []))
 bb:BB W s0 s0 (vq (t.take k))
def TI.ch {s0 D k:Nat} {t:List Plain.El} {W W':World} {K:Nat→Prop} (h:TI w s0 D t k W) (hC:Ch K W W') (hK: ∀ x,K x→w.heap.size≤x) (h0: ¬ K s0) (hD: ¬ K D) (hR: ∀ v n xs,W.ownsRow s0 5 1 v n xs→ ∀ x,v.ownBlock=some x→ ¬ K x):TI w s0 D t k W':=by
 obtain ⟨p,v,h1,h2,h3⟩:=h.bb.out;exact ⟨zf h.bl hC hK,(hC.block D (fx5.1 h.dd).1 hD).trans h.dd,p,v,h1,h2.ch hC h0,qx hC h3 (hR _ _ _ h3)⟩
def TI.bl' {s0 D k:Nat} {t:List Plain.El} {W W':World} (h:TI w s0 D t k W) (hb:Bl W W'):TI w s0 D t k W':=
 h.ch (K:=fun _=>False) (Ch.ba hb) (fun _ h=>h.elim) (fun h=>h) (fun h=>h) (fun _ _ _ _ _ _ h=>h)
def eql9 (b:ByteArray) (w:World):(binOp .eql 9 (.string b) (.string b)).run PV w= .ok (.bool true) w:=by
 have hu:PV.underlying 9=some .string:=by kernel_rfl
 simp [binOp,Op.equal,Op.maxDepth,Op.equalIn,f1l hu,Op.stringOp]
def ftd (h:Mem L V S 0 ow w) (hM:Marks L S.n w) (hE:Errs E w) (hn1:1≤S.n) (hn6:S.n≤6) (c:Int) (hlen:(Plain.textOf S c).length<3000) (hne:Plain.textOf S c≠[]) (hA:Asc (Plain.textOf S c)):
    Calls PV 16 #[.pointer (some ⟨L.b,0,none⟩),.int .i64 c] w fun x w'=>x= .returned (.tuple #[.string (bstr (vq (Plain.textOf S c))),.bool true])∧Bl w w':=by
 have hh:=fx6 h;have hMM:=fx6 hM;have hEE:=fx6 hE;have hbase:=fx6 h.base;have h12:=h.size;clear h hM hE;refine (f4j (n:=8)).1 ?_;refine callsIn_of_wp_marks PV.func16 rfl trivial ?_ rfl;simp only [Tryz.ntmps16,f3s,fz6,f06,Nat.reduceAdd,Nat.reduceSub,Array.replicate_succ,Array.replicate_zero,List.push_toArray,List.append_toArray,f2h,f0j]
 gi_wp2_with (first | (refine ⟨trivial,?_⟩;gi_at_call 27;refine (f4j.2 (ftb _ _ _)).mono ?_;rintro e w1 ⟨rfl,rfl⟩))
 refine vy (F:=fun W0=>Bl w W0∧Bk W0 w.heap.size 102 #[.pointer none,.slice none 0 0]∧Bk W0 (w.heap.size+1) 26 #[.pointer (some ⟨L.b,0,none⟩)]∧Bk W0 (w.heap.size+1+1) 3 #[.int .i64 c]∧W0.heap.size=w.heap.size+3) ?_ ?_
 · exact ⟨((((Bl.rf _).al _).al _).al _),((Bk.nw fi).al _).al _,(Bk.nw fi).al _,Bk.nw fi,by simp⟩
 rintro W0 ⟨gb,b6,bs,bc,hsz⟩;obtain ⟨s0,hse⟩: ∃ s0,w.heap.size=s0:=⟨_,rfl⟩;rw [hse] at b6 bs bc hsz ⊢;refine fk5 (gf:=59) (lb:= #[.pointer (some ⟨s0+1,0,none⟩),.pointer (some ⟨s0+1+1,0,none⟩)]) rfl (fun args w=>PV.call59 args w) (fun W=>TI w s0 (s0+3) (Plain.textOf S c) (Plain.textOf S c).length W) ?_ ?_
 · intro r r1 r2 r3 r4 r5 r6 W1 hW1;rw [hsz];have hD1:W1.heap[s0+3]? =some (.deferred (some [])):=by rw [hW1,← hsz];exact (f14 _ _ _ fi).trans (f3n W0 _)
   have hl1:W1.heap[s0+3+1]? =some (.loop r):=by
    rw [hW1,← hsz];have:=f3n (W0.alloc (.deferred (some []))) (.loop r);simpa using this
   have hb1:Bl W0 W1:=by rw [hW1];exact ((Bl.rf _).al _).al _
   clear hW1;have h0:TI w s0 (s0+3) (Plain.textOf S c) 0 W1:=⟨gb.cl hb1,hD1,_,_,.inl rfl,b6.bl hb1,f0w _ _ _ _⟩;refine (fta (8-1) hh.out hMM.out hEE.out (gb.cl hb1) hn1 hn6 c (s0+1) (s0+1+1) (s0+3+1) (bs.bl hb1) (bc.bl hb1) fe (fun k W=>TI w s0 (s0+3) (Plain.textOf S c) k W∧W.heap[s0+3+1]? =some (.loop r)) ?_ ?_ ?_ ?_).mono ?_
   · exact fun W hb=>⟨h0.bl' hb,(hb.block _ (fx5.1 hl1).1).trans hl1⟩
   · exact fun k W hJ=>hJ.1.bl
   · exact fun k W o hJ=>⟨hJ.1.bl' ((Bl.rf _).al o),(f14 W o _ (fx5.1 hJ.2).1).trans hJ.2⟩
   · rintro k W e ⟨hI,hl⟩ he;refine fk6 hl r1 r2 (by rw [r4];rfl) fun rb=> ?_;rw [r3,r4,r5,r6];obtain ⟨ha1,ha2⟩:=hA e (f3x he);obtain ⟨r',hr0⟩: ∃ r:Nat,e.r=r:=⟨e.r.toNat,by omega⟩;have hr127:r'≤127:=by omega
     have hrr:=fx6 hr0;clear hr0;have hkl:k<(Plain.textOf S c).length:=(f1c.1 he).1;generalize Plain.textOf S c=t at*;have hWs:=(fx5.1 hl).1
     gi_wp2
     have hr:=hrr.out;refine ⟨(f14 _ _ _ hWs).trans hl,?_⟩;have hl':(W.alloc (.cells #[.int .i32 e.r,.int .i64 e.c,.int .i64 e.n] 38)).heap[s0+3+1]? =some (.loop r):=(f14 _ _ _ hWs).trans hl
     have hneK: ∀ g tt cs,Bk (W.alloc (.cells #[.int .i32 e.r,.int .i64 e.c,.int .i64 e.n] 38)) g tt cs→ ¬ g=s0+3+1:=fun g tt cs hg e=>by
        have:=hg.at_;rw [e,hl'] at this;cases this
     have hIa:=hI.bl' ((Bl.rf _).al (.cells #[.int .i32 e.r,.int .i64 e.c,.int .i64 e.n] 38));have hCl:Ch (fun x=>x=s0+3+1) (W.alloc (.cells #[.int .i32 e.r,.int .i64 e.c,.int .i64 e.n] 38)) ((W.alloc (.cells #[.int .i32 e.r,.int .i64 e.c,.int .i64 e.n] 38)).putObj (s0+3+1) (.loop rb)):=(Ch.rf (fun x=>x=s0+3+1) _).po (.inl rfl) _;refine vy (F:=fun W2=>TI w s0 (s0+3) t k W2∧W2.heap[s0+3+1]? =some (.loop rb)∧Bk W2 W.heap.size 38 #[.int .i32 (r':Int),.int .i64 e.c,.int .i64 e.n]) ⟨?_,?_,?_⟩ ?_
     · exact hIa.ch hCl (fun x e=>by omega) fe fe (fun v n xs hv x hx e=>uz hv hl' (fun _ _ _ e=>by cases e) x hx e)
     · exact f4v ja
     · rw [← hr];exact (Bk.nw rfl).ch hCl (hneK _ _ _ (Bk.nw rfl))
     have het:vq (t.take (k+1))=vq (t.take k)++[r']:=by
        rw [List.take_add_one,he];simp [vq,hr]
     generalize W.heap.size=xe;clear hCl hneK hl' hIa hI hl hWs;rintro W2 ⟨hI2,hl2,hx⟩;have hlt2:=(fx5.1 hl2).1;obtain ⟨c4,d4⟩:=hx.ceF;obtain ⟨p0,v0,hp0,hB0,hR0⟩:=hI2.bb.out;have hWr:=fx6 (fbv s0 r' _ (hbase.out.bl hI2.bl) hp0 hB0 hR0 fe hr127 ja (by have:=hI2.bl.size;omega));have hOl:=fx6 (uz hR0 hl2 (fun _ _ _ e=>by cases e));have hOD:=fx6 (uz hR0 hI2.dd (fun _ _ _ e=>by cases e));have hRlt:=fx6 hR0.lt;clear hr hp0 hB0 hR0 hA
     gi_wp2_with (first | (refine ⟨trivial,?_⟩;gi_at_call 34;refine (CallsIn.inRound (s0+3+1) (f4j.2 hWr.out)).mono ?_;rintro x w3 ⟨⟨y,rfl⟩,gB,gC⟩))
     have hl3:w3.heap[s0+3+1]? =some (.loop rb):=(gC.block _ hlt2 (by rintro (e | e);omega;exact hOl.out _ e rfl)).trans hl2;have hD3:w3.heap[s0+3]? =some (.deferred (some [])):=(gC.block _ (fx5.1 hI2.dd).1 (by rintro (e | e);omega;exact hOD.out _ e rfl)).trans hI2.dd;have hT3:TI w s0 (s0+3) t (k+1) w3:=⟨zf hI2.bl gC (fun x hx=>by rcases hx with e | e;omega;have:=(hRlt.out x e).1;omega),hD3,by rw [het];exact gB⟩;have hCl:Ch (fun x=>x=s0+3+1) w3 (w3.putObj (s0+3+1) (.loop r)):=(Ch.rf (fun x=>x=s0+3+1) _).po (.inl rfl) _;exact ⟨hl3,hT3.ch hCl (fun x e=>by omega) fe fe (fun v n xs hv x hx e=>uz hv hl3 (fun _ _ _ e=>by cases e) x hx e),f4v (fx5.1 hl3).1⟩
   · rintro e W ⟨hv,hI,hl⟩;exact ⟨hv,hl,hI⟩
 · intro r W2 hI hl;rw [hsz] at hl ⊢;have hCl:Ch (fun x=>x=s0+3+1) W2 (W2.putObj (s0+3+1) (.loop { r with state:= .exhausted })):=(Ch.rf (fun x=>x=s0+3+1) W2).po (.inl rfl) _;have hI3:=hI.ch hCl (fun x e=>by omega) fe fe (fun v n xs hv x hx e=>uz hv hl (fun _ _ _ e=>by cases e) x hx e);refine vy (F:=fun W3=>TI w s0 (s0+3) (Plain.textOf S c) (Plain.textOf S c).length W3) hI3 ?_;clear hI3 hCl hI hl;rintro W3 hI;have hX:=fx6 (text35 (hh.out.bl hI.bl) (hMM.out.bl hI.bl) (hEE.out.bl hh.out.size hI.bl) hn1 hn6 c fe hne hA);obtain ⟨p,v,h1,h2,h3⟩:=hI.bb.out;rw [f4a] at h3
   have hSt:=fx6 (fun W4 (hb:Bl W3 W4)=>fk9 (w:=W4) s0 (vq (Plain.textOf S c)) (h2.bl hb) (by simpa using qx (K:=fun _=>False) (Ch.ba hb) h3 (fun _ _ h=>h)) (by simpa using hne) (fun b hb=>by
        simp only [f3p] at hb;obtain ⟨e,he,rfl⟩:=hb;have:=hA e he;omega) ja)
   have heq:=fun W=>eql9 (bstr (vq (Plain.textOf S c))) W;have hdd:=hI.dd;have hbl:=fx6 hI.bl;have hOD:=fx6 (uz h3 hdd (fun _ _ _ e=>by cases e));have hRlt:=fx6 h3.lt;clear hI h1 h2 h3 hA hne hlen;obtain ⟨str,hstr⟩: ∃ s,s=bstr (vq (Plain.textOf S c)):=⟨_,rfl⟩;rw [← hstr] at hX heq;simp only [← hstr] at hSt;have hs2:=fx6 hstr;clear hstr
   gi_wp2_with (first | (refine ⟨trivial,?_⟩;gi_at_call 35;refine (f4j.2 hX.out).mono ?_;rintro x w3 ⟨rfl,gb3⟩) | (refine ⟨trivial,?_⟩;gi_at_call 36;refine (f4j.2 (hSt.out _ gb3)).mono ?_;rintro x w4 ⟨rfl,gC4⟩))
   have hD4:w4.heap[s0+3]? =some (.deferred (some [])):=(gC4.block _ (f0f (fx5.1 hdd).1 gb3.size) (fun e=>hOD.out _ e rfl)).trans ((gb3.block _ (fx5.1 hdd).1).trans hdd);have hCd:Ch (fun x=>x=s0+3) w4 (w4.putObj (s0+3) (.deferred none)):=(Ch.rf (fun x=>x=s0+3) w4).po (.inl rfl) _;have hB4:Bl w w4:=zf (hbl.out.cl gb3) gC4 (fun x e=>by have:=(hRlt.out x e).1;omega);refine ⟨by simp,.inl ⟨_,_,rfl,run_takeDeferred hD4,?_⟩⟩;exact ⟨_,results_tmp2 rfl _ _ _,by rw [← hs2.out];rfl,zf hB4 hCd (fun x e=>by omega)⟩
end
end Go.Proofs.YtelecjnabeokeaaGreatDoor
namespace Go.Proofs.YtelecjnabeokeaaGreatDoor
open Go Go.Conc Go.RowKit
def Plain.call_n {S:Plain.Ses} {k c pos r:Int}:(Plain.call S k c pos r).2.n=S.n:=by
 unfold Plain.call Plain.change Plain.serve Plain.get;repeat' split
 all_goals rfl
section
variable {WS:Nat→Option SeatD} {w v0:World} {n N n0:Nat} {E:Nat→Value} {A:Nat→Addr} {L:Lay} {S:Plain.Ses} {ow:Nat→Nat}
def Sess.bl (h:Sess n N n0 L E A S ow WS w) {w':World} (hb:Bl w w'):Sess n N n0 L E A S ow WS w':=⟨h.live.bl hb,h.num,h.y6,h.y7,h.seats,h.low⟩
def fte (h:Sess n N n0 L E A S ow WS w) (hn0:n0≤w.heap.size) (k c pos r:Int) (h1:1≤k) (h5:k≤5):
    Calls PV 9 #[.pointer (some ⟨L.b,0,none⟩),.int .i64 k,.int .i64 c,.int .i64 pos,.int .i64 r] w fun x w'=>x= .returned (.int .i64 ((Plain.call S k c pos (IntKind.i32.wrap r)).1:Int))∧ ∃ ow',Sess n N n0 L E A (Plain.call S k c pos (IntKind.i32.wrap r)).2 ow' WS w'∧Old n0 w w'∧Ey ow ow' w w':=by
 refine (fvn h.live k c pos r h1 h5).mono ?_;rintro x w' ⟨hx,ow',hL,hE⟩;refine ⟨hx,ow',⟨hL,Plain.call_n.trans h.num,h.y6,h.y7,h.seats,fun x hx=>(hE.own x fe).trans (h.low x hx)⟩,Old.ch hn0 hE.ch fun x hx hne=>hne (h.low x hx),hE⟩
def mr (h:Sess n N n0 L E A S ow WS w) (hn0:n0≤w.heap.size) (k c pos r:Int) (h1:1≤k) (h5:k≤5) {S':Plain.Ses} (hc:Plain.call S k c pos (IntKind.i32.wrap r)=(0,S')):
    Calls PV 9 #[.pointer (some ⟨L.b,0,none⟩),.int .i64 k,.int .i64 c,.int .i64 pos,.int .i64 r] w fun x w'=>x= .returned (.int .i64 0)∧ ∃ ow',Sess n N n0 L E A S' ow' WS w'∧Old n0 w w'∧Ey ow ow' w w':=by
 refine (fte h hn0 k c pos r h1 h5).mono ?_;rw [hc];exact fun x w' h=>h
def m6 (h:Sess n N n0 L E A S ow WS w) (hn0:n0≤w.heap.size) (hn1:1≤n) (hn6:n≤6) (c:Int) (s:ByteArray) (hs:bstr (vq (Plain.textOf S c))=s) (hlen:(Plain.textOf S c).length<3000) (hne:Plain.textOf S c≠[]) (hA:Asc (Plain.textOf S c)):
    Calls PV 16 #[.pointer (some ⟨L.b,0,none⟩),.int .i64 c] w fun x w'=>x= .returned (.tuple #[.string s,.bool true])∧Sess n N n0 L E A S ow WS w'∧Old n0 w w'∧Bl w w':=by
 obtain ⟨V,hM⟩:=h.live.mem;refine (ftd hM (h.num▸h.live.marks) h.live.ev.errs (by rw [h.num];exact hn1) (by rw [h.num];exact hn6) c hlen hne hA).mono ?_;rintro x w' ⟨hx,hb⟩;exact ⟨by rw [← hs];exact hx,h.bl hb,Old.bl hn0 hb,hb⟩
end
end Go.Proofs.YtelecjnabeokeaaGreatDoor
namespace Go.Proofs.YtelecjnabeokeaaGreatDoor
open Go Go.RowKit
def m7 (c:Int) (n:Nat):Nat:=((if c<0 then -(c+1) else c)%(n:Int)).toNat
def fht {c:Int} {n:Nat} (hn:0<n):m7 c n<n:=by
 unfold m7;have h1:=Int.emod_nonneg (if c<0 then -(c+1) else c) (show (n:Int)≠0 by omega);have h2:=Int.emod_lt_of_pos (if c<0 then -(c+1) else c) (show (0:Int)<n by omega);omega
def fvp {c:Int} {n:Nat} (hn:0<n):(if c<0 then -(c+1) else c)%(n:Int)=(m7 c n:Int):=by
 unfold m7;have h1:=Int.emod_nonneg (if c<0 then -(c+1) else c) (show (n:Int)≠0 by omega);omega
def fno (c:Int) (n:Nat) (h0: -9223372036854775808≤c) (h1:c≤9223372036854775807) (hn:0<n) (hn2:n<1000) (w:World):
    Calls PV 17 #[.int .i64 c,.int .i64 (n:Int)] w fun x w'=>x= .returned (.int .i64 (m7 c n:Int))∧w'=w:=by
 have hnz: ¬ (n:Int)=0:=by omega
 have hp:=fvp (c:=c) hn;have hl:=fht (c:=c) hn;have hq:IntKind.i64.wrap (m7 c n:Int)=(m7 c n:Int):=f0t _ fe;by_cases hc:c<0
 · have e1:IntKind.i64.wrap (c+1)=c+1:=f0t _ fe;have e2:IntKind.i64.wrap (-(c+1))= -(c+1):=f0t _ fe;have e3:Int.tmod (-(c+1)) n=(m7 c n:Int):=by rw [Int.tmod_eq_emod_of_nonneg fe];rw [f02 hc] at hp;exact hp
   go_enter PV.func17,Tryz.ntmps17;go_wp2;go_ret;simp [hq]
 · have e3:Int.tmod c n=(m7 c n:Int):=by rw [Int.tmod_eq_emod_of_nonneg fe];rw [fx9 hc] at hp;exact hp
   go_enter PV.func17,Tryz.ntmps17;go_wp2;go_ret;simp [hq]
structure Scr (w:World) (p:Option Addr) (n cap:Nat) (f:Nat→Nat→Int) (s:Nat→ByteArray):Prop where
 le:n≤cap
 capm:cap≤maxLen
 wf: ∀ i j,i<n→j<6→ -9223372036854775808≤f i j∧f i j≤9223372036854775807
 at_:0<n→ ∃ b o,p=some ⟨b,o,none⟩∧b<w.heap.size∧ ∀ i,i<n→(∀ j,j<6→w.cell? ⟨b,o+i*7+j,none⟩=some (.int .i64 (f i j)))∧w.cell? ⟨b,o+i*7+6,none⟩=some (.string (s i))
section
variable {w w':World} {p:Option Addr} {n cap:Nat} {f:Nat→Nat→Int} {s:Nat→ByteArray}
def Scr.keep (h:Scr w p n cap f s) (hs:w.heap.size≤w'.heap.size) (hb: ∀ x,x<w.heap.size→w'.heap[x]? =w.heap[x]?):Scr w' p n cap f s:=
 ⟨h.le,h.capm,h.wf,fun h0=>by
    obtain ⟨b,o,h1,h2,h3⟩:=h.at_ h0;refine ⟨b,o,h1,by omega,fun i hi=>⟨fun j hj=> ?_,?_⟩⟩
    · exact (f0h (a:=⟨b,_,none⟩) (hb b h2)).trans ((h3 i hi).1 j hj)
    · exact (f0h (a:=⟨b,_,none⟩) (hb b h2)).trans (h3 i hi).2⟩
def Scr.bl (h:Scr w p n cap f s) (hb:Bl w w'):Scr w' p n cap f s:=h.keep hb.size hb.block
def SizeR (w:World) (x:Ending) (w':World):Prop:=(∃ nn room:Nat,1≤nn∧nn≤6∧1≤room∧room≤16∧x= .returned (.tuple #[.int .i64 (nn:Int),.int .i64 (room:Int)]))∧Bl w w'
def fvq (h:Scr w p n cap f s):Calls PV 7 #[.slice p n cap] w (SizeR w):=by
 have hcm:n≤9223372036854775807:=by have h1:=h.le;have h2:=h.capm;simp only [maxLen] at h2;omega
 have hH:=fx6 h;clear h;go_enter PV.func7,Tryz.ntmps7;go_wp2
 go_loopw [4] (fun iv wr=> ∃ i:Nat,i≤n∧iv= .int .i64 (i:Int)∧wr=w) (fun iv _=>n-(intOf iv).toNat)
 case atStart => exact ⟨0,f1n _,rfl,rfl⟩
 case round=>
    obtain ⟨i,hi,rfl,rfl⟩:=hrel;by_cases hlt:i<n
    · have hin:(i:Int)<(n:Int):=by omega
      obtain ⟨b,o,rfl,hb,hc⟩:=hH.out.at_ fe;obtain ⟨hc,_⟩:=hc i hlt;have q0:=hc 0 fe;have q2:=hc 2 fe;have q3:=hc 3 fe;simp only [f5p] at q0;have hw1:IntKind.i64.wrap ((i:Int)+1)=(i:Int)+1:=f0t _ fe;obtain ⟨a1,a2⟩:=hH.out.wf i 2 hlt fe;obtain ⟨b1,b2⟩:=hH.out.wf i 3 hlt fe;by_cases e:f i 0=1
      · have e1: ∃ y,IntKind.i64.wrap (f i 2-1)=y∧ -9223372036854775808≤y∧y≤9223372036854775807:=⟨_,rfl,by rw [f3h];omega,by rw [f3h];omega⟩;have e2: ∃ y,IntKind.i64.wrap (f i 3-1)=y∧ -9223372036854775808≤y∧y≤9223372036854775807:=⟨_,rfl,by rw [f3h];omega,by rw [f3h];omega⟩;obtain ⟨y1,y1e,y1a,y1b⟩:=e1;obtain ⟨y2,y2e,y2a,y2b⟩:=e2;have l1:=fht (c:=y1) (n:=6) fe;have l2:=fht (c:=y2) (n:=16) fe;have p1:=fx6 (fun W=>fno y1 6 y1a y1b fe fe W);have p2:=fx6 (fun W=>fno y2 16 y2a y2b fe fe W);have s1:IntKind.i64.wrap (1+(m7 y1 6:Int))=1+(m7 y1 6:Int):=f0t _ fe;have s2:IntKind.i64.wrap (1+(m7 y2 16:Int))=1+(m7 y2 16:Int):=f0t _ fe;rw [e] at q0;go_wp2_with fail
        go_quiet ((go_at_call 17;first | exact Calls.quiet_of_same (p1.out _) | exact Calls.quiet_of_same (p2.out _)))
        go_wp2_with fail;try simp only [Exit.inBlock,Exit.then]
        refine f0q (v:= .tuple #[.int .i64 (1+(m7 y1 6:Int)),.int .i64 (1+(m7 y2 16:Int))]) (by simp [results,Tryz.results7,go_sem]) rfl ⟨⟨1+m7 y1 6,1+m7 y2 16,by omega,by omega,by omega,by omega,by simp⟩,?_⟩;exact ⟨rfl,rfl,rfl,fx8 _,fun _ _=>rfl⟩
      · go_wp2
        go_roundw
        case rel => exact ⟨i+1,by omega,by simp,trivial⟩
        case measure => simp [intOf];omega
    · obtain rfl:i=n:=by omega
      go_wp2;try simp only [Exit.inBlock,Exit.then]
      exact f0q (v:= .tuple #[.int .i64 3,.int .i64 5]) (by simp [results,Tryz.results7,go_sem]) rfl ⟨⟨3,5,by omega,by omega,by omega,by omega,rfl⟩,Bl.rf _⟩
end
def fld38:PV.underlying 38=some (.struct (PV.fieldsOf 38)):=by kernel_rfl
def stood38:PV.stoodInHeld 38=false:=by kernel_rfl
def eqg38:PV.eqGuardType PV.depth 38=false:=by kernel_rfl
@[go_sem] def eqGuard38 (op:BinOp) (x y:Operand) (xs ys:Array Value) (w:World):(eqGuard op 38 x y (.agg xs) (.agg ys)).run PV w= .ok () w:=run_eqGuard_agg w op 38 x y xs ys eqg38
def flds38:(PV.fieldsOf 38).toList.map (fun f=>(f.type,f.offset,decide (f.name≠ "_")))=[(21,0,true),(3,1,true),(3,2,true)]:=by kernel_rfl
def und21:PV.underlying 21=some (.int .i32):=by kernel_rfl
def c3:PV.cellsOf 3=1:=by kernel_rfl
def eq38 (d:Nat) (a b c a' b' c':Int) (w:World):(Op.equalIn (d+1+1) 38 (.agg #[.int .i32 a,.int .i64 b,.int .i64 c]) (.agg #[.int .i32 a',.int .i64 b',.int .i64 c'])).run PV w= .ok (a==a'&&(b==b'&&c==c')) w:=by
 rw [run_equalIn_agg w (d+1) 38 _ _ fld38 stood38];have h:=flds38;generalize (PV.fieldsOf 38).toList=fs at h;have hl:fs.length=3:=by have:=f3q List.length h;simpa using this
 match fs,hl with
 | [f0,f1,f2],_=>
   simp only [f3c,List.map_nil,f0n,f2e,f1r,f2i] at h;obtain ⟨⟨t0,o0,n0⟩,⟨t1,o1,n1⟩,t2,o2,n2⟩:=h;have p0: ∀ x y z:Value,(part 21 #[x,y,z] 0).run PV w= .ok x w:=fun x y z=>by go_simp
   have p1: ∀ x y z:Value,(part 3 #[x,y,z] 1).run PV w= .ok y w:=fun x y z=>by go_simp
   have p2: ∀ x y z:Value,(part 3 #[x,y,z] 2).run PV w= .ok z w:=fun x y z=>by go_simp
   have e0:=run_equalIn_int (P:=PV) w d 21 .i32 .i32 a a' und21;have e1:=run_equalIn_int (P:=PV) w d 3 .i64 .i64 b b' und3;have e2:=run_equalIn_int (P:=PV) w d 3 .i64 .i64 c c' und3;simp only [Op.eqFields,t0,o0,t1,o1,t2,o2,f02 n0,f02 n1,f02 n2,fz9,p0,p1,p2,Result.andThen_ok,e0,e1,e2];cases h0:(a==a') <;>cases h1:(b==b') <;>cases h2:(c==c') <;>simp [p1,p2,e1,e2,h1,h2]
def neq38 (e:Plain.El) (w:World):(binOp .neq 38 (.agg #[.int .i32 e.r,.int .i64 e.c,.int .i64 e.n]) (.agg #[.int .i32 e.r,.int .i64 e.c,.int .i64 e.n])).run PV w= .ok (.bool false) w:=by
 rw [run_neq_struct,eq38 9998];simp
def fvr {w:World} {v1 v2:Value} (t:List Plain.El) (h1:Txt w v1 t) (h2:Txt w v2 t) (hl:t.length≤4000):Calls PV 13 #[v1,v2] w fun x w'=>x= .returned (.bool true)∧Bl w w':=by
 obtain ⟨A,ca,hA⟩:=h1.slice;obtain ⟨B,cb,hB⟩:=h2.slice;subst hA;subst hB;have hT1:=fx6 h1;have hT2:=fx6 h2;clear h1 h2;go_enter PV.func13,Tryz.ntmps13;go_wp2
 go_loopw [5] (fun iv wr=> ∃ i:Nat,i≤t.length∧iv= .int .i64 (i:Int)∧Bl w wr) (fun iv _=>t.length-(intOf iv).toNat)
 case atStart => exact ⟨0,f1n _,rfl,Bl.rf _⟩
 case round=>
    obtain ⟨i,hi,rfl,hb⟩:=hrel;by_cases hlt:i<t.length
    · have hin:(i:Int)<(t.length:Int):=by omega
      obtain ⟨e,he⟩: ∃ e,t[i]? =some e:=⟨t[i],f0r hlt⟩;have hw1:IntKind.i64.wrap ((i:Int)+1)=(i:Int)+1:=f0t _ fe
      obtain ⟨g,rfl⟩: ∃ g,A=some ⟨g,0,none⟩:=by
        rcases hT1.out.form with ⟨_,h2⟩ | ⟨g,cap,h1,_⟩
        · rw [h2] at hlt;simp at hlt
        · injection h1 with h1;exact ⟨g,h1⟩
      obtain ⟨g',rfl⟩: ∃ g,B=some ⟨g,0,none⟩:=by
        rcases hT2.out.form with ⟨_,h2⟩ | ⟨g,cap,h1,_⟩
        · rw [h2] at hlt;simp at hlt
        · injection h1 with h1;exact ⟨g,h1⟩
      obtain ⟨f0,f1,f2⟩:=fhr he;have hc:=(hT1.out.bl hb).cells;have hd:=(hT2.out.bl hb).cells;have q0:=hc _ _ f0;have q1:=hc _ _ f1;have q2:=hc _ _ f2;have r0:=hd _ _ f0;have r1:=hd _ _ f1;have r2:=hd _ _ f2;simp only [f2u,f1k] at q0 q1 q2 r0 r1 r2;have hne:=fun W=>neq38 e W;clear hc hd f0 f1 f2;go_wp2_with fail
      go_quiet (fail)
      go_wp2_with fail
      go_roundw
      case rel => exact ⟨i+1,by omega,by simp,hb.cl ⟨rfl,rfl,rfl,fx8 _,fun _ _=>rfl⟩⟩
      case measure => simp [intOf];omega
    · obtain rfl:i=t.length:=by omega
      go_wp2;go_ret;exact ⟨rfl,hb⟩
open Go.Conc
def Scr.old {v w:World} {k:Nat} {p:Option Addr} {n cap:Nat} {f:Nat→Nat→Int} {s:Nat→ByteArray} (h:Scr v p n cap f s) (hO:Old k v w) (hk:v.heap.size≤k):Scr w p n cap f s:=
 h.keep hO.size fun x hx=>hO.block x fe
def Base.old {v w:World} {k:Nat} (h:Base v) (hO:Old k v w) (hk:2≤k):Base w:=by
 obtain ⟨a,b,h0⟩:=h.b0;obtain ⟨a',b',h1⟩:=h.b1;exact ⟨⟨a,b,⟨(hO.block 0 fe).trans h0.at_⟩⟩,⟨a',b',⟨(hO.block 1 fe).trans h1.at_⟩⟩⟩
section
variable {Φ:Goal} {WS:Nat→Option SeatD} {Shun:Loc→Prop} {w v v0:World} {n room N N' n0:Nat} {X:Frame} {cs:List Frame} {E:Nat→Value} {A:Nat→Addr} {L:Lay} {S:Plain.Ses} {ow:Nat→Nat}
def Plain.Good.texts {S:Plain.Ses} (h:Plain.Good S) (c:Int):(Plain.textOf S c).length<3000:=by
 unfold Plain.textOf;split
 · have h1:=h.text_len;have h2:=h.log_len;have h3:=h.calls;omega
 · split
   · rename_i hc;have:=h.cl_len (c:=c.toNat) fe;omega
   · simp
def fpa (h:Sess n N n0 L E A S ow WS w) (hn0:n0≤w.heap.size) (hn1:1≤n) (hn6:n≤6) (c:Int):
    Calls PV 11 #[.pointer (some ⟨L.b,0,none⟩),.int .i64 c,.int .i64 0] w fun x w'=> ∃ v,x= .returned (.tuple #[v,.bool true])∧w'.ownsRow w.heap.size 38 3 v (Plain.textOf S c).length (flat (Plain.textOf S c))∧Sess n N n0 L E A S ow WS w'∧Old n0 w w'∧Bl w w':=by
 obtain ⟨V,hM⟩:=h.live.mem;refine (ftc hM (h.num▸h.live.marks) h.live.ev.errs (by rw [h.num];exact hn1) (by rw [h.num];exact hn6) c (h.live.good.texts c)).mono ?_;rintro x w' ⟨v,hx,hr,hb⟩;exact ⟨v,hx,hr,h.bl hb,Old.bl hn0 hb,hb⟩
def fvs (h:Sess n N n0 L E A S ow WS w) (hn0:n0≤w.heap.size):
    Calls PV 10 #[.pointer (some ⟨L.b,0,none⟩)] w fun x w'=> ∃ v,x= .returned v∧w'.ownsRow w.heap.size 40 6 v S.log.length (logF S.log)∧Sess n N n0 L E A S ow WS w'∧Old n0 w w'∧Bl w w':=by
 obtain ⟨V,hM⟩:=h.live.mem;have hG:=h.live.good;refine (log_any hM (h.num▸h.live.marks) h.live.ev.errs (by have h1:=hG.count;have h2:=hG.calls;omega)).mono ?_;rintro x w' ⟨v,hx,hr,hb⟩;exact ⟨v,hx,hr,h.bl hb,Old.bl hn0 hb,hb⟩
def StopR2 (N':Nat) (L:Lay) (ow:Nat→Nat) (Shun:Loc→Prop) (v:World) (x:Value) (WS':Nat→Option SeatD) (Shun':Loc→Prop) (v':World) (N2:Nat):Prop:=
 x= .tuple #[]∧WS'=vb∧Shun'=fax L.b Shun∧N2=N'∧Ch (fun x=>ow x≠0) v (reW v' v.tape v.drawn)
def fvt (h:Sess n N n0 L E A S ow WS v) (h1:1≤n) (h6:n≤6) (hN:1≤N) (hN':N+(n+1)≤N'):Fc WS Shun v N' 12 #[.pointer (some ⟨L.b,0,none⟩)] (StopR2 N' L ow Shun v):=by
 refine ⟨fun Φ X cs hc=> ?_⟩;obtain ⟨ab,cp,hV⟩:=h.sesV h1 h6;have hW:=h.seats.all (N:=N') hN hN';have hch:(fun i=>chs L (i+1))=L.wc:=by funext i;simp [chs]
 have hc0:chs L 0=L.c0:=rfl;rw [hch,hc0] at hW;refine frl hW hV fun v' hK=> ?_;obtain ⟨V,hM⟩:=h.live.mem;have T:=hM.tag;refine hc _ _ _ _ _ ⟨rfl,rfl,rfl,rfl,⟨hK.os,rfl,hK.output,Nat.le_of_eq hK.size.symm,fun x hx h0=>hK.same x ?_⟩⟩;have h0:ow x=0:=by simpa using h0
 rintro (rfl | rfl | ⟨i,hi,rfl⟩)
 · have:=T.b;omega
 · have:=T.c0;omega
 · have hn:=h.num;have:=T.wc i fe;omega
def Old.ch2 {k:Nat} {v v':World} {ow:Nat→Nat} (h:Ch (fun x=>ow x≠0) v (reW v' v.tape v.drawn)) (hk:k≤v.heap.size) (hl: ∀ x,x<k→ow x=0):Old k v v':=
 ⟨hk,h.size,fun x hx=>h.block x fe (by simp [hl x hx]),h.os,h.output⟩
def flz {ι:Type} {P:ι→World→Prop} {fr:Frame} (hW:WsOk WS Shun) (hok:FrOk Tryz.prog rg fr) (hk:fr.kind= .normal) (h: ∃ F:ι→Frame,(∀ t d,RunTo (fun fr w=> ∃ x,P x w∧fr=F x) fr (reW v t d))∧(∀ x,vt (F x)=false)∧ ∀ x w,P x w→Co Φ WS Shun w N (G (F x) cs)):Co Φ WS Shun v N (G fr cs):=by
 obtain ⟨F,h1,h2,h3⟩:=h;exact fge (Z:=fun fr w=> ∃ x,P x w∧fr=F x) hW (fun fr v h=>by obtain ⟨x,_,rfl⟩:=h;exact h2 x) hok hk h1 (by rintro _ _ ⟨x,h,rfl⟩;exact h3 x _ h)
end
end Go.Proofs.YtelecjnabeokeaaGreatDoor
namespace Go.Proofs.YtelecjnabeokeaaGreatDoor
open Go Go.RowKit
def LogT (w:World) (v:Value) (R:List Plain.Chg):Prop:=w.ownsRow 0 40 6 v R.length (logF R)
def fnp: ∀ {R:List Plain.Chg} {k:Nat} {a:Plain.Chg},R[k]? =some a→ ∀ j u,(chgL a)[j]? =some u→(logF R)[k*6+j]? =some u
 | [],k,a,h=>by simp at h
 | b::R,0,a,h=>fun j u hu=>by
   simp only [fx7,f03] at h;subst h;have hj:j<(chgL b).length:=(f1c.1 hu).1;rw [Nat.zero_mul,f1k,logF,f1d hj];exact hu
 | b::R,k+1,a,h=>fun j u hu=>by
   have hl:(chgL b).length=6:=rfl;rw [logF,f0y fe,hl,show (k+1)*6+j-6=k*6+j from by omega];exact fnp qv j u hu
def LogT.len {w:World} {v:Value} {R:List Plain.Chg} (h:LogT w v R) (hn:R.length≤4000): ∀ u,(Builtin.len_ #[33] 3 #[v]).run PV u= .ok (.int .i64 (R.length:Int)) u:=fun u=>by
 rcases h.2 with ⟨rfl,h2⟩ | ⟨g,cap,cur,rfl,_⟩
 · rw [h2];go_simp
 · go_simp
def LogT.at_ {w:World} {v:Value} {R:List Plain.Chg} (h:LogT w v R) {k:Nat} {a:Plain.Chg} (ha:R[k]? =some a) (hn:R.length≤4000):
    ∃ g,(∀ u,(Instr.indexAt 33 v (.int .i64 (k:Int))).run PV u= .ok (.pointer (some ⟨g,k*6,none⟩)) u)∧ ∀ w',Bl w w'→ ∀ j u,(chgL a)[j]? =some u→w'.cell? ⟨g,k*6+j,none⟩=some u:=by
 have hk:k<R.length:=(f1c.1 ha).1;rcases h.2 with ⟨rfl,h2⟩ | ⟨g,cap,cur,rfl,h3⟩
 · omega
 · have hin:(k:Int)<(R.length:Int):=by omega
   refine ⟨g,fun u=>by go_simp,fun w' hb j u hu=> ?_⟩;have h':LogT w' (.slice (some ⟨g,0,none⟩) R.length cap) R:=qx (K:=fun _=>False) (Ch.ba hb) h (fun _ _ h=>h);have:=f3g h' rfl _ _ (fnp ha j u hu);rwa [f2u,f1k] at this
open Go.Conc
structure FoT (sc se l hv:Value) (T:Array Value):Prop where
 out: ∃ U:Nat→Value,T= #[sc,U 1,U 2,U 3,U 4,U 5,se,U 7,U 8,U 9,(.slice none 0 0),l,hv,U 13,U 14,U 15,U 16,U 17,U 18,U 19,U 20,U 21,U 22,U 23,U 24,U 25,U 26,U 27,U 28,U 29,U 30,U 31,U 32,U 33,U 34,U 35,U 36,U 37,U 38,U 39,U 40,U 41,U 42,U 43,U 44,U 45,U 46,U 47,U 48,U 49,U 50,U 51,U 52,U 53,U 54,U 55,U 56,U 57,U 58,U 59,U 60,U 61,U 62,U 63,U 64,U 65,U 66,U 67,U 68,U 69,U 70,U 71,U 72,U 73,U 74,U 75,U 76,U 77,U 78,U 79,U 80,U 81,U 82,se,U 84,U 85,U 86,U 87,U 88,U 89,U 90,U 91,U 92,U 93,U 94,U 95,U 96,U 97,U 98,U 99,U 100,U 101,U 102,U 103,U 104,U 105,U 106,U 107,U 108,U 109,U 110,U 111,U 112,U 113,U 114,U 115,U 116,U 117,U 118,U 119,U 120,U 121,U 122,U 123,U 124,U 125,U 126,U 127,U 128,U 129,U 130,U 131,U 132,U 133,U 134,U 135,U 136,U 137,U 138,U 139,U 140,U 141,U 142,U 143,U 144,U 145,U 146,U 147,U 148,U 149,U 150,U 151,U 152,U 153,U 154,U 155,U 156,U 157,U 158,U 159,U 160,U 161,U 162]
def pv3:PV.funcs[3]? =some Tryz.f3:=rd 3 _ _ Tryz.func3 fd fd rfl fd
def foldN (R:List Plain.Chg) (k:Nat):List Plain.El:=(R.take k).foldl (fun t a=>Plain.apply a t) []
def fgf: ∀ (R:List Plain.Chg) (T T':List Plain.El),Plain.Runs T (R.map fun a=>⟨a,0⟩) T'→(∀ k a,R[k]? =some a→Plain.Fits a ((R.take k).foldl (fun t a=>Plain.apply a t) T).length)∧R.foldl (fun t a=>Plain.apply a t) T=T'
 | [],T,T',h=>⟨fun k a hk=>by simp at hk,h⟩
 | b::R,T,T',h=>by
   obtain ⟨h1,h2⟩:=fgf R (Plain.apply b T) T' h.2;refine ⟨fun k a hk=> ?_,h2⟩;cases k with
   | zero=>simp at hk;subst hk;exact h.1
   | succ k=>simp only [fy0] at hk;simpa using h1 k a hk
def fgg {R:List Plain.Chg} {k:Nat} {a:Plain.Chg} (h:R[k]? =some a):foldN R (k+1)=Plain.apply a (foldN R k):=by
 unfold foldN;rw [List.take_add_one,h];simp
def Plain.Good.foldN {S:Plain.Ses} (h:Plain.Good S):(∀ k a,S.log[k]? =some a→Plain.Fits a (foldN S.log k).length)∧YtelecjnabeokeaaGreatDoor.foldN S.log S.log.length=S.text:=by
 obtain ⟨h1,h2⟩:=fgf S.log [] S.text h.fold;refine ⟨h1,?_⟩;unfold YtelecjnabeokeaaGreatDoor.foldN;rw [f4a];exact h2
def fka (R:List Plain.Chg) (h: ∀ k a,R[k]? =some a→Plain.Fits a (foldN R k).length): ∀ k,(foldN R k).length≤k
 | 0=>by simp [foldN]
 | k +1=>by
   have ih:=fka R h k;cases e:R[k]? with
   | none=>
     have:R.length≤k:=by simpa using e
     have e2:foldN R (k+1)=foldN R k:=by unfold foldN;rw [List.take_of_length_le fe,List.take_of_length_le fe]
     rw [e2];omega
   | some a=>
     rw [fgg e,Plain.apply_length (h k a e)];unfold Plain.grow;split
     · omega
     · split <;>omega
end Go.Proofs.YtelecjnabeokeaaGreatDoor
