/- Meets answers true for every script, and the script reads as it did; condition: the package-level variables hold what the program's text lays. Part 5 of 6. -/
import Derived.Test.YtelecjnabeokeaaGreatDoorM4
set_option maxRecDepth 100000
set_option maxHeartbeats 16000000
set_option linter.defProp false
set_option linter.unusedVariables false
set_option linter.unusedSimpArgs false
namespace Go.Proofs.YtelecjnabeokeaaGreatDoor
open Go Go.RowKit
def fhh (r:Int) (w:World):Calls PV 45 #[.int .i32 r] w fun x w'=>x= .returned (.bool (Plain.validR r))∧w'=w:=by
 by_cases h1:0≤r <;>by_cases h2:r<55296 <;>by_cases h3:57343<r <;>by_cases h4:r≤1114111;all_goals first | (exfalso;omega) | skip
 all_goals
    go_enter PV.func45,Tryz.ntmps45;go_wp2;go_ret;exact ⟨by simp [Plain.validR,h1,h2,h3,h4],rfl⟩
section
variable {L:Lay} {V:Vals} {S:Plain.Ses} {ow:Nat→Nat} {w:World} {E:Nat→Value}
def fhi {S:Plain.Ses} {c:Nat} {k pos r:Int}:(Plain.change S c k pos r).2.n=S.n:=by
 unfold Plain.change;repeat' split
 all_goals rfl
def serve_n {S:Plain.Ses} {c:Nat}:(Plain.serve S c).2.n=S.n:=by
 unfold Plain.serve;split
 · rfl
 · split <;>rfl
def get_n {S:Plain.Ses} {c:Nat}:(Plain.get S c).2.n=S.n:=by
 unfold Plain.get;split <;>rfl
def e8 {m:Int} (h:Mem L V S m ow w) (hM:Marks L S.n w) (hE:Errs E w) {k:Nat} (hk:k=L.c0∨ ∃ c,c<S.n∧k=L.wc c) {W:World} (hC:Ch (fun y=>y=k) w W):Errs E W∧ ∀ g t cs,Bk w g t cs→Bk W g t cs:=by
 have ht:=h.mtag hk;have h12:12≤k:=h.tag.ge fe;obtain ⟨x,s,r,hm⟩:=hM.get hk;have hs:=h.size;refine ⟨⟨fun i hi=>(f0h (a:=⟨i,0,none⟩) (hC.block i fe fe)).trans (hE.at_ i hi),hE.form⟩,fun g t cs hg=>hg.ch hC (fun e=> ?_)⟩;have:=hg.at_;rw [e,hm] at this;cases this
def Errs.bl {W:World} (hE:Errs E w) (hs:12≤w.heap.size) (hb:Bl w W):Errs E W:=⟨fun i hi=>(f0h (a:=⟨i,0,none⟩) (hb.block i fe)).trans (hE.at_ i hi),hE.form⟩
def Marks.bl {n:Nat} {W:World} (hM:Marks L n w) (hb:Bl w W):Marks L n W:=⟨hM.m0.to (hb.block _ hM.m0.lt),fun i hi=>(hM.ms i hi).to (hb.block _ (hM.ms i hi).lt)⟩
def fvd (h:Mem L V S 1 ow w) (hM:Marks L S.n w) (hG:Plain.Good S) (hB:Plain.Bnd S) (hE:Errs E w) {c:Nat} (hc:c<S.n) (pos:Int) (bs:Nat) (ba:Nat) (hbs:Bk w bs 26 #[.pointer (some ⟨L.b,0,none⟩)]) (hba:Bk w ba 3 #[.int .i64 pos]):
    Calls PV 49 #[.pointer (some ⟨L.kb c,0,none⟩),.pointer (some ⟨bs,0,none⟩),.pointer (some ⟨ba,0,none⟩)] w (Done2 L E (Plain.change S c 2 pos 0) 1 ow w):=by
 have hb1:Bl w (w.alloc (.cells #[.pointer (some ⟨L.kb c,0,none⟩)] 83)):=(Bl.rf _).al _;have hkk:Bk (w.alloc (.cells #[.pointer (some ⟨L.kb c,0,none⟩)] 83)) (L.kb c) 89 #[.int .i64 (c:Int),V.tv c,.int .i64 (S.cl c).cur,.int .i64 (S.cl c).en.mine,.int .i64 (S.cl c).en.other,.int .i64 (S.cl c).en.acked,V.rv c,.pointer (some ⟨L.ul c,0,none⟩),.pointer (some ⟨L.dl c,0,none⟩),.int .i64 (S.cl c).typed,.chan (some (L.wc c))]:=((h.kk c hc).al _);obtain ⟨ck,dk⟩:=hkk.ceF
 have hD:=fx6 (fk0 (h.bl hb1) (hM.bl hb1) (k:=L.wc c) (.inr ⟨c,hc,rfl⟩) 50 PV.func50 fd fd #[] #[.pointer (some ⟨bs,0,none⟩),.pointer (some ⟨w.heap.size,0,none⟩),.pointer (some ⟨ba,0,none⟩)] (R:=Plain.change S c 2 pos 0) fhi (fun W hW hC=>by
    have hK:=e8 (h.bl hb1) (hM.bl hb1) (hE.bl h.size hb1) (k:=L.wc c) (.inr ⟨c,hc,rfl⟩) hC;exact clo_del hW hG hB hK.1 hc pos bs w.heap.size ba (hK.2 _ _ _ (hbs.al _)) (hK.2 _ _ _ (Bk.nw rfl)) (hK.2 _ _ _ (hba.al _))))
 have hh:=fx6 h;have hMM:=fx6 hM;clear h hM hG hB hE hkk;go_enter PV.func49,Tryz.ntmps49;go_wp2_with (first | (go_at_call 46;refine hD.out.mono ?_;rintro e w3 gD;obtain ⟨rfl,gD2⟩:=gD.out));go_ret;exact Done2.bl hb1 ⟨rfl,gD2⟩
def fve (h:Mem L V S 1 ow w) (hM:Marks L S.n w) (hG:Plain.Good S) (hB:Plain.Bnd S) (hE:Errs E w) {c:Nat} (hc:c<S.n) (pos:Int) (bs:Nat) (ba:Nat) (hbs:Bk w bs 26 #[.pointer (some ⟨L.b,0,none⟩)]) (hba:Bk w ba 3 #[.int .i64 pos]):
    Calls PV 51 #[.pointer (some ⟨L.kb c,0,none⟩),.pointer (some ⟨bs,0,none⟩),.pointer (some ⟨ba,0,none⟩)] w (Done2 L E (Plain.change S c 3 pos 0) 1 ow w):=by
 have hb1:Bl w (w.alloc (.cells #[.pointer (some ⟨L.kb c,0,none⟩)] 83)):=(Bl.rf _).al _;have hkk:Bk (w.alloc (.cells #[.pointer (some ⟨L.kb c,0,none⟩)] 83)) (L.kb c) 89 #[.int .i64 (c:Int),V.tv c,.int .i64 (S.cl c).cur,.int .i64 (S.cl c).en.mine,.int .i64 (S.cl c).en.other,.int .i64 (S.cl c).en.acked,V.rv c,.pointer (some ⟨L.ul c,0,none⟩),.pointer (some ⟨L.dl c,0,none⟩),.int .i64 (S.cl c).typed,.chan (some (L.wc c))]:=((h.kk c hc).al _);obtain ⟨ck,dk⟩:=hkk.ceF
 have hD:=fx6 (fk0 (h.bl hb1) (hM.bl hb1) (k:=L.wc c) (.inr ⟨c,hc,rfl⟩) 52 PV.func52 fd fd #[] #[.pointer (some ⟨bs,0,none⟩),.pointer (some ⟨w.heap.size,0,none⟩),.pointer (some ⟨ba,0,none⟩)] (R:=Plain.change S c 3 pos 0) fhi (fun W hW hC=>by
    have hK:=e8 (h.bl hb1) (hM.bl hb1) (hE.bl h.size hb1) (k:=L.wc c) (.inr ⟨c,hc,rfl⟩) hC;exact clo_mov hW hG hB hK.1 hc pos bs w.heap.size ba (hK.2 _ _ _ (hbs.al _)) (hK.2 _ _ _ (Bk.nw rfl)) (hK.2 _ _ _ (hba.al _))))
 have hh:=fx6 h;have hMM:=fx6 hM;clear h hM hG hB hE hkk;go_enter PV.func51,Tryz.ntmps51;go_wp2_with (first | (go_at_call 46;refine hD.out.mono ?_;rintro e w3 gD;obtain ⟨rfl,gD2⟩:=gD.out));go_ret;exact Done2.bl hb1 ⟨rfl,gD2⟩
def fvf (h:Mem L V S 1 ow w) (hM:Marks L S.n w) (hG:Plain.Good S) (hB:Plain.Bnd S) (hE:Errs E w) {c:Nat} (hc:c<S.n) (pos:Int) (r:Int) (br:Nat) (bs:Nat) (ba:Nat) (hbr:Bk w br 21 #[.int .i32 r]) (hbs:Bk w bs 26 #[.pointer (some ⟨L.b,0,none⟩)]) (hba:Bk w ba 3 #[.int .i64 pos]):
    Calls PV 44 #[.pointer (some ⟨L.kb c,0,none⟩),.pointer (some ⟨br,0,none⟩),.pointer (some ⟨bs,0,none⟩),.pointer (some ⟨ba,0,none⟩)] w (Done2 L E (if Plain.validR r then Plain.change S c 1 pos r else (3,S)) 1 ow w):=by
 have h1:=hE.at_ 1 fe;have h1':(w.alloc (.cells #[.pointer (some ⟨L.kb c,0,none⟩)] 83)).cell? ⟨1,0,none⟩=some (E 1):=(f0h (a:=⟨1,0,none⟩) (f14 w _ 1 qi)).trans h1;obtain ⟨cr0,dr0⟩:=(hbr.al (.cells #[.pointer (some ⟨L.kb c,0,none⟩)] 83)).ceF;have hV:=fx6 (fun W=>fhh r W);have hb1:Bl w (w.alloc (.cells #[.pointer (some ⟨L.kb c,0,none⟩)] 83)):=(Bl.rf _).al _;have hkk:Bk (w.alloc (.cells #[.pointer (some ⟨L.kb c,0,none⟩)] 83)) (L.kb c) 89 #[.int .i64 (c:Int),V.tv c,.int .i64 (S.cl c).cur,.int .i64 (S.cl c).en.mine,.int .i64 (S.cl c).en.other,.int .i64 (S.cl c).en.acked,V.rv c,.pointer (some ⟨L.ul c,0,none⟩),.pointer (some ⟨L.dl c,0,none⟩),.int .i64 (S.cl c).typed,.chan (some (L.wc c))]:=((h.kk c hc).al _);obtain ⟨ck,dk⟩:=hkk.ceF
 have hD:=fx6 (fk0 (h.bl hb1) (hM.bl hb1) (k:=L.wc c) (.inr ⟨c,hc,rfl⟩) 47 PV.func47 fd fd #[] #[.pointer (some ⟨bs,0,none⟩),.pointer (some ⟨w.heap.size,0,none⟩),.pointer (some ⟨ba,0,none⟩),.pointer (some ⟨br,0,none⟩)] (R:=Plain.change S c 1 pos r) fhi (fun W hW hC=>by
    have hK:=e8 (h.bl hb1) (hM.bl hb1) (hE.bl h.size hb1) (k:=L.wc c) (.inr ⟨c,hc,rfl⟩) hC;exact clo_ins hW hG hB hK.1 hc pos r bs w.heap.size ba br (hK.2 _ _ _ (hbs.al _)) (hK.2 _ _ _ (Bk.nw rfl)) (hK.2 _ _ _ (hba.al _)) (hK.2 _ _ _ (hbr.al _))))
 have hh:=fx6 h;have hMM:=fx6 hM;clear h hM hG hB hE hkk;by_cases hv:Plain.validR r=true
 · rw [f02 hv];go_enter PV.func44,Tryz.ntmps44;go_wp2_with (first | (go_at_call 45;refine (hV.out _).mono ?_;rintro e w1 ⟨rfl,rfl⟩;rw [hv]) | (go_at_call 46;refine hD.out.mono ?_;rintro e w3 gD;obtain ⟨rfl,gD2⟩:=gD.out));go_ret;exact Done2.bl hb1 ⟨rfl,gD2⟩
 · have hv':Plain.validR r=false:=by simpa using hv
   rw [fx9 hv];clear hv;go_enter PV.func44,Tryz.ntmps44;go_wp2_with (first | (go_at_call 45;refine (hV.out _).mono ?_;rintro e w1 ⟨rfl,rfl⟩;rw [hv']));go_ret;exact Done2.bl hb1 ⟨rfl,V,ow,hh.out.bl hb1,hMM.out.bl hb1,Ey.rf⟩
def call_up (h:Mem L V S 1 ow w) (hM:Marks L S.n w) (hG:Plain.Good S) (hB:Plain.Bnd S) (hE:Errs E w) {c:Nat} (hc:c<S.n) (bu bs:Nat) (hbu:Bk w bu 4 #[.bool true]) (hbs:Bk w bs 26 #[.pointer (some ⟨L.b,0,none⟩)]):
    Calls PV 53 #[.pointer (some ⟨L.kb c,0,none⟩),.pointer (some ⟨bu,0,none⟩),.pointer (some ⟨bs,0,none⟩)] w (Done2 L E (Plain.serve S c) 1 ow w):=by
 have hb1:Bl w (w.alloc (.cells #[.pointer (some ⟨L.kb c,0,none⟩)] 83)):=(Bl.rf _).al _;have hkk:Bk (w.alloc (.cells #[.pointer (some ⟨L.kb c,0,none⟩)] 83)) (L.kb c) 89 #[.int .i64 (c:Int),V.tv c,.int .i64 (S.cl c).cur,.int .i64 (S.cl c).en.mine,.int .i64 (S.cl c).en.other,.int .i64 (S.cl c).en.acked,V.rv c,.pointer (some ⟨L.ul c,0,none⟩),.pointer (some ⟨L.dl c,0,none⟩),.int .i64 (S.cl c).typed,.chan (some (L.wc c))]:=((h.kk c hc).al _);obtain ⟨ck,dk⟩:=hkk.ceF;have hbx:Bk (w.alloc (.cells #[.pointer (some ⟨L.kb c,0,none⟩)] 83)) w.heap.size 83 #[.pointer (some ⟨L.kb c,0,none⟩)]:=Bk.nw rfl;obtain ⟨cu,du⟩:=(hbu.al (.cells #[.pointer (some ⟨L.kb c,0,none⟩)] 83)).ceF;obtain ⟨cs,ds⟩:=(hbs.al (.cells #[.pointer (some ⟨L.kb c,0,none⟩)] 83)).ceF;obtain ⟨cb,db⟩:=(h.bb.al (.cells #[.pointer (some ⟨L.kb c,0,none⟩)] 83)).ceF;obtain ⟨cv,dv⟩:=(h.ss.al (.cells #[.pointer (some ⟨L.kb c,0,none⟩)] 83)).ceF
 have hD:=fx6 (fk0 (h.bl hb1) (hM.bl hb1) (k:=L.c0) (.inl rfl) 54 PV.func54 fd fd #[] #[.pointer (some ⟨bs,0,none⟩),.pointer (some ⟨w.heap.size,0,none⟩)] (R:=Plain.serve S c) serve_n (fun W hW hC=>by
    have hK:=e8 (h.bl hb1) (hM.bl hb1) (hE.bl h.size hb1) (k:=L.c0) (.inl rfl) hC;exact clo_up hW hG hB hK.1 hc bs w.heap.size (hK.2 _ _ _ (hbs.al _)) (hK.2 _ _ _ hbx)))
 clear h hM hG hB hE hkk hbx;go_enter PV.func53,Tryz.ntmps53;go_wp2_with (first | (go_at_call 46;refine hD.out.mono ?_;rintro e w3 gD;obtain ⟨rfl,gD2⟩:=gD.out));go_ret;exact Done2.bl hb1 ⟨rfl,gD2⟩
def fsr (h:Mem L V S 1 ow w) (hM:Marks L S.n w) (hG:Plain.Good S) (hB:Plain.Bnd S) (hE:Errs E w) {c:Nat} (hc:c<S.n) (bu bs:Nat) (hbu:Bk w bu 4 #[.bool false]):
    Calls PV 53 #[.pointer (some ⟨L.kb c,0,none⟩),.pointer (some ⟨bu,0,none⟩),.pointer (some ⟨bs,0,none⟩)] w (Done2 L E (Plain.get S c) 1 ow w):=by
 have hb1:Bl w (w.alloc (.cells #[.pointer (some ⟨L.kb c,0,none⟩)] 83)):=(Bl.rf _).al _;have hkk:Bk (w.alloc (.cells #[.pointer (some ⟨L.kb c,0,none⟩)] 83)) (L.kb c) 89 #[.int .i64 (c:Int),V.tv c,.int .i64 (S.cl c).cur,.int .i64 (S.cl c).en.mine,.int .i64 (S.cl c).en.other,.int .i64 (S.cl c).en.acked,V.rv c,.pointer (some ⟨L.ul c,0,none⟩),.pointer (some ⟨L.dl c,0,none⟩),.int .i64 (S.cl c).typed,.chan (some (L.wc c))]:=((h.kk c hc).al _);obtain ⟨ck,dk⟩:=hkk.ceF;have hbx:Bk (w.alloc (.cells #[.pointer (some ⟨L.kb c,0,none⟩)] 83)) w.heap.size 83 #[.pointer (some ⟨L.kb c,0,none⟩)]:=Bk.nw rfl;obtain ⟨cu,du⟩:=(hbu.al (.cells #[.pointer (some ⟨L.kb c,0,none⟩)] 83)).ceF
 have hD:=fx6 (fun W0 (hW0:Bl w W0)=>fk0 (h.bl hW0) (hM.bl hW0) (k:=L.wc c) (.inr ⟨c,hc,rfl⟩) 56 PV.func56 fd fd #[.pointer (some ⟨L.kb c,0,none⟩)] #[] (R:=Plain.get S c) get_n (fun W hW hC=>by
    have hK:=e8 (h.bl hW0) (hM.bl hW0) (hE.bl h.size hW0) (k:=L.wc c) (.inr ⟨c,hc,rfl⟩) hC;exact (mem_get hW hG hB hK.1 hc).mono fun x w' hx=>⟨hx⟩))
 clear h hM hG hB hE;go_enter PV.func53,Tryz.ntmps53;go_upto_region 3 with fail
 refine rn (sel [fun w'=>Bk w' w.heap.size 83 #[.pointer (some ⟨L.kb c,0,none⟩)],fun w'=>Bk w' (L.kb c) 89 #[.int .i64 (c:Int),V.tv c,.int .i64 (S.cl c).cur,.int .i64 (S.cl c).en.mine,.int .i64 (S.cl c).en.other,.int .i64 (S.cl c).en.acked,V.rv c,.pointer (some ⟨L.ul c,0,none⟩),.pointer (some ⟨L.dl c,0,none⟩),.int .i64 (S.cl c).typed,.chan (some (L.wc c))]]) [(.h 0,0),(.h 9,1),(.h 9,2),(.h 1,3),(.h 0,4),(.h 9,5),(.c [9],6),(.h 9,7)] fd fd (qy (Bk.dr hbx) (qy (Bk.dr hkk) (fun _=>un))) ?_;simp only [vg,fy9,fz4,fz3,fy2,fx7,fy0];iterate 6 (refine oH ?_;try simp only [aps])
 (refine rx (fun K hK=> ?_);go_simp;go_at_call 46;refine (hD.out _ ga).mono ?_;rintro e w3 gD;obtain ⟨rfl,gD2⟩:=gD.out;refine hK _ _ (rh trivial ry) ?_;clear hK K;try simp only [aps])
 (refine oH ?_;try simp only [aps]);refine ub ?_;go_wp2;go_ret;exact Done2.bl hb1.dr ⟨rfl,gD2⟩
end
def fhj: ∃ m,PV.underlying 49=some (.interface m):=⟨_,Tryz.underlying49⟩
def lx (t:TypeId) (v:Value) (w:World):(binOp .neq 49 (.iface t v) .nilIface).run PV w= .ok (.bool true) w:=by
 obtain ⟨m,hu⟩:=fhj
 have h: ∀ d:Nat,(Op.equalIn (d+1) 49 (.iface t v) .nilIface).run PV w= .ok false w:=fun d=>by
    simp [Op.equalIn,f1l hu]
 simp only [binOp];simp [Op.equal,Op.maxDepth,h 9999]
def fhk (t:TypeId) (v:Value) (w:World):(binOp .eql 49 (.iface t v) .nilIface).run PV w= .ok (.bool false) w:=by
 obtain ⟨m,hu⟩:=fhj
 have h: ∀ d:Nat,(Op.equalIn (d+1) 49 (.iface t v) .nilIface).run PV w= .ok false w:=fun d=>by
    simp [Op.equalIn,f1l hu]
 simp only [binOp];simp [Op.equal,Op.maxDepth,h 9999]
def fco (w:World):(binOp .neq 49 .nilIface .nilIface).run PV w= .ok (.bool false) w:=by
 obtain ⟨m,hu⟩:=fhj
 have h: ∀ d:Nat,(Op.equalIn (d+1) 49 .nilIface .nilIface).run PV w= .ok true w:=fun d=>by
    simp [Op.equalIn,f1l hu]
 simp only [binOp];simp [Op.equal,Op.maxDepth,h 9999]
def fvg (w:World):(binOp .eql 49 .nilIface .nilIface).run PV w= .ok (.bool true) w:=by
 obtain ⟨m,hu⟩:=fhj
 have h: ∀ d:Nat,(Op.equalIn (d+1) 49 .nilIface .nilIface).run PV w= .ok true w:=fun d=>by
    simp [Op.equalIn,f1l hu]
 simp only [binOp];simp [Op.equal,Op.maxDepth,h 9999]
section
variable {L:Lay} {V:Vals} {S:Plain.Ses} {m:Int} {ow ow':Nat→Nat} {w w':World} {E:Nat→Value}
def fhl (h:Mem L V S m ow w) (m':Int): ∃ ow',Mem L V S m' ow' (w.setCell ⟨L.b,0,none⟩ (.int .i32 m'))∧Ex ow ow' w (w.setCell ⟨L.b,0,none⟩ (.int .i32 m'))∧Ch (fun x=>x=L.b) w (w.setCell ⟨L.b,0,none⟩ (.int .i32 m')):=by
 have hC:Ch (fun x=>x=L.b) w (w.setCell ⟨L.b,0,none⟩ (.int .i32 m')):=(Ch.rf (fun x=>x=L.b) _).st (.inl rfl) _;obtain ⟨ow',hM,ho⟩:=h.lock_ m' hC (fun x _ hx=>by subst hx;exact h.tag.b) ⟨fun u t hu x hx hk=>rp hu h.bb fu x hx hk⟩ ((h.bb.st _).cv fi);exact ⟨ow',hM,Ex.of hC ho (fun x _ hx=>by subst hx;rw [h.tag.b];refine ⟨by omega,by omega,fun c'=>by omega⟩),hC⟩
def Marks.ex {n:Nat} (hM:Marks L n w) (hT:Mem L V S m ow w) (hn:n=S.n) (hE:Ex ow ow' w w'):Marks L n w':=
 ⟨hM.m0.to (hE.marks _ hM.m0.lt (.inl hT.tag.c0)),fun i hi=>(hM.ms i hi).to (hE.marks _ (hM.ms i hi).lt (.inr ⟨i,hT.tag.wc i (hn▸hi)⟩))⟩
structure fk1 (L:Lay) (V:Vals) (S:Plain.Ses) (E:Nat→Value) (ow:Nat→Nat) (w:World) (w':World) (ow':Nat→Nat):Prop where
 mem:Mem L V S 1 ow' w'
 marks:Marks L S.n w'
 errs:Errs E w'
 ex:Ex ow ow' w w'
 ch:Ch (fun x=>x=L.b) w w'
def gl (h:Mem L V S 0 ow w) (hM:Marks L S.n w) (hE:Errs E w):Calls PV 25 #[.pointer (some ⟨L.b,0,none⟩)] w fun x w'=>x= .returned (.tuple #[])∧ ∃ ow',fk1 L V S E ow w w' ow':=by
 refine (lock25 h.base h.bb kh rfl).mono ?_;rintro x w' ⟨rfl,rfl⟩;obtain ⟨ow',h1,h2,h3⟩:=fhl h 1;exact ⟨rfl,ow',h1,hM.ex h rfl h2,hE.ex h2 h.tag.lo h.size,h2,h3⟩
def vk (h:Mem L V S 1 ow w) (u:FrameMode):CallsD PV 26 #[.pointer (some ⟨L.b,0,none⟩)] u w fun x u' w'=>u'=u∧(x= .returned (.tuple #[])∧ ∃ ow',Mem L V S 0 ow' w'∧Ex ow ow' w w'):=by
 refine (fne u h.base h.bb kh rfl).mono ?_;rintro x u' w' ⟨rfl,rfl,rfl⟩;obtain ⟨ow',h1,h2,_⟩:=fhl h 0;exact ⟨rfl,rfl,ow',h1,h2⟩
structure CallEnd (L:Lay) (E:Nat→Value) (nm:ByteArray) (c:Int) (R:Nat×Plain.Ses) (ow:Nat→Nat) (w:World) (x:Ending) (w':World):Prop where
 out: ∃ V' ow',Mem L V' R.2 0 ow' w'∧Marks L R.2.n w'∧Ey ow ow' w w'∧((R.1=0∧x= .returned .nilIface)∨(R.1≠0∧ ∃ g,x= .returned (.iface 111 (.pointer (some ⟨g,0,none⟩)))∧Bk w' g 115 #[.string nm,.int .i64 c,E (fhf R.1)]∧ow' g=0))
def CallEnd.bl {nm:ByteArray} {c:Int} {R:Nat×Plain.Ses} {w1:World} {x:Ending} (hb:Bl w w1) (h:CallEnd L E nm c R ow w1 x w'):CallEnd L E nm c R ow w x w':=
 ⟨let ⟨V',ow',hM,hm,hE,h'⟩:=h.out;⟨V',ow',hM,hm,(Ey.bl hb).tr hE,h'⟩⟩
def fnf {k:Nat} (h:k≤7):fhf k<12∧fhf k≠2:=by
 unfold fhf;split
 · omega
 · split <;>omega
def fag (hE:Errs E w) {k:Nat} (h0:k≠0) (h:k≤7): ∃ t v,errV E k= .iface t v∧E (fhf k)= .iface t v:=by
 obtain ⟨t,v,e⟩:=hE.form _ (fnf h).1 (fnf h).2;exact ⟨t,v,by unfold errV;rw [fx9 h0,e],e⟩
def f2b {K:Nat} (hK: ∀ (x:Array Value) (W:World),(callFunc K x).run PV W= .ok (.enter K x) W) (fs:Array Value) (h:Mem L V S 0 ow w) (hM:Marks L S.n w) (hE:Errs E w) (nm:ByteArray) {i:Nat} (hi:i<S.n) (hn6:S.n≤6) {R:Nat×Plain.Ses} (hR:R.1≤7)
    (hf: ∀ W ow1,fk1 L V S E ow w W ow1→Calls PV K (#[.pointer (some ⟨L.kb i,0,none⟩)]++fs) W (Done2 L E R 1 ow1 W)):
    Calls PV 43 #[.pointer (some ⟨L.b,0,none⟩),.string nm,.int .i64 (i:Int),.func (.func K) #[] fs] w (CallEnd L E nm i R ow w):=by
 obtain ⟨ab,cap,ecls,_⟩:=h.cls_ fe;have hin:(i:Int)<(S.n:Int):=by omega
 have hz:((i:Int)<0)=False:=by simp
 have hLk:=fx6 (gl h hM hE);have hF:=fx6 hf;have hform:=fx6 (fun k h0 hk=>fag hE (k:=k) h0 hk);clear h hM hE hf;by_cases h0:R.1=0
 · have e0:errV E R.1= .nilIface:=by unfold errV;rw [f02 h0]
   have hcmp:=fun w=>fco w
   go_enter_defers PV.func43,Tryz.ntmps43
   go_wp2_with (first | (go_at_call 25;refine hLk.out.mono ?_;rintro e w1 ⟨rfl,ow1,g1⟩;obtain ⟨cB,dB⟩:=g1.mem.bb.ceF;simp only [sesC,ecls] at cB;have h11:=g1.errs.at_ 11 fe;have hci:=g1.mem.cls_at ecls i hi;have hFF:=fx6 (hF.out _ _ g1);replace g1:=fx6 g1) | (refine hFF.out.mono ?_;rintro e w3 gD;obtain ⟨rfl,gD2⟩:=gD.out;obtain ⟨V3,ow3,gM3,gK3,gY3⟩:=gD2;rw [e0];replace gM3:=fx6 gM3));refine f1p (f:=26) (args:= #[.pointer (some ⟨L.b,0,none⟩)]) fi jg ?_;refine (vk gM3.out .returning).mono ?_;rintro e u' w4 ⟨rfl,rfl,ow4,gM4,gX4⟩;exact ⟨_,f0x rfl _ _ _,V3,ow4,gM4,gK3.ex gM3.out rfl gX4,(g1.out.ex.ey.tr gY3).tr gX4.ey,.inl ⟨h0,rfl⟩⟩
 · obtain ⟨t,v,e0,e1⟩:=hform.out _ h0 hR;have hcmp:=fun w=>lx t v w
   go_enter_defers PV.func43,Tryz.ntmps43
   go_wp2_with (first | (go_at_call 25;refine hLk.out.mono ?_;rintro e w1 ⟨rfl,ow1,g1⟩;obtain ⟨cB,dB⟩:=g1.mem.bb.ceF;simp only [sesC,ecls] at cB;have h11:=g1.errs.at_ 11 fe;have hci:=g1.mem.cls_at ecls i hi;have hFF:=fx6 (hF.out _ _ g1);replace g1:=fx6 g1) | (refine hFF.out.mono ?_;rintro e w3 gD;obtain ⟨rfl,gD2⟩:=gD.out;obtain ⟨V3,ow3,gM3,gK3,gY3⟩:=gD2;rw [e0];replace gM3:=fx6 gM3));refine f1p (f:=26) (args:= #[.pointer (some ⟨L.b,0,none⟩)]) fi jg ?_;have hb3:Bl w3 (w3.alloc (.cells #[.string nm,.int .i64 (i:Int),.iface t v] 115)):=(Bl.rf _).al _;refine (vk (gM3.out.bl hb3) .returning).mono ?_;rintro e u' w4 ⟨rfl,rfl,ow4,gM4,gX4⟩;have gB:=Bk.nw (w:=w3) (t:=115) (cs:= #[.string nm,.int .i64 (i:Int),.iface t v]) rfl;have g0:=gM3.out.fresh w3.heap.size (fx8 _);exact ⟨_,f0x rfl _ _ _,V3,ow4,gM4,(gK3.bl hb3).ex (gM3.out.bl hb3) rfl gX4,((g1.out.ex.ey.tr gY3).tr (Ey.bl hb3)).tr gX4.ey,.inr ⟨h0,_,rfl,by rw [e1];exact gB.ch gX4.ch (fun hn=>hn g0),(gX4.own _ gB.lt).trans g0⟩⟩
def f1b (fv:Value) (h:Mem L V S 0 ow w) (hM:Marks L S.n w) (hE:Errs E w) (nm:ByteArray) {c:Int} (hc:c<0∨(S.n:Int)≤c) (hn1:1≤S.n) (hn6:S.n≤6):
    Calls PV 43 #[.pointer (some ⟨L.b,0,none⟩),.string nm,.int .i64 c,fv] w (CallEnd L E nm c (2,S) ow w):=by
 obtain ⟨ab,cap,ecls,_⟩:=h.cls_ hn1;have hLk:=fx6 (gl h hM hE);obtain ⟨t,v,e1⟩:=hE.form 3 fe fe;have hcmp:=fun w=>lx t v w;clear h hM hE;by_cases hc0:c<0
 all_goals
    have hcx:decide (c<0)=decide (c<0):=rfl;try (have hcn:(S.n:Int)≤c:=by omega)
    go_enter_defers PV.func43,Tryz.ntmps43
    go_wp2_with (first | (go_at_call 25;refine hLk.out.mono ?_;rintro e w1 ⟨rfl,ow1,g1⟩;obtain ⟨cB,dB⟩:=g1.mem.bb.ceF;simp only [sesC,ecls] at cB;have h11:=g1.errs.at_ 11 fe;have h3:=g1.errs.at_ 3 fe;rw [e1] at h3;replace g1:=fx6 g1));refine f1p (f:=26) (args:= #[.pointer (some ⟨L.b,0,none⟩)]) fi jg ?_;have hb3:Bl w1 (w1.alloc (.cells #[.string nm,.int .i64 c,.iface t v] 115)):=(Bl.rf _).al _;refine (vk (g1.out.mem.bl hb3) .returning).mono ?_;rintro e u' w4 ⟨rfl,rfl,ow4,gM4,gX4⟩;have gB:=Bk.nw (w:=w1) (t:=115) (cs:= #[.string nm,.int .i64 c,.iface t v]) rfl;have g0:=g1.out.mem.fresh w1.heap.size (fx8 _);exact ⟨_,f0x rfl _ _ _,V,ow4,gM4,(g1.out.marks.bl hb3).ex (g1.out.mem.bl hb3) rfl gX4,(g1.out.ex.ey.tr (Ey.bl hb3)).tr gX4.ey,.inr ⟨pt,_,rfl,by show Bk _ _ _ #[_,_,E 3];rw [e1];exact gB.ch gX4.ch (fun hn=>hn g0),(gX4.own _ gB.lt).trans g0⟩⟩
end
def e9 {S:Plain.Ses} {c:Nat} {k pos r:Int}:(Plain.change S c k pos r).1≤7:=by
 unfold Plain.change;repeat' split
 all_goals (simp only [];omega)
def fng {S:Plain.Ses} {c:Nat}:(Plain.serve S c).1≤7:=by
 unfold Plain.serve;split
 · simp
 · split <;>simp
def fwb {S:Plain.Ses} {c:Nat}:(Plain.get S c).1≤7:=by
 unfold Plain.get;split <;>simp
def ins_le {S:Plain.Ses} {c:Nat} {pos r:Int}:(if Plain.validR r then Plain.change S c 1 pos r else (3,S)).1≤7:=by
 split
 · exact e9
 · simp
section
variable {L:Lay} {V:Vals} {S:Plain.Ses} {ow:Nat→Nat} {w:World} {E:Nat→Value}
def fp3 (h:Mem L V S 0 ow w) (hM:Marks L S.n w) (hG:Plain.Good S) (hB:Plain.Bnd S) (hE:Errs E w) (c pos r:Int):
    Calls PV 21 #[.pointer (some ⟨L.b,0,none⟩),.int .i64 c,.int .i64 pos,.int .i32 r] w (CallEnd L E ⟨#[73,110,115,101,114,116]⟩ c (Plain.call S 1 c pos r) ow w):=by
 have hbl:=h.bb.lt;have hb3:Bl w (((w.alloc (.cells #[.pointer (some ⟨L.b,0,none⟩)] 26)).alloc (.cells #[.int .i64 pos] 3)).alloc (.cells #[.int .i32 r] 21)):=(((Bl.rf _).al _).al _).al _;have hlk:=fx6 (fun (W:World) (x t:Nat) (cs:Array Value) (hx:Bk (((w.alloc (.cells #[.pointer (some ⟨L.b,0,none⟩)] 26)).alloc (.cells #[.int .i64 pos] 3)).alloc (.cells #[.int .i32 r] 21)) x t cs) (hge:w.heap.size≤x) (hC:Ch (fun y=>y=L.b) (((w.alloc (.cells #[.pointer (some ⟨L.b,0,none⟩)] 26)).alloc (.cells #[.int .i64 pos] 3)).alloc (.cells #[.int .i32 r] 21)) W)=>hx.ch hC (fun e=>by omega));have x0:Bk (((w.alloc (.cells #[.pointer (some ⟨L.b,0,none⟩)] 26)).alloc (.cells #[.int .i64 pos] 3)).alloc (.cells #[.int .i32 r] 21)) (w.heap.size) 26 #[.pointer (some ⟨L.b,0,none⟩)]:=(Bk.al (Bk.al (Bk.nw (w:=w) (t:=26) (cs:= #[.pointer (some ⟨L.b,0,none⟩)]) fi) _) _);have x1:Bk (((w.alloc (.cells #[.pointer (some ⟨L.b,0,none⟩)] 26)).alloc (.cells #[.int .i64 pos] 3)).alloc (.cells #[.int .i32 r] 21)) (w.heap.size+1) 3 #[.int .i64 pos]:=(Bk.al (Bk.nw (w:=(w.alloc (.cells #[.pointer (some ⟨L.b,0,none⟩)] 26))) (t:=3) (cs:= #[.int .i64 pos]) fi) _);have x2:Bk (((w.alloc (.cells #[.pointer (some ⟨L.b,0,none⟩)] 26)).alloc (.cells #[.int .i64 pos] 3)).alloc (.cells #[.int .i32 r] 21)) (w.heap.size+1+1) 21 #[.int .i32 r]:=(Bk.nw (w:=((w.alloc (.cells #[.pointer (some ⟨L.b,0,none⟩)] 26)).alloc (.cells #[.int .i64 pos] 3))) (t:=21) (cs:= #[.int .i32 r]) fi);obtain ⟨c0,d0⟩:=x0.ceF;have hn1:=hG.n0;have hn6:=hG.n6
 have hK:RowKit.Hid (Calls PV 43 #[.pointer (some ⟨L.b,0,none⟩),.string ⟨#[73,110,115,101,114,116]⟩,.int .i64 c,.func (.func 44) #[] #[.pointer (some ⟨w.heap.size+1+1,0,none⟩),.pointer (some ⟨w.heap.size,0,none⟩),.pointer (some ⟨w.heap.size+1,0,none⟩)]] (((w.alloc (.cells #[.pointer (some ⟨L.b,0,none⟩)] 26)).alloc (.cells #[.int .i64 pos] 3)).alloc (.cells #[.int .i32 r] 21)) (CallEnd L E ⟨#[73,110,115,101,114,116]⟩ c (Plain.call S 1 c pos r) ow (((w.alloc (.cells #[.pointer (some ⟨L.b,0,none⟩)] 26)).alloc (.cells #[.int .i64 pos] 3)).alloc (.cells #[.int .i32 r] 21)))):=by
    by_cases hc:c<0∨(S.n:Int)≤c
    · have e:Plain.call S 1 c pos r=(2,S):=by unfold Plain.call;rw [f02 hc]
      rw [e];exact fx6 (f1b _ (h.bl hb3) (hM.bl hb3) (hE.bl h.size hb3) ⟨#[73,110,115,101,114,116]⟩ hc hn1 hn6)
    · obtain ⟨i,rfl⟩: ∃ i:Nat,c=i:=⟨c.toNat,by omega⟩;have hi:i<S.n:=by omega
      have e:Plain.call S 1 i pos r=if Plain.validR r then Plain.change S i 1 pos r else (3,S):=by
        unfold Plain.call;rw [fx9 hc];simp
      rw [e];exact fx6 (f2b (K:=44) PV.call44 _ (h.bl hb3) (hM.bl hb3) (hE.bl h.size hb3) ⟨#[73,110,115,101,114,116]⟩ hi hn6 (R:=if Plain.validR r then Plain.change S i 1 pos r else (3,S)) ins_le (fun W ow1 g=>fvf g.mem g.marks hG hB g.errs hi pos r _ _ _ (hlk.out _ _ _ _ x2 fe g.ch) (hlk.out _ _ _ _ x0 fe g.ch) (hlk.out _ _ _ _ x1 fe g.ch)))
 generalize Plain.call S 1 c pos r=RR at hK ⊢;clear h hM hG hB hE;go_enter PV.func21,Tryz.ntmps21;go_wp2_with (first | (go_at_call 43;refine hK.out.mono ?_;rintro e w3 gD;obtain ⟨V',ow',g1,g2,g3,g4⟩:=gD.out;rcases g4 with ⟨g5,rfl⟩ | ⟨g5,g,rfl,g6,g7⟩));all_goals go_ret
 · exact ⟨V',ow',g1,g2,(Ey.bl hb3).tr g3,.inl ⟨g5,rfl⟩⟩
 · exact ⟨V',ow',g1,g2,(Ey.bl hb3).tr g3,.inr ⟨g5,g,rfl,g6,g7⟩⟩
def fp4 (h:Mem L V S 0 ow w) (hM:Marks L S.n w) (hG:Plain.Good S) (hB:Plain.Bnd S) (hE:Errs E w) (c pos r:Int):
    Calls PV 22 #[.pointer (some ⟨L.b,0,none⟩),.int .i64 c,.int .i64 pos] w (CallEnd L E ⟨#[68,101,108,101,116,101]⟩ c (Plain.call S 2 c pos r) ow w):=by
 have hbl:=h.bb.lt;have hb3:Bl w ((w.alloc (.cells #[.pointer (some ⟨L.b,0,none⟩)] 26)).alloc (.cells #[.int .i64 pos] 3)):=((Bl.rf _).al _).al _;have hlk:=fx6 (fun (W:World) (x t:Nat) (cs:Array Value) (hx:Bk ((w.alloc (.cells #[.pointer (some ⟨L.b,0,none⟩)] 26)).alloc (.cells #[.int .i64 pos] 3)) x t cs) (hge:w.heap.size≤x) (hC:Ch (fun y=>y=L.b) ((w.alloc (.cells #[.pointer (some ⟨L.b,0,none⟩)] 26)).alloc (.cells #[.int .i64 pos] 3)) W)=>hx.ch hC (fun e=>by omega));have x0:Bk ((w.alloc (.cells #[.pointer (some ⟨L.b,0,none⟩)] 26)).alloc (.cells #[.int .i64 pos] 3)) (w.heap.size) 26 #[.pointer (some ⟨L.b,0,none⟩)]:=(Bk.al (Bk.nw (w:=w) (t:=26) (cs:= #[.pointer (some ⟨L.b,0,none⟩)]) fi) _);have x1:Bk ((w.alloc (.cells #[.pointer (some ⟨L.b,0,none⟩)] 26)).alloc (.cells #[.int .i64 pos] 3)) (w.heap.size+1) 3 #[.int .i64 pos]:=(Bk.nw (w:=(w.alloc (.cells #[.pointer (some ⟨L.b,0,none⟩)] 26))) (t:=3) (cs:= #[.int .i64 pos]) fi);obtain ⟨c0,d0⟩:=x0.ceF;have hn1:=hG.n0;have hn6:=hG.n6
 have hK:RowKit.Hid (Calls PV 43 #[.pointer (some ⟨L.b,0,none⟩),.string ⟨#[68,101,108,101,116,101]⟩,.int .i64 c,.func (.func 49) #[] #[.pointer (some ⟨w.heap.size,0,none⟩),.pointer (some ⟨w.heap.size+1,0,none⟩)]] ((w.alloc (.cells #[.pointer (some ⟨L.b,0,none⟩)] 26)).alloc (.cells #[.int .i64 pos] 3)) (CallEnd L E ⟨#[68,101,108,101,116,101]⟩ c (Plain.call S 2 c pos r) ow ((w.alloc (.cells #[.pointer (some ⟨L.b,0,none⟩)] 26)).alloc (.cells #[.int .i64 pos] 3)))):=by
    by_cases hc:c<0∨(S.n:Int)≤c
    · have e:Plain.call S 2 c pos r=(2,S):=by unfold Plain.call;rw [f02 hc]
      rw [e];exact fx6 (f1b _ (h.bl hb3) (hM.bl hb3) (hE.bl h.size hb3) ⟨#[68,101,108,101,116,101]⟩ hc hn1 hn6)
    · obtain ⟨i,rfl⟩: ∃ i:Nat,c=i:=⟨c.toNat,by omega⟩;have hi:i<S.n:=by omega
      have e:Plain.call S 2 i pos r=Plain.change S i 2 pos 0:=by
        unfold Plain.call;rw [fx9 hc];simp
      rw [e];exact fx6 (f2b (K:=49) PV.call49 _ (h.bl hb3) (hM.bl hb3) (hE.bl h.size hb3) ⟨#[68,101,108,101,116,101]⟩ hi hn6 (R:=Plain.change S i 2 pos 0) e9 (fun W ow1 g=>fvd g.mem g.marks hG hB g.errs hi pos _ _ (hlk.out _ _ _ _ x0 fe g.ch) (hlk.out _ _ _ _ x1 fe g.ch)))
 generalize Plain.call S 2 c pos r=RR at hK ⊢;clear h hM hG hB hE;go_enter PV.func22,Tryz.ntmps22;go_wp2_with (first | (go_at_call 43;refine hK.out.mono ?_;rintro e w3 gD;obtain ⟨V',ow',g1,g2,g3,g4⟩:=gD.out;rcases g4 with ⟨g5,rfl⟩ | ⟨g5,g,rfl,g6,g7⟩));all_goals go_ret
 · exact ⟨V',ow',g1,g2,(Ey.bl hb3).tr g3,.inl ⟨g5,rfl⟩⟩
 · exact ⟨V',ow',g1,g2,(Ey.bl hb3).tr g3,.inr ⟨g5,g,rfl,g6,g7⟩⟩
def fvh (h:Mem L V S 0 ow w) (hM:Marks L S.n w) (hG:Plain.Good S) (hB:Plain.Bnd S) (hE:Errs E w) (c pos r:Int):
    Calls PV 23 #[.pointer (some ⟨L.b,0,none⟩),.int .i64 c,.int .i64 pos] w (CallEnd L E ⟨#[77,111,118,101]⟩ c (Plain.call S 3 c pos r) ow w):=by
 have hbl:=h.bb.lt;have hb3:Bl w ((w.alloc (.cells #[.pointer (some ⟨L.b,0,none⟩)] 26)).alloc (.cells #[.int .i64 pos] 3)):=((Bl.rf _).al _).al _;have hlk:=fx6 (fun (W:World) (x t:Nat) (cs:Array Value) (hx:Bk ((w.alloc (.cells #[.pointer (some ⟨L.b,0,none⟩)] 26)).alloc (.cells #[.int .i64 pos] 3)) x t cs) (hge:w.heap.size≤x) (hC:Ch (fun y=>y=L.b) ((w.alloc (.cells #[.pointer (some ⟨L.b,0,none⟩)] 26)).alloc (.cells #[.int .i64 pos] 3)) W)=>hx.ch hC (fun e=>by omega));have x0:Bk ((w.alloc (.cells #[.pointer (some ⟨L.b,0,none⟩)] 26)).alloc (.cells #[.int .i64 pos] 3)) (w.heap.size) 26 #[.pointer (some ⟨L.b,0,none⟩)]:=(Bk.al (Bk.nw (w:=w) (t:=26) (cs:= #[.pointer (some ⟨L.b,0,none⟩)]) fi) _);have x1:Bk ((w.alloc (.cells #[.pointer (some ⟨L.b,0,none⟩)] 26)).alloc (.cells #[.int .i64 pos] 3)) (w.heap.size+1) 3 #[.int .i64 pos]:=(Bk.nw (w:=(w.alloc (.cells #[.pointer (some ⟨L.b,0,none⟩)] 26))) (t:=3) (cs:= #[.int .i64 pos]) fi);obtain ⟨c0,d0⟩:=x0.ceF;have hn1:=hG.n0;have hn6:=hG.n6
 have hK:RowKit.Hid (Calls PV 43 #[.pointer (some ⟨L.b,0,none⟩),.string ⟨#[77,111,118,101]⟩,.int .i64 c,.func (.func 51) #[] #[.pointer (some ⟨w.heap.size,0,none⟩),.pointer (some ⟨w.heap.size+1,0,none⟩)]] ((w.alloc (.cells #[.pointer (some ⟨L.b,0,none⟩)] 26)).alloc (.cells #[.int .i64 pos] 3)) (CallEnd L E ⟨#[77,111,118,101]⟩ c (Plain.call S 3 c pos r) ow ((w.alloc (.cells #[.pointer (some ⟨L.b,0,none⟩)] 26)).alloc (.cells #[.int .i64 pos] 3)))):=by
    by_cases hc:c<0∨(S.n:Int)≤c
    · have e:Plain.call S 3 c pos r=(2,S):=by unfold Plain.call;rw [f02 hc]
      rw [e];exact fx6 (f1b _ (h.bl hb3) (hM.bl hb3) (hE.bl h.size hb3) ⟨#[77,111,118,101]⟩ hc hn1 hn6)
    · obtain ⟨i,rfl⟩: ∃ i:Nat,c=i:=⟨c.toNat,by omega⟩;have hi:i<S.n:=by omega
      have e:Plain.call S 3 i pos r=Plain.change S i 3 pos 0:=by
        unfold Plain.call;rw [fx9 hc];simp
      rw [e];exact fx6 (f2b (K:=51) PV.call51 _ (h.bl hb3) (hM.bl hb3) (hE.bl h.size hb3) ⟨#[77,111,118,101]⟩ hi hn6 (R:=Plain.change S i 3 pos 0) e9 (fun W ow1 g=>fve g.mem g.marks hG hB g.errs hi pos _ _ (hlk.out _ _ _ _ x0 fe g.ch) (hlk.out _ _ _ _ x1 fe g.ch)))
 generalize Plain.call S 3 c pos r=RR at hK ⊢;clear h hM hG hB hE;go_enter PV.func23,Tryz.ntmps23;go_wp2_with (first | (go_at_call 43;refine hK.out.mono ?_;rintro e w3 gD;obtain ⟨V',ow',g1,g2,g3,g4⟩:=gD.out;rcases g4 with ⟨g5,rfl⟩ | ⟨g5,g,rfl,g6,g7⟩));all_goals go_ret
 · exact ⟨V',ow',g1,g2,(Ey.bl hb3).tr g3,.inl ⟨g5,rfl⟩⟩
 · exact ⟨V',ow',g1,g2,(Ey.bl hb3).tr g3,.inr ⟨g5,g,rfl,g6,g7⟩⟩
def f2l (b:Bool) (h:Mem L V S 0 ow w) (hM:Marks L S.n w) (hG:Plain.Good S) (hB:Plain.Bnd S) (hE:Errs E w) (c pos r:Int):
    Calls PV 24 #[.pointer (some ⟨L.b,0,none⟩),.int .i64 c,.bool b] w (CallEnd L E ⟨#[68,101,108,105,118,101,114]⟩ c (Plain.call S (if b then 4 else 5) c pos r) ow w):=by
 have hbl:=h.bb.lt;have hb3:Bl w ((w.alloc (.cells #[.pointer (some ⟨L.b,0,none⟩)] 26)).alloc (.cells #[.bool b] 4)):=((Bl.rf _).al _).al _;have hlk:=fx6 (fun (W:World) (x t:Nat) (cs:Array Value) (hx:Bk ((w.alloc (.cells #[.pointer (some ⟨L.b,0,none⟩)] 26)).alloc (.cells #[.bool b] 4)) x t cs) (hge:w.heap.size≤x) (hC:Ch (fun y=>y=L.b) ((w.alloc (.cells #[.pointer (some ⟨L.b,0,none⟩)] 26)).alloc (.cells #[.bool b] 4)) W)=>hx.ch hC (fun e=>by omega));have x0:Bk ((w.alloc (.cells #[.pointer (some ⟨L.b,0,none⟩)] 26)).alloc (.cells #[.bool b] 4)) (w.heap.size) 26 #[.pointer (some ⟨L.b,0,none⟩)]:=(Bk.al (Bk.nw (w:=w) (t:=26) (cs:= #[.pointer (some ⟨L.b,0,none⟩)]) fi) _);have x1:Bk ((w.alloc (.cells #[.pointer (some ⟨L.b,0,none⟩)] 26)).alloc (.cells #[.bool b] 4)) (w.heap.size+1) 4 #[.bool b]:=(Bk.nw (w:=(w.alloc (.cells #[.pointer (some ⟨L.b,0,none⟩)] 26))) (t:=4) (cs:= #[.bool b]) fi);obtain ⟨c0,d0⟩:=x0.ceF;have hn1:=hG.n0;have hn6:=hG.n6
 have hK:RowKit.Hid (Calls PV 43 #[.pointer (some ⟨L.b,0,none⟩),.string ⟨#[68,101,108,105,118,101,114]⟩,.int .i64 c,.func (.func 53) #[] #[.pointer (some ⟨w.heap.size+1,0,none⟩),.pointer (some ⟨w.heap.size,0,none⟩)]] ((w.alloc (.cells #[.pointer (some ⟨L.b,0,none⟩)] 26)).alloc (.cells #[.bool b] 4)) (CallEnd L E ⟨#[68,101,108,105,118,101,114]⟩ c (Plain.call S (if b then 4 else 5) c pos r) ow ((w.alloc (.cells #[.pointer (some ⟨L.b,0,none⟩)] 26)).alloc (.cells #[.bool b] 4)))):=by
    by_cases hc:c<0∨(S.n:Int)≤c
    · have e:Plain.call S (if b then 4 else 5) c pos r=(2,S):=by unfold Plain.call;rw [f02 hc]
      rw [e];exact fx6 (f1b _ (h.bl hb3) (hM.bl hb3) (hE.bl h.size hb3) ⟨#[68,101,108,105,118,101,114]⟩ hc hn1 hn6)
    · obtain ⟨i,rfl⟩: ∃ i:Nat,c=i:=⟨c.toNat,by omega⟩;have hi:i<S.n:=by omega
      cases b
      · have e:Plain.call S 5 i pos r=Plain.get S i:=by unfold Plain.call;rw [fx9 hc];simp
        show RowKit.Hid (Calls _ _ _ _ (CallEnd _ _ _ _ (Plain.call S 5 i pos r) _ _));rw [e];exact fx6 (f2b (K:=53) PV.call53 _ (h.bl hb3) (hM.bl hb3) (hE.bl h.size hb3) ⟨#[68,101,108,105,118,101,114]⟩ hi hn6 (R:=Plain.get S i) fwb (fun W ow1 g=>fsr g.mem g.marks hG hB g.errs hi _ _ (hlk.out _ _ _ _ x1 fe g.ch)))
      · have e:Plain.call S 4 i pos r=Plain.serve S i:=by unfold Plain.call;rw [fx9 hc];simp
        show RowKit.Hid (Calls _ _ _ _ (CallEnd _ _ _ _ (Plain.call S 4 i pos r) _ _));rw [e];exact fx6 (f2b (K:=53) PV.call53 _ (h.bl hb3) (hM.bl hb3) (hE.bl h.size hb3) ⟨#[68,101,108,105,118,101,114]⟩ hi hn6 (R:=Plain.serve S i) fng (fun W ow1 g=>call_up g.mem g.marks hG hB g.errs hi _ _ (hlk.out _ _ _ _ x1 fe g.ch) (hlk.out _ _ _ _ x0 fe g.ch)))
 generalize Plain.call S (if b then 4 else 5) c pos r=RR at hK ⊢;clear h hM hG hB hE;go_enter PV.func24,Tryz.ntmps24;go_wp2_with (first | (go_at_call 43;refine hK.out.mono ?_;rintro e w3 gD;obtain ⟨V',ow',g1,g2,g3,g4⟩:=gD.out;rcases g4 with ⟨g5,rfl⟩ | ⟨g5,g,rfl,g6,g7⟩));all_goals go_ret
 · exact ⟨V',ow',g1,g2,(Ey.bl hb3).tr g3,.inl ⟨g5,rfl⟩⟩
 · exact ⟨V',ow',g1,g2,(Ey.bl hb3).tr g3,.inr ⟨g5,g,rfl,g6,g7⟩⟩
def up_any (h:Mem L V S 0 ow w) (hM:Marks L S.n w) (hG:Plain.Good S) (hB:Plain.Bnd S) (hE:Errs E w) (c pos r:Int):
    Calls PV 24 #[.pointer (some ⟨L.b,0,none⟩),.int .i64 c,.bool true] w (CallEnd L E ⟨#[68,101,108,105,118,101,114]⟩ c (Plain.call S 4 c pos r) ow w):=f2l true h hM hG hB hE c pos r
def fvi (h:Mem L V S 0 ow w) (hM:Marks L S.n w) (hG:Plain.Good S) (hB:Plain.Bnd S) (hE:Errs E w) (c pos r:Int):
    Calls PV 24 #[.pointer (some ⟨L.b,0,none⟩),.int .i64 c,.bool false] w (CallEnd L E ⟨#[68,101,108,105,118,101,114]⟩ c (Plain.call S 5 c pos r) ow w):=f2l false h hM hG hB hE c pos r
end
open Go.Extern.Stop Go.Stop Go.Extern
namespace As
def valueOf113 (t:Addr) (w:World):(ReflectliteValue.unpack (.iface 113 (.pointer (some t)))).run PV w
    = .ok (.agg #[.pointer (some ⟨13,113,none⟩),.pointer (some ⟨w.heap.size,0,none⟩),.int .u64 150]) (w.alloc (.cells #[.pointer (some t)] 113)):=by kernel_rfl
def type113 (a:Addr) (w:World):(ReflectliteValue.methodAny (ReflectliteValue.valueError "reflectlite.Value.Type" 0) (fun t _ _ _=>ReflectliteType.toType t) #[.agg #[.pointer (some ⟨13,113,none⟩),.pointer (some a),.int .u64 150]]).run PV w
    = .ok (.iface 192 (.agg #[.pointer (some ⟨13,113,none⟩)])) w:=by kernel_rfl
def methodKind (h:Value) (w:World):(Go.method 358 192 (.agg #[h]) "Kind").run PV w= .ok (146,h) w:=by kernel_rfl
def kind113 (w:World):((ReflectliteType.abiMethod fun t=>(fun a:Nat=>Value.int IntKind.u8 (a:Int)) <$> Rtype.kind t) #[.pointer (some ⟨13,113,none⟩)]).run PV w= .ok (.int .u8 22) w:=by kernel_rfl
def kind111 (w:World):((ReflectliteType.abiMethod fun t=>(fun a:Nat=>Value.int IntKind.u8 (a:Int)) <$> Rtype.kind t) #[.pointer (some ⟨13,111,none⟩)]).run PV w= .ok (.int .u8 22) w:=by kernel_rfl
def rlm (z:Sem Value) (f:TypeId→Addr→Nat→Nat→Sem Value) (v:Value):
    ReflectliteValue.method z f #[v]=(do match ← ReflectliteValue.parts v with | none=>z | some (t,a,fl)=>f t a fl (fl%32)):=rfl
def fnh (a:Addr) (w:World):(ReflectliteValue.parts (.agg #[.pointer (some ⟨13,113,none⟩),.pointer (some a),.int .u64 150])).run PV w= .ok (some (113,a,150)) w:=by kernel_rfl
def u113:PV.underlying 113=some (.pointer 111):=by kernel_rfl
def u111:PV.underlying 111=some (.pointer 115):=by kernel_rfl
def isNil113 (a p:Addr) (W:World) (ha:W.cell? a=some (.pointer (some p))):
    (ReflectliteValue.method (ReflectliteValue.valueError "reflectlite.Value.IsNil" 0) ReflectliteValue.isNil #[.agg #[.pointer (some ⟨13,113,none⟩),.pointer (some a),.int .u64 150]]).run PV W= .ok (.bool false) W:=by
 have h:=u113;rw [rlm];simp only [fz9,fnh,Result.andThen];simp [ReflectliteValue.isNil,loadVar,isAgg,f1l h,ha,Result.andThen]
def methodElem (h:Value) (w:World):(Go.method 358 192 (.agg #[h]) "Elem").run PV w= .ok (159,.agg #[h]) w:=by kernel_rfl
def methodImplements (h:Value) (w:World):(Go.method 358 192 (.agg #[h]) "Implements").run PV w= .ok (160,.agg #[h]) w:=by kernel_rfl
def methodAssignableTo (h:Value) (w:World):(Go.method 358 192 (.agg #[h]) "AssignableTo").run PV w= .ok (157,.agg #[h]) w:=by kernel_rfl
def methodComparable (h:Value) (w:World):(Go.method 358 192 (.agg #[h]) "Comparable").run PV w= .ok (158,.agg #[h]) w:=by kernel_rfl
def elem113 (w:World):(ReflectliteType.method ReflectliteType.elem #[.agg #[.pointer (some ⟨13,113,none⟩)]]).run PV w= .ok (.iface 192 (.agg #[.pointer (some ⟨13,111,none⟩)])) w:=by kernel_rfl
def implements111 (w:World):(ReflectliteType.relation "Implements" ReflectliteType.implements_ #[.agg #[.pointer (some ⟨13,111,none⟩)],.iface 192 (.agg #[.pointer (some ⟨13,49,none⟩)])]).run PV w= .ok (.bool true) w:=by kernel_rfl
def typeOf111 (v:Value) (w:World):(ReflectliteType.typeOf #[.iface 111 v]).run PV w= .ok (.iface 192 (.agg #[.pointer (some ⟨13,111,none⟩)])) w:=by kernel_rfl
def typeOf227 (v:Value) (w:World):(ReflectliteType.typeOf #[.iface 227 v]).run PV w= .ok (.iface 192 (.agg #[.pointer (some ⟨13,227,none⟩)])) w:=by kernel_rfl
def assignable111 (w:World):(ReflectliteType.relation "AssignableTo" ReflectliteType.assignableTo #[.agg #[.pointer (some ⟨13,111,none⟩)],.iface 192 (.agg #[.pointer (some ⟨13,111,none⟩)])]).run PV w= .ok (.bool true) w:=by kernel_rfl
def valueOf111 (e:Addr) (w:World):(ReflectliteValue.unpack (.iface 111 (.pointer (some e)))).run PV w
    = .ok (.agg #[.pointer (some ⟨13,111,none⟩),.pointer (some ⟨w.heap.size,0,none⟩),.int .u64 150]) (w.alloc (.cells #[.pointer (some e)] 111)):=by kernel_rfl
def fsw (w:World):(Rtype.elem? 113).run PV w= .ok (some 111) w:=by kernel_rfl
def mk111 (p:Addr) (w:World):(ReflectliteValue.mk 111 p ReflectliteValue.flagAddr).run PV w= .ok (.agg #[.pointer (some ⟨13,111,none⟩),.pointer (some p),.int .u64 406]) w:=by kernel_rfl
def elemV113 (a p:Addr) (W:World) (ha:W.cell? a=some (.pointer (some p))):
    (ReflectliteValue.method (ReflectliteValue.valueError "reflectlite.Value.Elem" 0) ReflectliteValue.elem #[.agg #[.pointer (some ⟨13,113,none⟩),.pointer (some a),.int .u64 150]]).run PV W
      = .ok (.agg #[.pointer (some ⟨13,111,none⟩),.pointer (some p),.int .u64 406]) W:=by
 have h:=u113;rw [rlm];simp only [fz9,fnh,Result.andThen];simp [ReflectliteValue.elem,loadVar,isAgg,f1l h,ha,Result.andThen,fsw,mk111]
def rls (v x:Value):ReflectliteValue.set #[v,x]=(do
    let (some (dst,a,fl),some (src,b,_)):=(← ReflectliteValue.parts v,← ReflectliteValue.parts x)
     | unsupported (.noEntry "extern/(internal/reflectlite.Value).Set.zeroValue")
    if fl / ReflectliteValue.flagAddr%2==0 then unsupported (.noEntry "extern/(internal/reflectlite.Value).Set.unaddressable")
    let val ← loadVar src b
    if ← Rtype.directlyAssignable dst src then storeVar dst a val
    else if ← Rtype.implements dst src then
     if (← Rtype.kind src)==20 then
        match val with
        | .nilIface=>unsupported (.noEntry "extern/reflectlite: a nil value of one interface type handed on as a value of another")
        | _=>storeVar dst a val
     else storeVar dst a (.iface src val)
    else panicString ("reflectlite.Set: value of type " ++(← Rtype.spelt src)++ " is not assignable to type " ++(← Rtype.spelt dst))
    pure (.tuple #[])):=rfl
def fsx (a:Addr) (w:World):(ReflectliteValue.parts (.agg #[.pointer (some ⟨13,111,none⟩),.pointer (some a),.int .u64 406])).run PV w= .ok (some (111,a,406)) w:=by kernel_rfl
def fvj (a:Addr) (w:World):(ReflectliteValue.parts (.agg #[.pointer (some ⟨13,111,none⟩),.pointer (some a),.int .u64 150])).run PV w= .ok (some (111,a,150)) w:=by kernel_rfl
def fsy (w:World):(Rtype.directlyAssignable 111 111).run PV w= .ok true w:=by kernel_rfl
def size111 (w:World):(sizeOf 111).run PV w= .ok 1 w:=by kernel_rfl
def set111 (ta b e:Addr) (old:Value) (W:World) (hb:W.cell? b=some (.pointer (some e))) (ht:W.cell? ta=some old) (hf:W.frozen? ta=false):
    (ReflectliteValue.set #[.agg #[.pointer (some ⟨13,111,none⟩),.pointer (some ta),.int .u64 406],.agg #[.pointer (some ⟨13,111,none⟩),.pointer (some b),.int .u64 150]]).run PV W
      = .ok (.tuple #[]) (W.setCell ta (.pointer (some e))):=by
 have h:=u111;rw [rls];simp only [fz9,fsx,fvj,Result.andThen];simp [ReflectliteValue.flagAddr,loadVar,isAgg,f1l h,hb,Result.andThen,fsy,size111,storeVar,Value.cells,storeCells,Addr.add];rw [run_store PV W ta _ _ (by rfl)];simp [ht,hf]
end As
def fvk (e t:Addr) (a:Nat) (old:Value) (w:World) (ha:w.cell? ⟨a,0,none⟩=some (.pointer (some t))) (ht0:w.cell? t=some old) (hf0:w.frozen? t=false):
    Calls PV 83 #[.iface 111 (.pointer (some e)),.iface 113 (.pointer (some t)),.agg #[.pointer (some ⟨13,113,none⟩),.pointer (some ⟨a,0,none⟩),.int .u64 150],.iface 192 (.agg #[.pointer (some ⟨13,111,none⟩)])] w fun ev w'=>ev= .returned (.bool true)∧w'=((w.alloc (.cells #[.pointer (some ⟨13,113,none⟩),.pointer (some ⟨a,0,none⟩),.int .u64 150] 152)).alloc (.cells #[.pointer (some e)] 111)).setCell t (.pointer (some e)):=by
 have h80:= @run_callFunc_extern PV 80 _ (fun args=>ReflectliteValue.unpack (args.getD 0 (.tuple #[]))) PV.func80 fd fd fd fd;have h84:= @run_callFunc_extern PV 84 _ ReflectliteType.typeOf PV.func84 fd fd fd fd;have h157:= @run_callFunc_extern PV 157 _ (ReflectliteType.relation "AssignableTo" ReflectliteType.assignableTo) PV.func157 fd fd fd fd;have h113:= @run_callFunc_extern PV 113 _ (ReflectliteValue.method (ReflectliteValue.valueError "reflectlite.Value.Elem" 0) ReflectliteValue.elem) PV.func113 fd fd fd fd;have h114:= @run_callFunc_extern PV 114 _ ReflectliteValue.set PV.func114 fd fd fd fd;have tO:=As.typeOf111;have mA:=As.methodAssignableTo;have a25:=As.assignable111;have v25:=As.valueOf111
 have hal:a<w.heap.size:=by
    rcases f01 a w.heap.size with h | h
    · exact h
    · simp [World.cell?,f09 h] at ha
 have htl:t.block<w.heap.size:=by
    rcases f01 t.block w.heap.size with h | h
    · exact h
    · simp [World.cell?,f09 h] at ht0
 have el:=As.elemV113 ⟨a,0,none⟩ t (w.alloc (.cells #[.pointer (some ⟨13,113,none⟩),.pointer (some ⟨a,0,none⟩),.int .u64 150] 152)) (by rw [f3a _ _ ⟨a,0,none⟩ hal];exact ha)
 have st:=As.set111 t ⟨w.heap.size+1,0,none⟩ e old ((w.alloc (.cells #[.pointer (some ⟨13,113,none⟩),.pointer (some ⟨a,0,none⟩),.int .u64 150] 152)).alloc (.cells #[.pointer (some e)] 111))
    (by rw [World.cell?_alloc_at _ _ _ _ fi];rfl)
    kl
    ju
 go_enter PV.func83,Tryz.ntmps83;go_wp2;refine wp_loop_rounds 1 ?_;rw [rounds_succ];go_wp2;go_ret;exact ⟨rfl,rfl⟩
def as_hit (e t:Addr) (old:Value) (w:World) (hg:w.cell? ⟨2,0,none⟩=some (.iface 192 (.agg #[.pointer (some ⟨13,49,none⟩)]))) (ht0:w.cell? t=some old) (hf0:w.frozen? t=false):
    Calls PV 39 #[.iface 111 (.pointer (some e)),.iface 113 (.pointer (some t))] w fun ev w'=>ev= .returned (.bool true)∧w'=((((w.alloc (.cells #[.pointer (some t)] 113)).alloc (.cells #[.pointer (some ⟨13,113,none⟩),.pointer (some ⟨w.heap.size,0,none⟩),.int .u64 150] 152)).alloc (.cells #[.pointer (some ⟨13,113,none⟩),.pointer (some ⟨w.heap.size,0,none⟩),.int .u64 150] 152)).alloc (.cells #[.pointer (some e)] 111)).setCell t (.pointer (some e)):=by
 have h80:= @run_callFunc_extern PV 80 _ (fun args=>ReflectliteValue.unpack (args.getD 0 (.tuple #[]))) PV.func80 fd fd fd fd;have h81:= @run_callFunc_extern PV 81 _ (ReflectliteValue.methodAny (ReflectliteValue.valueError "reflectlite.Value.Type" 0) (fun t _ _ _=>ReflectliteType.toType t)) PV.func81 fd fd fd fd;have h82:= @run_callFunc_extern PV 82 _ (ReflectliteValue.method (ReflectliteValue.valueError "reflectlite.Value.IsNil" 0) ReflectliteValue.isNil) PV.func82 fd fd fd fd;have h146:= @run_callFunc_extern PV 146 _ (ReflectliteType.abiMethod fun t=>do pure (.int .u8 (← Rtype.kind t))) PV.func146 fd fd fd fd;have h159:= @run_callFunc_extern PV 159 _ (ReflectliteType.method ReflectliteType.elem) PV.func159 fd fd fd fd;have h160:= @run_callFunc_extern PV 160 _ (ReflectliteType.relation "Implements" ReflectliteType.implements_) PV.func160 fd fd fd fd;have tO:=As.typeOf111;have mA:=As.methodAssignableTo;have a25:=As.assignable111;have v25:=As.valueOf111;have f6:=As.valueOf113;have f7:=As.type113;have mK:=As.methodKind;have mE:=As.methodElem;have mI:=As.methodImplements;have k27:=As.kind113;have k25:=As.kind111;have e27:=As.elem113;have i25:=As.implements111;have n8:=As.isNil113 ⟨w.heap.size,0,none⟩ t ((w.alloc (.cells #[.pointer (some t)] 113)).alloc (.cells #[.pointer (some ⟨13,113,none⟩),.pointer (some ⟨w.heap.size,0,none⟩),.int .u64 150] 152)) fi
 have hlt:2<w.heap.size:=by
    rcases f01 2 w.heap.size with h | h
    · exact h
    · simp [World.cell?,f09 h] at hg
 have hg2:((w.alloc (.cells #[.pointer (some t)] 113)).alloc (.cells #[.pointer (some ⟨13,113,none⟩),.pointer (some ⟨w.heap.size,0,none⟩),.int .u64 150] 152)).cell? ⟨2,0,none⟩=some (.iface 192 (.agg #[.pointer (some ⟨13,49,none⟩)])):=by
    rw [f3a _ _ ⟨2,0,none⟩ ja,f3a _ _ ⟨2,0,none⟩ hlt];exact hg
 have htl:t.block<w.heap.size:=by
    rcases f01 t.block w.heap.size with h | h
    · exact h
    · simp [World.cell?,f09 h] at ht0
 have h83:=fx6 (fvk e t w.heap.size old ((w.alloc (.cells #[.pointer (some t)] 113)).alloc (.cells #[.pointer (some ⟨13,113,none⟩),.pointer (some ⟨w.heap.size,0,none⟩),.int .u64 150] 152)) (by rw [f3a _ _ ⟨w.heap.size,0,none⟩ fi];simp) kl ju);go_enter PV.func39,Tryz.ntmps39;go_wp2_with (first | (go_at_call 83;refine h83.out.mono ?_;rintro e w1 ⟨rfl,rfl⟩));go_ret;exact ⟨rfl,rfl⟩
abbrev ev (a:Addr):Value:= .iface 227 (.pointer (some a))
namespace As
def i49: ∃ m,PV.underlying 49=some (.interface m):=fhj
def u227:PV.underlying 227=some (.pointer 246):=by kernel_rfl
def c227:(PV.info? 227).map (·.comparable)=some true:=by kernel_rfl
def c111:(PV.info? 111).map (·.comparable)=some true:=by kernel_rfl
def s246:(PV.info? 246).map (·.size)=some 1:=by kernel_rfl
def s115:(PV.info? 115).map (·.size)=some 3:=by kernel_rfl
def eql_other (g:Addr) (a:Addr) (w:World):(binOp .eql 49 (.iface 111 (.pointer (some g))) (ev a)).run PV w= .ok (.bool false) w:=by
 obtain ⟨m,hu⟩:=fhj
 have h: ∀ d:Nat,(Op.equalIn (d+1) 49 (.iface 111 (.pointer (some g))) (ev a)).run PV w= .ok false w:=fun d=>by
    simp [Op.equalIn,f1l hu]
 simp only [binOp];simp [Op.equal,Op.maxDepth,h 9999]
def eql_ev {a b:Addr} {w:World} (ha: ∃ c t,w.heap[a.block]? =some (.cells c t (0,0))) (hb: ∃ c t,w.heap[b.block]? =some (.cells c t (0,0))):(binOp .eql 49 (ev a) (ev b)).run PV w= .ok (.bool (decide (a=b))) w:=by
 obtain ⟨m,hu⟩:=fhj;obtain ⟨i,hi,hc⟩:=fy8.1 c227;obtain ⟨j,hj,hs⟩:=fy8.1 s246;by_cases e:a=b
 · subst e;rw [run_eql_iface_ptr_same w a hu u227 hi hc hj];simp
 · obtain ⟨ca,ta,ha⟩:=ha;obtain ⟨cb,tb,hb⟩:=hb;rw [run_eql_iface_ptr_other w hu u227 hi hc hj (by rw [hs];decide) e ha hb];simp [e]
def noIs111 (v:Value) (w:World):(Instr.typeAssert (.iface 111 v) 49 201 true).run PV w= .ok (.tuple #[.nilIface,.bool false]) w:=f5d (P:=PV) (show PV.underlying 201=some _ from Tryz.underlying201) fd fd v 49 w
def has111 (v:Value) (w:World):(Instr.typeAssert (.iface 111 v) 49 199 true).run PV w= .ok (.tuple #[.iface 111 v,.bool true]) w:=run_typeAssert_hasB (P:=PV) (show PV.underlying 199=some _ from Tryz.underlying199) fd v 49 w
def noIs227 (v:Value) (w:World):(Instr.typeAssert (.iface 227 v) 49 201 true).run PV w= .ok (.tuple #[.nilIface,.bool false]) w:=f5d (P:=PV) (show PV.underlying 201=some _ from Tryz.underlying201) fd fd v 49 w
def no199 (v:Value) (w:World):(Instr.typeAssert (.iface 227 v) 49 199 true).run PV w= .ok (.tuple #[.nilIface,.bool false]) w:=f5d (P:=PV) (show PV.underlying 199=some _ from Tryz.underlying199) fd fd v 49 w
def no200 (v:Value) (w:World):(Instr.typeAssert (.iface 227 v) 49 200 true).run PV w= .ok (.tuple #[.nilIface,.bool false]) w:=f5d (P:=PV) (show PV.underlying 200=some _ from Tryz.underlying200) fd fd v 49 w
def mUnwrap (v:Value) (w:World):(Go.method 358 111 v "Unwrap").run PV w= .ok (40,v) w:=by kernel_rfl
def comparable227 (w:World):(ReflectliteType.method (fun t=>do Rtype.noPackHeld "Comparable" t;(fun a=>Value.bool a.comparable) <$> typeInfo t) #[.agg #[.pointer (some ⟨13,227,none⟩)]]).run PV w= .ok (.bool true) w:=by kernel_rfl
end As
section
variable {w:World}
def fgd (g:Nat) (nm:ByteArray) (c:Int) (e:Value) (hB:Bk w g 115 #[.string nm,.int .i64 c,e]):Calls PV 40 #[.pointer (some ⟨g,0,none⟩)] w fun x w'=>x= .returned e∧w'=w:=by
 obtain ⟨c1,d1⟩:=hB.ceF;clear hB;go_enter PV.func40,Tryz.ntmps40;go_wp2;go_ret;exact ⟨rfl,rfl⟩
def is85 (g:Nat) (nm:ByteArray) (c:Int) (a b:Addr) (hB:Bk w g 115 #[.string nm,.int .i64 c,ev a]) (ha: ∃ c t,w.heap[a.block]? =some (.cells c t (0,0))) (hb: ∃ c t,w.heap[b.block]? =some (.cells c t (0,0))):
    Calls PV 85 #[.iface 111 (.pointer (some ⟨g,0,none⟩)),ev b,.bool true] w fun x w'=>x= .returned (.bool (decide (a=b)))∧w'=w:=by
 have h1:=As.eql_other ⟨g,0,none⟩ b w;have h2:=As.eql_ev ha hb;have n1:=As.noIs111;have n2:=As.has111;have n3:=As.noIs227;have n4:=As.no199;have n5:=As.no200;have mU:=As.mUnwrap;have hen:=fun w=>fhk 227 (.pointer (some a)) w;have hU:=fx6 (fgd g nm c (ev a) hB);clear hB ha hb;by_cases e:a=b
 · have e':decide (a=b)=true:=by simpa using e
   rw [e'] at h2 ⊢;clear e e';go_enter PV.func85,Tryz.ntmps85;go_wp2;refine wp_loop_rounds 2 ?_;rw [rounds_succ];go_wp2_with (first | (go_at_call 40;refine hU.out.mono ?_;rintro e w1 ⟨rfl,rfl⟩));rw [rounds_succ];go_wp2;go_ret;exact ⟨rfl,rfl⟩
 · have e':decide (a=b)=false:=by simpa using e
   rw [e'] at h2 ⊢;clear e e';go_enter PV.func85,Tryz.ntmps85;go_wp2;refine wp_loop_rounds 2 ?_;rw [rounds_succ];go_wp2_with (first | (go_at_call 40;refine hU.out.mono ?_;rintro e w1 ⟨rfl,rfl⟩));rw [rounds_succ];go_wp2;go_ret;exact ⟨rfl,rfl⟩
def is_any (g:Nat) (nm:ByteArray) (c:Int) (a b:Addr) (hB:Bk w g 115 #[.string nm,.int .i64 c,ev a]) (ha: ∃ c t,w.heap[a.block]? =some (.cells c t (0,0))) (hb: ∃ c t,w.heap[b.block]? =some (.cells c t (0,0))):
    Calls PV 42 #[.iface 111 (.pointer (some ⟨g,0,none⟩)),ev b] w fun x w'=>x= .returned (.bool (decide (a=b)))∧w'=w:=by
 have h84:= @run_callFunc_extern PV 84 _ ReflectliteType.typeOf PV.func84 fd fd fd fd;have h158:= @run_callFunc_extern PV 158 _ (ReflectliteType.method (fun t=>do Rtype.noPackHeld "Comparable" t;pure (.bool (← typeInfo t).comparable))) PV.func158 fd fd fd fd;have tO:=As.typeOf227;have mC:=As.methodComparable;have c2:=As.comparable227;have h1:=fun w=>fhk 111 (.pointer (some ⟨g,0,none⟩)) w;have h2:=fun w=>fhk 227 (.pointer (some b)) w;have hU:=fx6 (is85 g nm c a b hB ha hb);clear hB ha hb;go_enter PV.func42,Tryz.ntmps42;go_wp2_with (first | (go_at_call 85;refine hU.out.mono ?_;rintro e w1 ⟨rfl,rfl⟩));go_ret;exact ⟨rfl,rfl⟩
end
end Go.Proofs.YtelecjnabeokeaaGreatDoor
namespace Go.Proofs.YtelecjnabeokeaaGreatDoor
open Go Go.RowKit
structure EV (E:Nat→Value) (A:Nat→Addr) (w:World):Prop where
 cell: ∀ i,i<12→w.cell? ⟨i,0,none⟩=some (E i)
 ev: ∀ i,i<12→i≠2→E i=ev (A i)
 ne: ∀ i j,i<12→j<12→i≠2→j≠2→i≠j→A i≠A j
 row: ∀ i,i<12→i≠2→ ∃ c t,w.heap[(A i).block]? =some (.cells c t (0,0))
 ty:E 2= .iface 192 (.agg #[.pointer (some ⟨13,49,none⟩)])
def EV.errs {E:Nat→Value} {A:Nat→Addr} {w:World} (h:EV E A w):Errs E w:=⟨h.cell,fun i hi h2=>⟨_,_,h.ev i hi h2⟩⟩
def EV.ch {E:Nat→Value} {A:Nat→Addr} {w w':World} {K:Nat→Prop} (h:EV E A w) (hC:Ch K w w') (h1: ∀ x,x<12→ ¬ K x) (h2: ∀ i,i<12→i≠2→ ¬ K (A i).block):EV E A w':=
 ⟨fun i hi=>(f0h (a:=⟨i,0,none⟩) (hC.block i (by
  have:=h.cell i hi;rcases f01 i w.heap.size with h' | h'
  · exact h'
  · simp [World.cell?,f09 h'] at this) (h1 i hi))).trans (h.cell i hi),h.ev,h.ne,fun i hi hne=>by
    obtain ⟨c,t,hr⟩:=h.row i hi hne;exact ⟨c,t,(hC.block _ (fx5.1 hr).1 (h2 i hi hne)).trans hr⟩,h.ty⟩
def EV.bl {E:Nat→Value} {A:Nat→Addr} {w w':World} (h:EV E A w) (hb:Bl w w'):EV E A w':=h.ch (K:=fun _=>False) (Ch.ba hb) (fun _ _ h=>h) (fun _ _ _ h=>h)
def EV.size {E:Nat→Value} {A:Nat→Addr} {w:World} (h:EV E A w):12≤w.heap.size:=by
 have:=h.cell 11 fe;rcases f01 11 w.heap.size with h' | h'
 · exact h'
 · simp [World.cell?,f09 h'] at this
def gix (j:Nat):Nat:=[0,3,1,4,5,6,7,8,9,10,11].getD j 0
def feq {j:Nat} (h:j<11):gix j<12∧gix j≠2:=by
 rcases (by omega:j=0∨j=1∨j=2∨j=3∨j=4∨j=5∨j=6∨j=7∨j=8∨j=9∨j=10) with rfl | rfl | rfl | rfl | rfl | rfl | rfl | rfl | rfl | rfl | rfl <;>decide
def gix_inj {i j:Nat} (hi:i<11) (hj:j<11) (e:gix i=gix j):i=j:=by
 rcases (by omega:j=0∨j=1∨j=2∨j=3∨j=4∨j=5∨j=6∨j=7∨j=8∨j=9∨j=10) with rfl | rfl | rfl | rfl | rfl | rfl | rfl | rfl | rfl | rfl | rfl <;>
 rcases (by omega:i=0∨i=1∨i=2∨i=3∨i=4∨i=5∨i=6∨i=7∨i=8∨i=9∨i=10) with rfl | rfl | rfl | rfl | rfl | rfl | rfl | rfl | rfl | rfl | rfl <;>first | rfl | (exfalso;revert e;decide)
def fsz {k:Nat} (h0:2≤k) (h:k≤7):fhf k=gix (k-1):=by
 rcases (by omega:k=2∨k=3∨k=4∨k=5∨k=6∨k=7) with rfl | rfl | rfl | rfl | rfl | rfl <;>rfl
section
variable {E:Nat→Value} {A:Nat→Addr} {w:World}
def all_any (h:EV E A w):Calls PV 41 #[] w fun x w'=>x= .returned (.slice (some ⟨w.heap.size,0,none⟩) 11 11)∧w'=w.alloc (.cells #[E 0,E 3,E 1,E 4,E 5,E 6,E 7,E 8,E 9,E 10,E 11] 49):=by
 have h0:=h.cell 0 fe;have h1:=h.cell 1 fe;have h3:=h.cell 3 fe;have h4:=h.cell 4 fe;have h5:=h.cell 5 fe;have h6:=h.cell 6 fe;have h7:=h.cell 7 fe;have h8:=h.cell 8 fe;have h9:=h.cell 9 fe;have h10:=h.cell 10 fe;have h11:=h.cell 11 fe;rw [h.ev 0 fe fe] at h0 ⊢;rw [h.ev 1 fe fe] at h1 ⊢;rw [h.ev 3 fe fe] at h3 ⊢;rw [h.ev 4 fe fe] at h4 ⊢;rw [h.ev 5 fe fe] at h5 ⊢;rw [h.ev 6 fe fe] at h6 ⊢;rw [h.ev 7 fe fe] at h7 ⊢;rw [h.ev 8 fe fe] at h8 ⊢;rw [h.ev 9 fe fe] at h9 ⊢;rw [h.ev 10 fe fe] at h10 ⊢;rw [h.ev 11 fe fe] at h11 ⊢;clear h;go_enter PV.func41,Tryz.ntmps41;go_wp2;go_ret;exact ⟨rfl,rfl⟩
def fvl (h:EV E A w) {i:Nat} (hi:i<11):(#[E 0,E 3,E 1,E 4,E 5,E 6,E 7,E 8,E 9,E 10,E 11]:Array Value)[i]? =some (ev (A (gix i))):=by
 rw [← h.ev _ (feq hi).1 (feq hi).2];rcases (by omega:i=0∨i=1∨i=2∨i=3∨i=4∨i=5∨i=6∨i=7∨i=8∨i=9∨i=10) with rfl | rfl | rfl | rfl | rfl | rfl | rfl | rfl | rfl | rfl | rfl <;>rfl
def zf {w1 w2:World} {K:Nat→Prop} (h:Bl w w1) (hC:Ch K w1 w2) (hK: ∀ x,K x→w.heap.size≤x):Bl w w2:=by
 have:=(Ch.ba (K:=fun _=>False) h).tr hC (fun x hx=> .inr (hK x hx));exact ⟨this.os,this.tape,this.output,this.size,fun x hx=>this.block x hx (fun h=>h)⟩
def as_bk (h:EV E A w) (g:Nat) {t:Nat} (hT:Bk w t 111 #[.pointer none]):Calls PV 39 #[.iface 111 (.pointer (some ⟨g,0,none⟩)),.iface 113 (.pointer (some ⟨t,0,none⟩))] w fun x w'=>x= .returned (.bool true)∧Bk w' t 111 #[.pointer (some ⟨g,0,none⟩)]∧Ch (fun y=>y=t) w w':=by
 refine (as_hit ⟨g,0,none⟩ ⟨t,0,none⟩ (.pointer none) w (by rw [h.cell 2 fe,h.ty]) (by rw [hT.ce];rfl) (hT.fz 0)).mono ?_;rintro x w' ⟨rfl,rfl⟩;have hb:Bl w ((((w.alloc (.cells #[.pointer (some ⟨t,0,none⟩)] 113)).alloc (.cells #[.pointer (some ⟨13,113,none⟩),.pointer (some ⟨w.heap.size,0,none⟩),.int .u64 150] 152)).alloc (.cells #[.pointer (some ⟨13,113,none⟩),.pointer (some ⟨w.heap.size,0,none⟩),.int .u64 150] 152)).alloc (.cells #[.pointer (some ⟨g,0,none⟩)] 111)):=((((Bl.rf _).al _).al _).al _).al _;exact ⟨rfl,((Bk.bl hb hT).st _).cv fi,(Ch.ba (K:=fun y=>y=t) hb).st (.inl rfl) _⟩
def fni (w:World):Calls PV 19 #[.nilIface] w fun x w'=>x= .returned (.tuple #[.int .i64 0,.string ⟨#[]⟩,.int .i64 0])∧w'=w:=by
 have h:=fun w=>fvg w;go_enter PV.func19,Tryz.ntmps19;go_wp2;refine f0q (v:= .tuple #[.int .i64 0,.string ⟨#[]⟩,.int .i64 0]) (by simp [results,Tryz.results19,go_sem]) rfl ⟨rfl,rfl⟩
end
def flu (g:Addr) (w:World):(binOp .neq 49 (.iface 111 (.pointer (some g))) (.iface 111 (.pointer (some g)))).run PV w= .ok (.bool false) w:=by
 obtain ⟨m,hu⟩:=fhj;obtain ⟨i,hi,hc⟩:=fy8.1 As.c111;obtain ⟨j,hj,hs⟩:=fy8.1 As.s115;simp only [binOp];simp [Op.equal,Op.maxDepth,run_equalIn_iface_ptr_same w 9998 g hu As.u111 hi hc hj]
def flv (g:Addr) (w:World):(binOp .neq 49 (ev g) (ev g)).run PV w= .ok (.bool false) w:=by
 obtain ⟨m,hu⟩:=fhj;obtain ⟨i,hi,hc⟩:=fy8.1 As.c227;obtain ⟨j,hj,hs⟩:=fy8.1 As.s246;simp only [binOp];simp [Op.equal,Op.maxDepth,run_equalIn_iface_ptr_same w 9998 g hu As.u227 hi hc hj]
section
variable {E:Nat→Value} {A:Nat→Addr} {w:World}
def fvm (h:EV E A w) (g:Nat) (nm:ByteArray) (c:Int) {k:Nat} (h2:2≤k) (h7:k≤7) (hB:Bk w g 115 #[.string nm,.int .i64 c,E (fhf k)]):
    Calls PV 19 #[.iface 111 (.pointer (some ⟨g,0,none⟩))] w fun x w'=>x= .returned (.tuple #[.int .i64 (k:Int),.string nm,.int .i64 c])∧Bl w w':=by
 have hk:=feq (j:=k-1) fe;rw [fsz h2 h7,h.ev _ hk.1 hk.2] at hB;have c1:=fun w=>fhk 111 (.pointer (some ⟨g,0,none⟩)) w;have c2:=fun w=>flu ⟨g,0,none⟩ w;have c3:=fun w=>flv (A (gix (k-1))) w;have hgl:=hB.lt;have hT:Bk (w.alloc (.cells #[.pointer none] 111)) w.heap.size 111 #[.pointer none]:=Bk.nw rfl;have hAs:=fx6 (as_bk (h.bl ((Bl.rf _).al (.cells #[.pointer none] 111))) g hT);have hH:=fx6 h;have hBB:=fx6 hB;clear h hB hT;go_enter PV.func19,Tryz.ntmps19;go_wp2_with (first | (go_at_call 39;refine hAs.out.mono ?_;rintro e w1 ⟨rfl,gT,gC⟩;have gW:=zf ((Bl.rf w).al (.cells #[.pointer none] 111)) gC (by rintro x rfl;exact fx8 _)));have gB:=Bk.bl gW hBB.out;have hU:=fx6 (fun (W:World) (hW:W.heap=w1.heap)=>fgd g nm c (ev (A (gix (k-1)))) (w:=W) ⟨by rw [hW];exact gB.at_⟩);obtain ⟨d1,f1⟩:=gT.ceF;obtain ⟨d2,f2⟩:=gB.ceF;have hW:=fx6 gW;have kT:=fx6 gT;have kB:=fx6 gB;clear gT gC gB gW
 go_quiet (fail)
 go_upto_region 7 with fail
 refine vy (F:=fun W=>Bl w1 W∧W.heap=w1.heap) ⟨⟨rfl,rfl,rfl,fx8 _,fun _ _=>rfl⟩,rfl⟩ ?_;clear d1 f1 d2 f2;rintro W ⟨hb,hh⟩;obtain ⟨d1,f1⟩:=(Bk.bl hb kT.out).ceF;obtain ⟨d2,f2⟩:=(Bk.bl hb kB.out).ceF;have hal:=fx6 (fun W (hb:Bl w1 W)=>all_any (hH.out.bl (hW.out.cl hb)));have hU2:=fx6 (fun n=>hU.out (W.drewN n) hh)
 go_quiet ((go_at_call 40;exact Calls.quiet_of_same (hU2.out _)))
 go_wp2_with (first | (go_at_call 41;refine (hal.out _ (by exact ⟨hb.os,hb.tape,hb.output,hb.size,hb.block⟩)).mono ?_;rintro e w2 ⟨rfl,rfl⟩));refine vy (F:=fun W2=>Bl w W2∧Bk W2 w1.heap.size 49 #[E 0,E 3,E 1,E 4,E 5,E 6,E 7,E 8,E 9,E 10,E 11]) ⟨(hW.out.cl hb).cl (by exact ⟨rfl,rfl,rfl,by simp [World.alloc,World.drewN],fun x hx=>f14 _ _ _ hx⟩),Bk.nw (by show W.heap.size=_;rw [hh])⟩ ?_;generalize w1.heap.size=xa;clear d1 f1 d2 f2 hal hU2 hU hb hh kT kB hW hAs;rintro W2 ⟨gW,gA⟩;have gE:=hH.out.bl gW;have gB:=Bk.bl gW hBB.out
 go_loopw [40] (fun iv wr=> ∃ i:Nat,i≤k-1∧iv= .int .i64 (i:Int)∧wr=W2) (fun iv _=>11-(intOf iv).toNat)
 case atStart => exact ⟨0,f1n _,rfl,rfl⟩
 case round=>
    obtain ⟨i,hi,rfl,rfl⟩:=hrel;have hi11:i<11:=by omega
    have hin:(i:Int)<11:=by omega
    have hci:=(gA.ce i).trans (fvl gE hi11);have hIs:=fx6 (is_any g nm c (A (gix (k-1))) (A (gix i)) gB (gE.row _ hk.1 hk.2) (gE.row _ (feq hi11).1 (feq hi11).2));have hw1:IntKind.i64.wrap ((i:Int)+1)=(i:Int)+1:=f0t _ fe;have hE:=fx6 gE;clear gE gB gA;by_cases e:i=k-1
    · have hd:decide (A (gix (k-1))=A (gix i))=true:=by rw [e];simp
      rw [hd] at hIs;have hki:=fx6 (show (i:Int)+1=(k:Int) by omega);clear hd e;go_wp2_with (first | (go_at_call 42;refine hIs.out.mono ?_;rintro e w2 ⟨rfl,rfl⟩));try simp only [Exit.inBlock,Exit.then]
      refine f0q (v:= .tuple #[.int .i64 ((i:Int)+1),.string nm,.int .i64 c]) (by simp [results,Tryz.results19,go_sem]) rfl ⟨?_,gW⟩;rw [hki.out]
    · have hd:decide (A (gix (k-1))=A (gix i))=false:=by
        simp only [f1u];exact hE.out.ne _ _ hk.1 (feq hi11).1 hk.2 (feq hi11).2 (fun h=>e (gix_inj hi11 fe h.symm))
      rw [hd] at hIs;clear hd;go_wp2_with (first | (go_at_call 42;refine hIs.out.mono ?_;rintro e w2 ⟨rfl,rfl⟩))
      go_roundw
      case rel => exact ⟨i+1,by omega,by simp,trivial⟩
      case measure => simp [intOf];omega
end
section
variable {E:Nat→Value} {A:Nat→Addr} {w:World}
def ly (nm:ByteArray) (c:Int) (w:World):Calls PV 20 #[.nilIface,.string nm,.int .i64 c] w fun x w'=>x= .returned (.int .i64 0)∧w'=w:=by
 have hC:=fun w=>fni w;have hCC:=fx6 hC;clear hC;go_enter PV.func20,Tryz.ntmps20;go_wp2_with (first | (go_at_call 19;refine (hCC.out _).mono ?_;rintro e w1 ⟨rfl,rfl⟩));go_ret;exact ⟨rfl,rfl⟩
def lz (h:EV E A w) (g:Nat) (nm:ByteArray) (c:Int) {k:Nat} (h2:2≤k) (h7:k≤7) (hB:Bk w g 115 #[.string nm,.int .i64 c,E (fhf k)]):
    Calls PV 20 #[.iface 111 (.pointer (some ⟨g,0,none⟩)),.string nm,.int .i64 c] w fun x w'=>x= .returned (.int .i64 (k:Int))∧Bl w w':=by
 have hC:=fx6 (fvm h g nm c h2 h7 hB);have b1:(0:Int)<(k:Int):=by omega
 have b2:(k:Int)<12:=by omega
 clear h hB;go_enter PV.func20,Tryz.ntmps20;go_wp2_with (first | (go_at_call 19;refine hC.out.mono ?_;rintro e w1 ⟨rfl,gb⟩));go_ret;exact ⟨rfl,gb⟩
end
structure Live (L:Lay) (E:Nat→Value) (A:Nat→Addr) (S:Plain.Ses) (ow:Nat→Nat) (w:World):Prop where
 mem: ∃ V,Mem L V S 0 ow w
 marks:Marks L S.n w
 ev:EV E A w
 good:Plain.Good S
 bnd:Plain.Bnd S
 low: ∀ i,i<12→i≠2→ow (A i).block=0
section
variable {L:Lay} {V V':Vals} {S S':Plain.Ses} {ow ow':Nat→Nat} {w w':World} {E:Nat→Value} {A:Nat→Addr}
def Live.to (h:Live L E A S ow w) (hM:Mem L V' S' 0 ow' w') (hm:Marks L S'.n w') (hE:Ey ow ow' w w') (hG:Plain.Good S') (hB:Plain.Bnd S'):Live L E A S' ow' w':=by
 obtain ⟨V,hM0⟩:=h.mem;refine ⟨⟨V',hM⟩,hm,h.ev.ch hE.ch (fun x hx hn=>hn (hM0.tag.lo x hx)) (fun i hi h2 hn=>hn (h.low i hi h2)),hG,hB,fun i hi h2=> ?_⟩;obtain ⟨c,t,hr⟩:=h.ev.row i hi h2;exact (hE.own _ (fx5.1 hr).1).trans (h.low i hi h2)
def Live.bl (h:Live L E A S ow w) (hb:Bl w w'):Live L E A S ow w':=by
 obtain ⟨V,hM0⟩:=h.mem;exact h.to (hM0.bl hb) (h.marks.bl hb) (Ey.bl hb) h.good h.bnd
def ou {S:Plain.Ses} {c:Nat} {k pos r:Int}:(Plain.change S c k pos r).1=0∨2≤(Plain.change S c k pos r).1:=by
 unfold Plain.change;repeat' split
 all_goals first | exact .inl rfl | exact .inr fi
def m5 {S:Plain.Ses} {k c pos r:Int}:(Plain.call S k c pos r).1≤7∧((Plain.call S k c pos r).1=0∨2≤(Plain.call S k c pos r).1):=by
 unfold Plain.call;split
 · simp
 split
 · split
   · exact ⟨e9,ou⟩
   · simp
 split
 · exact ⟨e9,ou⟩
 split
 · exact ⟨e9,ou⟩
 split
 · refine ⟨fng,?_⟩;unfold Plain.serve;split
   · simp
   · split <;>simp
 · refine ⟨fwb,?_⟩;unfold Plain.get;split <;>simp
def fvn (h:Live L E A S ow w) (k c pos r:Int) (h1:1≤k) (h5:k≤5):
    Calls PV 9 #[.pointer (some ⟨L.b,0,none⟩),.int .i64 k,.int .i64 c,.int .i64 pos,.int .i64 r] w fun x w'=>x= .returned (.int .i64 ((Plain.call S k c pos (IntKind.i32.wrap r)).1:Int))∧ ∃ ow',Live L E A (Plain.call S k c pos (IntKind.i32.wrap r)).2 ow' w'∧Ey ow ow' w w':=by
 obtain ⟨V,hM⟩:=h.mem;have hG:=fx6 (Plain.call_good h.good (k:=k) (c:=c) (pos:=pos) (r:=IntKind.i32.wrap r));have hB:=fx6 (Plain.call_bnd h.good h.bnd (k:=k) (c:=c) (pos:=pos) (r:=IntKind.i32.wrap r));have hcc:=m5 (S:=S) (k:=k) (c:=c) (pos:=pos) (r:=IntKind.i32.wrap r);generalize hR:Plain.call S k c pos (IntKind.i32.wrap r)=R at*;rcases (by omega:k=1∨k=2∨k=3∨k=4∨k=5) with rfl | rfl | rfl | rfl | rfl;(have hI:=fp3 hM h.marks h.good h.bnd h.ev.errs c pos (IntKind.i32.wrap r));rotate_left
 (have hI:=fp4 hM h.marks h.good h.bnd h.ev.errs c pos (IntKind.i32.wrap r));rotate_left
 (have hI:=fvh hM h.marks h.good h.bnd h.ev.errs c pos (IntKind.i32.wrap r));rotate_left
 (have hI:=up_any hM h.marks h.good h.bnd h.ev.errs c pos (IntKind.i32.wrap r));rotate_left
 (have hI:=fvi hM h.marks h.good h.bnd h.ev.errs c pos (IntKind.i32.wrap r));rotate_left
 all_goals
    rw [hR] at hI;replace hI:=fx6 hI;clear hR;obtain ⟨hc7,hc2⟩:=hcc;have hL:=fx6 h;clear h hM;have wr32:wrap32 r=IntKind.i32.wrap r:=by rw [f5h];unfold wrap32;omega
    go_enter PV.func9,Tryz.ntmps9;go_wp2_with (first | ((first | go_at_call 21 | go_at_call 22 | go_at_call 23 | go_at_call 24);(try rw [wr32]);refine hI.out.mono ?_;rintro e w1 gD;obtain ⟨V',ow',g1,g2,g3,g4⟩:=gD.out;have gL:=fx6 (hL.out.to g1 g2 g3 hG.out hB.out);rcases g4 with ⟨g5,rfl⟩ | ⟨g5,g,rfl,g6,g7⟩;(have gN:=fx6 (fun nm=>ly nm c w1));rotate_left;(have gN:=fx6 (lz gL.out.ev g _ _ fe hc7 g6));rotate_left;all_goals (replace g1:=fx6 g1;replace g2:=fx6 g2;replace g3:=fx6 g3)) | (go_at_call 20;refine (gN.out _).mono ?_;rintro e w2 ⟨rfl,rfl⟩) | (go_at_call 20;refine gN.out.mono ?_;rintro e w2 ⟨rfl,gb⟩))
    · go_ret;exact ⟨by rw [g5];rfl,ow',gL.out,g3.out⟩
    · go_ret;exact ⟨rfl,ow',gL.out.bl gb,g3.out.tr (Ey.bl gb)⟩
end
def txV (V:Vals) (n:Nat) (c:Int):Value:=if c= -1 then V.st else if 0≤c∧c<n then V.tv c.toNat else .slice none 0 0
def Plain.textOf (S:Plain.Ses) (c:Int):List Plain.El:=if c= -1 then S.text else if 0≤c∧c<S.n then (S.cl c.toNat).text else []
section
variable {L:Lay} {V:Vals} {S:Plain.Ses} {ow ow':Nat→Nat} {w w':World} {E:Nat→Value} {A:Nat→Addr}
def Mem.textAt {m:Int} (h:Mem L V S m ow w) (c:Int):Txt w (txV V S.n c) (Plain.textOf S c):=by
 unfold txV Plain.textOf;split
 · exact h.st
 split
 · rename_i h1 h2;exact h.tx _ fe
 · exact Txt.nil w
def zc (h:Mem L V S 1 ow w) (u:FrameMode):CallsD PV 26 #[.pointer (some ⟨L.b,0,none⟩)] u w fun x u' w'=>u'=u∧(x= .returned (.tuple #[])∧(∃ ow',Mem L V S 0 ow' w')∧Ch (fun y=>y=L.b) w w'):=by
 refine (fne u h.base h.bb kh rfl).mono ?_;rintro x u' w' ⟨rfl,rfl,rfl⟩;obtain ⟨ow',h1,h2,h3⟩:=fhl h 0;exact ⟨rfl,rfl,⟨ow',h1⟩,h3⟩
def aq {ow4:Nat→Nat} {w4:World} (h:Mem L V S 0 ow w) (h4:Mem L V S 0 ow4 w4) (hC:Ch (fun x=>x=L.b) w w4):Bl w w4:=
 ⟨hC.os,hC.tape,hC.output,hC.size,fun x hx=>by
    by_cases e:x=L.b
    · subst e;rw [h4.bb.at_,h.bb.at_]
    · exact hC.block x hx e⟩
def fnl (h:Mem L V S 0 ow w) (hM:Marks L S.n w) (hE:Errs E w) (hn1:1≤S.n) (hn6:S.n≤6) (c:Int):
    Calls PV 60 #[.pointer (some ⟨L.b,0,none⟩),.int .i64 c] w fun x w'=>x= .returned (txV V S.n c)∧Bl w w':=by
 obtain ⟨ab,cap,ecls,_⟩:=h.cls_ hn1;have hLk:=fx6 (gl h hM hE);have hh:=fx6 h;clear h hM hE;by_cases hc:c= -1
 · subst hc
   go_enter_defers PV.func60,Tryz.ntmps60
   go_wp2_with (first | (go_at_call 25;refine hLk.out.mono ?_;rintro e w1 ⟨rfl,ow1,g1⟩;obtain ⟨cB,dB⟩:=g1.mem.bb.ceF;simp only [sesC,ecls] at cB;obtain ⟨cS,dS⟩:=g1.mem.ss.ceF;replace g1:=fx6 g1));refine f1p (f:=26) (args:= #[.pointer (some ⟨L.b,0,none⟩)]) fi jg ?_;refine (zc g1.out.mem .returning).mono ?_;rintro e u' w4 ⟨rfl,rfl,⟨ow4,gM4⟩,gC4⟩;exact ⟨_,f0x rfl _ _ _,by simp [txV],aq hh.out gM4 (g1.out.ch.tr gC4 (fun x hx=> .inl hx))⟩
 by_cases hr:0≤c∧c<(S.n:Int)
 · obtain ⟨i,rfl⟩: ∃ i:Nat,c=i:=⟨c.toNat,by omega⟩;have hi:i<S.n:=by omega
   have hin:(i:Int)<(S.n:Int):=by omega
   have hz:((i:Int)== -1)=false:=by simp
   have hge:(0:Int)≤(i:Int):=by omega
   have e:txV V S.n i=V.tv i:=by unfold txV;rw [fx9 hc,f02 hr];simp
   rw [e];clear e hr hc
   go_enter_defers PV.func60,Tryz.ntmps60
   go_wp2_with (first | (go_at_call 25;refine hLk.out.mono ?_;rintro e w1 ⟨rfl,ow1,g1⟩;obtain ⟨cB,dB⟩:=g1.mem.bb.ceF;simp only [sesC,ecls] at cB;obtain ⟨cK,dK⟩:=(g1.mem.kk i hi).ceF;have hci:=g1.mem.cls_at ecls i hi;replace g1:=fx6 g1));refine f1p (f:=26) (args:= #[.pointer (some ⟨L.b,0,none⟩)]) fi jg ?_;refine (zc g1.out.mem .returning).mono ?_;rintro e u' w4 ⟨rfl,rfl,⟨ow4,gM4⟩,gC4⟩;exact ⟨_,f0x rfl _ _ _,rfl,aq hh.out gM4 (g1.out.ch.tr gC4 (fun x hx=> .inl hx))⟩
 · have e:txV V S.n c= .slice none 0 0:=by unfold txV;rw [fx9 hc,fx9 hr]
   rw [e];clear e;have hz:(c== -1)=false:=by simpa using hc
   by_cases h0:0≤c
   · have h1:(S.n:Int)≤c:=by omega
     clear hr hc
     go_enter_defers PV.func60,Tryz.ntmps60
     go_wp2_with (first | (go_at_call 25;refine hLk.out.mono ?_;rintro e w1 ⟨rfl,ow1,g1⟩;obtain ⟨cB,dB⟩:=g1.mem.bb.ceF;simp only [sesC,ecls] at cB;replace g1:=fx6 g1));refine f1p (f:=26) (args:= #[.pointer (some ⟨L.b,0,none⟩)]) fi jg ?_;refine (zc g1.out.mem .returning).mono ?_;rintro e u' w4 ⟨rfl,rfl,⟨ow4,gM4⟩,gC4⟩;exact ⟨_,f0x rfl _ _ _,rfl,aq hh.out gM4 (g1.out.ch.tr gC4 (fun x hx=> .inl hx))⟩
   · have h1:c<0:=by omega
     clear hr hc
     go_enter_defers PV.func60,Tryz.ntmps60
     go_wp2_with (first | (go_at_call 25;refine hLk.out.mono ?_;rintro e w1 ⟨rfl,ow1,g1⟩;obtain ⟨cB,dB⟩:=g1.mem.bb.ceF;simp only [sesC,ecls] at cB;replace g1:=fx6 g1));refine f1p (f:=26) (args:= #[.pointer (some ⟨L.b,0,none⟩)]) fi jg ?_;refine (zc g1.out.mem .returning).mono ?_;rintro e u' w4 ⟨rfl,rfl,⟨ow4,gM4⟩,gC4⟩;exact ⟨_,f0x rfl _ _ _,rfl,aq hh.out gM4 (g1.out.ch.tr gC4 (fun x hx=> .inl hx))⟩
end
def PV.func102:PV.funcs[102]? =some Tryz.f102:=pf Tryz.func102
@[go_sem] def PV.call102:=fun x w=>pc PV.func102 x w
def PV.func103:PV.funcs[103]? =some Tryz.f103:=pf Tryz.func103
@[go_sem] def PV.call103:=fun x w=>pc PV.func103 x w
def PV.func125:PV.funcs[125]? =some Tryz.f125:=pf Tryz.func125
@[go_sem] def PV.call125:=fun x w=>pc PV.func125 x w
section
variable {L:Lay} {V:Vals} {S:Plain.Ses} {m:Int} {ow ow':Nat→Nat} {w w':World} {E:Nat→Value} {i:Nat}
def f67 (h:Mem L V S 0 ow w) (hM:Marks L S.n w) (hE:Errs E w) (hn1:1≤S.n) (hn6:S.n≤6) (hi:i<S.n):
    Calls PV 29 #[.pointer (some ⟨L.b,0,none⟩),.int .i64 (i:Int)] w fun x w'=>x= .returned (.int .i64 (S.cl i).cur)∧Bl w w':=by
 obtain ⟨ab,cap,ecls,_⟩:=h.cls_ hn1;have hLk:=fx6 (gl h hM hE);have hh:=fx6 h;clear h hM hE;have hin:(i:Int)<(S.n:Int):=by omega
 have hnl: ¬ (i:Int)<0:=by omega
 go_enter_defers PV.func29,Tryz.ntmps29
 go_wp2_with (first | (go_at_call 25;refine hLk.out.mono ?_;rintro e w1 ⟨rfl,ow1,g1⟩;obtain ⟨cB,dB⟩:=g1.mem.bb.ceF;simp only [sesC,ecls] at cB;obtain ⟨cK,dK⟩:=(g1.mem.kk i hi).ceF;have hci:=g1.mem.cls_at ecls i hi;replace g1:=fx6 g1));refine f1p (f:=26) (args:= #[.pointer (some ⟨L.b,0,none⟩)]) fi jg ?_;refine (zc g1.out.mem .returning).mono ?_;rintro e u' w4 ⟨rfl,rfl,⟨ow4,gM4⟩,gC4⟩;exact ⟨_,f0x rfl _ _ _,rfl,aq hh.out gM4 (g1.out.ch.tr gC4 (fun x hx=> .inl hx))⟩
def f64 (h:Mem L V S m ow w) (hn1:1≤S.n) (hn6:S.n≤6) (hi:i<S.n) (up:Bool):
    Calls PV 102 #[.pointer (some ⟨L.b,0,none⟩),.int .i64 (i:Int),.bool up] w fun x w'=>x= .returned (.pointer (some ⟨if up then L.ul i else L.dl i,0,none⟩))∧w'=w:=by
 obtain ⟨ab,cap,ecls,_⟩:=h.cls_ hn1;have hin:(i:Int)<(S.n:Int):=by omega
 have hnl: ¬ (i:Int)<0:=by omega
 obtain ⟨cB,dB⟩:=h.bb.ceF;simp only [sesC,ecls] at cB;obtain ⟨cK,dK⟩:=(h.kk i hi).ceF;have hci:=h.cls_at ecls i hi;clear h;cases up <;>(go_enter PV.func102,Tryz.ntmps102;go_wp2;go_ret;exact ⟨rfl,rfl⟩)
def f5o (h:Mem L V S 0 ow w) (hM:Marks L S.n w) (hE:Errs E w) (hn1:1≤S.n) (hn6:S.n≤6) (hi:i<S.n) (hU:(S.cl i).up.length≤1000) (hD:(S.cl i).down.length≤1000):
    Calls PV 73 #[.pointer (some ⟨L.b,0,none⟩),.int .i64 (i:Int)] w fun x w'=>x= .returned (.tuple #[.int .i64 ((S.cl i).up.length:Int),.int .i64 ((S.cl i).down.length:Int)])∧Bl w w':=by
 have hLk:=fx6 (gl h hM hE);have hh:=fx6 h;clear h hM hE
 go_enter_defers PV.func73,Tryz.ntmps73
 go_wp2_with (first | (go_at_call 25;refine hLk.out.mono ?_;rintro e w1 ⟨rfl,ow1,g1⟩;have l1:=fx6 (f64 g1.mem hn1 hn6 hi true);have l2:=fx6 (f64 g1.mem hn1 hn6 hi false);have n1:=fx6 (flo _ _ _ _ _ (g1.mem.up i hi) hU);have n2:=fx6 (flo _ _ _ _ _ (g1.mem.dn i hi) hD);replace g1:=fx6 g1) | (go_at_call 102;first | (refine l1.out.mono ?_;rintro e w2 ⟨rfl,rfl⟩) | (refine l2.out.mono ?_;rintro e w2 ⟨rfl,rfl⟩)) | (go_at_call 92;first | (refine n1.out.mono ?_;rintro e w2 ⟨rfl,rfl⟩) | (refine n2.out.mono ?_;rintro e w2 ⟨rfl,rfl⟩)));refine f1p (f:=26) (args:= #[.pointer (some ⟨L.b,0,none⟩)]) fi jg ?_;refine (zc g1.out.mem .returning).mono ?_;rintro e u' w4 ⟨rfl,rfl,⟨ow4,gM4⟩,gC4⟩;exact ⟨_,by simp [results,Tryz.results73,go_sem],rfl,aq hh.out gM4 (g1.out.ch.tr gC4 (fun x hx=> .inl hx))⟩
end
open Go.Conc Go.Conc.Lib Go.ConcR.Gen
section
variable {main:Bool} {H:Hide} {Shun:Loc→Prop} {Φ:Goroutine→World→Nat→Prop} {w:World}
def fwm {P:Program} {K:World→Prop} {E:Event→Prop} {g:Goroutine} {d:Nat} (hK: ∀ t,K (w.at t)) (hE: ∀ e,E e→EvP H Shun w.heap.size e) (h:WKE P main K E (fun g d=>OG P main H Shun Φ g w d) g d):OG P main H Shun Φ g w d:=by
 obtain ⟨n,h⟩:=h
 induction n generalizing g d with
 | zero=>exact h
 | succ n ih=>
   rcases h with h | ⟨h1,g',es,h2,h3,h4⟩
   · exact h
   · exact ll h1 (fun t=>h3 _ (hK t)) ⟨fx8 _,fun _ _=>rfl,fun e he=>hE e (h2 e he)⟩ (ih h4)
def fuh {n:Nat} {e:Event} (he:e.mute=true):EvP H Shun n e:=by
 obtain ⟨l,wr,sy⟩:=e;cases l with
 | mark m=>
   cases m with
   | disable=>exact ⟨fun t ht a ha=>pg,by cases wr <;>cases sy <;>trivial⟩
   | enable=>exact ⟨fun t ht a ha=>pg,by cases wr <;>cases sy <;>trivial⟩
   | _=>simp [Event.mute] at he
 | _=>simp [Event.mute] at he
variable {b:Nat} {b₀:Frame} {a₀:Act} {k₀:List Item} {cs:List Frame} {ops₀:Array Oper} {i₀:Nat} {rest₀:List Nat}
def AddE (b:Nat) (e:Event):Prop:=e.mute=true∨e=⟨.mark (.read (smC b)),false,true⟩
def og_add1 {c:Array Value} {e:TypeId} {m:Nat} {y:Int} {cd:Code} (hH:H b=none) (hb:w.heap[b]? =some (.cells c e (0,0))) (hsz:c.size=8) (h6:c[6]? =some (.int .u64 ((m:Nat)*K32))) (h7:c[7]? =some (.int .u32 y)) (hm:m<1000) (hcd:Tryz.f77.body=some cd)
    (h:OG Tryz.prog main H Shun Φ (G (b₀.at (a₀.put ((ops₀[i₀]?).bind (·.dst)) (.tuple #[])) (.inRegion ops₀ rest₀::k₀)) cs) (w.setCell (stC b) (.int .u64 ((m+1:Nat)*K32))) 0):
    OG Tryz.prog main H Shun Φ (G ((base 77).at ⟨#[.pointer (some (stC b)),.int .i64 1]++Array.replicate 115 undef,[]⟩ [.code cd]) (b₀.at a₀ (.inRegion ops₀ (i₀::rest₀)::k₀)::cs)) w 0:=by
 obtain rfl:_=cd:=fy7 hcd;have hlt:b<w.heap.size:=(fx5.1 hb).1;have hst:w.cell? (stC b)=some (.int .u64 ((m:Nat)*K32)):=by simp only [World.cell?,hb];simpa using h6
 have hz:w.frozen? (stC b)=false:=by simp [World.frozen?,hb]
 have eS:IntKind.u64.wrap ((m:Nat)*K32+4294967296)=((m+1:Nat):Int)*K32:=by rw [IntKind.wrap_u64];show (((m:Nat):Int)*4294967296+4294967296)%18446744073709551616=((m+1:Nat):Int)*4294967296;omega
 have hsm1:(w.setCell (stC b) (.int .u64 ((m+1:Nat)*K32))).cell? (smC b)=some (.int .u32 y):=by
    simp [World.setCell,World.cell?,fy6,hb,fy1,h7]
 have hE: ∀ (w:World),b<w.heap.size→ ∀ e,AddE b e→EvP H Shun w.heap.size e:=fun w hlt e he=>by
    rcases he with he | rfl
    · exact fuh he
    · exact ⟨fun t ht a ha=>(by simp [MemAct.ofEvent,MemAct.touch?] at ht;subst ht;cases ha;exact .inl hH),hlt⟩
 obtain ⟨s1,s2⟩:=ai (w:=w) (p:=stC b) hH (.int .u64 ((m+1:Nat)*K32));have hlt2:b<(w.setCell (stC b) (.int .u64 ((m+1:Nat)*K32))).heap.size:=f0f hlt s1;walk_nrm;refine fwm (K:=fun u=> ∃ t,u=w.at t) (E:=AddE b) (fun t=>⟨t,rfl⟩) (hE w hlt) ?_;refine wq ?_;refine wt ?_;refine wq ?_;refine wq ?_;refine wr ?_;simp only [szs];refine wv (.int .i64 1) ?_;walk_nrm;refine wv (.bool false) ?_;walk_nrm;refine we ?_;refine wf ?_;refine ws ?_;refine wq ?_;refine wr ?_;simp only [szs];refine i8 .disable fi (.inl rfl) rfl rfl gh rfl wgLib.f_disable (x_disable_n Lw) (x_disable_b Lw) (x_disable_x Lw) (x_disable_f Lw) ?_;walk_nrm;refine we ?_;refine wr ?_;simp only [szs];refine fmj rfl rfl gh rfl ?_;walk_nrm;refine we ?_;refine wq ?_;refine wr ?_;simp only [szs];refine wv (.bool false) ?_;walk_nrm;refine we ?_;refine wq ?_;refine wq ?_;refine wr ?_;simp only [szs];refine fqk (.bool false) rfl rfl gh rfl wgLib.f_inBubble (x_inBubble_n Lw) (x_inBubble_b Lw) (x_inBubble_x Lw) (x_inBubble_f Lw) ?_;walk_nrm;refine we ?_;refine wf ?_;refine ws ?_;refine wq ?_;refine wr ?_;simp only [szs];refine wv (.pointer (some (stC b))) ?_;walk_nrm;refine wv (.pointer (some (stC b))) ?_;walk_nrm;refine wv (.pointer (some (stC b))) ?_;walk_nrm;refine wv (.int .i64 1) ?_;walk_nrm;refine ww (.int .u64 1) rfl rfl gh (fun _ _=>by go_simp;try decide) (fun _ _=>by simp [go_sem]) ?_;walk_nrm;refine ww (.int .u64 4294967296) rfl rfl gh (fun _ _=>by go_simp;try decide) (fun _ _=>by simp [go_sem]) ?_;walk_nrm;refine i7 rfl rfl gh rfl Tryz.func109 fd rfl ?_;simp only [show Tryz.f109.ntmps=10 from rfl];walk_nrm;refine wq ?_;refine wr ?_;simp only [szs];refine wv (.int .u64 0) ?_;walk_nrm;refine we ?_;refine wq ?_;refine wr ?_;simp only [szs];refine wv (.pointer (some (stC b))) ?_;walk_nrm;refine wv (.pointer (some (stC b))) ?_;walk_nrm;refine wv (.pointer (some (stC b))) ?_;walk_nrm;refine wv (.int .u64 4294967296) ?_;walk_nrm;obtain ⟨S,hS⟩: ∃ S:Int,S=((m+1:Nat):Int)*K32:=⟨_,rfl⟩;rw [← hS] at eS h hsm1 hlt2 s1 s2;refine ug ?_;show OG Tryz.prog main H Shun Φ _ _ _
 refine ll (w1:=w.setCell (stC b) (.int .u64 S)) (es:= #[rdE (stC b),wrE (stC b)]) rfl (fun t=>(stepG_add_atomic (w:=w.at t) (v:=(m:Nat)*K32) (d:=4294967296) rfl rfl gh rfl wgLib.f_addU64 (x_addU64_n Lw) (x_addU64_b Lw) (x_addU64_x Lw) .u64 (x_addU64_f Lw) rfl rfl (show (w.at t).cell? (stC b)=_ from hst) (show (w.at t).frozen? (stC b)=false from hz)).trans (by rw [eS];rfl))
    ⟨s1,s2,fun e he=>(by simp at he;rcases he with rfl | rfl <;>exact xh hH hlt2 _ _)⟩ ?_
 have a1:S / 4294967296=((m+1:Nat):Int):=by rw [hS];show ((m+1:Nat):Int)*4294967296 / _=_;omega
 have a2:0≤S∧S<9223372036854775808:=by rw [hS];show 0≤((m+1:Nat):Int)*4294967296∧((m+1:Nat):Int)*4294967296<_;omega
 have b1:bits .and .u64 S 2147483648=0:=by rw [hS,show ((m+1:Nat):Int)*K32=((m+1:Nat):Int)*4294967296+((0:Nat):Int) from (Int.add_zero _).symm];exact Go.ConcN.st_flag (m+1) 0 fe fe
 have b2:bits .and .u64 S 2147483647=0:=by rw [hS,show ((m+1:Nat):Int)*K32=((m+1:Nat):Int)*4294967296+((0:Nat):Int) from (Int.add_zero _).symm];exact Go.ConcN.st_waiters (m+1) 0 fe fe
 clear eS hst;refine fwm (K:=fun u=> ∃ t,u=(w.setCell (stC b) (.int .u64 S)).at t) (E:=AddE b) (fun t=>⟨t,rfl⟩) (hE _ hlt2) ?_;rcases Nat.eq_zero_or_pos m with rfl | hmp
 · obtain rfl:S=4294967296:=by rw [hS];decide
   clear hS a1 a2 b1 b2;walk_nrm;refine wv (.int .u64 4294967296) ?_;walk_nrm;refine we ?_;refine ri rfl (fun _=>f1w) ?_;refine vw (t:=4) rfl rfl Tryz.func109 rfl ?_;walk_nrm;refine wv (.int .u64 4294967296) ?_;walk_nrm;refine we ?_;refine wq ?_;refine wq ?_;refine wr ?_;simp only [szs];refine wv (.int .u64 4294967296) ?_;walk_nrm;refine wu (.int .u64 0) ?_;walk_nrm;refine wu (.bool false) ?_;walk_nrm;refine wv (.bool false) ?_;walk_nrm;refine wz ?_;walk_nrm;refine wz ?_;walk_nrm;refine wv (.bool false) ?_;walk_nrm;refine we ?_;refine wf ?_;refine ws ?_;refine wq ?_;refine wr ?_;simp only [szs];refine wv (.int .u64 4294967296) ?_;walk_nrm;refine wu (.int .u64 1) ?_;walk_nrm;refine wu (.int .i32 1) ?_;walk_nrm;refine wv (.int .i32 1) ?_;walk_nrm;refine we ?_;refine wq ?_;refine wr ?_;simp only [szs];refine wv (.int .u64 4294967296) ?_;walk_nrm;refine wu (.int .u64 0) ?_;walk_nrm;refine wu (.int .u32 0) ?_;walk_nrm;refine wv (.int .u32 0) ?_;walk_nrm;refine we ?_;refine wq ?_;refine wq ?_;refine wr ?_;simp only [szs];refine wv (.bool true) ?_;walk_nrm;refine wv (.int .i64 1) ?_;walk_nrm;refine wv (.bool true) ?_;walk_nrm;refine wv (.bool true) ?_;walk_nrm;refine wv (.bool true) ?_;walk_nrm;refine wv (.int .i32 1) ?_;walk_nrm;refine wv (.int .i64 1) ?_;walk_nrm;refine ww (.int .i32 1) rfl rfl gh (fun _ _=>by go_simp;try decide) (fun _ _=>by simp [go_sem]) ?_;walk_nrm;refine wu (.bool true) ?_;walk_nrm;refine wv (.bool true) ?_;walk_nrm;refine we ?_;refine wt ?_;refine wr ?_;simp only [szs];refine wv (.pointer (some (stC b))) ?_;walk_nrm;refine wv (.pointer (some (stC b))) ?_;walk_nrm;refine wv (.pointer (some (smC b))) ?_;walk_nrm;refine faq (p:=smC b) rfl rfl Tryz.underlying136 wgLib.room_tU32 (fun u hu=> ?_) rfl rfl gh ?_
   · obtain ⟨t,rfl⟩:=hu;exact ⟨_,hsm1⟩
   walk_nrm;refine fe4 ⟨.mark (.read (smC b)),false,true⟩ (.inr rfl) rfl (fun u _=>f4t .read fi rfl rfl gh rfl wgLib.f_raceRead (x_raceRead_n Lw) (x_raceRead_b Lw) (x_raceRead_x Lw) (x_raceRead_f Lw) (ad:=smC b) jh) ?_;walk_nrm;refine we ?_;refine wq ?_;refine wq ?_;refine wr ?_;simp only [szs];refine wv (.int .i32 1) ?_;walk_nrm;refine wu (.bool false) ?_;walk_nrm;refine we ?_;refine wf ?_;refine ws ?_;refine wq ?_;refine wq ?_;refine wr ?_;simp only [szs];refine wv (.int .u32 0) ?_;walk_nrm;refine wv (.bool false) ?_;walk_nrm;refine wv (.bool false) ?_;walk_nrm;refine wz ?_;walk_nrm;refine wz ?_;walk_nrm;refine wv (.bool false) ?_;walk_nrm;refine wv (.bool false) ?_;walk_nrm;refine wz ?_;walk_nrm;refine wz ?_;walk_nrm;refine wz ?_;walk_nrm;refine wz ?_;walk_nrm;refine wv (.bool false) ?_;walk_nrm;refine we ?_;refine wf ?_;refine ws ?_;refine wq ?_;refine wq ?_;refine wr ?_;simp only [szs];refine wv (.int .i32 1) ?_;walk_nrm;refine wu (.bool true) ?_;walk_nrm;refine wv (.bool true) ?_;walk_nrm;refine wz ?_;walk_nrm;refine wz ?_;walk_nrm;refine wv (.bool true) ?_;walk_nrm;refine we ?_;refine wt ?_;refine ri rfl (fun _=>f1w) ?_;refine dm .enable (.inl rfl) fi rfl wgLib.f_enable (x_enable_n Lw) (x_enable_b Lw) (x_enable_x Lw) (x_enable_f Lw) ?_;refine yo rfl rfl Tryz.func77 rfl ?_;walk_nrm;exact ug h
 · clear hS;obtain ⟨V,hV⟩: ∃ V:Int,V=((m+1:Nat):Int):=⟨_,rfl⟩;rw [← hV] at a1;have hV2:2≤V∧V<2000:=by omega
   clear hV;walk_nrm;refine wv (.int .u64 S) ?_;walk_nrm;refine we ?_;refine ri rfl (fun _=>f1w) ?_;refine vw (t:=4) rfl rfl Tryz.func109 rfl ?_;walk_nrm;refine wv (.int .u64 S) ?_;walk_nrm;refine we ?_;refine wq ?_;refine wq ?_;refine wr ?_;simp only [szs];refine wv (.int .u64 S) ?_;walk_nrm;refine wu (.int .u64 0) ?_;walk_nrm;refine wu (.bool false) ?_;walk_nrm;refine wv (.bool false) ?_;walk_nrm;refine wz ?_;walk_nrm;refine wz ?_;walk_nrm;refine wv (.bool false) ?_;walk_nrm;refine we ?_;refine wf ?_;refine ws ?_;refine wq ?_;refine wr ?_;simp only [szs];refine wv (.int .u64 S) ?_;walk_nrm;refine wu (.int .u64 V) ?_;walk_nrm;refine wu (.int .i32 V) ?_;walk_nrm;refine wv (.int .i32 V) ?_;walk_nrm;refine we ?_;refine wq ?_;refine wr ?_;simp only [szs];refine wv (.int .u64 S) ?_;walk_nrm;refine wu (.int .u64 0) ?_;walk_nrm;refine wu (.int .u32 0) ?_;walk_nrm;refine wv (.int .u32 0) ?_;walk_nrm;refine we ?_;refine wq ?_;refine wq ?_;refine wr ?_;simp only [szs];refine wv (.bool true) ?_;walk_nrm;refine wv (.int .i64 1) ?_;walk_nrm;refine wv (.bool true) ?_;walk_nrm;refine wv (.bool true) ?_;walk_nrm;refine wv (.bool true) ?_;walk_nrm;refine wv (.int .i32 V) ?_;walk_nrm;refine wv (.int .i64 1) ?_;walk_nrm;refine ww (.int .i32 1) rfl rfl gh (fun _ _=>by go_simp;try decide) (fun _ _=>by simp [go_sem]) ?_;walk_nrm;refine wu (.bool false) ?_;walk_nrm;refine wv (.bool false) ?_;walk_nrm;refine we ?_;refine wf ?_;refine ws ?_;refine wq ?_;refine wq ?_;refine wr ?_;simp only [szs];refine wv (.int .i32 V) ?_;walk_nrm;refine wu (.bool false) ?_;walk_nrm;refine we ?_;refine wf ?_;refine ws ?_;refine wq ?_;refine wq ?_;refine wr ?_;simp only [szs];refine wv (.int .u32 0) ?_;walk_nrm;refine wv (.bool false) ?_;walk_nrm;refine wv (.bool false) ?_;walk_nrm;refine wz ?_;walk_nrm;refine wz ?_;walk_nrm;refine wv (.bool false) ?_;walk_nrm;refine wv (.bool false) ?_;walk_nrm;refine wz ?_;walk_nrm;refine wz ?_;walk_nrm;refine wz ?_;walk_nrm;refine wz ?_;walk_nrm;refine wv (.bool false) ?_;walk_nrm;refine we ?_;refine wf ?_;refine ws ?_;refine wq ?_;refine wq ?_;refine wr ?_;simp only [szs];refine wv (.int .i32 V) ?_;walk_nrm;refine wu (.bool true) ?_;walk_nrm;refine wv (.bool true) ?_;walk_nrm;refine wz ?_;walk_nrm;refine wz ?_;walk_nrm;refine wv (.bool true) ?_;walk_nrm;refine we ?_;refine wt ?_;refine ri rfl (fun _=>f1w) ?_;refine dm .enable (.inl rfl) fi rfl wgLib.f_enable (x_enable_n Lw) (x_enable_b Lw) (x_enable_x Lw) (x_enable_f Lw) ?_;refine yo rfl rfl Tryz.func77 rfl ?_;walk_nrm;exact ug h
end
end Go.Proofs.YtelecjnabeokeaaGreatDoor
namespace Go.Proofs.YtelecjnabeokeaaGreatDoor
open Go Go.Conc
open Go.ConcN (sumTo upd sumTo_upd upd_ne upd_same)
section
variable {P:Program} {Φ:Array Goroutine→World→Trace→Prop} {St:Nat→Loc→Prop} {Shun:Loc→Prop} {S:Nat→Option SeatD} {a a' child:Goroutine} {T:Trace} {gs:Array Goroutine} {w:World} {q:Nat→Nat}
abbrev StN (St:Nat→Loc→Prop) (c:Nat) (L:Loc→Prop):Nat→Loc→Prop:=fun g l=>St g l∨(g=c∧L l)
def Hold.hire {s:SeatD} {L:Loc→Prop} {k n:Nat} (C:Hold P St Shun u5 S 0 a T gs w q) (hD:Deaf T 0=0) (hrun:a.status= .running) (hst: ∀ d,stepG P true a (w.at d)= .spawn a' child (w.at d) #[])
    (hc:w.heap[s.c]? =some (.chan 0 #[] false k k false)) (hrow: ∀ b o,s.D b=some o→ ∃ c e f,o= .cells c e f) (hkeep:Keeps s.D w) (hinj: ∀ i s',S i=some s'→s'.c≠s.c) (hB:s.B≤w.heap.size)
    (hL: ∀ l,L l→ ¬ Shun l∧l.isMemory=true) (hsit:Sits P false (Keeps s.D) (StN St gs.size L gs.size) s.B s.seat n child)
    (hcont: ∀ gs' T' q' d,gs'.size=gs.size+1→Hold P (StN St gs.size L) Shun u5 (upd S gs.size (some s)) 0 a' T' gs' (w.at d) q'→Deaf T' 0=0→Leads P Φ gs' (w.at d) T'):Leads P Φ gs w T:=by
 refine C.lead' hD hrun fun gs1 T1 q1 d sl hsz hD1 C1=> ?_;have hlt:0<gs1.size:=(fx5.1 C1.here).1;have hr:=runT_crowd_spawn (sl:=sl) C1.here (show stepG P (0==0) a (w.at d)=_ from hst d);have e0:((MemOp.ofEvents 0 a.frame.fn a.frame.place #[]).push { g:=0,fn:=a.frame.fn,pos:=a.frame.place,act:= .go gs1.size }).push { g:=gs1.size,fn:=child.frame.fn,pos:=a.frame.place,act:= .start }=
  #[{ g:=0,fn:=a.frame.fn,pos:=a.frame.place,act:= .go gs1.size },{ g:=gs1.size,fn:=child.frame.fn,pos:=a.frame.place,act:= .start }]:=by simp [MemOp.ofEvents]
 rw [e0] at hr;refine ⟨_,_,_,hr,?_⟩;generalize hu:(#[{ g:=0,fn:=a.frame.fn,pos:=a.frame.place,act:= .go gs1.size },{ g:=gs1.size,fn:=child.frame.fn,pos:=a.frame.place,act:= .start }]:Trace)=u
 have hq: ∀ g,∀ op∈u,∀ d,deafStep g d op=d:=by
    intro g op hop d;subst hu;simp only [f4b,fy3,fz8,f0z] at hop;rcases hop with rfl | rfl <;>rfl
 have hDq: ∀ g,Deaf (T1++u) g=Deaf T1 g:=fun g=>Deaf_quiet (hq g)
 have hpast:PastS (StN St gs.size L) Shun u5 (w.at d).heap.size 0 (T1++u):=by
    have:=PastS.hire (c:=gs1.size) (L:=L) C1.past hD1 (C1.crew.above _ (fx8 _)) (fun i t ht hw hl=> ?_) (fun l hl=>(hL l hl).1) a.frame.fn a.frame.place child.frame.fn
    · rw [hu,hsz] at this;exact this.fewer fun g h=>h.elim
    · rcases C1.past.known i t ht (hL _ hl).2 with h | ⟨h,_⟩ | ⟨h,_⟩
      · exact h
      · rw [h] at hw;cases hw
      · exact absurd h (hL _ hl).1
 have hS: ∀ i s',upd S gs.size (some s) i=some s'→(i=gs.size∧s'=s)∨(i≠gs.size∧S i=some s'):=fun i s' h=>by
    by_cases e:i=gs.size
    · subst e;rw [f0b] at h;exact .inl ⟨rfl,(fy7 h).symm⟩
    · rw [f0p S _ e] at h;exact .inr ⟨e,h⟩
 refine hcont _ _ (upd q1 gs.size n) d (by simp [hsz]) ⟨⟨fun x y hx hy=> ?_,fun i s' h=> ?_,fun i s' b o h=> ?_,fun i s' h=> ?_,fun i i' s1 s2 h1 h2 he=> ?_,fun i s' h=> ?_,fun i s' h=> ?_,fun j hj=> ?_⟩,?_,hpast,fun i h=>h.elim,?_⟩ (by rw [hDq];exact hD1)
 · by_cases e:x=gs.size
   · subst e;rw [f05,f02 (by simp [hsz])] at hy;obtain rfl:=fy7 hy;rw [f0b,f0b];have hx0:(gs.size==0)=false:=by simp only [beq_eq_false_iff_ne,ne_eq];exact hx
     show Sits P (gs.size==0) _ _ _ _ _ _;rw [hx0];exact hsit
   · rw [f05,fx9 (by simp [hsz,e]),fy4 (fun z=>hx z.symm)] at hy;have hi:=C1.crew.idle x y hx hy;rw [f0p S _ e,f0p q1 _ e];cases es:S x with
     | none=>rw [es] at hi;exact ⟨hi.1,by rw [hDq];exact hi.2⟩
     | some s'=>rw [es] at hi;exact fb0 (fun l hl=> .inl hl) hi
 · rcases hS i s' h with ⟨_,rfl⟩ | ⟨_,h⟩
   · exact ⟨k,hc⟩
   · exact C1.crew.chans i s' h
 · intro ho;rcases hS i s' h with ⟨_,rfl⟩ | ⟨_,h⟩
   · exact hrow b o ho
   · exact C1.crew.rows i s' b o h ho
 · rcases hS i s' h with ⟨_,rfl⟩ | ⟨_,h⟩
   · exact hkeep
   · exact C1.crew.keeps i s' h
 · rcases hS i s1 h1 with ⟨e1,e2⟩ | ⟨e1,h3⟩
   · rcases hS i' s2 h2 with ⟨e3,_⟩ | ⟨_,h4⟩
     · omega
     · rw [e2] at he;exact absurd he.symm (hinj i' s2 h4)
   · rcases hS i' s2 h2 with ⟨_,e4⟩ | ⟨_,h4⟩
     · rw [e4] at he;exact absurd he (hinj i s1 h3)
     · exact C1.crew.inj i i' s1 s2 h3 h4 he
 · rcases hS i s' h with ⟨_,rfl⟩ | ⟨_,h⟩
   · exact ⟨hB,(fx5.1 hc).1⟩
   · exact C1.crew.low i s' h
 · rw [hDq];rcases hS i s' h with ⟨rfl,rfl⟩ | ⟨_,h⟩
   · exact C1.crew.above _ fe
   · exact C1.crew.hear i s' h
 · rw [hDq];simp only [f2a,f00] at hj;exact C1.crew.above j fe
 · rw [f05,fx9 ja];exact fy5 hlt
 · rw [f0p S _ fe];exact C1.none
end
end Go.Proofs.YtelecjnabeokeaaGreatDoor
namespace Go.Proofs.YtelecjnabeokeaaGreatDoor
open Go Go.Conc Go.RowKit
abbrev fmx (n:Nat):Deferred:={ target:= .fn (.func 78) #[.pointer (some ⟨n,0,none⟩),.pointer (some ⟨n+1,0,none⟩)],args:= #[] }
abbrev fci (n:Nat):Array Value:= #[.pointer (some ⟨n,0,none⟩),.pointer (some ⟨n+1,0,none⟩)]
def boxD (n b c:Nat):Nat→Option Obj:=fun x=>if x=n then some (.cells #[.pointer (some ⟨b,0,none⟩)] 26 (0,0)) else if x=n+1 then some (.cells #[.chan (some c)] 78 (0,0)) else none
def boxL (n:Nat) (l:Loc):Prop:=l= .cell ⟨n,0,none⟩∨l= .cell ⟨n+1,0,none⟩
noncomputable def vc (n b c:Nat):SeatD:={ c:=c,z:= .nilFunc,ok:=true,D:=boxD n b c,B:=n+2,home:=fbr [dcall 79 #[.pointer (some (stC b))]] [fau] c }
def fog (n:Nat) (main:Bool) (w:World):stepG Tryz.prog main (born Tryz.prog (fmx n)) w= .go (G (Frame.enter Tryz.prog 78 (fci n) .deferred) [fau]) w #[]:=by
 have h1: ¬ Tryz.f78.name= "runtime.NumGoroutine" :=by decide
 obtain ⟨c,h2⟩: ∃ c,Tryz.f78.body=some c:=⟨_,rfl⟩;simp [born,stepG,unwind,callDeferred,invoke,callFunc,Tryz.func78,h1,h2,GStep.after,seen_none,G,fau]
section
variable {Still:Loc→Prop} {n b c B:Nat}
def fmy {w:World} (h:Keeps (boxD n b c) w):w.cell? ⟨n,0,none⟩=some (.pointer (some ⟨b,0,none⟩)):=by
 have:=h n _ (by simp [boxD];rfl);simp [World.cell?,this]
def fmz {w:World} (h:Keeps (boxD n b c) w):w.cell? ⟨n+1,0,none⟩=some (.chan (some c)):=by
 have:=h (n+1) _ (by simp [boxD];rfl);simp [World.cell?,this]
def frh {p:Addr} (hS:Still (.cell p)) (hB:p.block<B):EvC Still B ⟨.cell p,false,false⟩:=⟨p,rfl,hS,hB⟩
def fri (hS: ∀ l,boxL n l→Still l):Sits Tryz.prog false (Keeps (vc n b c).D) Still (vc n b c).B (vc n b c).seat 17 (born Tryz.prog (fmx n)):=by
 refine .inl ⟨16,default,rfl,?_⟩;refine fe8 rfl (fun w=>fog n false w) ?_;rw [enter_at Tryz.func78 rfl];simp only [show Tryz.f78.ntmps=12 from rfl];walk_nrm;refine fqv (fa8 ?_);simp only [szs];refine fj9 (x:= .pointer (some ⟨b,0,none⟩)) rfl rfl gh (fun w hw=>by have:=fmy hw;go_simp) (fun w hw e he=>by have:=fmy hw;simp [go_sem,this] at he;subst he;exact frh (hS _ (.inl rfl)) (by show n<n+2;omega)) ?_;walk_nrm;refine fj9 (x:= .pointer (some ⟨b,0,none⟩)) rfl rfl gh (fun w hw=>by go_simp) (fun w hw e he=>by simp [go_sem] at he) ?_;walk_nrm;refine fj9 (x:= .pointer (some (stC b))) rfl rfl gh (fun w hw=>by go_simp) (fun w hw e he=>by simp [go_sem] at he) ?_;walk_nrm;refine fe8 rfl (fun w=>stepG_defer rfl rfl gh rfl) ?_;walk_nrm;refine fj8 (fqv (fa8 ?_));simp only [szs];refine fj9 (x:= .chan (some c)) rfl rfl gh (fun w hw=>by have:=fmz hw;go_simp) (fun w hw e he=>by have:=fmz hw;simp [go_sem,this] at he;subst he;exact frh (hS _ (.inr rfl)) (by show n+1<n+2;omega)) ?_;walk_nrm;refine fj8 (fe8 rfl (fun _=>f5i) (fe8 rfl (fun _=>stepG_loop) ?_));refine fqv (fa8 (Goes.stop fun w h=>⟨_,atIn_of (s:=(vc n b c).seat) (i:=0) (rest:=[1]) rfl rfl fu (fun w=> ?_) (fun w=> ?_) ⟨_,rfl,rfl,rfl,rfl⟩⟩))
 · rw [← f0d _ _ _ #[],mg (t:=78) (y:= .tmp 6) (ok:=true) rfl Tryz.underlying78 (Tryz.zero1 w)];rfl
 · show (Sem.runT _ _ w #[]).2=_;rw [mg (t:=78) (y:= .tmp 6) (ok:=true) rfl Tryz.underlying78 (Tryz.zero1 w)]
end
def ve (w:World) (b k m:Nat):World:=((w.alloc (.cells #[.pointer (some ⟨b,0,none⟩)] 26)).alloc (.cells #[.chan (some k)] 78)).setCell (stC b) (.int .u64 ((m+1:Nat)*K32))
noncomputable abbrev goOps:Array Oper:=cOps (cR (cR (zw Tryz.f37)))
noncomputable def fej (b k n:Nat) (rest:List Nat):Frame:=(base 37).at ⟨#[.pointer (some ⟨b,0,none⟩),.chan (some k),.pointer (some ⟨n,0,none⟩),.pointer (some ⟨n+1,0,none⟩),.pointer (some ⟨b,0,none⟩),.pointer (some ⟨b,0,none⟩),.pointer (some (stC b)),.tuple #[],.func (.func 78) #[] (fci n)],[]⟩ [.inRegion goOps rest]
section
variable {main:Bool} {H:Hide} {Shun:Loc→Prop} {Φ:Goroutine→World→Nat→Prop} {w:World} {X:Frame} {cs:List Frame} {b k m:Nat}
def foh {c:Array Value} {e:TypeId} (hb:w.heap[b]? =some (.cells c e (0,0))):(ve w b k m).heap[b]? =some (.cells (c.setIfInBounds 6 (.int .u64 ((m+1:Nat)*K32))) e (0,0)):=by
 have hlt:b<w.heap.size:=(fx5.1 hb).1;unfold ve;simp only [World.setCell,World.alloc,fy6,f05,f0e,f2a];rw [fx9 fe,fx9 fe,hb];rfl
def dq {x:Nat} (hx:x≠b) (hlt:x<w.heap.size):(ve w b k m).heap[x]? =w.heap[x]? :=by
 unfold ve;simp only [World.setCell,World.alloc,fy6,f05,f2a];rw [fx9 (f3w hx),fx9 fe,fx9 fe]
def fg6 (hb:b<w.heap.size):Keeps (boxD w.heap.size b k) (ve w b k m):=by
 intro x o hx;unfold boxD at hx;unfold ve;simp only [World.setCell,World.alloc,fy6,f05,f2a];split at hx
 · rename_i e;subst e;cases hx;rw [fx9 fe,fx9 fe,f02 rfl]
 · split at hx
   · rename_i e1 e;subst e;cases hx;rw [fx9 fe,f02 rfl]
   · cases hx
def oh:(ve w b k m).heap.size=w.heap.size+2:=by
 unfold ve;simp only [World.setCell,World.alloc,f5u,f2a]
def fui {b₀:Frame} {a₀:Act} {k₀:List Item} {ops₀:Array Oper} {i₀:Nat} {rest₀:List Nat} {args:Array Value} {c:Array Value} {e:TypeId} {y:Int} (ha:args= #[.pointer (some (stC b)),.int .i64 1]) (hH:H b=none) (hb:w.heap[b]? =some (.cells c e (0,0))) (hsz:c.size=8) (h6:c[6]? =some (.int .u64 ((m:Nat)*K32))) (h7:c[7]? =some (.int .u32 y)) (hm:m<1000)
    (h:OG Tryz.prog main H Shun Φ (G (b₀.at (a₀.put ((ops₀[i₀]?).bind (·.dst)) (.tuple #[])) (.inRegion ops₀ rest₀::k₀)) cs) (w.setCell (stC b) (.int .u64 ((m+1:Nat)*K32))) 0):
    OG Tryz.prog main H Shun Φ (G (Frame.enter Tryz.prog 77 args .normal) (b₀.at a₀ (.inRegion ops₀ (i₀::rest₀)::k₀)::cs)) w 0:=by
 subst ha;rw [enter_at Tryz.func77 rfl,show Tryz.f77.ntmps-(#[Value.pointer (some (stC b)),Value.int .i64 1]).size=115 from rfl];exact og_add1 hH hb hsz h6 h7 hm rfl h
def fuj {c:Array Value} {e:TypeId} {y:Int} (hH:H b=none) (hHlt: ∀ x,H x≠none→x<w.heap.size) (hb:w.heap[b]? =some (.cells c e (0,0))) (hsz:c.size=8) (h6:c[6]? =some (.int .u64 ((m:Nat)*K32))) (h7:c[7]? =some (.int .u32 y)) (hm:m<1000)
    (h:OG Tryz.prog main H Shun Φ (G (fej b k w.heap.size [1]) (X::cs)) (ve w b k m) 0):OG Tryz.prog main H Shun Φ (G (Frame.enter Tryz.prog 37 #[.pointer (some ⟨b,0,none⟩),.chan (some k)] .normal) (X::cs)) w 0:=by
 have hlt:b<w.heap.size:=(fx5.1 hb).1;rw [enter_at Tryz.func37 rfl];simp only [show Tryz.f37.ntmps=9 from rfl];walk_nrm;refine uv (rm ?_);simp only [szs];obtain ⟨s1,s2,s3⟩:=fa6 hHlt (.cells #[.pointer (some ⟨b,0,none⟩)] 26);refine qz (x:= .pointer (some ⟨w.heap.size,0,none⟩)) (w1:=w.alloc (.cells #[.pointer (some ⟨b,0,none⟩)] 26)) rfl rfl gh (fun d=>by clear h;go_simp;rfl) s1 s2 (fun d e he=>by simp [go_sem] at he) ?_;walk_nrm;have e1:=xd w (.cells #[.pointer (some ⟨b,0,none⟩)] 26);obtain ⟨u,hu⟩: ∃ u,u=w.alloc (.cells #[.pointer (some ⟨b,0,none⟩)] 26):=⟨_,rfl⟩;have hW:ve w b k m=(u.alloc (.cells #[.chan (some k)] 78)).setCell (stC b) (.int .u64 ((m+1:Nat)*K32)):=by rw [hu];rfl
 rw [hW] at h;rw [← hu] at e1 s3 ⊢;have hbu:u.heap[b]? =some (.cells c e (0,0)):=by rw [hu];simp only [World.alloc,f05];rw [fx9 fe];exact hb
 have hn0:u.heap[w.heap.size]? =some (.cells #[.pointer (some ⟨b,0,none⟩)] 26 (0,0)):=by rw [hu];simp only [World.alloc,f05,f0e]
 have hHn:H w.heap.size=none:=by
    cases e:H w.heap.size with
    | none=>rfl
    | some o=>have:=hHlt w.heap.size pb;omega
 clear hu hW s1 s2;obtain ⟨t1,t2,t3⟩:=fa6 s3 (.cells #[.chan (some k)] 78);refine qz (x:= .pointer (some ⟨u.heap.size,0,none⟩)) (w1:=u.alloc (.cells #[.chan (some k)] 78)) rfl rfl gh (fun d=>by clear h;go_simp;rfl) t1 t2 (fun d e he=>by simp [go_sem] at he) ?_;rw [e1];walk_nrm;have e2:=xd u (.cells #[.chan (some k)] 78);have hbu2:(u.alloc (.cells #[.chan (some k)] 78)).heap[b]? =some (.cells c e (0,0)):=by simp only [World.alloc,f05];rw [fx9 fe];exact hbu
 have hn02:(u.alloc (.cells #[.chan (some k)] 78)).heap[w.heap.size]? =some (.cells #[.pointer (some ⟨b,0,none⟩)] 26 (0,0)):=by simp only [World.alloc,f05];rw [fx9 fe];exact hn0
 generalize u.alloc (.cells #[.chan (some k)] 78)=u2 at*;have hcd: ∀ d,(u2.at d).cell? ⟨w.heap.size,0,none⟩=some (.pointer (some ⟨b,0,none⟩)):=fun d=>by show u2.cell? _=_;simp [World.cell?,hn02]
 clear t1 t2;refine u7 (uv (rm ?_));simp only [szs];refine qz (x:= .pointer (some ⟨b,0,none⟩)) (w1:=u2) rfl rfl gh (fun d=>by have:=hcd d;clear h;go_simp) (fx8 _) (fun _ _=>rfl) (fun d e he=>by simp [go_sem,hcd] at he;subst he;exact ⟨xh hHn (by show w.heap.size<u2.heap.size;omega) _ _,by simp [vl]⟩) ?_;walk_nrm;refine qz (x:= .pointer (some ⟨b,0,none⟩)) (w1:=u2) rfl rfl gh (fun d=>by clear h;go_simp) (fx8 _) (fun _ _=>rfl) (fun d e he=>by simp [go_sem] at he) ?_;walk_nrm;refine qz (x:= .pointer (some (stC b))) (w1:=u2) rfl rfl gh (fun d=>by clear h;go_simp) (fx8 _) (fun _ _=>rfl) (fun d e he=>by simp [go_sem] at he) ?_;walk_nrm;refine flb rfl rfl gh rfl Tryz.func77 fd rfl ?_;refine fui jh hH hbu2 hsz h6 h7 hm ?_;walk_nrm;refine u7 (rm ?_);simp only [szs];refine qz (x:= .func (.func 78) #[] (fci w.heap.size)) (w1:=u2.setCell (stC b) (.int .u64 ((m+1:Nat)*K32))) rfl rfl gh (fun d=>by clear h;go_simp) (fx8 _) (fun _ _=>rfl) (fun d e he=>by have he:e∈(#[]:Array Event):=he;simp at he) ?_;walk_nrm;exact h
end
open Go.ConcN (sumTo upd sumTo_upd upd_ne upd_same)
structure StartV (b k m:Nat) (v v':World):Prop where
 size:v'.heap.size=v.heap.size+2
 ses: ∀ c e,v.heap[b]? =some (.cells c e (0,0))→v'.heap[b]? =some (.cells (c.setIfInBounds 6 (.int .u64 ((m+1:Nat)*K32))) e (0,0))
 mark:v'.heap[k]? =some (.chan 1 #[.bool true] false 0 0 true)
 same: ∀ x,x<v.heap.size→x≠b→x≠k→v'.heap[x]? =v.heap[x]?
 os:v'.os=v.os
 output:v'.output=v.output
section
variable {b k m:Nat} {WS:Nat→Option SeatD} {H:Hide} {Shun:Loc→Prop} {St:Nat→Loc→Prop} {S:Nat→Option SeatD} {v w:World} {X:Frame} {cs:List Frame} {gs:Array Goroutine} {q:Nat→Nat} {T:Trace}
 {Φ:Array Goroutine→World→Trace→Prop}
def fw7 (m:Nat):Obj→Obj
 | .cells c e f=> .cells (c.setIfInBounds 6 (.int .u64 ((m+1:Nat)*K32))) e f
 | o=>o
def dt (v:World) (b k m:Nat):World:={ v with heap:=(((v.heap.push (.cells #[] 26)).push (.cells #[] 78)).modify b (fw7 m)).setIfInBounds k (.chan 1 #[.bool true] false 0 0 true) }
noncomputable abbrev goOp:Oper:={ dst:=none,op:= .go { callee:= .value (.tmp 8),args:= #[],argTypes:= #[] },type:=0,pos:= "coedit.go:96",after:= #[{ on:=0,ground:= .data }],guard:=none }
def cn (H:Hide) (n k:Nat) (u:World):Hide:=⟨fun x=>if x=n then some (.cells #[] 26) else if x=n+1 then some (.cells #[] 78) else if x=k then some (.chan 1 #[.bool true] false 0 0 true) else H x,fun x=>u.heap[x]?,H.on⟩
def z4 {x:Nat} (hk:k<v.heap.size):(dt v b k m).heap[x]? =if x=k then some (Obj.chan 1 #[.bool true] false 0 0 true) else if x=b then (((v.heap.push (.cells #[] 26)).push (.cells #[] 78))[x]?).map (fw7 m) else ((v.heap.push (.cells #[] 26)).push (.cells #[] 78))[x]? :=by
 unfold dt;simp only [fy1,f5u,f2a,fy6];by_cases e:k=x
 · subst e;simp only [f0e];rw [f02 fe]
 · simp only [fx9 e,fx9 (f3w e)];by_cases e2:b=x
   · subst e2;simp only [f0e]
   · simp only [fx9 e2,fx9 (f3w e2)]
def dw {x:Nat} {a:Array Obj} {o o':Obj}:((a.push o).push o')[x]? =if x=a.size+1 then some o' else if x=a.size then some o else a[x]? :=by
 simp only [f05,f2a]
def mi {x:Nat} (hk:k<v.heap.size) (hx:x<v.heap.size) (hb:x≠b) (hxk:x≠k):(dt v b k m).heap[x]? =v.heap[x]? :=by
 rw [z4 hk,fx9 hxk,fx9 hb,dw,fx9 fe,fx9 fe]
def fb2 {c:Array Value} {e:TypeId} (hk:k<v.heap.size) (hkb:k≠b) (hb:v.heap[b]? =some (.cells c e (0,0))):(dt v b k m).heap[b]? =some (.cells (c.setIfInBounds 6 (.int .u64 ((m+1:Nat)*K32))) e (0,0)):=by
 have hlt:b<v.heap.size:=(fx5.1 hb).1;rw [z4 hk,fx9 (f3w hkb),f02 rfl,dw,fx9 fe,fx9 fe,hb];rfl
def frj (hk:k<v.heap.size) (hkb:k≠b):StartV b k m v (dt v b k m) where
 size:=by simp [dt]
 ses:=fun c e h=>fb2 hk hkb h
 mark:=by rw [z4 hk,f02 rfl]
 same:=fun x hx h1 h2=>mi hk hx h1 h2
 os:=rfl
 output:=rfl
def frk {c:Array Value} {e:TypeId} {kk d:Nat} (rel:Rel H v w) (hHb:H b=none) (hb:v.heap[b]? =some (.cells c e (0,0))) (hk:k<v.heap.size) (hkb:k≠b) (hkw:w.heap[k]? =some (.chan 0 #[] false kk kk false)):
    Rel (cn H v.heap.size k ((ve w b k m).at d)) (dt v b k m) ((ve w b k m).at d):=by
 have hltb:b<v.heap.size:=(fx5.1 hb).1;have hbw:w.heap[b]? =some (.cells c e (0,0)):=by rw [← rel.same b hHb];exact hb
 have hu: ∀ x:Nat,((ve w b k m).at d).heap[x]? =(ve w b k m).heap[x]? :=fun x=>rfl;have hbox:=fg6 (w:=w) (b:=b) (k:=k) (m:=m) (by rw [← rel.size];exact hltb);have hn0:(ve w b k m).heap[v.heap.size]? =some (.cells #[.pointer (some ⟨b,0,none⟩)] 26 (0,0)):=hbox _ _ (by rw [rel.size];simp [boxD]);have hn1:(ve w b k m).heap[v.heap.size+1]? =some (.cells #[.chan (some k)] 78 (0,0)):=hbox _ _ (by rw [rel.size];simp [boxD]);refine ⟨?_,fun x hx=> ?_,fun x o hx=> ?_,rel.os,rel.output,fun x o hx=> ?_,fun x o hx=>rfl,fun hon x o hx ho=> ?_⟩
 · show (dt v b k m).heap.size=(ve w b k m).heap.size;rw [oh,← rel.size];simp [dt]
 · simp only [cn] at hx;split at hx
   · cases hx
   · rename_i h1;split at hx
     · cases hx
     · rename_i h2;split at hx
       · cases hx
       · rename_i h3;rw [hu];by_cases h4:x=b
         · subst h4;rw [fb2 hk hkb hb,foh hbw]
         · rcases f01 x v.heap.size with h5 | h5
           · rw [mi hk h5 h4 h3,dq h4 (by rw [← rel.size];exact h5)];exact rel.same x hx
           · rw [f09 (by simp [dt];omega),f09 (by rw [oh,← rel.size];omega)]
 · simp only [cn] at hx;rw [hu];split at hx
   · rename_i h1;subst h1;cases hx;refine ⟨?_,.inl ⟨26,_,rfl,hn0⟩⟩;rw [z4 hk,fx9 fe,fx9 fe,dw,fx9 fe,f02 rfl]
   · rename_i h1;split at hx
     · rename_i h2;subst h2;cases hx;refine ⟨?_,.inl ⟨78,_,rfl,hn1⟩⟩;rw [z4 hk,fx9 fe,fx9 fe,dw,f02 rfl]
     · rename_i h2;split at hx
       · rename_i h3;subst h3;cases hx;refine ⟨by rw [z4 hk,f02 rfl],.inr (.inr ⟨mkC #[.bool true] 0 0,kk,rfl,?_⟩)⟩;rw [dq hkb (by rw [← rel.size];exact hk)];exact hkw
       · rename_i h3;obtain ⟨h5,h6⟩:=rel.laid x o hx;have hx5:x<v.heap.size:=(fx5.1 h5).1;have h4:x≠b:=fun e=>by subst e;rw [hHb] at hx;cases hx
         rw [mi hk hx5 h4 h3,dq h4 (by rw [← rel.size];exact hx5)];exact ⟨h5,h6⟩
 · rw [z4 hk] at hx;split at hx
   · cases hx;rfl
   · split at hx
     · rename_i h2;subst h2;rw [dw,fx9 fe,fx9 fe,hb] at hx;cases hx;rfl
     · rw [dw] at hx;split at hx
       · cases hx;rfl
       · split at hx
         · cases hx;rfl
         · exact rel.objs x o hx
 · simp only [cn] at hx;split at hx
   · cases hx
   · rename_i h1;split at hx
     · cases hx
     · rename_i h2;split at hx
       · cases hx
       · rename_i h3;by_cases h4:x=b
         · subst h4;rw [fb2 hk hkb hb] at ho;cases ho;rfl
         · rcases f01 x v.heap.size with h5 | h5
           · rw [mi hk h5 h4 h3] at ho;exact rel.chans hon x o hx ho
           · rw [f09 (by simp [dt];omega)] at ho;cases ho
def foi (rel:Rel H v w) (hk:v.heap[k]? =some (.chan 0 #[] false 0 0 false)): ∃ kk,w.heap[k]? =some (.chan 0 #[] false kk kk false):=by
 cases e:H k with
 | none=>exact ⟨0,by rw [← rel.same k e];exact hk⟩
 | some o=>
   obtain ⟨h1,h2⟩:=rel.laid k o e;rw [hk] at h1;obtain rfl:=fy7 h1;rcases h2 with ⟨e,c,h,_⟩ | ⟨h,_⟩ | ⟨x,kk,h,h3⟩
   · cases h
   · cases h
   · refine ⟨kk,?_⟩;have htm:x.tm=false:=by injection h with _ _ _ _ _ h6;exact h6.symm
     rcases x.ok with ⟨_,_,_,_,h7⟩ | ⟨_,h7,_⟩
     · rw [h3,← h7,htm]
     · rw [htm] at h7;cases h7
def fuk {Fx : Nat→Option (Obj×Option Obj)} (hFx:fug Fx) {c:Array Value} {e:TypeId} (hlt: ∀ j s,WS j=some s→j<gs.size) (hb:v.heap[b]? =some (.cells c e (0,0))) (hsz:c.size=8) (h6:c[6]? =some (.int .u64 ((m:Nat)*K32))) (h7:c[7]? =some (.int .u32 0)) (hm:m<1000) (hk:v.heap[k]? =some (.chan 0 #[] false 0 0 false))
    (hmk: ∀ j s,WS j=some s→s.c≠k) (I:Inv WS Fx vb H S St Shun v w) (C:Hold Tryz.prog St Shun u5 S 0 (G (Frame.enter Tryz.prog 37 #[.pointer (some ⟨b,0,none⟩),.chan (some k)] .normal) (X::cs)) T gs w q) (hD:Deaf T 0=0)
    (hcont: ∀ v' w' H' S' St' gs' T' q',StartV b k m v v'→Inv (upd WS gs.size (some (vc v.heap.size b k))) Fx vb H' S' St' Shun v' w'→gs'.size=gs.size+1→Hold Tryz.prog St' Shun u5 S' 0 (G (ur .normal (.tuple #[]) X) cs) T' gs' w' q'→Deaf T' 0=0→Leads Tryz.prog Φ gs' w' T'):
    Leads Tryz.prog Φ gs w T:=by
 have hHb:H b=none:=I.rel.hidden_cell (a:=⟨b,6,none⟩) (x:= .int .u64 ((m:Nat)*K32)) (by simp only [World.cell?,hb];simpa using h6);have hbw:w.heap[b]? =some (.cells c e (0,0)):=by rw [← I.rel.same b hHb];exact hb
 have hklt:k<v.heap.size:=(fx5.1 hk).1;have hkb:k≠b:=fun e=>by subst e;rw [hb] at hk;cases hk
 obtain ⟨kk,hkw⟩:=foi I.rel hk
 have hHlt: ∀ x,H x≠none→x<w.heap.size:=fun x hx=>by
    cases e:H x with
    | none=>exact absurd e hx
    | some o=>rw [← I.rel.size];exact (fx5.1 (I.rel.laid x o e).1).1
 have hSW: ∀ j s,S j=some s→WS j=some s:=fun j s h=>(I.only j s h).resolve_right fi
 have hFk: ∀ x y,Fx x=some y→x≠k:=fun x y hx e=>by
    subst e;have hv:=(I.rel.laid x _ (I.fix x y hx).1).1;rw [hk] at hv;exact hFx x y hx _ _ _ _ _ _ (fy7 hv).symm
 refine (C.og I.prot (fuj (k:=k) (m:=m) (Φ:=fun g w' d=>g=G (fej b k w.heap.size [1]) (X::cs)∧(∃ d',w'=(ve w b k m).at d')∧d=0) hHb hHlt hbw hsz h6 h7 hm (.now fun d=>⟨rfl,⟨d,rfl⟩,rfl⟩)) hD).trans fun gs1 w1 T1 hh=> ?_;obtain ⟨a',q',⟨rfl,⟨d',rfl⟩,hd'⟩,hsz1,C1⟩:=hh;have hbox:=fg6 (w:=w) (b:=b) (k:=k) (m:=m) (by rw [← I.rel.size];exact (fx5.1 hb).1);have hkw1:(ve w b k m).heap[k]? =some (.chan 0 #[] false kk kk false):=by rw [dq hkb (by rw [← I.rel.size];exact hklt)];exact hkw
 have hlast: ∀ l,boxL w.heap.size l→ ¬ Shun l∧l.isMemory=true:=fun l hl=>by
    have: ∀ a:Addr,l= .cell a→w.heap.size≤a.block→ ¬ Shun l:=fun a ha hge hs=>by
     obtain ⟨a2,ha2,hh⟩:=I.prot.shun l hs;rw [ha] at ha2;cases ha2;have:=hHlt _ hh;omega
    rcases hl with rfl | rfl
    · exact ⟨this _ rfl fi,rfl⟩
    · exact ⟨this _ rfl fi,rfl⟩
 refine Hold.hire (s:=vc w.heap.size b k) (L:=boxL w.heap.size) (k:=kk) (n:=17) (a':=G (fej b k w.heap.size []) (X::cs)) (child:=born Tryz.prog (fmx w.heap.size)) C1 hd' rfl (fun d=> ?_) hkw1 (fun x o ho=> ?_) (fun x o ho=>hbox x o ho) (fun i s' h=>hmk i s' (hSW i s' h)) (by show w.heap.size+2≤((ve w b k m).at d').heap.size;rw [show ((ve w b k m).at d').heap.size=(ve w b k m).heap.size from rfl,oh];exact fx8 _) hlast (fri fun l hl=> .inr ⟨rfl,hl⟩) ?_
 · unfold fej;rw [stepG_spawn (o:=goOp) (f:= .func 78) (c:=fci w.heap.size) (d:=fmx w.heap.size) rfl rfl gh (w':=((ve w b k m).at d').at d) gw rfl,listed_none jg];rfl
 · change boxD w.heap.size b k x=some o at ho;unfold boxD at ho;split at ho
   · cases ho;exact ⟨_,_,_,rfl⟩
   · split at ho
     · cases ho;exact ⟨_,_,_,rfl⟩
     · cases ho
 · intro gs2 T2 q2 d2 hsz2 C2 hD2;rw [hsz1] at hsz2 C2;have hrel:=frk (m:=m) (d:=d2) I.rel hHb hb hklt hkb hkw;have hH': ∀ x,H x≠none→cn H v.heap.size k ((ve w b k m).at d2) x≠none:=fun x hx=>by
    simp only [cn];split
    · simp
    · split
      · simp
      · split
        · simp
        · exact hx
   have I' : Inv (upd WS gs.size (some (vc v.heap.size b k))) Fx vb (cn H v.heap.size k ((ve w b k m).at d2)) (upd S gs.size (some (vc w.heap.size b k))) (StN St gs.size (boxL w.heap.size)) Shun (dt v b k m) ((ve w b k m).at d2):=by
    refine ⟨hrel,⟨fun i s h=> ?_,fun g l hl=> ?_,fun l hl=> ?_⟩,I.on,fun x y hx=> ?_,fun _ _ h=>je,fun i s h=> ?_,fun x cap buf cl s q hx hbuf=> ?_,fun g l hl=> ?_⟩
    · by_cases e:i=gs.size
      · subst e;rw [f0b] at h;cases h;refine ⟨by simp only [cn,vc];split <;>(try split) <;>simp,fun x o ho=> ?_⟩;change boxD w.heap.size b k x=some o at ho;unfold boxD at ho;rw [← I.rel.size] at ho;simp only [cn];split at ho
        · rename_i h1;rw [f02 h1];simp
        · rename_i h1;split at ho
          · rename_i h2;rw [fx9 h1,f02 h2];simp
          · cases ho
      · rw [f0p S _ e] at h;obtain ⟨h1,h2⟩:=I.prot.seats i s h;exact ⟨hH' _ h1,fun x o ho=>hH' _ (h2 x o ho)⟩
    · rcases hl with hl | ⟨_,hl⟩
      · obtain ⟨a,ha,hh⟩:=I.prot.still g l hl;exact ⟨a,ha,hH' _ hh⟩
      · rcases hl with rfl | rfl
        · exact ⟨_,rfl,by simp [cn,I.rel.size]⟩
        · exact ⟨_,rfl,by simp [cn,I.rel.size]⟩
    · obtain ⟨a,ha,hh⟩:=I.prot.shun l hl;exact ⟨a,ha,hH' _ hh⟩
    · obtain ⟨e1,e2⟩:=I.fix x y hx;have hlt':x<v.heap.size:=by rw [I.rel.size];exact hHlt x (by rw [e1];simp)
      have hxk:x≠k:=fun h=>hFk x y hx h;have hxb:x≠b:=fun h=>by rw [h,hHb] at e1;cases e1
      refine ⟨by simp only [cn];rw [fx9 fe,fx9 fe,fx9 hxk];exact e1,?_⟩;show ((ve w b k m).at d2).heap[x]? =_;rw [show ((ve w b k m).at d2).heap=(ve w b k m).heap from rfl,dq hxb (by rw [← I.rel.size];exact hlt'),I.rel.kept x _ e1];exact e2
    · by_cases e:i=gs.size
      · subst e;rw [f0b] at h;rw [f0b,I.rel.size];exact .inl h
      · rw [f0p S _ e] at h;rw [f0p WS _ e];exact .inl (hSW i s h)
    · simp only [cn] at hx;split at hx
      · cases hx
      · split at hx
        · cases hx
        · split at hx
          · rename_i h3;subst h3;cases hx
            exact ⟨rfl,gs.size,_,f0b _ _ _,rfl,by rw [f0b,I.rel.size],rfl,(by cases e:Fx x with
              | none=>rfl
              | some y=>exact absurd rfl (hFk x y e))⟩
          · obtain ⟨h1,j,s',h3,h4,h5,h8,h9⟩:=I.marks x cap buf cl s q hx hbuf;have hj:j≠gs.size:=fun e=>by have:=hlt j s' h3;omega
            exact ⟨h1,j,s',by rw [f0p WS _ hj];exact h3,h4,by rw [f0p S _ hj];exact h5,h8,h9⟩
    · rcases hl with hl | ⟨rfl,_⟩
      · by_cases e:g=gs.size
        · subst e;exact .inr (.inl (by rw [f0b];simp))
        · rcases I.who g l hl with h1 | h1 | h1
          · exact .inl h1
          · exact .inr (.inl (by rw [f0p WS _ e];exact h1))
          · exact absurd rfl h1
      · exact .inr (.inl (by rw [f0b];simp))
   refine (C2.og I'.prot (Φ:=fun g w' d=>g=G (ur .normal (.tuple #[]) X) cs∧(∃ d',w'=(ve w b k m).at d')∧d=0) (k:=0) ?_ hD2).trans fun gs3 w3 T3 hh=> ?_
   · unfold fej;exact u7 (fiu (ze (.inl rfl) rfl Tryz.func37 (f2z Tryz.results37 _) (.now fun d=>⟨rfl,⟨d,rfl⟩,rfl⟩)))
   · obtain ⟨a3,q3,⟨rfl,⟨d3,rfl⟩,hd3⟩,hsz3,C3⟩:=hh;have I3:Inv (upd WS gs.size (some (vc v.heap.size b k))) Fx vb (cn H v.heap.size k ((ve w b k m).at d2)) (upd S gs.size (some (vc w.heap.size b k))) (StN St gs.size (boxL w.heap.size)) Shun (dt v b k m) ((ve w b k m).at d3):=I'.step (I'.rel.re _ _);exact hcont _ _ _ _ _ _ _ _ (frj hklt hkb) I3 fe C3 hd3
end
structure Goal where
 at_:Array Goroutine→World→Trace→Prop
 fx:Nat→Option (Obj×Option Obj)
 ok:fug fx
def fha (Fx:Nat→Option (Obj×Option Obj)) (WS:Nat→Option SeatD) (Shun:Loc→Prop) (v:World) (g:Goroutine) (gs:Array Goroutine) (w:World) (T:Trace):Prop:=
 ∃ H S St q,(∀ j s,WS j=some s→j<gs.size)∧Inv WS Fx vb H S St Shun v w∧Hold Tryz.prog St Shun u5 S 0 g T gs w q∧Deaf T 0=0
def Co (Φ:Goal) (WS:Nat→Option SeatD) (Shun:Loc→Prop) (v:World) (N:Nat) (g:Goroutine):Prop:=
 ∀ gs w T,gs.size=N→fha Φ.fx WS Shun v g gs w T→Leads Tryz.prog Φ.at_ gs w T
def KV (v u:World):Prop:= ∀ p x,v.cell? p=some x→u.cell? p=some x
def EvV (v:World) (e:Event):Prop:= ∃ p x,e=⟨.cell p,false,false⟩∧v.cell? p=some x
section
variable {Φ:Goal} {WS:Nat→Option SeatD} {Shun:Loc→Prop} {v:World} {N:Nat} {g:Goroutine} {cs:List Frame} {X:Frame}
def co_wk (h:WKE Tryz.prog true (KV v) (EvV v) (fun g d=>d=0∧Co Φ WS Shun v N g) g 0):Co Φ WS Shun v N g:=by
 rintro gs w T hN ⟨H,S,St,q,hlt,I,C,hD⟩
 have hog:OG Tryz.prog (0==0) H Shun (fun g w' d=>d=0∧(∃ d',w'=w.at d')∧Co Φ WS Shun v N g) g w 0:=by
    refine fwm (K:=KV v) (E:=EvV v) (fun t p x hp=>I.rel.cell hp) (fun e he=> ?_) (h.mono fun g d hh=>ug (.now fun d'=>⟨hh.1,⟨d',rfl⟩,hh.2⟩));obtain ⟨p,x,rfl,hp⟩:=he;exact xh (I.rel.hidden_cell hp) (zq (I.rel.cell hp)) _ _
 refine (C.og I.prot hog hD).trans fun gs1 w1 T1 hh=> ?_;obtain ⟨a',q',⟨hd,⟨d',rfl⟩,hco⟩,hsz,C1⟩:=hh;exact hco gs1 _ T1 (hsz.trans hN) ⟨H,S,St,q',fun j s hj=>by rw [hsz];exact hlt j s hj,I.step (I.rel.re _ _),C1,hd⟩
def frl {b sb ab n cp c0 j0:Nat} {kb ch:Nat→Nat} (W:SesW b j0 n c0 ch WS N) (V:SesV b sb ab n cp c0 kb ch v) (hcont: ∀ v',fll (fun x=>x=b∨x=c0∨ ∃ i,i<n∧x=ch i) v v'→Co Φ vb (fax b Shun) v' N (G (ur .normal (.tuple #[]) X) cs)):
    Co Φ WS Shun v N (G (Frame.enter Tryz.prog 12 #[.pointer (some ⟨b,0,none⟩)] .normal) (X::cs)):=by
 rintro gs w T hN ⟨H,S,St,q,hlt,I,C,hD⟩;refine stop_co Φ.ok (by rw [hN];exact W) V I C hD fun v' w' H' St' gs' T' q' hv I' hsz C' hD'=> ?_;exact hcont v' hv gs' w' T' (hsz.trans hN) ⟨H',vb,St',q',fun j s hj=>(by cases hj),I',C',hD'⟩
def fn1 {b k m:Nat} {c:Array Value} {e:TypeId} (hb:v.heap[b]? =some (.cells c e (0,0))) (hsz:c.size=8) (h6:c[6]? =some (.int .u64 ((m:Nat)*K32))) (h7:c[7]? =some (.int .u32 0)) (hm:m<1000) (hk:v.heap[k]? =some (.chan 0 #[] false 0 0 false))
    (hmk: ∀ j s,WS j=some s→s.c≠k) (hcont: ∀ v',StartV b k m v v'→Co Φ (upd WS N (some (vc v.heap.size b k))) Shun v' (N+1) (G (ur .normal (.tuple #[]) X) cs)):
    Co Φ WS Shun v N (G (Frame.enter Tryz.prog 37 #[.pointer (some ⟨b,0,none⟩),.chan (some k)] .normal) (X::cs)):=by
 rintro gs w T hN ⟨H,S,St,q,hlt,I,C,hD⟩;refine fuk Φ.ok hlt hb hsz h6 h7 hm hk hmk I C hD fun v' w' H' S' St' gs' T' q' hv I' hsz' C' hD'=> ?_;rw [hN] at I' hsz';refine hcont v' hv gs' w' T' hsz' ⟨H',S',St',q',fun j s hj=> ?_,I',C',hD'⟩;by_cases e:j=N
 · omega
 · rw [f0p WS _ e] at hj;have:=hlt j s hj;omega
structure SesN (b j0 n:Nat) (ch:Nat→Nat) (WS:Nat→Option SeatD):Prop where
 at_: ∀ i,i<n→ ∃ m,WS (j0+i)=some (vc m b (ch i))
 no: ∀ k,WS k≠none→j0≤k∧k<j0+n
 inj: ∀ i i',i<n→i'<n→ch i=ch i'→i=i'
def SesN.none {b j0:Nat} {ch:Nat→Nat}:SesN b j0 0 ch vb:=⟨fun i hi=>by omega,fun k h=>absurd rfl h,fun i i' hi=>by omega⟩
def SesN.more {b j0 n m:Nat} {ch:Nat→Nat} {WS:Nat→Option SeatD} (W:SesN b j0 n ch WS) (hne: ∀ i,i<n→ch i≠ch n):SesN b j0 (n+1) ch (upd WS (j0+n) (some (vc m b (ch n)))):=by
 refine ⟨fun i hi=> ?_,fun k hk=> ?_,fun i i' hi hi' h=> ?_⟩
 · by_cases e:i=n
   · subst e;exact ⟨m,f0b _ _ _⟩
   · obtain ⟨m',hm'⟩:=W.at_ i fe;exact ⟨m',by rw [f0p WS _ fe];exact hm'⟩
 · by_cases e:k=j0+n
   · omega
   · rw [f0p WS _ e] at hk;have:=W.no k hk;omega
 · by_cases e:i=n
   · by_cases e':i'=n
     · omega
     · subst e;exact absurd h.symm (hne i' fe)
   · by_cases e':i'=n
     · subst e';exact absurd h (hne i fe)
     · exact W.inj i i' fe fe h
def SesN.seat {b j0 n:Nat} {ch:Nat→Nat} {WS:Nat→Option SeatD} (W:SesN b j0 n ch WS) {j:Nat} {s:SeatD} (h:WS j=some s): ∃ i m,i<n∧j=j0+i∧s=vc m b (ch i):=by
 have hr:=W.no j (by rw [h];simp);obtain ⟨m,hm⟩:=W.at_ (j-j0) fe;rw [show j0+(j-j0)=j from by omega,h] at hm;exact ⟨j-j0,m,by omega,by omega,fy7 hm⟩
def SesN.ok {b j0 n:Nat} {ch:Nat→Nat} {WS:Nat→Option SeatD} {Shun:Loc→Prop} (W:SesN b j0 n ch WS):WsOk WS Shun:=by
 refine ⟨fun j s h=> ?_,fun i j s s' h h' hc=> ?_⟩
 · obtain ⟨i,m,_,_,rfl⟩:=W.seat h;exact ⟨rfl,rfl,_,[fau],by simp,fun g=>Iff.rfl⟩
 · obtain ⟨i1,m1,h1,rfl,rfl⟩:=W.seat h;obtain ⟨i2,m2,h2,rfl,rfl⟩:=W.seat h';have:=W.inj i1 i2 h1 h2 hc;omega
def bg {Shun:Loc→Prop}:WsOk vb Shun:=⟨fun _ _ h=>je,fun _ _ _ _ h=>je⟩
def SesN.all {b j0 n:Nat} {ch:Nat→Nat} {WS:Nat→Option SeatD} (W:SesN b j0 (n+1) ch WS) (hp:1≤j0) (hN:j0+(n+1)≤N):SesW b j0 n (ch 0) (fun i=>ch (i+1)) WS N:=by
 refine ⟨hp,hN,?_,fun i hi=> ?_,fun k hk=>W.no k hk,fun j s h=> ?_,(SesN.ok (Shun:=fun _=>False) W).inj⟩
 · obtain ⟨m,hm⟩:=W.at_ 0 fe;exact ⟨_,hm,rfl⟩
 · obtain ⟨m,hm⟩:=W.at_ (i+1) fe;exact ⟨_,by rw [show j0+1+i=j0+(i+1) from by omega];exact hm,rfl⟩
 · obtain ⟨i,m,_,_,rfl⟩:=W.seat h;exact ⟨rfl,rfl,fun g=>Iff.rfl⟩
end
section
variable {w:World}
def Bk.re {g:Nat} {ty:TypeId} {cs:Array Value} (h:Bk w g ty cs) (t:Nat→Question→Nat) (d:Nat):Bk (reW w t d) g ty cs:=⟨h.at_⟩
def Mp.re {b n:Nat} {f:Nat→Int} (h:Mp w b n f) (t:Nat→Question→Nat) (d:Nat):Mp (reW w t d) b n f:=⟨h.at_⟩
def Base.re (h:Base w) (t:Nat→Question→Nat) (d:Nat):Base (reW w t d):=⟨by obtain ⟨a,b,h⟩:=h.b0;exact ⟨a,b,h.re t d⟩,by obtain ⟨a,b,h⟩:=h.b1;exact ⟨a,b,h.re t d⟩⟩
def Lnk.re {l c room:Nat} {U:List Plain.Frm} (h:Lnk w l c room U) (t:Nat→Question→Nat) (d:Nat):Lnk (reW w t d) l c room U:=⟨h.lb.re t d,h.ch⟩
def Ends.re {L:Lay} {n:Nat} {es:Nat→Plain.EndS} {er:Nat→Value} (h:Ends w L n es er) (t:Nat→Question→Nat) (d:Nat):Ends (reW w t d) L n es er:=⟨by obtain ⟨cs,h1,h2⟩:=h.bk;exact ⟨cs,h1.re t d,h2⟩⟩
def Mem.re {L:Lay} {V:Vals} {S:Plain.Ses} {m:Int} {ow:Nat→Nat} (h:Mem L V S m ow w) (t:Nat→Question→Nat) (d:Nat):Mem L V S m ow (reW w t d):=
 ⟨h.base.re t d,h.tag,h.fresh,h.bb.re t d,h.ss.re t d,h.ee.re t d,h.nn.re t d,h.mp.re t d,h.ar,h.st,h.lg,fun c hc=>(h.kk c hc).re t d,fun c hc=>(h.up c hc).re t d,fun c hc=>(h.dn c hc).re t d,h.tx,h.rw,h.er⟩
def Marks.re {L:Lay} {n:Nat} (h:Marks L n w) (t:Nat→Question→Nat) (d:Nat):Marks L n (reW w t d):=⟨h.m0,h.ms⟩
def EV.re {E:Nat→Value} {A:Nat→Addr} (h:EV E A w) (t:Nat→Question→Nat) (d:Nat):EV E A (reW w t d):=⟨h.cell,h.ev,h.ne,h.row,h.ty⟩
def Live.re {L:Lay} {E:Nat→Value} {A:Nat→Addr} {S:Plain.Ses} {ow:Nat→Nat} (h:Live L E A S ow w) (t:Nat→Question→Nat) (d:Nat):Live L E A S ow (reW w t d):=
 ⟨by obtain ⟨V,h⟩:=h.mem;exact ⟨V,h.re t d⟩,h.marks.re t d,h.ev.re t d,h.good,h.bnd,h.low⟩
end
structure Old (n:Nat) (v v':World):Prop where
 le:n≤v.heap.size
 size:v.heap.size≤v'.heap.size
 block: ∀ x,x<n→v'.heap[x]? =v.heap[x]?
 os:v'.os=v.os
 output:v'.output=v.output
def Old.rf {n:Nat} {v:World} (h:n≤v.heap.size):Old n v v:=⟨h,fx8 _,fun _ _=>rfl,rfl,rfl⟩
def Old.tr {n:Nat} {v v1 v2:World} (h:Old n v v1) (h2:Old n v1 v2):Old n v v2:=⟨h.le,f08 h.size h2.size,fun x hx=>(h2.block x hx).trans (h.block x hx),h2.os.trans h.os,h2.output.trans h.output⟩
def Old.mo {n m:Nat} {v v':World} (h:Old n v v') (hm:m≤n):Old m v v':=⟨f08 hm h.le,h.size,fun x hx=>h.block x (f0f hx hm),h.os,h.output⟩
def Old.ch {n:Nat} {v v':World} {K:Nat→Prop} (hn:n≤v.heap.size) (h:Ch K v v') (hK: ∀ x,x<n→ ¬ K x):Old n v v':=⟨hn,h.size,fun x hx=>h.block x (f0f hx hn) (hK x hx),h.os,h.output⟩
def Old.bl {n:Nat} {v v':World} (hn:n≤v.heap.size) (h:Bl v v'):Old n v v':=Old.ch (K:=fun _=>False) hn (Ch.ba h) fun _ _ h=>h
def Old.re {n:Nat} {v v':World} (h:Old n v v') (t:Nat→Question→Nat) (d:Nat):Old n v (reW v' t d):=⟨h.le,h.size,h.block,h.os,h.output⟩
def Old.re' {n:Nat} {v v':World} {t:Nat→Question→Nat} {d:Nat} (h:Old n (reW v t d) v'):Old n v v':=⟨h.le,h.size,h.block,h.os,h.output⟩
def Old.but {n:Nat} {v v':World} {C:Nat→Prop} (hn:n≤v.heap.size) (h:fll C v v') (hK: ∀ x,x<n→ ¬ C x):Old n v v':=⟨hn,Nat.le_of_eq h.size.symm,fun x hx=>h.same x (hK x hx),h.os,h.output⟩
def EV.old {E:Nat→Value} {A:Nat→Addr} {n:Nat} {v v':World} (h:EV E A v) (hO:Old n v v') (h12:12≤n) (hA: ∀ i,i<12→i≠2→(A i).block<n):EV E A v':=
 ⟨fun i hi=>(f0h (a:=⟨i,0,none⟩) (hO.block i fe)).trans (h.cell i hi),h.ev,h.ne,fun i hi hne=>by
    obtain ⟨c,t,hr⟩:=h.row i hi hne;exact ⟨c,t,(hO.block _ (hA i hi hne)).trans hr⟩,h.ty⟩
structure RunTo (Z:Frame→World→Prop) (fr:Frame) (v:World):Prop where
 out: ∃ fr' v',Steps PV (lone fr [botF] v) (lone fr' [botF] v')∧Z fr' v'
section
variable {Z:Frame→World→Prop} {fr fr1:Frame} {v v1:World} {b:Frame} {a:Act} {k:List Item} {x y c:Code} {ops:Array Oper} {i:Nat} {rest:List Nat} {o:Oper}
def zt (h:Z fr v):RunTo Z fr v:=⟨fr,v,.refl _ _,h⟩
def za (hs:step PV (lone fr [botF] v)= .next (lone fr1 [botF] v1)) (h:RunTo Z fr1 v1):RunTo Z fr v:=by
 obtain ⟨fr',v',h1,h2⟩:=h.out;exact ⟨fr',v',.head hs h1,h2⟩
def rl (h:RunTo Z (b.at a (.code x:: .code y::k)) v):RunTo Z (b.at a (.code (.seq x y)::k)) v:=za step_seq h
def bo (h:RunTo Z (b.at a k) v):RunTo Z (b.at a (.code .skip::k)) v:=za step_skip h
def ya {y':Operand} {t:Bool} (hc:a.eval y'= .bool t) (h:RunTo Z (b.at a (.code (if t then x else y)::k)) v):RunTo Z (b.at a (.code (.cond y' x y)::k)) v:=za (step_cond hc) h
def yt {id:Nat} (h:RunTo Z (b.at a (.inRegion ops (List.range ops.size)::k)) v):RunTo Z (b.at a (.code (.region id ops false)::k)) v:=za step_region h
def ie (h:RunTo Z (b.at a k) v):RunTo Z (b.at a (.inRegion ops []::k)) v:=za step_region_end h
def yv {id:Nat} (h:RunTo Z (b.at a (.code c:: .inBlock id::k)) v):RunTo Z (b.at a (.code (.block id c)::k)) v:=za step_block h
def zb {id:Nat} (h:RunTo Z (b.at a k) v):RunTo Z (b.at a (.inBlock id::k)) v:=za step_inBlock h
def fhm (h:RunTo Z (b.at a (.code c:: .inLoop c::k)) v):RunTo Z (b.at a (.code (.loop c)::k)) v:=za step_loop h
def bt (h:RunTo Z (b.at a (.code c:: .inLoop c::k)) v):RunTo Z (b.at a (.inLoop c::k)) v:=za step_inLoop h
def fhn {id:Nat} {k':List Item} (hk:exitTo id k=some k') (h:RunTo Z (b.at a k') v):RunTo Z (b.at a (.code (.exit id)::k)) v:=za (step_exit hk) h
def fnj (h:RunTo Z { b.at a (.code .ret::k) with mode:= .returning } v):RunTo Z (b.at a (.code .ret::k)) v:=za step_ret h
def uy {u:Value} (ho:ops[i]? =some o) (hg:o.guard=none) (hr:(execOp a.eval o).run PV v= .ok (.value u) v1) (h:RunTo Z (b.at (a.put o.dst u) (.inRegion ops rest::k)) v1):RunTo Z (b.at a (.inRegion ops (i::rest)::k)) v:=by
 have hg:=stepG_op (P:=PV) (b:=b) (k:=k) (cs:=[botF]) (w:=v) (rest:=rest) ho (by simp [Region.wanted,hg]:Region.wanted o (yielded ops a.tmps)=true)
 have hfin: ∀ v,(b.at a (.inRegion ops (i::rest)::k)).finish v=b.at (a.put o.dst v) (.inRegion ops rest::k):=by
    intro v;rw [f0i,ho];rfl
 refine za (f3t ?_) h;rw [hg,← hfin];simp [stepG.apply,hr]
def rj (hc:c.wp PV (fun e a' v'=>(e= .normal∧RunTo Z (b.at a' k) v')∨(e= .ret∧ ∀ todo,RunTo Z { b.at a' todo with mode:= .returning } v')) a v):RunTo Z (b.at a (.code c::k)) v:=by
 obtain ⟨e,a',w',h,harr⟩:=hc b k [botF];rcases h with ⟨rfl,h⟩ | ⟨rfl,h⟩
 · obtain ⟨fr',v',h1,h2⟩:=h.out;exact ⟨fr',v',Steps.trans harr h1,h2⟩
 · obtain ⟨todo,harr⟩:=harr;obtain ⟨fr',v',h1,h2⟩:=(h todo).out;exact ⟨fr',v',Steps.trans harr h1,h2⟩
end
def zu {f:FuncId} {fn:Func} {a:Act} {k:List Item} (h1:Tryz.prog.funcs[f]? =some fn) (h2:PV.funcs[f]? =some fn) (hi:(k.all fun i=>wk i&&fdk i)=true) (hd:a.defers=[]):FrOk Tryz.prog rg ((base f).at a k):=by
 have hk: ∀ i∈k,wk i=true∧fdk i=true:=fun i hm=>by
    have:=f1x.1 hi i hm;simpa using this
 exact {
    kind:= .inl rfl
    todo:=fun i hi=>(hk i hi).1
    round:=fun i hi=>⟨fun hr=>(by cases hr),fun _=>(hk i hi).2⟩
    defers:=fun d hm=>by
     have:d∈a.defers:=hm;rw [hd] at this;cases this
    chain:=fun ch hm=>by cases hm
    fn:=fun _=>by rw [fl2] at h2;exact h1.trans h2.symm
    back:=fun hr=>by cases hr }
section
variable {Φ:Goal} {WS:Nat→Option SeatD} {Shun:Loc→Prop} {v:World} {N:Nat} {g:Goroutine} {cs:List Frame} {X:Frame}
def co_re {t:Nat→Question→Nat} {d:Nat} (h:Co Φ WS Shun (reW v t d) N g):Co Φ WS Shun v N g:=by
 rintro gs w T hN ⟨H,S,St,q,hlt,I,C,hD⟩;refine h gs w T hN ⟨H,S,St,q,hlt,⟨?_,I.prot,I.on,I.fix,I.sus,I.only,I.marks,I.who⟩,C,hD⟩;exact ⟨I.rel.size,I.rel.same,I.rel.laid,I.rel.os,I.rel.output,I.rel.objs,I.rel.kept,I.rel.chans⟩
def fge {Z:Frame→World→Prop} {fr:Frame} (hW:WsOk WS Shun) (hp: ∀ fr v,Z fr v→vt fr=false) (hok:FrOk Tryz.prog rg fr) (hk:fr.kind= .normal) (h: ∀ t d,RunTo Z fr (reW v t d)) (hcont: ∀ fr' v',Z fr' v'→Co Φ WS Shun v' N (G fr' cs)):Co Φ WS Shun v N (G fr cs):=by
 rintro gs w T hN ⟨H,S,St,q,hlt,I,C,hD⟩
 let Y:Frame→List Frame→World→Prop:=fun fr l v=>l=[]∧ ∃ t d,Z fr (reW v t d)
 have A:VS Tryz.prog rg Y:=vs (fun _ _ _ h=>h.1) fun fr l v hy=>by
    obtain ⟨rfl,t,d,hz⟩:=hy;rintro ⟨f,hf,hpan⟩;simp only [fy3,fz8,f0z] at hf;subst hf;rw [hp _ _ hz] at hpan;cases hpan
 have hR: ∀ fr l v t d,Y fr l v→Y fr l (reW v t d):=fun fr l v t d ⟨h1,t',d',h2⟩=>⟨h1,t',d',h2⟩
 have hstk:i5 PV rg [fr]:=fun f hf=>by
    simp only [fy3,fz8,f0z] at hf;subst hf;exact fis hok
 have hfin:Fin PV Y fr [] v:=by
    refine fdt A.fok A.code A.stopCalm hR hstk I.rel.objs fun t d=> ?_;obtain ⟨fr',v',⟨n,hn⟩,hz⟩:=(h t d).out;exact ⟨n,fr',[],v',hn,rfl,v'.tape,v'.drawn,hz⟩
 have L:Lv Tryz.prog rg Y (fr,[],v):=⟨hfin,hstk,I.rel.objs⟩;refine (lift lp A hR hW (s:=(fr,[],v)) hfin).1 Φ.fx vb H S St 0 [] none cs gs w T q rfl hok fi (fun y hy=>by simp at hy;subst hy;exact hk) hlt L I C hD ?_;intro fr' v' w' H' S' St' gs' T' q' hdesc hstop I' hsz C' hD';obtain ⟨_,t,d,hz⟩:=hstop;exact co_re (t:=t) (d:=d) (hcont fr' _ hz) gs' w' T' (hsz.trans hN) ⟨H',S',St',q',fun j s hj=>by rw [hsz];exact hlt j s hj,I',C',hD'⟩
variable {b:Frame} {a:Act} {k:List Item} {ops:Array Oper} {i:Nat} {rest:List Nat} {o:Oper}
def co_call {f:FuncId} {fn:Func} {c:Code} {args:Array Operand} {ats:Array TypeId} (ho:ops[i]? =some o) (hw:Region.wanted o (yielded ops a.tmps)=true) (hk:b.kind≠ .early) (hop:o.op= .call { callee:= .value (.func f),args:=args,argTypes:=ats })
    (hf:Tryz.prog.funcs[f]? =some fn) (hname:(fn.name== "runtime.NumGoroutine")=false) (hb:fn.body=some c) (h:Co Φ WS Shun v N (G (Frame.enter Tryz.prog f (args.map a.eval) .normal) (b.at a (.inRegion ops (i::rest)::k)::cs))):
    Co Φ WS Shun v N (G (b.at a (.inRegion ops (i::rest)::k)) cs):=co_wk (fmp ho hw hk hop hf hname hb (ug ⟨rfl,h⟩))
def fho {u:Value} (ho:ops[i]? =some o):ur .normal u (b.at a (.inRegion ops (i::rest)::k))=b.at (a.put o.dst u) (.inRegion ops rest::k):=by
 simp only [ur,f0e,Touch.on,f0i,ho];rfl
def fhp {fn:Func} {todo:List Item} {u:Value} (hk:b.kind= .normal) (hd:a.defers=[]) (hf:Tryz.prog.funcs[b.fn]? =some fn) (hr:ResultsC Tryz.prog fn a.tmps u) (h:Co Φ WS Shun v N (G (ur .normal u X) cs)):
    Co Φ WS Shun v N (G { b.at a todo with mode:= .returning } (X::cs)):=co_wk (faa (.inl hk) hd hf hr (ug ⟨rfl,by rw [hk];exact h⟩))
end
structure Fc (WS:Nat→Option SeatD) (Shun:Loc→Prop) (v:World) (N:Nat) (f:FuncId) (args:Array Value) (R:Value→(Nat→Option SeatD)→(Loc→Prop)→World→Nat→Prop):Prop where
 out: ∀ (Φ:Goal) (X:Frame) (cs:List Frame),(∀ x WS' Shun' v' N',R x WS' Shun' v' N'→Co Φ WS' Shun' v' N' (G (ur .normal x X) cs))→Co Φ WS Shun v N (G (Frame.enter Tryz.prog f args .normal) (X::cs))
def ea {f:FuncId} {fn:Func} {cd:Code} {args:Array Value} (hf:Tryz.prog.funcs[f]? =some fn) (hb:fn.body=some cd):
    Frame.enter Tryz.prog f args .normal=(base f).at { tmps:=args++Array.replicate (fn.ntmps-args.size) undef,defers:=[] } [.code cd]:=enter_at hf hb
end Go.Proofs.YtelecjnabeokeaaGreatDoor
namespace Go.Proofs.YtelecjnabeokeaaGreatDoor
open Go Go.Conc Go.RowKit
def und77:PV.underlying 77=some (.slice 86):=by kernel_rfl
def und46:PV.underlying 46=some (.slice 3):=by kernel_rfl
def inf86:(PV.info? 86).map (fun i=>(i.bytes,i.size))=some (48,4):=by kernel_rfl
def inf86z:(PV.info? 86).bind (fun i=>i.zero)=some (.agg #[.int .i64 0,.int .i64 0,.int .i64 0,.slice none 0 0]):=by kernel_rfl
def inf3:(PV.info? 3).map (fun i=>(i.bytes,i.size))=some (8,1):=by kernel_rfl
def inf3z:(PV.info? 3).bind (fun i=>i.zero)=some (.int .i64 0):=by kernel_rfl
def inf1:(PV.info? 1).map (fun i=>i.bytes)=some 8:=by kernel_rfl
def und78:PV.underlying 78=some (.chan .both 1):=by kernel_rfl
def mkEnds (n:Nat) (hn:n≤6) (w:World):(Instr.makeSlice 77 (.int .i64 (n:Int)) (.int .i64 (n:Int))).run PV w= .ok (.slice (some ⟨w.heap.size,0,none⟩) n n) (w.alloc (.cells (madeCells #[.int .i64 0,.int .i64 0,.int .i64 0,.slice none 0 0] (n*4)) 86)):=by
 obtain ⟨i,hi,hb,hs⟩: ∃ i,PV.info? 86=some i∧i.bytes=48∧i.size=4:=by
    have:=inf86;cases hi:PV.info? 86 with
    | none=>rw [hi] at this;cases this
    | some i=>rw [hi] at this;exact ⟨i,rfl,by simpa using this⟩
 have hz:i.zero=some (.agg #[.int .i64 0,.int .i64 0,.int .i64 0,.slice none 0 0]):=by have:=inf86z;rw [hi] at this;exact this
 rw [run_makeSlice w 77 86 i _ und77 hi hz .i64 .i64 n n fe fe (by rw [hs];omega) (by rw [hb];omega) fe,hs];rfl
def f6c (n:Nat) (hn:n≤6) (w:World):(Instr.makeSlice 46 (.int .i64 (n:Int)) (.int .i64 (n:Int))).run PV w= .ok (.slice (some ⟨w.heap.size,0,none⟩) n n) (w.alloc (.cells (madeCells #[.int .i64 0] (n*1)) 3)):=by
 obtain ⟨i,hi,hb,hs⟩: ∃ i,PV.info? 3=some i∧i.bytes=8∧i.size=1:=by
    have:=inf3;cases hi:PV.info? 3 with
    | none=>rw [hi] at this;cases this
    | some i=>rw [hi] at this;exact ⟨i,rfl,by simpa using this⟩
 have hz:i.zero=some (.int .i64 0):=by have:=inf3z;rw [hi] at this;exact this
 rw [run_makeSlice w 46 3 i _ und46 hi hz .i64 .i64 n n fe fe (by rw [hs];omega) (by rw [hb];omega) fe,hs];rfl
def fwc (w:World):(Instr.makeChan 78 (.int .i64 0)).run PV w= .ok (.chan (some w.heap.size)) (w.alloc (.chan 0 #[] false 0 0 false)):=by
 obtain ⟨i,hi,hs⟩: ∃ i,PV.info? 1=some i∧i.bytes=8:=by
    have:=inf1;cases hi:PV.info? 1 with
    | none=>rw [hi] at this;cases this
    | some i=>rw [hi] at this;exact ⟨i,rfl,by simpa using this⟩
 exact Conc.run_makeChan (show PV.underlying 78=_ from und78) hi .i64 0 fe fe
def pv18:PV.funcs[18]? =some Tryz.f18:=rd 18 _ _ Tryz.func18 fd fd rfl fd
def i4 (w:World) (o:Obj) (x:Nat):(w.alloc o).heap[x]? =if x=w.heap.size then some o else w.heap[x]? :=by
 show (w.heap.push o)[x]? =_;rw [f05]
def vp (w:World) (o:Obj):(w.alloc o).heap.size=w.heap.size+1:=by show (w.heap.push o).size=_;simp
def fer (w:World) (x:Nat):w.drew.heap[x]? =w.heap[x]? :=rfl
abbrev endZ (n:Nat):Array Value:=madeCells #[.int .i64 0,.int .i64 0,.int .i64 0,.slice none 0 0] (n*4)
abbrev ft0 (n:Nat):Array Value:=madeCells #[.int .i64 0] n
structure NewA (n:Nat) (v w:World) (bm es ns ch sb b:Nat):Prop where
 old:Bl v w
 ge:v.heap.size≤bm∧v.heap.size≤es∧v.heap.size≤ns∧v.heap.size≤ch∧v.heap.size≤sb∧v.heap.size≤b
 ne1:bm≠es∧bm≠ns∧bm≠ch∧bm≠sb∧bm≠b
 ne2:es≠ns∧es≠ch∧es≠sb∧es≠b
 ne3:ns≠ch∧ns≠sb∧ns≠b
 ne4:ch≠sb∧ch≠b∧sb≠b
 m_:w.heap[bm]? =some (.map #[] 0)
 e_:Bk w es 86 (endZ n)
 n_:Bk w ns 3 (ft0 n)
 c_:w.heap[ch]? =some (.chan 0 #[] false 0 0 false)
 s_:Bk w sb 80 #[.slice none 0 0,.slice none 0 0,.map (some bm),.slice (some ⟨es,0,none⟩) n n,.slice (some ⟨ns,0,none⟩) n n,.chan (some ch)]
 b_:Bk w b 75 #[.int .i32 0,.int .u32 0,.slice none 0 0,.pointer (some ⟨sb,0,none⟩),.int .i64 0,.bool false,.int .u64 0,.int .u32 0]
noncomputable def new4:Code:=match Tryz.f18.body with | some (.seq _ (.seq _ (.seq _ c)))=>c | _=> .skip
def new_a {Z:Frame→World→Prop} (n room:Nat) (hn1:1≤n) (hn6:n≤6) (hr1:1≤room) (hr16:room≤16) (v:World)
    (hk: ∀ (x2 x3 x7 x8 x9 x10 x11 x12 x13 x14 x15 x16 x17 x18 x19 x20 x21 x22 x23 x25 x27 x30 x32 x33 x34 x35 x36 x37 x38 x39 x40 x41 x42 x43 x44 x45 x46 x47 x48 x49 x50 x51 x52 x53 x54 x55 x56 x57 x58 x59 x60 x61 x62 x63 x64 x65 x66 x67 x68 x69 x70 x71 x72 x73 x74 x75 x76 x77 x78 x79 x80:Value) (bm es ns ch sb b:Nat) (w:World),NewA n v w bm es ns ch sb b→RunTo Z ((base 18).at ⟨(.int .i64 (n:Int):: .int .i64 (room:Int)::x2::x3:: .pointer none:: .nilIface:: .pointer (some ⟨b,0,none⟩)::x7::x8::x9::x10::x11::x12::x13::x14::x15::x16::x17::x18::x19::x20::x21::x22::x23:: .map (some bm)::x25:: .slice (some ⟨es,0,none⟩) n n::x27:: .slice (some ⟨ns,0,none⟩) n n:: .chan (some ch)::x30:: .pointer (some ⟨sb,0,none⟩)::x32::x33::x34::x35::x36::x37::x38::x39::x40::x41::x42::x43::x44::x45::x46::x47::x48::x49::x50::x51::x52::x53::x54::x55::x56::x57::x58::x59::x60::x61::x62::x63::x64::x65::x66::x67::x68::x69::x70::x71::x72::x73::x74::x75::x76::x77::x78::x79::x80::[]).toArray,[]⟩ [.code new4]) w):
    RunTo Z (Frame.enter Tryz.prog 18 #[.int .i64 (n:Int),.int .i64 (room:Int)] .normal) v:=by
 have h1:=fx6 (mkEnds n hn6);have h2:=fx6 (f6c n hn6);have hK:=fx6 hk;clear hk;rw [ea Tryz.func18 rfl];simp only [show Tryz.f18.ntmps=81 from rfl];walk_nrm;have e1: ¬ ((n:Int)<1):=by omega
 have e2: ¬ ((n:Int)>6):=by omega
 have e3: ¬ ((room:Int)<1):=by omega
 have e4: ¬ ((room:Int)>16):=by omega
 refine rl (rj ?_);go_wp2;refine rl (rj ?_);go_wp2;refine rl (rj ?_);have h3:=fwc;have h4: ∀ W,(Instr.makeMap 76 none).run PV W= .ok (.map (some W.heap.size)) (W.alloc (.map #[] 0)):=fun W=>run_makeMap 76 W;replace h1:=h1.out;replace h2:=h2.out
 go_region
 all_goals clear h1 h2 h3 h4
 all_goals (refine .inl ⟨rfl,hK.out _ _ _ _ _ _ _ _ _ _ _ _ _ _ _ _ _ _ _ _ _ _ _ _ _ _ _ _ _ _ _ _ _ _ _ _ _ _ _ _ _ _ _ _ _ _ _ _ _ _ _ _ _ _ _ _ _ _ _ _ _ _ _ _ _ _ _ _ _ _ _ _ _ _ _ _ _ _ ⟨ga,fe,fe,fe,fe,fe,f3z,⟨f3z⟩,⟨f3z⟩,f3z,⟨f3z⟩,⟨f3z⟩⟩⟩)
noncomputable def ft1:Code:=match new4 with | .seq c _=>c | _=> .skip
noncomputable def new5:Code:=match new4 with | .seq _ c=>c | _=> .skip
noncomputable def da:Code→Array Oper | .region _ ops _=>ops | _=> #[]
def ft2 (n room:Nat) (v:World) (fr:Frame) (w:World):Prop:=
 ∃ (x2 x3 x7 x8 x9 x10 x11 x12 x13 x14 x15 x16 x17 x18 x19 x20 x21 x22 x23 x24 x25 x26 x27 x28 x29 x30 x31 x32 x33 x35 x36 x37 x38 x39 x40 x42 x43 x44 x45 x46 x47 x48 x49 x50 x51 x52 x53 x54 x55 x56 x57 x58 x59 x60 x61 x62 x63 x64 x65 x66 x67 x68 x69 x70 x71 x72 x73 x74 x75 x76 x77 x78 x79 x80:Value) (bm es ns ch sb b:Nat),NewA n v w bm es ns ch sb b∧fr=(base 18).at ⟨(.int .i64 (n:Int):: .int .i64 (room:Int)::x2::x3:: .pointer none:: .nilIface:: .pointer (some ⟨b,0,none⟩)::x7::x8::x9::x10::x11::x12::x13::x14::x15::x16::x17::x18::x19::x20::x21::x22::x23::x24::x25::x26::x27::x28::x29::x30::x31::x32::x33:: .pointer (some ⟨b,0,none⟩)::x35::x36::x37::x38::x39::x40:: .chan (some ch)::x42::x43::x44::x45::x46::x47::x48::x49::x50::x51::x52::x53::x54::x55::x56::x57::x58::x59::x60::x61::x62::x63::x64::x65::x66::x67::x68::x69::x70::x71::x72::x73::x74::x75::x76::x77::x78::x79::x80::[]).toArray,[]⟩ [.inRegion (da ft1) [8],.code new5]
def new_1 (n room:Nat) (hn1:1≤n) (hn6:n≤6) (hr1:1≤room) (hr16:room≤16) (v:World):RunTo (ft2 n room v) (Frame.enter Tryz.prog 18 #[.int .i64 (n:Int),.int .i64 (room:Int)] .normal) v:=by
 refine new_a n room hn1 hn6 hr1 hr16 v ?_;intro x2 x3 x7 x8 x9 x10 x11 x12 x13 x14 x15 x16 x17 x18 x19 x20 x21 x22 x23 x25 x27 x30 x32 x33 x34 x35 x36 x37 x38 x39 x40 x41 x42 x43 x44 x45 x46 x47 x48 x49 x50 x51 x52 x53 x54 x55 x56 x57 x58 x59 x60 x61 x62 x63 x64 x65 x66 x67 x68 x69 x70 x71 x72 x73 x74 x75 x76 x77 x78 x79 x80 bm es ns ch sb b w hA;obtain ⟨c0,d0⟩:=hA.b_.ceF;obtain ⟨c1,d1⟩:=hA.s_.ceF;have hL:=fx6 hA;clear hA;refine rl (yt ?_);simp only [szs];refine uy rfl rfl (u:= .pointer (some ⟨b,0,none⟩)) (v1:=w) gw ?_;walk_nrm;refine uy rfl rfl (u:= .pointer (some ⟨b,0,none⟩)) (v1:=w) gw ?_;walk_nrm;refine uy rfl rfl (u:= .pointer (some ⟨b,0,none⟩)) (v1:=w) gw ?_;walk_nrm;refine uy rfl rfl (u:= .pointer (some ⟨b,3,none⟩)) (v1:=w) gw ?_;walk_nrm;refine uy rfl rfl (u:= .pointer (some ⟨sb,0,none⟩)) (v1:=w) gw ?_;walk_nrm;refine uy rfl rfl (u:= .pointer (some ⟨sb,0,none⟩)) (v1:=w) gw ?_;walk_nrm;refine uy rfl rfl (u:= .pointer (some ⟨sb,5,none⟩)) (v1:=w) gw ?_;walk_nrm;refine uy rfl rfl (u:= .chan (some ch)) (v1:=w) gw ?_;walk_nrm;exact zt ⟨_,_,_,_,_,_,_,_,_,_,_,_,_,_,_,_,_,_,_,_,_,_,_,_,_,_,_,_,_,_,_,_,_,_,_,_,_,_,_,_,_,_,_,_,_,_,_,_,_,_,_,_,_,_,_,_,_,_,_,_,_,_,_,_,_,_,_,_,_,_,_,_,_,_,bm,es,ns,ch,sb,b,hL.out,rfl⟩
def RtQ (Z:Frame→World→Prop) (b:Frame) (k:List Item):Exit→Act→World→Prop
 | .normal,a,v=>RunTo Z (b.at a k) v
 | .ret,a,v=> ∀ todo,RunTo Z { b.at a todo with mode:= .returning } v
 | _,_,_=>False
def ig (w:World):w.drew.heap.size=w.heap.size:=rfl
def rt_q {Z:Frame→World→Prop} {b:Frame} {k:List Item} {c:Code} {a:Act} {v:World} (h:c.wp PV (RtQ Z b k) a v):RunTo Z (b.at a (.code c::k)) v:=by
 refine rj (wp_mono h fun e a' v' h=> ?_);cases e with
 | normal=>exact .inl ⟨rfl,h⟩
 | ret=>exact .inr ⟨rfl,h⟩
 | _=>exact h.elim
def rt_n {Z:Frame→World→Prop} {b:Frame} {k:List Item} {a:Act} {v:World} (h:RunTo Z (b.at a k) v):RtQ Z b k .normal a v:=h
noncomputable def ft3:Code:=match new5 with | .seq (.seq _ (.block _ (.loop c))) _=>c | _=> .skip
noncomputable def new13:Code:=match new5 with | .seq _ c=>c | _=> .skip
abbrev nilS:Value:= .slice none 0 0
def V0:Vals:=⟨fun _=>nilS,fun _=>nilS,fun _=>nilS,nilS,nilS⟩
def cl0:Plain.Cl:=⟨[],0,⟨0,0,0,[]⟩,0,[],[]⟩
def fes (n room i:Nat) (L:Lay) (fr:Frame):Prop:=
 ∃ (x2 x3 x7 x8 x9 x10 x11 x12 x13 x14 x15 x16 x17 x18 x19 x20 x21 x22 x23 x24 x25 x26 x27 x28 x29 x30 x31 x32 x33 x34 x35 x36 x37 x38 x39 x40 x41 x42 x45 x46 x47 x48 x49 x50 x51 x52 x53 x54 x55 x56 x57 x58 x59 x60 x61 x62 x63 x64 x65 x66 x67 x68 x69 x70 x71 x72 x73 x74 x75 x76 x77 x78 x79 x80:Value),fr=(base 18).at ⟨(.int .i64 (n:Int):: .int .i64 (room:Int)::x2::x3:: .pointer none:: .nilIface:: .pointer (some ⟨L.b,0,none⟩)::x7::x8::x9::x10::x11::x12::x13::x14::x15::x16::x17::x18::x19::x20::x21::x22::x23::x24::x25::x26::x27::x28::x29::x30::x31::x32::x33::x34::x35::x36::x37::x38::x39::x40::x41::x42:: .int .i64 (n:Int):: .int .i64 (i:Int)::x45::x46::x47::x48::x49::x50::x51::x52::x53::x54::x55::x56::x57::x58::x59::x60::x61::x62::x63::x64::x65::x66::x67::x68::x69::x70::x71::x72::x73::x74::x75::x76::x77::x78::x79::x80::[]).toArray,[]⟩ [.code ft3,.inLoop ft3,.inBlock 0,.code new13]
structure NewK (i room:Nat) (w w':World) (k uc dc ch:Nat):Prop where
 old:Bl w w'
 ge:w.heap.size≤k∧w.heap.size≤uc∧w.heap.size≤dc∧w.heap.size≤ch
 ne1:k≠uc∧k≠uc+1∧k≠dc∧k≠dc+1∧k≠ch
 ne2:uc≠dc∧uc≠dc+1∧uc≠ch
 ne3:uc+1≠dc∧uc+1≠ch
 ne4:dc≠ch∧dc+1≠ch
 k_:Bk w' k 89 #[.int .i64 (i:Int),nilS,.int .i64 0,.int .i64 0,.int .i64 0,.int .i64 0,nilS,.pointer (some ⟨uc+1,0,none⟩),.pointer (some ⟨dc+1,0,none⟩),.int .i64 0,.chan (some ch)]
 up:Lnk w' (uc+1) uc room []
 dn:Lnk w' (dc+1) dc room []
 c_:w'.heap[ch]? =some (.chan 0 #[] false 0 0 false)
noncomputable def newB1:Code:=match ft3 with | .seq _ (.seq _ (.seq (.block _ c) _))=>c | _=> .skip
noncomputable def new12:Code:=match ft3 with | .seq _ (.seq _ (.seq _ c))=>c | _=> .skip
noncomputable def new9:Code:=match newB1 with | .seq _ (.seq _ c)=>c | _=> .skip
noncomputable def fp5:List Item:=[.inBlock 1,.code new12,.inLoop ft3,.inBlock 0,.code new13]
def new_2 {Z:Frame→World→Prop} (n room i:Nat) (L:Lay) (hi:i<n) (hn6:n≤6) (hr1:1≤room) (hr16:room≤16) (w:World) {fr:Frame} (hfr:fes n room i L fr)
    (hk: ∀ (x2 x3 x9 x10 x11 x12 x13 x14 x15 x16 x17 x18 x19 x20 x21 x22 x23 x24 x25 x26 x27 x28 x29 x30 x31 x32 x33 x34 x35 x36 x37 x38 x39 x40 x41 x42 x45 x46 x47 x48 x50 x53 x54 x55 x56 x57 x58 x59 x60 x61 x62 x63 x64 x65 x66 x67 x68 x69 x70 x71 x72 x73 x74 x75 x76 x77 x78 x79 x80:Value) (k uc dc ch:Nat) (w':World),NewK i room w w' k uc dc ch→RunTo Z ((base 18).at ⟨(.int .i64 (n:Int):: .int .i64 (room:Int)::x2::x3:: .pointer none:: .nilIface:: .pointer (some ⟨L.b,0,none⟩):: .int .i64 (i:Int):: .pointer (some ⟨k,0,none⟩)::x9::x10::x11::x12::x13::x14::x15::x16::x17::x18::x19::x20::x21::x22::x23::x24::x25::x26::x27::x28::x29::x30::x31::x32::x33::x34::x35::x36::x37::x38::x39::x40::x41::x42:: .int .i64 (n:Int):: .int .i64 (i:Int)::x45::x46::x47::x48:: .pointer (some ⟨uc+1,0,none⟩)::x50:: .pointer (some ⟨dc+1,0,none⟩):: .chan (some ch)::x53::x54::x55::x56::x57::x58::x59::x60::x61::x62::x63::x64::x65::x66::x67::x68::x69::x70::x71::x72::x73::x74::x75::x76::x77::x78::x79::x80::[]).toArray,[]⟩ (.code new9::fp5)) w'):RunTo Z fr w:=by
 obtain ⟨x2,x3,x7,x8,x9,x10,x11,x12,x13,x14,x15,x16,x17,x18,x19,x20,x21,x22,x23,x24,x25,x26,x27,x28,x29,x30,x31,x32,x33,x34,x35,x36,x37,x38,x39,x40,x41,x42,x45,x46,x47,x48,x49,x50,x51,x52,x53,x54,x55,x56,x57,x58,x59,x60,x61,x62,x63,x64,x65,x66,x67,x68,x69,x70,x71,x72,x73,x74,x75,x76,x77,x78,x79,x80,rfl⟩:=hfr;have e1:(i:Int)<n:=by omega
 have hNL:=fx6 (fun W=>newlink room W fe);have h3:=fx6 fwc;have hK:=fx6 hk;clear hk;refine rl (rj ?_);go_wp2;refine rl (ya (t:=true) rfl (bo (rl (yv (rl (rj ?_))))));go_wp2;refine rl (rt_q ?_);replace h3:=h3.out
 go_region_with (first | (go_at_call 38;refine (hNL.out _).mono ?_;rintro e w1 ⟨rfl,hL1,hB1⟩;replace hL1:=fx6 hL1;replace hB1:=fx6 hB1))
 all_goals clear h3 hNL
 all_goals walk_nrm
 all_goals rename_i wa hLa hBa
 all_goals (have la:=hLa.out.lb.lt;have lb:=hL1.out.lb.lt;have sa:=hBa.out.size;have sb:=hB1.out.size)
 all_goals try simp only [ig,vp] at la lb sa sb
 all_goals (have hA2:=hLa.out;have hC2:=hL1.out)
 all_goals try simp only [ig,vp] at hA2
 all_goals try simp only [ig,vp] at hC2
 all_goals exact rt_n (hK.out _ _ _ _ _ _ _ _ _ _ _ _ _ _ _ _ _ _ _ _ _ _ _ _ _ _ _ _ _ _ _ _ _ _ _ _ _ _ _ _ _ _ _ _ _ _ _ _ _ _ _ _ _ _ _ _ _ _ _ _ _ _ _ _ _ _ _ _ _ _ _ _ _ _ ⟨gn,f4g,f4g,f4g,f4g,f4g,Bk.nw (by first | rfl | exact vp _ _),(hA2.bl gn),(hC2.bl gn),(by
    rw [i4]
    first
     | (rw [fx9 (by simp only [vp];omega),i4,f02 rfl];done)
     | (rw [fx9 fe];exact (hB1.out.block _ (by simp only [vp];omega)).trans (by rw [i4,f02 rfl]))
     | (rw [fx9 fe];exact (hB1.out.block _ fe).trans ((hBa.out.block _ (by simp only [ig,vp];omega)).trans (by rw [fer,i4,f02 rfl]))))⟩)
structure Part (n room i m j:Nat) (L:Lay) (ow:Nat→Nat) (n0:Nat) (w:World):Prop where
 base:Base w
 n12:12≤n0
 low: ∀ x,x<n0→ow x=0
 le:n0≤w.heap.size
 fresh: ∀ x,w.heap.size≤x→ow x=0
 tag:Tags L V0 i ow
 bb:Bk w L.b 75 #[.int .i32 0,.int .u32 0,L.cls,.pointer (some ⟨L.sb,0,none⟩),.int .i64 0,.bool false,.int .u64 ((m:Nat)*K32),.int .u32 0]
 ss:Bk w L.sb 80 (srvC L n nilS nilS)
 ee:Bk w L.eb 86 (endZ n)
 nn:Bk w L.nb 3 (ft0 n)
 mp:Mp w L.mb i (fun _=>0)
 ar:w.ownsRow 0 83 1 L.cls i (clsL L i)
 kk: ∀ c,c<i→Bk w (L.kb c) 89 (cliC L c nilS nilS cl0)
 up: ∀ c,c<i→Lnk w (L.ul c) (L.uc c) room []
 dn: ∀ c,c<i→Lnk w (L.dl c) (L.dc c) room []
 m0:MarkAt w L.c0
 ms: ∀ c,c<j→MarkAt w (L.wc c)
def MarkAt.lt' {v:World} {c:Nat} (h:MarkAt v c):c<v.heap.size:=by
 obtain ⟨x,s,r,h⟩:=h;exact (fx5.1 h).1
def fb9 (L:Lay) (i k uc dc ch g cap:Nat):Lay:=
 { L with cls:= .slice (some ⟨g,0,none⟩) (i+1) cap,kb:=Plain.put L.kb i k,ul:=Plain.put L.ul i (uc+1),uc:=Plain.put L.uc i uc,dl:=Plain.put L.dl i (dc+1),dc:=Plain.put L.dc i dc,wc:=Plain.put L.wc i ch }
def zz (ow:Nat→Nat) (i k uc dc ch g:Nat) (x:Nat):Nat:=
 if x=k then 16*i+16 else if x=uc+1 then 16*i+17 else if x=uc then 16*i+18 else if x=dc+1 then 16*i+19 else if x=dc then 16*i+20 else if x=ch then 16*i+21 else if x=g then 9 else ow x
def fk3 {ow:Nat→Nat} {i k uc dc ch g x:Nat} (h1:x≠k) (h2:x≠uc+1) (h3:x≠uc) (h4:x≠dc+1) (h5:x≠dc) (h6:x≠ch) (h7:x≠g):zz ow i k uc dc ch g x=ow x:=by
 simp only [zz,fx9 h1,fx9 h2,fx9 h3,fx9 h4,fx9 h5,fx9 h6,fx9 h7]
section
variable {n room i m j:Nat} {L:Lay} {ow:Nat→Nat} {n0:Nat} {w w1 w2:World} {k uc dc ch g cap:Nat}
def ft4 (L:Lay) (i k uc dc ch g cap:Nat):clsL (fb9 L i k uc dc ch g cap) (i+1)=clsL L i++[.pointer (some ⟨k,0,none⟩)]:=by
 unfold clsL;rw [List.range_succ,List.map_append]
 congr 1
 · apply f5j;intro c hc;have:=f2s.1 hc;simp only [fb9,Plain.put_ne _ _ (show c≠i by omega)]
 · simp [fb9,Plain.put_same]
def ft5 (hi:i<n) (hn:n≤6) (hP:Part n room i m j L ow n0 w) (hN:NewK i room w w1 k uc dc ch) (hj:j≤i)
    (hC:Ch (fun x=>x=L.mb∨x=L.b∨L.cls.ownBlock=some x) w1 w2)
    (hbb:Bk w2 L.b 75 #[.int .i32 0,.int .u32 0,.slice (some ⟨g,0,none⟩) (i+1) cap,.pointer (some ⟨L.sb,0,none⟩),.int .i64 0,.bool false,.int .u64 ((m:Nat)*K32),.int .u32 0])
    (hmp:Mp w2 L.mb (i+1) (Plain.put (fun _=>0) i 0)) (har:w2.ownsRow 0 83 1 (.slice (some ⟨g,0,none⟩) (i+1) cap) (i+1) (clsL L i++[.pointer (some ⟨k,0,none⟩)]))
    (hg:L.cls.ownBlock=some g∨w1.heap.size≤g) (hgl:g<w2.heap.size):
    Part n room (i+1) m j (fb9 L i k uc dc ch g cap) (zz ow i k uc dc ch g) n0 w2∧w2.heap[ch]? =some (.chan 0 #[] false 0 0 false):=by
 obtain ⟨g1,g2,g3,g4⟩:=hN.ge;obtain ⟨a1,a2,a3,a4,a5⟩:=hN.ne1;obtain ⟨b1,b2,b3⟩:=hN.ne2;obtain ⟨c1,c2⟩:=hN.ne3;obtain ⟨d1,d2⟩:=hN.ne4;have T:=hP.tag;have lk:=hN.k_.lt;have lu:=hN.up.lb.lt;have ld:=hN.dn.lb.lt;have lc:ch<w1.heap.size:=(fx5.1 hN.c_).1;have hs1:=hN.old.size;have hs2:=hC.size
 have hold: ∀ x,ow x≠0→x<w.heap.size:=fun x hx=>by
    rcases f01 x w.heap.size with h | h
    · exact h
    · exact absurd (hP.fresh x h) hx
 have hgO:g<w.heap.size→ow g=9:=fun h=>by
    rcases hg with h' | h'
    · exact T.ar g h'
    · omega
 have hgN:g<w.heap.size∨w1.heap.size≤g:=by
    rcases hg with h' | h'
    · exact .inl (hold g (by rw [T.ar g h'];omega))
    · exact .inr h'
 have old: ∀ x,x<w.heap.size→zz ow i k uc dc ch g x=ow x:=fun x hx=>by
    by_cases e:x=g
    · subst e;have:=hgO hx;simp only [zz,fx9 (show x≠k by omega),fx9 (show x≠uc+1 by omega),fx9 (show x≠uc by omega),fx9 (show x≠dc+1 by omega),fx9 (show x≠dc by omega),fx9 (show x≠ch by omega),f0e,this]
    · exact fk3 fe fe fe fe fe fe e
 have tk:zz ow i k uc dc ch g k=16*i+16:=by simp [zz]
 have tul:zz ow i k uc dc ch g (uc+1)=16*i+17:=by simp only [zz,fx9 (show uc+1≠k by omega),f0e]
 have tuc:zz ow i k uc dc ch g uc=16*i+18:=by simp only [zz,fx9 (show uc≠k by omega),fx9 (show uc≠uc+1 by omega),f0e]
 have tdl:zz ow i k uc dc ch g (dc+1)=16*i+19:=by simp only [zz,fx9 (show dc+1≠k by omega),fx9 (show dc+1≠uc+1 by omega),fx9 (show dc+1≠uc by omega),f0e]
 have tdc:zz ow i k uc dc ch g dc=16*i+20:=by simp only [zz,fx9 (show dc≠k by omega),fx9 (show dc≠uc+1 by omega),fx9 (show dc≠uc by omega),fx9 (show dc≠dc+1 by omega),f0e]
 have tch:zz ow i k uc dc ch g ch=16*i+21:=by simp only [zz,fx9 (show ch≠k by omega),fx9 (show ch≠uc+1 by omega),fx9 (show ch≠uc by omega),fx9 (show ch≠dc+1 by omega),fx9 (show ch≠dc by omega),f0e]
 have tg:zz ow i k uc dc ch g g=9:=by
    rcases hgN with h | h
    · rw [old g h];exact hgO h
    · simp only [zz,fx9 (show g≠k by omega),fx9 (show g≠uc+1 by omega),fx9 (show g≠uc by omega),fx9 (show g≠dc+1 by omega),fx9 (show g≠dc by omega),fx9 (show g≠ch by omega),f0e]
 have nz: ∀ x y,ow x=y→y≠0→x<w.heap.size:=fun x y h hy=>hold x (by rw [h];exact hy)
 have keep1: ∀ x,x<w.heap.size→ow x≠5→ow x≠1→ow x≠9→w2.heap[x]? =w.heap[x]? :=fun x hx h5 h1 h9=>by
    refine (hC.block x fe ?_).trans (hN.old.block x hx);rintro (rfl | rfl | h)
    · exact h5 T.mb
    · exact h1 T.b
    · exact h9 (T.ar x h)
 have keep2: ∀ x,w.heap.size≤x→x<w1.heap.size→w2.heap[x]? =w1.heap[x]? :=fun x hx hx'=>by
    refine hC.block x hx' ?_;rintro (rfl | rfl | h)
    · have:=nz _ _ T.mb fe;omega
    · have:=nz _ _ T.b fe;omega
    · have:=nz _ _ (T.ar x h) fe;omega
 have keptB: ∀ {x t cs},Bk w x t cs→ow x≠5→ow x≠1→ow x≠9→Bk w2 x t cs:=fun hb h5 h1 h9=>⟨(keep1 _ hb.lt h5 h1 h9).trans hb.at_⟩
 have keptL: ∀ {l c U},Lnk w l c room U→ow l≠5→ow l≠1→ow l≠9→ow c≠5→ow c≠1→ow c≠9→Lnk w2 l c room U:=fun hl h5 h1 h9 k5 k1 k9=>⟨keptB hl.lb h5 h1 h9,by
    obtain ⟨s,r,h⟩:=hl.ch;exact ⟨s,r,(keep1 _ (fx5.1 h).1 k5 k1 k9).trans h⟩⟩
 refine ⟨?_,(keep2 ch fe lc).trans hN.c_⟩;refine ⟨?_,hP.n12,fun x hx=> ?_,by have:=hP.le;omega,fun x hx=> ?_,?_,hbb,?_,?_,?_,?_,?_,?_,?_,?_,?_,?_⟩
 · obtain ⟨⟨t0,q0,h0⟩,⟨t1,q1,h1⟩⟩:=hP.base;have z0:=T.lo 0 fe;have z1:=T.lo 1 fe;exact ⟨⟨t0,q0,keptB h0 fe fe fe⟩,⟨t1,q1,keptB h1 fe fe fe⟩⟩
 · have:=hP.le;rw [old x fe];exact hP.low x hx
 · rw [fk3 fe fe fe fe fe fe fe];exact hP.fresh x fe
 · have ld': ∀ x y,ow x=y+1→zz ow i k uc dc ch g x=y+1:=fun x y h=>by rw [old x (nz x _ h fe)];exact h
   have pick: ∀ {f:Nat→Nat} {y:Nat} {o:Nat},(∀ c,c<i→ow (f c)=16*c+o)→16≤o→zz ow i k uc dc ch g y=16*i+o→ ∀ c,c<i+1→zz ow i k uc dc ch g (Plain.put f i y c)=16*c+o:=fun {f y o} h ho hy c hc=>by
    by_cases e:c=i
    · subst e;rw [Plain.put_same];exact hy
    · rw [Plain.put_ne _ _ e,old _ (nz _ _ (h c fe) fe)];exact h c fe
   refine ⟨fun x hx=> ?_,ld' _ _ T.b,ld' _ _ T.sb,ld' _ _ T.eb,ld' _ _ T.nb,ld' _ _ T.mb,ld' _ _ T.c0,fun x hx=>pl,fun x hx=> ?_,pick T.kb fe tk,pick T.ul fe tul,pick T.uc fe tuc,pick T.dl fe tdl,pick T.dc fe tdc,pick T.wc fe tch,fun c _ x hx=>pl,fun c _ x hx=>pl⟩
   · have:=hP.n12;have:=hP.le;rw [old x fe];exact T.lo x hx
   · obtain rfl:g=x:=by simpa [fb9,Value.ownBlock] using hx
     exact tg
 · exact keptB hP.ss (by have:=T.sb;show ow L.sb≠5;omega) (by have:=T.sb;show ow L.sb≠1;omega) (by have:=T.sb;show ow L.sb≠9;omega)
 · exact keptB hP.ee (by have:=T.eb;show ow L.eb≠5;omega) (by have:=T.eb;show ow L.eb≠1;omega) (by have:=T.eb;show ow L.eb≠9;omega)
 · exact keptB hP.nn (by have:=T.nb;show ow L.nb≠5;omega) (by have:=T.nb;show ow L.nb≠1;omega) (by have:=T.nb;show ow L.nb≠9;omega)
 · exact hmp.cv fun c hc=>by
    by_cases e:c=i
    · subst e;rw [Plain.put_same]
    · rw [Plain.put_ne _ _ e]
 · rw [ft4];exact har
 · intro c hc;by_cases e:c=i
   · subst e;show Bk w2 (Plain.put L.kb c k c) 89 (cliC (fb9 L c k uc dc ch g cap) c nilS nilS cl0);rw [Plain.put_same];refine Bk.cv ⟨(keep2 k g1 lk).trans hN.k_.at_⟩ ?_;simp [cliC,fb9,Plain.put_same,cl0]
   · show Bk w2 (Plain.put L.kb i k c) 89 (cliC (fb9 L i k uc dc ch g cap) c nilS nilS cl0);rw [Plain.put_ne _ _ e];have hc':c<i:=by omega
     have ht:=T.kb c hc';refine Bk.cv (keptB (hP.kk c hc') fe fe fe) ?_;simp [cliC,fb9,Plain.put_ne _ _ e]
 · intro c hc;by_cases e:c=i
   · subst e;show Lnk w2 (Plain.put L.ul c (uc+1) c) (Plain.put L.uc c uc c) room [];rw [Plain.put_same,Plain.put_same];refine ⟨⟨(keep2 (uc+1) fe lu).trans hN.up.lb.at_⟩,?_⟩;obtain ⟨s,r,h⟩:=hN.up.ch;exact ⟨s,r,(keep2 uc g2 fe).trans h⟩
   · show Lnk w2 (Plain.put L.ul i (uc+1) c) (Plain.put L.uc i uc c) room [];rw [Plain.put_ne _ _ e,Plain.put_ne _ _ e];have hc':c<i:=by omega
     have ht:=T.ul c hc';have ht':=T.uc c hc';exact keptL (hP.up c hc') fe fe fe fe fe fe
 · intro c hc;by_cases e:c=i
   · subst e;show Lnk w2 (Plain.put L.dl c (dc+1) c) (Plain.put L.dc c dc c) room [];rw [Plain.put_same,Plain.put_same];refine ⟨⟨(keep2 (dc+1) fe ld).trans hN.dn.lb.at_⟩,?_⟩;obtain ⟨s,r,h⟩:=hN.dn.ch;exact ⟨s,r,(keep2 dc g3 fe).trans h⟩
   · show Lnk w2 (Plain.put L.dl i (dc+1) c) (Plain.put L.dc i dc c) room [];rw [Plain.put_ne _ _ e,Plain.put_ne _ _ e];have hc':c<i:=by omega
     have ht:=T.dl c hc';have ht':=T.dc c hc';exact keptL (hP.dn c hc') fe fe fe fe fe fe
 · have:=T.c0;exact hP.m0.to (keep1 _ hP.m0.lt' (by show ow L.c0≠5;omega) (by show ow L.c0≠1;omega) (by show ow L.c0≠9;omega))
 · intro c hc;show MarkAt w2 (Plain.put L.wc i ch c);rw [Plain.put_ne _ _ (show c≠i by omega)];have ht:=T.wc c fe;exact (hP.ms c hc).to (keep1 _ (hP.ms c hc).lt' fe fe fe)
end
section
variable {n room i:Nat} {L:Lay} {ow:Nat→Nat} {n0:Nat} {w w1 w2 v:World}
def StartV.keep {b k m:Nat} (h:StartV b k m w w1): ∀ x,x<w.heap.size→x≠b→x≠k→w1.heap[x]? =w.heap[x]? :=h.same
def fk4 (hi:i<n) (hP:Part n room (i+1) (i+1) i L ow n0 w) (hS:StartV L.b (L.wc i) (i+1) w w1):Part n room (i+1) (i+2) (i+1) L ow n0 w1:=by
 have T:=hP.tag;have hk:ow (L.wc i)=16*i+21:=T.wc i fe;have keep: ∀ x,x<w.heap.size→ow x≠1→ow x≠16*i+21→w1.heap[x]? =w.heap[x]? :=fun x hx h1 h2=>hS.same x hx (fun e=>h1 (by rw [e];exact T.b)) (fun e=>h2 (by rw [e];exact hk));have keptB: ∀ {x t cs},Bk w x t cs→ow x≠1→ow x≠16*i+21→Bk w1 x t cs:=fun hb h1 h2=>⟨(keep _ hb.lt h1 h2).trans hb.at_⟩
 have keptL: ∀ {l c U},Lnk w l c room U→ow l≠1→ow l≠16*i+21→ow c≠1→ow c≠16*i+21→Lnk w1 l c room U:=fun hl h1 h2 h3 h4=>⟨keptB hl.lb h1 h2,by
    obtain ⟨s,r,h⟩:=hl.ch;exact ⟨s,r,(keep _ (fx5.1 h).1 h3 h4).trans h⟩⟩
 have tsb:=T.sb;have teb:=T.eb;have tnb:=T.nb;have tmb:=T.mb;have tc0:=T.c0;have z0:=T.lo 0 fe;have z1:=T.lo 1 fe;refine ⟨?_,hP.n12,hP.low,by have:=hP.le;have:=hS.size;omega,fun x hx=>hP.fresh x (by have:=hS.size;omega),T,?_,?_,?_,?_,?_,?_,?_,?_,?_,?_,?_⟩
 · obtain ⟨⟨t0,q0,h0⟩,⟨t1,q1,h1⟩⟩:=hP.base;exact ⟨⟨t0,q0,keptB h0 fe fe⟩,⟨t1,q1,keptB h1 fe fe⟩⟩
 · have:=hS.ses _ _ hP.bb.at_;exact ⟨this⟩
 · exact keptB hP.ss fe fe
 · exact keptB hP.ee fe fe
 · exact keptB hP.nn fe fe
 · exact ⟨(keep _ hP.mp.lt fe fe).trans hP.mp.at_⟩
 · refine ⟨hP.ar.1,?_⟩;rcases hP.ar.2 with h | ⟨g,cap,cur,h1,h2,h3,h4⟩
   · exact .inl h
   · have hg:=T.ar g (by rw [h1];rfl);exact .inr ⟨g,cap,cur,h1,h2,(keep g (fx5.1 h3).1 fe fe).trans h3,h4⟩
 · intro c hc;have:=T.kb c hc;exact keptB (hP.kk c hc) fe fe
 · intro c hc;have:=T.ul c hc;have:=T.uc c hc;exact keptL (hP.up c hc) fe fe fe fe
 · intro c hc;have:=T.dl c hc;have:=T.dc c hc;exact keptL (hP.dn c hc) fe fe fe fe
 · exact hP.m0.to (keep _ hP.m0.lt' fe fe)
 · intro c hc;by_cases e:c=i
   · subst e;exact ⟨_,_,_,hS.mark⟩
   · have:=T.wc c fe;exact (hP.ms c fe).to (keep _ (hP.ms c fe).lt' fe fe)
def L0 (b sb es ns bm ch:Nat):Lay:=⟨b,sb,es,ns,bm,ch,nilS,.int .u32 0,.int .u64 0,.int .u32 0,fun _=>0,fun _=>0,fun _=>0,fun _=>0,fun _=>0,fun _=>0⟩
def O0 (b sb es ns bm ch:Nat) (x:Nat):Nat:=if x=b then 1 else if x=sb then 2 else if x=es then 3 else if x=ns then 4 else if x=bm then 5 else if x=ch then 6 else 0
def fp6 {bm es ns ch sb b:Nat} (hb:Base v) (h12:12≤v.heap.size) (hA:NewA n v w bm es ns ch sb b) (hS:StartV b ch 0 w w1):
    Part n room 0 1 0 (L0 b sb es ns bm ch) (O0 b sb es ns bm ch) v.heap.size w1:=by
 obtain ⟨g1,g2,g3,g4,g5,g6⟩:=hA.ge;obtain ⟨a1,a2,a3,a4,a5⟩:=hA.ne1;obtain ⟨b1,b2,b3,b4⟩:=hA.ne2;obtain ⟨c1,c2,c3⟩:=hA.ne3;obtain ⟨d1,d2,d3⟩:=hA.ne4;have l1:=(fx5.1 hA.m_).1;have l2:=hA.e_.lt;have l3:=hA.n_.lt;have l4:=(fx5.1 hA.c_).1;have l5:=hA.s_.lt;have l6:=hA.b_.lt;have hsz:=hA.old.size;have hs2:=hS.size
 have zero: ∀ x,x≠b→x≠sb→x≠es→x≠ns→x≠bm→x≠ch→O0 b sb es ns bm ch x=0:=fun x h1 h2 h3 h4 h5 h6=>by
    simp only [O0,fx9 h1,fx9 h2,fx9 h3,fx9 h4,fx9 h5,fx9 h6]
 have keptO: ∀ {x t cs},Bk v x t cs→Bk w1 x t cs:=fun {x t cs} hb=>⟨by
    have:=hb.lt;rw [hS.same x fe fe fe,hA.old.block x fe];exact hb.at_⟩
 refine ⟨?_,h12,fun x hx=>zero x fe fe fe fe fe fe,by omega,fun x hx=>zero x fe fe fe fe fe fe,?_,?_,?_,?_,?_,?_,?_,fun c hc=>by omega,fun c hc=>by omega,fun c hc=>by omega,?_,fun c hc=>by omega⟩
 · obtain ⟨⟨t0,q0,h0⟩,⟨t1,q1,h1⟩⟩:=hb;exact ⟨⟨t0,q0,keptO h0⟩,⟨t1,q1,keptO h1⟩⟩
 · refine ⟨fun x hx=>zero x fe fe fe fe fe fe,?_,?_,?_,?_,?_,?_,fun x hx=>pl,fun x hx=>pl,fun c hc=>by omega,fun c hc=>by omega,fun c hc=>by omega,fun c hc=>by omega,fun c hc=>by omega,fun c hc=>by omega,fun c _ x hx=>pl,fun c _ x hx=>pl⟩
   · simp [O0,L0]
   · simp only [O0,L0,fx9 (show sb≠b by omega),f0e]
   · simp only [O0,L0,fx9 (show es≠b by omega),fx9 (show es≠sb by omega),f0e]
   · simp only [O0,L0,fx9 (show ns≠b by omega),fx9 (show ns≠sb by omega),fx9 (show ns≠es by omega),f0e]
   · simp only [O0,L0,fx9 (show bm≠b by omega),fx9 (show bm≠sb by omega),fx9 (show bm≠es by omega),fx9 (show bm≠ns by omega),f0e]
   · simp only [O0,L0,fx9 (show ch≠b by omega),fx9 (show ch≠sb by omega),fx9 (show ch≠es by omega),fx9 (show ch≠ns by omega),fx9 (show ch≠bm by omega),f0e]
 · have:=hS.ses _ _ hA.b_.at_;exact ⟨this⟩
 · exact ⟨(hS.same sb l5 fe fe).trans hA.s_.at_⟩
 · exact ⟨(hS.same es l2 fe fe).trans hA.e_.at_⟩
 · exact ⟨(hS.same ns l3 fe fe).trans hA.n_.at_⟩
 · refine ⟨(hS.same bm l1 fe fe).trans ?_⟩;rw [hA.m_];rfl
 · exact f0w w1 0 83 1
 · exact ⟨_,_,_,hS.mark⟩
def finL (n:Nat) (L:Lay):Lay:={ L with y1:= .int .u32 0,y6:= .int .u64 ((n+1:Nat)*K32),y7:= .int .u32 0 }
def ft6:ft0 n=cr n (fun _=>0):=by
 apply Array.ext';rw [toList_madeCells_one];unfold cr;simp only [List.map_const',List.length_range]
def fcp {c o:Nat} (hc:c<n) (ho:o<4):(endZ n)[c*4+o]? =(#[.int .i64 0,.int .i64 0,.int .i64 0,.slice none 0 0]:Array Value)[o]? :=by
 have h:c*4+o<n*4:=by omega
 unfold endZ madeCells;rw [f2c,Array.getElem?_range,f02 h];simp only [fz3]
 have e:(c*4+o)%(#[Value.int .i64 0,.int .i64 0,.int .i64 0,.slice none 0 0]:Array Value).size=o:=by
    show (c*4+o)%4=o;omega
 simp only [e];rcases (by omega:o=0∨o=1∨o=2∨o=3) with rfl | rfl | rfl | rfl <;>rfl
def ft7 (hP:Part n room n (n+1) n L ow n0 w):Mem (finL n L) V0 (Plain.new n room) 0 ow w∧Marks (finL n L) n w:=by
 have T:=hP.tag;refine ⟨⟨hP.base,?_,hP.fresh,?_,hP.ss,⟨⟨endZ n,hP.ee,size_madeCells _ _,fun c hc=>⟨fcp (o:=0) hc fe,fcp (o:=1) hc fe,fcp (o:=2) hc fe,fcp (o:=3) hc fe⟩⟩⟩,?_,hP.mp,hP.ar,Txt.nil w,f0w w 0 40 6,fun c hc=>hP.kk c hc,hP.up,hP.dn,fun c hc=>Txt.nil w,fun c hc=>f0w w 0 209 7,fun c hc=>f0w w 0 209 7⟩,⟨hP.m0,hP.ms⟩⟩
 · exact ⟨T.lo,T.b,T.sb,T.eb,T.nb,T.mb,T.c0,T.lg,T.ar,T.kb,T.ul,T.uc,T.dl,T.dc,T.wc,T.rv,T.er⟩
 · exact hP.bb
 · exact Bk.cv hP.nn ft6
end
noncomputable def ft8:Code:=match new9 with | .seq _ (.seq _ c)=>c | _=> .skip
structure fwp (i:Nat) (L L':Lay):Prop where
 b:L'.b=L.b
 c0:L'.c0=L.c0
 wc: ∀ c,c<i→L'.wc c=L.wc c
def flw (n room i:Nat) (L:Lay) (n0:Nat) (w0:World) (fr:Frame) (w:World):Prop:=
 ∃ (L':Lay) (ow':Nat→Nat),fwp i L L'∧Part n room (i+1) (i+1) i L' ow' n0 w∧w.heap[L'.wc i]? =some (.chan 0 #[] false 0 0 false)∧(∀ c,c<i→L'.wc c≠L'.wc i)∧L'.c0≠L'.wc i∧Old n0 w0 w∧
   ∃ (x2 x3 x7 x8 x9 x10 x11 x12 x13 x14 x15 x16 x17 x18 x19 x20 x21 x22 x23 x24 x25 x26 x27 x28 x29 x30 x31 x32 x33 x34 x35 x36 x37 x38 x39 x40 x41 x42 x45 x46 x47 x48 x49 x50 x51 x52 x53 x54 x55 x56 x57 x58 x59 x60 x61 x62 x63 x64 x65 x66 x67 x68 x69 x70 x71 x72 x74 x75 x76 x78 x79 x80:Value),fr=(base 18).at ⟨(.int .i64 (n:Int):: .int .i64 (room:Int)::x2::x3:: .pointer none:: .nilIface:: .pointer (some ⟨L'.b,0,none⟩)::x7::x8::x9::x10::x11::x12::x13::x14::x15::x16::x17::x18::x19::x20::x21::x22::x23::x24::x25::x26::x27::x28::x29::x30::x31::x32::x33::x34::x35::x36::x37::x38::x39::x40::x41::x42:: .int .i64 (n:Int):: .int .i64 (i:Int)::x45::x46::x47::x48::x49::x50::x51::x52::x53::x54::x55::x56::x57::x58::x59::x60::x61::x62::x63::x64::x65::x66::x67::x68::x69::x70::x71::x72:: .pointer (some ⟨L'.b,0,none⟩)::x74::x75::x76:: .chan (some (L'.wc i))::x78::x79::x80::[]).toArray,[]⟩ (.inRegion (da ft8) [5]::fp5)
def info83:(PV.info? 83).map (fun i=>(i.zero,i.size,i.bytes))=some (some (.pointer none),1,8):=by kernel_rfl
def und65:PV.underlying 65=some (.slice 83):=by kernel_rfl
def new_3 (n room i:Nat) (L:Lay) (ow:Nat→Nat) (n0:Nat) (hi:i<n) (hn6:n≤6) (w0 w:World) (hP:Part n room i (i+1) i L ow n0 w0) {k uc dc ch:Nat} (hN:NewK i room w0 w k uc dc ch)
    (x2 x3 x9 x10 x11 x12 x13 x14 x15 x16 x17 x18 x19 x20 x21 x22 x23 x24 x25 x26 x27 x28 x29 x30 x31 x32 x33 x34 x35 x36 x37 x38 x39 x40 x41 x42 x45 x46 x47 x48 x50 x53 x54 x55 x56 x57 x58 x59 x60 x61 x62 x63 x64 x65 x66 x67 x68 x69 x70 x71 x72 x73 x74 x75 x76 x77 x78 x79 x80:Value):RunTo (flw n room i L n0 w0) ((base 18).at ⟨(.int .i64 (n:Int):: .int .i64 (room:Int)::x2::x3:: .pointer none:: .nilIface:: .pointer (some ⟨L.b,0,none⟩):: .int .i64 (i:Int):: .pointer (some ⟨k,0,none⟩)::x9::x10::x11::x12::x13::x14::x15::x16::x17::x18::x19::x20::x21::x22::x23::x24::x25::x26::x27::x28::x29::x30::x31::x32::x33::x34::x35::x36::x37::x38::x39::x40::x41::x42:: .int .i64 (n:Int):: .int .i64 (i:Int)::x45::x46::x47::x48:: .pointer (some ⟨uc+1,0,none⟩)::x50:: .pointer (some ⟨dc+1,0,none⟩):: .chan (some ch)::x53::x54::x55::x56::x57::x58::x59::x60::x61::x62::x63::x64::x65::x66::x67::x68::x69::x70::x71::x72::x73::x74::x75::x76::x77::x78::x79::x80::[]).toArray,[]⟩ (.code new9::fp5)) w:=by
 have hb:Bk w L.b 75 #[.int .i32 0,.int .u32 0,L.cls,.pointer (some ⟨L.sb,0,none⟩),.int .i64 0,.bool false,.int .u64 ((i+1:Nat)*K32),.int .u32 0]:=hP.bb.bl hN.old;have hs:Bk w L.sb 80 (srvC L n nilS nilS):=hP.ss.bl hN.old;have hmp:Mp w L.mb i (fun _=>0):=hP.mp.ch (Ch.ba (K:=fun _=>False) hN.old) (fun h=>h);have har:w.ownsRow 0 83 1 L.cls i (clsL L i):=qx (Ch.ba (K:=fun _=>False) hN.old) hP.ar (fun _ _ h=>h);have T:=hP.tag;have n1:L.b≠L.mb:=fun e=>by have h1:=T.b;have h2:=T.mb;rw [e] at h1;omega
 have n2:L.sb≠L.mb:=fun e=>by have h1:=T.sb;have h2:=T.mb;rw [e] at h1;omega
 have n3: ∀ x,L.cls.ownBlock=some x→x≠L.b∧x≠L.mb:=fun x hx=>by
    have h0:=T.ar x hx;have h1:=T.b;have h2:=T.mb;exact ⟨fun e=>by rw [e] at h0;omega,fun e=>by rw [e] at h0;omega⟩
 have hnk:k≠L.mb∧k≠L.b∧ ∀ x,L.cls.ownBlock=some x→x≠k:=by
    have h1:=hN.ge.1;have h2:=hP.mp.lt;have h3:=hP.bb.lt;exact ⟨by omega,by omega,fun x hx=>by have:=lr hP.ar x hx;omega⟩
 obtain ⟨cB,dB⟩:=hb.ceF;obtain ⟨cS,dS⟩:=hs.ceF;have hmu:=mp_push hmp fe 0;obtain ⟨i0,hi0,hz0',hz1,hz2⟩:=f4i info83;have hI:=fx6 hi0;have hZ0:=fx6 hz0';have hZ1:=fx6 hz1;have hZ2:=fx6 hz2;clear hi0 hz0' hz1 hz2;have gP:=fx6 hP;have gN:=fx6 hN;have gT:=fx6 T;have hkk:=fx6 hN.k_;have gA:=fx6 har;clear hP hN T har;refine rl (rj ?_);go_wp2;refine vy (F:=fun w3=>Bk w3 L.b 75 #[.int .i32 0,.int .u32 0,L.cls,.pointer (some ⟨L.sb,0,none⟩),.int .i64 0,.bool false,.int .u64 ((i+1:Nat)*K32),.int .u32 0]∧Mp w3 L.mb (i+1) (Plain.put (fun _=>0) i 0)∧Ch (fun x=>x=L.mb) w w3) ⟨?_,?_,?_⟩ ?_
 · exact hb.ch ((Ch.rf (fun x=>x=L.mb) w).sb (.inl rfl) _) n1
 · exact ⟨by
    have:=hmp.lt;simp [Go.ChangeMaps.setBlock,fy1,this]⟩
 · exact (Ch.rf (fun x=>x=L.mb) w).sb (.inl rfl) _
 clear hmu cB dB cS dS;rintro w3 ⟨hb3,hm3,hC3⟩;obtain ⟨cB,dB⟩:=hb3.ceF;have hm3:=fx6 hm3;have gA3:=fx6 (qx hC3 gA.out (fun x hx e=>(n3 x hx).2 e));refine rl (rj ?_);go_wp2_with (first | (at_builtin;refine wpList_append_lies _ rfl (.tmp 67) (.tmp 69) _ rfl 0 83 i0 _ 1 8 und65 hI.out hZ0.out hZ1.out hZ2.out rfl fe L.cls i (clsL L i) rfl (qx (K:=fun _=>False) (Ch.ba ((Bl.rf _).al _)) gA3.out (fun _ _ h=>h)) ⟨w3.heap.size,0,none⟩ 1 1 [.pointer (some ⟨k,0,none⟩)] rfl rfl (f2m (cs:= #[.pointer (some ⟨k,0,none⟩)]) (t:=83) (fr:=(0,0)) (Bk.nw rfl).at_) p9 fe jq fe fi _ rfl ?_;intro g cap w4 hown4 gr4 hat4 hlt4;have k4:=Bk.gr gr4 (fun e=>(n3 _ e.symm).1 rfl) (Bk.al hb3 _);obtain ⟨c4,d4⟩:=k4.ceF));refine vy (F:=fun w5=>Part n room (i+1) (i+1) i (fb9 L i k uc dc ch g cap) (zz ow i k uc dc ch g) n0 w5∧w5.heap[ch]? =some (.chan 0 #[] false 0 0 false)∧Old n0 w0 w5∧Bk w5 k 89 #[.int .i64 (i:Int),nilS,.int .i64 0,.int .i64 0,.int .i64 0,.int .i64 0,nilS,.pointer (some ⟨uc+1,0,none⟩),.pointer (some ⟨dc+1,0,none⟩),.int .i64 0,.chan (some ch)]) ?_ ?_
 · have hC4:Ch (fun x=>x=L.mb∨L.cls.ownBlock=some x) w w4:=((hC3.mo fun x hx=> .inl hx).al _).gr gr4 fun x hx=> .inl (.inr hx);have hC5:=hC4.mo (K':=fun x=>x=L.mb∨x=L.b∨L.cls.ownBlock=some x) fun x hx=>hx.imp id .inr;have hC6:=hC5.st (p:=⟨L.b,2,none⟩) (.inl (.inr (.inl rfl))) (.slice (some ⟨g,0,none⟩) (i+1) cap);have hbb:=Bk.st (i:=2) (.slice (some ⟨g,0,none⟩) (i+1) cap) k4;have hmm:Mp (w4.setCell ⟨L.b,2,none⟩ (.slice (some ⟨g,0,none⟩) (i+1) cap)) L.mb (i+1) (Plain.put (fun _=>0) i 0):=by
    have h0:Ch (fun x=>L.cls.ownBlock=some x) w3 w4:=((Ch.rf _ w3).al _).gr gr4 fun x hx=> .inl hx;have h1:=hm3.out.ch h0 (fun e=>(n3 _ e).2 rfl);exact h1.ch ((Ch.rf (fun x=>x=L.b) w4).st (.inl rfl) _) (fun e=>n1 e.symm)
   have hgn:g≠L.b:=by
    rcases hat4 with h | h
    · exact (n3 g h).1
    · have:=hb3.lt;have h':=h;simp only [vp] at h';omega
   have har5:(w4.setCell ⟨L.b,2,none⟩ (.slice (some ⟨g,0,none⟩) (i+1) cap)).ownsRow 0 83 1 (.slice (some ⟨g,0,none⟩) (i+1) cap) (i+1) (clsL L i++[.pointer (some ⟨k,0,none⟩)]):=
    qx ((Ch.rf (fun x=>x=L.b) w4).st (.inl rfl) _) hown4 (fun x hx e=>by
     obtain rfl:g=x:=by simpa [Value.ownBlock] using hx
     exact hgn e)
   have hs3:=hC3.size;obtain ⟨r1,r2⟩:=ft5 (w2:=w4.setCell ⟨L.b,2,none⟩ (.slice (some ⟨g,0,none⟩) (i+1) cap)) hi hn6 gP.out gN.out (fx8 _) hC6 (by simpa using hbb) hmm har5 (hat4.imp id fun e=>by simp only [vp] at e;omega) (by simpa [World.setCell] using hlt4);refine ⟨r1,r2,⟨gP.out.le,f08 gN.out.old.size hC6.size,fun x hx=>(hC6.block x ?_ ?_).trans (gN.out.old.block x ?_),hC6.os.trans gN.out.old.os,hC6.output.trans gN.out.old.output⟩,hkk.out.ch hC6 ?_⟩
   · have:=gP.out.le;have:=gN.out.old.size;omega
   · have h0:=gP.out.low x hx;rintro (rfl | rfl | h)
     · have:=gT.out.mb;omega
     · have:=gT.out.b;omega
     · have:=gT.out.ar x h;omega
   · have:=gP.out.le;omega
   · rintro (h | h | h)
     · exact hnk.1 h
     · exact hnk.2.1 h
     · exact hnk.2.2 k h rfl
 rintro w5 ⟨gP5,hch,hO,hk5⟩;obtain ⟨cK,dK⟩:=hk5.ceF;refine yt ?_;simp only [szs];refine uy rfl rfl (u:= .pointer (some ⟨L.b,0,none⟩)) (v1:=w5) gw ?_;walk_nrm;refine uy rfl rfl (u:= .pointer (some ⟨k,0,none⟩)) (v1:=w5) gw ?_;walk_nrm;refine uy rfl rfl (u:= .pointer (some ⟨k,0,none⟩)) (v1:=w5) gw ?_;walk_nrm;refine uy rfl rfl (u:= .pointer (some ⟨k,10,none⟩)) (v1:=w5) gw ?_;walk_nrm;refine uy rfl rfl (u:= .chan (some ch)) (v1:=w5) gw ?_;walk_nrm;have e:(fb9 L i k uc dc ch g cap).wc i=ch:=by simp [fb9,Plain.put_same]
 have T5:=gP5.tag;rw [← e] at hch;rw [← e];refine zt ⟨fb9 L i k uc dc ch g cap,zz ow i k uc dc ch g,⟨rfl,rfl,fun c hc=>Plain.put_ne _ _ (show c≠i by omega)⟩,gP5,hch,fun c hc h=> ?_,fun h=> ?_,hO,_,_,_,_,_,_,_,_,_,_,_,_,_,_,_,_,_,_,_,_,_,_,_,_,_,_,_,_,_,_,_,_,_,_,_,_,_,_,_,_,_,_,_,_,_,_,_,_,_,_,_,_,_,_,_,_,_,_,_,_,_,_,_,_,_,_,_,_,_,_,_,_,rfl⟩
 · have h1:=T5.wc c fe;have h2:=T5.wc i fe;rw [h] at h1;omega
 · have h1:=T5.c0;have h2:=T5.wc i fe;rw [h] at h1;omega
open Go.ConcN (sumTo upd sumTo_upd upd_ne upd_same)
def RunTo.mono {Z Z':Frame→World→Prop} {fr:Frame} {v:World} (h:RunTo Z fr v) (h': ∀ fr v,Z fr v→Z' fr v):RunTo Z' fr v:=by
 obtain ⟨fr',v',h1,h2⟩:=h.out;exact ⟨fr',v',h1,h' _ _ h2⟩
def NewEnd (L:Lay) (fr:Frame):Prop:= ∃ (todo:List Item) (x0 x1 x2 x3 x6 x7 x8 x9 x10 x11 x12 x13 x14 x15 x16 x17 x18 x19 x20 x21 x22 x23 x24 x25 x26 x27 x28 x29 x30 x31 x32 x33 x34 x35 x36 x37 x38 x39 x40 x41 x42 x43 x44 x45 x46 x47 x48 x49 x50 x51 x52 x53 x54 x55 x56 x57 x58 x59 x60 x61 x62 x63 x64 x65 x66 x67 x68 x69 x70 x71 x72 x73 x74 x75 x76 x77 x78 x79 x80:Value),fr={ (base 18).at ⟨(x0::x1::x2::x3:: .pointer (some ⟨L.b,0,none⟩):: .nilIface::x6::x7::x8::x9::x10::x11::x12::x13::x14::x15::x16::x17::x18::x19::x20::x21::x22::x23::x24::x25::x26::x27::x28::x29::x30::x31::x32::x33::x34::x35::x36::x37::x38::x39::x40::x41::x42::x43::x44::x45::x46::x47::x48::x49::x50::x51::x52::x53::x54::x55::x56::x57::x58::x59::x60::x61::x62::x63::x64::x65::x66::x67::x68::x69::x70::x71::x72::x73::x74::x75::x76::x77::x78::x79::x80::[]).toArray,[]⟩ todo with mode:= .returning }
def new_end (n room i:Nat) (L:Lay) (hi:i=n) (hn6:n≤6) (w:World) {fr:Frame} (hfr:fes n room i L fr):RunTo (fun fr w'=>NewEnd L fr∧w'=w) fr w:=by
 obtain ⟨x2,x3,x7,x8,x9,x10,x11,x12,x13,x14,x15,x16,x17,x18,x19,x20,x21,x22,x23,x24,x25,x26,x27,x28,x29,x30,x31,x32,x33,x34,x35,x36,x37,x38,x39,x40,x41,x42,x45,x46,x47,x48,x49,x50,x51,x52,x53,x54,x55,x56,x57,x58,x59,x60,x61,x62,x63,x64,x65,x66,x67,x68,x69,x70,x71,x72,x73,x74,x75,x76,x77,x78,x79,x80,rfl⟩:=hfr;have e1: ¬ ((i:Int)<n):=by omega
 clear hi;refine rl (rj ?_);go_wp2;refine rl (ya (t:=false) rfl (fhn rfl ?_));refine rl (rj ?_);go_wp2;refine fnj (zt ⟨⟨_,_,_,_,_,_,_,_,_,_,_,_,_,_,_,_,_,_,_,_,_,_,_,_,_,_,_,_,_,_,_,_,_,_,_,_,_,_,_,_,_,_,_,_,_,_,_,_,_,_,_,_,_,_,_,_,_,_,_,_,_,_,_,_,_,_,_,_,_,_,_,_,_,_,_,_,_,_,_,_,rfl⟩,rfl⟩)
def fwd (n room:Nat) (L:Lay) (fr:Frame):Prop:= ∃ (x2 x3 x7 x8 x9 x10 x11 x12 x13 x14 x15 x16 x17 x18 x19 x20 x21 x22 x23 x24 x25 x26 x27 x28 x29 x30 x31 x32 x33 x34 x35 x36 x37 x38 x39 x40 x41 x42 x43 x44 x45 x46 x47 x48 x49 x50 x51 x52 x53 x54 x55 x56 x57 x58 x59 x60 x61 x62 x63 x64 x65 x66 x67 x68 x69 x70 x71 x72 x73 x74 x75 x76 x77 x78 x79 x80:Value),fr=(base 18).at ⟨(.int .i64 (n:Int):: .int .i64 (room:Int)::x2::x3:: .pointer none:: .nilIface:: .pointer (some ⟨L.b,0,none⟩)::x7::x8::x9::x10::x11::x12::x13::x14::x15::x16::x17::x18::x19::x20::x21::x22::x23::x24::x25::x26::x27::x28::x29::x30::x31::x32::x33::x34::x35::x36::x37::x38::x39::x40::x41::x42::x43::x44::x45::x46::x47::x48::x49::x50::x51::x52::x53::x54::x55::x56::x57::x58::x59::x60::x61::x62::x63::x64::x65::x66::x67::x68::x69::x70::x71::x72::x73::x74::x75::x76::x77::x78::x79::x80::[]).toArray,[]⟩ [.inRegion (da ft1) [],.code new5]
def fp7 {Z:Frame→World→Prop} (n room:Nat) (L:Lay) (w:World) {fr:Frame} (hfr:fwd n room L fr) (h: ∀ fr',fes n room 0 L fr'→RunTo Z fr' w):RunTo Z fr w:=by
 obtain ⟨x2,x3,x7,x8,x9,x10,x11,x12,x13,x14,x15,x16,x17,x18,x19,x20,x21,x22,x23,x24,x25,x26,x27,x28,x29,x30,x31,x32,x33,x34,x35,x36,x37,x38,x39,x40,x41,x42,x43,x44,x45,x46,x47,x48,x49,x50,x51,x52,x53,x54,x55,x56,x57,x58,x59,x60,x61,x62,x63,x64,x65,x66,x67,x68,x69,x70,x71,x72,x73,x74,x75,x76,x77,x78,x79,x80,rfl⟩:=hfr;have hh:=fx6 h;clear h;refine ie (rl (rl (rj ?_)));go_wp2;refine yv (fhm ?_);exact hh.out _ ⟨_,_,_,_,_,_,_,_,_,_,_,_,_,_,_,_,_,_,_,_,_,_,_,_,_,_,_,_,_,_,_,_,_,_,_,_,_,_,_,_,_,_,_,_,_,_,_,_,_,_,_,_,_,_,_,_,_,_,_,_,_,_,_,_,_,_,_,_,_,_,_,_,_,_,rfl⟩
def ft9 (n room i:Nat) (L:Lay) (fr:Frame):Prop:= ∃ (x2 x3 x7 x8 x9 x10 x11 x12 x13 x14 x15 x16 x17 x18 x19 x20 x21 x22 x23 x24 x25 x26 x27 x28 x29 x30 x31 x32 x33 x34 x35 x36 x37 x38 x39 x40 x41 x42 x45 x46 x47 x48 x49 x50 x51 x52 x53 x54 x55 x56 x57 x58 x59 x60 x61 x62 x63 x64 x65 x66 x67 x68 x69 x70 x71 x72 x73 x74 x75 x76 x77 x78 x79 x80:Value),fr=(base 18).at ⟨(.int .i64 (n:Int):: .int .i64 (room:Int)::x2::x3:: .pointer none:: .nilIface:: .pointer (some ⟨L.b,0,none⟩)::x7::x8::x9::x10::x11::x12::x13::x14::x15::x16::x17::x18::x19::x20::x21::x22::x23::x24::x25::x26::x27::x28::x29::x30::x31::x32::x33::x34::x35::x36::x37::x38::x39::x40::x41::x42:: .int .i64 (n:Int):: .int .i64 (i:Int)::x45::x46::x47::x48::x49::x50::x51::x52::x53::x54::x55::x56::x57::x58::x59::x60::x61::x62::x63::x64::x65::x66::x67::x68::x69::x70::x71::x72::x73::x74::x75::x76::x77::x78::x79::x80::[]).toArray,[]⟩ (.inRegion (da ft8) []::fp5)
def flx {Z:Frame→World→Prop} (n room i:Nat) (L:Lay) (w:World) (hi:i<1000) {fr:Frame} (hfr:ft9 n room i L fr) (h: ∀ fr',fes n room (i+1) L fr'→RunTo Z fr' w):RunTo Z fr w:=by
 obtain ⟨x2,x3,x7,x8,x9,x10,x11,x12,x13,x14,x15,x16,x17,x18,x19,x20,x21,x22,x23,x24,x25,x26,x27,x28,x29,x30,x31,x32,x33,x34,x35,x36,x37,x38,x39,x40,x41,x42,x45,x46,x47,x48,x49,x50,x51,x52,x53,x54,x55,x56,x57,x58,x59,x60,x61,x62,x63,x64,x65,x66,x67,x68,x69,x70,x71,x72,x73,x74,x75,x76,x77,x78,x79,x80,rfl⟩:=hfr;have hh:=fx6 h;clear h;have e:IntKind.i64.wrap ((i:Int)+1)=((i+1:Nat):Int):=by rw [f3h];omega
 refine ie (zb (yt ?_));simp only [szs];refine uy rfl rfl (u:= .int .i64 ((i+1:Nat):Int)) (v1:=w) (by go_simp;try rw [e];try omega) ?_;walk_nrm;refine uy rfl rfl (u:= .int .i64 ((i+1:Nat):Int)) (v1:=w) gw ?_;walk_nrm;refine ie (bt ?_);exact hh.out _ ⟨_,_,_,_,_,_,_,_,_,_,_,_,_,_,_,_,_,_,_,_,_,_,_,_,_,_,_,_,_,_,_,_,_,_,_,_,_,_,_,_,_,_,_,_,_,_,_,_,_,_,_,_,_,_,_,_,_,_,_,_,_,_,_,_,_,_,_,_,_,_,_,_,_,_,rfl⟩
end Go.Proofs.YtelecjnabeokeaaGreatDoor
namespace Go.Proofs.YtelecjnabeokeaaGreatDoor
open Go Go.Conc Go.RowKit
def NewEnd.form {L:Lay} {fr:Frame} (h:NewEnd L fr): ∃ T todo,fr={ (base 18).at ⟨T,[]⟩ todo with mode:= .returning }∧T.getD 4 undef= .pointer (some ⟨L.b,0,none⟩)∧T.getD 5 undef= .nilIface:=by
 obtain ⟨todo,y0,y1,y2,y3,y6,y7,y8,y9,y10,y11,y12,y13,y14,y15,y16,y17,y18,y19,y20,y21,y22,y23,y24,y25,y26,y27,y28,y29,y30,y31,y32,y33,y34,y35,y36,y37,y38,y39,y40,y41,y42,y43,y44,y45,y46,y47,y48,y49,y50,y51,y52,y53,y54,y55,y56,y57,y58,y59,y60,y61,y62,y63,y64,y65,y66,y67,y68,y69,y70,y71,y72,y73,y74,y75,y76,y77,y78,y79,y80,rfl⟩:=h;exact ⟨_,todo,rfl,rfl,rfl⟩
def fwe {n room i:Nat} {L:Lay} {n0:Nat} {w0:World} {fr:Frame} {w:World} (h:flw n room i L n0 w0 fr w): ∃ (L':Lay) (ow':Nat→Nat) (T:Array Value),fwp i L L'∧Part n room (i+1) (i+1) i L' ow' n0 w∧w.heap[L'.wc i]? =some (.chan 0 #[] false 0 0 false)∧(∀ c,c<i→L'.wc c≠L'.wc i)∧L'.c0≠L'.wc i∧Old n0 w0 w∧
    fr=(base 18).at ⟨T,[]⟩ (.inRegion (da ft8) [5]::fp5)∧T.getD 73 undef= .pointer (some ⟨L'.b,0,none⟩)∧T.getD 77 undef= .chan (some (L'.wc i))∧ ∀ u,ft9 n room i L' ((base 18).at (Act.put ⟨T,[]⟩ (some 78) u) (.inRegion (da ft8) []::fp5)):=by
 obtain ⟨L',ow',hS,hP',hch,hne,hne0,hO',y2,y3,y7,y8,y9,y10,y11,y12,y13,y14,y15,y16,y17,y18,y19,y20,y21,y22,y23,y24,y25,y26,y27,y28,y29,y30,y31,y32,y33,y34,y35,y36,y37,y38,y39,y40,y41,y42,y45,y46,y47,y48,y49,y50,y51,y52,y53,y54,y55,y56,y57,y58,y59,y60,y61,y62,y63,y64,y65,y66,y67,y68,y69,y70,y71,y72,y74,y75,y76,y78,y79,y80,rfl⟩:=h;refine ⟨L',ow',_,hS,hP',hch,hne,hne0,hO',rfl,rfl,rfl,fun u=> ?_⟩;walk_nrm;exact ⟨_,_,_,_,_,_,_,_,_,_,_,_,_,_,_,_,_,_,_,_,_,_,_,_,_,_,_,_,_,_,_,_,_,_,_,_,_,_,_,_,_,_,_,_,_,_,_,_,_,_,_,_,_,_,_,_,_,_,_,_,_,_,_,_,_,_,_,_,_,_,_,_,_,_,rfl⟩
def form4 {n room:Nat} {v:World} {fr:Frame} {w:World} (h:ft2 n room v fr w): ∃ (bm es ns ch sb b:Nat) (T:Array Value),NewA n v w bm es ns ch sb b∧fr=(base 18).at ⟨T,[]⟩ [.inRegion (da ft1) [8],.code new5]∧T.getD 34 undef= .pointer (some ⟨b,0,none⟩)∧T.getD 41 undef= .chan (some ch)∧ ∀ u (L:Lay),L.b=b→fwd n room L ((base 18).at (Act.put ⟨T,[]⟩ (some 42) u) [.inRegion (da ft1) [],.code new5]):=by
 obtain ⟨y2,y3,y7,y8,y9,y10,y11,y12,y13,y14,y15,y16,y17,y18,y19,y20,y21,y22,y23,y24,y25,y26,y27,y28,y29,y30,y31,y32,y33,y35,y36,y37,y38,y39,y40,y42,y43,y44,y45,y46,y47,y48,y49,y50,y51,y52,y53,y54,y55,y56,y57,y58,y59,y60,y61,y62,y63,y64,y65,y66,y67,y68,y69,y70,y71,y72,y73,y74,y75,y76,y77,y78,y79,y80,bm,es,ns,ch,sb,b,hA,rfl⟩:=h;refine ⟨bm,es,ns,ch,sb,b,_,hA,rfl,rfl,rfl,fun u L e=> ?_⟩;subst e;walk_nrm;exact ⟨_,_,_,_,_,_,_,_,_,_,_,_,_,_,_,_,_,_,_,_,_,_,_,_,_,_,_,_,_,_,_,_,_,_,_,_,_,_,_,_,_,_,_,_,_,_,_,_,_,_,_,_,_,_,_,_,_,_,_,_,_,_,_,_,_,_,_,_,_,_,_,_,_,_,_,_,rfl⟩
open Go.ConcN (sumTo upd sumTo_upd upd_ne upd_same)
def Part.re {n room i m j:Nat} {L:Lay} {ow:Nat→Nat} {n0:Nat} {w:World} (h:Part n room i m j L ow n0 w) (t:Nat→Question→Nat) (d:Nat):Part n room i m j L ow n0 (reW w t d):=
 ⟨h.base.re t d,h.n12,h.low,h.le,h.fresh,h.tag,h.bb.re t d,h.ss.re t d,h.ee.re t d,h.nn.re t d,h.mp.re t d,h.ar,fun c hc=>(h.kk c hc).re t d,fun c hc=>(h.up c hc).re t d,fun c hc=>(h.dn c hc).re t d,h.m0,h.ms⟩
def Old.ge2 {n:Nat} {v v':World} (h:Old n v v'):n≤v'.heap.size:=f08 h.le h.size
def Old.sv {n0 b k m:Nat} {v v':World} (h:StartV b k m v v') (hn:n0≤v.heap.size) (hb:n0≤b) (hk:n0≤k):Old n0 v v':=
 ⟨hn,by have:=h.size;omega,fun x hx=>h.same x fe fe fe,h.os,h.output⟩
def chs (L:Lay) (x:Nat):Nat:=if x=0 then L.c0 else L.wc (x-1)
def SesN.cg {b j0 n:Nat} {ch ch':Nat→Nat} {WS:Nat→Option SeatD} (W:SesN b j0 n ch WS) (h: ∀ i,i<n→ch' i=ch i):SesN b j0 n ch' WS:=
 ⟨fun i hi=>by obtain ⟨m,hm⟩:=W.at_ i hi;exact ⟨m,by rw [h i hi];exact hm⟩,W.no,fun i i' hi hi' e=>W.inj i i' hi hi' (by rw [← h i hi,← h i' hi'];exact e)⟩
def fnk {i:Nat} {L L':Lay} (h:fwp i L L'): ∀ x,x<i+1→chs L' x=chs L x:=fun x hx=>by
 unfold chs;by_cases e:x=0
 · rw [f02 e,f02 e];exact h.c0
 · rw [fx9 e,fx9 e];exact h.wc _ fe
structure Made (n room N:Nat) (v0:World) (L:Lay) (ow:Nat→Nat) (WS:Nat→Option SeatD) (v:World):Prop where
 mem:Mem L V0 (Plain.new n room) 0 ow v
 marks:Marks L n v
 y1:L.y1= .int .u32 0
 y6:L.y6= .int .u64 ((n+1:Nat)*K32)
 y7:L.y7= .int .u32 0
 seats:SesN L.b N (n+1) (chs L) WS
 old:Old v0.heap.size v0 v
 low: ∀ x,x<v0.heap.size→ow x=0
def NewR (n room N:Nat) (Shun:Loc→Prop) (v0:World) (x:Value) (WS':Nat→Option SeatD) (Shun':Loc→Prop) (v':World) (N':Nat):Prop:=
 Shun'=Shun∧N'=N+(n+1)∧ ∃ L ow,x= .tuple #[.pointer (some ⟨L.b,0,none⟩),.nilIface]∧Made n room N v0 L ow WS' v'
def NewEnd.calm {L:Lay} {fr:Frame} (h:NewEnd L fr):vt fr=false:=by
 obtain ⟨_,_,rfl,_⟩:=h.form;rfl
section
variable {Φ:Goal} {WS:Nat→Option SeatD} {Shun:Loc→Prop} {v v0:World} {n room N:Nat} {X:Frame} {cs:List Frame}
def fhq {b:Frame} {a:Act} {k:List Item} {ops:Array Oper} {i:Nat} {rest:List Nat} {o:Oper} {f:FuncId} {fn:Func} {c:Code} {args:Array Operand} {ats:Array TypeId} (xs:Array Value) (hx:args.map a.eval=xs) (ho:ops[i]? =some o) (hw:o.guard=none) (hk:b.kind≠ .early) (hop:o.op= .call { callee:= .value (.func f),args:=args,argTypes:=ats })
    (hf:Tryz.prog.funcs[f]? =some fn) (hname:(fn.name== "runtime.NumGoroutine")=false) (hb:fn.body=some c) (h:Co Φ WS Shun v N (G (Frame.enter Tryz.prog f xs .normal) (b.at a (.inRegion ops (i::rest)::k)::cs))):
    Co Φ WS Shun v N (G (b.at a (.inRegion ops (i::rest)::k)) cs):=co_call ho (by simp [Region.wanted,hw]) hk hop hf hname hb (by rw [hx];exact h)
noncomputable def call11:Oper:=(da ft8)[5]?.getD default
noncomputable def call4:Oper:=(da ft1)[8]?.getD default
def fvo (hn6:n≤6) (hr1:1≤room) (hr16:room≤16) (hc: ∀ x WS' Shun' v' N',NewR n room N Shun v0 x WS' Shun' v' N'→Co Φ WS' Shun' v' N' (G (ur .normal x X) cs)):
    ∀ (d i:Nat),i+d=n→ ∀ (L:Lay) (ow:Nat→Nat) (WS:Nat→Option SeatD) (w:World) (fr:Frame),Part n room i (i+1) i L ow v0.heap.size w→SesN L.b N (i+1) (chs L) WS→Old v0.heap.size v0 w→
      FrOk Tryz.prog rg fr→fr.kind= .normal→(∀ Z t d,(∀ fr',fes n room i L fr'→RunTo Z fr' (reW w t d))→RunTo Z fr (reW w t d))→Co Φ WS Shun w (N+(i+1)) (G fr (X::cs)):=by
 intro d
 induction d with
 | zero=>
   intro i hi L ow WS w fr hP hW hO hok hk hrun;obtain rfl:i=n:=by omega
   refine fge (Z:=fun fr w'=>NewEnd L fr∧ ∃ t d,w'=reW w t d) hW.ok (fun fr v h=>h.1.calm) hok hk (fun t d=>hrun _ t d fun fr' hfr=>(new_end i room i L rfl hn6 (reW w t d) hfr).mono fun fr v h=>⟨h.1,t,d,h.2⟩) ?_;rintro fr' w' ⟨he,t,d,rfl⟩;obtain ⟨T,todo,rfl,h4,h5⟩:=he.form;refine fhp (fn:=Tryz.f18) rfl rfl Tryz.func18 (resultsC_tmp2 (t:=4) (u:=5) rfl T) ?_;rw [h4,h5];obtain ⟨hM,hMk⟩:=ft7 hP;exact hc _ _ _ _ _ ⟨rfl,rfl,finL i L,ow,rfl,hM.re t d,hMk.re t d,rfl,rfl,rfl,hW.cg fun x _=>rfl,hO.re t d,hP.low⟩
 | succ d ih=>
   intro i hi L ow WS w fr hP hW hO hok hk hrun;have hlt:i<n:=by omega
   refine fge (Z:=fun fr w'=> ∃ w0,(∃ t d,w0=reW w t d)∧flw n room i L v0.heap.size w0 fr w') hW.ok (fun fr v h=> ?_) hok hk (fun t d=>hrun _ t d fun fr' hfr=> ?_) ?_
   · obtain ⟨w0,_,h⟩:=h;obtain ⟨_,_,_,_,_,_,_,_,_,rfl,_⟩:=fwe h;rfl
   · refine new_2 n room i L hlt hn6 hr1 hr16 _ hfr ?_;intros;rename_i hN;exact (new_3 n room i L ow v0.heap.size hlt hn6 (reW w t d) _ (hP.re t d) hN _ _ _ _ _ _ _ _ _ _ _ _ _ _ _ _ _ _ _ _ _ _ _ _ _ _ _ _ _ _ _ _ _ _ _ _ _ _ _ _ _ _ _ _ _ _ _ _ _ _ _ _ _ _ _ _ _ _ _ _ _ _ _ _ _ _ _ _ _).mono fun fr v h=>⟨_,⟨t,d,rfl⟩,h⟩
   · rintro fr' w' ⟨w0,⟨t,d',rfl⟩,hfr⟩;obtain ⟨L',ow',T,hS,hP',hch,hne,hne0,hO',rfl,h73,h77,hAft⟩:=fwe hfr;refine fhq (o:=call11) (f:=37) (fn:=Tryz.f37) (args:= #[.tmp 73,.tmp 77]) #[.pointer (some ⟨L'.b,0,none⟩),.chan (some (L'.wc i))] (by simp only [List.map_toArray,f3c,List.map_nil,Act.eval,h73,h77]) rfl rfl gh rfl Tryz.func37 fd rfl ?_;refine fn1 (b:=L'.b) (k:=L'.wc i) (m:=i+1) hP'.bb.at_ rfl rfl rfl fe hch (fun j s hj=> ?_) ?_
     · obtain ⟨x,m,hx,_,rfl⟩:=hW.seat hj;show chs L x≠L'.wc i;rw [← fnk hS x hx];unfold chs;by_cases e:x=0
       · rw [f02 e];exact hne0
       · rw [fx9 e];exact hne _ fe
     · intro v' hV;rw [fho (o:=call11) rfl];have T':=hP'.tag;have hP2:=fk4 hlt hP' hV;have hW2:SesN L'.b N (i+1+1) (chs L') (upd WS (N+(i+1)) (some (vc w'.heap.size L'.b (L'.wc i)))):=by
        have h1:SesN L'.b N (i+1) (chs L') WS:=by rw [hS.b];exact hW.cg (fnk hS)
        have h2:=h1.more (m:=w'.heap.size) (fun x hx=>by
         show chs L' x≠L'.wc i;unfold chs;by_cases e:x=0
         · rw [f02 e];exact hne0
         · rw [fx9 e];exact hne _ fe)
        exact h2
       refine ih (i+1) fe L' ow' _ v' _ hP2 hW2 ((hO.tr hO'.re').tr (Old.sv hV hO'.ge2 ?_ ?_)) (zu Tryz.func18 pv18 fd rfl) rfl ?_
       · rcases f01 L'.b v0.heap.size with h | h
         · have h1:=hP'.low _ h;have h2:=T'.b;omega
         · exact h
       · rcases f01 (L'.wc i) v0.heap.size with h | h
         · have h1:=hP'.low _ h;have h2:=T'.wc i fe;omega
         · exact h
       · intro Z t d h;exact flx n room i L' _ fe (hAft _) h
def fp8 {f:FuncId} {fn:Func} {cd:Code} {args:Array Value} (h1:Tryz.prog.funcs[f]? =some fn) (h2:PV.funcs[f]? =some fn) (hb:fn.body=some cd) (hi:(va cd&&yb cd)=true):FrOk Tryz.prog rg (Frame.enter Tryz.prog f args .normal):=by
 rw [ea h1 hb];refine zu h1 h2 ?_ rfl;simp only [List.all_cons,List.all_nil,Bool.and_true];exact hi
def new_fc (hn1:1≤n) (hn6:n≤6) (hr1:1≤room) (hr16:room≤16) (hB:Base v0) (h12:12≤v0.heap.size):Fc vb Shun v0 N 18 #[.int .i64 (n:Int),.int .i64 (room:Int)] (NewR n room N Shun v0):=by
 refine ⟨fun Φ X cs hc=> ?_⟩;refine fge (Z:=fun fr w=> ∃ t d,ft2 n room (reW v0 t d) fr w) bg (fun fr v h=> ?_) (fp8 Tryz.func18 pv18 rfl fd) rfl (fun t d=>(new_1 n room hn1 hn6 hr1 hr16 (reW v0 t d)).mono fun fr v h=>⟨t,d,h⟩) ?_
 · obtain ⟨t,d,h⟩:=h;obtain ⟨_,_,_,_,_,_,_,_,rfl,_⟩:=form4 h;rfl
 · rintro fr w ⟨t,d,h⟩;obtain ⟨bm,es,ns,ch,sb,b,T,hA,rfl,h34,h41,hAft⟩:=form4 h;refine fhq (o:=call4) (f:=37) (fn:=Tryz.f37) (args:= #[.tmp 34,.tmp 41]) #[.pointer (some ⟨b,0,none⟩),.chan (some ch)] (by simp only [List.map_toArray,f3c,List.map_nil,Act.eval,h34,h41]) rfl rfl gh rfl Tryz.func37 fd rfl ?_;refine fn1 (b:=b) (k:=ch) (m:=0) hA.b_.at_ rfl fi rfl fe hA.c_ (fun j s hj=>by cases hj) ?_;intro v' hV;rw [fho (o:=call4) rfl];have hP:=fp6 (room:=room) (hB.re t d) h12 hA hV;have hW:SesN b N (0+1) (chs (L0 b sb es ns bm ch)) (upd vb (N+0) (some (vc w.heap.size b ch))):=SesN.none.more (fun x hx=>by omega);obtain ⟨g1,g2,g3,g4,g5,g6⟩:=hA.ge;refine fvo hn6 hr1 hr16 hc n 0 fe _ _ _ v' _ hP hW (((Old.bl (v:=reW v0 t d) (fx8 _) hA.old).re').tr (Old.sv hV hA.old.size g6 g4)) (zu Tryz.func18 pv18 fd rfl) rfl ?_;intro Z t d h;exact fp7 n room _ _ (hAft _ _ rfl) h
end
end Go.Proofs.YtelecjnabeokeaaGreatDoor
namespace Go.Proofs.YtelecjnabeokeaaGreatDoor
open Go Go.Conc Go.RowKit
structure Sess (n N n0:Nat) (L:Lay) (E:Nat→Value) (A:Nat→Addr) (S:Plain.Ses) (ow:Nat→Nat) (WS:Nat→Option SeatD) (v:World):Prop where
 live:Live L E A S ow v
 num:S.n=n
 y6:L.y6= .int .u64 ((n+1:Nat)*K32)
 y7:L.y7= .int .u32 0
 seats:SesN L.b N (n+1) (chs L) WS
 low: ∀ x,x<n0→ow x=0
def PNewR (n room N:Nat) (Shun:Loc→Prop) (E:Nat→Value) (A:Nat→Addr) (v0:World) (x:Value) (WS':Nat→Option SeatD) (Shun':Loc→Prop) (v':World) (N':Nat):Prop:=
 Shun'=Shun∧N'=N+(n+1)∧ ∃ L ow,x= .tuple #[.pointer (some ⟨L.b,0,none⟩),.int .i64 0]∧Sess n N v0.heap.size L E A (Plain.new n room) ow WS' v'∧Old v0.heap.size v0 v'
def pv8:PV.funcs[8]? =some Tryz.f8:=rd 8 _ _ Tryz.func8 fd fd rfl fd
section
variable {Φ:Goal} {WS:Nat→Option SeatD} {Shun:Loc→Prop} {v v0:World} {n room N:Nat} {X:Frame} {cs:List Frame} {E:Nat→Value} {A:Nat→Addr}
def fet {fr:Frame} (hW:WsOk WS Shun) (hok:FrOk Tryz.prog rg fr) (hk:fr.kind= .normal) (h: ∃ F,(∀ t d,RunTo (fun fr w=>fr=F∧ ∃ t d,w=reW v t d) fr (reW v t d))∧vt F=false∧ ∀ t d,Co Φ WS Shun (reW v t d) N (G F cs)):Co Φ WS Shun v N (G fr cs):=by
 obtain ⟨F,h1,h2,h3⟩:=h;exact fge (Z:=fun fr w=>fr=F∧ ∃ t d,w=reW v t d) hW (fun fr v h=>by rw [h.1];exact h2) hok hk h1 (by rintro _ _ ⟨rfl,t,d,rfl⟩;exact h3 t d)
def fba {f:FuncId} {args:Array Value} {R:Value→(Nat→Option SeatD)→(Loc→Prop)→World→Nat→Prop} (h:Fc WS Shun v N f args R) {b:Frame} {a:Act} {k:List Item} {ops:Array Oper} {i:Nat} {rest:List Nat} {o:Oper} {fn:Func} {c:Code} {ags:Array Operand} {ats:Array TypeId}
    (hx:ags.map a.eval=args) (ho:ops[i]? =some o) (hw:o.guard=none) (hk:b.kind≠ .early) (hop:o.op= .call { callee:= .value (.func f),args:=ags,argTypes:=ats })
    (hf:Tryz.prog.funcs[f]? =some fn) (hname:(fn.name== "runtime.NumGoroutine")=false) (hb:fn.body=some c)
    (hc: ∀ x WS' Shun' v' N',R x WS' Shun' v' N'→Co Φ WS' Shun' v' N' (G (b.at (a.put o.dst x) (.inRegion ops rest::k)) cs)):
    Co Φ WS Shun v N (G (b.at a (.inRegion ops (i::rest)::k)) cs):=by
 refine fhq args hx ho hw hk hop hf hname hb (h.out Φ _ cs fun x WS' Shun' v' N' hr=> ?_);rw [fho ho];exact hc x WS' Shun' v' N' hr
def feu (hn1:1≤n) (hn6:n≤6) (hr1:1≤room) (hr16:room≤16) (hB:Base v0) (hE:EV E A v0) (hA: ∀ i,i<12→i≠2→(A i).block<v0.heap.size):
    Fc vb Shun v0 N 8 #[.int .i64 (n:Int),.int .i64 (room:Int)] (PNewR n room N Shun E A v0):=by
 refine ⟨fun Φ X cs hc=> ?_⟩;have h12:=hE.size;rw [ea Tryz.func8 rfl];simp only [show Tryz.f8.ntmps=27 from rfl];walk_nrm;refine fet bg (zu Tryz.func8 pv8 fd rfl) rfl ?_;apply Exists.intro
 case' h => refine And.intro ?ha (And.intro ?hp ?hc)
 case ha=>
    intro t d;refine rl (rj ?_);go_wp2;refine rl (yt ?_);simp only [szs];refine uy rfl rfl (u:= .int .i64 (n:Int)) (v1:=reW v0 t d) gw ?_;walk_nrm;refine uy rfl rfl (u:= .int .i64 (room:Int)) (v1:=reW v0 t d) gw ?_;walk_nrm;exact zt ⟨rfl,t,d,rfl⟩
 case hp => rfl
 case hc=>
    intro t d;refine fba (new_fc (N:=N) hn1 hn6 hr1 hr16 (hB.re t d) h12) jh rfl rfl gh rfl Tryz.func18 fd rfl ?_;rintro x WS' Shun' v1 N' ⟨rfl,rfl,L,ow,rfl,hM⟩;have hO:Old v0.heap.size v0 v1:=hM.old.re';have hlive:Live L E A (Plain.new n room) ow v1:=⟨⟨V0,hM.mem⟩,hM.marks,hE.old hO h12 hA,Plain.new_good hn1 hn6 hr1 hr16,Plain.new_bnd,fun i hi h2=>hM.low _ (hA i hi h2)⟩;walk_nrm;refine fet hM.seats.ok (zu Tryz.func8 pv8 fd rfl) rfl ?_;apply Exists.intro
    case' h => refine And.intro ?ha (And.intro ?hp ?hc)
    case ha=>
     intro t d;refine uy rfl rfl (u:= .tuple #[.pointer (some ⟨L.b,0,none⟩),.nilIface]) (v1:=reW v1 t d) gw ?_;walk_nrm;refine uy rfl rfl (u:= .pointer (some ⟨L.b,0,none⟩)) (v1:=reW v1 t d) gw ?_;walk_nrm;refine uy rfl rfl (u:= .nilIface) (v1:=reW v1 t d) gw ?_;walk_nrm;refine uy rfl rfl (u:= .pointer (some ⟨L.b,0,none⟩)) (v1:=reW v1 t d) gw ?_;walk_nrm;refine uy rfl rfl (u:= .nilIface) (v1:=reW v1 t d) gw ?_;walk_nrm;refine ie (rl (rj ?_));go_wp2_with (first | (go_at_call 19;refine (fni _).mono ?_;rintro e w1 ⟨rfl,rfl⟩));refine rl (rj ?_);go_wp2;refine rl (rj ?_);go_wp2;exact fnj (zt ⟨rfl,t,d,rfl⟩)
    case hp => rfl
    case hc=>
     intro t' d';refine fhp (fn:=Tryz.f8) rfl rfl Tryz.func8 (resultsC_tmp2 (t:=4) (u:=5) rfl _) ?_;exact hc _ _ _ _ _ ⟨rfl,rfl,L,ow,rfl,⟨hlive.re _ _,rfl,hM.y6,hM.y7,hM.seats,hM.low⟩,hO.re _ _⟩
end
section
variable {Φ:Goal} {WS:Nat→Option SeatD} {Shun:Loc→Prop} {v v0:World} {n room N N' n0:Nat} {X:Frame} {cs:List Frame} {E:Nat→Value} {A:Nat→Addr} {L:Lay} {S:Plain.Ses} {ow:Nat→Nat}
def Sess.re (h:Sess n N n0 L E A S ow WS v) (t:Nat→Question→Nat) (d:Nat):Sess n N n0 L E A S ow WS (reW v t d):=⟨h.live.re t d,h.num,h.y6,h.y7,h.seats,h.low⟩
def Sess.sesV (h:Sess n N n0 L E A S ow WS v) (h1:1≤n) (h6:n≤6): ∃ ab cp,SesV L.b L.sb ab n cp L.c0 L.kb L.wc v:=by
 obtain ⟨V,hM⟩:=h.live.mem;have hn:=h.num;subst hn;have T:=hM.tag;have har:=hM.ar;rcases har.2 with ⟨_,h0⟩ | ⟨g,cap,cur,e,_,hh,_⟩
 · omega
 · refine ⟨g,cap,⟨⟨_,_,hM.bb.at_,rfl,rfl,?_,rfl,rfl,?_,?_⟩,?_,fun i hi=>⟨?_,?_⟩,⟨?_,?_,fun i hi=> ?_⟩,by omega,h1,h.live.marks.m0,h.live.marks.ms,fun i hi=> ?_⟩⟩
   · show some L.cls=_;rw [e]
   · show some L.y6=_;rw [h.y6]
   · show some L.y7=_;rw [h.y7]
   · rw [hM.ss.ce 5];rfl
   · have:=f3g har (g:=g) qe i (.pointer (some ⟨L.kb i,0,none⟩)) (by
      unfold clsL;rw [f1s,f5k hi];rfl)
     have hadd:(⟨g,0,none⟩:Addr).add i=⟨g,i,none⟩:=by unfold Addr.add;split <;>simp_all
     rw [hadd] at this;exact this
   · rw [(hM.kk i hi).ce 10];rfl
   · intro e;have h1:=T.sb;have h2:=T.b;rw [e] at h1;omega
   · intro e';have h1:=T.ar g qe;have h2:=T.b;rw [e'] at h1;omega
   · intro e;have h1:=T.kb i hi;have h2:=T.b;rw [e] at h1;omega
   · intro e;have h1:=T.wc i hi;have h2:=T.c0;rw [e] at h1;omega
def StopR (n0 N':Nat) (L:Lay) (Shun:Loc→Prop) (v:World) (x:Value) (WS':Nat→Option SeatD) (Shun':Loc→Prop) (v':World) (N2:Nat):Prop:=
 x= .tuple #[]∧WS'=vb∧Shun'=fax L.b Shun∧N2=N'∧Old n0 v v'
def f6d (h:Sess n N n0 L E A S ow WS v) (h1:1≤n) (h6:n≤6) (hN:1≤N) (hN':N+(n+1)≤N') (hn0:n0≤v.heap.size):Fc WS Shun v N' 12 #[.pointer (some ⟨L.b,0,none⟩)] (StopR n0 N' L Shun v):=by
 refine ⟨fun Φ X cs hc=> ?_⟩;obtain ⟨ab,cp,hV⟩:=h.sesV h1 h6;have hW:=h.seats.all (N:=N') hN hN';have hch:(fun i=>chs L (i+1))=L.wc:=by funext i;simp [chs]
 have hc0:chs L 0=L.c0:=rfl;rw [hch,hc0] at hW;refine frl hW hV fun v' hK=> ?_;obtain ⟨V,hM⟩:=h.live.mem;have T:=hM.tag;refine hc _ _ _ _ _ ⟨rfl,rfl,rfl,rfl,Old.but hn0 hK fun x hx=> ?_⟩;have h0:=h.low x hx;rintro (rfl | rfl | ⟨i,hi,rfl⟩)
 · have:=T.b;omega
 · have:=T.c0;omega
 · have hn:=h.num;have:=T.wc i fe;omega
end
end Go.Proofs.YtelecjnabeokeaaGreatDoor
namespace Go.Proofs.YtelecjnabeokeaaGreatDoor
open Go Go.RowKit
attribute [local go_sem] f5q
def fhr {t:List Plain.El} {k:Nat} {e:Plain.El} (h:t[k]? =some e):(flat t)[k*3]? =some (.int .i32 e.r)∧(flat t)[k*3+1]? =some (.int .i64 e.c)∧(flat t)[k*3+2]? =some (.int .i64 e.n):=by
 induction t generalizing k with
 | nil=>simp at h
 | cons x t ih=>
   cases k with
   | zero=>simp at h;subst h;simp [flat]
   | succ k=>
     simp at h;have:=ih h;simp only [flat];rw [show (k+1)*3=k*3+1+1+1 by omega];simpa using this
section
variable {L:Lay} {V:Vals} {S:Plain.Ses} {ow ow':Nat→Nat} {w w':World} {E:Nat→Value}
def fta (n:Nat) {w0:World} (h:Mem L V S 0 ow w0) (hM:Marks L S.n w0) (hE:Errs E w0) (hw0:Bl w0 w) (hn1:1≤S.n) (hn6:S.n≤6) (c:Int) (bs bc l:Nat) (hbs:Bk w bs 26 #[.pointer (some ⟨L.b,0,none⟩)]) (hbc:Bk w bc 3 #[.int .i64 c]) (hlen:(Plain.textOf S c).length≤4000)
    (J:Nat→World→Prop) (hJ0: ∀ W,Bl w W→J 0 W) (hJb: ∀ k W,J k W→Bl w0 W) (hJa: ∀ k W o,J k W→J k (W.alloc o))
    (hY: ∀ k W e,J k W→(Plain.textOf S c)[k]? =some e→YieldAt Fence.wide (n-1) PV l #[.int .i64 (k:Int),elV e] W fun x W'=>x= .returned (.bool true)∧J (k+1) W'):
    CallsIn Fence.wide n PV 59 #[.func (.yield l) #[] #[],.pointer (some ⟨bs,0,none⟩),.pointer (some ⟨bc,0,none⟩)] w fun x W'=>(∃ v,x= .returned v)∧J (Plain.textOf S c).length W':=by
 have hT:=h.textAt c;obtain ⟨A,cc,hv⟩:=hT.slice;have hX:=fx6 (fnl (h.bl hw0) (hM.bl hw0) (hE.bl h.size hw0) hn1 hn6 c);rw [hv] at hT hX;have hTT:=fx6 hT;obtain ⟨c1,d1⟩:=hbs.ceF;obtain ⟨c2,d2⟩:=hbc.ceF;clear h hM hE hv hT;generalize Plain.textOf S c=t at*;refine callsIn_of_wp PV.func59 rfl trivial ?_ rfl;simp only [Tryz.ntmps59,f3s,fz6,f06,Nat.reduceAdd,Nat.reduceSub,Array.replicate_succ,Array.replicate_zero,List.push_toArray,List.append_toArray,f2h,f0j]
 gi_wp2_with (first | (refine ⟨trivial,fun hh=>absurd hh fu,?_⟩;gi_at_call 60;refine (f4j.2 hX.out).mono ?_;rintro e w1 ⟨rfl,hb⟩))
 gi_loopw [10] (fun i wr=> ∃ k:Nat,k≤t.length∧i= .int .i64 (k:Int)∧J k wr) (fun i _=>t.length-(intOf i).toNat)
 case atStart => exact ⟨0,f1n _,rfl,hJ0 _ hb⟩
 case round=>
    obtain ⟨k,hk,rfl,hJs⟩:=hrel;by_cases hlt:k<t.length
    · have hTr:=hTT.out.bl (hJb k wr hJs);obtain ⟨e,he⟩: ∃ e,t[k]? =some e:=⟨t[k],f0r hlt⟩
      obtain ⟨g,rfl⟩: ∃ g,A=some ⟨g,0,none⟩:=by
        rcases hTr.form with ⟨_,h2⟩ | ⟨g,cap,h1,_⟩
        · rw [h2] at hlt;simp at hlt
        · injection h1 with h1;exact ⟨g,h1⟩
      have hc:=hTr.cells;obtain ⟨f0,f1,f2⟩:=fhr he;have q0:=hc _ _ f0;have q1:=hc _ _ f1;have q2:=hc _ _ f2;simp only [f2u,f1k] at q0 q1 q2;have hin:(k:Int)<(t.length:Int):=by omega
      have hw1:IntKind.i64.wrap ((k:Int)+1)=(k:Int)+1:=f0t _ fe;obtain ⟨fn,tmps,assign,body,hy,hR⟩:=hY k (wr.alloc (.cells #[.int .i32 e.r,.int .i64 e.c,.int .i64 e.n] 38)) e (hJa _ _ _ hJs) he;clear hTT hTr hc f0 f1 f2 hY
      gi_wp2
      refine ⟨fun hh=>absurd hh fu,hR.mono ?_⟩;rintro x W3 ⟨rfl,hJ3⟩
      gi_wp2
      go_roundw
      case rel => exact ⟨k+1,by omega,by simp,hJ3⟩
      case measure => simp [intOf];omega
    · obtain rfl:k=t.length:=by omega
      gi_wp2
      go_end0
      exact ⟨⟨_,rfl⟩,hJs⟩
def ftb (c:Int) (b:Addr) (w:World):Calls PV 27 #[.pointer (some b),.int .i64 c] w fun x w'=>x= .returned (.func (.func 59) #[] #[.pointer (some ⟨w.heap.size,0,none⟩),.pointer (some ⟨w.heap.size+1,0,none⟩)])∧w'=(w.alloc (.cells #[.pointer (some b)] 26)).alloc (.cells #[.int .i64 c] 3):=by
 go_enter PV.func27,Tryz.ntmps27;go_wp2;go_ret;exact ⟨rfl,rfl⟩
end
section
open Go.Shelf
def fk5 {g:Operand} {ps:Array Tmp} {assign body:Code} {Q:Exit→Act→World→Prop} {a:Act} {w:World} {n gf:Nat} {lb:Array Value} (hg:a.eval g= .func (.func gf) #[] lb)
    (eg: ∀ args w,(callFunc gf args).run PV w= .ok (.enter gf args) w) (Z:World→Prop)
    (hcall: ∀ (r:Loop),r.state= .ready→r.pending=none→r.tmps=a.tmps→r.params=ps→r.assign=assign→r.body=body→ ∀ W1,W1=(w.alloc (.deferred (some []))).alloc (.loop r)→
      CallsIn Fence.wide (n-1) PV gf (#[.func (.yield (w.heap.size+1)) #[] #[]]++lb) W1 (fun e W2=>(∃ v,e= .returned v)∧W2.heap[w.heap.size+1]? =some (.loop r)∧Z W2))
    (hdone: ∀ (r:Loop) W2,Z W2→W2.heap[w.heap.size+1]? =some (.loop r)→Q .normal { a with defers:={ target:= .collected w.heap.size,args:= #[] }::a.defers } (W2.putObj (w.heap.size+1) (.loop { r with state:= .exhausted }))):
    (Code.rangeFunc g ps assign body).wpIn Fence.wide n PV Q a w:=by
 refine wpIn_rangeFunc ?_;intro fn hfn;obtain ⟨r,hr⟩: ∃ r:Loop,r={ state:= .ready,pending:=none,fn:=fn,tmps:=a.tmps,params:=ps,assign:=assign,body:=body,defers:=w.heap.size }:=⟨_,rfl⟩;have hc:=hcall r (by rw [hr]) (by rw [hr]) (by rw [hr]) (by rw [hr]) (by rw [hr]) (by rw [hr]) _ rfl
 refine ⟨w.heap.size+1,[{ target:= .collected w.heap.size,args:= #[] }],(w.alloc (.deferred (some []))).alloc (.loop r),{ target:= .fn (.func gf) lb,args:= #[.func (.yield (w.heap.size+1)) #[] #[]] },(w.alloc (.deferred (some []))).alloc (.loop r),gf,
    #[.func (.yield (w.heap.size+1)) #[] #[]]++lb,(w.alloc (.deferred (some []))).alloc (.loop r),?_,?_,?_,?_,fun hh=>absurd hh fu,?_⟩
 · rw [hr];exact run_enterLoop_outer _ _ _ _ _
 · simp only [resolve,hg];simp [go_sem]
 · intro f' hf';trivial
 · simp [invoke,go_sem,eg]
 · refine hc.mono ?_;rintro e W2 ⟨⟨v,rfl⟩,hl,hz⟩;refine ⟨none,W2.putObj (w.heap.size+1) (.loop { r with state:= .exhausted }),?_,hdone r W2 hz hl⟩;have:=_root_.Go.run_endLoop (P:=PV) hl (by rw [hr];simp);rw [this,hr]
def fk6 {W:World} {l m:Nat} {r:Loop} {args:Array Value} {R:World→Prop} (hl:W.heap[l]? =some (.loop r)) (hr:r.state= .ready) (hp:r.pending=none) (hs:args.size=r.params.size)
    (h: ∀ rb:Loop,r.assign.wpIn (Fence.wide.inRound l) m PV (Exit.then (fun a₁ w₁=>w₁.heap[l]? =some (.loop r)∧r.body.wpIn (Fence.wide.inRound l) m PV (fun e _ w2=>e= .normal∧w2.heap[l]? =some (.loop rb)∧R (w2.putObj l (.loop r))) a₁ (w₁.putObj l (.loop rb))) (fun _ _ _=>False))
      { tmps:=(r.params.zip args).foldl (fun t (p,v)=>t.setIfInBounds p v) r.tmps,defers:=[] } W):
    YieldAt Fence.wide m PV l args W fun x W'=>x= .returned (.bool true)∧R W':=by
 refine ⟨_,_,_,_,run_yield hl hs,roundIn_of_wpIn trivial (wpIn_mono (h { r with state:= .busy }) ?_)⟩;intro e a1 w1 hq;cases e with
 | normal=>
   obtain ⟨h1,h2⟩:=hq;refine ⟨_,run_beginRound h1 hr,wpIn_mono h2 ?_⟩;rintro e2 a2 w2 ⟨rfl,h3,h4⟩;have e:({ r with state:= .ready,pending:=none }:Loop)=r:=by cases r;simp_all
   refine ⟨_,_,run_endRound none h3,rfl,?_⟩;simp only [Option.isNone_none,f0e];rw [e];exact h4
 | ret=>exact hq.elim
 | exit _=>exact hq.elim
 | goto _=>exact hq.elim
 | panic _=>exact hq.elim
 | outgrown=>exact hq.elim
end
def fly {w:World} {base n size:Nat} {e:TypeId} {v:Value} {xs:List Value} (h:w.ownsRow base e size v n xs): ∃ A c,v= .slice A n c:=by
 rcases h.2 with ⟨rfl,h2⟩ | ⟨g,cap,cur,rfl,_⟩
 · subst h2;exact ⟨_,_,rfl⟩
 · exact ⟨_,_,rfl⟩
def Ch.po {K:Nat→Prop} {w w1:World} (h:Ch K w w1) {l:Nat} (hl:K l∨w.heap.size≤l) (o:Obj):Ch K w (w1.putObj l o):=
 h.tr (K':=fun x=>x=l) ⟨rfl,rfl,rfl,by simp [World.putObj],fun x _ hn=>World.putObj_heap_other hn⟩ fun x hx=>by subst hx;exact hl
end Go.Proofs.YtelecjnabeokeaaGreatDoor
namespace Go.Proofs.YtelecjnabeokeaaGreatDoor
open Go Go.RowKit
attribute [local go_sem] f5q
section
variable {L:Lay} {V:Vals} {S:Plain.Ses} {ow ow':Nat→Nat} {w w':World} {E:Nat→Value}
structure EI (w:World) (s0 D:Nat) (t:List Plain.El) (k:Nat) (W:World):Prop where
 bl:Bl w W
 n0:Bk W s0 3 #[.int .i64 0]
 ok:Bk W (s0+1+1) 4 #[.bool true]
 dd:W.heap[D]? =some (.deferred (some []))
 row: ∃ v,Bk W (s0+1) 32 #[v]∧W.ownsRow s0 38 3 v k (flat (t.take k))
def EI.ch {s0 D k:Nat} {t:List Plain.El} {W W':World} {K:Nat→Prop} (h:EI w s0 D t k W) (hC:Ch K W W') (hK: ∀ x,K x→w.heap.size≤x) (h0: ¬ K s0) (h1: ¬ K (s0+1)) (h2: ¬ K (s0+1+1)) (hD: ¬ K D) (hR: ∀ v,W.ownsRow s0 38 3 v k (flat (t.take k))→ ∀ x,v.ownBlock=some x→ ¬ K x):EI w s0 D t k W':=by
 obtain ⟨v,hv,hr⟩:=h.row;exact ⟨zf h.bl hC hK,h.n0.ch hC h0,h.ok.ch hC h2,(hC.block D (fx5.1 h.dd).1 hD).trans h.dd,v,hv.ch hC h1,qx hC hr (hR v hr)⟩
def EI.al {s0 D k:Nat} {t:List Plain.El} {W:World} (h:EI w s0 D t k W) (o:Obj):EI w s0 D t k (W.alloc o):=
 h.ch (K:=fun _=>False) ((Ch.rf _ _).al o) (fun _ h=>h.elim) (fun h=>h) (fun h=>h) (fun h=>h) (fun h=>h) (fun _ _ _ _ h=>h)
def EI.bl' {s0 D k:Nat} {t:List Plain.El} {W W':World} (h:EI w s0 D t k W) (hb:Bl W W'):EI w s0 D t k W':=
 h.ch (K:=fun _=>False) (Ch.ba hb) (fun _ h=>h.elim) (fun h=>h) (fun h=>h) (fun h=>h) (fun h=>h) (fun _ _ _ _ h=>h)
def ftc (h:Mem L V S 0 ow w) (hM:Marks L S.n w) (hE:Errs E w) (hn1:1≤S.n) (hn6:S.n≤6) (c:Int) (hlen:(Plain.textOf S c).length<3000):
    Calls PV 11 #[.pointer (some ⟨L.b,0,none⟩),.int .i64 c,.int .i64 0] w fun x w'=> ∃ v,x= .returned (.tuple #[v,.bool true])∧w'.ownsRow w.heap.size 38 3 v (Plain.textOf S c).length (flat (Plain.textOf S c))∧Bl w w':=by
 have hh:=fx6 h;have hMM:=fx6 hM;have hEE:=fx6 hE;clear h hM hE;refine (f4j (n:=8)).1 ?_;refine callsIn_of_wp_marks PV.func11 rfl trivial ?_ rfl;simp only [Tryz.ntmps11,f3s,fz6,f06,Nat.reduceAdd,Nat.reduceSub,Array.replicate_succ,Array.replicate_zero,List.push_toArray,List.append_toArray,f2h,f0j]
 gi_wp2_with (first | (refine ⟨trivial,?_⟩;gi_at_call 27;refine (f4j.2 (ftb _ _ _)).mono ?_;rintro e w1 ⟨rfl,rfl⟩))
 refine vy (F:=fun W0=>Bl w W0∧Bk W0 w.heap.size 3 #[.int .i64 0]∧Bk W0 (w.heap.size+1) 32 #[.slice none 0 0]∧Bk W0 (w.heap.size+1+1) 4 #[.bool true]∧Bk W0 (w.heap.size+1+1+1) 26 #[.pointer (some ⟨L.b,0,none⟩)]∧Bk W0 (w.heap.size+1+1+1+1) 3 #[.int .i64 c]∧W0.heap.size=w.heap.size+5) ?_ ?_
 · refine ⟨((((((Bl.rf _).al _).al _).al _).al _).al _),((((Bk.nw fi).al _).al _).al _).al _,(((Bk.nw fi).al _).al _).al _,((Bk.nw fi).al _).al _,(Bk.nw fi).al _,Bk.nw fi,by simp⟩
 rintro W0 ⟨gb,b5,b8,b9,bs,bc,hsz⟩;obtain ⟨s0,hse⟩: ∃ s0,w.heap.size=s0:=⟨_,rfl⟩;rw [hse] at b5 b8 b9 bs bc hsz ⊢;refine fk5 (gf:=59) (lb:= #[.pointer (some ⟨s0+1+1+1,0,none⟩),.pointer (some ⟨s0+1+1+1+1,0,none⟩)]) rfl (fun args w=>PV.call59 args w) (fun W=>EI w s0 (s0+5) (Plain.textOf S c) (Plain.textOf S c).length W) ?_ ?_
 · intro r r1 r2 r3 r4 r5 r6 W1 hW1;rw [hsz];have hD1:W1.heap[s0+5]? =some (.deferred (some [])):=by rw [hW1,← hsz];exact (f14 _ _ _ fi).trans (f3n W0 _)
   have hl1:W1.heap[s0+5+1]? =some (.loop r):=by
    rw [hW1,← hsz];have:=f3n (W0.alloc (.deferred (some []))) (.loop r);simpa using this
   have hb1:Bl W0 W1:=by rw [hW1];exact ((Bl.rf _).al _).al _
   clear hW1;have h0:EI w s0 (s0+5) (Plain.textOf S c) 0 W1:=⟨gb.cl hb1,b5.bl hb1,b9.bl hb1,hD1,.slice none 0 0,b8.bl hb1,f0w _ _ _ _⟩;refine (fta (8-1) hh.out hMM.out hEE.out (gb.cl hb1) hn1 hn6 c (s0+1+1+1) (s0+1+1+1+1) (s0+5+1) (bs.bl hb1) (bc.bl hb1) fe (fun k W=>EI w s0 (s0+5) (Plain.textOf S c) k W∧W.heap[s0+5+1]? =some (.loop r)) ?_ ?_ ?_ ?_).mono ?_
   · exact fun W hb=>⟨h0.bl' hb,(hb.block _ (fx5.1 hl1).1).trans hl1⟩
   · exact fun k W hJ=>hJ.1.bl
   · exact fun k W o hJ=>⟨hJ.1.al o,(f14 W o _ (fx5.1 hJ.2).1).trans hJ.2⟩
   · rintro k W e ⟨hI,hl⟩ he;refine fk6 hl r1 r2 (by rw [r4];rfl) fun rb=> ?_;rw [r3,r4,r5,r6];have hkl:k<(Plain.textOf S c).length:=(f1c.1 he).1;generalize Plain.textOf S c=t at*;have hWs:=(fx5.1 hl).1
     gi_wp2
     refine ⟨(f14 _ _ _ hWs).trans hl,?_⟩;have hl':(W.alloc (.cells #[.int .i32 e.r,.int .i64 e.c,.int .i64 e.n] 38)).heap[s0+5+1]? =some (.loop r):=(f14 _ _ _ hWs).trans hl
     have hneK: ∀ g tt cs,Bk (W.alloc (.cells #[.int .i32 e.r,.int .i64 e.c,.int .i64 e.n] 38)) g tt cs→ ¬ g=s0+5+1:=fun g tt cs hg e=>by
        have:=hg.at_;rw [e,hl'] at this;cases this
     have hIa:=hI.al (.cells #[.int .i32 e.r,.int .i64 e.c,.int .i64 e.n] 38);have hCl:Ch (fun x=>x=s0+5+1) (W.alloc (.cells #[.int .i32 e.r,.int .i64 e.c,.int .i64 e.n] 38)) ((W.alloc (.cells #[.int .i32 e.r,.int .i64 e.c,.int .i64 e.n] 38)).putObj (s0+5+1) (.loop rb)):=(Ch.rf (fun x=>x=s0+5+1) _).po (.inl rfl) _;refine vy (F:=fun W2=>EI w s0 (s0+5) t k W2∧W2.heap[s0+5+1]? =some (.loop rb)∧Bk W2 W.heap.size 38 #[.int .i32 e.r,.int .i64 e.c,.int .i64 e.n]) ⟨?_,?_,?_⟩ ?_
     · exact hIa.ch hCl (fun x e=>by omega) (hneK _ _ _ hIa.n0) (by obtain ⟨v,hv,_⟩:=hIa.row;exact hneK _ _ _ hv) (hneK _ _ _ hIa.ok) fe (fun v hv x hx e=>uz hv hl' (fun _ _ _ e=>by cases e) x hx e)
     · exact f4v ja
     · exact (Bk.nw rfl).ch hCl (hneK _ _ _ (Bk.nw rfl))
     generalize W.heap.size=xe;clear hCl hneK hl' hIa hI hl hWs;rintro W2 ⟨hI2,hl2,hx⟩;obtain ⟨v,hv,hrow⟩:=hI2.row;obtain ⟨A,cc,rfl⟩:=fly hrow;obtain ⟨i0,hi0,hz0,hz1,hz2⟩:=f4i frt;have hI0:=fx6 hi0;have hZ0:=fx6 hz0;have hZ1:=fx6 hz1;have hZ2:=fx6 hz2;clear hi0 hz0 hz1 hz2;have hR:=fx6 (fun W' (hC:Ch (fun x=>x=s0+1+1) W2 W')=>qx hC hrow (fun x hx e=>rp hrow hI2.ok fu x hx e));obtain ⟨c1,d1⟩:=hI2.n0.ceF;obtain ⟨c2,d2⟩:=hI2.ok.ceF;obtain ⟨c3,d3⟩:=hv.ceF;obtain ⟨c4,d4⟩:=hx.ceF;have hne1: ¬ xe=s0+1+1:=hx.ne_ hI2.ok fu;have hne2: ¬ xe=s0+1:=hx.ne_ hv fu;have hO8:=fx6 (rp hrow hv fu);have hO5:=fx6 (rp hrow hI2.n0 fu);have hin3:((k:Int)+1==3000)=false:=by simp;omega
     have hin0:((k:Int)+1==0)=false:=by simp;omega
     have hsz2:s0≤W2.heap.size:=by have:=hI2.n0.lt;omega
     gi_wp2_with (first | (gi_at_builtin;refine wpListIn_append_own _ rfl (.tmp 24) (.tmp 26) _ rfl s0 38 i0 _ 3 24 fru hI0.out hZ0.out hZ1.out hZ2.out rfl fe (.slice A k cc) k (flat (t.take k)) rfl (hR.out _ (((Ch.rf (fun x=>x=s0+1+1) W2).st (p:=⟨s0+1+1,0,none⟩) (.inl rfl) _).al _)) ⟨W2.heap.size,0,none⟩ 1 1 [.int .i32 e.r,.int .i64 e.c,.int .i64 e.n] rfl rfl (f2m (cs:= #[.int .i32 e.r,.int .i64 e.c,.int .i64 e.n]) (t:=38) (fr:=(0,0)) (Bk.nw (by simp [World.setCell])).at_) p9 jq fe ja ?_;intro v' w1 hown' hgrow _;obtain ⟨A',cc',rfl⟩:=fly hown';have k8:=Bk.gr hgrow (fun e=>hO8.out _ e.symm rfl) (Bk.al (Bk.fr _ fi hv) _);have k5:=Bk.gr hgrow (fun e=>hO5.out _ e.symm rfl) (Bk.al (Bk.fr _ ja hI2.n0) _);obtain ⟨c8,d8⟩:=k8.ceF;obtain ⟨c5,d5⟩:=k5.ceF))
     have hlt2:=(fx5.1 hl2).1;have hOl:=uz hrow hl2 (fun _ _ _ e=>by cases e)
     have hC5:Ch (fun x=>x=s0+1+1∨x=s0+1∨(Value.slice A k cc).ownBlock=some x) W2 (w1.setCell ⟨s0+1,0,none⟩ (.slice A' (k+1) cc')):=
        ((((Ch.rf (fun x=>x=s0+1+1∨x=s0+1∨(Value.slice A k cc).ownBlock=some x) W2).st (p:=⟨s0+1+1,0,none⟩) (.inl (.inl rfl)) _).al _).gr hgrow (fun x hx=> .inl (.inr (.inr hx)))).st (p:=⟨s0+1,0,none⟩) (.inl (.inr (.inl rfl))) _
     have hl5:(w1.setCell ⟨s0+1,0,none⟩ (.slice A' (k+1) cc')).heap[s0+5+1]? =some (.loop rb):=(hC5.block _ hlt2 (by rintro (e | e | e);omega;omega;exact hOl _ e rfl)).trans hl2;have hlt5:=(fx5.1 hl5).1;have hC6:=(hC5.mo (K':=fun x=>(x=s0+1+1∨x=s0+1∨(Value.slice A k cc).ownBlock=some x)∨x=s0+5+1) (fun x hx=> .inl hx)).po (l:=s0+5+1) (.inl (.inr rfl)) (.loop r);have hCl:Ch (fun x=>x=s0+5+1) (w1.setCell ⟨s0+1,0,none⟩ (.slice A' (k+1) cc')) ((w1.setCell ⟨s0+1,0,none⟩ (.slice A' (k+1) cc')).putObj (s0+5+1) (.loop r)):=(Ch.rf (fun x=>x=s0+5+1) _).po (.inl rfl) _;have hO2:=rp hrow hI2.ok fu;refine ⟨hl5,⟨zf hI2.bl hC6 (fun x hx=> ?_),hI2.n0.ch hC6 ?_,?_,(hC6.block _ (fx5.1 hI2.dd).1 ?_).trans hI2.dd,.slice A' (k+1) cc',((k8.st _).cv fi).ch hCl fe,?_⟩,f4v hlt5⟩
     · rcases hx with (e | e | e) | e
       · omega
       · omega
       · have:=(hrow.lt x e).1;omega
       · omega
     · rintro ((e | e | e) | e)
       · omega
       · omega
       · exact hO5.out _ e rfl
       · omega
     · have k2:=Bk.gr hgrow (fun e=>hO2 _ e.symm rfl) (Bk.al ((hI2.ok.st (i:=0) (.bool true)).cv (cs':= #[.bool true]) fi) (.cells #[.int .i32 e.r,.int .i64 e.c,.int .i64 e.n] 38));exact (Bk.fr _ fi k2).ch hCl fe
     · rintro ((e | e | e) | e)
       · omega
       · omega
       · exact uz hrow hI2.dd (fun _ _ _ e=>by cases e) _ e rfl
       · omega
     · have e1:flat (t.take (k+1))=flat (t.take k)++[.int .i32 e.r,.int .i64 e.c,.int .i64 e.n]:=by
         rw [List.take_add_one,he,ol];rfl
       rw [e1];have o1:(w1.setCell ⟨s0+1,0,none⟩ (.slice A' (k+1) cc')).ownsRow s0 38 3 (.slice A' (k+1) cc') (k+1) (flat (t.take k)++[.int .i32 e.r,.int .i64 e.c,.int .i64 e.n]):=qx (K:=fun x=>x=s0+1) ((Ch.rf (fun x=>x=s0+1) _).st (p:=⟨s0+1,0,none⟩) (.inl rfl) _) hown' (rp hown' k8 fu);exact qx hCl o1 (fun x hx e=>uz o1 hl5 (fun _ _ _ e=>by cases e) x hx e)
   · rintro e W ⟨hv,hI,hl⟩;exact ⟨hv,hl,hI⟩
 · intro r W2 hI hl;rw [hsz] at hl ⊢;have hCl:Ch (fun x=>x=s0+5+1) W2 (W2.putObj (s0+5+1) (.loop { r with state:= .exhausted })):=(Ch.rf (fun x=>x=s0+5+1) _).po (.inl rfl) _;have hI3:=hI.ch hCl (fun x e=>by omega) fe fe fe fe (fun v hv x hx e=>uz hv hl (fun _ _ _ e=>by cases e) x hx e);refine vy (F:=fun W3=>EI w s0 (s0+5) (Plain.textOf S c) (Plain.textOf S c).length W3) hI3 ?_;clear hI3 hCl hI hl;rintro W3 hI;obtain ⟨v,hv,hrow⟩:=hI.row;obtain ⟨c1,d1⟩:=hI.ok.ceF;obtain ⟨c2,d2⟩:=hv.ceF
   gi_wp2
   gi_region
   all_goals gi_wp2
   have hdd:W3.drew.heap[s0+5]? =some (.deferred (some [])):=hI.dd;have hCd:Ch (fun x=>x=s0+5) W3 (W3.drew.putObj (s0+5) (.deferred none)):=((Ch.rf (fun x=>x=s0+5) W3).dr).po (.inl rfl) _;refine ⟨by simp,.inl ⟨_,_,rfl,run_takeDeferred hdd,?_⟩⟩;refine ⟨_,results_tmp2 rfl _ _ _,v,rfl,?_,zf hI.bl hCd (fun x e=>by omega)⟩;rw [hse];have:=qx hCd hrow (fun x hx e=>uz hrow hI.dd (fun _ _ _ e=>by cases e) x hx e);rwa [f4a] at this
end
end Go.Proofs.YtelecjnabeokeaaGreatDoor
namespace Go.Proofs.YtelecjnabeokeaaGreatDoor
open Go Go.RowKit
def fk7:ccV.ntmps=5:=rfl
def fnn:((PV.info? 102).map fun i=>decide (i.bytes<2 ^ 64))=some true:=by kernel_rfl
def lies102:liesAt Tryz.prog Tryz.prog.depth 102 (2 / Tryz.prog.cellsOf 102) 0 102 1=true:=by kernel_rfl
def us99 {v:World} {bb:Nat} {cs:Array Value} (hB:Bk v bb 102 cs) (hs:cs.size=2):(Builtin.unsafeSlice_ #[99,3] 0 #[.pointer (some ⟨bb,0,none⟩),.int .i64 1]).run PV v= .ok (.slice (some ⟨bb,0,none⟩) 1 1) v:=by
 have hsh:v.shape? bb=some (102,2):=by simp [World.shape?,hB.at_,hs]
 have hu: ∀ w,(underlying 99).run PV w= .ok (.pointer 102) w:=fun w=>by rw [ua];exact Tryz.runUnderlying99 w
 have hel: ∀ w,(elemOf 99).run PV w= .ok 102 w:=fun w=>by simp [elemOf,fz9,hu,Result.andThen,Pure.pure,Sem.run]
 have hva:(variablesAt ⟨bb,0,none⟩ 102 1).run PV v= .ok true v:=by
    have:(Go.shape bb:Sem _).run PV v= .ok (some (102,2)) v:=by simp [Go.shape,Sem.run,hsh]
    show ((Go.program >>= fun p'=>Go.shape bb >>= fun s=>(match s with
     | some (e,cells)=>Pure.pure (liesAt p' p'.depth e (cells / p'.cellsOf e) 0 102 1)
     | none=>Pure.pure false):Sem Bool)).run PV v=_
    simp [Go.program,fz9,this,Result.andThen,Sem.run,Pure.pure,m9,yw,vf,lies102]
 have hsz: ∀ w,(sizeOf 102).run PV w= .ok 2 w:=fun w=>by rw [fce];exact Tryz.sizeOf102 w
 obtain ⟨i,hi,hb⟩:=fy8.1 fnn;have hb: ¬ i.bytes≥2 ^ 64:=by simp at hb;omega
 have hti: ∀ w,(typeInfo 102).run PV w= .ok i w:=fun w=>by simp [typeInfo,Go.program,fz9,Sem.run,hi,Result.andThen,Pure.pure]
 have key: ∀ y:Value,(∀ w,(asInt y).run PV w= .ok 1 w)→(Builtin.unsafeSlice_ #[99,3] 0 #[.pointer (some ⟨bb,0,none⟩),y]).run PV v= .ok (.slice (some ⟨bb,0,none⟩) 1 1) v:=fun y hy=>by
    unfold Builtin.unsafeSlice_;refine (qw (hy v)).trans ?_;dsimp only;refine (qw (hel v)).trans ?_;rw [fx9 fu,fx9 fu];refine (qw (hti v)).trans ?_;have e1:(1:Int).toNat*i.bytes=i.bytes:=by simp
    rw [e1,fx9 hb];refine (qw (hsz v)).trans ?_;refine (qw hva).trans ?_;rfl
 exact key _ fun w=>rfl
section
variable {w:World} {bb:Nat} {v:Value}
def cc0 (hb:Base w) (hB:Bk w bb 102 #[.pointer none,v]) (h2:2≤bb):Calls PV 75 #[.pointer (some ⟨bb,0,none⟩)] w fun x w'=>x= .returned (.tuple #[])∧w'=w.setCell ⟨bb,0,none⟩ (.pointer (some ⟨bb,0,none⟩)):=by
 obtain ⟨k0,k1⟩:=hb.chk hB h2 0;obtain ⟨c,d⟩:=hB.ceF;have hu:=us99 hB rfl;clear hb hB;go_enter PV.func75,fk7;simp only [ccB,chkR,chk,oper];go_wp2
 first | (go_end0;exact ⟨rfl,rfl⟩) | (refine f0q (f2g rfl _ _ _) rfl ?_;exact ⟨rfl,rfl⟩)
def eql99 (p:Addr) (w:World):(binOp .eql 99 (.pointer (some p)) (.pointer (some p))).run PV w= .ok (.bool true) w:=by
 obtain ⟨j,hj,_⟩:=fy8.1 fnn;have hp:PV.underlying 99=some (.pointer 102):=Tryz.underlying99
 have h: ∀ d:Nat,(Op.equalIn (d+1) 99 (.pointer (some p)) (.pointer (some p))).run PV w= .ok true w:=fun d=>by
    simp [Op.equalIn,f1l hp,sizeOf,typeInfo,hj,run_sameAddr_same]
 simp only [binOp];simp [Op.equal,Op.maxDepth,h 9999]
def cc1 (hb:Base w) (hB:Bk w bb 102 #[.pointer (some ⟨bb,0,none⟩),v]) (h2:2≤bb):Calls PV 75 #[.pointer (some ⟨bb,0,none⟩)] w fun x w'=>x= .returned (.tuple #[])∧w'=w:=by
 obtain ⟨k0,k1⟩:=hb.chk hB h2 0;obtain ⟨c,d⟩:=hB.ceF;have he:=fun w=>eql99 ⟨bb,0,none⟩ w;clear hb hB;go_enter PV.func75,fk7;simp only [ccB,chkR,chk,oper];go_wp2
 first | (go_end0;exact ⟨rfl,rfl⟩) | (refine f0q (f2g rfl _ _ _) rfl ?_;exact ⟨rfl,rfl⟩)
def info5:(PV.info? 5).map (fun i=>(i.zero,i.size,i.bytes))=some (some (.int .u8 0),1,1):=by kernel_rfl
def und100:PV.underlying 100=some (.slice 5):=by kernel_rfl
abbrev fk8 (l:List Nat):List Value:=l.map fun (b:Nat)=>Value.int .u8 (b:Int)
def fff (s0 r:Nat) (l:List Nat) (hr:r≤127) (hO:w.ownsRow s0 5 1 v l.length (fk8 l)) (hl:l.length≤4000) (hs:s0≤w.heap.size):
    Calls PV 76 #[v,.int .i32 (r:Int)] w fun x w'=> ∃ g cap,x= .returned (.slice (some ⟨g,0,none⟩) (l.length+1) cap)∧w'.ownsRow s0 5 1 (.slice (some ⟨g,0,none⟩) (l.length+1) cap) (l.length+1) (fk8 (l++[r]))∧Ch (fun x=>v.ownBlock=some x) w w':=by
 obtain ⟨i0,hi0,hz0,hz1,hz2⟩:=f4i info5;have hI:=fx6 hi0;have hZ0:=fx6 hz0;have hZ1:=fx6 hz1;have hZ2:=fx6 hz2;clear hi0 hz0 hz1 hz2
 have hu:IntKind.u32.wrap (r:Int)=(r:Int):=by
    simp [IntKind.wrap,IntKind.signed,IntKind.bits,IntKind.min,IntKind.max];omega
 have hb:IntKind.u8.wrap (r:Int)=(r:Int):=by
    simp [IntKind.wrap,IntKind.signed,IntKind.bits,IntKind.min,IntKind.max];omega
 have hle:(r:Int)≤127:=by omega
 have hOO:=fx6 hO;clear hO;go_enter PV.func76,Tryz.ntmps76;go_wp2_with (first | (at_builtin;refine wpList_append_lies _ rfl (.tmp 8) (.tmp 11) _ rfl s0 5 i0 _ 1 1 und100 hI.out hZ0.out hZ1.out hZ2.out rfl fe v l.length (fk8 l) rfl (qx (K:=fun _=>False) (Ch.ba ((Bl.rf _).al _)) hOO.out (fun _ _ h=>h)) ⟨w.heap.size,0,none⟩ 1 1 [.int .u8 (r:Int)] rfl rfl (f2m (cs:= #[.int .u8 (r:Int)]) (t:=5) (fr:=(0,0)) (Bk.nw rfl).at_) p9 fe jq fe ja _ rfl ?_;intro g cap w1 hown1 hg1 hat1 hlt1));go_ret;exact ⟨g,cap,rfl,by simpa [fk8] using hown1,((Ch.rf (fun x=>v.ownBlock=some x) w).al _).gr hg1 (fun k hk=> .inl hk)⟩
structure BB (w:World) (bb s0:Nat) (l:List Nat):Prop where
 out: ∃ p v,(p= .pointer none∨p= .pointer (some ⟨bb,0,none⟩))∧Bk w bb 102 #[p,v]∧w.ownsRow s0 5 1 v l.length (fk8 l)
def fbv (s0 r:Nat) (l:List Nat) (hb:Base w) {p:Value} (hp:p= .pointer none∨p= .pointer (some ⟨bb,0,none⟩)) (hB:Bk w bb 102 #[p,v]) (hO:w.ownsRow s0 5 1 v l.length (fk8 l)) (h2:2≤bb) (hr:r≤127) (hl:l.length≤4000) (hs:s0≤w.heap.size):
    Calls PV 34 #[.pointer (some ⟨bb,0,none⟩),.int .i32 (r:Int)] w fun x w'=>(∃ y,x= .returned y)∧BB w' bb s0 (l++[r])∧Ch (fun x=>x=bb∨v.ownBlock=some x) w w':=by
 have hcc:Calls PV 75 #[.pointer (some ⟨bb,0,none⟩)] w fun x w'=>x= .returned (.tuple #[])∧Bk w' bb 102 #[.pointer (some ⟨bb,0,none⟩),v]∧Ch (fun x=>x=bb) w w':=by
    rcases hp with rfl | rfl
    · refine (cc0 hb hB h2).mono ?_;rintro x w' ⟨rfl,rfl⟩;exact ⟨rfl,(hB.st _).cv fi,(Ch.rf (fun x=>x=bb) w).st (p:=⟨bb,0,none⟩) (.inl rfl) _⟩
    · refine (cc1 hb hB h2).mono ?_;rintro x w' ⟨rfl,rfl⟩;exact ⟨rfl,hB,Ch.rf _ _⟩
 have hne:=rp hO hB fu;obtain ⟨A,cc,rfl⟩:=fly hO;have hOO:=fx6 hO;have hCC:=fx6 hcc;have hOlt:=fx6 hO.lt;clear hcc hO hB hb;go_enter PV.func34,Tryz.ntmps34;go_wp2_with (first | (go_at_call 75;refine hCC.out.mono ?_;rintro e w1 ⟨rfl,gB,gC⟩;have gO:=qx gC hOO.out hne;obtain ⟨c1,d1⟩:=gB.ceF;have hA:=fx6 (fff (w:=w1) s0 r l hr gO hl (f08 hs gC.size));have gBB:=fx6 gB;replace gC:=fx6 gC) | (go_at_call 76;refine hA.out.mono ?_;rintro e w2 ⟨g,cap,rfl,gO2,gC2⟩;have gB2:=gBB.out.ch gC2 (fun e=>hne _ e rfl);obtain ⟨c2,d2⟩:=gB2.ceF;have gB2':=fx6 gB2));refine f0q (v:= .tuple #[.int .i64 ((l.length:Int)+1-(l.length:Int)),.nilIface]) (by simp [results,Tryz.results34,go_sem]) rfl ⟨⟨_,rfl⟩,⟨⟨_,_,.inr rfl,(gB2'.out.st _).cv (by simp;rfl),?_⟩⟩,?_⟩
 · have:=qx (K:=fun x=>x=bb) ((Ch.rf (fun x=>x=bb) w2).st (p:=⟨bb,1,none⟩) (.inl rfl) (.slice (some ⟨g,0,none⟩) (l.length+1) cap)) gO2 (rp gO2 gB2'.out fu);simpa using this
 · exact (((gC.out.mo (K':=fun x=>x=bb∨(Value.slice A l.length cc).ownBlock=some x) (fun x hx=> .inl hx)).tr gC2 (fun x hx=> .inl (.inr hx))).st (p:=⟨bb,1,none⟩) (.inl (.inl rfl)) _)
def fhs (s0 r:Nat) (l:List Nat) (hb:Base w) (h:BB w bb s0 l) (h2:2≤bb) (hr:r≤127) (hl:l.length≤4000) (hs:s0≤w.heap.size):
    Calls PV 34 #[.pointer (some ⟨bb,0,none⟩),.int .i32 (r:Int)] w fun x w'=>(∃ y,x= .returned y)∧BB w' bb s0 (l++[r])∧Ch (fun x=>x=bb∨s0≤x) w w':=by
 obtain ⟨p,v,hp,hB,hO⟩:=h.out;exact (fbv s0 r l hb hp hB hO h2 hr hl hs).mono fun x w' ⟨h1,h3,h4⟩=>⟨h1,h3,h4.mo fun x hx=>hx.imp id fun e=>(hO.lt x e).1⟩
def und144:PV.underlying 144=some (.pointer 5):=by kernel_rfl
def cells5:PV.cellsOf 5=1:=by kernel_rfl
def Ch.fz {K:Nat→Prop} {w w1:World} (h:Ch K w w1) {p:Addr} (hp:K p.block) (n:Nat):Ch K w (w1.freeze p n):=by
 unfold World.freeze;split
 · exact h
 · exact h.tr (K':=fun x=>x=p.block) ⟨rfl,rfl,rfl,by simp,fun x _ hn=>by simp only [fy6];rw [fx9 (fun e=>hn e.symm)]⟩ fun x hx=>by subst hx;exact .inl hp
def bstr (l:List Nat):ByteArray:=⟨(l.map fun b=>UInt8.ofNat b).toArray⟩
def fk9 (s0:Nat) (l:List Nat) {p:Value} (hB:Bk w bb 102 #[p,v]) (hO:w.ownsRow s0 5 1 v l.length (fk8 l)) (hne:l≠[]) (h255: ∀ b∈l,b≤255) (hl:l.length≤4000):
    Calls PV 36 #[.pointer (some ⟨bb,0,none⟩)] w fun x w'=>x= .returned (.string (bstr l))∧Ch (fun x=>v.ownBlock=some x) w w':=by
 obtain ⟨hxl,hnil | ⟨g,cap,cur,rfl,hsg,hcur,hlc,hmx,hcc,htk⟩⟩:=hO
 · exact absurd (f1a hnil.2) hne
 have hl0:0<l.length:=List.length_pos_iff.2 hne;have hSD:=fun W:World=>Lib.run_unsafeSliceData_row (P:=PV) (w:=W) #[100] 144 ⟨g,0,none⟩ l.length cap fe;have hgcur:Bk w g 5 cur:=⟨hcur⟩
 have hUS:(Builtin.unsafeString_ #[144,3] 9 #[.pointer (some ⟨g,0,none⟩),.int .i64 (l.length:Int)]).run PV w.drew= .ok (.string (bstr l)) (w.drew.freeze ⟨g,0,none⟩ l.length):=by
    have hsh:w.drew.shape? g=some (5,cur.size):=by
     have:w.drew.heap[g]? =some (.cells cur 5 (0,0)):=hcur;simp [World.shape?,this]
    have:=Lib.run_unsafeString_row (P:=PV) (w:=w.drew) 144 3 9 5 und144 cells5 g cur.size hsh (l.map fun b=>UInt8.ofNat b) (by simpa using hne) ja ja (fun j x hx=>by
     simp only [f2u,f1k];rw [(hgcur.dr).ce j];simp only [f1s,fy8] at hx;obtain ⟨b,hb,rfl⟩:=hx;have hj:=(f1c.1 hb).1
     have h1:(cur.toList.take (l.length*1))[j]? =some (.int .u8 (b:Int)):=by
        rw [htk];simp [fk8,hb]
     rw [f5r,f02 fe] at h1;have h2:=h255 b (f3x hb);rw [← Array.getElem?_toList,h1];simp;omega)
    simpa [bstr] using this
 clear hcur hgcur htk hxl;go_enter PV.func36,Tryz.ntmps36;go_upto_region 1 with fail
 refine rn (sel [fun w'=>Bk w' bb 102 #[p,.slice (some ⟨g,0,none⟩) l.length cap]]) [(.h 9,0),(.h 9,1),(.h 9,2),(.h 0,3),(.h 9,4),(.h 9,5),(.h 9,6),(.h 9,7),(.h 0,8),(.h 9,9),(.c [9],10),(.h 9,11)] fd fd (qy (Bk.dr hB) (fun _=>un)) ?_;simp only [vg,fy9,fz4,fz3,fy2,fx7,fy0];iterate 10 (refine oH ?_;try simp only [aps])
 (refine rx (fun K hK=> ?_);go_simp;refine hK _ _ (rh trivial ry) ?_;clear hK K;try simp only [aps])
 (refine oH ?_;try simp only [aps]);refine ub ?_;go_wp2;go_ret
 first | exact ⟨rfl,((Ch.rf (fun x=>(Value.slice (some ⟨g,0,none⟩) l.length cap).ownBlock=some x) w).dr).fz (p:=⟨g,0,none⟩) rfl _⟩ | exact ⟨rfl,((Ch.rf (fun x=>(Value.slice (some ⟨g,0,none⟩) l.length cap).ownBlock=some x) w).fz (p:=⟨g,0,none⟩) rfl _).dr⟩
def fp9 (s0:Nat) (l:List Nat) (h:BB w bb s0 l) (hne:l≠[]) (h255: ∀ b∈l,b≤255) (hl:l.length≤4000):
    Calls PV 36 #[.pointer (some ⟨bb,0,none⟩)] w fun x w'=>x= .returned (.string (bstr l))∧Ch (fun x=>s0≤x) w w':=by
 obtain ⟨p,v,hp,hB,hO⟩:=h.out;exact (fk9 s0 l hB hO hne h255 hl).mono fun x w' ⟨h1,h2⟩=>⟨h1,h2.mo fun x e=>(hO.lt x e).1⟩
end
attribute [local go_sem] f5q
abbrev vq (t:List Plain.El):List Nat:=t.map fun e=>e.r.toNat
def Asc (t:List Plain.El):Prop:= ∀ e∈t,0≤e.r∧e.r≤127
section
variable {L:Lay} {V:Vals} {S:Plain.Ses} {ow ow':Nat→Nat} {w w':World} {E:Nat→Value}
def text35 (h:Mem L V S 0 ow w) (hM:Marks L S.n w) (hE:Errs E w) (hn1:1≤S.n) (hn6:S.n≤6) (c:Int) (hlen:(Plain.textOf S c).length≤3000) (hne:Plain.textOf S c≠[]) (hA:Asc (Plain.textOf S c)):
    Calls PV 35 #[.pointer (some ⟨L.b,0,none⟩),.int .i64 c] w fun x w'=>x= .returned (.string (bstr (vq (Plain.textOf S c))))∧Bl w w':=by
 have hT:=h.textAt c;obtain ⟨A,cc,hv⟩:=hT.slice;have hb1:Bl w (w.alloc (.cells #[.pointer none,.slice none 0 0] 102)):=(Bl.rf _).al _;have hX:=fx6 (fnl (h.bl hb1) (hM.bl hb1) (hE.bl h.size hb1) hn1 hn6 c);have hbase:=fx6 h.base;have h12:=h.size;rw [hv] at hT hX;have hTT:=fx6 hT;have hB0:BB (w.alloc (.cells #[.pointer none,.slice none 0 0] 102)) w.heap.size w.heap.size []:=⟨_,_,.inl rfl,Bk.nw rfl,f0w _ _ _ _⟩;clear h hM hE hv hT;generalize Plain.textOf S c=t at*;go_enter PV.func35,Tryz.ntmps35;go_wp2_with (first | (go_at_call 60;refine hX.out.mono ?_;rintro e w1 ⟨rfl,hb⟩))
 go_loopw [12] (fun i wr=> ∃ k:Nat,k≤t.length∧i= .int .i64 (k:Int)∧Bl w wr∧BB wr w.heap.size w.heap.size (vq (t.take k))) (fun i _=>t.length-(intOf i).toNat)
 case atStart => exact ⟨0,f1n _,rfl,hb1.cl hb,by obtain ⟨p,v,h1,h2,h3⟩:=hB0.out;exact ⟨p,v,h1,h2.bl hb,qx (K:=fun _=>False) (Ch.ba hb) h3 (fun _ _ h=>h)⟩⟩
 case round=>
    obtain ⟨k,hk,rfl,hbr,hBB⟩:=hrel;by_cases hlt:k<t.length
    · have hTr:=hTT.out.bl hbr;obtain ⟨e,he⟩: ∃ e,t[k]? =some e:=⟨t[k],f0r hlt⟩;obtain ⟨g,rfl⟩: ∃ g,A=some ⟨g,0,none⟩:=by
       rcases hTr.form with ⟨_,h2⟩ | ⟨g,cap,h1,_⟩
       · rw [h2] at hlt;simp at hlt
       · injection h1 with h1;exact ⟨g,h1⟩
      have hc:=hTr.cells;obtain ⟨f0,f1,f2⟩:=fhr he;have q0:=hc _ _ f0;have q1:=hc _ _ f1;have q2:=hc _ _ f2;simp only [f2u,f1k] at q0 q1 q2;have hin:(k:Int)<(t.length:Int):=by omega
      have hw1:IntKind.i64.wrap ((k:Int)+1)=(k:Int)+1:=f0t _ fe;obtain ⟨ha1,ha2⟩:=hA e (f3x he);obtain ⟨r,hr⟩: ∃ r:Nat,e.r=r:=⟨e.r.toNat,by omega⟩;have hB1:BB (wr.alloc (.cells #[.int .i32 (r:Int),.int .i64 e.c,.int .i64 e.n] 38)) w.heap.size w.heap.size (vq (t.take k)):=by
       obtain ⟨p,v,h1,h2,h3⟩:=hBB.out;exact ⟨p,v,h1,h2.al _,qx (K:=fun _=>False) (Ch.ba ((Bl.rf _).al _)) h3 (fun _ _ h=>h)⟩
      have hWr:=fx6 (fhs w.heap.size r _ ((hbase.out.bl hbr).bl ((Bl.rf _).al _)) hB1 fe fe ja (by have:=hbr.size;simp;omega));rw [hr] at q0;have het:vq (t.take (k+1))=vq (t.take k)++[r]:=by
       rw [List.take_add_one,he];simp [vq,hr]
      have het':=fx6 het;clear hTT hTr hc f0 f1 f2 het hr;go_wp2_with (first | (go_at_call 34;refine hWr.out.mono ?_;rintro x w3 ⟨⟨y,rfl⟩,gB,gC⟩;have gb:=zf (hbr.al (.cells #[.int .i32 (r:Int),.int .i64 e.c,.int .i64 e.n] 38)) gC (fun x hx=>by omega)))
      go_roundw
      case rel => exact ⟨k+1,by omega,by simp,gb,by rw [het'.out];exact gB⟩
      case measure => simp [intOf];omega
    · obtain rfl:k=t.length:=by omega
      have hS:=fx6 (fp9 w.heap.size _ hBB (by simpa using hne) (fun b hb=>by
       simp only [f4a,f3p] at hb;obtain ⟨e,he,rfl⟩:=hb;have:=hA e he;omega) ja)
      rw [f4a] at hS;clear hTT hA hbase;go_wp2_with (first | (go_at_call 36;refine hS.out.mono ?_;rintro x w3 ⟨rfl,gC⟩;have gb:=zf hbr gC (fun x hx=>hx)));go_ret;exact ⟨rfl,gb⟩
end
end Go.Proofs.YtelecjnabeokeaaGreatDoor
namespace Go.Proofs.YtelecjnabeokeaaGreatDoor
open Go Go.RowKit
attribute [local go_sem] f5q
section
variable {L:Lay} {V:Vals} {S:Plain.Ses} {ow ow':Nat→Nat} {w w':World} {E:Nat→Value}
structure TI (w:World) (s0 D:Nat) (t:List Plain.El) (k:Nat) (W:World):Prop where
 bl:Bl w W
 dd:W.heap[D]? =some (.deferred (some []))
 bb:BB W s0 s0 (vq (t.take k))
def TI.ch {s0 D k:Nat} {t:List Plain.El} {W W':World} {K:Nat→Prop} (h:TI w s0 D t k W) (hC:Ch K W W') (hK: ∀ x,K x→w.heap.size≤x) (h0: ¬ K s0) (hD: ¬ K D) (hR: ∀ v n xs,W.ownsRow s0 5 1 v n xs→ ∀ x,v.ownBlock=some x→ ¬ K x):TI w s0 D t k W':=by
 obtain ⟨p,v,h1,h2,h3⟩:=h.bb.out;exact ⟨zf h.bl hC hK,(hC.block D (fx5.1 h.dd).1 hD).trans h.dd,p,v,h1,h2.ch hC h0,qx hC h3 (hR _ _ _ h3)⟩
def TI.bl' {s0 D k:Nat} {t:List Plain.El} {W W':World} (h:TI w s0 D t k W) (hb:Bl W W'):TI w s0 D t k W':=
 h.ch (K:=fun _=>False) (Ch.ba hb) (fun _ h=>h.elim) (fun h=>h) (fun h=>h) (fun _ _ _ _ _ _ h=>h)
def eql9 (b:ByteArray) (w:World):(binOp .eql 9 (.string b) (.string b)).run PV w= .ok (.bool true) w:=by
 have hu:PV.underlying 9=some .string:=by kernel_rfl
 simp [binOp,Op.equal,Op.maxDepth,Op.equalIn,f1l hu,Op.stringOp]
def ftd (h:Mem L V S 0 ow w) (hM:Marks L S.n w) (hE:Errs E w) (hn1:1≤S.n) (hn6:S.n≤6) (c:Int) (hlen:(Plain.textOf S c).length<3000) (hne:Plain.textOf S c≠[]) (hA:Asc (Plain.textOf S c)):
    Calls PV 16 #[.pointer (some ⟨L.b,0,none⟩),.int .i64 c] w fun x w'=>x= .returned (.tuple #[.string (bstr (vq (Plain.textOf S c))),.bool true])∧Bl w w':=by
 have hh:=fx6 h;have hMM:=fx6 hM;have hEE:=fx6 hE;have hbase:=fx6 h.base;have h12:=h.size;clear h hM hE;refine (f4j (n:=8)).1 ?_;refine callsIn_of_wp_marks PV.func16 rfl trivial ?_ rfl;simp only [Tryz.ntmps16,f3s,fz6,f06,Nat.reduceAdd,Nat.reduceSub,Array.replicate_succ,Array.replicate_zero,List.push_toArray,List.append_toArray,f2h,f0j]
 gi_wp2_with (first | (refine ⟨trivial,?_⟩;gi_at_call 27;refine (f4j.2 (ftb _ _ _)).mono ?_;rintro e w1 ⟨rfl,rfl⟩))
 refine vy (F:=fun W0=>Bl w W0∧Bk W0 w.heap.size 102 #[.pointer none,.slice none 0 0]∧Bk W0 (w.heap.size+1) 26 #[.pointer (some ⟨L.b,0,none⟩)]∧Bk W0 (w.heap.size+1+1) 3 #[.int .i64 c]∧W0.heap.size=w.heap.size+3) ?_ ?_
 · exact ⟨((((Bl.rf _).al _).al _).al _),((Bk.nw fi).al _).al _,(Bk.nw fi).al _,Bk.nw fi,by simp⟩
 rintro W0 ⟨gb,b6,bs,bc,hsz⟩;obtain ⟨s0,hse⟩: ∃ s0,w.heap.size=s0:=⟨_,rfl⟩;rw [hse] at b6 bs bc hsz ⊢;refine fk5 (gf:=59) (lb:= #[.pointer (some ⟨s0+1,0,none⟩),.pointer (some ⟨s0+1+1,0,none⟩)]) rfl (fun args w=>PV.call59 args w) (fun W=>TI w s0 (s0+3) (Plain.textOf S c) (Plain.textOf S c).length W) ?_ ?_
 · intro r r1 r2 r3 r4 r5 r6 W1 hW1;rw [hsz];have hD1:W1.heap[s0+3]? =some (.deferred (some [])):=by rw [hW1,← hsz];exact (f14 _ _ _ fi).trans (f3n W0 _)
   have hl1:W1.heap[s0+3+1]? =some (.loop r):=by
    rw [hW1,← hsz];have:=f3n (W0.alloc (.deferred (some []))) (.loop r);simpa using this
   have hb1:Bl W0 W1:=by rw [hW1];exact ((Bl.rf _).al _).al _
   clear hW1;have h0:TI w s0 (s0+3) (Plain.textOf S c) 0 W1:=⟨gb.cl hb1,hD1,_,_,.inl rfl,b6.bl hb1,f0w _ _ _ _⟩;refine (fta (8-1) hh.out hMM.out hEE.out (gb.cl hb1) hn1 hn6 c (s0+1) (s0+1+1) (s0+3+1) (bs.bl hb1) (bc.bl hb1) fe (fun k W=>TI w s0 (s0+3) (Plain.textOf S c) k W∧W.heap[s0+3+1]? =some (.loop r)) ?_ ?_ ?_ ?_).mono ?_
   · exact fun W hb=>⟨h0.bl' hb,(hb.block _ (fx5.1 hl1).1).trans hl1⟩
   · exact fun k W hJ=>hJ.1.bl
   · exact fun k W o hJ=>⟨hJ.1.bl' ((Bl.rf _).al o),(f14 W o _ (fx5.1 hJ.2).1).trans hJ.2⟩
   · rintro k W e ⟨hI,hl⟩ he;refine fk6 hl r1 r2 (by rw [r4];rfl) fun rb=> ?_;rw [r3,r4,r5,r6];obtain ⟨ha1,ha2⟩:=hA e (f3x he);obtain ⟨r',hr0⟩: ∃ r:Nat,e.r=r:=⟨e.r.toNat,by omega⟩;have hr127:r'≤127:=by omega
     have hrr:=fx6 hr0;clear hr0;have hkl:k<(Plain.textOf S c).length:=(f1c.1 he).1;generalize Plain.textOf S c=t at*;have hWs:=(fx5.1 hl).1
     gi_wp2
     have hr:=hrr.out;refine ⟨(f14 _ _ _ hWs).trans hl,?_⟩;have hl':(W.alloc (.cells #[.int .i32 e.r,.int .i64 e.c,.int .i64 e.n] 38)).heap[s0+3+1]? =some (.loop r):=(f14 _ _ _ hWs).trans hl
     have hneK: ∀ g tt cs,Bk (W.alloc (.cells #[.int .i32 e.r,.int .i64 e.c,.int .i64 e.n] 38)) g tt cs→ ¬ g=s0+3+1:=fun g tt cs hg e=>by
        have:=hg.at_;rw [e,hl'] at this;cases this
     have hIa:=hI.bl' ((Bl.rf _).al (.cells #[.int .i32 e.r,.int .i64 e.c,.int .i64 e.n] 38));have hCl:Ch (fun x=>x=s0+3+1) (W.alloc (.cells #[.int .i32 e.r,.int .i64 e.c,.int .i64 e.n] 38)) ((W.alloc (.cells #[.int .i32 e.r,.int .i64 e.c,.int .i64 e.n] 38)).putObj (s0+3+1) (.loop rb)):=(Ch.rf (fun x=>x=s0+3+1) _).po (.inl rfl) _;refine vy (F:=fun W2=>TI w s0 (s0+3) t k W2∧W2.heap[s0+3+1]? =some (.loop rb)∧Bk W2 W.heap.size 38 #[.int .i32 (r':Int),.int .i64 e.c,.int .i64 e.n]) ⟨?_,?_,?_⟩ ?_
     · exact hIa.ch hCl (fun x e=>by omega) fe fe (fun v n xs hv x hx e=>uz hv hl' (fun _ _ _ e=>by cases e) x hx e)
     · exact f4v ja
     · rw [← hr];exact (Bk.nw rfl).ch hCl (hneK _ _ _ (Bk.nw rfl))
     have het:vq (t.take (k+1))=vq (t.take k)++[r']:=by
        rw [List.take_add_one,he];simp [vq,hr]
     generalize W.heap.size=xe;clear hCl hneK hl' hIa hI hl hWs;rintro W2 ⟨hI2,hl2,hx⟩;have hlt2:=(fx5.1 hl2).1;obtain ⟨c4,d4⟩:=hx.ceF;obtain ⟨p0,v0,hp0,hB0,hR0⟩:=hI2.bb.out;have hWr:=fx6 (fbv s0 r' _ (hbase.out.bl hI2.bl) hp0 hB0 hR0 fe hr127 ja (by have:=hI2.bl.size;omega));have hOl:=fx6 (uz hR0 hl2 (fun _ _ _ e=>by cases e));have hOD:=fx6 (uz hR0 hI2.dd (fun _ _ _ e=>by cases e));have hRlt:=fx6 hR0.lt;clear hr hp0 hB0 hR0 hA
     gi_wp2_with (first | (refine ⟨trivial,?_⟩;gi_at_call 34;refine (CallsIn.inRound (s0+3+1) (f4j.2 hWr.out)).mono ?_;rintro x w3 ⟨⟨y,rfl⟩,gB,gC⟩))
     have hl3:w3.heap[s0+3+1]? =some (.loop rb):=(gC.block _ hlt2 (by rintro (e | e);omega;exact hOl.out _ e rfl)).trans hl2;have hD3:w3.heap[s0+3]? =some (.deferred (some [])):=(gC.block _ (fx5.1 hI2.dd).1 (by rintro (e | e);omega;exact hOD.out _ e rfl)).trans hI2.dd;have hT3:TI w s0 (s0+3) t (k+1) w3:=⟨zf hI2.bl gC (fun x hx=>by rcases hx with e | e;omega;have:=(hRlt.out x e).1;omega),hD3,by rw [het];exact gB⟩;have hCl:Ch (fun x=>x=s0+3+1) w3 (w3.putObj (s0+3+1) (.loop r)):=(Ch.rf (fun x=>x=s0+3+1) _).po (.inl rfl) _;exact ⟨hl3,hT3.ch hCl (fun x e=>by omega) fe fe (fun v n xs hv x hx e=>uz hv hl3 (fun _ _ _ e=>by cases e) x hx e),f4v (fx5.1 hl3).1⟩
   · rintro e W ⟨hv,hI,hl⟩;exact ⟨hv,hl,hI⟩
 · intro r W2 hI hl;rw [hsz] at hl ⊢;have hCl:Ch (fun x=>x=s0+3+1) W2 (W2.putObj (s0+3+1) (.loop { r with state:= .exhausted })):=(Ch.rf (fun x=>x=s0+3+1) W2).po (.inl rfl) _;have hI3:=hI.ch hCl (fun x e=>by omega) fe fe (fun v n xs hv x hx e=>uz hv hl (fun _ _ _ e=>by cases e) x hx e);refine vy (F:=fun W3=>TI w s0 (s0+3) (Plain.textOf S c) (Plain.textOf S c).length W3) hI3 ?_;clear hI3 hCl hI hl;rintro W3 hI;have hX:=fx6 (text35 (hh.out.bl hI.bl) (hMM.out.bl hI.bl) (hEE.out.bl hh.out.size hI.bl) hn1 hn6 c fe hne hA);obtain ⟨p,v,h1,h2,h3⟩:=hI.bb.out;rw [f4a] at h3
   have hSt:=fx6 (fun W4 (hb:Bl W3 W4)=>fk9 (w:=W4) s0 (vq (Plain.textOf S c)) (h2.bl hb) (by simpa using qx (K:=fun _=>False) (Ch.ba hb) h3 (fun _ _ h=>h)) (by simpa using hne) (fun b hb=>by
        simp only [f3p] at hb;obtain ⟨e,he,rfl⟩:=hb;have:=hA e he;omega) ja)
   have heq:=fun W=>eql9 (bstr (vq (Plain.textOf S c))) W;have hdd:=hI.dd;have hbl:=fx6 hI.bl;have hOD:=fx6 (uz h3 hdd (fun _ _ _ e=>by cases e));have hRlt:=fx6 h3.lt;clear hI h1 h2 h3 hA hne hlen;obtain ⟨str,hstr⟩: ∃ s,s=bstr (vq (Plain.textOf S c)):=⟨_,rfl⟩;rw [← hstr] at hX heq;simp only [← hstr] at hSt;have hs2:=fx6 hstr;clear hstr
   gi_wp2_with (first | (refine ⟨trivial,?_⟩;gi_at_call 35;refine (f4j.2 hX.out).mono ?_;rintro x w3 ⟨rfl,gb3⟩) | (refine ⟨trivial,?_⟩;gi_at_call 36;refine (f4j.2 (hSt.out _ gb3)).mono ?_;rintro x w4 ⟨rfl,gC4⟩))
   have hD4:w4.heap[s0+3]? =some (.deferred (some [])):=(gC4.block _ (f0f (fx5.1 hdd).1 gb3.size) (fun e=>hOD.out _ e rfl)).trans ((gb3.block _ (fx5.1 hdd).1).trans hdd);have hCd:Ch (fun x=>x=s0+3) w4 (w4.putObj (s0+3) (.deferred none)):=(Ch.rf (fun x=>x=s0+3) w4).po (.inl rfl) _;have hB4:Bl w w4:=zf (hbl.out.cl gb3) gC4 (fun x e=>by have:=(hRlt.out x e).1;omega);refine ⟨by simp,.inl ⟨_,_,rfl,run_takeDeferred hD4,?_⟩⟩;exact ⟨_,results_tmp2 rfl _ _ _,by rw [← hs2.out];rfl,zf hB4 hCd (fun x e=>by omega)⟩
end
end Go.Proofs.YtelecjnabeokeaaGreatDoor
namespace Go.Proofs.YtelecjnabeokeaaGreatDoor
open Go Go.Conc Go.RowKit
def Plain.call_n {S:Plain.Ses} {k c pos r:Int}:(Plain.call S k c pos r).2.n=S.n:=by
 unfold Plain.call Plain.change Plain.serve Plain.get;repeat' split
 all_goals rfl
section
variable {WS:Nat→Option SeatD} {w v0:World} {n N n0:Nat} {E:Nat→Value} {A:Nat→Addr} {L:Lay} {S:Plain.Ses} {ow:Nat→Nat}
def Sess.bl (h:Sess n N n0 L E A S ow WS w) {w':World} (hb:Bl w w'):Sess n N n0 L E A S ow WS w':=⟨h.live.bl hb,h.num,h.y6,h.y7,h.seats,h.low⟩
def fte (h:Sess n N n0 L E A S ow WS w) (hn0:n0≤w.heap.size) (k c pos r:Int) (h1:1≤k) (h5:k≤5):
    Calls PV 9 #[.pointer (some ⟨L.b,0,none⟩),.int .i64 k,.int .i64 c,.int .i64 pos,.int .i64 r] w fun x w'=>x= .returned (.int .i64 ((Plain.call S k c pos (IntKind.i32.wrap r)).1:Int))∧ ∃ ow',Sess n N n0 L E A (Plain.call S k c pos (IntKind.i32.wrap r)).2 ow' WS w'∧Old n0 w w'∧Ey ow ow' w w':=by
 refine (fvn h.live k c pos r h1 h5).mono ?_;rintro x w' ⟨hx,ow',hL,hE⟩;refine ⟨hx,ow',⟨hL,Plain.call_n.trans h.num,h.y6,h.y7,h.seats,fun x hx=>(hE.own x fe).trans (h.low x hx)⟩,Old.ch hn0 hE.ch fun x hx hne=>hne (h.low x hx),hE⟩
def mr (h:Sess n N n0 L E A S ow WS w) (hn0:n0≤w.heap.size) (k c pos r:Int) (h1:1≤k) (h5:k≤5) {S':Plain.Ses} (hc:Plain.call S k c pos (IntKind.i32.wrap r)=(0,S')):
    Calls PV 9 #[.pointer (some ⟨L.b,0,none⟩),.int .i64 k,.int .i64 c,.int .i64 pos,.int .i64 r] w fun x w'=>x= .returned (.int .i64 0)∧ ∃ ow',Sess n N n0 L E A S' ow' WS w'∧Old n0 w w'∧Ey ow ow' w w':=by
 refine (fte h hn0 k c pos r h1 h5).mono ?_;rw [hc];exact fun x w' h=>h
def m6 (h:Sess n N n0 L E A S ow WS w) (hn0:n0≤w.heap.size) (hn1:1≤n) (hn6:n≤6) (c:Int) (s:ByteArray) (hs:bstr (vq (Plain.textOf S c))=s) (hlen:(Plain.textOf S c).length<3000) (hne:Plain.textOf S c≠[]) (hA:Asc (Plain.textOf S c)):
    Calls PV 16 #[.pointer (some ⟨L.b,0,none⟩),.int .i64 c] w fun x w'=>x= .returned (.tuple #[.string s,.bool true])∧Sess n N n0 L E A S ow WS w'∧Old n0 w w'∧Bl w w':=by
 obtain ⟨V,hM⟩:=h.live.mem;refine (ftd hM (h.num▸h.live.marks) h.live.ev.errs (by rw [h.num];exact hn1) (by rw [h.num];exact hn6) c hlen hne hA).mono ?_;rintro x w' ⟨hx,hb⟩;exact ⟨by rw [← hs];exact hx,h.bl hb,Old.bl hn0 hb,hb⟩
end
end Go.Proofs.YtelecjnabeokeaaGreatDoor
namespace Go.Proofs.YtelecjnabeokeaaGreatDoor
namespace Plain
def upN (S:Ses):Nat:=sumN (fun c=>(S.cl c).up.length) S.n
def downN (S:Ses):Nat:=sumN (fun c=>(S.cl c).down.length) S.n
def todo (S:Ses):Nat:=2*upN S+if downN S=0 then 0 else 1
def f4z {f:Nat→Nat} {n:Nat} (h:sumN f n=0) {c:Nat} (hc:c<n):f c=0:=by have:=sumN_le (f:=f) hc;omega
def f65 {f:Nat→Nat} {n:Nat} (h:0<sumN f n): ∃ c,c<n∧0<f c:=by
 induction n with
 | zero=>simp [sumN] at h
 | succ n ih=>
   simp only [sumN] at h;by_cases e:f n=0
   · obtain ⟨c,h1,h2⟩:=ih fe;exact ⟨c,by omega,h2⟩
   · exact ⟨n,by omega,by omega⟩
def sumN_bound {f:Nat→Nat} {n m:Nat} (h: ∀ c,c<n→f c≤m):sumN f n≤n*m:=by
 induction n with
 | zero=>simp [sumN]
 | succ n ih=>
   simp only [sumN];have h1:=ih fun c hc=>h c fe;have h2:=h n fe;rw [Nat.succ_mul];omega
def Good.upN {S:Ses} (h:Good S):upN S≤16*S.n:=by
 have:=sumN_bound (f:=fun c=>(S.cl c).up.length) (n:=S.n) (m:=16) fun c hc=>by have h1:=h.upR c hc;have h2:=h.room16;omega
 unfold Plain.upN;omega
def Good.downN {S:Ses} (h:Good S):downN S≤16*S.n:=by
 have:=sumN_bound (f:=fun c=>(S.cl c).down.length) (n:=S.n) (m:=16) fun c hc=>by have h1:=h.downR c hc;have h2:=h.room16;omega
 unfold Plain.downN;omega
structure Drn (S0:Ses) (t i L:Nat) (S:Ses):Prop where
 n:S.n=S0.n
 le:L≤16*i
 sum:upN S≤upN S0
 nil:upN S0=0→L=0
 same:upN S=upN S0→(∀ j,j<i→(S.cl ((j+t)%S0.n)).down=[])∧(∀ o,(S.cl o).down≠[]→(S0.cl o).down≠[])∧(∀ j,j<i→(S.cl ((j+t)%S0.n)).up≠[]→ ∃ o,o<S0.n∧(S0.cl o).down≠[])
def Drn.start {S:Ses} {t:Nat}:Drn S t 0 0 S:=⟨rfl,fx8 _,fx8 _,fun _=>rfl,fun _=>⟨fun j hj=>by omega,fun _ h=>h,fun j hj=>by omega⟩⟩
section
variable {S0 S:Ses} {t i L c:Nat}
def get_up (hc:c<S.n):upN (get S c).2=upN S:=by
 unfold get upN;split
 · rfl
 · refine fb6 fun o ho=> ?_;show (put S.cl c _ o).up.length=_;by_cases e:o=c
   · subst e;rw [put_same];rfl
   · rw [put_ne _ _ e]
def Drn.get (h:Drn S0 t i L S) (hc:c<S.n):Drn S0 t i L (get S c).2:=by
 have hup:=get_up hc
 have hd: ∀ o,((Plain.get S c).2.cl o).up=(S.cl o).up∧(((Plain.get S c).2.cl o).down≠[]→(S.cl o).down≠[]):=fun o=>by
    unfold Plain.get;split
    · exact ⟨rfl,id⟩
    · rename_i g D hd;show ((put S.cl c _ o).up=_)∧((put S.cl c _ o).down≠[]→_);by_cases e:o=c
      · subst e;rw [put_same];exact ⟨rfl,fun _ h'=>by rw [hd] at h';cases h'⟩
      · rw [put_ne _ _ e];exact ⟨rfl,id⟩
 have hn:(Plain.get S c).2.n=S.n:=by unfold Plain.get;split <;>rfl
 refine ⟨hn.trans h.n,h.le,by rw [hup];exact h.sum,h.nil,fun e=> ?_⟩;rw [hup] at e;obtain ⟨h1,h2,h3⟩:=h.same e
 exact ⟨fun j hj=>by
    have:=h1 j hj;exact f1e fun h'=>(hd _).2 h' this,fun o ho=>h2 o ((hd o).2 ho),fun j hj hu=>h3 j hj (by rw [← (hd _).1];exact hu)⟩
def Drn.none (h:Drn S0 t i L S) (hd:(S.cl ((i+t)%S0.n)).down=[]) (hu:(S.cl ((i+t)%S0.n)).up=[]):Drn S0 t (i+1) L S:=by
 refine ⟨h.n,by have:=h.le;omega,h.sum,h.nil,fun e=> ?_⟩;obtain ⟨h1,h2,h3⟩:=h.same e;refine ⟨fun j hj=> ?_,h2,fun j hj hu'=> ?_⟩
 · rcases f01 j i with h' | h'
   · exact h1 j h'
   · obtain rfl:j=i:=by omega
     exact hd
 · rcases f01 j i with h' | h'
   · exact h3 j h' hu'
   · obtain rfl:j=i:=by omega
     exact absurd hu hu'
def Drn.full (hG:Good S) (h:Drn S0 t i L S) (hd:(S.cl ((i+t)%S0.n)).down=[]) (hu:(S.cl ((i+t)%S0.n)).up≠[]) (hf:fullAt S ((i+t)%S0.n) S.n=true):Drn S0 t (i+1) (L+(S.cl ((i+t)%S0.n)).up.length) S:=by
 have hc:(i+t)%S0.n<S.n:=by rw [h.n];exact Nat.mod_lt _ (by rw [← h.n];exact hG.n0)
 have hle:=hG.upR _ hc;have hr:=hG.room16;refine ⟨h.n,by have:=h.le;omega,h.sum,fun e=> ?_,fun e=> ?_⟩
 · have:=h.sum;have h0:=f4z (f:=fun c=>(S.cl c).up.length) (show sumN _ S.n=0 from by show upN S=0;omega) hc;exact absurd (f1a h0) hu
 · obtain ⟨h1,h2,h3⟩:=h.same e;refine ⟨fun j hj=> ?_,h2,fun j hj hu'=> ?_⟩
   · rcases f01 j i with h' | h'
     · exact h1 j h'
     · obtain rfl:j=i:=by omega
       exact hd
   · rcases f01 j i with h' | h'
     · exact h3 j h' hu'
     · obtain ⟨o,ho,_,hl⟩:=(fullAt_iff S _ S.n).1 hf;refine ⟨o,by rw [← h.n];exact ho,h2 o fun e'=> ?_⟩;rw [e'] at hl;have:=hG.room0;simp at hl;omega
def Drn.gone (hG:Good S) (h:Drn S0 t i L S) {f:Frm} {U:List Frm} (hu:(S.cl ((i+t)%S0.n)).up=f::U):Drn S0 t (i+1) (L+(S.cl ((i+t)%S0.n)).up.length-1) (served S ((i+t)%S0.n) f U):=by
 have hc:(i+t)%S0.n<S.n:=by rw [h.n];exact Nat.mod_lt _ (by rw [← h.n];exact hG.n0)
 have hle:=hG.upR _ hc;have hr:=hG.room16
 have hs:upN S=upN (served S ((i+t)%S0.n) f U)+1:=by
    unfold upN;refine fs4 hc ?_ fun o ho=> ?_
    · simp only [served,f0e,hu,fz6]
    · simp only [served,fx9 ho]
 have:=h.sum;refine ⟨h.n,by have:=h.le;omega,by omega,fun e=>by omega,fun e=>by omega⟩
def Drn.fin (h:Drn S0 t S0.n L S):(L+(upN S+downN S)=0→upN S=0∧downN S=0)∧(L+(upN S+downN S)≠0→todo S<todo S0):=by
 refine ⟨fun e=>by omega,fun e=> ?_⟩;have hs:=h.sum;by_cases hk:upN S=upN S0
 · obtain ⟨h1,h2,h3⟩:=h.same hk;have hall: ∀ o,o<S0.n→ ∃ j,j<S0.n∧(j+t)%S0.n=o:=fun o ho=>by
    refine ⟨(o+(S0.n-t%S0.n))%S0.n,Nat.mod_lt _ fe,?_⟩;have hp:0<S0.n:=by omega
    have ht:=Nat.mod_lt t hp;rw [Nat.add_mod,Nat.mod_mod];have e2:((o+(S0.n-t%S0.n))%S0.n+t%S0.n)%S0.n=(o+(S0.n-t%S0.n)+t%S0.n)%S0.n:=Nat.mod_add_mod _ _ _;rw [e2,show o+(S0.n-t%S0.n)+t%S0.n=o+S0.n from by omega,Nat.add_mod_right,Nat.mod_eq_of_lt ho]
   have hd0:downN S=0:=by
    refine f1e fun hne=> ?_;obtain ⟨o,ho,hp⟩:=f65 (f:=fun c=>(S.cl c).down.length) (n:=S.n) (Nat.pos_of_ne_zero hne);obtain ⟨j,hj,e'⟩:=hall o (by rw [← h.n];exact ho);have:=h1 j hj;rw [e'] at this;rw [this] at hp;simp at hp
   have hup:upN S≠0:=fun h0=>by
    have:=h.nil fe;omega
   obtain ⟨o,ho,hp⟩:=f65 (f:=fun c=>(S.cl c).up.length) (n:=S.n) (Nat.pos_of_ne_zero hup);obtain ⟨j,hj,e'⟩:=hall o (by rw [← h.n];exact ho);obtain ⟨o2,ho2,hd2⟩:=h3 j hj (by rw [e'];intro h';rw [h'] at hp;simp at hp);have hne:downN S0≠0:=fun h0=>hd2 (f1a (f4z (f:=fun c=>(S0.cl c).down.length) h0 ho2));unfold todo;rw [f02 hd0,fx9 hne];omega
 · unfold todo;split <;>split <;>omega
def Good.todo (h:Good S):todo S≤32*S.n+1:=by
 have:=h.upN;unfold Plain.todo;split <;>omega
def Good.still (h:Good S) (hu:Plain.upN S=0) (hd:Plain.downN S=0) (hc:c<S.n):(S.cl c).text=S.text∧(S.cl c).cur=S.curs c:=by
 have hP:=h.pair c hc;rw [f1a (f4z (f:=fun c=>(S.cl c).up.length) hu hc),f1a (f4z (f:=fun c=>(S.cl c).down.length) hd hc)] at hP;exact hP.still
end
end Plain
open Go Go.RowKit
def m7 (c:Int) (n:Nat):Nat:=((if c<0 then -(c+1) else c)%(n:Int)).toNat
def fht {c:Int} {n:Nat} (hn:0<n):m7 c n<n:=by
 unfold m7;have h1:=Int.emod_nonneg (if c<0 then -(c+1) else c) (show (n:Int)≠0 by omega);have h2:=Int.emod_lt_of_pos (if c<0 then -(c+1) else c) (show (0:Int)<n by omega);omega
def fvp {c:Int} {n:Nat} (hn:0<n):(if c<0 then -(c+1) else c)%(n:Int)=(m7 c n:Int):=by
 unfold m7;have h1:=Int.emod_nonneg (if c<0 then -(c+1) else c) (show (n:Int)≠0 by omega);omega
def fno (c:Int) (n:Nat) (h0: -9223372036854775808≤c) (h1:c≤9223372036854775807) (hn:0<n) (hn2:n<1000) (w:World):
    Calls PV 17 #[.int .i64 c,.int .i64 (n:Int)] w fun x w'=>x= .returned (.int .i64 (m7 c n:Int))∧w'=w:=by
 have hnz: ¬ (n:Int)=0:=by omega
 have hp:=fvp (c:=c) hn;have hl:=fht (c:=c) hn;have hq:IntKind.i64.wrap (m7 c n:Int)=(m7 c n:Int):=f0t _ fe;by_cases hc:c<0
 · have e1:IntKind.i64.wrap (c+1)=c+1:=f0t _ fe;have e2:IntKind.i64.wrap (-(c+1))= -(c+1):=f0t _ fe;have e3:Int.tmod (-(c+1)) n=(m7 c n:Int):=by rw [Int.tmod_eq_emod_of_nonneg fe];rw [f02 hc] at hp;exact hp
   go_enter PV.func17,Tryz.ntmps17;go_wp2;go_ret;simp [hq]
 · have e3:Int.tmod c n=(m7 c n:Int):=by rw [Int.tmod_eq_emod_of_nonneg fe];rw [fx9 hc] at hp;exact hp
   go_enter PV.func17,Tryz.ntmps17;go_wp2;go_ret;simp [hq]
structure Scr (w:World) (p:Option Addr) (n cap:Nat) (f:Nat→Nat→Int) (s:Nat→ByteArray):Prop where
 le:n≤cap
 capm:cap≤maxLen
 wf: ∀ i j,i<n→j<6→ -9223372036854775808≤f i j∧f i j≤9223372036854775807
 at_:0<n→ ∃ b o,p=some ⟨b,o,none⟩∧b<w.heap.size∧ ∀ i,i<n→(∀ j,j<6→w.cell? ⟨b,o+i*7+j,none⟩=some (.int .i64 (f i j)))∧w.cell? ⟨b,o+i*7+6,none⟩=some (.string (s i))
section
variable {w w':World} {p:Option Addr} {n cap:Nat} {f:Nat→Nat→Int} {s:Nat→ByteArray}
def Scr.keep (h:Scr w p n cap f s) (hs:w.heap.size≤w'.heap.size) (hb: ∀ x,x<w.heap.size→w'.heap[x]? =w.heap[x]?):Scr w' p n cap f s:=
 ⟨h.le,h.capm,h.wf,fun h0=>by
    obtain ⟨b,o,h1,h2,h3⟩:=h.at_ h0;refine ⟨b,o,h1,by omega,fun i hi=>⟨fun j hj=> ?_,?_⟩⟩
    · exact (f0h (a:=⟨b,_,none⟩) (hb b h2)).trans ((h3 i hi).1 j hj)
    · exact (f0h (a:=⟨b,_,none⟩) (hb b h2)).trans (h3 i hi).2⟩
def Scr.bl (h:Scr w p n cap f s) (hb:Bl w w'):Scr w' p n cap f s:=h.keep hb.size hb.block
def SizeR (w:World) (x:Ending) (w':World):Prop:=(∃ nn room:Nat,1≤nn∧nn≤6∧1≤room∧room≤16∧x= .returned (.tuple #[.int .i64 (nn:Int),.int .i64 (room:Int)]))∧Bl w w'
def fvq (h:Scr w p n cap f s):Calls PV 7 #[.slice p n cap] w (SizeR w):=by
 have hcm:n≤9223372036854775807:=by have h1:=h.le;have h2:=h.capm;simp only [maxLen] at h2;omega
 have hH:=fx6 h;clear h;go_enter PV.func7,Tryz.ntmps7;go_wp2
 go_loopw [4] (fun iv wr=> ∃ i:Nat,i≤n∧iv= .int .i64 (i:Int)∧wr=w) (fun iv _=>n-(intOf iv).toNat)
 case atStart => exact ⟨0,f1n _,rfl,rfl⟩
 case round=>
    obtain ⟨i,hi,rfl,rfl⟩:=hrel;by_cases hlt:i<n
    · have hin:(i:Int)<(n:Int):=by omega
      obtain ⟨b,o,rfl,hb,hc⟩:=hH.out.at_ fe;obtain ⟨hc,_⟩:=hc i hlt;have q0:=hc 0 fe;have q2:=hc 2 fe;have q3:=hc 3 fe;simp only [f5p] at q0;have hw1:IntKind.i64.wrap ((i:Int)+1)=(i:Int)+1:=f0t _ fe;obtain ⟨a1,a2⟩:=hH.out.wf i 2 hlt fe;obtain ⟨b1,b2⟩:=hH.out.wf i 3 hlt fe;by_cases e:f i 0=1
      · have e1: ∃ y,IntKind.i64.wrap (f i 2-1)=y∧ -9223372036854775808≤y∧y≤9223372036854775807:=⟨_,rfl,by rw [f3h];omega,by rw [f3h];omega⟩;have e2: ∃ y,IntKind.i64.wrap (f i 3-1)=y∧ -9223372036854775808≤y∧y≤9223372036854775807:=⟨_,rfl,by rw [f3h];omega,by rw [f3h];omega⟩;obtain ⟨y1,y1e,y1a,y1b⟩:=e1;obtain ⟨y2,y2e,y2a,y2b⟩:=e2;have l1:=fht (c:=y1) (n:=6) fe;have l2:=fht (c:=y2) (n:=16) fe;have p1:=fx6 (fun W=>fno y1 6 y1a y1b fe fe W);have p2:=fx6 (fun W=>fno y2 16 y2a y2b fe fe W);have s1:IntKind.i64.wrap (1+(m7 y1 6:Int))=1+(m7 y1 6:Int):=f0t _ fe;have s2:IntKind.i64.wrap (1+(m7 y2 16:Int))=1+(m7 y2 16:Int):=f0t _ fe;rw [e] at q0;go_wp2_with fail
        go_quiet ((go_at_call 17;first | exact Calls.quiet_of_same (p1.out _) | exact Calls.quiet_of_same (p2.out _)))
        go_wp2_with fail;try simp only [Exit.inBlock,Exit.then]
        refine f0q (v:= .tuple #[.int .i64 (1+(m7 y1 6:Int)),.int .i64 (1+(m7 y2 16:Int))]) (by simp [results,Tryz.results7,go_sem]) rfl ⟨⟨1+m7 y1 6,1+m7 y2 16,by omega,by omega,by omega,by omega,by simp⟩,?_⟩;exact ⟨rfl,rfl,rfl,fx8 _,fun _ _=>rfl⟩
      · go_wp2
        go_roundw
        case rel => exact ⟨i+1,by omega,by simp,trivial⟩
        case measure => simp [intOf];omega
    · obtain rfl:i=n:=by omega
      go_wp2;try simp only [Exit.inBlock,Exit.then]
      exact f0q (v:= .tuple #[.int .i64 3,.int .i64 5]) (by simp [results,Tryz.results7,go_sem]) rfl ⟨⟨3,5,by omega,by omega,by omega,by omega,rfl⟩,Bl.rf _⟩
end
def Plain.call5 {S:Plain.Ses} {c:Nat} (hc:c<S.n) (p r:Int):Plain.call S 5 c p r=Plain.get S c:=by
 unfold Plain.call;rw [fx9 fe];simp
def Plain.call4 {S:Plain.Ses} {c:Nat} (hc:c<S.n) (p r:Int):Plain.call S 4 c p r=Plain.serve S c:=by
 unfold Plain.call;rw [fx9 fe];simp
def f4l (S:Plain.Ses) (j:Nat):Nat:=Plain.sumN (fun c=>(S.cl c).up.length+(S.cl c).down.length) j
def f5s (S:Plain.Ses) (j:Nat):f4l S (j+1)=f4l S j+((S.cl j).up.length+(S.cl j).down.length):=rfl
def f68 (S:Plain.Ses):f4l S S.n=Plain.upN S+Plain.downN S:=by
 unfold f4l Plain.upN Plain.downN;generalize S.n=n
 induction n with
 | zero=>rfl
 | succ n ih=>simp only [Plain.sumN,ih];omega
def f6e {S:Plain.Ses} (h:Plain.Good S) {j:Nat} (hj:j≤S.n):f4l S j≤32*j:=by
 have:=Plain.sumN_bound (f:=fun c=>(S.cl c).up.length+(S.cl c).down.length) (n:=j) (m:=32) fun c hc=>by have h1:=h.upR c fe;have h2:=h.downR c fe;have h3:=h.room16;omega
 unfold f4l;omega
def f6g {S:Plain.Ses} {c:Nat} (hd:(S.cl c).down≠[]):((Plain.get S c).2.cl c).down.length=(S.cl c).down.length-1:=by
 unfold Plain.get;split
 · exact absurd ‹_› hd
 · rename_i g D e;simp only [Plain.put_same,e,fz6];rfl
section
variable {WS:Nat→Option SeatD} {w v0:World} {n N n0:Nat} {E:Nat→Value} {A:Nat→Addr} {L:Lay} {S S0:Plain.Ses} {ow:Nat→Nat} {i t Lq:Nat}
def f4p (h:Sess n N n0 L E A S ow WS w) (hn1:1≤n) (hn6:n≤6) {c:Nat} (hc:c<n):
    Calls PV 73 #[.pointer (some ⟨L.b,0,none⟩),.int .i64 (c:Int)] w fun x w'=>x= .returned (.tuple #[.int .i64 ((S.cl c).up.length:Int),.int .i64 ((S.cl c).down.length:Int)])∧Bl w w':=by
 obtain ⟨V,hM⟩:=h.live.mem;have hG:=h.live.good;have hn:=h.num;have hc':c<S.n:=by omega
 have h1:=hG.upR c hc';have h2:=hG.downR c hc';have h3:=hG.room16;exact f5o hM h.live.marks h.live.ev.errs fe fe hc' fe fe
def f6h (h:Sess n N n0 L E A S ow WS w) (hn0:n0≤w.heap.size) {c:Nat} (hc:c<n) (hd:(S.cl c).down≠[]):
    Calls PV 9 #[.pointer (some ⟨L.b,0,none⟩),.int .i64 5,.int .i64 (c:Int),.int .i64 0,.int .i64 0] w fun x w'=>x= .returned (.int .i64 0)∧ ∃ ow',Sess n N n0 L E A (Plain.get S c).2 ow' WS w'∧Old n0 w w':=by
 refine (fte h hn0 5 c 0 0 fe fe).mono ?_;have hn:=h.num;rw [Plain.call5 fe];rintro x w' ⟨rfl,ow',h1,h2,_⟩;refine ⟨?_,ow',h1,h2⟩
 have:(Plain.get S c).1=0:=by
    unfold Plain.get;split
    · exact absurd ‹_› hd
    · rfl
 rw [this];rfl
def sess_up (h:Sess n N n0 L E A S ow WS w) (hn0:n0≤w.heap.size) {c:Nat} (hc:c<n) (ec:(i+t)%n=c) (hD:Plain.Drn S0 t i Lq S) (hd:(S.cl c).down=[]) (hu:(S.cl c).up≠[]):
    Calls PV 9 #[.pointer (some ⟨L.b,0,none⟩),.int .i64 4,.int .i64 (c:Int),.int .i64 0,.int .i64 0] w fun x w'=> ∃ S' ow',Sess n N n0 L E A S' ow' WS w'∧Old n0 w w'∧
     ((x= .returned (.int .i64 0)∧Plain.Drn S0 t (i+1) (Lq+(S.cl c).up.length-1) S')∨(x= .returned (.int .i64 5)∧Plain.Drn S0 t (i+1) (Lq+(S.cl c).up.length) S')):=by
 refine (fte h hn0 4 c 0 0 fe fe).mono ?_;have hn:=h.num;have hn2:=hD.n;have e:(i+t)%S0.n=c:=by rw [← hn2,hn];exact ec
 rw [Plain.call4 fe];rintro x w' ⟨rfl,ow',h1,h2,_⟩;refine ⟨_,ow',h1,h2,?_⟩;unfold Plain.serve;subst e;split
 · exact absurd ‹_› hu
 · rename_i f U hf;split
   · rename_i hq;exact .inr ⟨rfl,hD.full h.live.good hd hu hq⟩
   · exact .inl ⟨rfl,hD.gone h.live.good hf⟩
structure f69 (n N n0:Nat) (L:Lay) (E:Nat→Value) (A:Nat→Addr) (WS:Nat→Option SeatD) (v0 w:World) (X:Plain.Ses→Prop):Prop where
 out: ∃ S ow',X S∧Sess n N n0 L E A S ow' WS w∧Old n0 v0 w
def f5x (h:Sess n N n0 L E A S ow WS w) (hn0:n0≤w.heap.size) (hn1:1≤n) (hn6:n≤6) (turn:Int) (ht0: -9223372036854775808≤turn) (ht1:turn≤9223372036854775807):
    Calls PV 32 #[.pointer (some ⟨L.b,0,none⟩),.int .i64 (n:Int),.int .i64 turn] w fun x w'=>x= .returned (.bool true)∧f69 n N n0 L E A WS w w' fun S=>Plain.upN S=0∧Plain.downN S=0:=by
 have htd:=h.live.good.todo;rw [h.num] at htd;have hD0:f69 n N n0 L E A WS w w fun S=>Plain.todo S+0≤32*n+1:=⟨S,ow,htd,h,Old.rf hn0⟩;have hpk:=fun W=>fno turn n ht0 ht1 fe fe W;have htl:=fht (c:=turn) (n:=n) fe;generalize m7 turn n=t at hpk htl;have hpk:=fx6 hpk;clear h htd;have hm1:IntKind.i64.wrap (40*(n:Int))=40*(n:Int):=f0t _ fe;have hm2:IntKind.i64.wrap (40*(n:Int)+40)=40*(n:Int)+40:=f0t _ fe;go_enter PV.func32,Tryz.ntmps32;go_wp2
 go_loopw [7] (fun rv wr=> ∃ r:Nat,rv= .int .i64 (r:Int)∧f69 n N n0 L E A WS w wr fun S=>Plain.todo S+r≤32*n+1) (fun rv _=>40*n+40-(intOf rv).toNat)
 case atStart => exact ⟨0,rfl,hD0⟩
 case round=>
    obtain ⟨r,rfl,gD⟩:=hrel;obtain ⟨S0,ow0,gT,gS,gO⟩:=gD.out;have hr1:(r:Int)<40*(n:Int)+40:=by omega
    have hr2:IntKind.i64.wrap ((r:Int)+1)=(r:Int)+1:=f0t _ fe;have hn2:=gS.num;have hQ0:f69 n N n0 L E A WS w wr fun S=>Plain.Drn S0 t 0 0 S:=⟨S0,ow0,Plain.Drn.start,gS,gO⟩;clear gD gS gO;go_wp2_with fail
    go_loopw [8,9] (fun lv iv wi=> ∃ i Lq:Nat,i≤n∧lv= .int .i64 (Lq:Int)∧iv= .int .i64 (i:Int)∧f69 n N n0 L E A WS w wi fun S=>Plain.Drn S0 t i Lq S) (fun _ iv _=>n-(intOf iv).toNat)
    case atStart => exact ⟨0,0,f1n _,rfl,rfl,hQ0⟩
    case round=>
     obtain ⟨i,Lq,hi,rfl,rfl,gQ⟩:=hrel;obtain ⟨S1,ow1,gQ1,gS1,gO1⟩:=gQ.out;by_cases hlt:i<n
     · have hin:(i:Int)<(n:Int):=by omega
       have hs1:IntKind.i64.wrap ((i:Int)+(t:Int))=(i:Int)+(t:Int):=f0t _ fe;have hs2:IntKind.i64.wrap ((i:Int)+1)=(i:Int)+1:=f0t _ fe;have hnz: ¬ (n:Int)=0:=by omega
       obtain ⟨c,hc⟩: ∃ c,(i+t)%n=c:=⟨_,rfl⟩;have hcl:c<n:=hc▸Nat.mod_lt _ fe;have hc0:Int.tmod ((i:Int)+(t:Int)) (n:Int)=(c:Int):=by rw [Int.tmod_eq_emod_of_nonneg fe,← hc];simp
       have e0:(i+t)%S0.n=c:=by rw [hn2];exact hc
       have hwc:IntKind.i64.wrap (c:Int)=(c:Int):=f0t _ fe;clear gQ;go_wp2_with (first | (go_at_call 17;refine (hpk.out _).mono ?_;rintro e w1 ⟨rfl,rfl⟩) | (go_at_call 73;refine (f4p gS1 hn1 hn6 hcl).mono ?_;rintro e w2 ⟨rfl,gB⟩))
       go_loopw [12] (fun dv wd=>f69 n N n0 L E A WS w wd fun S=>Plain.Drn S0 t i Lq S∧dv= .int .i64 ((S.cl c).down.length:Int)) (fun dv _=>(intOf dv).toNat)
       case atStart => exact ⟨S1,ow1,⟨gQ1,rfl⟩,gS1.bl gB,gO1.tr (Old.bl gO1.ge2 gB)⟩
       case round=>
        obtain ⟨S2,ow2,⟨gQ2,rfl⟩,gS2,gO2⟩:=hrel.out;clear gS1 gO1 gQ1 gB hrel;have hG2:=gS2.live.good;have hu16:(S2.cl c).up.length≤16:=by have h1:=hG2.upR c (by have:=gS2.num;omega);have h2:=hG2.room16;omega
        have hd16:(S2.cl c).down.length≤16:=by have h1:=hG2.downR c (by have:=gS2.num;omega);have h2:=hG2.room16;omega
        have hLq:=gQ2.le;by_cases hd:(S2.cl c).down=[]
        · have hd0:((S2.cl c).down.length:Int)=0:=by rw [hd];rfl
          rw [hd0];by_cases hu:(S2.cl c).up=[]
          · have hu0:((S2.cl c).up.length:Int)=0:=by rw [hu];rfl
            have ha:IntKind.i64.wrap ((Lq:Int)+0)=(Lq:Int):=f0t _ fe;have hW:=fx6 (f4p gS2 hn1 hn6 hcl);rw [hu0,hd0] at hW;go_wp2_with (first | (go_at_call 73;refine hW.out.mono ?_;rintro e w3 ⟨rfl,gB3⟩))
            go_roundw
            case rel => exact ⟨i+1,Lq,by omega,by simp,by simp,S2,ow2,gQ2.none (by rw [e0];exact hd) (by rw [e0];exact hu),gS2.bl gB3,gO2.tr (Old.bl gO2.ge2 gB3)⟩
            case measure => simp [intOf];omega
          · have hu0:(0:Int)<((S2.cl c).up.length:Int):=by have:=List.length_pos_iff.2 hu;omega
            have hu1:=List.length_pos_iff.2 hu;have ha:IntKind.i64.wrap ((Lq:Int)+((S2.cl c).up.length:Int))=(Lq:Int)+((S2.cl c).up.length:Int):=f0t _ fe;have hb:IntKind.i64.wrap ((Lq:Int)+((S2.cl c).up.length:Int)-1)=(Lq:Int)+((S2.cl c).up.length:Int)-1:=f0t _ fe;have hW:=fx6 (f4p gS2 hn1 hn6 hcl);rw [hd0] at hW;go_wp2_with (first | (go_at_call 73;refine hW.out.mono ?_;rintro e w3 ⟨rfl,gB3⟩))
            go_at_call 9
            have hO3:=gO2.tr (Old.bl gO2.ge2 gB3);refine (sess_up (gS2.bl gB3) hO3.ge2 hcl hc gQ2 hd hu).mono ?_;rintro e w4 ⟨S4,ow4,gS4,gO4,⟨rfl,gQ4⟩ | ⟨rfl,gQ4⟩⟩
            · go_wp2_with fail
              go_roundw
              case rel => exact ⟨i+1,_,by omega,by simp;omega,by simp,S4,ow4,gQ4,gS4,hO3.tr gO4⟩
              case measure => simp [intOf];omega
            · go_wp2_with fail
              go_roundw
              case rel => exact ⟨i+1,_,by omega,by simp,by simp,S4,ow4,gQ4,gS4,hO3.tr gO4⟩
              case measure => simp [intOf];omega
        · have hd0:(0:Int)<((S2.cl c).down.length:Int):=by have:=List.length_pos_iff.2 hd;omega
          have hd1:=List.length_pos_iff.2 hd;have hb:IntKind.i64.wrap (((S2.cl c).down.length:Int)-1)=((S2.cl c).down.length:Int)-1:=f0t _ fe;have hgl:((Plain.get S2 c).2.cl c).down.length=(S2.cl c).down.length-1:=f6g hd;go_wp2_with (first | (go_at_call 9;refine (f6h gS2 gO2.ge2 hcl hd).mono ?_;rintro e w3 ⟨rfl,ow3,gS3,gO3⟩))
          go_roundw
          case rel => exact ⟨_,ow3,⟨gQ2.get (by have:=gS2.num;omega),by rw [hgl];simp;omega⟩,gS3,gO2.tr gO3⟩
          case measure => simp [intOf];omega
     · obtain rfl:i=n:=by omega
       have hin: ¬ (i:Int)<(i:Int):=by omega
       have hG1:=gS1.live.good;have hU:=hG1.upN;have hDn:=hG1.downN;have hn1':=gS1.num;have hLq:=gQ1.le;clear gQ;go_wp2_with fail
       go_loopw [8,17] (fun lv jv wj=> ∃ j:Nat,j≤i∧jv= .int .i64 (j:Int)∧lv= .int .i64 ((Lq+f4l S1 j:Nat):Int)∧Bl wr wj) (fun _ jv _=>i-(intOf jv).toNat)
       case atStart => exact ⟨0,f1n _,rfl,rfl,Bl.rf _⟩
       case round=>
        obtain ⟨j,hj,rfl,rfl,gB⟩:=hrel;have hS2:=gS1.bl gB;by_cases hlj:j<i
        · have hjn:(j:Int)<(i:Int):=by omega
          have hs2:IntKind.i64.wrap ((j:Int)+1)=(j:Int)+1:=f0t _ fe;have hud:=f5s S1 j;have hle:f4l S1 j≤32*j:=f6e hG1 fe;have h16:(S1.cl j).up.length≤16∧(S1.cl j).down.length≤16:=by have h1:=hG1.upR j fe;have h2:=hG1.downR j fe;have h3:=hG1.room16;omega
          have ha:IntKind.i64.wrap (((Lq+f4l S1 j:Nat):Int)+((S1.cl j).up.length:Int))=((Lq+f4l S1 j:Nat):Int)+((S1.cl j).up.length:Int):=f0t _ fe;have hb:IntKind.i64.wrap (((Lq+f4l S1 j:Nat):Int)+((S1.cl j).up.length:Int)+((S1.cl j).down.length:Int))=((Lq+f4l S1 j:Nat):Int)+((S1.cl j).up.length:Int)+((S1.cl j).down.length:Int):=f0t _ fe;go_wp2_with (first | (go_at_call 73;refine (f4p hS2 hn1 hn6 hlj).mono ?_;rintro e w3 ⟨rfl,gB3⟩))
          go_roundw
          case rel => exact ⟨j+1,by omega,by simp,by simp;omega,gB.cl gB3⟩
          case measure => simp [intOf];omega
        · obtain rfl:j=i:=by omega
          have hjn: ¬ (j:Int)<(j:Int):=by omega
          have hall:=f68 S1;rw [hn1'] at hall;have hO2:=gO1.tr (Old.bl gO1.ge2 gB);have hfin:=Plain.Drn.fin (hn2▸gQ1:Plain.Drn S0 t S0.n Lq S1);rw [← hall] at hfin;by_cases hz:Lq+f4l S1 j=0
          · have hz0:((Lq+f4l S1 j:Nat):Int)=0:=by rw [hz];rfl
            rw [hz0];go_wp2_with fail;go_ret;exact ⟨rfl,S1,ow1,hfin.1 hz,hS2,hO2⟩
          · have hz0: ¬ ((Lq+f4l S1 j:Nat):Int)=0:=by omega
            have hlt:=hfin.2 hz;go_wp2_with fail
            go_roundw
            case rel => exact ⟨r+1,by simp,S1,ow1,by omega,hS2,hO2⟩
            case measure => simp [intOf];omega
end
open Go.Maps
open Go.ChangeMaps (setBlock)
def mp_look {w:World} {b n:Nat} {f:Nat→Int} (h:Mp w b n f) {i:Nat} (hi:i<n) (hn:n≤1000):
    (Instr.lookup 76 (.map (some b)) (.int .i64 (i:Int)) true).run PV w= .ok (.tuple #[.int .i64 (f i),.bool true]) w:=by
 have hk:=fna (c:=i) fe
 have hall: ∀ e∈(mapE n f).toList,∃ l,keyOf PV 3 e.key=some l:=fun e he=>by
    obtain ⟨j,hj,rfl⟩:=mapE_mem.1 he;exact ⟨_,fna (c:=j) fe⟩
 rcases key3.find w hk _ hall with ⟨_,h2⟩ | ⟨j,e,h1,h2,h3⟩
 · exact absurd rfl (h2 (ent f i) (mapE_mem.2 ⟨i,hi,rfl⟩))
 · rw [faf] at h2;split at h2
   next hj=>
    cases h2
    have e:j=i:=by
       have:=h3;simp only [ent,Value.int.injEq,true_and] at this;omega
    subst e;simp [Instr.lookup,f1l fwn,MapKept.run_getObj_map h.at_,key3.check w _ hk,h1,ent]
   next=>cases h2
def mp_len {w:World} {b n:Nat} {f:Nat→Int} (h:Mp w b n f):(Builtin.len_ #[76] 3 #[.map (some b)]).run PV w= .ok (.int .i64 (n:Int)) w:=by
 simp [Builtin.len_,f1l fwn,MapKept.run_getObj_map h.at_,f6b,goInt]
def eql_map (b:Nat) (w:World):(binOp .eql 76 (.map (some b)) (.map none)).run PV w= .ok (.bool false) w:=by
 have h: ∀ d:Nat,(Op.equalIn (d+1) 76 (.map (some b)) (.map none)).run PV w= .ok false w:=fun d=>by
    simp [Op.equalIn,f1l fwn]
 simp only [binOp];simp [Op.equal,Op.maxDepth,h 9999]
def ta_map (v:Value) (w:World):(Instr.typeAssert (.iface 76 v) 20 76 false).run PV w= .ok v w:=by kernel_rfl
section
variable {L:Lay} {V:Vals} {S:Plain.Ses} {m:Int} {ow ow':Nat→Nat} {w w':World} {E:Nat→Value} {i:Nat}
def f6f (b:Nat) (es:Array MapEntry) (k:Nat) (hb:w.heap[b]? =some (.map es k)):
    Calls PV 125 #[.map (some b)] w fun x w'=>x= .returned (.map (some w.heap.size))∧w'=w.alloc (.map es k):=by
 have h130:= @run_callFunc_extern PV 130 _ Extern.MapsClone.clone PV.func130 fd fd fd fd
 have hc: ∀ t,(Extern.MapsClone.clone #[.iface t (.map (some b))]).run PV w= .ok (.iface t (.map (some w.heap.size))) (w.alloc (.map es k)):=fun t=>by
    have e:Extern.MapsClone.clone #[.iface t (.map (some b))]=(do
     let o ← getObj b
     match o with
     | .map entries clock=>(do let r ← newObj (.map entries clock);pure (.iface t (.map (some r))))
     | _=>stuck "maps.clone: a map expected"):=rfl
    rw [e];simp [MapKept.run_getObj_map hb]
 have h1:=fun W=>eql_map b W;have h2:=fun v W=>ta_map v W;go_enter PV.func125,Tryz.ntmps125;go_wp2;go_ret;exact ⟨rfl,rfl⟩
def f5y (h:Mem L V S 0 ow w) (hM:Marks L S.n w) (hE:Errs E w) (hn1:1≤S.n) (hn6:S.n≤6):
    Calls PV 103 #[.pointer (some ⟨L.b,0,none⟩)] w fun x w'=> ∃ b,x= .returned (.map (some b))∧w.heap.size≤b∧Mp w' b S.n S.curs∧Bl w w':=by
 have hLk:=fx6 (gl h hM hE);have hh:=fx6 h;clear h hM hE
 go_enter_defers PV.func103,Tryz.ntmps103
 go_wp2_with (first | (go_at_call 25;refine hLk.out.mono ?_;rintro e w1 ⟨rfl,ow1,g1⟩;obtain ⟨cB,dB⟩:=g1.mem.bb.ceF;obtain ⟨cS,dS⟩:=g1.mem.ss.ceF;have hcl:=fx6 (f6f _ _ _ g1.mem.mp.at_);replace g1:=fx6 g1) | (go_at_call 125;refine hcl.out.mono ?_;rintro e w2 ⟨rfl,rfl⟩));refine f1p (f:=26) (args:= #[.pointer (some ⟨L.b,0,none⟩)]) fi jg ?_;have hb2:Bl w1 (w1.alloc (.map (mapE S.n S.curs) S.n)):=(Bl.rf _).al _;refine (zc (g1.out.mem.bl hb2) .returning).mono ?_;rintro e u' w4 ⟨rfl,rfl,⟨ow4,gM4⟩,gC4⟩;refine ⟨_,f0x rfl _ _ _,_,rfl,g1.out.ch.size,?_,aq hh.out gM4 ((g1.out.ch.cl hb2).tr gC4 (fun x hx=> .inl hx))⟩;have hm:Mp (w1.alloc (.map (mapE S.n S.curs) S.n)) w1.heap.size S.n S.curs:=⟨f3n w1 _⟩;exact hm.ch gC4 (fun e=>by have:=g1.out.mem.bb.lt;omega)
def f5f (h:Mem L V S 0 ow w) (hM:Marks L S.n w) (hE:Errs E w) (hn1:1≤S.n) (hn6:S.n≤6):
    Calls PV 74 #[.pointer (some ⟨L.b,0,none⟩),.int .i64 (S.n:Int)] w fun x w'=> ∃ B,x= .returned (.slice (some ⟨B,0,none⟩) S.n S.n)∧w.heap.size≤B∧Bk w' B 3 (cr S.n S.curs)∧Bl w w':=by
 have hc:=fx6 (f5y h hM hE hn1 hn6);generalize hnn:S.n=n at*;generalize S.curs=cu at*;clear h hM hE hnn;have hmk:=fun W=>f6c n hn6 W;go_enter PV.func74,Tryz.ntmps74;go_wp2_with (first | (go_at_call 103;refine hc.out.mono ?_;rintro e w1 ⟨b,rfl,hb,hm,hbl⟩));refine vy (F:=fun W=>Mp W b n cu∧Bl w W∧Bk W w1.heap.size 3 (cr n fun _=>0)) ⟨hm.ch (K:=fun _=>False) (Ch.ba ((Bl.rf _).al _)) (fun h=>h),hbl.al _,(Bk.nw rfl).cv ft6⟩ ?_;have hB:w.heap.size≤w1.heap.size:=hbl.size;have hbB:b≠w1.heap.size:=Nat.ne_of_lt hm.lt;generalize w1.heap.size=B at hB hbB ⊢;clear hmk hc hbl hm;rintro w2 ⟨hm,hbl,hk⟩
 go_loopw [7,18] (fun nv iv wr=> ∃ (i:Nat) (g:Nat→Int),i≤n∧nv= .int .i64 (i:Int)∧iv= .int .i64 (i:Int)∧(∀ c,c<i→g c=cu c)∧Mp wr b n cu∧Bl w wr∧Bk wr B 3 (cr n g)) (fun _ iv _=>n-(intOf iv).toNat)
 case atStart => exact ⟨0,_,f1n _,rfl,rfl,fun c hc=>by omega,hm,hbl,hk⟩
 case round=>
    obtain ⟨i,g,hi,rfl,rfl,hg,gm,gbl,gk⟩:=hrel;clear hm hbl hk;by_cases hlt:i<n
    · have hin:(i:Int)<(n:Int):=by omega
      have hw1:IntKind.i64.wrap ((i:Int)+1)=(i:Int)+1:=f0t _ fe;have hlk:=mp_look gm hlt fe;have c1:wr.cell? ⟨B,i,none⟩=some (.int .i64 (g i)):=by rw [gk.ce i];exact fox hlt
      have d1:=gk.fz i;go_wp2_with fail
      go_roundw
      case rel=>
        refine ⟨i+1,Plain.put g i (cu i),by omega,by simp,by simp,fun c hc=> ?_,gm.ch ((Ch.rf (fun x=>x=B) _).st (.inl rfl) _) hbB,gbl.st (by exact hB) _,(gk.st _).cv (foy _)⟩;by_cases e:c=i
        · subst e;exact Plain.put_same _ _ _
        · rw [Plain.put_ne _ _ e];exact hg c fe
      case measure => simp [intOf];omega
    · obtain rfl:i=n:=by omega
      have hlen:=mp_len gm;have hrg:=fv1 gm;have hk2:=gk.cv (fsc hg);have hmB:=gm.lt;clear gk;go_wp2_with fail;refine vy (F:=fun W=>Mp W b i cu∧Bl w W∧Bk W B 3 (cr i cu)∧It W wr.heap.size b i #[]) ⟨gm.ch (K:=fun _=>False) (Ch.ba ((Bl.rf _).al _)) (fun h=>h),gbl.al _,hk2.al _,It.nw⟩ ?_;have hbr:=gm.lt;have hwr:=gbl.size;have hBr:=hk2.lt;generalize wr.heap.size=r at hbr hwr hBr ⊢;clear hlen hrg hk2 gm gbl;rintro w3 ⟨hm,hbl,hk,hit⟩
      go_loopw [11] (fun _ wq=> ∃ (seen:Array Nat) (f:Nat→Int),It wq r b i seen∧Mp wq b i f∧Bl w wq∧Bk wq B 3 (cr i cu)) (fun _ wq=>fs7 i r wq)
      case atStart => exact ⟨#[],cu,hit,hm,hbl,hk⟩
      case round=>
        obtain ⟨seen,f,gi,gm,gbl,gk⟩:=hrel;clear hm hbl hk hit;go_wp2_with (first | (at_next;refine ffe rfl _ rfl b r i _ seen rfl gm gi ?_ ?_) | go_in)
        · intro hall;go_wp2_with fail;go_ret;exact ⟨B,rfl,hB,gk,gbl⟩
        · intro c w4 hc hs hC hsz hIt hen;have hmu:=fw9 (gm.ch hC fe) hc fe (-7);go_wp2_with fail
          go_roundw
          case rel=>
           have hCs:Ch (fun x=>x=b) w4 (setBlock w4 b (.map (mapE i (Plain.put f c (-7))) i)):=(Ch.rf (fun x=>x=b) _).sb (.inl rfl) _;refine ⟨seen.push c,Plain.put f c (-7),hIt.ch hCs fe,(gm.ch hC fe).sb,?_,(gk.ch hC fe).ch hCs fe⟩;have hc2:=((Ch.ba (K:=fun _=>False) gbl).tr hC (fun x hx=> .inr fe)).sb (b:=b) (.inr hb) (.map (mapE i (Plain.put f c (-7))) i);exact ⟨hc2.os,hc2.tape,hc2.output,hc2.size,fun x hx=>hc2.block x hx (fun h=>h)⟩
          case measure=>
           have hCs:Ch (fun x=>x=b) w4 (setBlock w4 b (.map (mapE i (Plain.put f c (-7))) i)):=(Ch.rf (fun x=>x=b) _).sb (.inl rfl) _;show fs7 _ _ _<fs7 _ _ _;rw [(hIt.ch hCs fe).left,gi.left];exact fv0 hc (by simpa using hs)
end
end Go.Proofs.YtelecjnabeokeaaGreatDoor
namespace Go.Proofs.YtelecjnabeokeaaGreatDoor
open Go Go.RowKit
def fld38:PV.underlying 38=some (.struct (PV.fieldsOf 38)):=by kernel_rfl
def stood38:PV.stoodInHeld 38=false:=by kernel_rfl
def eqg38:PV.eqGuardType PV.depth 38=false:=by kernel_rfl
@[go_sem] def eqGuard38 (op:BinOp) (x y:Operand) (xs ys:Array Value) (w:World):(eqGuard op 38 x y (.agg xs) (.agg ys)).run PV w= .ok () w:=run_eqGuard_agg w op 38 x y xs ys eqg38
def flds38:(PV.fieldsOf 38).toList.map (fun f=>(f.type,f.offset,decide (f.name≠ "_")))=[(21,0,true),(3,1,true),(3,2,true)]:=by kernel_rfl
def und21:PV.underlying 21=some (.int .i32):=by kernel_rfl
def c3:PV.cellsOf 3=1:=by kernel_rfl
def eq38 (d:Nat) (a b c a' b' c':Int) (w:World):(Op.equalIn (d+1+1) 38 (.agg #[.int .i32 a,.int .i64 b,.int .i64 c]) (.agg #[.int .i32 a',.int .i64 b',.int .i64 c'])).run PV w= .ok (a==a'&&(b==b'&&c==c')) w:=by
 rw [run_equalIn_agg w (d+1) 38 _ _ fld38 stood38];have h:=flds38;generalize (PV.fieldsOf 38).toList=fs at h;have hl:fs.length=3:=by have:=f3q List.length h;simpa using this
 match fs,hl with
 | [f0,f1,f2],_=>
   simp only [f3c,List.map_nil,f0n,f2e,f1r,f2i] at h;obtain ⟨⟨t0,o0,n0⟩,⟨t1,o1,n1⟩,t2,o2,n2⟩:=h;have p0: ∀ x y z:Value,(part 21 #[x,y,z] 0).run PV w= .ok x w:=fun x y z=>by go_simp
   have p1: ∀ x y z:Value,(part 3 #[x,y,z] 1).run PV w= .ok y w:=fun x y z=>by go_simp
   have p2: ∀ x y z:Value,(part 3 #[x,y,z] 2).run PV w= .ok z w:=fun x y z=>by go_simp
   have e0:=run_equalIn_int (P:=PV) w d 21 .i32 .i32 a a' und21;have e1:=run_equalIn_int (P:=PV) w d 3 .i64 .i64 b b' und3;have e2:=run_equalIn_int (P:=PV) w d 3 .i64 .i64 c c' und3;simp only [Op.eqFields,t0,o0,t1,o1,t2,o2,f02 n0,f02 n1,f02 n2,fz9,p0,p1,p2,Result.andThen_ok,e0,e1,e2];cases h0:(a==a') <;>cases h1:(b==b') <;>cases h2:(c==c') <;>simp [p1,p2,e1,e2,h1,h2]
def neq38 (e:Plain.El) (w:World):(binOp .neq 38 (.agg #[.int .i32 e.r,.int .i64 e.c,.int .i64 e.n]) (.agg #[.int .i32 e.r,.int .i64 e.c,.int .i64 e.n])).run PV w= .ok (.bool false) w:=by
 rw [run_neq_struct,eq38 9998];simp
def fvr {w:World} {v1 v2:Value} (t:List Plain.El) (h1:Txt w v1 t) (h2:Txt w v2 t) (hl:t.length≤4000):Calls PV 13 #[v1,v2] w fun x w'=>x= .returned (.bool true)∧Bl w w':=by
 obtain ⟨A,ca,hA⟩:=h1.slice;obtain ⟨B,cb,hB⟩:=h2.slice;subst hA;subst hB;have hT1:=fx6 h1;have hT2:=fx6 h2;clear h1 h2;go_enter PV.func13,Tryz.ntmps13;go_wp2
 go_loopw [5] (fun iv wr=> ∃ i:Nat,i≤t.length∧iv= .int .i64 (i:Int)∧Bl w wr) (fun iv _=>t.length-(intOf iv).toNat)
 case atStart => exact ⟨0,f1n _,rfl,Bl.rf _⟩
 case round=>
    obtain ⟨i,hi,rfl,hb⟩:=hrel;by_cases hlt:i<t.length
    · have hin:(i:Int)<(t.length:Int):=by omega
      obtain ⟨e,he⟩: ∃ e,t[i]? =some e:=⟨t[i],f0r hlt⟩;have hw1:IntKind.i64.wrap ((i:Int)+1)=(i:Int)+1:=f0t _ fe
      obtain ⟨g,rfl⟩: ∃ g,A=some ⟨g,0,none⟩:=by
        rcases hT1.out.form with ⟨_,h2⟩ | ⟨g,cap,h1,_⟩
        · rw [h2] at hlt;simp at hlt
        · injection h1 with h1;exact ⟨g,h1⟩
      obtain ⟨g',rfl⟩: ∃ g,B=some ⟨g,0,none⟩:=by
        rcases hT2.out.form with ⟨_,h2⟩ | ⟨g,cap,h1,_⟩
        · rw [h2] at hlt;simp at hlt
        · injection h1 with h1;exact ⟨g,h1⟩
      obtain ⟨f0,f1,f2⟩:=fhr he;have hc:=(hT1.out.bl hb).cells;have hd:=(hT2.out.bl hb).cells;have q0:=hc _ _ f0;have q1:=hc _ _ f1;have q2:=hc _ _ f2;have r0:=hd _ _ f0;have r1:=hd _ _ f1;have r2:=hd _ _ f2;simp only [f2u,f1k] at q0 q1 q2 r0 r1 r2;have hne:=fun W=>neq38 e W;clear hc hd f0 f1 f2;go_wp2_with fail
      go_quiet (fail)
      go_wp2_with fail
      go_roundw
      case rel => exact ⟨i+1,by omega,by simp,hb.cl ⟨rfl,rfl,rfl,fx8 _,fun _ _=>rfl⟩⟩
      case measure => simp [intOf];omega
    · obtain rfl:i=t.length:=by omega
      go_wp2;go_ret;exact ⟨rfl,hb⟩
open Go.Conc
def Scr.old {v w:World} {k:Nat} {p:Option Addr} {n cap:Nat} {f:Nat→Nat→Int} {s:Nat→ByteArray} (h:Scr v p n cap f s) (hO:Old k v w) (hk:v.heap.size≤k):Scr w p n cap f s:=
 h.keep hO.size fun x hx=>hO.block x fe
def Base.old {v w:World} {k:Nat} (h:Base v) (hO:Old k v w) (hk:2≤k):Base w:=by
 obtain ⟨a,b,h0⟩:=h.b0;obtain ⟨a',b',h1⟩:=h.b1;exact ⟨⟨a,b,⟨(hO.block 0 fe).trans h0.at_⟩⟩,⟨a',b',⟨(hO.block 1 fe).trans h1.at_⟩⟩⟩
section
variable {Φ:Goal} {WS:Nat→Option SeatD} {Shun:Loc→Prop} {w v v0:World} {n room N N' n0:Nat} {X:Frame} {cs:List Frame} {E:Nat→Value} {A:Nat→Addr} {L:Lay} {S:Plain.Ses} {ow:Nat→Nat}
def Plain.Good.texts {S:Plain.Ses} (h:Plain.Good S) (c:Int):(Plain.textOf S c).length<3000:=by
 unfold Plain.textOf;split
 · have h1:=h.text_len;have h2:=h.log_len;have h3:=h.calls;omega
 · split
   · rename_i hc;have:=h.cl_len (c:=c.toNat) fe;omega
   · simp
def fpa (h:Sess n N n0 L E A S ow WS w) (hn0:n0≤w.heap.size) (hn1:1≤n) (hn6:n≤6) (c:Int):
    Calls PV 11 #[.pointer (some ⟨L.b,0,none⟩),.int .i64 c,.int .i64 0] w fun x w'=> ∃ v,x= .returned (.tuple #[v,.bool true])∧w'.ownsRow w.heap.size 38 3 v (Plain.textOf S c).length (flat (Plain.textOf S c))∧Sess n N n0 L E A S ow WS w'∧Old n0 w w'∧Bl w w':=by
 obtain ⟨V,hM⟩:=h.live.mem;refine (ftc hM (h.num▸h.live.marks) h.live.ev.errs (by rw [h.num];exact hn1) (by rw [h.num];exact hn6) c (h.live.good.texts c)).mono ?_;rintro x w' ⟨v,hx,hr,hb⟩;exact ⟨v,hx,hr,h.bl hb,Old.bl hn0 hb,hb⟩
def flz {ι:Type} {P:ι→World→Prop} {fr:Frame} (hW:WsOk WS Shun) (hok:FrOk Tryz.prog rg fr) (hk:fr.kind= .normal) (h: ∃ F:ι→Frame,(∀ t d,RunTo (fun fr w=> ∃ x,P x w∧fr=F x) fr (reW v t d))∧(∀ x,vt (F x)=false)∧ ∀ x w,P x w→Co Φ WS Shun w N (G (F x) cs)):Co Φ WS Shun v N (G fr cs):=by
 obtain ⟨F,h1,h2,h3⟩:=h;exact fge (Z:=fun fr w=> ∃ x,P x w∧fr=F x) hW (fun fr v h=>by obtain ⟨x,_,rfl⟩:=h;exact h2 x) hok hk h1 (by rintro _ _ ⟨x,h,rfl⟩;exact h3 x _ h)
end
end Go.Proofs.YtelecjnabeokeaaGreatDoor
namespace Go.Proofs.YtelecjnabeokeaaGreatDoor
open Go Go.RowKit
section
variable {WS:Nat→Option SeatD} {w v0:World} {n N n0:Nat} {E:Nat→Value} {A:Nat→Addr} {L:Lay} {S S0:Plain.Ses} {ow:Nat→Nat} {i t Lq:Nat}
def f5z (h:Sess n N n0 L E A S ow WS w) (hn1:1≤n) (hn6:n≤6) {c:Nat} (hc:c<n):
    Calls PV 29 #[.pointer (some ⟨L.b,0,none⟩),.int .i64 (c:Int)] w fun x w'=>x= .returned (.int .i64 (S.cl c).cur)∧Bl w w':=by
 obtain ⟨V,hM⟩:=h.live.mem;have hn:=h.num;exact f67 hM h.live.marks h.live.ev.errs fe fe fe
def f5n (h:Sess n N n0 L E A S ow WS w) (hn1:1≤n) (hn6:n≤6):
    Calls PV 74 #[.pointer (some ⟨L.b,0,none⟩),.int .i64 (n:Int)] w fun x w'=> ∃ B,x= .returned (.slice (some ⟨B,0,none⟩) n n)∧w.heap.size≤B∧Bk w' B 3 (cr n S.curs)∧Bl w w':=by
 obtain ⟨V,hM⟩:=h.live.mem;have hn:=h.num;subst hn;exact f5f hM h.live.marks h.live.ev.errs hn1 hn6
def f6i (h:Sess n N n0 L E A S ow WS w) (hn0:n0≤w.heap.size) (hn1:1≤n) (hn6:n≤6) (c:Int):
    Calls PV 11 #[.pointer (some ⟨L.b,0,none⟩),.int .i64 c,.int .i64 0] w fun x w'=> ∃ v,x= .returned (.tuple #[v,.bool true])∧Txt w' v (Plain.textOf S c)∧Bl w w':=by
 refine (fpa h hn0 hn1 hn6 c).mono ?_;rintro x w' ⟨v,hx,hr,_,_,hb⟩;exact ⟨v,hx,OwnT.txt hr,hb⟩
def f6a (h:Sess n N n0 L E A S ow WS w) (hn0:n0≤w.heap.size) (hn1:1≤n) (hn6:n≤6) (hu:Plain.upN S=0) (hd:Plain.downN S=0):
    Calls PV 33 #[.pointer (some ⟨L.b,0,none⟩),.int .i64 (n:Int)] w fun x w'=>x= .returned (.bool true)∧Bl w w':=by
 have hG:=h.live.good;have hnn:=h.num;have htx:=hG.text_len;have hlg:S.log.length≤2000:=by have h1:=hG.count;have h2:=hG.calls;omega
 have hst:=fun c (hc:c<n)=>hG.still hu hd (c:=c) fe;have hk0:=fun c (hc:c<n)=>(hG.pair c fe).kc0;have hk1:=fun c (hc:c<n)=>(hG.pair c fe).kc1;have e0:Plain.textOf S (-1)=S.text:=rfl
 have ec: ∀ c:Nat,c<n→Plain.textOf S c=S.text:=fun c hc=>by
    unfold Plain.textOf;rw [fx9 fe,f02 fe];exact (hst c hc).1
 have hE:=fx6 (fun W (hb:Bl w W) c=>f6i (h.bl hb) (f08 hn0 hb.size) hn1 hn6 c);have hC:=fx6 (fun W (hb:Bl w W)=>f5n (h.bl hb) hn1 hn6);have hK:=fx6 (fun W (hb:Bl w W) c (hc:c<n)=>f5z (h.bl hb) hn1 hn6 hc);clear h;go_enter PV.func33,Tryz.ntmps33;go_wp2_with (first | (go_at_call 11;refine (hE.out _ (Bl.rf _) (-1)).mono ?_;rintro e w1 ⟨v,rfl,gT,gB⟩;rw [e0] at gT) | (go_at_call 74;refine (hC.out _ gB).mono ?_;rintro e w2 ⟨B,rfl,hB,gK,gB2⟩))
 go_loopw [8] (fun iv wr=> ∃ i:Nat,i≤n∧iv= .int .i64 (i:Int)∧Bl w2 wr) (fun iv _=>n-(intOf iv).toNat)
 case atStart => exact ⟨0,f1n _,rfl,Bl.rf _⟩
 case round=>
    obtain ⟨i,hi,rfl,gb⟩:=hrel;have gbw:Bl w wr:=(gB.cl gB2).cl gb;by_cases hlt:i<n
    · have hin:(i:Int)<(n:Int):=by omega
      have hw1:IntKind.i64.wrap ((i:Int)+1)=(i:Int)+1:=f0t _ fe;have hs:=fx6 fun W v' (hv:Txt W v' S.text) (hw:Txt W v S.text)=>fvr S.text hv hw fe;have ht1:=(gT.bl gB2).bl gb;have hcur:(S.cl i).cur=S.curs i:=(hst i hlt).2;have hq0: ¬ S.curs i<0:=by have:=hk0 i hlt;omega
      have hq1: ¬ (S.text.length:Int)<S.curs i:=by have:=hk1 i hlt;rw [(hst i hlt).1] at this;omega
      have hKi:=fx6 fun W hb=>hK.out W hb i hlt;rw [hcur] at hKi;have gKr:=fx6 (gK.bl gb);replace hE:=fx6 (hE.out wr gbw (i:Int));rw [ec i hlt] at hE;replace hs:=fx6 fun W v' (hb:Bl wr W) (hv:Txt W v' S.text)=>hs.out W v' hv (ht1.bl hb);clear hC hK hst hk0 hk1 ec hG gT ht1 gK;go_wp2_with (first | (go_at_call 11;refine hE.out.mono ?_;rintro e w3 ⟨v3,rfl,gT3,gB3⟩;have hl3:=txt_len gT3 fe) | (go_at_call 13;refine (hs.out _ _ gB3 gT3).mono ?_;rintro e w4 ⟨rfl,gB4⟩) | (go_at_call 29;refine (hKi.out _ ((gbw.cl gB3).cl gB4)).mono ?_;rintro e w5 ⟨rfl,gB5⟩;have c1:w5.cell? ⟨B,i,none⟩=some (.int .i64 (S.curs i)):=(((gKr.out.bl gB3).bl gB4).bl gB5).ce i |>.trans (fox hlt)))
      go_roundw
      case rel => exact ⟨i+1,by omega,by simp,((gb.cl gB3).cl gB4).cl gB5⟩
      case measure => simp [intOf];omega
    · obtain rfl:i=n:=by omega
      have hin: ¬ (i:Int)<(i:Int):=by omega
      go_wp2_with fail;go_ret;exact ⟨rfl,gbw⟩
end
open Go.Conc
def lse0:Plain.Ses:=Plain.new 2 4
def lse1:Plain.Ses:=(Plain.call lse0 1 0 0 (IntKind.i32.wrap 97)).2
def lsd1:(Plain.call lse0 1 0 0 (IntKind.i32.wrap 97)).1=0:=by kernel_rfl
def lse2:Plain.Ses:=(Plain.call lse1 1 1 0 (IntKind.i32.wrap 98)).2
def lsd2:(Plain.call lse1 1 1 0 (IntKind.i32.wrap 98)).1=0:=by kernel_rfl
def lse3:Plain.Ses:=(Plain.call lse2 4 0 0 (IntKind.i32.wrap 0)).2
def lsd3:(Plain.call lse2 4 0 0 (IntKind.i32.wrap 0)).1=0:=by kernel_rfl
def lse4:Plain.Ses:=(Plain.call lse3 4 1 0 (IntKind.i32.wrap 0)).2
def lsd4:(Plain.call lse3 4 1 0 (IntKind.i32.wrap 0)).1=0:=by kernel_rfl
def lse5:Plain.Ses:=(Plain.call lse4 5 0 0 (IntKind.i32.wrap 0)).2
def lsd5:(Plain.call lse4 5 0 0 (IntKind.i32.wrap 0)).1=0:=by kernel_rfl
def lse6:Plain.Ses:=(Plain.call lse5 5 1 0 (IntKind.i32.wrap 0)).2
def lsd6:(Plain.call lse5 5 1 0 (IntKind.i32.wrap 0)).1=0:=by kernel_rfl
structure TxOk (t:List Plain.El):Prop where
 len:t.length<3000
 ne:t≠[]
 asc:Asc t
def lx0E:Plain.textOf lse2 0=[⟨97,0,1⟩]:=by kernel_rfl
def lx0:TxOk (Plain.textOf lse2 0):=⟨by rw [lx0E];simp,by rw [lx0E];simp,by rw [lx0E];simp [Asc]⟩
def lx1E:Plain.textOf lse2 1=[⟨98,1,1⟩]:=by kernel_rfl
def lx1:TxOk (Plain.textOf lse2 1):=⟨by rw [lx1E];simp,by rw [lx1E];simp,by rw [lx1E];simp [Asc]⟩
def ly0E:Plain.textOf lse6 0=[⟨97,0,1⟩,⟨98,1,1⟩]:=by kernel_rfl
def ly0:TxOk (Plain.textOf lse6 0):=⟨by rw [ly0E];simp,by rw [ly0E];simp,by rw [ly0E];simp [Asc]⟩
def ly1E:Plain.textOf lse6 1=[⟨97,0,1⟩,⟨98,1,1⟩]:=by kernel_rfl
def ly1:TxOk (Plain.textOf lse6 1):=⟨by rw [ly1E];simp,by rw [ly1E];simp,by rw [ly1E];simp [Asc]⟩
def lySE:Plain.textOf lse6 (-1)=[⟨97,0,1⟩,⟨98,1,1⟩]:=by kernel_rfl
def lyS:TxOk (Plain.textOf lse6 (-1)):=⟨by rw [lySE];simp,by rw [lySE];simp,by rw [lySE];simp [Asc]⟩
def lt0:bstr (vq (Plain.textOf lse2 0))=⟨#[97]⟩:=by kernel_rfl
def lt1:bstr (vq (Plain.textOf lse2 1))=⟨#[98]⟩:=by kernel_rfl
def lu0:bstr (vq (Plain.textOf lse6 0))=⟨#[97,98]⟩:=by kernel_rfl
def lu1:bstr (vq (Plain.textOf lse6 1))=⟨#[97,98]⟩:=by kernel_rfl
def luS:bstr (vq (Plain.textOf lse6 (-1)))=⟨#[97,98]⟩:=by kernel_rfl
def pv6:PV.funcs[6]? =some Tryz.f6:=rd 6 _ _ Tryz.func6 fd fd rfl fd
def LivesR (N n0:Nat) (Shun:Loc→Prop) (v0:World) (x:Value) (WS':Nat→Option SeatD) (Shun':Loc→Prop) (v':World) (N':Nat):Prop:=
 x= .bool true∧WS'=vb∧N'=N+3∧ ∃ b,Shun'=fax b Shun∧n0≤b∧Old n0 v0 v'
section
variable {WS:Nat→Option SeatD} {Shun:Loc→Prop} {v0:World} {N:Nat} {E:Nat→Value} {A:Nat→Addr}
structure SessM (n N n0:Nat) (L:Lay) (E:Nat→Value) (A:Nat→Addr) (S:Plain.Ses) (WS:Nat→Option SeatD) (v0 w:World):Prop where
 out: ∃ ow',Sess n N n0 L E A S ow' WS w∧Old n0 v0 w
def co_runX {Φ:Goal} {v:World} {cs:List Frame} {P:World→Prop} {fr:Frame} (hW:WsOk WS Shun) (hok:FrOk Tryz.prog rg fr) (hk:fr.kind= .normal) (h: ∃ F:Nat→Frame,(∀ t d,RunTo (fun fr w=>P w∧ ∃ x,fr=F x) fr (reW v t d))∧(∀ x,vt (F x)=false)∧ ∀ x w,P w→Co Φ WS Shun w N (G (F x) cs)):Co Φ WS Shun v N (G fr cs):=by
 obtain ⟨F,h1,h2,h3⟩:=h;exact fge (Z:=fun fr w=>P w∧ ∃ x,fr=F x) hW (fun fr v h=>by obtain ⟨_,x,rfl⟩:=h;exact h2 x) hok hk h1 (by rintro _ _ ⟨h,x,rfl⟩;exact h3 x _ h)
def fvu (hN:1≤N) (hB:Base v0) (hE:EV E A v0) (hA: ∀ i,i<12→i≠2→(A i).block<v0.heap.size):
    Fc vb Shun v0 N 6 #[] (LivesR N v0.heap.size Shun v0):=by
 refine ⟨fun Φ X cs hc=> ?_⟩;rw [ea Tryz.func6 rfl];simp only [show Tryz.f6.ntmps=103 from rfl];walk_nrm;refine fet bg (zu Tryz.func6 pv6 fd rfl) rfl ?_;apply Exists.intro
 case' h => refine And.intro ?ha (And.intro ?hp ?hc)
 case ha=>
    intro t d;refine rl (rj ?_);go_wp2;refine rl (yt ?_);simp only [szs];exact zt ⟨rfl,t,d,rfl⟩
 case hp => rfl
 case hc=>
    intro t d;refine fba (feu (n:=2) (room:=4) (N:=N) fe fe fe fe (hB.re t d) (hE.re t d) hA) jh rfl rfl gh rfl Tryz.func8 fd rfl ?_;rintro x WS' Shun' v1 N' ⟨rfl,rfl,L,ow,rfl,hS1,hO1⟩;replace hO1:Old v0.heap.size v0 v1:=hO1.re';replace hS1:Sess 2 N v0.heap.size L E A lse0 ow WS' v1:=hS1;walk_nrm;refine co_runX (P:=fun w=>SessM 2 N v0.heap.size L E A lse6 WS' v0 w) hS1.seats.ok (zu Tryz.func6 pv6 fd rfl) rfl ?_;apply Exists.intro
    case' h => refine And.intro ?ha (And.intro ?hp ?hc)
    case ha=>
     intro t d;refine uy rfl rfl (u:= .tuple #[.pointer (some ⟨L.b,0,none⟩),.int .i64 0]) (v1:=reW v1 t d) gw ?_;walk_nrm;refine uy rfl rfl (u:= .pointer (some ⟨L.b,0,none⟩)) (v1:=reW v1 t d) gw ?_;walk_nrm;refine uy rfl rfl (u:= .int .i64 0) (v1:=reW v1 t d) gw ?_;walk_nrm;refine uy rfl rfl (u:= .pointer (some ⟨L.b,0,none⟩)) (v1:=reW v1 t d) gw ?_;walk_nrm;refine uy rfl rfl (u:= .int .i64 0) (v1:=reW v1 t d) gw ?_;walk_nrm;have hS:=fx6 (hS1.re t d);have hO:=fx6 (hO1.re t d);generalize reW v1 t d=w0 at hS hO ⊢;refine ie (rl (rj ?_));go_wp2;refine rl (rj ?_);go_wp2_with (first | (go_at_call 9;refine (mr hS.out hO.out.ge2 1 0 0 97 fe fe (S':=lse1) (f2v lsd1 rfl)).mono ?_;rintro e w1 ⟨rfl,ow1,gS,gO,gE⟩;replace hO:=fx6 (hO.out.tr gO);replace hS:=fx6 gS;clear gS gO gE));refine rl (rj ?_);go_wp2_with (first | (go_at_call 9;refine (mr hS.out hO.out.ge2 1 1 0 98 fe fe (S':=lse2) (f2v lsd2 rfl)).mono ?_;rintro e w1 ⟨rfl,ow1,gS,gO,gE⟩;replace hO:=fx6 (hO.out.tr gO);replace hS:=fx6 gS;clear gS gO gE));refine rl (rj ?_);go_wp2_with (first | (go_at_call 16;refine (m6 hS.out hO.out.ge2 fe fe (0) ⟨#[97]⟩ lt0 lx0.len lx0.ne lx0.asc).mono ?_;rintro e w1 ⟨rfl,gS,gO,gB⟩;replace hO:=fx6 (hO.out.tr gO);replace hS:=fx6 gS;clear gS gO gB));refine rl (rj ?_);go_wp2_with (first | (go_at_call 16;refine (m6 hS.out hO.out.ge2 fe fe (1) ⟨#[98]⟩ lt1 lx1.len lx1.ne lx1.asc).mono ?_;rintro e w1 ⟨rfl,gS,gO,gB⟩;replace hO:=fx6 (hO.out.tr gO);replace hS:=fx6 gS;clear gS gO gB));refine rl (rj ?_);go_wp2;refine rl (rl (rj ?_));go_wp2;obtain ⟨VV,hMM⟩:=hS.out.live.mem;have hB0:ow1 w1.heap.size=0:=hMM.fresh _ (fx8 _);clear hMM VV;have hBk:=fx6 (Bk.nw (w:=w1) (t:=3) (cs:= #[.int .i64 4,.int .i64 5]) rfl);replace hS:=fx6 (hS.out.bl ((Bl.rf _).al (.cells #[.int .i64 4,.int .i64 5] 3)));replace hO:=fx6 (hO.out.tr (Old.bl hO.out.ge2 ((Bl.rf _).al (.cells #[.int .i64 4,.int .i64 5] 3))));generalize w1.alloc (.cells #[.int .i64 4,.int .i64 5] 3)=w2 at hS hO hBk ⊢;generalize w1.heap.size=xq at hB0 hBk ⊢;obtain ⟨cB,dB⟩:=hBk.out.ceF;refine yv (fhm ?_);refine rl (rj ?_);go_wp2;refine rl (ya (t:=true) rfl (bo (rl (yv (rl (rj ?_))))));go_wp2;refine rl (rj ?_);go_wp2;refine yv (fhm ?_);refine rl (rl (rj ?_));go_wp2;refine ya (t:=true) rfl (bo (rl (yv (rl (rj ?_)))));go_wp2_with (first | (go_at_call 9;refine (mr hS.out hO.out.ge2 4 0 0 0 fe fe (S':=lse3) (f2v lsd3 rfl)).mono ?_;rintro e w1 ⟨rfl,ow1,gS,gO,gE⟩;replace hO:=fx6 (hO.out.tr gO);replace hS:=fx6 gS;have gB:=hBk.out.ch gE.ch (fun h=>h hB0);have gB0:=(gE.own _ hBk.out.lt).trans hB0;replace hBk:=fx6 gB;replace hB0:=gB0;clear gB gB0;obtain ⟨cB,dB⟩:=hBk.out.ceF;clear gS gO gE));refine rl (rj ?_);go_wp2;refine ya (t:=false) rfl (bo (zb (rj ?_)));go_wp2;refine bt ?_;refine rl (rl (rj ?_));go_wp2;refine ya (t:=true) rfl (bo (rl (yv (rl (rj ?_)))));go_wp2_with (first | (go_at_call 9;refine (mr hS.out hO.out.ge2 4 1 0 0 fe fe (S':=lse4) (f2v lsd4 rfl)).mono ?_;rintro e w1 ⟨rfl,ow1,gS,gO,gE⟩;replace hO:=fx6 (hO.out.tr gO);replace hS:=fx6 gS;have gB:=hBk.out.ch gE.ch (fun h=>h hB0);have gB0:=(gE.own _ hBk.out.lt).trans hB0;replace hBk:=fx6 gB;replace hB0:=gB0;clear gB gB0;obtain ⟨cB,dB⟩:=hBk.out.ceF;clear gS gO gE));refine rl (rj ?_);go_wp2;refine ya (t:=false) rfl (bo (zb (rj ?_)));go_wp2;refine bt ?_;refine rl (rl (rj ?_));go_wp2;refine ya (t:=false) rfl (fhn rfl ?_);refine zb (rj ?_);go_wp2;refine bt ?_;refine rl (rj ?_);go_wp2;refine rl (ya (t:=true) rfl (bo (rl (yv (rl (rj ?_))))));go_wp2;refine rl (rj ?_);go_wp2;refine yv (fhm ?_);refine rl (rl (rj ?_));go_wp2;refine ya (t:=true) rfl (bo (rl (yv (rl (rj ?_)))));go_wp2_with (first | (go_at_call 9;refine (mr hS.out hO.out.ge2 5 0 0 0 fe fe (S':=lse5) (f2v lsd5 rfl)).mono ?_;rintro e w1 ⟨rfl,ow1,gS,gO,gE⟩;replace hO:=fx6 (hO.out.tr gO);replace hS:=fx6 gS;have gB:=hBk.out.ch gE.ch (fun h=>h hB0);have gB0:=(gE.own _ hBk.out.lt).trans hB0;replace hBk:=fx6 gB;replace hB0:=gB0;clear gB gB0;obtain ⟨cB,dB⟩:=hBk.out.ceF;clear gS gO gE));refine rl (rj ?_);go_wp2;refine ya (t:=false) rfl (bo (zb (rj ?_)));go_wp2;refine bt ?_;refine rl (rl (rj ?_));go_wp2;refine ya (t:=true) rfl (bo (rl (yv (rl (rj ?_)))));go_wp2_with (first | (go_at_call 9;refine (mr hS.out hO.out.ge2 5 1 0 0 fe fe (S':=lse6) (f2v lsd6 rfl)).mono ?_;rintro e w1 ⟨rfl,ow1,gS,gO,gE⟩;replace hO:=fx6 (hO.out.tr gO);replace hS:=fx6 gS;have gB:=hBk.out.ch gE.ch (fun h=>h hB0);have gB0:=(gE.own _ hBk.out.lt).trans hB0;replace hBk:=fx6 gB;replace hB0:=gB0;clear gB gB0;obtain ⟨cB,dB⟩:=hBk.out.ceF;clear gS gO gE));refine rl (rj ?_);go_wp2;refine ya (t:=false) rfl (bo (zb (rj ?_)));go_wp2;refine bt ?_;refine rl (rl (rj ?_));go_wp2;refine ya (t:=false) rfl (fhn rfl ?_);refine zb (rj ?_);go_wp2;refine bt ?_;refine rl (rj ?_);go_wp2;refine rl (ya (t:=false) rfl (fhn rfl ?_));refine rl (rj ?_);go_wp2_with (first | (go_at_call 16;refine (m6 hS.out hO.out.ge2 fe fe (0) ⟨#[97,98]⟩ lu0 ly0.len ly0.ne ly0.asc).mono ?_;rintro e w1 ⟨rfl,gS,gO,gB⟩;replace hO:=fx6 (hO.out.tr gO);replace hS:=fx6 gS;clear gS gO gB));refine rl (rj ?_);go_wp2_with (first | (go_at_call 16;refine (m6 hS.out hO.out.ge2 fe fe (1) ⟨#[97,98]⟩ lu1 ly1.len ly1.ne ly1.asc).mono ?_;rintro e w1 ⟨rfl,gS,gO,gB⟩;replace hO:=fx6 (hO.out.tr gO);replace hS:=fx6 gS;clear gS gO gB));refine rl (rj ?_);go_wp2_with (first | (go_at_call 16;refine (m6 hS.out hO.out.ge2 fe fe (-1) ⟨#[97,98]⟩ luS lyS.len lyS.ne lyS.asc).mono ?_;rintro e w1 ⟨rfl,gS,gO,gB⟩;replace hO:=fx6 (hO.out.tr gO);replace hS:=fx6 gS;clear gS gO gB));refine rl (yt ?_);simp only [szs];refine uy rfl rfl (u:= .pointer (some ⟨L.b,0,none⟩)) (v1:=w1) gw ?_;walk_nrm;exact zt (And.intro ⟨ow1,hS.out,hO.out⟩ (Exists.intro xq rfl))
    case hp => intro x;rfl
    case hc=>
     rintro xq w2 ⟨ow2,hS2,hO2⟩;refine fba (f6d (N':=N+(2+1)) hS2 fe fe hN fe hO2.ge2) jh rfl rfl gh rfl Tryz.func12 fd rfl ?_;rintro x WS3 Shun3 v3 N3 ⟨rfl,rfl,rfl,rfl,hO3⟩;walk_nrm;refine fet bg (zu Tryz.func6 pv6 fd rfl) rfl ?_;apply Exists.intro
     case' h => refine And.intro ?ha (And.intro ?hp ?hc)
     case ha=>
        intro t d;refine ie (rl (rj ?_));go_wp2;exact fnj (zt ⟨rfl,t,d,rfl⟩)
     case hp => rfl
     case hc=>
        intro t d;refine fhp (fn:=Tryz.f6) rfl rfl Tryz.func6 (resultsC_tmp (t:=0) rfl _) ?_;refine hc _ _ _ _ _ ⟨rfl,rfl,rfl,L.b,rfl,?_,(hO2.tr hO3).re _ _⟩;obtain ⟨V,hM⟩:=hS2.live.mem;rcases f01 L.b v0.heap.size with h | h
        · have h1:=hS2.low _ h;have h2:=hM.tag.b;omega
        · exact h
end
end Go.Proofs.YtelecjnabeokeaaGreatDoor
