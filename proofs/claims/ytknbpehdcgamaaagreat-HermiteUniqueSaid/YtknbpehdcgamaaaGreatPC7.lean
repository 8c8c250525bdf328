/-
  Lemmas towards the theorem of this claim (part 7).
  Conditions: those that each theorem names.
-/
import Derived.Test.YtknbpehdcgamaaaGreatPC6
namespace Go.TL
open Go.RowKit
set_option linter.unusedVariables false
def nV (w:World) (v:Value) (n:Nat) (ka ki kj:Nat→Nat) (kk:Nat→Int):Prop:=∃A c,v= .slice A n c∧n≤c∧c<9223372036854775808∧
  (0<n→∃g o,A=some ⟨g,o,none⟩∧∀i,i<n→(w.cell? ⟨g,o + i*4,none⟩=some (.int .u8 (ka i:Nat))∧w.cell? ⟨g,o + i*4 + 1,none⟩=some (.int .u8 (ki i:Nat)))∧w.cell? ⟨g,o + i*4 + 2,none⟩=some (.int .u8 (kj i:Nat))∧w.cell? ⟨g,o + i*4 + 3,none⟩=some (.int .i8 (kk i)))
theorem nV.ext {w w':World} {v:Value} {n:Nat} {ka ki kj:Nat→Nat} {kk:Nat→Int} (h:nV w v n ka ki kj kk) (hx:aC w w'):nV w' v n ka ki kj kk:=by
  obtain ⟨A,c,h1,h2,h3,h4⟩:=h;exact ⟨A,c,h1,h2,h3,fun hn=>by
    obtain ⟨g,o,hA,hc⟩:=h4 hn;exact ⟨g,o,hA,fun i hi=>by obtain ⟨⟨g1,g2⟩,g3,g4⟩:=hc i hi;exact ⟨⟨aC.cell g1 hx,aC.cell g2 hx⟩,aC.cell g3 hx,aC.cell g4 hx⟩⟩⟩
instance (n:Nat) (ka ki kj:Nat→Nat) (kk:Nat→Int):Nonempty (bF (fun v w=>nV w v n ka ki kj kk)):=⟨fun _ _ _ h hx=>h.ext hx⟩
def kX (w:World) (v:Value) (a b c:Nat) (d:Int):Prop:=∃g o,v= .pointer (some ⟨g,o,none⟩)∧(w.cell? ⟨g,o,none⟩=some (.int .u8 (a:Nat))∧w.cell? ⟨g,o + 1,none⟩=some (.int .u8 (b:Nat)))∧w.cell? ⟨g,o + 2,none⟩=some (.int .u8 (c:Nat))∧w.cell? ⟨g,o + 3,none⟩=some (.int .i8 d)
theorem kX.ext {w w':World} {v:Value} {a b c:Nat} {d:Int} (h:kX w v a b c d) (hx:aC w w'):kX w' v a b c d:=by
  obtain ⟨g,o,h1,⟨h2,h3⟩,h4,h5⟩:=h;exact ⟨g,o,h1,⟨aC.cell h2 hx,aC.cell h3 hx⟩,aC.cell h4 hx,aC.cell h5 hx⟩
theorem qL (a b c:Nat) (d:Int):bF (fun v w=>kX w v a b c d):=fun _ _ _ h hx=>h.ext hx
instance (a b c:Nat) (d:Int):Nonempty (bF (fun v w=>kX w v a b c d)):=⟨qL a b c d⟩
instance (k:IntKind) (x:Int):Nonempty (bF (fun v w=>gD k w v x)):=⟨fun _ _ _ h hx=>h.ext hx⟩
section
variable {P:Program} {e:cF} {w:World} {d:Option Tmp} {ty:TypeId} {pos:String} {after:Array Edge} {gd:Option (Nat×Bool)}
theorem en {t T n j m:Nat} {x ix:Operand} {v:Value} {ka ki kj:Nat→Nat} {kk:Nat→Int} {i:Int} {k2:IntKind} (ht:sliceB P t T 4 m=true) (hx:ev e x=v) (hN:nV w v n ka ki kj kk) (hi:ev e ix= .int k2 i) (hij:i=(j:Int)) (hj:j<n):
    cZ P ⟨d,.indexAddr t x ix,ty,pos,after,gd⟩ e w (fun v' w'=>w=w'∧kX w' v' (ka j) (ki j) (kj j) (kk j)):=by
  obtain ⟨A,c,rfl,h2,h3,h4⟩:=hN;obtain ⟨g,o,rfl,hc⟩:=h4 (by omega);exact cK (φ:=fun v' w'=>kX w' v' (ka j) (ki j) (kj j) (kk j)) (cD.index (j:=j) ht hx hi rfl hij hj) ⟨g,_,rfl,hc j hj⟩
theorem rr {t a b c:Nat} {d2:Int} {x:Operand} {v:Value} (hf:dT P t 0 0=true) (hx:ev e x=v) (h:kX w v a b c d2):cZ P ⟨d,.fieldAddr t x 0,ty,pos,after,gd⟩ e w (fun v' w'=>w=w'∧gD .u8 w' v' (a:Nat)):=by
  obtain ⟨g,o,rfl,⟨h1,h2⟩,h3,h4⟩:=h;exact cK (φ:=fun v' w'=>gD .u8 w' v' (a:Nat)) (cD.fieldAddr hf hx) ⟨g,_,rfl,h1⟩
theorem rq {t a b c:Nat} {d2:Int} {x:Operand} {v:Value} (hf:dT P t 1 1=true) (hx:ev e x=v) (h:kX w v a b c d2):cZ P ⟨d,.fieldAddr t x 1,ty,pos,after,gd⟩ e w (fun v' w'=>w=w'∧gD .u8 w' v' (b:Nat)):=by
  obtain ⟨g,o,rfl,⟨h1,h2⟩,h3,h4⟩:=h;exact cK (φ:=fun v' w'=>gD .u8 w' v' (b:Nat)) (cD.fieldAddr hf hx) ⟨g,_,rfl,h2⟩
theorem rp {t a b c:Nat} {d2:Int} {x:Operand} {v:Value} (hf:dT P t 2 2=true) (hx:ev e x=v) (h:kX w v a b c d2):cZ P ⟨d,.fieldAddr t x 2,ty,pos,after,gd⟩ e w (fun v' w'=>w=w'∧gD .u8 w' v' (c:Nat)):=by
  obtain ⟨g,o,rfl,⟨h1,h2⟩,h3,h4⟩:=h;exact cK (φ:=fun v' w'=>gD .u8 w' v' (c:Nat)) (cD.fieldAddr hf hx) ⟨g,_,rfl,h3⟩
theorem ro {t a b c:Nat} {d2:Int} {x:Operand} {v:Value} (hf:dT P t 3 3=true) (hx:ev e x=v) (h:kX w v a b c d2):cZ P ⟨d,.fieldAddr t x 3,ty,pos,after,gd⟩ e w (fun v' w'=>w=w'∧gD .i8 w' v' d2):=by
  obtain ⟨g,o,rfl,⟨h1,h2⟩,h3,h4⟩:=h;exact cK (φ:=fun v' w'=>gD .i8 w' v' d2) (cD.fieldAddr hf hx) ⟨g,_,rfl,h4⟩
theorem oR {t T n m:Nat} {x:Operand} {v:Value} {ka ki kj:Nat→Nat} {kk:Nat→Int} (ht:sliceB P t T 4 m=true) (hx:ev e x=v) (hN:nV w v n ka ki kj kk):
    cD P ⟨d,.call {callee:= .builtin .len,args:= #[x],argTypes:= #[t]},ty,pos,after,gd⟩ e w (.int .i64 (n:Nat)):=by
  obtain ⟨A,c,rfl,h2,h3,h4⟩:=hN;exact cD.len ht hx
end
structure MvI (r c e0:Nat) (M:Nat→Nat→Int) (n:Nat) (S:WS):Prop where
  lin:Lin r c M S
  bm:∀i j,i<r→j<c→(S.M i j).natAbs≤2^(e0 + 2*n)
  bu:∀i j,i<r→j<r→(S.U i j).natAbs≤2^(2*n)
  bv:∀i j,i<r→j<r→(S.V i j).natAbs≤2^(2*n)
section
variable {r c e0 n:Nat} {M:Nat→Nat→Int} {S:WS}
theorem tr (i j:Nat):(du i j).natAbs≤1:=by unfold du;split<;>decide
theorem MvI.start (h:∀i j,i<r→j<c→(M i j).natAbs≤2^e0):MvI r c e0 M 0 ⟨M,du,du⟩:=
  ⟨Lin.start M,h,fun i j _ _=>tr i j,fun i j _ _=>tr i j⟩
theorem MvI.next (h:MvI r c e0 M n S):MvI r c e0 M (n + 1) S:=
  ⟨h.lin,fun i j hi hj=>Nat.le_trans (h.bm i j hi hj) (Nat.pow_le_pow_right (by decide) (by omega)),fun i j hi hj=>Nat.le_trans (h.bu i j hi hj) (Nat.pow_le_pow_right (by decide) (by omega)),fun i j hi hj=>Nat.le_trans (h.bv i j hi hj) (Nat.pow_le_pow_right (by decide) (by omega))⟩
theorem ui {m:Nat} (h:MvI r c e0 M n S) (hm:n≤m):MvI r c e0 M m S:=
  ⟨h.lin,fun i j hi hj=>Nat.le_trans (h.bm i j hi hj) (Nat.pow_le_pow_right (by decide) (by omega)),fun i j hi hj=>Nat.le_trans (h.bu i j hi hj) (Nat.pow_le_pow_right (by decide) (by omega)),fun i j hi hj=>Nat.le_trans (h.bv i j hi hj) (Nat.pow_le_pow_right (by decide) (by omega))⟩
theorem MvI.swap (h:MvI r c e0 M n S) {i j:Nat} (hi:i<r) (hj:j<r):MvI r c e0 M (n + 1) (bK S i j):=by
  obtain ⟨h1,h2,h3⟩:=jI (c:=c) hi hj h.bm h.bu h.bv;exact MvI.next ⟨h.lin.swap hi hj,h1,h2,h3⟩
theorem MvI.neg (h:MvI r c e0 M n S) {i:Nat} (hi:i<r):MvI r c e0 M (n + 1) (fc S i):=by
  refine MvI.next ⟨h.lin.neg hi,fun a b ha hb=> ?_,fun a b ha hb=> ?_,fun a b ha hb=> ?_⟩
  · simp only [fc,de];split
    · rw [Int.natAbs_neg];exact h.bm i b hi hb
    · exact h.bm a b ha hb
  · simp only [fc,de];split
    · rw [Int.natAbs_neg];exact h.bu i b hi hb
    · exact h.bu a b ha hb
  · simp only [fc,ek];split
    · rw [Int.natAbs_neg];exact h.bv a i ha hi
    · exact h.bv a b ha hb
theorem MvI.add (h:MvI r c e0 M n S) {i j:Nat} {k:Int} (hi:i<r) (hj:j<r) (hij:i≠j) (hk:k.natAbs≤3):MvI r c e0 M (n + 1) (cX S i j k):=by
  obtain ⟨h1,h2,h3⟩:=oV (c:=c) hi hj hk h.bm h.bu h.bv;refine ⟨h.lin.add k hi hj hij,fun a b ha hb=> ?_,fun a b ha hb=> ?_,fun a b ha hb=> ?_⟩
  · rw [show e0 + 2*(n + 1)=e0 + 2*n + 2 by omega,Nat.pow_add];exact h1 a b ha hb
  · rw [show 2*(n + 1)=2*n + 2 by omega,Nat.pow_add];exact h2 a b ha hb
  · rw [show 2*(n + 1)=2*n + 2 by omega,Nat.pow_add];exact h3 a b ha hb
theorem MvI.fits {b:Nat} (h:MvI r c e0 M n S) (hn:n≤12) (hb:e0 + 24<b):kN r c b S:=
  ⟨fun i j hi hj=>Nat.lt_of_le_of_lt (h.bm i j hi hj) (Nat.pow_lt_pow_right (by decide) (by omega)),fun i j hi hj=>Nat.lt_of_le_of_lt (h.bu i j hi hj) (Nat.pow_lt_pow_right (by decide) (by omega)),fun i j hi hj=>Nat.lt_of_le_of_lt (h.bv i j hi hj) (Nat.pow_lt_pow_right (by decide) (by omega))⟩
end
theorem ib (x:Int):(x.tmod 4).natAbs<4:=by rw [Int.natAbs_tmod];exact Nat.mod_lt _ (by decide)
theorem oY (x:Int): -9223372036854775808≤x.tmod 4∧x.tmod 4<9223372036854775808:=by have:=ib x;omega
end Go.TL
namespace Go.TL
open Go.RowKit Go.Proofs
set_option linter.unusedVariables false
set_option linter.unusedSimpArgs false
set_option maxRecDepth 10000 in
set_option maxHeartbeats 1600000 in
theorem uP (w:World) (x:Value) (r c:Nat) (M:Nat→Nat→Int) (b0 e0 b:Nat) (l:Value) (m:Nat) (ka ki kj:Nat→Nat) (kk:Nat→Int) (hx:bU w x r c M b0) (hM:∀i j,i<r→j<c→(M i j).natAbs≤2^e0) (hb0:b0 + 1≤b) (he:e0 + 26<b) (hb:2*b + 300≤bo) (hl:nV w l m ka ki kj kk) (hkb:∀i,i<m→ki i<256∧kj i<256∧ka i<256):Calls Tryz.prog 18 #[x,l] w (cg w fun v w'=>∃S,MvI r c e0 M 12 S∧bU w' v r c S.M b):=by
 have hLIM:bo=562949953421312:=rfl;obtain ⟨sx,rfl,hr,hc,hSx⟩:=hx.form;have hwr:w.heap.size≤w.heap.size:=Nat.le_refl _;have hlm:m<9223372036854775808:=by obtain ⟨_,_,_,h2,h3,_⟩:=hl;omega
 refine ah (N:=80) (rs:= #[.cell 4 28]) Tryz.func18 rfl rfl rfl (Nat.le_of_ble_eq_true rfl) ?_;have hX:aC w w:=aC.refl w;refine ab ?_;refine RL.x rfl rfl (cZ.box [.int .i64 ((r:Nat)),.int .i64 ((c:Nat)),sx] rfl rfl) ?_;rintro _ w1 ⟨g1,rfl,hge1,hx1,hA1⟩;replace hX:=aC.trans hX hx1;refine RL.x rfl rfl (cZ.alloc [.int .i64 (0),.int .i64 (0),.slice (none) (0) (0)] cd rfl) ?_;rintro _ w2 ⟨g2,rfl,hge2,hx2,hA2⟩;have hbs2:w.heap.size≤g2:=Nat.le_trans hX.size hge2;replace hA1:=bj.ext hA1 hx2;replace hX:=aC.trans hX hx2;refine RL.nil ?_;refine ab ?_;refine RL.p rfl rfl (ag [.int .i64 ((r:Nat)),.int .i64 ((c:Nat)),sx] aL rfl (hA1.cells 0 _ rfl rfl)) ?_;refine RL.x rfl rfl (cZ.call yG (aJ rfl) (uM _ _ _ _ _ _ b (bU.mk (ck.ext hSx hX) (by omega) (by omega)) (by omega) (by omega))) ?_;rintro _ w3 ⟨hx3,gw,rfl,hW⟩;obtain ⟨B,hBe⟩:∃B:Nat,B=w2.heap.size:=⟨_,rfl⟩
 rw [←hBe] at hW;have hBle:w.heap.size≤B:=by rw [hBe];exact hX.size
 replace hA1:=bj.ext hA1 hx3;replace hA2:=bj.ext hA2 hx3;replace hX:=aC.trans hX hx3;refine RL.p rfl rfl (cD.assign rfl) ?_;refine RL.nil ?_;refine WP.seq ?_;refine ab ?_;refine RL.p rfl rfl (cD.assign rfl) ?_;refine RL.nil ?_;refine WP.block ?_;refine WP.loop (fun mz ez uz=>∃q:Nat,∃S:WS,(mz=m - q)∧(ez 1=l)∧(ez 2= .pointer (some ⟨g1,0,none⟩))∧(ez 4= .pointer (some ⟨g2,0,none⟩))∧(ez 5= .pointer (some ⟨gw,0,none⟩))∧(ez 6= .int .i64 ((q:Nat)))∧(q≤m∧q≤12)∧(MvI r c e0 M q S)∧(aC w uz)∧(bj uz g1 28 3 (bX [.int .i64 ((r:Nat)),.int .i64 ((c:Nat)),sx]))∧(bj uz g2 28 3 (bX [.int .i64 (0),.int .i64 (0),.slice (none) (0) (0)]))∧(ci 83 uz B gw r c (S).M (S).U (S).V b)) (m - 0) ?_ ?_
 · exact ⟨0,⟨M,du,du⟩,rfl,rfl,rfl,rfl,rfl,rfl,(⟨by omega,by omega⟩),(MvI.start hM),hX,hA1,hA2,hW⟩
 rintro m1 e1 w4 ⟨q,S,hm1,s1_e1,s2_e1,s4_e1,s5_e1,s6_e1,hq,hG,hX1,hA1,hA2,hW⟩;have hG1:=hG;refine WP.seq ?_;refine aE ak 13 [_,_,_,_,fun v Aa=>v= .bool (decide (((q:Nat):Int)<((m:Nat):Int))),_,_,_,fun v Aa=>v= .bool (decide ((((q:Nat):Int)<((m:Nat):Int))∧(((q:Nat):Int)<(12:Int)))),_,_,_,_] rfl rfl (fun e_ w_ zZ zY=>⟨fun _=>aa (cD.move ((zY 6 rfl s6_e1))),fun _=>aa (cD.move ((zY 1 rfl s1_e1))),fun zX=>aa (oR mR (zX 1 rfl) (nV.ext (nV.ext hl hX1) zZ)),fun zX=>aa (cD.lss ((zX 0 rfl)) ((zX 2 rfl))),fun zX=>aa (cD.move ((zX 3 rfl))),fun zX=>gT (zX 4 rfl) fun hg=>aa (cD.move ((zY 6 rfl s6_e1))),fun zX=>gT (zX 4 rfl) fun hg=>aa (cD.lss ((zX 5 rfl hg)) rfl),fun zX=>aa (aw (p:=((q:Nat):Int)<((m:Nat):Int)) (q:=((q:Nat):Int)<(12:Int)) (zX 4 rfl) (fun hq=>(zX 6 rfl hq))),fun zX=>aa (cD.move ((zX 7 rfl))),fun zX=>gT (zX 8 rfl) fun hg=>aa (cD.fieldAddr aS ((zY 2 rfl s2_e1))),fun zX=>gT (zX 8 rfl) fun hg=>aa (cD.load bt ((zX 9 rfl hg)) ((bj.ext hA1 zZ).at_ (i:=0) rfl rfl)),fun zX=>gT (zX 8 rfl) fun hg=>aa (cD.gtr ((zX 10 rfl hg)) rfl),fun zX=>aa (aw (p:=(((q:Nat):Int)<((m:Nat):Int))∧(((q:Nat):Int)<(12:Int))) (q:=(0:Int)<((r:Nat):Int)) (zX 8 rfl) (fun hq=>(zX 11 rfl hq))),trivial⟩) ?_;intro e2 w5 hx4 ho1 hf1;replace hA1:=bj.ext hA1 hx4;replace hA2:=bj.ext hA2 hx4;replace hW:=ci.ext hW hx4;replace hX1:=aC.trans hX1 hx4;have s1_e2:=ho1 1 rfl s1_e1;have s2_e2:=ho1 2 rfl s2_e1;have s4_e2:=ho1 4 rfl s4_e1;have s5_e2:=ho1 5 rfl s5_e1;have s6_e2:=ho1 6 rfl s6_e1;have s23_e2:e2 23=_:=hf1 12 rfl;refine RL.nil ?_;refine ae (((((q:Nat):Int)<((m:Nat):Int))∧(((q:Nat):Int)<(12:Int)))∧((0:Int)<((r:Nat):Int))) s23_e2 (fun c23=> ?_) (fun c23=> ?_)
 ·
  refine WP.skip ?_;refine oL.norm ?_;refine WP.seq ?_;refine WP.block ?_;have hkq:=hkb q (by omega);obtain ⟨ia,hiaE⟩:∃ia,ia=ki q % r:=⟨_,rfl⟩
  obtain ⟨ja,hjaE⟩:∃ja,ja=kj q % r:=⟨_,rfl⟩
  have hr0:0<r:=by omega
  have hia:ia<r:=by rw [hiaE];exact Nat.mod_lt _ hr0
  have hja:ja<r:=by rw [hjaE];exact Nat.mod_lt _ hr0
  refine aE ak 9 [_,_,_,_,_,_,_,_,_] rfl rfl (fun e_ w_ zZ zY=>⟨fun _=>aa (cD.move ((zY 1 rfl s1_e2))),fun _=>aa (cD.move ((zY 6 rfl s6_e2))),fun zX=>af (en (j:=q) mR (zX 0 rfl) (nV.ext (nV.ext hl hX1) zZ) (zX 1 rfl) (by omega) (by omega)),fun zX=>af (rq uC rfl (zX 2 rfl)),fun zX=>aa (dF rF rfl (zX 3 rfl)),fun zX=>aa (ax (c:=((ki q:Nat):Int)) qr qs ((zX 4 rfl)) (bS (by omega))),fun _=>aa (cD.fieldAddr aS ((zY 2 rfl s2_e2))),fun zX=>aa (cD.load bt ((zX 6 rfl)) ((bj.ext hA1 zZ).at_ (i:=0) rfl rfl)),fun zX=>aa (cD.rem (c:=((ia:Nat):Int)) ((zX 5 rfl)) ((zX 7 rfl)) (by omega) (by rw [hiaE];exact tmN _ _)),trivial⟩) ?_;intro e3 w6 hx5 ho2 hf2;replace hA1:=bj.ext hA1 hx5;replace hA2:=bj.ext hA2 hx5;replace hW:=ci.ext hW hx5;replace hX1:=aC.trans hX1 hx5;have s1_e3:=ho2 1 rfl s1_e2;have s2_e3:=ho2 2 rfl s2_e2;have s4_e3:=ho2 4 rfl s4_e2;have s5_e3:=ho2 5 rfl s5_e2;have s6_e3:=ho2 6 rfl s6_e2;have s34_e3:e3 34=_:=hf2 8 rfl;refine RL.p rfl rfl (cD.assign s34_e3) ?_;refine RL.nil ?_;refine aE ak 9 [_,_,_,_,_,_,_,_,_] rfl rfl (fun e_ w_ zZ zY=>⟨fun _=>aa (cD.move ((zY 1 rfl s1_e3))),fun _=>aa (cD.move ((zY 6 rfl s6_e3))),fun zX=>af (en (j:=q) mR (zX 0 rfl) (nV.ext (nV.ext hl hX1) zZ) (zX 1 rfl) (by omega) (by omega)),fun zX=>af (rp uB rfl (zX 2 rfl)),fun zX=>aa (dF rF rfl (zX 3 rfl)),fun zX=>aa (ax (c:=((kj q:Nat):Int)) qr qs ((zX 4 rfl)) (bS (by omega))),fun _=>aa (cD.fieldAddr aS ((zY 2 rfl s2_e3))),fun zX=>aa (cD.load bt ((zX 6 rfl)) ((bj.ext hA1 zZ).at_ (i:=0) rfl rfl)),fun zX=>aa (cD.rem (c:=((ja:Nat):Int)) ((zX 5 rfl)) ((zX 7 rfl)) (by omega) (by rw [hjaE];exact tmN _ _)),trivial⟩) ?_;intro e4 w7 hx6 ho3 hf3;replace hA1:=bj.ext hA1 hx6;replace hA2:=bj.ext hA2 hx6;replace hW:=ci.ext hW hx6;replace hX1:=aC.trans hX1 hx6;have s1_e4:=ho3 1 rfl s1_e3;have s2_e4:=ho3 2 rfl s2_e3;have s4_e4:=ho3 4 rfl s4_e3;have s5_e4:=ho3 5 rfl s5_e3;have s6_e4:=ho3 6 rfl s6_e3;have s7_e4:e4 7=_:=ho3 7 rfl rfl;have s43_e4:e4 43=_:=hf3 8 rfl;refine RL.p rfl rfl (cD.assign s43_e4) ?_;refine RL.nil ?_;refine ab ?_;refine RL.p rfl rfl (cD.move s1_e4) ?_;refine RL.p rfl rfl (cD.move s6_e4) ?_;refine RL.x rfl rfl (en (j:=q) mR rfl (nV.ext hl hX1) rfl (by omega) (by omega)) ?_;rintro v1 _ ⟨rfl,q1⟩;refine RL.x rfl rfl (rr uD rfl q1) ?_;rintro v2 _ ⟨rfl,q2⟩;refine RL.p rfl rfl (dF rF rfl q2) ?_;refine RL.p rfl rfl (cD.rem (c:=((ka q % 3:Nat):Int)) rfl rfl (by omega) rfl) ?_;refine RL.nil ?_;refine WP.block ?_;refine ab ?_;refine RL.p rfl rfl (cD.eql rfl rfl) ?_;refine RL.p rfl rfl (cD.assign rfl) ?_;refine RL.nil ?_;refine ae ((((ka q % 3:Nat):Int):Int)=(0:Int)) rfl (fun c65=> ?_) (fun c65=> ?_)
  ·
   refine WP.region ?_;refine RL.p rfl rfl (cD.move s5_e4) ?_;refine RL.p rfl rfl (cD.move s7_e4) ?_;refine RL.p rfl rfl (cD.move rfl) ?_;refine RL.x rfl rfl (cU yE (cN rfl rfl rfl) (xp _ _ _ _ _ _ _ _ _ ia ja hW (by omega) (by omega))) ?_;rintro _ w9 ⟨hk1,hN1⟩;replace hA1:=dY hA1 hk1 (by decide);replace hA2:=dY hA2 hk1 (by decide);replace hX1:=eM hX1 hk1 hBle;replace hW:ci 83 w9 B gw r c (bK S ia ja).M (bK S ia ja).U (bK S ia ja).V b:=hN1;refine RL.nil ?_;refine iF.norm ?_;refine iF.norm ?_;refine oL.norm ?_;refine WP.region ?_;refine RL.p rfl rfl (cD.move s6_e4) ?_;refine RL.p rfl rfl (cD.add (c:=((q + 1:Nat):Int)) rfl rfl (bS (by omega))) ?_;refine RL.p rfl rfl (cD.assign rfl) ?_;refine RL.nil ?_;refine oL.norm ⟨_,(by omega),q + 1,_,rfl,s1_e4,s2_e4,s4_e4,s5_e4,rfl,(⟨by omega,by omega⟩),(hG.swap hia hja),hX1,hA1,hA2,hW⟩
  ·
   refine ab ?_;refine RL.p rfl rfl (cD.eql rfl rfl) ?_;refine RL.p rfl rfl (cD.assign rfl) ?_;refine RL.nil ?_;refine ae ((((ka q % 3:Nat):Int):Int)=(1:Int)) rfl (fun c71=> ?_) (fun c71=> ?_)
   ·
    refine WP.region ?_;refine RL.p rfl rfl (cD.move s5_e4) ?_;refine RL.p rfl rfl (cD.move s7_e4) ?_;refine RL.x rfl rfl (cU yD (aB rfl rfl) (sD _ _ _ _ _ _ _ _ _ ia hW (by omega))) ?_;rintro _ w11 ⟨hk2,hN2⟩;replace hA1:=dY hA1 hk2 (by decide);replace hA2:=dY hA2 hk2 (by decide);replace hX1:=eM hX1 hk2 hBle;replace hW:ci 83 w11 B gw r c (fc S ia).M (fc S ia).U (fc S ia).V b:=hN2;refine RL.nil ?_;refine iF.norm ?_;refine iF.norm ?_;refine oL.norm ?_;refine WP.region ?_;refine RL.p rfl rfl (cD.move s6_e4) ?_;refine RL.p rfl rfl (cD.add (c:=((q + 1:Nat):Int)) rfl rfl (bS (by omega))) ?_;refine RL.p rfl rfl (cD.assign rfl) ?_;refine RL.nil ?_;refine oL.norm ⟨_,(by omega),q + 1,_,rfl,s1_e4,s2_e4,s4_e4,s5_e4,rfl,(⟨by omega,by omega⟩),(hG.neg hia),hX1,hA1,hA2,hW⟩
   ·
    refine ab ?_;refine RL.p rfl rfl (cD.move s7_e4) ?_;refine RL.p rfl rfl (cD.move rfl) ?_;refine RL.p rfl rfl (cD.neq rfl rfl) ?_;refine RL.nil ?_;refine ae ((((ia:Nat):Int):Int)≠(((ja:Nat):Int):Int)) rfl (fun c52=> ?_) (fun c52=> ?_)
    ·
     have hij:ia≠ja:=by omega
     have hfitn:kN r c b (cX S ia ja ((kk q).tmod 4)):=(hG.add hia hja hij (by have:=ib (kk q);omega)).fits (by omega) (by omega);refine WP.region ?_;refine RL.p rfl rfl (cD.move s5_e4) ?_;refine RL.p rfl rfl (cD.move s7_e4) ?_;refine RL.p rfl rfl (cD.move rfl) ?_;refine RL.p rfl rfl (cD.move s1_e4) ?_;refine RL.p rfl rfl (cD.move s6_e4) ?_;refine RL.x rfl rfl (en (j:=q) mR rfl (nV.ext hl hX1) rfl (by omega) (by omega)) ?_;rintro v3 _ ⟨rfl,q3⟩;refine RL.x rfl rfl (ro uA rfl q3) ?_;rintro v4 _ ⟨rfl,q4⟩;refine RL.p rfl rfl (dF wi rfl q4) ?_;refine RL.p rfl rfl (cD.rem (c:=(kk q).tmod 4) rfl rfl (by omega) rfl) ?_;refine RL.p rfl rfl (ax (c:=(kk q).tmod 4) wk nY rfl (bS ⟨(oY _).1,Int.le_of_lt_add_one (oY _).2,rfl⟩)) ?_;refine RL.x rfl rfl (cZ.call mX (aJ rfl) (sC ((kk q).tmod 4) (2) _ (by have:=ib (kk q);omega) (by have:=ib (kk q);omega) (by decide))) ?_;rintro v5 w12 ⟨hx9,q5⟩;replace hA1:=bj.ext hA1 hx9;replace hA2:=bj.ext hA2 hx9;replace hW:=ci.ext hW hx9;replace hX1:=aC.trans hX1 hx9;refine RL.x rfl rfl (cU yF (tV rfl rfl rfl rfl) (uS _ _ _ _ _ _ _ _ _ ia ja _ _ _ hW (by omega) (by omega) q5 (by omega) (by omega) (tE hfitn (by omega)) (tD hfitn (by omega)) (tC hfitn (by omega)))) ?_;rintro _ w14 ⟨hk3,hN3⟩;replace hA1:=dY hA1 hk3 (by decide);replace hA2:=dY hA2 hk3 (by decide);replace hX1:=eM hX1 hk3 hBle;replace hW:ci 83 w14 B gw r c (cX S ia ja ((kk q).tmod 4)).M (cX S ia ja ((kk q).tmod 4)).U (cX S ia ja ((kk q).tmod 4)).V b:=hN3;refine RL.nil ?_;refine iF.norm ?_;refine iF.norm ?_;refine oL.norm ?_;refine WP.region ?_;refine RL.p rfl rfl (cD.move s6_e4) ?_;refine RL.p rfl rfl (cD.add (c:=((q + 1:Nat):Int)) rfl rfl (bS (by omega))) ?_;refine RL.p rfl rfl (cD.assign rfl) ?_;refine RL.nil ?_;refine oL.norm ⟨_,(by omega),q + 1,_,rfl,s1_e4,s2_e4,s4_e4,s5_e4,rfl,(⟨by omega,by omega⟩),(hG.add hia hja hij (by have:=ib (kk q);omega)),hX1,hA1,hA2,hW⟩
    ·
     refine WP.skip ?_;refine iF.norm ?_;refine iF.norm ?_;refine oL.norm ?_;refine WP.region ?_;refine RL.p rfl rfl (cD.move s6_e4) ?_;refine RL.p rfl rfl (cD.add (c:=((q + 1:Nat):Int)) rfl rfl (bS (by omega))) ?_;refine RL.p rfl rfl (cD.assign rfl) ?_;refine RL.nil ?_;refine oL.norm ⟨_,(by omega),q + 1,_,rfl,s1_e4,s2_e4,s4_e4,s5_e4,rfl,(⟨by omega,by omega⟩),hG.next,hX1,hA1,hA2,hW⟩
 ·
  refine WP.exit ?_;refine oL.exit ?_;refine oL.exit ?_;refine iF.same ?_;refine oL.norm ?_;have hWc:=hW;obtain ⟨hm_1,hu_1,hv_1,km_1,ku_1,kv_1,ρm_1,ρu_1,ρv_1,_,hG_1,hMm_1,hMu_1,hMv_1,_⟩:=hWc;have hdm_1:=cw.dlim hMm_1;have hcm_1:=cw.clim hMm_1;have hdu_1:=cw.dlim hMu_1;have hdv_1:=cw.dlim hMv_1
  skip
  refine ab ?_;refine RL.p rfl rfl (cD.move s5_e2) ?_;refine RL.p rfl rfl (cD.nilCheck rfl) ?_;refine RL.p rfl rfl (cD.fieldAddr dC rfl) ?_;refine RL.p rfl rfl (ag [.int .i64 ((r:Nat)),.int .i64 ((c:Nat)),.slice (some ⟨hm_1,0,none⟩) (r) (km_1)] aL rfl (hG_1.cells 0 _ rfl rfl)) ?_;refine RL.x rfl rfl (cZ.store [.int .i64 ((r:Nat)),.int .i64 ((c:Nat)),.slice (some ⟨hm_1,0,none⟩) (r) (km_1)] cG s4_e2 rfl rfl hA2 (Nat.le_of_ble_eq_true rfl) (cJ rfl rfl rfl)) ?_;rintro _ w15 ⟨hk4,hnew⟩;replace hMm_1:=be hMm_1 hk4 hA2 (by decide);replace hX1:=hX1.step hk4 (fun b e=>by subst e;exact hbs2);replace hA2:=hnew.lit [.int .i64 ((r:Nat)),.int .i64 ((c:Nat)),.slice (some ⟨hm_1,0,none⟩) (r) (km_1)] rfl;clear hnew;refine RL.nil ?_;refine WP.ret ?_;refine ⟨.agg #[.int .i64 ((r:Nat)),.int .i64 ((c:Nat)),.slice (some ⟨hm_1,0,none⟩) (r) (km_1)],zw.one (aj [.int .i64 ((r:Nat)),.int .i64 ((c:Nat)),.slice (some ⟨hm_1,0,none⟩) (r) (km_1)] aL s4_e2 (hA2.cells 0 _ rfl rfl)),_,rfl,hX1,?_⟩;dsimp only;exact ⟨S,ui hG (by omega),(cw.matV hMm_1 (by omega) (by omega))⟩
end Go.TL
namespace Go.TL
open Go.RowKit Go.Proofs
set_option linter.unusedVariables false
def bR (e0 r:Nat):Nat:=eR e0 r r + gR e0 r r + 2
structure HermR (r c e0:Nat) (M0:Nat→Nat→Int) (k:Nat) (S:WS):Prop where
  lin:Lin r c M0 S
  kr:k≤r
  kc:k≤c
  ech:lI r k c S.M
  bm:∀i j,i<r→j<c→(S.M i j).natAbs≤2^eR e0 r k
  bu:∀i j,i<r→j<r→(S.U i j).natAbs≤2^eR e0 r k
  bv:∀i j,i<r→j<r→(S.V i j).natAbs≤2^gR e0 r k
end Go.TL
namespace Go.TL
set_option linter.unusedVariables false
theorem lI.some {r k c:Nat} {M:Nat→Nat→Int} (h:lI r k c M) {i:Nat} (hi:i<k):0≤piv (M i) c:=by
  obtain ⟨P,h1,_⟩:=h;obtain ⟨g1,g2,_⟩:=h1 i hi
  by_cases hn:0≤piv (M i) c
  · exact hn
  · have h3:cT gY (M i) c= -1:=by have:=(ej (p:=gY) (z:=M i) c).2;unfold piv at hn;omega
    have:=er h3 (P i) g1
    unfold gY at this
    omega
theorem lI.none {r k c:Nat} {M:Nat→Nat→Int} (h:lI r k c M) {i:Nat} (hi:k≤i) (hr:i<r):¬0≤piv (M i) c:=by
  obtain ⟨P,_,h2⟩:=h
  unfold piv
  rw [ir fun j hj=>by unfold gY;exact fun hne=>hne (h2 i hi hr j hj)];omega
def lH (r c e0:Nat) (M0:Nat→Nat→Int) (k:Nat) (M:Nat→Nat→Int):Prop:=
  ∃k1 S1 S2,HermR r c e0 M0 k1 S1∧HermR (r - k1) r (eR e0 r k1) (fun i=>S1.U (k1 + i)) k S2∧M=S2.M
theorem lH.bd {r c e0 e1 k:Nat} {M0 M:Nat→Nat→Int} (h:lH r c e0 M0 k M) (he:∀k,k≤r→eR (eR e0 r k) (r - k) (r - k)≤e1) {i j:Nat} (hi:i<k) (hj:j<r):(M i j).natAbs≤2^e1:=by
  obtain ⟨k1,S1,S2,h1,h2,rfl⟩:=h;have g1:=h2.kr;exact Nat.le_trans (h2.bm i j (by omega) hj) (Nat.pow_le_pow_right (by omega) (Nat.le_trans (pS _ _ g1) (he k1 h1.kr)))
theorem lH.kr {r c e0 k:Nat} {M0 M:Nat→Nat→Int} (h:lH r c e0 M0 k M):k≤r:=by
  obtain ⟨k1,S1,S2,h1,h2,rfl⟩:=h;have g1:=h2.kr;omega
end Go.TL
namespace Go.TL
open Go.RowKit Go.Proofs
set_option linter.unusedVariables false
def zQ (r c e0 e1:Nat) (M0:Nat→Nat→Int) (k:Nat) (M:Nat→Nat→Int):Prop:=∃k1 K1,lH c r e0 (wK M0) k1 K1∧lH c k1 e1 (wK K1) k M
def mI (w:World) (v:Value) (r c e0:Nat) (M0:Nat→Nat→Int) (b:Nat):Prop:=∃k S,HermR r c e0 M0 k S∧kM w v r c S b
theorem mI.ext {w w':World} {v:Value} {r c e0 b:Nat} {M0:Nat→Nat→Int} (h:mI w v r c e0 M0 b) (hx:aC w w'):mI w' v r c e0 M0 b:=by obtain ⟨k,S,h1,h2⟩:=h;exact ⟨k,S,h1,h2.ext hx⟩
theorem ns (r c e0:Nat) (M0:Nat→Nat→Int) (b:Nat):bF (fun v w=>mI w v r c e0 M0 b):=fun _ _ _ h hx=>h.ext hx
instance (r c e0:Nat) (M0:Nat→Nat→Int) (b:Nat):Nonempty (bF (fun v w=>mI w v r c e0 M0 b)):=⟨ns r c e0 M0 b⟩
def qj (w:World) (v:Value) (r c e0:Nat) (M0:Nat→Nat→Int) (b:Nat):Prop:=∃k S,HermR r c e0 M0 k S∧bU w v r c S.M b
theorem qj.ext {w w':World} {v:Value} {r c e0 b:Nat} {M0:Nat→Nat→Int} (h:qj w v r c e0 M0 b) (hx:aC w w'):qj w' v r c e0 M0 b:=by obtain ⟨k,S,h1,h2⟩:=h;exact ⟨k,S,h1,h2.ext hx⟩
theorem oy (r c e0:Nat) (M0:Nat→Nat→Int) (b:Nat):bF (fun v w=>qj w v r c e0 M0 b):=fun _ _ _ h hx=>h.ext hx
instance (r c e0:Nat) (M0:Nat→Nat→Int) (b:Nat):Nonempty (bF (fun v w=>qj w v r c e0 M0 b)):=⟨oy r c e0 M0 b⟩
def qk (w:World) (v:Value) (r c e0:Nat) (M0:Nat→Nat→Int) (b:Nat):Prop:=∃k S,HermR r c e0 M0 k S∧bU w v k c S.M b
theorem qk.ext {w w':World} {v:Value} {r c e0 b:Nat} {M0:Nat→Nat→Int} (h:qk w v r c e0 M0 b) (hx:aC w w'):qk w' v r c e0 M0 b:=by obtain ⟨k,S,h1,h2⟩:=h;exact ⟨k,S,h1,h2.ext hx⟩
theorem oA (r c e0:Nat) (M0:Nat→Nat→Int) (b:Nat):bF (fun v w=>qk w v r c e0 M0 b):=fun _ _ _ h hx=>h.ext hx
instance (r c e0:Nat) (M0:Nat→Nat→Int) (b:Nat):Nonempty (bF (fun v w=>qk w v r c e0 M0 b)):=⟨oA r c e0 M0 b⟩
def qg (w:World) (v:Value) (r c e0:Nat) (M0:Nat→Nat→Int) (b:Nat):Prop:=∃k M,lH r c e0 M0 k M∧bU w v k r M b
theorem qg.ext {w w':World} {v:Value} {r c e0 b:Nat} {M0:Nat→Nat→Int} (h:qg w v r c e0 M0 b) (hx:aC w w'):qg w' v r c e0 M0 b:=by obtain ⟨k,S,h1,h2⟩:=h;exact ⟨k,S,h1,h2.ext hx⟩
theorem ow (r c e0:Nat) (M0:Nat→Nat→Int) (b:Nat):bF (fun v w=>qg w v r c e0 M0 b):=fun _ _ _ h hx=>h.ext hx
instance (r c e0:Nat) (M0:Nat→Nat→Int) (b:Nat):Nonempty (bF (fun v w=>qg w v r c e0 M0 b)):=⟨ow r c e0 M0 b⟩
end Go.TL
namespace Go.TL
set_option linter.unusedVariables false
theorem ig {f:Nat→Int} {k:Nat}:∀{n:Nat},k≤n→(∀i,k≤i→i<n→f i=0)→aM n f=aM k f
  | 0,h,_=>by rw [show k=0 by omega]
  | n + 1,h,hz=>by
    by_cases e:k=n + 1
    · rw [e]
    · simp only [aM];rw [ig (n:=n) (by omega) fun i h1 h2=>hz i h1 (by omega),hz n (by omega) (by omega)];omega
theorem jR (f:Nat→Int) (k:Nat):∀n,aM (k + n) f=aM k f + aM n (fun i=>f (k + i))
  | 0=>by simp [aM]
  | n + 1=>by rw [show k + (n + 1)=k + n + 1 by omega];simp only [aM];rw [jR f k n];omega
def gC (n c:Nat) (M:Nat→Nat→Int) (v:Nat→Int):Prop:=∃a:Nat→Int,∀j,j<c→v j=aM n (fun i=>a i*M i j)
theorem gC.congr {n c:Nat} {M M':Nat→Nat→Int} {v:Nat→Int} (h:gC n c M v) (he:∀i j,i<n→j<c→M i j=M' i j):gC n c M' v:=by
  obtain ⟨a,h⟩:=h;exact ⟨a,fun j hj=>by rw [h j hj];exact aO fun i hi=>by rw [he i j hi hj]⟩
theorem gC.row {n c:Nat} {M:Nat→Nat→Int} {i:Nat} (hi:i<n):gC n c M (M i):=
  ⟨fun x=>if x=i then 1 else 0,fun j hj=>by
    have:=eE (f:=fun x=>M x j) hi;rw [←this];exact aO fun x _=>by by_cases e:x=i<;>simp [e]⟩
theorem gC.sub {n c:Nat} {M:Nat→Nat→Int} {u v:Nat→Int} (h:gC n c M u) (g:gC n c M v):gC n c M (fun j=>u j - v j):=by
  obtain ⟨a,h⟩:=h;obtain ⟨b,g⟩:=g;refine ⟨fun i=>a i - b i,fun j hj=> ?_⟩;show u j - v j=_;rw [h j hj,g j hj,←jQ];exact aO fun i _=>(Int.sub_mul _ _ _).symm
theorem gC.cut {k n c:Nat} {M:Nat→Nat→Int} (hk:k≤n) (hz:∀i,k≤i→i<n→∀j,j<c→M i j=0) {v:Nat→Int}:gC n c M v↔gC k c M v:=by
  constructor
  · rintro ⟨a,h⟩
    exact ⟨a,fun j hj=>by rw [h j hj];exact ig hk fun i h1 h2=>by rw [hz i h1 h2 j hj,Int.mul_zero]⟩
  · rintro ⟨a,h⟩
    refine ⟨fun i=>if i<k then a i else 0,fun j hj=> ?_⟩;rw [h j hj,ig (n:=n) hk fun i h1 h2=>by rw [hz i h1 h2 j hj,Int.mul_zero]];exact aO fun i hi=>by simp only [if_pos hi]
theorem eD (r n:Nat) (a:Nat→Int) (A B:Nat→Nat→Int) (j:Nat):aM r (fun i=>a i*bC n A B i j)=aM n (fun x=>aM r (fun i=>a i*A i x)*B x j):=
  (ko r n (fun _=>a) A B 0 j).symm
section
variable {r c:Nat} {M0:Nat→Nat→Int} {S:WS}
theorem Lin.lat (h:Lin r c M0 S) {v:Nat→Int}:gC r c M0 v↔gC r c S.M v:=by
  constructor
  · rintro ⟨a,g⟩
    refine ⟨fun x=>aM r (fun i=>a i*S.V i x),fun j hj=> ?_⟩;rw [g j hj,←eD];exact aO fun i hi=>by rw [h.back hi hj]
  · rintro ⟨a,g⟩
    refine ⟨fun x=>aM r (fun i=>a i*S.U i x),fun j hj=> ?_⟩;rw [g j hj,←eD];exact aO fun i hi=>by rw [h.eq i j hi hj]
end
def fI (k c:Nat) (M:Nat→Nat→Int) (P:Nat→Nat):Prop:=∀i,i<k→P i<c∧0<M i (P i)∧(∀j,j<P i→M i j=0)∧∀n,n<i→P n<P i∧0≤M n (P i)∧M n (P i)<M i (P i)
theorem fI.lead {k c:Nat} {M:Nat→Nat→Int} {P:Nat→Nat} (h:fI k c M P) {a:Nat→Int} {v:Nat→Int} (hv:∀j,j<c→v j=aM k (fun i=>a i*M i j)):
    (∀i,i<k→a i=0)∨∃j,j<k∧(∀x,x<P j→v x=0)∧v (P j)≠0∧M j (P j)∣v (P j):=by
  by_cases hz:∀i,i<k→a i=0
  · exact .inl hz
  · have hex:∃i,i<k∧a i≠0:=by
      apply Classical.byContradiction;intro hn
      exact hz fun i hi=>Classical.byContradiction fun h=>hn ⟨i,hi,h⟩
    have hmin:∃j,j<k∧a j≠0∧∀i,i<j→a i=0:=by
      obtain ⟨i,hi,ha⟩:=hex
      induction i using Nat.strongRecOn with
      | _ i ih=>
        by_cases hk:∃x,x<i∧a x≠0
        · obtain ⟨x,hx,hxa⟩:=hk;exact ih x hx (by omega) hxa
        · exact ⟨i,hi,ha,fun x hx=>Classical.byContradiction fun h=>hk ⟨x,hx,h⟩⟩
    obtain ⟨j,hj,hja,hjm⟩:=hmin;obtain ⟨g1,g2,g3,_⟩:=h j hj;have hval:v (P j)=a j*M j (P j):=by
      rw [hv _ g1];refine iH hj fun i hi hne=> ?_
      rcases Nat.lt_or_ge i j with hlt | hge
      · rw [hjm i hlt,Int.zero_mul]
      · obtain ⟨_,_,k3,k4⟩:=h i hi
        rw [k3 (P j) (k4 j (by omega)).1,Int.mul_zero]
    refine .inr ⟨j,hj,fun x hx=> ?_,?_,⟨a j,by rw [hval,Int.mul_comm]⟩⟩
    · rw [hv x (by omega)]
      refine dE fun i hi=> ?_
      rcases Nat.lt_or_ge i j with hlt | hge
      · rw [hjm i hlt,Int.zero_mul]
      · obtain ⟨_,_,k3,k4⟩:=h i hi
        by_cases e:i=j
        · subst e;rw [k3 x hx,Int.mul_zero]
        · have:=(k4 j (by omega)).1
          rw [k3 x (by omega),Int.mul_zero]
    · rw [hval];intro h0
      rcases Int.mul_eq_zero.1 h0 with h1 | h1
      · exact hja h1
      · omega
theorem fI.inl {k c:Nat} {M:Nat→Nat→Int} {P:Nat→Nat} (h:fI k c M P) {v:Nat→Int} (hv:gC k c M v):
    (∀j,j<c→v j=0)∨∃j,j<k∧(∀x,x<P j→v x=0)∧v (P j)≠0∧M j (P j)∣v (P j):=by
  obtain ⟨a,hv⟩:=hv;rcases h.lead hv with h1 | h1
  · exact .inl fun j hj=>by rw [hv j hj];exact dE fun i hi=>by rw [h1 i hi,Int.zero_mul]
  · exact .inr h1
theorem fI.inc {k c:Nat} {M:Nat→Nat→Int} {P:Nat→Nat} (h:fI k c M P) {i j:Nat} (hi:i<k) (hj:j<k) (e:P i=P j):i=j:=by
  rcases Nat.lt_trichotomy i j with h1 | h1 | h1
  · have:=((h j hj).2.2.2 i h1).1;omega
  · exact h1
  · have:=((h i hi).2.2.2 j h1).1;omega
theorem fI.sub {k k' c:Nat} {M M':Nat→Nat→Int} {P P':Nat→Nat} (h:fI k c M P) (h':fI k' c M' P') (hs:∀v,gC k c M v→gC k' c M' v) {i:Nat} (hi:i<k):
    ∃j,j<k'∧P' j=P i∧M' j (P i)∣M i (P i):=by
  obtain ⟨g1,g2,g3,_⟩:=h i hi;rcases h'.inl (hs _ (gC.row (M:=M) hi)) with h1 | ⟨j,hj,h1,h2,h3⟩
  · have:=h1 _ g1;omega
  · have e:P' j=P i:=by
      rcases Nat.lt_trichotomy (P' j) (P i) with h4 | h4 | h4
      · exact absurd (g3 _ h4) h2
      · exact h4
      · have:=h1 _ h4;omega
    exact ⟨j,hj,e,by rw [←e];exact h3⟩
theorem fI.same {k k' c:Nat} {M M':Nat→Nat→Int} {P P':Nat→Nat} (h:fI k c M P) (h':fI k' c M' P') (hs:∀v,gC k c M v→gC k' c M' v) (hs':∀v,gC k' c M' v→gC k c M v):
    ∀n,∀i,i<n→i<k→i<k'∧P' i=P i∧M' i (P i)=M i (P i)
  | 0,i,hn,_=>by omega
  | n + 1,i,hn,hi=>by
    by_cases e:i<n
    · exact fI.same h h' hs hs' n i e hi
    · have ih:=fI.same h h' hs hs' n
      obtain ⟨j,hj,hP,hd⟩:=h.sub h' hs hi;obtain ⟨i2,hi2,hP2,hd2⟩:=h'.sub h hs' hj;have e2:i2=i:=h.inc hi2 hi (hP2.trans hP);subst e2;have hij:i2≤j:=by
        rcases Nat.lt_or_ge j i2 with h1 | h1
        · obtain ⟨_,h3,_⟩:=ih j (by omega) (by omega)
          have:=h.inc (i:=j) (j:=i2) (by omega) hi (by rw [←h3];exact hP);omega
        · exact h1
      have hji:j≤i2:=by
        rcases Nat.lt_or_ge i2 j with h1 | h1
        ·
          obtain ⟨m,hm,hPm,_⟩:=h'.sub h hs' (i:=i2) (by omega);have h3:=((h' j hj).2.2.2 i2 h1).1;have h4:m<i2:=by
            rcases Nat.lt_trichotomy m i2 with h5 | h5 | h5
            · exact h5
            · subst h5;omega
            · have:=((h m hm).2.2.2 i2 h5).1;omega
          obtain ⟨h6,h7,_⟩:=ih m (by omega) hm;have:=h'.inc (i:=m) (j:=i2) h6 (by omega) (by omega);omega
        · exact h1
      have e3:j=i2:=by omega
      subst e3;refine ⟨hj,hP,?_⟩;have p1:=(h j hi).2.1;have p2:=(h' j hj).2.1;rw [hP] at p2 hd2;exact Int.dvd_antisymm (by omega) (by omega) hd hd2
theorem fI.unique {k k' c:Nat} {M M':Nat→Nat→Int} {P P':Nat→Nat} (h:fI k c M P) (h':fI k' c M' P') (hs:∀v,gC k c M v↔gC k' c M' v):k=k'∧∀i j,i<k→j<c→M i j=M' i j:=by
  have h1:=fun i hi=>fI.same h h' (fun v=>(hs v).1) (fun v=>(hs v).2) (i + 1) i (by omega) hi
  have h2:=fun i hi=>fI.same h' h (fun v=>(hs v).2) (fun v=>(hs v).1) (i + 1) i (by omega) hi
  have hk:k=k':=by
    rcases Nat.lt_trichotomy k k' with h3 | h3 | h3
    · have:=(h2 k h3).1;omega
    · exact h3
    · have:=(h1 k' h3).1;omega
  refine ⟨hk,fun i j hi hj=> ?_⟩;have hrow:gC k c M (fun j=>M i j - M' i j):=gC.sub (gC.row hi) ((hs _).2 (gC.row (h1 i hi).1));rcases h.inl hrow with h3 | ⟨m,hm,h3,h4,h5⟩
  · have:=h3 j hj;omega
  · exfalso
    obtain ⟨a1,a2,a3⟩:=h1 i hi;obtain ⟨b1,b2,b3⟩:=h1 m hm;obtain ⟨g1,g2,g3,g4⟩:=h i hi;obtain ⟨f1,f2,f3,f4⟩:=h m hm;have hmi:i<m:=by
      rcases Nat.lt_trichotomy i m with e | e | e
      · exact e
      · subst e;exact absurd (by rw [a3];omega) h4
      · have e1:=(g4 m e).1
        have e2:=g3 _ e1;have e3:=(h' i a1).2.2.1 (P m) (by omega);exact absurd (by rw [e2,e3];rfl) h4
    have c1:=(f4 i hmi).2;have c2:=((h' m b1).2.2.2 i hmi).2;rw [b2,b3] at c2;obtain ⟨t,ht⟩:=h5;have c3:(M i (P m) - M' i (P m)).natAbs<(M m (P m)).natAbs:=by omega
    have c4:(M m (P m)).natAbs≤(M i (P m) - M' i (P m)).natAbs:=by
      rw [ht,Int.natAbs_mul];refine Nat.le_mul_of_pos_right _ ?_;rcases Nat.eq_zero_or_pos t.natAbs with h0 | h0
      · have:t=0:=by omega
        subst this;exact absurd (by rw [ht,Int.mul_zero]) h4
      · exact h0
    omega
theorem lI.toP {r k c:Nat} {M:Nat→Nat→Int} (h:lI r k c M):(∃P,fI k c M P)∧∀i,k≤i→i<r→∀j,j<c→M i j=0:=by
  obtain ⟨P,h1,h2⟩:=h;exact ⟨⟨P,h1⟩,h2⟩
theorem mf {r c k:Nat} {M0:Nat→Nat→Int} {S:WS} (hl:Lin r c M0 S) (hk:k≤r) (he:lI r k c S.M) {v:Nat→Int}:gC r c M0 v↔gC k c S.M v:=
  hl.lat.trans (gC.cut hk he.toP.2)
def xR (r c:Nat) (M0:Nat→Nat→Int) (u:Nat→Int):Prop:=∀j,j<c→aM r (fun i=>u i*M0 i j)=0
theorem pJ {r c k:Nat} {M0:Nat→Nat→Int} {S:WS} (hl:Lin r c M0 S) (hk:k≤r) (he:lI r k c S.M) {u:Nat→Int}:xR r c M0 u↔gC (r - k) r (fun i=>S.U (k + i)) u:=by
  obtain ⟨⟨P,hP⟩,hz⟩:=he.toP
  constructor
  · intro hu
    have hcoord:∀j,j<r→u j=aM r (fun i=>aM r (fun x=>u x*S.V x i)*S.U i j):=fun j hj=>by
      rw [←eD];have h1:aM r (fun i=>u i*bC r S.V S.U i j)=aM r (fun i=>u i*du i j):=aO fun i hi=>by rw [hl.vu i j hi hj]
      rw [h1,iH hj fun x _ hne=>by simp [du,hne]];simp [du]
    have hzero:∀j,j<c→aM k (fun i=>aM r (fun x=>u x*S.V x i)*S.M i j)=0:=fun j hj=>by
      have h1:aM r (fun i=>u i*bC r S.V S.M i j)=0:=by rw [←hu j hj];exact aO fun i hi=>by rw [hl.back hi hj]
      rw [eD,ig hk fun i h2 h3=>by rw [hz i h2 h3 j hj,Int.mul_zero]] at h1;exact h1
    have hc:∀i,i<k→aM r (fun x=>u x*S.V x i)=0:=by
      rcases hP.lead (a:=fun i=>aM r (fun x=>u x*S.V x i)) (v:=fun _=>0) (fun j hj=>(hzero j hj).symm) with h1 | ⟨_,_,_,h2,_⟩
      · exact h1
      · exact absurd rfl h2
    refine ⟨fun i=>aM r (fun x=>u x*S.V x (k + i)),fun j hj=> ?_⟩;have h5:=jR (fun i=>aM r (fun x=>u x*S.V x i)*S.U i j) k (r - k);rw [show k + (r - k)=r by omega] at h5;rw [hcoord j hj,h5,dE fun i hi=>by rw [hc i hi,Int.zero_mul],Int.zero_add]
  · rintro ⟨a,h⟩ j hj
    have h1:aM r (fun i=>u i*M0 i j)=aM r (fun i=>aM (r - k) (fun x=>a x*S.U (k + x) i)*M0 i j):=aO fun i hi=>by rw [h i hi]
    rw [h1];have h2:=(eD (r - k) r a (fun x=>S.U (k + x)) M0 j).symm;rw [h2];refine dE fun i hi=> ?_
    have h3:bC r (fun x=>S.U (k + x)) M0 i j=S.M (k + i) j:=(hl.eq (k + i) j (by omega) hj).symm;rw [h3,hz (k + i) (by omega) (by omega) j hj,Int.mul_zero]
theorem xR.congr {r c:Nat} {M M':Nat→Nat→Int} (he:∀i j,i<r→j<c→M i j=M' i j) {u:Nat→Int}:xR r c M u↔xR r c M' u:=by
  constructor<;>intro h j hj
  · rw [←h j hj];exact aO fun i hi=>by rw [he i j hi hj]
  · rw [←h j hj];exact aO fun i hi=>by rw [he i j hi hj]
theorem fW.lat {r c e0 k:Nat} {M0 M:Nat→Nat→Int} (h:fW r c e0 M0 k M):(∃P,fI k r M P)∧∀u,gC k r M u↔xR r c M0 u:=by
  obtain ⟨k1,S1,S2,h1,h2,rfl⟩:=h;exact ⟨h2.ech.toP.1,fun u=>(mf h2.lin h2.kr h2.ech).symm.trans (pJ h1.lin h1.kr h1.ech).symm⟩
theorem lH.lat {r c e0 k:Nat} {M0 M:Nat→Nat→Int} (h:lH r c e0 M0 k M):(∃P,fI k r M P)∧∀u,gC k r M u↔xR r c M0 u:=by
  obtain ⟨k1,S1,S2,h1,h2,rfl⟩:=h;exact ⟨h2.ech.toP.1,fun u=>(mf h2.lin h2.kr h2.ech).symm.trans (pJ h1.lin h1.kr h1.ech).symm⟩
end Go.TL
namespace Go.TL
set_option linter.unusedVariables false
theorem jU (z:Int):z.sign≤0↔z≤0:=by
  rcases Int.lt_trichotomy z 0 with h | h | h
  · rw [Int.sign_eq_neg_one_of_neg h];omega
  · subst h;simp
  · rw [Int.sign_eq_one_of_pos h];omega
theorem fz (a b:Int):0≤cb a b↔b≤a:=by unfold cb;split<;>(try split)<;>omega
def lastP (M:Nat→Nat→Int) (c:Nat):Nat→Int
  | 0=> -1
  | i + 1=>if piv (M i) c<0 then (c:Int) else piv (M i) c
def iE (M:Nat→Nat→Int) (c i:Nat):Prop:=
  piv (M i) c<0∨(lastP M c i<piv (M i) c∧0<M i (piv (M i) c).toNat∧∀k,k<i→0≤M k (piv (M i) c).toNat∧M k (piv (M i) c).toNat<M i (piv (M i) c).toNat)
def cC (r c:Nat) (M:Nat→Nat→Int):Prop:=∀i,i<r→iE M c i
instance (M:Nat→Nat→Int) (c i:Nat):Decidable (iE M c i):=inferInstanceAs (Decidable (_∨_))
instance (r c:Nat) (M:Nat→Nat→Int):Decidable (cC r c M):=inferInstanceAs (Decidable (∀i,i<r→iE M c i))
theorem iX {M:Nat→Nat→Int} {c i:Nat} (h:piv (M i) c<0):((c:Nat):Int)=lastP M c (i + 1):=by simp only [lastP];rw [if_pos h]
theorem iW {M:Nat→Nat→Int} {c i:Nat} (h:¬piv (M i) c<0):piv (M i) c=lastP M c (i + 1):=by simp only [lastP];rw [if_neg h]
theorem kf {z:Nat→Int} {n:Nat} (h:¬piv z n<0):(piv z n).toNat<n∧((piv z n).toNat:Int)=piv z n∧z (piv z n).toNat≠0∧∀j,j<(piv z n).toNat→z j=0:=by
  obtain ⟨i,h1,h2,h3,h4⟩:=gj (p:=gY) (z:=z) (n:=n) (by unfold piv at h;omega);have h5:piv z n=(i:Int):=h2;rw [h5,Int.toNat_natCast];exact ⟨h1,rfl,h3,fun j hj=>Classical.byContradiction fun e=>h4 j hj e⟩
theorem sJ {z:Nat→Int} {n p:Nat} (hp:p<n) (hz:z p≠0) (h0:∀j,j<p→z j=0):piv z n=(p:Int):=
  dS (p:=gY) (ir (p:=gY) fun i hi=>by simp [gY,h0 i hi]) hz hp
theorem xu {z:Nat→Int} {n:Nat} (h0:∀j,j<n→z j=0):piv z n= -1:=ir (p:=gY) fun i hi=>by simp [gY,h0 i hi]
theorem sI {z:Nat→Int} {n:Nat} (h:piv z n<0):∀j,j<n→z j=0:=by
  intro j hj;have h1:=(ej (p:=gY) (z:=z) n).2;have h2:cT gY z n= -1:=by unfold piv at h;omega
  exact Classical.byContradiction fun e=>er h2 j hj e
theorem lI.lastP {r k c:Nat} {M:Nat→Nat→Int} {P:Nat→Nat} (h1:∀i,i<k→P i<c∧0<M i (P i)∧(∀j,j<P i→M i j=0)∧∀n,n<i→P n<P i∧0≤M n (P i)∧M n (P i)<M i (P i)):
    ∀{i:Nat},i≤k→lastP M c i=if i=0 then -1 else ((P (i - 1):Nat):Int)
  | 0,_=>rfl
  | i + 1,hi=>by
    obtain ⟨g1,g2,g3,_⟩:=h1 i (by omega);have hp:piv (M i) c=(P i:Int):=sJ g1 (by omega) g3;simp only [Go.TL.lastP];rw [if_neg (by rw [hp];omega),hp,if_neg (by omega)];simp
theorem fI.isH {r k c:Nat} {M:Nat→Nat→Int} {P:Nat→Nat} (h:fI k c M P) (h2:∀a,k≤a→a<r→∀j,j<c→M a j=0):cC r c M:=by
  intro i hi;rcases Nat.lt_or_ge i k with hk | hk
  · obtain ⟨g1,g2,g3,g4⟩:=h i hk
    have hp:piv (M i) c=(P i:Int):=sJ g1 (by omega) g3;refine .inr ⟨?_,?_,?_⟩
    · rw [hp,lI.lastP (r:=r) h (by omega)]
      split
      · omega
      · have:=(g4 (i - 1) (by omega)).1;omega
    · rw [hp,Int.toNat_natCast];exact g2
    · intro n hn
      rw [hp,Int.toNat_natCast];exact (g4 n hn).2
  · left;rw [xu (h2 i hk hi)];omega
theorem cC.ech {c:Nat} {M:Nat→Nat→Int}:∀{r:Nat},cC r c M→∃k P,k≤r∧fI k c M P∧(∀a,k≤a→a<r→∀j,j<c→M a j=0)∧(k<r→lastP M c r=c)∧(0<k→k=r→lastP M c r=(P (k - 1):Nat))
  | 0,_=>⟨0,fun _=>0,Nat.le_refl _,fun i hi=>absurd hi (by omega),fun a _ ha=>absurd ha (by omega),fun h=>absurd h (by omega),fun h=>absurd h (by omega)⟩
  | r + 1,h=>by
    obtain ⟨k,P,hk,hE,hz,hl,hl2⟩:=cC.ech (r:=r) fun i hi=>h i (by omega)
    rcases h r (by omega) with hr | ⟨g1,g2,g3⟩
    · refine ⟨k,P,by omega,hE,fun a h1 h2=> ?_,fun _=>(iX hr).symm,fun _ e=>absurd e (by omega)⟩
      rcases Nat.lt_or_ge a r with e | e
      · exact hz a h1 e
      · obtain rfl:a=r:=by omega
        exact sI hr
    · have hnn:¬piv (M r) c<0:=by
        intro hn;have h1:=(ej (p:=gY) (z:=M r) c).2;have h2:cT gY (M r) c= -1:=by unfold piv at hn;omega
        have h3:piv (M r) c= -1:=h2;have h4:(-1:Int)≤lastP M c r:=by
          cases r with
          | zero=>simp [lastP]
          | succ r=>simp only [lastP];have:=(ej (p:=gY) (z:=M r) c).2;split<;>(unfold piv at*;omega)
        omega
      obtain ⟨a1,a2,a3,a4⟩:=kf hnn;have hkr:k=r:=by
        rcases Nat.lt_or_ge k r with e | e
        · have:=hl e;omega
        · omega
      subst hkr;refine ⟨k + 1,fun i=>if i=k then (piv (M k) c).toNat else P i,by omega,?_,fun a h1 h2=>absurd h2 (by omega),fun h=>absurd h (by omega),fun _ _=> ?_⟩
      · intro i hi
        rcases Nat.lt_or_ge i k with e | e
        · obtain ⟨b1,b2,b3,b4⟩:=hE i e
          simp only [if_neg (show ¬i=k by omega)];exact ⟨b1,b2,b3,fun n hn=>by simp only [if_neg (show ¬n=k by omega)];exact b4 n hn⟩
        · obtain rfl:i=k:=by omega
          simp only [if_pos];refine ⟨a1,g2,a4,fun n hn=> ?_⟩;simp only [if_neg (show ¬n=i by omega)];refine ⟨?_,g3 n hn⟩;have hl3:=hl2 (by omega) rfl;have:∀m,m<i→P m≤P (i - 1):=by
            intro m hm;rcases Nat.lt_or_ge m (i - 1) with e | e
            · exact Nat.le_of_lt ((hE (i - 1) (by omega)).2.2.2 m e).1
            · obtain rfl:m=i - 1:=by omega
              exact Nat.le_refl _
          have:=this n hn;omega
      · rw [←iW hnn,←a2];simp
end Go.TL
namespace Go.TL
set_option linter.unusedVariables false
def og (M:Nat→Nat→Int) (c:Nat) (R:Nat→Int) (i:Nat):Int:=if piv (M i) c<0 then 0 else R (piv (M i) c).toNat/M i (piv (M i) c).toNat
def bZ (M:Nat→Nat→Int) (c:Nat) (z:Nat→Int):Nat→Nat→Int
  | 0=>z
  | i + 1=>fun j=>bZ M c z i j - og M c (bZ M c z i) i*M i j
def cf (M:Nat→Nat→Int) (c:Nat) (z:Nat→Int) (i:Nat):Int:=og M c (bZ M c z i) i
theorem jX {M:Nat→Nat→Int} {c i:Nat} {R:Nat→Int} (h:piv (M i) c<0):og M c R i=0:=if_pos h
theorem sv {M:Nat→Nat→Int} {c i:Nat} {R:Nat→Int} (h:¬piv (M i) c<0):og M c R i=R (piv (M i) c).toNat/M i (piv (M i) c).toNat:=if_neg h
theorem pm {M:Nat→Nat→Int} {c i e:Nat} {R:Nat→Int} (hR:∀j,j<c→(R j).natAbs<2^e):(og M c R i).natAbs<2^e:=by
  unfold og
  split
  · exact Nat.two_pow_pos e
  · rename_i h
    exact Nat.lt_of_le_of_lt (Int.natAbs_ediv_le_natAbs _ _) (hR _ (kf h).1)
theorem lW {M:Nat→Nat→Int} {r c bm bz:Nat} {z:Nat→Int} (hM:∀i j,i<r→j<c→(M i j).natAbs<2^bm) (hz:∀j,j<c→(z j).natAbs<2^bz):
    ∀{i:Nat},i≤r→∀j,j<c→(bZ M c z i j).natAbs<2^(bz + i*(bm + 1))
  | 0,_=>by rw [Nat.zero_mul,Nat.add_zero];exact hz
  | i + 1,hi=>by
    intro j hj;have ih:=lW hM hz (i:=i) (by omega);have h1:=ih j hj;have h2:=pm (i:=i) (M:=M) ih;have h3:=hM i j (by omega) hj;simp only [bZ];have h4:(og M c (bZ M c z i) i*M i j).natAbs<2^(bz + i*(bm + 1))*2^bm:=by
      rw [Int.natAbs_mul];exact Nat.mul_lt_mul'' h2 h3
    have h5:2^(bz + (i + 1)*(bm + 1))=2*(2^(bz + i*(bm + 1))*2^bm):=by
      rw [←Nat.pow_add,Nat.mul_comm 2,←Nat.pow_succ];congr 1;rw [Nat.add_mul];omega
    have h6:2^(bz + i*(bm + 1))≤2^(bz + i*(bm + 1))*2^bm:=Nat.le_mul_of_pos_right _ (Nat.two_pow_pos _);rw [h5];omega
end Go.TL
namespace Go.TL
open Go.RowKit Go.Proofs
set_option linter.unusedVariables false
set_option linter.unusedSimpArgs false
section
set_option maxRecDepth 100000
theorem wZ:ay Tryz.prog 118=true:=by kernel_rfl
theorem wX:ay Tryz.prog 120=true:=by kernel_rfl
theorem wW:ay Tryz.prog 121=true:=by kernel_rfl
theorem yj:ay Tryz.prog 94=true:=by kernel_rfl
theorem yi:ay Tryz.prog 95=true:=by kernel_rfl
theorem yh:ay Tryz.prog 96=true:=by kernel_rfl
theorem yg:ay Tryz.prog 97=true:=by kernel_rfl
theorem yf:ay Tryz.prog 98=true:=by kernel_rfl
theorem ye:ay Tryz.prog 99=true:=by kernel_rfl
end
set_option maxRecDepth 10000 in
theorem vK (w:World) (x:Value) (zx:Int) (btx:Nat) (hx:am w x zx btx):Calls Tryz.prog 96 #[x] w (cg w fun v w'=>v= .bool true):=by
 have hLIM:bo=562949953421312:=rfl;obtain ⟨Ax,nx,cx,lx,rfl,hLx,hvx,htx,hnx,hbx⟩:=hx.form;have hbdx:=hx.bd;have hlimx:=hLx.lim;have hlex:=hLx.le;have holdx:=hLx.old;refine ah (N:=27) (rs:= #[.tmp 2]) Tryz.func96 rfl rfl rfl (Nat.le_of_ble_eq_true rfl) ?_;have hX:aC w w:=aC.refl w;refine ab ?_;refine RL.x rfl rfl (cZ.box [.bool (decide (zx<0)),.slice (Ax) (nx) (cx)] rfl rfl) ?_;rintro _ w1 ⟨g1,rfl,hge1,hx1,hA1⟩;replace hLx:=aD.ext hLx hx1;replace hX:=aC.trans hX hx1;refine RL.p rfl rfl (cD.assign rfl) ?_;refine RL.nil ?_;refine ab ?_;refine RL.p rfl rfl (cD.fieldAddr aK rfl) ?_;refine RL.p rfl rfl (cD.load bJ rfl (hA1.at_ (i:=1) rfl rfl)) ?_;refine RL.p rfl rfl (cD.len ao rfl) ?_;refine RL.p rfl rfl (cD.assign rfl) ?_;refine RL.nil ?_;refine aE ak 20 [_,_,fun v Aa=>v= .bool (decide (((nx:Nat):Int)=(0:Int))),_,fun v Aa=>(((nx:Nat):Int)=(0:Int))→(v= .bool (decide (zx<0))),_,_,fun v Aa=>v= .bool (decide ((((nx:Nat):Int)=(0:Int))∧(¬(zx<0)))),_,_,fun v Aa=>((¬((((nx:Nat):Int)=(0:Int))∧(¬(zx<0))))→(v= .bool (decide ((0:Int)<((nx:Nat):Int)))))∧(¬(¬((((nx:Nat):Int)=(0:Int))∧(¬(zx<0))))→v=undef),_,_,_,_,_,_,_,_,_] rfl rfl (fun e_ w_ zZ zY=>⟨fun _=>aa (cD.move ((zY 3 rfl rfl))),fun zX=>aa (cD.eql ((zX 0 rfl)) rfl),fun zX=>aa (cD.move ((zX 1 rfl))),fun zX=>gT ((zX 2 rfl)) fun hg=>aa (cD.fieldAddr bL ((zY 1 rfl rfl))),fun zX=>gT ((zX 2 rfl)) fun hg=>aa (cD.load dI ((zX 3 rfl hg)) ((bj.ext hA1 zZ).at_ (i:=0) rfl rfl)),fun zX=>gT ((zX 2 rfl)) fun hg=>aa (cD.not (p:=zx<0) ((zX 4 rfl hg))),fun zX=>aa (aw (p:=((nx:Nat):Int)=(0:Int)) (q:=¬(zx<0)) ((zX 2 rfl)) (fun hq=>(zX 5 rfl hq))),fun zX=>aa (cD.move ((zX 6 rfl))),fun zX=>gF ((zX 7 rfl)) fun hg=>aa (cD.move ((zY 3 rfl rfl))),fun zX=>gF ((zX 7 rfl)) fun hg=>aa (cD.gtr ((zX 8 rfl hg)) rfl),fun zX=>gFU ((zX 7 rfl)) fun hg=>aa (cD.move ((zX 9 rfl hg))),fun zX=>gN (zX 10 rfl) fun hg=>aa (cD.fieldAddr aK ((zY 1 rfl rfl))),fun zX=>gN (zX 10 rfl) fun hg=>aa (cD.load bJ ((zX 11 rfl hg)) ((bj.ext hA1 zZ).at_ (i:=1) rfl rfl)),fun zX=>gN (zX 10 rfl) fun hg=>aa (cD.move ((zY 3 rfl rfl))),fun zX=>gN (zX 10 rfl) fun hg=>aa (cD.sub (c:=((nx - 1:Nat):Int)) ((zX 13 rfl hg)) rfl (bS (by omega))),fun zX=>gN (zX 10 rfl) fun hg=>aa (cD.index (j:=nx - 1) ao ((zX 12 rfl hg)) ((zX 14 rfl hg)) ((aD.ext hLx zZ).addr (by omega)) (by omega) (by omega)),fun zX=>gN (zX 10 rfl) fun hg=>aa (cD.load br ((zX 15 rfl hg)) (aV ((aD.ext hLx zZ).get (i:=nx - 1) (by omega)))),fun zX=>gN (zX 10 rfl) fun hg=>aa (cD.neq ((zX 16 rfl hg)) rfl),fun zX=>gF ((zX 7 rfl)) fun hg=>aa (aw (p:=(0:Int)<((nx:Nat):Int)) (q:=((lx (nx - 1):Nat):Int)≠(0:Int)) (((zX 10 rfl).1 hg)) (fun hq=>((fun hq=>zX 17 rfl ⟨hg,hq⟩) hq))),fun zX=>aa (aZ (p:=(((nx:Nat):Int)=(0:Int))∧(¬(zx<0))) (q:=((0:Int)<((nx:Nat):Int))∧(((lx (nx - 1):Nat):Int)≠(0:Int))) ((zX 7 rfl)) (fun hq=>(zX 18 rfl hq))),trivial⟩) ?_;intro e1 w2 hx2 ho1 hf1;replace hX:=aC.trans hX hx2;have s26_e1:e1 26=_:=hf1 19 rfl;refine RL.p rfl rfl (cD.assign s26_e1) ?_;refine RL.nil ?_;refine WP.ret ?_;refine ⟨.bool (decide (((((nx:Nat):Int)=(0:Int))∧(¬(zx<0)))∨(((0:Int)<((nx:Nat):Int))∧(((lx (nx - 1):Nat):Int)≠(0:Int))))),zw.one (fC.tmp rfl),_,rfl,hX,?_⟩;dsimp only;refine congrArg _ (decide_eq_true ?_);rcases Nat.eq_zero_or_pos nx with h | h
 · left;subst h;exact ⟨rfl,fun h2=>by have h1:=fR hvx (by omega);omega⟩
 · right;have h1:=htx h;exact ⟨by omega,by omega⟩
set_option maxRecDepth 10000 in
theorem td (w:World) (x:Value) (zx:Int) (btx:Nat) (hx:am w x zx btx):Calls Tryz.prog 95 #[x] w (cg w fun v w'=>v= .bool (decide (uU zx))):=by
 have hLIM:bo=562949953421312:=rfl;refine ah (N:=6) (rs:= #[.tmp 2]) Tryz.func95 rfl rfl rfl (Nat.le_of_ble_eq_true rfl) ?_;have hX:aC w w:=aC.refl w;refine ab ?_;obtain ⟨ca1,cb1,hq1,ho1,ho2⟩:=am.cells (am.ext hx hX);have qi1:am w (.agg #[ca1,cb1]) zx btx:=hq1▸(am.ext hx hX);refine RL.x rfl rfl (cZ.box [ca1,cb1] hq1 rfl) ?_;rintro _ w1 ⟨g1,rfl,hge1,hx1,hA1⟩;replace qi1:=am.ext qi1 hx1;replace hX:=aC.trans hX hx1;refine RL.p rfl rfl (cD.assign rfl) ?_;refine RL.nil ?_;refine ab ?_;refine RL.p rfl rfl (ag [ca1,cb1] au rfl (hA1.cells 0 _ rfl rfl)) ?_;refine RL.x rfl rfl (cZ.call yh (aJ rfl) (vK _ _ _ _ qi1)) ?_;rintro _ w2 ⟨hx2,rfl⟩;replace hX:=aC.trans hX hx2;refine RL.p rfl rfl (cD.not (p:=True) rfl) ?_;refine RL.p rfl rfl (cD.assign rfl) ?_;refine RL.nil ?_;refine WP.ret ?_;refine ⟨.bool (decide (¬(True))),zw.one (fC.tmp rfl),_,rfl,hX,?_⟩
 rfl
set_option maxRecDepth 10000 in
theorem sj (w:World) (x:Value) (nx:Nat) (zx:Nat→Int) (btx:Nat) (fv:Value) (p:Int→Prop) [DecidablePred p] (hx:bE w x nx zx btx) (hF:xX Tryz.prog w fv btx p):Calls Tryz.prog 118 #[x,fv] w (cg w fun v w'=>v= .int .i64 (cT p zx nx)):=by
 have hLIM:bo=562949953421312:=rfl;have hlimx:=hx.lim;refine ah (N:=19) (rs:= #[.tmp 4]) Tryz.func118 rfl rfl rfl (Nat.le_of_ble_eq_true rfl) ?_;have hX:aC w w:=aC.refl w;refine ab ?_;refine RL.p rfl rfl (cD.assign rfl) ?_;refine RL.nil ?_;refine WP.seq ?_;refine ab ?_;refine RL.p rfl rfl (cD.move rfl) ?_;refine RL.p rfl rfl (cc bg rfl (bE.ext hx hX)) ?_;refine RL.p rfl rfl (cD.move rfl) ?_;refine RL.nil ?_;refine WP.block ?_;refine WP.loop (fun mz ez uz=>∃i:Nat,(mz=nx - i)∧(ez 0=x)∧(ez 1=fv)∧(ez 7= .int .i64 ((nx:Nat)))∧(ez 8= .int .i64 ((i:Nat)))∧(i≤nx)∧(cT p zx i= -1)∧(aC w uz)) (nx - 0) ?_ ?_
 · exact ⟨0,rfl,rfl,rfl,rfl,rfl,(by omega),rfl,hX⟩
 rintro m1 e1 w1 ⟨i,hm1,s0_e1,s1_e1,s7_e1,s8_e1,hi,hnone,hX1⟩;refine ab ?_;refine RL.p rfl rfl (cD.lss s8_e1 s7_e1) ?_;refine RL.nil ?_;refine WP.seq ?_;refine ae (((i:Nat):Int)<((nx:Nat):Int)) rfl (fun c9=> ?_) (fun c9=> ?_)
 ·
  refine WP.skip ?_;refine oL.norm ?_;refine WP.seq ?_;refine WP.block ?_;refine ab ?_;refine RL.p rfl rfl (cD.move s8_e1) ?_;refine RL.p rfl rfl (cD.assign rfl) ?_;refine RL.nil ?_;refine ab ?_;refine RL.p rfl rfl (cD.move s1_e1) ?_;refine RL.p rfl rfl (cD.move s0_e1) ?_;refine RL.p rfl rfl (cD.move rfl) ?_;refine RL.x rfl rfl (aR (j:=i) bg rfl (bE.ext hx hX1) rfl (by omega) (by omega)) ?_;rintro v1 _ ⟨rfl,q1⟩;refine RL.x rfl rfl (aX au rfl q1) ?_;rintro v2 _ ⟨rfl,q2⟩;refine RL.x rfl rfl (jm rfl (xX.ext hF hX1) rfl q2) ?_;rintro _ w2 ⟨hx1,rfl⟩;replace hX1:=aC.trans hX1 hx1;refine RL.nil ?_;refine ae (p (zx i)) rfl (fun c16=> ?_) (fun c16=> ?_)
  ·
   refine ab ?_;refine RL.p rfl rfl (cD.move rfl) ?_;refine RL.p rfl rfl (cD.assign rfl) ?_;refine RL.nil ?_;refine WP.ret ?_;refine iF.ret ?_;refine oL.ret ?_;refine oL.ret ?_;refine iF.ret ?_;refine oL.ret ?_;refine ⟨.int .i64 ((i:Nat)),zw.one (fC.tmp rfl),_,rfl,hX1,?_⟩;dsimp only;rw [dS hnone c16 (by omega)]
  ·
   refine WP.skip ?_;refine iF.norm ?_;refine oL.norm ?_;refine WP.region ?_;refine RL.p rfl rfl (cD.add (c:=((i + 1:Nat):Int)) s8_e1 rfl (bS (by omega))) ?_;refine RL.p rfl rfl (cD.move rfl) ?_;refine RL.nil ?_;refine oL.norm ⟨_,(by omega),i + 1,rfl,s0_e1,s1_e1,s7_e1,rfl,(by omega),(gk hnone c16),hX1⟩
 ·
  refine WP.exit ?_;refine oL.exit ?_;refine oL.exit ?_;refine iF.same ?_;refine oL.norm ?_;refine ab ?_;refine RL.p rfl rfl (cD.assign rfl) ?_;refine RL.nil ?_;refine WP.ret ?_;refine ⟨.int .i64 (-1),zw.one (fC.tmp rfl),_,rfl,hX1,?_⟩;dsimp only;rw [show nx=i by omega,hnone]
set_option maxRecDepth 10000 in
theorem nc (w:World) (x:Value) (nx:Nat) (zx:Nat→Int) (btx:Nat) (fv:Value) (p:Int→Prop) [DecidablePred p] (hx:bE w x nx zx btx) (hF:xX Tryz.prog w fv btx p):Calls Tryz.prog 94 #[x,fv] w (cg w fun v w'=>v= .bool (decide (0≤cT p zx nx))):=by
 have hLIM:bo=562949953421312:=rfl;have hlimx:=hx.lim;refine ah (N:=9) (rs:= #[.tmp 4]) Tryz.func94 rfl rfl rfl (Nat.le_of_ble_eq_true rfl) ?_;have hX:aC w w:=aC.refl w;refine ab ?_;refine RL.p rfl rfl (cD.assign rfl) ?_;refine RL.nil ?_;refine ab ?_;refine RL.p rfl rfl (cD.move rfl) ?_;refine RL.p rfl rfl (cD.move rfl) ?_;refine RL.x rfl rfl (cZ.call wZ (aB rfl rfl) (sj _ _ _ _ _ _ p (bE.ext hx hX) (xX.ext hF hX))) ?_;rintro _ w1 ⟨hx1,rfl⟩;replace hX:=aC.trans hX hx1;refine RL.p rfl rfl (cD.geq rfl rfl) ?_;refine RL.p rfl rfl (cD.assign rfl) ?_;refine RL.nil ?_;refine WP.ret ?_;refine ⟨.bool (decide ((0:Int)≤(cT p zx nx:Int))),zw.one (fC.tmp rfl),_,rfl,hX,?_⟩
 rfl
set_option maxRecDepth 10000 in
theorem pA (w:World) (sx:Value) (Rx Cx nx cx:Nat) (Mx:Nat→Nat→Int) (btx:Nat) (hRx:Rx≤65536) (hCx:Cx≤65536) (hSx:ck w sx nx cx Mx btx):Calls Tryz.prog 59 #[.agg #[.int .i64 (Rx:Nat),.int .i64 (Cx:Nat),sx]] w (cg w fun v w'=>v= .bool (decide (mH Rx Cx nx cx))):=by
 have hLIM:bo=562949953421312:=rfl;have hlimx:=hSx.lim;refine ah (N:=38) (rs:= #[.tmp 2]) Tryz.func59 rfl rfl rfl (Nat.le_of_ble_eq_true rfl) ?_;have hX:aC w w:=aC.refl w;refine ab ?_;refine RL.x rfl rfl (cZ.box [.int .i64 ((Rx:Nat)),.int .i64 ((Cx:Nat)),sx] rfl rfl) ?_;rintro _ w1 ⟨g1,rfl,hge1,hx1,hA1⟩;replace hX:=aC.trans hX hx1;refine RL.p rfl rfl (cD.assign rfl) ?_;refine RL.nil ?_;refine WP.seq ?_;refine aE ak 16 [_,_,_,fun v Aa=>v= .bool (decide (((Rx:Nat):Int)<(0:Int))),_,_,_,_,fun v Aa=>v= .bool (decide ((((Rx:Nat):Int)<(0:Int))∨(((Cx:Nat):Int)<(0:Int)))),_,_,_,_,_,_,_] rfl rfl (fun e_ w_ zZ zY=>⟨fun _=>aa (cD.fieldAddr aS ((zY 1 rfl rfl))),fun zX=>aa (cD.load bt ((zX 0 rfl)) ((bj.ext hA1 zZ).at_ (i:=0) rfl rfl)),fun zX=>aa (cD.lss ((zX 1 rfl)) rfl),fun zX=>aa (cD.move ((zX 2 rfl))),fun zX=>gF (zX 3 rfl) fun hg=>aa (cD.fieldAddr bs ((zY 1 rfl rfl))),fun zX=>gF (zX 3 rfl) fun hg=>aa (cD.load bt ((zX 4 rfl hg)) ((bj.ext hA1 zZ).at_ (i:=1) rfl rfl)),fun zX=>gF (zX 3 rfl) fun hg=>aa (cD.lss ((zX 5 rfl hg)) rfl),fun zX=>aa (aZ (p:=((Rx:Nat):Int)<(0:Int)) (q:=((Cx:Nat):Int)<(0:Int)) (zX 3 rfl) (fun hq=>(zX 6 rfl hq))),fun zX=>aa (cD.move ((zX 7 rfl))),fun zX=>gF (zX 8 rfl) fun hg=>aa (cD.fieldAddr an ((zY 1 rfl rfl))),fun zX=>gF (zX 8 rfl) fun hg=>aa (cD.load aF ((zX 9 rfl hg)) ((bj.ext hA1 zZ).at_ (i:=2) rfl rfl)),fun zX=>gF (zX 8 rfl) fun hg=>aa (cj az (zX 10 rfl hg) (ck.ext (ck.ext hSx hX) zZ)),fun zX=>gF (zX 8 rfl) fun hg=>aa (cD.fieldAddr aS ((zY 1 rfl rfl))),fun zX=>gF (zX 8 rfl) fun hg=>aa (cD.load bt ((zX 12 rfl hg)) ((bj.ext hA1 zZ).at_ (i:=0) rfl rfl)),fun zX=>gF (zX 8 rfl) fun hg=>aa (cD.neq ((zX 11 rfl hg)) ((zX 13 rfl hg))),fun zX=>aa (aZ (p:=(((Rx:Nat):Int)<(0:Int))∨(((Cx:Nat):Int)<(0:Int))) (q:=((nx:Nat):Int)≠((Rx:Nat):Int)) (zX 8 rfl) (fun hq=>(zX 14 rfl hq))),trivial⟩) ?_;intro e1 w2 hx2 ho1 hf1;replace hA1:=bj.ext hA1 hx2;replace hX:=aC.trans hX hx2;have s1_e1:e1 1=_:=ho1 1 rfl rfl;have s20_e1:e1 20=_:=hf1 15 rfl;refine RL.nil ?_;refine ae (((((Rx:Nat):Int)<(0:Int))∨(((Cx:Nat):Int)<(0:Int)))∨(((nx:Nat):Int)≠((Rx:Nat):Int))) s20_e1 (fun c20=> ?_) (fun c20=> ?_)
 ·
  refine ab ?_;refine RL.p rfl rfl (cD.assign rfl) ?_;refine RL.nil ?_;refine WP.ret ?_;refine oL.ret ?_;refine ⟨.bool (false),zw.one (fC.tmp rfl),_,rfl,hX,?_⟩;dsimp only;exact congrArg _ (decide_eq_false fun h=>by have:=h.1;omega).symm
 ·
  refine WP.skip ?_;refine oL.norm ?_;refine WP.seq ?_;refine ab ?_;refine RL.p rfl rfl (cD.fieldAddr an s1_e1) ?_;refine RL.p rfl rfl (cD.load aF rfl (hA1.at_ (i:=2) rfl rfl)) ?_;refine RL.p rfl rfl (cj az rfl (ck.ext hSx hX)) ?_;refine RL.p rfl rfl (cD.move rfl) ?_;refine RL.nil ?_;refine WP.block ?_;refine WP.loop (fun mz ez uz=>∃i:Nat,(mz=nx - i)∧(ez 1= .pointer (some ⟨g1,0,none⟩))∧(ez 22=sx)∧(ez 23= .int .i64 ((nx:Nat)))∧(ez 24= .int .i64 ((i:Nat)))∧(i≤nx)∧(i=0∨Cx=cx)∧(aC w uz)∧(bj uz g1 28 3 (bX [.int .i64 ((Rx:Nat)),.int .i64 ((Cx:Nat)),sx]))) (nx - 0) ?_ ?_
  · exact ⟨0,rfl,s1_e1,rfl,rfl,rfl,(by omega),(.inl rfl),hX,hA1⟩
  rintro m1 e2 w3 ⟨i,hm1,s1_e2,s22_e2,s23_e2,s24_e2,hi,hok,hX1,hA1⟩;refine ab ?_;refine RL.p rfl rfl (cD.lss s24_e2 s23_e2) ?_;refine RL.nil ?_;refine WP.seq ?_;refine ae (((i:Nat):Int)<((nx:Nat):Int)) rfl (fun c25=> ?_) (fun c25=> ?_)
  ·
   refine WP.skip ?_;refine oL.norm ?_;refine WP.seq ?_;refine WP.block ?_;refine ab ?_;refine RL.x rfl rfl (aN (j:=i) az s22_e2 (ck.ext hSx hX1) s24_e2 (by omega) (by omega)) ?_;rintro v1 _ ⟨rfl,q1⟩;refine RL.x rfl rfl (aW aP rfl q1) ?_;rintro v2 _ ⟨rfl,q2⟩;refine RL.p rfl rfl (cD.assign rfl) ?_;refine RL.nil ?_;refine aE ak 9 [_,_,_,_,_,fun v Aa=>v= .bool (decide (((cx:Nat):Int)≠((Cx:Nat):Int))),_,fun v Aa=>(¬(((cx:Nat):Int)≠((Cx:Nat):Int)))→(v= .bool (decide (0≤cT uU (Mx i) cx))),_] rfl rfl (fun e_ w_ zZ zY=>⟨fun _=>aa (cD.move ((zY 4 rfl rfl))),fun zX=>aa (cc bg (zX 0 rfl) (bE.ext q2 zZ)),fun _=>aa (cD.fieldAddr bs ((zY 1 rfl s1_e2))),fun zX=>aa (cD.load bt ((zX 2 rfl)) ((bj.ext hA1 zZ).at_ (i:=1) rfl rfl)),fun zX=>aa (cD.neq ((zX 1 rfl)) ((zX 3 rfl))),fun zX=>aa (cD.move ((zX 4 rfl))),fun zX=>gF (zX 5 rfl) fun hg=>aa (cD.move ((zY 4 rfl rfl))),fun zX=>gF (zX 5 rfl) fun hg=>cZ.call yj (aB ((zX 6 rfl hg)) rfl) (nc _ _ _ _ _ _ uU (bE.ext q2 zZ) (⟨95,#[],#[],rfl,yi,fun w1 hw1 x z hI=>td _ _ _ _ hI⟩)),fun zX=>aa (aZ (p:=((cx:Nat):Int)≠((Cx:Nat):Int)) (q:=0≤cT uU (Mx i) cx) (zX 5 rfl) (fun hq=>(zX 7 rfl hq))),trivial⟩) ?_;intro e3 w4 hx3 ho2 hf2;replace hA1:=bj.ext hA1 hx3;replace hX1:=aC.trans hX1 hx3;have s1_e3:=ho2 1 rfl s1_e2;have s22_e3:=ho2 22 rfl s22_e2;have s23_e3:=ho2 23 rfl s23_e2;have s24_e3:=ho2 24 rfl s24_e2;have s36_e3:e3 36=_:=hf2 8 rfl;refine RL.nil ?_;refine ae ((((cx:Nat):Int)≠((Cx:Nat):Int))∨(0≤cT uU (Mx i) cx)) s36_e3 (fun c36=> ?_) (fun c36=> ?_)
   ·
    refine ab ?_;refine RL.p rfl rfl (cD.assign rfl) ?_;refine RL.nil ?_;refine WP.ret ?_;refine iF.ret ?_;refine oL.ret ?_;refine oL.ret ?_;refine iF.ret ?_;refine oL.ret ?_;refine ⟨.bool (false),zw.one (fC.tmp rfl),_,rfl,hX1,?_⟩;dsimp only;exact congrArg _ (decide_eq_false fun h=>vn (i:=i) h (by omega) c36).symm
   ·
    refine WP.skip ?_;refine iF.norm ?_;refine oL.norm ?_;refine WP.region ?_;refine RL.p rfl rfl (cD.add (c:=((i + 1:Nat):Int)) s24_e3 rfl (bS (by omega))) ?_;refine RL.p rfl rfl (cD.move rfl) ?_;refine RL.nil ?_;refine oL.norm ⟨_,(by omega),i + 1,rfl,s1_e3,s22_e3,s23_e3,rfl,(by omega),(.inr (vm c36)),hX1,hA1⟩
  ·
   refine WP.exit ?_;refine oL.exit ?_;refine oL.exit ?_;refine iF.same ?_;refine oL.norm ?_;refine ab ?_;refine RL.p rfl rfl (cD.assign rfl) ?_;refine RL.nil ?_;refine WP.ret ?_;refine ⟨.bool (true),zw.one (fC.tmp rfl),_,rfl,hX1,?_⟩;dsimp only;exact congrArg _ (decide_eq_true ⟨by omega,by omega⟩).symm
set_option maxRecDepth 10000 in
theorem xz (w:World) (o:Value) (zo:Int) (bto:Nat) (x:Value) (zx:Int) (btx:Nat) (y:Value) (zy:Int) (bty:Nat) (ho:am w o zo bto) (hx:am w x zx btx) (hy:am w y zy bty) (hb:btx + bty + 1≤bo) (hb2:bto + 1≤bo) (hfit:(zo + zx*zy).natAbs<2^bto):Calls Tryz.prog 121 #[o,x,y] w (cg w fun v w'=>am w' v (zo + zx*zy) bto):=by
 have hLIM:bo=562949953421312:=rfl;refine ah (N:=21) (rs:= #[.cell 6 49]) Tryz.func121 rfl rfl rfl (Nat.le_of_ble_eq_true rfl) ?_;have hX:aC w w:=aC.refl w;refine ab ?_;obtain ⟨ca1,cb1,hq1,ho1,ho2⟩:=am.cells (am.ext ho hX);have qi1:am w (.agg #[ca1,cb1]) zo bto:=hq1▸(am.ext ho hX);refine RL.x rfl rfl (cZ.box [ca1,cb1] hq1 rfl) ?_;rintro _ w1 ⟨g1,rfl,hge1,hx1,hA1⟩;replace qi1:=am.ext qi1 hx1;replace hX:=aC.trans hX hx1;obtain ⟨ca2,cb2,hq2,ho3,ho4⟩:=am.cells (am.ext hx hX);have qi2:am w1 (.agg #[ca2,cb2]) zx btx:=hq2▸(am.ext hx hX);refine RL.x rfl rfl (cZ.box [ca2,cb2] hq2 rfl) ?_;rintro _ w2 ⟨g2,rfl,hge2,hx2,hA2⟩;replace qi1:=am.ext qi1 hx2;replace hA1:=bj.ext hA1 hx2;replace qi2:=am.ext qi2 hx2;replace hX:=aC.trans hX hx2;obtain ⟨ca3,cb3,hq3,ho5,ho6⟩:=am.cells (am.ext hy hX);have qi3:am w2 (.agg #[ca3,cb3]) zy bty:=hq3▸(am.ext hy hX);refine RL.x rfl rfl (cZ.box [ca3,cb3] hq3 rfl) ?_;rintro _ w3 ⟨g3,rfl,hge3,hx3,hA3⟩;replace qi1:=am.ext qi1 hx3;replace hA1:=bj.ext hA1 hx3;replace qi2:=am.ext qi2 hx3;replace hA2:=bj.ext hA2 hx3;replace qi3:=am.ext qi3 hx3;replace hX:=aC.trans hX hx3;refine RL.x rfl rfl (cZ.alloc [.bool (false),.slice (none) (0) (0)] bV rfl) ?_;rintro _ w4 ⟨g4,rfl,hge4,hx4,hA4⟩;have hbs4:w.heap.size≤g4:=Nat.le_trans hX.size hge4;replace qi1:=am.ext qi1 hx4;replace hA1:=bj.ext hA1 hx4;replace qi2:=am.ext qi2 hx4;replace hA2:=bj.ext hA2 hx4;replace qi3:=am.ext qi3 hx4;replace hA3:=bj.ext hA3 hx4;replace hX:=aC.trans hX hx4;refine RL.nil ?_;refine WP.seq ?_;refine aE ak 8 [_,_,_,fun v Aa=>v= .bool (decide (((zx:Int).sign:Int)=(0:Int))),_,_,_,_] rfl rfl (fun e_ w_ zZ zY=>⟨fun _=>aa (ag [ca2,cb2] au ((zY 4 rfl rfl)) ((bj.ext hA2 zZ).cells 0 _ rfl rfl)),fun zX=>cZ.call ji (aJ ((zX 0 rfl))) (fQ _ _ _ _ ((am.ext qi2 zZ))),fun zX=>aa (cD.eql ((zX 1 rfl)) rfl),fun zX=>aa (cD.move ((zX 2 rfl))),fun zX=>gF (zX 3 rfl) fun hg=>aa (ag [ca3,cb3] au ((zY 5 rfl rfl)) ((bj.ext hA3 zZ).cells 0 _ rfl rfl)),fun zX=>gF (zX 3 rfl) fun hg=>cZ.call ji (aJ ((zX 4 rfl hg))) (fQ _ _ _ _ ((am.ext qi3 zZ))),fun zX=>gF (zX 3 rfl) fun hg=>aa (cD.eql ((zX 5 rfl hg)) rfl),fun zX=>aa (aZ (p:=((zx:Int).sign:Int)=(0:Int)) (q:=((zy:Int).sign:Int)=(0:Int)) (zX 3 rfl) (fun hq=>(zX 6 rfl hq))),trivial⟩) ?_;intro e1 w5 hx5 ho7 hf1;replace qi1:=am.ext qi1 hx5;replace hA1:=bj.ext hA1 hx5;replace qi2:=am.ext qi2 hx5;replace hA2:=bj.ext hA2 hx5;replace qi3:=am.ext qi3 hx5;replace hA3:=bj.ext hA3 hx5;replace hA4:=bj.ext hA4 hx5;replace hX:=aC.trans hX hx5;have s3_e1:e1 3=_:=ho7 3 rfl rfl;have s4_e1:e1 4=_:=ho7 4 rfl rfl;have s5_e1:e1 5=_:=ho7 5 rfl rfl;have s6_e1:e1 6=_:=ho7 6 rfl rfl;have s14_e1:e1 14=_:=hf1 7 rfl;refine RL.nil ?_;refine ae ((((zx:Int).sign:Int)=(0:Int))∨(((zy:Int).sign:Int)=(0:Int))) s14_e1 (fun c14=> ?_) (fun c14=> ?_)
 ·
  refine ab ?_;refine RL.p rfl rfl (ag [ca1,cb1] au s3_e1 (hA1.cells 0 _ rfl rfl)) ?_;refine RL.x rfl rfl (cZ.store [ca1,cb1] bp s6_e1 rfl rfl hA4 (Nat.le_of_ble_eq_true rfl) (bN ho1 ho2)) ?_;rintro _ w6 ⟨hk1,hnew⟩;replace qi1:=ai qi1 hk1 hA4 (by decide);replace hX:=hX.step hk1 (fun b e=>by subst e;exact hbs4);replace hA4:=hnew.lit [ca1,cb1] rfl;clear hnew;refine RL.nil ?_;refine WP.ret ?_;refine oL.ret ?_;refine ⟨.agg #[ca1,cb1],zw.one (aj [ca1,cb1] au s6_e1 (hA4.cells 0 _ rfl rfl)),_,rfl,hX,?_⟩;dsimp only;exact am.eq qi1 (tL c14) hfit (by omega)
 ·
  refine WP.skip ?_;refine oL.norm ?_;refine aE ak 5 [_,_,_,_,_] rfl rfl (fun e_ w_ zZ zY=>⟨fun _=>aa (ag [ca1,cb1] au ((zY 3 rfl s3_e1)) ((bj.ext hA1 zZ).cells 0 _ rfl rfl)),fun _=>aa (ag [ca2,cb2] au ((zY 4 rfl s4_e1)) ((bj.ext hA2 zZ).cells 0 _ rfl rfl)),fun _=>aa (ag [ca3,cb3] au ((zY 5 rfl s5_e1)) ((bj.ext hA3 zZ).cells 0 _ rfl rfl)),fun zX=>cZ.call oZ (aB ((zX 1 rfl)) ((zX 2 rfl))) (pY _ _ _ _ _ _ _ ((btx) + (bty)) ((am.ext qi2 zZ)) ((am.ext qi3 zZ)) (by omega) (by omega)),fun zX=>cZ.call lT (aB ((zX 0 rfl)) rfl) (pZ _ _ _ _ _ _ _ (max (bto) ((btx) + (bty)) + 1) ((am.ext qi1 zZ)) ((zX 3 rfl)) (by omega) (by omega) (by omega)),trivial⟩) ?_;intro e2 w7 hx6 ho8 hf2;replace hA4:=bj.ext hA4 hx6;replace hX:=aC.trans hX hx6;have s6_e2:=ho8 6 rfl s6_e1;have s20_e2:am w7 (e2 20) ((zo:Int) + ((zx:Int)*(zy:Int):Int)) (max (bto) ((btx) + (bty)) + 1):=hf2 4 rfl;obtain ⟨ca4,cb4,hq4,ho9,ho10⟩:=am.cells s20_e2;have qi4:am w7 (.agg #[ca4,cb4]) ((zo:Int) + ((zx:Int)*(zy:Int):Int)) (max (bto) ((btx) + (bty)) + 1):=hq4▸s20_e2;refine RL.x rfl rfl (cZ.store [ca4,cb4] bp s6_e2 hq4 rfl hA4 (Nat.le_of_ble_eq_true rfl) (bN ho9 ho10)) ?_;rintro _ w8 ⟨hk2,hnew⟩;replace qi4:=ai qi4 hk2 hA4 (by decide);replace hX:=hX.step hk2 (fun b e=>by subst e;exact hbs4);replace hA4:=hnew.lit [ca4,cb4] rfl;clear hnew;refine RL.nil ?_;refine WP.ret ?_;refine ⟨.agg #[ca4,cb4],zw.one (aj [ca4,cb4] au s6_e2 (hA4.cells 0 _ rfl rfl)),_,rfl,hX,?_⟩;dsimp only;exact am.eq qi4 rfl hfit (by omega)
set_option maxRecDepth 10000 in
theorem xy (w:World) (x:Value) (nx:Nat) (zx:Nat→Int) (btx:Nat) (y:Value) (zy:Nat→Int) (bty:Nat) (o:Value) (zo:Int) (bto:Nat) (fv:Value) (hx:bE w x nx zx btx) (hy:bE w y nx zy bty) (ho:am w o zo bto) (hF:zD Tryz.prog w fv btx bty bto) (hlo:bto≤bo) (hfit:∀k,k≤nx→(zo + aM k (fun a=>zx a*zy a)).natAbs<2^bto):Calls Tryz.prog 120 #[x,y,o,fv] w (cg w fun v w'=>am w' v (zo + aM nx (fun a=>zx a*zy a)) bto):=by
 have hLIM:bo=562949953421312:=rfl;have hlimx:=hx.lim;have hlimy:=hy.lim;refine ah (N:=28) (rs:= #[.cell 8 49]) Tryz.func120 rfl rfl rfl (Nat.le_of_ble_eq_true rfl) ?_;have hX:aC w w:=aC.refl w;refine ab ?_;obtain ⟨ca1,cb1,hq1,ho1,ho2⟩:=am.cells (am.ext ho hX);have qi1:am w (.agg #[ca1,cb1]) zo bto:=hq1▸(am.ext ho hX);refine RL.x rfl rfl (cZ.box [ca1,cb1] hq1 rfl) ?_;rintro _ w1 ⟨g1,rfl,hge1,hx1,hA1⟩;have hbs1:w.heap.size≤g1:=Nat.le_trans hX.size hge1;replace qi1:=am.ext qi1 hx1;replace hX:=aC.trans hX hx1;refine RL.x rfl rfl (cZ.alloc [.bool (false),.slice (none) (0) (0)] bV rfl) ?_;rintro _ w2 ⟨g2,rfl,hge2,hx2,hA2⟩;have ne1:g1≠g2:=Nat.ne_of_lt (Nat.lt_of_lt_of_le hA1.lt hge2);have hbs2:w.heap.size≤g2:=Nat.le_trans hX.size hge2;replace qi1:=am.ext qi1 hx2;replace hA1:=bj.ext hA1 hx2;replace hX:=aC.trans hX hx2;refine RL.nil ?_;refine WP.seq ?_;refine ab ?_;refine RL.p rfl rfl (cD.move rfl) ?_;refine RL.p rfl rfl (cc bg rfl (bE.ext hx hX)) ?_;refine RL.p rfl rfl (cD.move rfl) ?_;refine RL.nil ?_;refine WP.block ?_;refine WP.loop (fun mz ez uz=>∃i:Nat,∃ka:Value,∃kb:Value,(mz=nx - i)∧(ez 0=x)∧(ez 1=y)∧(ez 3=fv)∧(ez 6= .pointer (some ⟨g1,0,none⟩))∧(ez 8= .pointer (some ⟨g2,0,none⟩))∧(ez 11= .int .i64 ((nx:Nat)))∧(ez 12= .int .i64 ((i:Nat)))∧(i≤nx)∧(am uz (.agg #[ka,kb]) (zo + aM i (fun a=>zx a*zy a)) bto)∧(aC w uz)∧(bj uz g1 49 2 (bX [ka,kb]))∧(bj uz g2 49 2 (bX [.bool (false),.slice (none) (0) (0)]))) (nx - 0) ?_ ?_
 · exact ⟨0,ca1,cb1,rfl,rfl,rfl,rfl,rfl,rfl,rfl,rfl,(by omega),(am.eq qi1 (Int.add_zero _).symm (hfit 0 (Nat.zero_le _)) (by omega)),hX,hA1,hA2⟩
 rintro m1 e1 w3 ⟨i,ka,kb,hm1,s0_e1,s1_e1,s3_e1,s6_e1,s8_e1,s11_e1,s12_e1,hi,hIk,hX1,hA1,hA2⟩;refine ab ?_;refine RL.p rfl rfl (cD.lss s12_e1 s11_e1) ?_;refine RL.nil ?_;refine WP.seq ?_;refine ae (((i:Nat):Int)<((nx:Nat):Int)) rfl (fun c13=> ?_) (fun c13=> ?_)
 ·
  refine WP.skip ?_;refine oL.norm ?_;refine WP.seq ?_;refine WP.block ?_;refine ab ?_;refine RL.p rfl rfl (cD.move s12_e1) ?_;refine RL.p rfl rfl (cD.assign rfl) ?_;refine RL.nil ?_;refine WP.ds ak 11 [_,_,_,_,_,_,_,_,_,_,fun v Aa=>am Aa v ((zo + aM i (fun a=>zx a*zy a)) + (zx i)*(zy i)) bto] rfl rfl (fun e_ w_ zZ zY=>⟨fun _=>aa (cD.move ((zY 3 rfl s3_e1))),fun _=>aa (ag [ka,kb] au ((zY 6 rfl s6_e1)) ((bj.ext hA1 zZ).cells 0 _ rfl rfl)),fun _=>aa (cD.move ((zY 0 rfl s0_e1))),fun _=>aa (cD.move ((zY 9 rfl rfl))),fun zX=>af (aR (j:=i) bg (zX 2 rfl) (bE.ext (bE.ext hx hX1) zZ) (zX 3 rfl) (by omega) (by omega)),fun zX=>af (aX au rfl (zX 4 rfl)),fun _=>aa (cD.move ((zY 1 rfl s1_e1))),fun _=>aa (cD.move ((zY 9 rfl rfl))),fun zX=>af (aR (j:=i) bg (zX 6 rfl) (bE.ext (bE.ext hy hX1) zZ) (zX 7 rfl) (by omega) (by omega)),fun zX=>af (aX au rfl (zX 8 rfl)),fun zX=>nO (zX 0 rfl) (zD.ext (zD.ext hF hX1) zZ) (zX 1 rfl) rfl rfl (am.ext hIk zZ) (zX 5 rfl) (zX 9 rfl) (by rw [Int.add_assoc];exact hfit (i + 1) (by omega)),trivial⟩) ?_;intro e2 w4 hx3 ho3 hf1;replace hA1:=bj.ext hA1 hx3;replace hA2:=bj.ext hA2 hx3;replace hX1:=aC.trans hX1 hx3;have s0_e2:=ho3 0 rfl s0_e1;have s1_e2:=ho3 1 rfl s1_e1;have s3_e2:=ho3 3 rfl s3_e1;have s6_e2:=ho3 6 rfl s6_e1;have s8_e2:=ho3 8 rfl s8_e1;have s11_e2:=ho3 11 rfl s11_e1;have s12_e2:=ho3 12 rfl s12_e1;have s25_e2:am w4 (e2 25) ((zo + aM i (fun a=>zx a*zy a)) + (zx i)*(zy i)) bto:=hf1 10 rfl;obtain ⟨ca2,cb2,hq2,ho4,ho5⟩:=am.cells s25_e2;have qi2:am w4 (.agg #[ca2,cb2]) ((zo + aM i (fun a=>zx a*zy a)) + (zx i)*(zy i)) bto:=hq2▸s25_e2;refine RL.x rfl rfl (cZ.store [ca2,cb2] bp s6_e2 hq2 rfl hA1 (Nat.le_of_ble_eq_true rfl) (bN ho4 ho5)) ?_;rintro _ w5 ⟨hk1,hnew⟩;replace hA2:=hA2.keep hk1 (Ne.symm ne1);replace qi2:=ai qi2 hk1 hA1 (by decide);replace hX1:=hX1.step hk1 (fun b e=>by subst e;exact hbs1);replace hA1:=hnew.lit [ca2,cb2] rfl;clear hnew;refine RL.nil ?_;refine iF.norm ?_;refine oL.norm ?_;refine WP.region ?_;refine RL.p rfl rfl (cD.add (c:=((i + 1:Nat):Int)) s12_e2 rfl (bS (by omega))) ?_;refine RL.p rfl rfl (cD.move rfl) ?_;refine RL.nil ?_;refine oL.norm ⟨_,(by omega),i + 1,ca2,cb2,rfl,s0_e2,s1_e2,s3_e2,s6_e2,s8_e2,s11_e2,rfl,(by omega),(am.eq qi2 (Int.add_assoc _ _ _) (hfit (i + 1) (by omega)) (by omega)),hX1,hA1,hA2⟩
 ·
  refine WP.exit ?_;refine oL.exit ?_;refine oL.exit ?_;refine iF.same ?_;refine oL.norm ?_;refine ab ?_;refine RL.p rfl rfl (ag [ka,kb] au s6_e1 (hA1.cells 0 _ rfl rfl)) ?_;refine RL.x rfl rfl (cZ.store [ka,kb] bp s8_e1 rfl rfl hA2 (Nat.le_of_ble_eq_true rfl) (bN (rA hIk) (am.oneB hIk))) ?_;rintro _ w6 ⟨hk2,hnew⟩;replace hIk:=ai hIk hk2 hA2 (by decide);replace hX1:=hX1.step hk2 (fun b e=>by subst e;exact hbs2);replace hA2:=hnew.lit [ka,kb] rfl;clear hnew;refine RL.nil ?_;refine WP.ret ?_;refine ⟨.agg #[ka,kb],zw.one (aj [ka,kb] au s8_e1 (hA2.cells 0 _ rfl rfl)),_,rfl,hX1,?_⟩;dsimp only;have hin:i=nx:=by omega
  subst hin;exact hIk
set_option maxRecDepth 10000 in
theorem za (w:World) (x:Value) (nx:Nat) (zx:Nat→Int) (btx:Nat) (y:Value) (zy:Nat→Int) (bty:Nat) (b:Nat) (hx:bE w x nx zx btx) (hy:bE w y nx zy bty) (hb:btx + bty + 1≤bo) (hb2:b + 1≤bo) (hfit:∀k,k≤nx→(aM k (fun a=>zx a*zy a)).natAbs<2^b):Calls Tryz.prog 99 #[x,y] w (cg w fun v w'=>am w' v (aM nx (fun a=>zx a*zy a)) b):=by
 have hLIM:bo=562949953421312:=rfl;have hlimx:=hx.lim;have hlimy:=hy.lim;refine ah (N:=9) (rs:= #[.cell 4 49]) Tryz.func99 rfl rfl rfl (Nat.le_of_ble_eq_true rfl) ?_;have hX:aC w w:=aC.refl w;refine ab ?_;refine RL.x rfl rfl (cZ.alloc [.bool (false),.slice (none) (0) (0)] bV rfl) ?_;rintro _ w1 ⟨g1,rfl,hge1,hx1,hA1⟩;have hbs1:w.heap.size≤g1:=Nat.le_trans hX.size hge1;replace hX:=aC.trans hX hx1;refine RL.nil ?_;refine ab ?_;refine RL.p rfl rfl (cD.move rfl) ?_;refine RL.p rfl rfl (cD.move rfl) ?_;refine RL.p rfl rfl (cD.build (vs:= []) [(0,1),(1,1)] lc bV (ma) rfl) ?_;refine RL.x rfl rfl (cZ.call wX (tV rfl rfl rfl rfl) (xy _ _ _ _ _ _ _ _ _ 0 b _ (bE.ext hx hX) (bE.ext hy hX) (am.up (am.zero _) (Nat.zero_le _) (by omega)) ⟨121,#[],#[],rfl,wW,fun w1 hw1 o x y zo zx zy h1 h2 h3 hb=>xz _ _ _ _ _ _ _ _ _ _ h1 h2 h3 (by omega) (by omega) hb⟩ (by omega) (fun k hk=>by rw [Int.zero_add];exact hfit k hk))) ?_;rintro v1 w2 ⟨hx2,q1⟩;replace hA1:=bj.ext hA1 hx2;replace hX:=aC.trans hX hx2;obtain ⟨ca1,cb1,hq1,ho1,ho2⟩:=am.cells q1;have qi1:am w2 (.agg #[ca1,cb1]) (0 + aM nx (fun a=>zx a*zy a)) b:=hq1▸q1;refine RL.x rfl rfl (cZ.store [ca1,cb1] bp rfl hq1 rfl hA1 (Nat.le_of_ble_eq_true rfl) (bN ho1 ho2)) ?_;rintro _ w3 ⟨hk1,hnew⟩;replace qi1:=ai qi1 hk1 hA1 (by decide);replace hX:=hX.step hk1 (fun b e=>by subst e;exact hbs1);replace hA1:=hnew.lit [ca1,cb1] rfl;clear hnew;refine RL.nil ?_;refine WP.ret ?_;refine ⟨.agg #[ca1,cb1],zw.one (aj [ca1,cb1] au rfl (hA1.cells 0 _ rfl rfl)),_,rfl,hX,?_⟩;dsimp only;exact am.eq qi1 (Int.zero_add _) (hfit nx (Nat.le_refl _)) (by omega)
set_option maxRecDepth 10000 in
theorem xA (w:World) (i:Nat) (j:Nat) (gx:Nat) (sx:Value) (rx cx:Nat) (Mx:Nat→Nat→Int) (btx:Nat) (gy:Nat) (sy:Value) (ry:Nat) (My:Nat→Nat→Int) (bty:Nat) (b:Nat) (hAx:bj w gx 28 3 (bX [.int .i64 (rx:Nat),.int .i64 (cx:Nat),sx])) (hSx:ck w sx rx cx Mx btx) (hrx:rx≤65536) (hcx:cx≤65536) (hAy:bj w gy 28 3 (bX [.int .i64 (ry:Nat),.int .i64 (cx:Nat),sy])) (hSy:ck w sy ry cx My bty) (hry:ry≤65536) (hcy:cx≤65536) (hi:i<rx) (hj:j<ry) (hb:btx + bty + 1≤bo) (hb2:b + 1≤bo) (hfit:∀k,k≤cx→(aM k (fun a=>Mx i a*My j a)).natAbs<2^b):Calls Tryz.prog 98 #[.int .i64 (i:Nat),.int .i64 (j:Nat),.pointer (some ⟨gx,0,none⟩),.pointer (some ⟨gy,0,none⟩)] w (cg w fun v w'=>am w' v (aM cx (fun a=>Mx i a*My j a)) b):=by
 have hLIM:bo=562949953421312:=rfl;refine ah (N:=18) (rs:= #[.cell 6 49]) Tryz.func98 rfl rfl rfl (Nat.le_of_ble_eq_true rfl) ?_;have hX:aC w w:=aC.refl w;refine ab ?_;refine RL.x rfl rfl (cZ.alloc [.bool (false),.slice (none) (0) (0)] bV rfl) ?_;rintro _ w1 ⟨g1,rfl,hge1,hx1,hA1⟩;have hbs1:w.heap.size≤g1:=Nat.le_trans hX.size hge1;replace hX:=aC.trans hX hx1;refine RL.nil ?_;refine aE ak 11 [_,_,_,_,_,_,_,_,_,_,_] rfl rfl (fun e_ w_ zZ zY=>⟨fun _=>aa (cD.fieldAddr an ((zY 2 rfl rfl))),fun zX=>aa (cD.load aF ((zX 0 rfl)) ((bj.ext (bj.ext hAx hX) zZ).at_ (i:=2) rfl rfl)),fun _=>aa (cD.move ((zY 0 rfl rfl))),fun zX=>af (aN (j:=i) az (zX 1 rfl) (ck.ext (ck.ext hSx hX) zZ) (zX 2 rfl) (by omega) (by omega)),fun zX=>af (aW aP rfl (zX 3 rfl)),fun _=>aa (cD.fieldAddr an ((zY 3 rfl rfl))),fun zX=>aa (cD.load aF ((zX 5 rfl)) ((bj.ext (bj.ext hAy hX) zZ).at_ (i:=2) rfl rfl)),fun _=>aa (cD.move ((zY 1 rfl rfl))),fun zX=>af (aN (j:=j) az (zX 6 rfl) (ck.ext (ck.ext hSy hX) zZ) (zX 7 rfl) (by omega) (by omega)),fun zX=>af (aW aP rfl (zX 8 rfl)),fun zX=>cZ.call ye (aB rfl rfl) (za _ _ _ _ _ _ _ _ b (zX 4 rfl) (zX 9 rfl) (by omega) (by omega) (fun k hk=>hfit k hk)),trivial⟩) ?_;intro e1 w2 hx2 ho1 hf1;replace hA1:=bj.ext hA1 hx2;replace hX:=aC.trans hX hx2;have s6_e1:e1 6=_:=ho1 6 rfl rfl;have s17_e1:am w2 (e1 17) (aM cx (fun a=>(Mx i) a*(My j) a)) b:=hf1 10 rfl;obtain ⟨ca1,cb1,hq1,ho2,ho3⟩:=am.cells s17_e1;have qi1:am w2 (.agg #[ca1,cb1]) (aM cx (fun a=>(Mx i) a*(My j) a)) b:=hq1▸s17_e1;refine RL.x rfl rfl (cZ.store [ca1,cb1] bp s6_e1 hq1 rfl hA1 (Nat.le_of_ble_eq_true rfl) (bN ho2 ho3)) ?_;rintro _ w3 ⟨hk1,hnew⟩;replace qi1:=ai qi1 hk1 hA1 (by decide);replace hX:=hX.step hk1 (fun b e=>by subst e;exact hbs1);replace hA1:=hnew.lit [ca1,cb1] rfl;clear hnew;refine RL.nil ?_;refine WP.ret ?_;refine ⟨.agg #[ca1,cb1],zw.one (aj [ca1,cb1] au s6_e1 (hA1.cells 0 _ rfl rfl)),_,rfl,hX,?_⟩;dsimp only;exact qi1
set_option maxRecDepth 10000 in
theorem zb (w:World) (x:Value) (rx cx:Nat) (Mx:Nat→Nat→Int) (btx:Nat) (y:Value) (ry cy:Nat) (My:Nat→Nat→Int) (bty:Nat) (b:Nat) (hx:bU w x rx cx Mx btx) (hy:bU w y ry cy My bty) (hxy:cx=ry) (hb:btx + bty + 1≤bo) (hb2:b + 1≤bo) (hfit:∀i j k,i<rx→j<cy→k≤cx→(aM k (fun x=>Mx i x*My x j)).natAbs<2^b):Calls Tryz.prog 61 #[x,y] w (cg w fun v w'=>∃v1,v= .tuple #[v1,.int .i64 0]∧ct w' v1 w.heap.size rx cy (bC cx Mx My) b):=by
 have hLIM:bo=562949953421312:=rfl;have hmatx:=hx;obtain ⟨sx,rfl,hrx,hcx,hSx⟩:=hx.form;have hmaty:=hy;obtain ⟨sy,rfl,hry,hcy,hSy⟩:=hy.form;refine ah (N:=21) (rs:= #[.cell 4 28,.tmp 5]) Tryz.func61 rfl rfl rfl (Nat.le_of_ble_eq_true rfl) ?_;have hX:aC w w:=aC.refl w;refine ab ?_;refine RL.x rfl rfl (cZ.box [.int .i64 ((rx:Nat)),.int .i64 ((cx:Nat)),sx] rfl rfl) ?_;rintro _ w1 ⟨g1,rfl,hge1,hx1,hA1⟩;replace hX:=aC.trans hX hx1;refine RL.x rfl rfl (cZ.box [.int .i64 ((ry:Nat)),.int .i64 ((cy:Nat)),sy] rfl rfl) ?_;rintro _ w2 ⟨g2,rfl,hge2,hx2,hA2⟩;replace hA1:=bj.ext hA1 hx2;replace hX:=aC.trans hX hx2;refine RL.x rfl rfl (cZ.alloc [.int .i64 (0),.int .i64 (0),.slice (none) (0) (0)] cd rfl) ?_;rintro _ w3 ⟨g3,rfl,hge3,hx3,hA3⟩;have hbs3:w.heap.size≤g3:=Nat.le_trans hX.size hge3;replace hA1:=bj.ext hA1 hx3;replace hA2:=bj.ext hA2 hx3;replace hX:=aC.trans hX hx3;refine RL.p rfl rfl (cD.assign rfl) ?_;refine RL.nil ?_;refine WP.seq ?_;refine ab ?_;refine RL.p rfl rfl (cD.fieldAddr bs rfl) ?_;refine RL.p rfl rfl (cD.load bt rfl (hA1.at_ (i:=1) rfl rfl)) ?_;refine RL.p rfl rfl (cD.fieldAddr aS rfl) ?_;refine RL.p rfl rfl (cD.load bt rfl (hA2.at_ (i:=0) rfl rfl)) ?_;refine RL.p rfl rfl (cD.neq rfl rfl) ?_;refine RL.nil ?_;refine ae (((cx:Nat):Int)≠((ry:Nat):Int)) rfl (fun hn=>absurd hn ((by omega))) (fun c11=> ?_);refine WP.skip ?_;refine oL.norm ?_;refine ab ?_;refine RL.p rfl rfl (ag [.int .i64 ((ry:Nat)),.int .i64 ((cy:Nat)),sy] aL rfl (hA2.cells 0 _ rfl rfl)) ?_;refine RL.x rfl rfl (cZ.call yg (aJ rfl) (md _ _ _ _ _ _ (bU.mk (ck.ext hSy hX) (by omega) (by omega)))) ?_;rintro v1 w4 ⟨hx4,q1⟩;replace hA1:=bj.ext hA1 hx4;replace hA2:=bj.ext hA2 hx4;replace hA3:=bj.ext hA3 hx4;replace hX:=aC.trans hX hx4;refine RL.x rfl rfl (cZ.alloc [.int .i64 (0),.int .i64 (0),.slice (none) (0) (0)] cd rfl) ?_;rintro _ w5 ⟨g4,rfl,hge4,hx5,hA4⟩;have ne4:g1≠g4:=Nat.ne_of_lt (Nat.lt_of_lt_of_le hA1.lt hge4);have ne5:g2≠g4:=Nat.ne_of_lt (Nat.lt_of_lt_of_le hA2.lt hge4);have ne6:g3≠g4:=Nat.ne_of_lt (Nat.lt_of_lt_of_le hA3.lt hge4);have hbs4:w.heap.size≤g4:=Nat.le_trans hX.size hge4;replace hA1:=bj.ext hA1 hx5;replace hA2:=bj.ext hA2 hx5;replace hA3:=bj.ext hA3 hx5;replace q1:=bU.ext q1 hx5;replace hX:=aC.trans hX hx5;obtain ⟨sv1,hq1,hr1,hc1,hS1⟩:=q1.form;refine RL.x rfl rfl (cZ.store [.int .i64 ((cy:Nat)),.int .i64 ((ry:Nat)),sv1] cG rfl hq1 rfl hA4 (Nat.le_of_ble_eq_true rfl) (cJ rfl rfl hS1.one)) ?_;rintro _ w6 ⟨hk1,hnew⟩;replace hA1:=hA1.keep hk1 ne4;replace hA2:=hA2.keep hk1 ne5;replace hA3:=hA3.keep hk1 ne6;replace hS1:=bG hS1 hk1 hA4 (by decide);replace hX:=hX.step hk1 (fun b e=>by subst e;exact hbs4);replace hA4:=hnew.lit [.int .i64 ((cy:Nat)),.int .i64 ((ry:Nat)),sv1] rfl;clear hnew;refine RL.nil ?_;refine ab ?_;refine RL.p rfl rfl (cD.fieldAddr aS rfl) ?_;refine RL.p rfl rfl (cD.load bt rfl (hA1.at_ (i:=0) rfl rfl)) ?_;refine RL.p rfl rfl (cD.fieldAddr bs rfl) ?_;refine RL.p rfl rfl (cD.load bt rfl (hA2.at_ (i:=1) rfl rfl)) ?_;refine RL.p rfl rfl (cD.makeFunc (lE) (aB rfl rfl)) ?_;have hBw1:w.heap.size≤w6.heap.size:=hX.size;refine RL.x rfl rfl (cZ.call pa (cN rfl rfl rfl) (jx _ rx cy _ (bC cx Mx My) b (by omega) (by omega) ⟨98,#[],#[.pointer (some ⟨g1,0,none⟩),.pointer (some ⟨g4,0,none⟩)],rfl,yf,fun w1 hw1 i j hi hj=>by subst hxy;exact xA _ i j _ _ _ _ _ _ _ _ _ (fun i j=>My j i) _ b (bj.ext hA1 hw1) (ck.ext (ck.ext hSx hX) hw1) (by omega) (by omega) (bj.ext hA4 hw1) (ck.ext hS1 hw1) (by omega) (by omega) (by omega) (by omega) (by omega) (by omega) (fun k hk=>hfit i j k (by omega) (by omega) hk)⟩ (by omega))) ?_;rintro v2 w7 ⟨hx6,q2⟩;replace hA3:=bj.ext hA3 hx6;replace hX:=aC.trans hX hx6;obtain ⟨gh1,kh1,ρ1,hq2,hM1⟩:=q2;have hd1:=cw.dlim hM1;have hd2:=cw.clim hM1;refine RL.x rfl rfl (cZ.store [.int .i64 ((rx:Nat)),.int .i64 ((cy:Nat)),.slice (some ⟨gh1,0,none⟩) (rx) (kh1)] cG rfl hq2 rfl hA3 (Nat.le_of_ble_eq_true rfl) (cJ rfl rfl rfl)) ?_;rintro _ w8 ⟨hk2,hnew⟩;replace hM1:=be hM1 hk2 hA3 (by decide);replace hX:=hX.step hk2 (fun b e=>by subst e;exact hbs3);replace hA3:=hnew.lit [.int .i64 ((rx:Nat)),.int .i64 ((cy:Nat)),.slice (some ⟨gh1,0,none⟩) (rx) (kh1)] rfl;clear hnew;refine RL.p rfl rfl (cD.assign rfl) ?_;refine RL.nil ?_;refine WP.ret ?_;refine ⟨.tuple #[.agg #[.int .i64 ((rx:Nat)),.int .i64 ((cy:Nat)),.slice (some ⟨gh1,0,none⟩) (rx) (kh1)],.int .i64 (0)],dZ (aj [.int .i64 ((rx:Nat)),.int .i64 ((cy:Nat)),.slice (some ⟨gh1,0,none⟩) (rx) (kh1)] aL rfl (hA3.cells 0 _ rfl rfl)) (fC.tmp rfl),_,rfl,hX,?_⟩;dsimp only;exact ⟨_,rfl,⟨_,_,_,rfl,cw.low hM1 (hBw1)⟩⟩
end Go.TL
namespace Go.TL
open Go.RowKit Go.Proofs
set_option linter.unusedVariables false
theorem nw (w:World) (x:Value) (r c:Nat) (M:Nat→Nat→Int) (b:Nat) (hx:bU w x r c M b):Calls Tryz.prog 59 #[x] w (cg w fun v _=>v= .bool (decide True)):=by
  obtain ⟨s,rfl,hr,hc,hS⟩:=hx.form;refine (pA w s r c r c M b hr.1 hc hS).mono ?_;rintro e w' ⟨v,rfl,hx',h⟩;exact ⟨v,rfl,hx',h.trans (congrArg _ (decide_eq_decide.2 (iff_of_true mH.same trivial)))⟩
def eU (v:Nat→Int) (C:Nat) (u:Nat→Int):Prop:=u C<0∨v C≤u C
instance (v:Nat→Int) (C:Nat):DecidablePred (eU v C):=fun u=>inferInstanceAs (Decidable (u C<0∨v C≤u C))
theorem qn {v u:Nat→Int} {C:Nat}:((u C).sign<0∨0≤cb (u C) (v C))↔eU v C u:=by
  unfold eU;rw [fz,dp]
theorem xC {M:Nat→Nat→Int} {c i:Nat} (hpa:(piv (M i) c).toNat<c∧((piv (M i) c).toNat:Int)=piv (M i) c∧M i (piv (M i) c).toNat≠0∧∀j,j<(piv (M i) c).toNat→M i j=0)
    (h1:¬(piv (M i) c≤lastP M c i∨(M i (piv (M i) c).toNat).sign<0)) (h2:¬0≤io (eU (M i) (piv (M i) c).toNat) M i):iE M c i:=by
  have h3:=mt (dp (M i (piv (M i) c).toNat)).2 (fun h=>h1 (.inr h));refine .inr ⟨by have:=fun h=>h1 (.inl h);omega,by have:=hpa.2.2.1;omega,fun k hk=> ?_⟩;have h4:=uK h2 hk
  unfold eU at h4
  exact ⟨by have:=fun h=>h4 (.inl h);omega,by have:=fun h=>h4 (.inr h);omega⟩
theorem vf {M:Nat→Nat→Int} {c i:Nat} (h:iE M c i) (h0:¬piv (M i) c<0) (h1:piv (M i) c≤lastP M c i∨(M i (piv (M i) c).toNat).sign<0):False:=by
  rcases h with h | ⟨h2,h3,_⟩
  · exact h0 h
  · rcases h1 with h1 | h1
    · omega
    · have:=(dp _).1 h1;omega
theorem ve {M:Nat→Nat→Int} {c i:Nat} (h:iE M c i) (h0:¬piv (M i) c<0) (h1:0≤io (eU (M i) (piv (M i) c).toNat) M i):False:=by
  rcases h with h | ⟨_,_,h3⟩
  · exact h0 h
  · obtain ⟨k,hk,hw⟩:=ss h1
    obtain ⟨g1,g2⟩:=h3 k hk
    unfold eU at hw
    omega
theorem qz {r c n:Nat}:(((True∧((r:Nat):Int)=((n:Nat):Int))∧((c:Nat):Int)=((n:Nat):Int)))↔(r=n∧c=n):=by
  constructor
  · rintro ⟨⟨_,h1⟩,h2⟩;omega
  · rintro ⟨h1,h2⟩;exact ⟨⟨trivial,by omega⟩,by omega⟩
end Go.TL
namespace Go.TL
open Go.RowKit Go.Proofs
set_option linter.unusedVariables false
set_option linter.unusedSimpArgs false
section
set_option maxRecDepth 100000
theorem xd:ay Tryz.prog 108=true:=by kernel_rfl
theorem rJ:ay Tryz.prog 59=true:=by kernel_rfl
theorem yy:ay Tryz.prog 75=true:=by kernel_rfl
theorem yx:ay Tryz.prog 77=true:=by kernel_rfl
theorem zG:(Tryz.prog.info? 3).bind (·.zero)=some (.int .i64 0):=by kernel_rfl
end
set_option maxRecDepth 10000 in
theorem si (w:World) (x:Value) (nx cx:Nat) (Mx:Nat→Nat→Int) (btx:Nat) (fv:Value) (p:(Nat→Int)→Prop) [DecidablePred p] (hx:ck w x nx cx Mx btx) (hF:uk Tryz.prog w fv cx btx p):Calls Tryz.prog 108 #[x,fv] w (cg w fun v w'=>v= .int .i64 (io p Mx nx)):=by
 have hLIM:bo=562949953421312:=rfl;have hlimx:=hx.lim;refine ah (N:=19) (rs:= #[.tmp 4]) Tryz.func108 rfl rfl rfl (Nat.le_of_ble_eq_true rfl) ?_;have hX:aC w w:=aC.refl w;refine ab ?_;refine RL.p rfl rfl (cD.assign rfl) ?_;refine RL.nil ?_;refine WP.seq ?_;refine ab ?_;refine RL.p rfl rfl (cD.move rfl) ?_;refine RL.p rfl rfl (cj az rfl (ck.ext hx hX)) ?_;refine RL.p rfl rfl (cD.move rfl) ?_;refine RL.nil ?_;refine WP.block ?_;refine WP.loop (fun mz ez uz=>∃i:Nat,(mz=nx - i)∧(ez 0=x)∧(ez 1=fv)∧(ez 7= .int .i64 ((nx:Nat)))∧(ez 8= .int .i64 ((i:Nat)))∧(i≤nx)∧(io p Mx i= -1)∧(aC w uz)) (nx - 0) ?_ ?_
 · exact ⟨0,rfl,rfl,rfl,rfl,rfl,(by omega),rfl,hX⟩
 rintro m1 e1 w1 ⟨i,hm1,s0_e1,s1_e1,s7_e1,s8_e1,hi,hnone,hX1⟩;refine ab ?_;refine RL.p rfl rfl (cD.lss s8_e1 s7_e1) ?_;refine RL.nil ?_;refine WP.seq ?_;refine ae (((i:Nat):Int)<((nx:Nat):Int)) rfl (fun c9=> ?_) (fun c9=> ?_)
 ·
  refine WP.skip ?_;refine oL.norm ?_;refine WP.seq ?_;refine WP.block ?_;refine ab ?_;refine RL.p rfl rfl (cD.move s8_e1) ?_;refine RL.p rfl rfl (cD.assign rfl) ?_;refine RL.nil ?_;refine ab ?_;refine RL.p rfl rfl (cD.move s1_e1) ?_;refine RL.p rfl rfl (cD.move s0_e1) ?_;refine RL.p rfl rfl (cD.move rfl) ?_;refine RL.x rfl rfl (aN (j:=i) az rfl (ck.ext hx hX1) rfl (by omega) (by omega)) ?_;rintro v1 _ ⟨rfl,q1⟩;refine RL.x rfl rfl (aW aP rfl q1) ?_;rintro v2 _ ⟨rfl,q2⟩;refine RL.x rfl rfl (mA rfl (uk.ext hF hX1) rfl q2) ?_;rintro _ w2 ⟨hx1,rfl⟩;replace hX1:=aC.trans hX1 hx1;refine RL.nil ?_;refine ae (p (Mx i)) rfl (fun c16=> ?_) (fun c16=> ?_)
  ·
   refine ab ?_;refine RL.p rfl rfl (cD.move rfl) ?_;refine RL.p rfl rfl (cD.assign rfl) ?_;refine RL.nil ?_;refine WP.ret ?_;refine iF.ret ?_;refine oL.ret ?_;refine oL.ret ?_;refine iF.ret ?_;refine oL.ret ?_;refine ⟨.int .i64 ((i:Nat)),zw.one (fC.tmp rfl),_,rfl,hX1,?_⟩;dsimp only;rw [od hnone c16 (by omega)]
  ·
   refine WP.skip ?_;refine iF.norm ?_;refine oL.norm ?_;refine WP.region ?_;refine RL.p rfl rfl (cD.add (c:=((i + 1:Nat):Int)) s8_e1 rfl (bS (by omega))) ?_;refine RL.p rfl rfl (cD.move rfl) ?_;refine RL.nil ?_;refine oL.norm ⟨_,(by omega),i + 1,rfl,s0_e1,s1_e1,s7_e1,rfl,(by omega),(qA hnone c16),hX1⟩
 ·
  refine WP.exit ?_;refine oL.exit ?_;refine oL.exit ?_;refine iF.same ?_;refine oL.norm ?_;refine ab ?_;refine RL.p rfl rfl (cD.assign rfl) ?_;refine RL.nil ?_;refine WP.ret ?_;refine ⟨.int .i64 (-1),zw.one (fC.tmp rfl),_,rfl,hX1,?_⟩;dsimp only;rw [show nx=i by omega,hnone]
set_option maxRecDepth 10000 in
theorem nb (w:World) (x:Value) (nx cx:Nat) (Mx:Nat→Nat→Int) (btx:Nat) (fv:Value) (p:(Nat→Int)→Prop) [DecidablePred p] (hx:ck w x nx cx Mx btx) (hF:uk Tryz.prog w fv cx btx p):Calls Tryz.prog 77 #[x,fv] w (cg w fun v w'=>v= .bool (decide (0≤io p Mx nx))):=by
 have hLIM:bo=562949953421312:=rfl;have hlimx:=hx.lim;refine ah (N:=9) (rs:= #[.tmp 4]) Tryz.func77 rfl rfl rfl (Nat.le_of_ble_eq_true rfl) ?_;have hX:aC w w:=aC.refl w;refine ab ?_;refine RL.p rfl rfl (cD.assign rfl) ?_;refine RL.nil ?_;refine ab ?_;refine RL.p rfl rfl (cD.move rfl) ?_;refine RL.p rfl rfl (cD.move rfl) ?_;refine RL.x rfl rfl (cZ.call xd (aB rfl rfl) (si _ _ _ _ _ _ _ p (ck.ext hx hX) (uk.ext hF hX))) ?_;rintro _ w1 ⟨hx1,rfl⟩;replace hX:=aC.trans hX hx1;refine RL.p rfl rfl (cD.geq rfl rfl) ?_;refine RL.p rfl rfl (cD.assign rfl) ?_;refine RL.nil ?_;refine WP.ret ?_;refine ⟨.bool (decide ((0:Int)≤(io p Mx nx:Int))),zw.one (fC.tmp rfl),_,rfl,hX,?_⟩
 rfl
set_option maxRecDepth 10000 in
theorem zc (w:World) (u:Value) (nu:Nat) (zu:Nat→Int) (btu:Nat) (gc C:Nat) (gv:Nat) (v:Value) (nv:Nat) (zv:Nat→Int) (btv:Nat) (hu:bE w u nu zu btu) (hAc:bj w gc 3 1 (bX [.int .i64 (C:Nat)])) (hAv:bj w gv 41 1 (bX [v])) (hv:bE w v nv zv btv) (hCu:C<nu) (hCv:C<nv):Calls Tryz.prog 75 #[u,.pointer (some ⟨gc,0,none⟩),.pointer (some ⟨gv,0,none⟩)] w (cg w fun v w'=>v= .bool (decide (eU zv C zu))):=by
 have hLIM:bo=562949953421312:=rfl;have hlimu:=hu.lim;refine ah (N:=23) (rs:= #[.tmp 4]) Tryz.func75 rfl rfl rfl (Nat.le_of_ble_eq_true rfl) ?_;have hX:aC w w:=aC.refl w;refine ab ?_;refine RL.p rfl rfl (cD.assign rfl) ?_;refine RL.nil ?_;refine aE ak 18 [_,_,_,_,_,_,fun v Aa=>v= .bool (decide (((zu C:Int).sign:Int)<(0:Int))),_,_,_,_,_,_,_,_,_,_,_] rfl rfl (fun e_ w_ zZ zY=>⟨fun _=>aa (cD.move ((zY 0 rfl rfl))),fun _=>aa (cD.load bt ((zY 1 rfl rfl)) ((bj.ext (bj.ext hAc hX) zZ).at_ (i:=0) rfl rfl)),fun zX=>af (aR (j:=C) bg (zX 0 rfl) (bE.ext (bE.ext hu hX) zZ) (zX 1 rfl) (by omega) (by omega)),fun zX=>af (aX au rfl (zX 2 rfl)),fun zX=>cZ.call ji (aJ rfl) (fQ _ _ _ _ ((zX 3 rfl))),fun zX=>aa (cD.lss ((zX 4 rfl)) rfl),fun zX=>aa (cD.move ((zX 5 rfl))),fun zX=>gF (zX 6 rfl) fun hg=>aa (cD.move ((zY 0 rfl rfl))),fun zX=>gF (zX 6 rfl) fun hg=>aa (cD.load bt ((zY 1 rfl rfl)) ((bj.ext (bj.ext hAc hX) zZ).at_ (i:=0) rfl rfl)),fun zX=>gF (zX 6 rfl) fun hg=>af (aR (j:=C) bg (zX 7 rfl hg) (bE.ext (bE.ext hu hX) zZ) (zX 8 rfl hg) (by omega) (by omega)),fun zX=>gF (zX 6 rfl) fun hg=>af (aX au rfl (zX 9 rfl hg)),fun zX=>gF (zX 6 rfl) fun hg=>aa (cD.load aP ((zY 2 rfl rfl)) ((bj.ext (bj.ext hAv hX) zZ).at_ (i:=0) rfl rfl)),fun zX=>gF (zX 6 rfl) fun hg=>aa (cD.load bt ((zY 1 rfl rfl)) ((bj.ext (bj.ext hAc hX) zZ).at_ (i:=0) rfl rfl)),fun zX=>gF (zX 6 rfl) fun hg=>af (aR (j:=C) bg (zX 11 rfl hg) (bE.ext (bE.ext hv hX) zZ) (zX 12 rfl hg) (by omega) (by omega)),fun zX=>gF (zX 6 rfl) fun hg=>af (aX au rfl (zX 13 rfl hg)),fun zX=>gF (zX 6 rfl) fun hg=>cZ.call rH (aB rfl rfl) (tS _ _ _ _ _ _ _ ((zX 10 rfl hg)) ((zX 14 rfl hg))),fun zX=>gF (zX 6 rfl) fun hg=>aa (cD.geq ((zX 15 rfl hg)) rfl),fun zX=>aa (aZ (p:=((zu C:Int).sign:Int)<(0:Int)) (q:=(0:Int)≤(cb (zu C) (zv C):Int)) (zX 6 rfl) (fun hq=>(zX 16 rfl hq))),trivial⟩) ?_;intro e1 w1 hx1 ho1 hf1;replace hX:=aC.trans hX hx1;have s22_e1:e1 22=_:=hf1 17 rfl;refine RL.p rfl rfl (cD.assign s22_e1) ?_;refine RL.nil ?_;refine WP.ret ?_;refine ⟨.bool (decide ((((zu C:Int).sign:Int)<(0:Int))∨((0:Int)≤(cb (zu C) (zv C):Int)))),zw.one (fC.tmp rfl),_,rfl,hX,?_⟩;dsimp only;exact congrArg _ (decide_eq_decide.2 qn)
set_option maxRecDepth 10000 in
set_option maxHeartbeats 800000 in
theorem zd (w:World) (sx:Value) (Rx Cx nx cx:Nat) (Mx:Nat→Nat→Int) (btx:Nat) (hRx:Rx≤65536) (hCx:Cx≤65536) (hSx:ck w sx nx cx Mx btx):Calls Tryz.prog 29 #[.agg #[.int .i64 (Rx:Nat),.int .i64 (Cx:Nat),sx]] w (cg w fun v w'=>v= .bool (decide (mH Rx Cx nx cx∧cC Rx Cx Mx))):=by
 have hLIM:bo=562949953421312:=rfl;have hlimx:=hSx.lim;refine ah (N:=45) (rs:= #[.tmp 2]) Tryz.func29 rfl rfl rfl (Nat.le_of_ble_eq_true rfl) ?_;have hX:aC w w:=aC.refl w;refine ab ?_;refine RL.x rfl rfl (cZ.box [.int .i64 ((Rx:Nat)),.int .i64 ((Cx:Nat)),sx] rfl rfl) ?_;rintro _ w1 ⟨g1,rfl,hge1,hx1,hA1⟩;replace hX:=aC.trans hX hx1;refine RL.p rfl rfl (cD.assign rfl) ?_;refine RL.nil ?_;refine WP.seq ?_;refine ab ?_;refine RL.p rfl rfl (ag [.int .i64 ((Rx:Nat)),.int .i64 ((Cx:Nat)),sx] aL rfl (hA1.cells 0 _ rfl rfl)) ?_;refine RL.x rfl rfl (cZ.call rJ (aJ rfl) (pA _ _ Rx Cx _ _ _ _ (by omega) (by omega) (ck.ext hSx hX))) ?_;rintro _ w2 ⟨hx2,rfl⟩;replace hA1:=bj.ext hA1 hx2;replace hX:=aC.trans hX hx2;refine RL.p rfl rfl (cD.not (p:=mH Rx Cx nx cx) rfl) ?_;refine RL.nil ?_;refine ae (¬(mH Rx Cx nx cx)) rfl (fun c10=> ?_) (fun c10=> ?_)
 ·
  refine ab ?_;refine RL.p rfl rfl (cD.assign rfl) ?_;refine RL.nil ?_;refine WP.ret ?_;refine oL.ret ?_;refine ⟨.bool (false),zw.one (fC.tmp rfl),_,rfl,hX,?_⟩;dsimp only;exact congrArg _ (decide_eq_false fun h=>c10 h.1).symm
 ·
  refine WP.skip ?_;refine oL.norm ?_;have hgk:mH Rx Cx nx cx:=Decidable.of_not_not c10;replace hSx:=oT hSx hgk.2;refine ab ?_;refine RL.p rfl rfl (cD.assign rfl) ?_;refine RL.nil ?_;refine WP.seq ?_;refine ab ?_;refine RL.p rfl rfl (cD.fieldAddr an rfl) ?_;refine RL.p rfl rfl (cD.load aF rfl (hA1.at_ (i:=2) rfl rfl)) ?_;refine RL.p rfl rfl (cj az rfl (ck.ext hSx hX)) ?_;refine RL.p rfl rfl (cD.move rfl) ?_;refine RL.nil ?_;refine WP.block ?_;refine WP.loop (fun mz ez uz=>∃i:Nat,(mz=nx - i)∧(ez 1= .pointer (some ⟨g1,0,none⟩))∧(ez 3= .int .i64 (lastP Mx Cx i))∧(ez 12=sx)∧(ez 13= .int .i64 ((nx:Nat)))∧(ez 14= .int .i64 ((i:Nat)))∧(i≤nx)∧(∀a,a<i→iE Mx Cx a)∧(aC w uz)∧(bj uz g1 28 3 (bX [.int .i64 ((Rx:Nat)),.int .i64 ((Cx:Nat)),sx]))) (nx - 0) ?_ ?_
  · exact ⟨0,rfl,rfl,rfl,rfl,rfl,rfl,(by omega),(fun a ha=>absurd ha (by omega)),hX,hA1⟩
  rintro m1 e1 w3 ⟨i,hm1,s1_e1,s3_e1,s12_e1,s13_e1,s14_e1,hi,hok,hX1,hA1⟩;refine ab ?_;refine RL.p rfl rfl (cD.lss s14_e1 s13_e1) ?_;refine RL.nil ?_;refine WP.seq ?_;refine ae (((i:Nat):Int)<((nx:Nat):Int)) rfl (fun c15=> ?_) (fun c15=> ?_)
  ·
   refine WP.skip ?_;refine oL.norm ?_;refine WP.seq ?_;refine WP.block ?_;refine ab ?_;refine RL.p rfl rfl (cD.move s14_e1) ?_;refine RL.x rfl rfl (aN (j:=i) az s12_e1 (ck.ext hSx hX1) s14_e1 (by omega) (by omega)) ?_;rintro v1 _ ⟨rfl,q1⟩;refine RL.x rfl rfl (aW aP rfl q1) ?_;rintro v2 _ ⟨rfl,q2⟩;refine RL.x rfl rfl (cZ.alloc [.slice (none) (0) (0)] oX rfl) ?_;rintro _ w4 ⟨g2,rfl,hge2,hx3,hA2⟩;have ne1:g1≠g2:=Nat.ne_of_lt (Nat.lt_of_lt_of_le hA1.lt hge2);have hbs2:w.heap.size≤g2:=Nat.le_trans hX1.size hge2;replace hA1:=bj.ext hA1 hx3;replace q2:=bE.ext q2 hx3;replace hX1:=aC.trans hX1 hx3;refine RL.p rfl rfl (cD.assign rfl) ?_;refine RL.x rfl rfl (cZ.store [v2] fF rfl rfl q2.cells1 hA2 (Nat.le_of_ble_eq_true rfl) (dy (q2.one))) ?_;rintro _ w5 ⟨hk1,hnew⟩;replace hA1:=hA1.keep hk1 ne1;replace q2:=lh q2 hk1 hA2 (by decide);replace hX1:=hX1.step hk1 (fun b e=>by subst e;exact hbs2);replace hA2:=hnew.lit [v2] rfl;clear hnew;refine RL.nil ?_;refine ab ?_;refine RL.p rfl rfl (cD.load aP rfl (hA2.at_ (i:=0) rfl rfl)) ?_;refine RL.x rfl rfl (cZ.call pc (aJ rfl) (jC _ _ _ _ _ q2)) ?_;rintro _ w6 ⟨hx4,rfl⟩;replace hA1:=bj.ext hA1 hx4;replace q2:=bE.ext q2 hx4;replace hA2:=bj.ext hA2 hx4;replace hX1:=aC.trans hX1 hx4;refine RL.x rfl rfl (cZ.alloc [.int .i64 (0)] zG rfl) ?_;rintro _ w7 ⟨g3,rfl,hge3,hx5,hA3⟩;have ne2:g1≠g3:=Nat.ne_of_lt (Nat.lt_of_lt_of_le hA1.lt hge3);have ne3:g2≠g3:=Nat.ne_of_lt (Nat.lt_of_lt_of_le hA2.lt hge3);have hbs3:w.heap.size≤g3:=Nat.le_trans hX1.size hge3;replace hA1:=bj.ext hA1 hx5;replace q2:=bE.ext q2 hx5;replace hA2:=bj.ext hA2 hx5;replace hX1:=aC.trans hX1 hx5;refine RL.x rfl rfl (cZ.store [.int .i64 (piv (Mx i) Cx)] xY rfl rfl rfl hA3 (Nat.le_of_ble_eq_true rfl) (dy rfl)) ?_;rintro _ w8 ⟨hk2,hnew⟩;replace hA1:=hA1.keep hk2 ne2;replace q2:=lh q2 hk2 hA3 (by decide);replace hA2:=hA2.keep hk2 ne3;replace hX1:=hX1.step hk2 (fun b e=>by subst e;exact hbs3);replace hA3:=hnew.lit [.int .i64 (piv (Mx i) Cx)] rfl;clear hnew;refine RL.nil ?_;refine WP.seq ?_;refine ab ?_;refine RL.p rfl rfl (cD.load bt rfl (hA3.at_ (i:=0) rfl rfl)) ?_;refine RL.p rfl rfl (cD.lss rfl rfl) ?_;refine RL.nil ?_;refine ae ((piv (Mx i) Cx:Int)<(0:Int)) rfl (fun c22=> ?_) (fun c22=> ?_)
   ·
    refine ab ?_;refine RL.p rfl rfl (cD.fieldAddr bs s1_e1) ?_;refine RL.p rfl rfl (cD.load bt rfl (hA1.at_ (i:=1) rfl rfl)) ?_;refine RL.p rfl rfl (cD.assign rfl) ?_;refine RL.nil ?_;refine WP.exit ?_;refine oL.exit ?_;refine iF.same ?_;refine oL.norm ?_;refine WP.region ?_;refine RL.p rfl rfl (cD.add (c:=((i + 1:Nat):Int)) s14_e1 rfl (bS (by omega))) ?_;refine RL.p rfl rfl (cD.move rfl) ?_;refine RL.nil ?_;refine oL.norm ⟨_,(by omega),i + 1,rfl,s1_e1,(congrArg (Value.int .i64) (iX c22)),s12_e1,s13_e1,rfl,(by omega),(ei hok (.inl c22)),hX1,hA1⟩
   ·
    refine WP.skip ?_;refine oL.norm ?_;refine WP.seq ?_;have hpa:=kf (z:=Mx i) (n:=Cx) (by omega);refine aE ak 11 [_,_,_,fun v Aa=>v= .bool (decide ((piv (Mx i) Cx:Int)≤(lastP Mx Cx i:Int))),_,_,_,_,_,_,_] rfl rfl (fun e_ w_ zZ zY=>⟨fun _=>aa (cD.load bt ((zY 6 rfl rfl)) ((bj.ext hA3 zZ).at_ (i:=0) rfl rfl)),fun _=>aa (cD.move ((zY 3 rfl s3_e1))),fun zX=>aa (cD.leq ((zX 0 rfl)) ((zX 1 rfl))),fun zX=>aa (cD.move ((zX 2 rfl))),fun zX=>gF (zX 3 rfl) fun hg=>aa (cD.load aP ((zY 5 rfl rfl)) ((bj.ext hA2 zZ).at_ (i:=0) rfl rfl)),fun zX=>gF (zX 3 rfl) fun hg=>aa (cD.load bt ((zY 6 rfl rfl)) ((bj.ext hA3 zZ).at_ (i:=0) rfl rfl)),fun zX=>gF (zX 3 rfl) fun hg=>af (aR (j:=(piv (Mx i) Cx).toNat) bg (zX 4 rfl hg) (bE.ext q2 zZ) (mJ (a:=(((piv (Mx i) Cx).toNat:Nat):Int)) (b:=piv (Mx i) Cx) (zX 5 rfl hg) (by omega)) (by omega) (by omega)),fun zX=>gF (zX 3 rfl) fun hg=>af (aX au rfl (zX 6 rfl hg)),fun zX=>gF (zX 3 rfl) fun hg=>cZ.call ji (aJ rfl) (fQ _ _ _ _ ((zX 7 rfl hg))),fun zX=>gF (zX 3 rfl) fun hg=>aa (cD.lss ((zX 8 rfl hg)) rfl),fun zX=>aa (aZ (p:=(piv (Mx i) Cx:Int)≤(lastP Mx Cx i:Int)) (q:=(((Mx i) ((piv (Mx i) Cx).toNat):Int).sign:Int)<(0:Int)) (zX 3 rfl) (fun hq=>(zX 9 rfl hq))),trivial⟩) ?_;intro e2 w9 hx6 ho1 hf1;replace hA1:=bj.ext hA1 hx6;replace q2:=bE.ext q2 hx6;replace hA2:=bj.ext hA2 hx6;replace hA3:=bj.ext hA3 hx6;replace hX1:=aC.trans hX1 hx6;have s1_e2:=ho1 1 rfl s1_e1;have s12_e2:=ho1 12 rfl s12_e1;have s13_e2:=ho1 13 rfl s13_e1;have s14_e2:=ho1 14 rfl s14_e1;have s5_e2:e2 5=_:=ho1 5 rfl rfl;have s4_e2:e2 4=_:=ho1 4 rfl rfl;have s6_e2:e2 6=_:=ho1 6 rfl rfl;have s35_e2:e2 35=_:=hf1 10 rfl;refine RL.nil ?_;refine ae (((piv (Mx i) Cx:Int)≤(lastP Mx Cx i:Int))∨((((Mx i) ((piv (Mx i) Cx).toNat):Int).sign:Int)<(0:Int))) s35_e2 (fun c35=> ?_) (fun c35=> ?_)
    ·
     refine ab ?_;refine RL.p rfl rfl (cD.assign rfl) ?_;refine RL.nil ?_;refine WP.ret ?_;refine oL.ret ?_;refine iF.ret ?_;refine oL.ret ?_;refine oL.ret ?_;refine iF.ret ?_;refine oL.ret ?_;refine ⟨.bool (false),zw.one (fC.tmp rfl),_,rfl,hX1,?_⟩;dsimp only;exact congrArg _ (decide_eq_false fun h=>vf (h.2 i (by have:=h.1.1;omega)) c22 c35).symm
    ·
     refine WP.skip ?_;refine oL.norm ?_;refine ab ?_;refine RL.p rfl rfl (cD.makeFunc (lE) (aB s6_e2 s5_e2)) ?_;refine RL.p rfl rfl (cD.assign rfl) ?_;refine RL.nil ?_;refine WP.seq ?_;refine ab ?_;refine RL.p rfl rfl (cD.fieldAddr an s1_e2) ?_;refine RL.p rfl rfl (cD.load aF rfl (hA1.at_ (i:=2) rfl rfl)) ?_;refine RL.p rfl rfl (cD.move s4_e2) ?_;refine RL.x rfl rfl (gH (j:=i) az rfl (ck.ext hSx hX1) rfl (by omega) (by omega)) ?_;rintro v3 _ ⟨rfl,q3⟩;refine RL.p rfl rfl (cD.move rfl) ?_;refine RL.x rfl rfl (cZ.call yx (aB rfl rfl) (nb _ _ _ _ _ _ _ (eU (Mx i) (piv (Mx i) Cx).toNat) q3 ⟨75,#[],#[.pointer (some ⟨g3,0,none⟩),.pointer (some ⟨g2,0,none⟩)],rfl,yy,fun w1 hw1 x z hI=>zc _ _ _ _ _ _ _ _ _ _ _ _ hI (bj.ext (by rw [hpa.2.1];exact hA3) hw1) (bj.ext hA2 hw1) (bE.ext q2 hw1) hpa.1 hpa.1⟩)) ?_;rintro _ w10 ⟨hx7,rfl⟩;replace hA1:=bj.ext hA1 hx7;replace hA3:=bj.ext hA3 hx7;replace hX1:=aC.trans hX1 hx7;refine RL.nil ?_;refine ae (0≤io (eU (Mx i) (piv (Mx i) Cx).toNat) Mx i) rfl (fun c42=> ?_) (fun c42=> ?_)
     ·
      refine ab ?_;refine RL.p rfl rfl (cD.assign rfl) ?_;refine RL.nil ?_;refine WP.ret ?_;refine oL.ret ?_;refine iF.ret ?_;refine oL.ret ?_;refine oL.ret ?_;refine iF.ret ?_;refine oL.ret ?_;refine ⟨.bool (false),zw.one (fC.tmp rfl),_,rfl,hX1,?_⟩;dsimp only;exact congrArg _ (decide_eq_false fun h=>ve (h.2 i (by have:=h.1.1;omega)) c22 c42).symm
     ·
      refine WP.skip ?_;refine oL.norm ?_;refine WP.region ?_;refine RL.p rfl rfl (cD.load bt s6_e2 (hA3.at_ (i:=0) rfl rfl)) ?_;refine RL.p rfl rfl (cD.assign rfl) ?_;refine RL.nil ?_;refine iF.norm ?_;refine oL.norm ?_;refine WP.region ?_;refine RL.p rfl rfl (cD.add (c:=((i + 1:Nat):Int)) s14_e2 rfl (bS (by omega))) ?_;refine RL.p rfl rfl (cD.move rfl) ?_;refine RL.nil ?_;refine oL.norm ⟨_,(by omega),i + 1,rfl,s1_e2,(congrArg (Value.int .i64) (iW c22)),s12_e2,s13_e2,rfl,(by omega),(ei hok (xC hpa c35 c42)),hX1,hA1⟩
  ·
   refine WP.exit ?_;refine oL.exit ?_;refine oL.exit ?_;refine iF.same ?_;refine oL.norm ?_;refine ab ?_;refine RL.p rfl rfl (cD.assign rfl) ?_;refine RL.nil ?_;refine WP.ret ?_;refine ⟨.bool (true),zw.one (fC.tmp rfl),_,rfl,hX1,?_⟩;dsimp only;exact congrArg _ (decide_eq_true ⟨hgk,fun a ha=>hok a (by have:=hgk.1;omega)⟩).symm
set_option maxRecDepth 10000 in
theorem pK (w:World) (x:Value) (rx cx:Nat) (Mx:Nat→Nat→Int) (btx:Nat) (n:Nat) (hx:bU w x rx cx Mx btx):Calls Tryz.prog 60 #[x,.int .i64 (n:Nat)] w (cg w fun v w'=>v= .bool (decide (rx=n∧cx=n))):=by
 have hLIM:bo=562949953421312:=rfl;have hmatx:=hx;obtain ⟨sx,rfl,hrx,hcx,hSx⟩:=hx.form;refine ah (N:=19) (rs:= #[.tmp 4]) Tryz.func60 rfl rfl rfl (Nat.le_of_ble_eq_true rfl) ?_;have hX:aC w w:=aC.refl w;refine ab ?_;refine RL.x rfl rfl (cZ.box [.int .i64 ((rx:Nat)),.int .i64 ((cx:Nat)),sx] rfl rfl) ?_;rintro _ w1 ⟨g1,rfl,hge1,hx1,hA1⟩;replace hX:=aC.trans hX hx1;refine RL.p rfl rfl (cD.assign rfl) ?_;refine RL.nil ?_;refine aE ak 14 [_,fun v Aa=>v= .bool (decide (True)),fun v Aa=>v= .bool (decide (True)),_,_,_,_,_,fun v Aa=>v= .bool (decide ((True)∧(((rx:Nat):Int)=((n:Nat):Int)))),_,_,_,_,_] rfl rfl (fun e_ w_ zZ zY=>⟨fun _=>aa (ag [.int .i64 ((rx:Nat)),.int .i64 ((cx:Nat)),sx] aL ((zY 2 rfl rfl)) ((bj.ext hA1 zZ).cells 0 _ rfl rfl)),fun zX=>cZ.call rJ (aJ ((zX 0 rfl))) (nw _ _ _ _ _ _ (bU.mk (ck.ext (ck.ext hSx hX) zZ) (by omega) (by omega))),fun zX=>aa (cD.move ((zX 1 rfl))),fun zX=>gT (zX 2 rfl) fun hg=>aa (cD.fieldAddr aS ((zY 2 rfl rfl))),fun zX=>gT (zX 2 rfl) fun hg=>aa (cD.load bt ((zX 3 rfl hg)) ((bj.ext hA1 zZ).at_ (i:=0) rfl rfl)),fun zX=>gT (zX 2 rfl) fun hg=>aa (cD.move ((zY 1 rfl rfl))),fun zX=>gT (zX 2 rfl) fun hg=>aa (cD.eql ((zX 4 rfl hg)) ((zX 5 rfl hg))),fun zX=>aa (aw (p:=True) (q:=((rx:Nat):Int)=((n:Nat):Int)) (zX 2 rfl) (fun hq=>(zX 6 rfl hq))),fun zX=>aa (cD.move ((zX 7 rfl))),fun zX=>gT (zX 8 rfl) fun hg=>aa (cD.fieldAddr bs ((zY 2 rfl rfl))),fun zX=>gT (zX 8 rfl) fun hg=>aa (cD.load bt ((zX 9 rfl hg)) ((bj.ext hA1 zZ).at_ (i:=1) rfl rfl)),fun zX=>gT (zX 8 rfl) fun hg=>aa (cD.move ((zY 1 rfl rfl))),fun zX=>gT (zX 8 rfl) fun hg=>aa (cD.eql ((zX 10 rfl hg)) ((zX 11 rfl hg))),fun zX=>aa (aw (p:=(True)∧(((rx:Nat):Int)=((n:Nat):Int))) (q:=((cx:Nat):Int)=((n:Nat):Int)) (zX 8 rfl) (fun hq=>(zX 12 rfl hq))),trivial⟩) ?_;intro e1 w2 hx2 ho1 hf1;replace hX:=aC.trans hX hx2;have s18_e1:e1 18=_:=hf1 13 rfl;refine RL.p rfl rfl (cD.assign s18_e1) ?_;refine RL.nil ?_;refine WP.ret ?_;refine ⟨.bool (decide (((True)∧(((rx:Nat):Int)=((n:Nat):Int)))∧(((cx:Nat):Int)=((n:Nat):Int)))),zw.one (fC.tmp rfl),_,rfl,hX,?_⟩;dsimp only;exact congrArg _ (decide_eq_decide.2 qz)
end Go.TL
namespace Go.TL
open Go.RowKit Go.Proofs
set_option linter.unusedVariables false
theorem pM (w:World) (x:Value) (r c:Nat) (M:Nat→Nat→Int) (b:Nat) (hx:bU w x r c M b):Calls Tryz.prog 29 #[x] w (cg w fun v _=>v= .bool (decide (cC r c M))):=by
  obtain ⟨s,rfl,hr,hc,hS⟩:=hx.form;refine (zd w s r c r c M b hr.1 hc hS).mono ?_;rintro e w' ⟨v,rfl,hx',h⟩;exact ⟨v,rfl,hx',h.trans (congrArg _ (decide_eq_decide.2 ⟨fun h=>h.2,fun h=>⟨mH.same,h⟩⟩))⟩
def ud (w:World) (v:Value) (w0:World) (n:Nat) (z:Nat→Int) (b:Nat):Prop:=∃h o u,v= .pointer (some ⟨h,o,none⟩)∧w.cell? ⟨h,o,none⟩=some u∧bE w0 u n z b
section
variable {P:Program} {e:cF} {w w0:World} {d:Option Tmp} {ty:TypeId} {pos:String} {after:Array Edge} {gd:Option (Nat×Bool)}
theorem gI {t n c m j b:Nat} {x ix:Operand} {v:Value} {M:Nat→Nat→Int} {i:Int} {k:IntKind} (ht:sliceB P t 41 1 m=true) (hx:ev e x=v) (hH:ck w0 v n c M b) (hw:aC w0 w)
    (hi:ev e ix= .int k i) (hij:i=(j:Int)) (hj:j<n):cZ P ⟨d,.indexAddr t x ix,ty,pos,after,gd⟩ e w (fun v w'=>w=w'∧ud w' v w0 c (M j) b):=by
  obtain ⟨A,kk,rfl,h2,h3,h4⟩:=hH;obtain ⟨h,o,m',f,rfl,hm,ha,hf⟩:=h4 (by omega);refine cK (φ:=fun v w'=>ud w' v w0 c (M j) b) (cD.index (j:=j) ht hx hi rfl hij hj) ⟨h,_,f (o + j),rfl,?_,hf j hj⟩;rw [Nat.mul_one];exact (ha.ext hw).cell (by omega)
theorem iB {t n b:Nat} {x:Operand} {v:Value} {z:Nat→Int} (ht:oneB P t=true) (hx:ev e x=v) (hP:ud w v w0 n z b):cZ P ⟨d,.load t x,ty,pos,after,gd⟩ e w (fun v w'=>w=w'∧bE w0 v n z b):=by
  obtain ⟨h,o,u,rfl,hc,hR⟩:=hP;exact cK (φ:=fun v w'=>bE w0 v n z b) (cD.load ht hx hc) hR
end
theorem vT {w:World} {v:Value} {n b:Nat} {z:Nat→Int} (h:bE w v n z b) (hn:0<n):∃g,eZ w v g n∧cB w g n z b∧g<w.heap.size:=by
  obtain ⟨A,k,rfl,h2,h3,h4⟩:=h;obtain ⟨g,rfl,hB⟩:=h4 hn;exact ⟨g,⟨k,rfl,h2,h3.1,h3.2.1⟩,hB,hB.lt⟩
theorem qW (B n b':Nat):fE (fun v _ b=>b=ef v) (fun v w=>dO w v B n b'):=
  ⟨fun v w b h hb=>by obtain ⟨g,h1,h2,h3⟩:=h;subst h1;rw [hb];exact h3.lt,fun _ _ _ _ _ _ h=>h⟩
def gG (Q:Nat→Int) (i:Nat):Nat→Int:=fun a=>if a<i then Q a else 0
theorem ol (Q:Nat→Int):gG Q 0=fun _=>0:=by funext a;simp [gG]
theorem kg (Q:Nat→Int) (i:Nat):gG Q (i + 1) i=Q i:=if_pos (by omega)
theorem qB {Q:Nat→Int} {i:Nat} {q:Int} (hq:q=Q i):jK (gG Q i) i q=gG Q (i + 1):=by
  funext a
  simp only [jK,gG]
  by_cases e:a=i
  · subst e;rw [if_pos rfl,if_pos (by omega),hq]
  · rw [if_neg e]
    by_cases h:a<i
    · rw [if_pos h,if_pos (by omega)]
    · rw [if_neg h,if_neg (by omega)]
theorem om {Q:Nat→Int} {i:Nat} (hq:Q i=0):gG Q i=gG Q (i + 1):=by
  funext a
  simp only [gG]
  by_cases e:a=i
  · subst e;rw [if_neg (by omega),if_pos (by omega),hq]
  · by_cases h:a<i
    · rw [if_pos h,if_pos (by omega)]
    · rw [if_neg h,if_neg (by omega)]
theorem ng (M:Nat→Nat→Int) (c:Nat) (z:Nat→Int) (i j:Nat):bZ M c z i j + -(cf M c z i)*M i j=bZ M c z (i + 1) j:=by
  simp only [bZ,cf];rw [Int.neg_mul];omega
theorem su {M:Nat→Nat→Int} {c:Nat} {z:Nat→Int} {i:Nat} (h:piv (M i) c<0):bZ M c z i=bZ M c z (i + 1):=by
  funext j;simp only [bZ];rw [jX h,Int.zero_mul];omega
theorem xn {w:World} {v:Value} {B r c b:Nat} {M:Nat→Nat→Int} {z:Nat→Int} (h:dO w v B r b) (hn:∀i,¬0≤piv (M i) c) (hr:r≤65536):bE w v r (cf M c z) b:=by
  obtain ⟨g,rfl,_,hR⟩:=h;exact cB.rowV (cB.congr hR fun j _=>(jX (by have:=hn j;omega)).symm) (Nat.le_refl _) ⟨by omega,hr⟩
theorem rj {w:World} {v:Value} {z z':Nat→Int} {b b':Nat} (h:bE w v 0 z b) (hb:b'≤bo):bE w v 0 z' b':=by
  obtain ⟨A,k,h1,h2,h3,_⟩:=h;exact ⟨A,k,h1,h2,⟨h3.1,h3.2.1,hb⟩,fun h=>absurd h (Nat.lt_irrefl _)⟩
end Go.TL
namespace Go.TL
open Go.RowKit Go.Proofs
set_option linter.unusedVariables false
set_option linter.unusedSimpArgs false
section
set_option maxRecDepth 100000
theorem wn:ay Tryz.prog 65=true:=by kernel_rfl
end
set_option maxRecDepth 10000 in
theorem sm (w:World) (x:Value) (nx:Nat) (zx:Nat→Int) (btx:Nat) (hx:bE w x nx zx btx) (hn:0<nx):Calls Tryz.prog 65 #[x] w (cg w fun v w'=>dQ w' v w.heap.size nx zx btx):=by
 have hLIM:bo=562949953421312:=rfl;have hlimx:=hx.lim;refine ah (N:=8) (rs:= #[.tmp 2]) Tryz.func65 rfl rfl rfl (Nat.le_of_ble_eq_true rfl) ?_;have hX:aC w w:=aC.refl w;refine ab ?_;refine RL.p rfl rfl (cD.assign rfl) ?_;refine RL.nil ?_;refine WP.seq ?_;refine ab ?_;refine RL.p rfl rfl (cD.move rfl) ?_;refine RL.p rfl rfl (kH da rfl (bE.ext hx hX) rfl hn) ?_;refine RL.nil ?_;refine WP.cond _ rfl (fun hf=>absurd hf (by decide)) (fun _=> ?_);refine WP.skip ?_;refine oL.norm ?_;refine ab ?_;refine RL.x rfl rfl (dt da) ?_;rintro _ w1 ⟨g1,rfl,hge1,hx1,hA1⟩;replace hX:=aC.trans hX hx1;refine RL.p rfl rfl (cD.move rfl) ?_;have hBw1:w.heap.size≤w1.heap.size:=hX.size;refine RL.x rfl rfl (iD da (by decide) bV rfl hA1 rfl (bE.ext hx hX) hn) ?_;rintro v1 w2 ⟨hx2,q1,_⟩;replace hX:=aC.trans hX hx2;refine RL.p rfl rfl (cD.assign rfl) ?_;refine RL.nil ?_;refine WP.ret ?_;refine ⟨v1,zw.one (fC.tmp rfl),_,rfl,hX,?_⟩;dsimp only;obtain ⟨g,h1,h2,h3⟩:=q1;exact ⟨g,h1,Nat.le_trans hBw1 h2,h3⟩
set_option maxRecDepth 10000 in
set_option maxHeartbeats 1600000 in
theorem nC (w:World) (x:Value) (rx cx:Nat) (Mx:Nat→Nat→Int) (btx:Nat) (v:Value) (nv:Nat) (zv:Nat→Int) (btv:Nat) (b:Nat) (hx:bU w x rx cx Mx btx) (hv:bE w v nv zv btv) (hc0:0<cx) (hb:btv + rx*(btx + 1)≤b) (hl:b + b + 2≤bo) (hl2:btx≤b):Calls Tryz.prog 21 #[x,v] w (cg w fun v w'=>(nv≠cx∧v= .tuple #[.slice none 0 0,.slice none 0 0,.int .i64 50])∨(nv=cx∧∃vq vr,v= .tuple #[vq,vr,.int .i64 0]∧bE w' vq rx (cf Mx cx zv) b∧bE w' vr cx (bZ Mx cx zv rx) b)):=by
 have hLIM:bo=562949953421312:=rfl;have hmatx:=hx;obtain ⟨sx,rfl,hrx,hcx,hSx⟩:=hx.form;have hlimv:=hv.lim;refine ah (N:=57) (rs:= #[.tmp 4,.tmp 5,.tmp 6]) Tryz.func21 rfl rfl rfl (Nat.le_of_ble_eq_true rfl) ?_;have hX:aC w w:=aC.refl w;have hbM:=ck.bd hSx;have hbz:=bE.bd hv;have hmul:∀q,q≤rx→q*(btx + 1)≤rx*(btx + 1):=fun q hq=>Nat.mul_le_mul_right _ hq
 have hpw0:∀q,q≤rx→2^(btv + q*(btx + 1))≤2^b:=fun q hq=>Nat.pow_le_pow_right (by decide) (by have:=hmul q hq;omega)
 refine ab ?_;refine RL.x rfl rfl (cZ.box [.int .i64 ((rx:Nat)),.int .i64 ((cx:Nat)),sx] rfl rfl) ?_;rintro _ w1 ⟨g1,rfl,hge1,hx1,hA1⟩;replace hX:=aC.trans hX hx1;refine RL.p rfl rfl (cD.assign rfl) ?_;refine RL.p rfl rfl (cD.assign rfl) ?_;refine RL.p rfl rfl (cD.assign rfl) ?_;refine RL.nil ?_;refine WP.seq ?_;refine ab ?_;refine RL.p rfl rfl (cD.move rfl) ?_;refine RL.p rfl rfl (cc da rfl (bE.ext hv hX)) ?_;refine RL.p rfl rfl (cD.fieldAddr bs rfl) ?_;refine RL.p rfl rfl (cD.load bt rfl (hA1.at_ (i:=1) rfl rfl)) ?_;refine RL.p rfl rfl (cD.neq rfl rfl) ?_;refine RL.nil ?_;refine ae (((nv:Nat):Int)≠((cx:Nat):Int)) rfl (fun c16=> ?_) (fun c16=> ?_)
 ·
  refine ab ?_;refine RL.p rfl rfl (cD.assign rfl) ?_;refine RL.p rfl rfl (cD.assign rfl) ?_;refine RL.p rfl rfl (cD.assign rfl) ?_;refine RL.nil ?_;refine WP.ret ?_;refine oL.ret ?_;refine ⟨.tuple #[.slice (none) (0) (0),.slice (none) (0) (0),.int .i64 (50)],dW (fC.tmp rfl) (fC.tmp rfl) (fC.tmp rfl),_,rfl,hX,?_⟩;dsimp only;exact .inl ⟨fun e=>c16 (by omega),rfl⟩
 ·
  refine WP.skip ?_;refine oL.norm ?_;obtain rfl:cx=nv:=by omega
  have hXr:=hX;refine gz ak 5 [_,_,fun v Aa=>dO Aa v w1.heap.size rx b,_,fun v Aa=>dQ Aa v w1.heap.size cx zv btv] (Apart.of (fun v _ b=>b=ef v) [(2,4)] rfl ⟨(fun h=>by cases h),(fun h=>by cases h),(fun _=>qW _ _ _),(fun h=>by cases h),(fun _=>iV _ _ _ _),trivial⟩) rfl rfl ⟨ac _,ac _,jk _ _ _,ac _,eO _ _ _ _,trivial⟩ ⟨fun e_ w_ zZ zY zX=>aT rfl (aa (cD.fieldAddr aS (((zY 2 rfl).trans rfl)))),fun e_ w_ zZ zY zX=>aT rfl (aa (cD.load bt ((zX 0 rfl)) ((bj.ext hA1 zZ).at_ (i:=0) rfl rfl))),fun e_ w_ zZ zY zX=>cZ.mono (fT (b:=b) da (by decide) bV (zX 1 rfl) (zX 1 rfl) rfl rfl (by omega) (Nat.le_refl _) (by omega)) fun v Ab hv=>⟨hv.1,(by obtain ⟨g,h1,h2,h3⟩:=hv.2;exact ⟨g,h1,Nat.le_trans zZ.size h2,h3⟩),eg fun b hb=>hb▸(by obtain ⟨g,h1,h2,h3⟩:=hv.2;rw [h1];exact h2)⟩,fun e_ w_ zZ zY zX=>aT rfl (aa (cD.move (((zY 1 rfl).trans rfl)))),fun e_ w_ zZ zY zX=>cZ.mono (cZ.call wn (aJ ((zX 3 rfl))) (sm _ _ _ _ _ (bE.ext (bE.ext hv hX) zZ) hc0)) fun v Ab hv=>⟨hv.1,(by obtain ⟨g,h1,h2,h3⟩:=hv.2;exact ⟨g,h1,Nat.le_trans zZ.size h2,h3⟩),eg fun b hb=>hb▸(by obtain ⟨g,h1,h2,h3⟩:=hv.2;rw [eQ h1];exact h2)⟩,trivial⟩ ?_;intro e1 w2 hx2 ho1 hf1 hp1;replace hA1:=bj.ext hA1 hx2;replace hX:=aC.trans hX hx2;have s2_e1:e1 2= .pointer (some ⟨g1,0,none⟩):=(ho1 2 rfl).trans rfl;have s4_e1:e1 4= .slice (none) (0) (0):=(ho1 4 rfl).trans rfl;have s5_e1:e1 5= .slice (none) (0) (0):=(ho1 5 rfl).trans rfl;have s6_e1:e1 6= .int .i64 (0):=(ho1 6 rfl).trans rfl;have s19_e1:dO w2 (e1 19) w1.heap.size rx b:=hf1 2 rfl;have s21_e1:dQ w2 (e1 21) w1.heap.size cx zv btv:=hf1 4 rfl;obtain ⟨gq,hq1,hqB,hQ⟩:=s19_e1;obtain ⟨gr,hSr,hrB,hR⟩:=s21_e1;have hqr:gq≠gr:=by
    have hd:=hp1 2 4 rfl rfl rfl rfl (ef (e1 19)) rfl;intro he
    apply hd
    show ef (e1 19)=ef (e1 21);rw [hq1,eQ hSr];exact he
  obtain ⟨kr,hr1,hrk,hrl⟩:=hSr;have hbq:w.heap.size≤gq:=Nat.le_trans hXr.size hqB;have hbr:w.heap.size≤gr:=Nat.le_trans hXr.size hrB;replace hR:=cB.up (b':=b) hR (by omega) (by omega);replace hQ:=fS hQ (ol (cf Mx cx zv)).symm;refine RL.p rfl rfl (cD.assign hq1) ?_;refine RL.p rfl rfl (cD.assign hr1) ?_;refine RL.nil ?_;refine WP.seq ?_;refine ab ?_;refine RL.p rfl rfl (cD.fieldAddr an s2_e1) ?_;refine RL.p rfl rfl (cD.load aF rfl (hA1.at_ (i:=2) rfl rfl)) ?_;refine RL.p rfl rfl (cj az rfl (ck.ext hSx hX)) ?_;refine RL.p rfl rfl (cD.move rfl) ?_;refine RL.nil ?_;refine WP.block ?_;refine WP.loop (fun mz ez uz=>∃i:Nat,(mz=rx - i)∧(ez 4= .slice (none) (0) (0))∧(ez 5= .slice (none) (0) (0))∧(ez 6= .int .i64 (0))∧(ez 7= .slice (some ⟨gq,0,none⟩) (rx) (rx))∧(ez 8= .slice (some ⟨gr,0,none⟩) (cx) (kr))∧(ez 23=sx)∧(ez 24= .int .i64 ((rx:Nat)))∧(ez 25= .int .i64 ((i:Nat)))∧(i≤rx)∧(aC w uz)∧(bj uz g1 28 3 (bX [.int .i64 ((rx:Nat)),.int .i64 ((cx:Nat)),sx]))∧(cB uz gq rx (gG (cf Mx cx zv) i) b)∧(cB uz gr cx (bZ Mx cx zv i) b)) (rx - 0) ?_ ?_
  · exact ⟨0,rfl,s4_e1,s5_e1,s6_e1,rfl,rfl,rfl,rfl,rfl,(by omega),hX,hA1,hQ,hR⟩
  rintro m1 e2 w3 ⟨i,hm1,s4_e2,s5_e2,s6_e2,s7_e2,s8_e2,s23_e2,s24_e2,s25_e2,hi,hX1,hA1,hQ,hR⟩;refine ab ?_;refine RL.p rfl rfl (cD.lss s25_e2 s24_e2) ?_;refine RL.nil ?_;refine WP.seq ?_;refine ae (((i:Nat):Int)<((rx:Nat):Int)) rfl (fun c26=> ?_) (fun c26=> ?_)
  ·
   refine WP.skip ?_;refine oL.norm ?_;refine WP.seq ?_;refine WP.block ?_;refine ab ?_;refine RL.p rfl rfl (cD.move s25_e2) ?_;refine RL.x rfl rfl (gI (j:=i) az s23_e2 hSx hX1 s25_e2 (by omega) (by omega)) ?_;rintro v1 _ ⟨rfl,q1⟩;refine RL.x rfl rfl (iB aP rfl q1) ?_;rintro v2 _ ⟨rfl,q2⟩;refine RL.p rfl rfl (cD.assign rfl) ?_;refine RL.p rfl rfl (cD.assign rfl) ?_;refine RL.nil ?_;refine ab ?_;refine RL.p rfl rfl (cD.move rfl) ?_;refine RL.x rfl rfl (cZ.call pc (aJ rfl) (jC _ _ _ _ _ (bE.ext q2 hX1))) ?_;rintro _ w4 ⟨hx3,rfl⟩;replace hA1:=bj.ext hA1 hx3;replace hQ:=cB.ext hQ hx3;replace hR:=cB.ext hR hx3;replace hX1:=aC.trans hX1 hx3;refine RL.p rfl rfl (cD.assign rfl) ?_;refine RL.nil ?_;have hpw:=hpw0 i (by omega);have hpw1:=hpw0 (i + 1) (by omega);have hRbd:=lW (c:=cx) hbM hbz (i:=i) (by omega);refine ab ?_;refine RL.p rfl rfl (cD.move rfl) ?_;refine RL.p rfl rfl (cD.geq rfl rfl) ?_;refine RL.nil ?_;refine ae ((0:Int)≤(piv (Mx i) cx:Int)) rfl (fun c33=> ?_) (fun c33=> ?_)
   ·
    have hpa:=kf (z:=Mx i) (n:=cx) (by omega);refine aE ak 12 [_,_,_,_,_,_,_,_,_,_,_,_] rfl rfl (fun e_ w_ zZ zY=>⟨fun _=>aa (cD.move ((zY 7 rfl s7_e2))),fun _=>aa (cD.move ((zY 9 rfl rfl))),fun _=>aa (cD.move ((zY 8 rfl s8_e2))),fun _=>aa (cD.move ((zY 11 rfl rfl))),fun zX=>aa (cD.index (j:=(piv (Mx i) cx).toNat) da ((zX 2 rfl)) ((mJ (a:=(((piv (Mx i) cx).toNat:Nat):Int)) (b:=piv (Mx i) cx) (zX 3 rfl) (by omega))) rfl (by omega) (by omega)),fun zX=>af (aY (j:=(piv (Mx i) cx).toNat) au (zX 4 rfl) (cB.ext hR zZ) (by omega)),fun _=>aa (cD.move ((zY 10 rfl rfl))),fun _=>aa (cD.move ((zY 11 rfl rfl))),fun zX=>af (aR (j:=(piv (Mx i) cx).toNat) bg (zX 6 rfl) (bE.ext (bE.ext q2 hX1) zZ) (mJ (a:=(((piv (Mx i) cx).toNat:Nat):Int)) (b:=piv (Mx i) cx) (zX 7 rfl) (by omega)) (by omega) (by omega)),fun zX=>af (aX au rfl (zX 8 rfl)),fun zX=>cZ.call rM (aB rfl rfl) (gO _ _ _ _ _ _ _ (zX 5 rfl) (zX 9 rfl) hpa.2.2.1 (by omega)),fun zX=>aa (cD.index (j:=i) da ((zX 0 rfl)) ((zX 1 rfl)) rfl (by omega) (by omega)),trivial⟩) ?_;intro e3 w5 hx4 ho2 hf2;replace hA1:=bj.ext hA1 hx4;replace hQ:=cB.ext hQ hx4;replace hR:=cB.ext hR hx4;replace hX1:=aC.trans hX1 hx4;have s4_e3:=ho2 4 rfl s4_e2;have s5_e3:=ho2 5 rfl s5_e2;have s6_e3:=ho2 6 rfl s6_e2;have s7_e3:=ho2 7 rfl s7_e2;have s8_e3:=ho2 8 rfl s8_e2;have s23_e3:=ho2 23 rfl s23_e2;have s24_e3:=ho2 24 rfl s24_e2;have s25_e3:=ho2 25 rfl s25_e2;have s9_e3:e3 9=_:=ho2 9 rfl rfl;have s10_e3:e3 10=_:=ho2 10 rfl rfl;have s44_e3:am w5 (e3 44) (((bZ Mx cx zv i) ((piv (Mx i) cx).toNat))/((Mx i) ((piv (Mx i) cx).toNat))) b:=hf2 10 rfl;have s45_e3:e3 45=_:=hf2 11 rfl;refine RL.x rfl rfl (gS (j:=i) bp s45_e3 rfl (am.eq s44_e3 (sv (by omega)).symm (by have:=pm (M:=Mx) (i:=i) hRbd;exact Nat.lt_of_lt_of_le this hpw) (by omega)) hQ (by omega)) ?_;rintro _ w6 ⟨hk1,hN1⟩;replace hA1:=aU hA1 hk1 hQ (by decide);replace hR:=cB.keep hR hk1 (Ne.symm hqr) hQ.nu;replace hX1:=hX1.step hk1 (fun b e=>by subst e;exact hbq);replace hQ:=hN1;refine RL.nil ?_;replace hQ:=fS hQ (qB (Q:=(cf Mx cx zv)) rfl)
    skip
    refine WP.region ?_;refine RL.p rfl rfl (cD.move s8_e3) ?_;refine RL.p rfl rfl (cD.move s10_e3) ?_;refine RL.p rfl rfl (cD.move s7_e3) ?_;refine RL.p rfl rfl (cD.move s9_e3) ?_;refine RL.p rfl rfl (cD.index (j:=i) da rfl rfl rfl (by omega) (by omega)) ?_;refine RL.x rfl rfl (aY (j:=i) au rfl hQ (by omega)) ?_;rintro v3 _ ⟨rfl,q3⟩;refine RL.x rfl rfl (cZ.call lf (aJ rfl) (lD _ _ _ _ q3)) ?_;rintro v4 w7 ⟨hx5,q4⟩;replace hA1:=bj.ext hA1 hx5;replace hQ:=cB.ext hQ hx5;replace hR:=cB.ext hR hx5;replace hX1:=aC.trans hX1 hx5;obtain ⟨gy,hys,hyB,hyl⟩:=vT q2 hc0;refine RL.x rfl rfl (cU mU (cN rfl rfl rfl) (nB _ _ _ _ _ _ _ _ _ _ _ _ ⟨kr,rfl,hrk,hrl⟩ (bA hys _) q4 hR (cB.up (cB.ext hyB hX1) (by omega) (by omega)) (fun e=>absurd e (by omega)) (by omega) (fun j hj=>by rw [kg,ng];exact Nat.lt_of_lt_of_le (lW (c:=cx) hbM hbz (i:=i + 1) (by omega) j hj) hpw1))) ?_;rintro _ w9 ⟨hk2,hN2⟩;replace hA1:=aU hA1 hk2 hR (by decide);replace hQ:=cB.keep hQ hk2 hqr hR.nu;replace hX1:=hX1.step hk2 (fun b e=>by subst e;exact hbr);replace hR:=cB.congr (z':=bZ Mx cx zv (i + 1)) hN2 (fun j hj=>by rw [kg,ng]);refine RL.nil ?_;refine iF.norm ?_;refine oL.norm ?_;refine WP.region ?_;refine RL.p rfl rfl (cD.add (c:=((i + 1:Nat):Int)) s25_e3 rfl (bS (by omega))) ?_;refine RL.p rfl rfl (cD.move rfl) ?_;refine RL.nil ?_;refine oL.norm ⟨_,(by omega),i + 1,rfl,s4_e3,s5_e3,s6_e3,s7_e3,s8_e3,s23_e3,s24_e3,rfl,(by omega),hX1,hA1,hQ,hR⟩
   ·
    refine WP.skip ?_;refine iF.norm ?_;refine oL.norm ?_;refine WP.region ?_;refine RL.p rfl rfl (cD.add (c:=((i + 1:Nat):Int)) s25_e2 rfl (bS (by omega))) ?_;refine RL.p rfl rfl (cD.move rfl) ?_;refine RL.nil ?_;refine oL.norm ⟨_,(by omega),i + 1,rfl,s4_e2,s5_e2,s6_e2,s7_e2,s8_e2,s23_e2,s24_e2,rfl,(by omega),hX1,hA1,fS hQ (om (jX (by omega))),fS hR (su (by omega))⟩
  ·
   refine WP.exit ?_;refine oL.exit ?_;refine oL.exit ?_;refine iF.same ?_;refine oL.norm ?_;refine ab ?_;refine RL.p rfl rfl (cD.move s7_e2) ?_;refine RL.p rfl rfl (cD.move s8_e2) ?_;refine RL.p rfl rfl (cD.assign rfl) ?_;refine RL.p rfl rfl (cD.assign rfl) ?_;refine RL.p rfl rfl (cD.assign rfl) ?_;refine RL.nil ?_;refine WP.ret ?_;refine ⟨.tuple #[.slice (some ⟨gq,0,none⟩) (rx) (rx),.slice (some ⟨gr,0,none⟩) (cx) (kr),.int .i64 (0)],dW (fC.tmp rfl) (fC.tmp rfl) (fC.tmp rfl),_,rfl,hX1,?_⟩;dsimp only;have hir:i=rx:=by omega
   subst hir;refine .inr ⟨by omega,_,_,rfl,?_,?_⟩
   · exact cB.rowV (cB.congr hQ (fun j hj=>if_pos hj)) (Nat.le_refl _) ⟨by omega,by omega⟩
   · exact cB.rowV hR hrk hrl
end Go.TL
namespace Go.TL
open Go.RowKit Go.Proofs
set_option linter.unusedVariables false
set_option linter.unusedSimpArgs false
set_option maxRecDepth 10000 in
theorem so (w:World) (x:Value) (zx:Nat→Int) (btx:Nat) (hx:bE w x 0 zx btx):Calls Tryz.prog 65 #[x] w (cg w fun v w'=>bE w' v 0 zx btx):=by
 have hLIM:bo=562949953421312:=rfl;obtain ⟨Ax,kx,rfl,hkx,hlx,_⟩:=hx;refine ah (N:=8) (rs:= #[.tmp 2]) Tryz.func65 rfl rfl rfl (Nat.le_of_ble_eq_true rfl) ?_;have hX:aC w w:=aC.refl w;refine ab ?_;refine RL.p rfl rfl (cD.assign rfl) ?_;refine RL.nil ?_;refine WP.seq ?_;refine ab ?_;refine RL.p rfl rfl (cD.move rfl) ?_;refine RL.p rfl rfl (gV da rfl rfl) ?_;refine RL.nil ?_;refine ae (Ax=none) rfl (fun c4=> ?_) (fun c4=> ?_)
 ·
  refine ab ?_;refine RL.p rfl rfl (cD.assign rfl) ?_;refine RL.nil ?_;refine WP.ret ?_;refine oL.ret ?_;refine ⟨.slice (none) (0) (0),zw.one (fC.tmp rfl),_,rfl,hX,?_⟩;dsimp only;exact ⟨_,_,rfl,Nat.zero_le _,⟨by decide,Nat.zero_le _,hlx.2.2⟩,fun h=>absurd h (Nat.lt_irrefl _)⟩
 ·
  refine WP.skip ?_;refine oL.norm ?_;refine ab ?_;refine RL.x rfl rfl (dt da) ?_;rintro _ w1 ⟨g1,rfl,hge1,hx1,hA1⟩;replace hX:=aC.trans hX hx1;refine RL.p rfl rfl (cD.move rfl) ?_;refine RL.p rfl rfl (nP da rfl rfl) ?_;refine RL.p rfl rfl (cD.assign rfl) ?_;refine RL.nil ?_;refine WP.ret ?_;refine ⟨.slice (some ⟨g1,0,none⟩) (0) (0),zw.one (fC.tmp rfl),_,rfl,hX,?_⟩;dsimp only;exact ⟨_,_,rfl,Nat.zero_le _,⟨by decide,Nat.zero_le _,hlx.2.2⟩,fun h=>absurd h (Nat.lt_irrefl _)⟩
set_option maxRecDepth 10000 in
theorem ls (w:World) (x:Value) (rx cx:Nat) (Mx:Nat→Nat→Int) (btx:Nat) (v:Value) (nv:Nat) (zv:Nat→Int) (btv:Nat) (b:Nat) (hx:bU w x rx cx Mx btx) (hv:bE w v nv zv btv) (hc0:cx=0) (hl:b≤bo):Calls Tryz.prog 21 #[x,v] w (cg w fun v w'=>(nv≠cx∧v= .tuple #[.slice none 0 0,.slice none 0 0,.int .i64 50])∨(nv=cx∧∃vq vr,v= .tuple #[vq,vr,.int .i64 0]∧bE w' vq rx (cf Mx cx zv) b∧bE w' vr cx (bZ Mx cx zv rx) b)):=by
 have hLIM:bo=562949953421312:=rfl;have hmatx:=hx;obtain ⟨sx,rfl,hrx,hcx,hSx⟩:=hx.form;have hlimv:=hv.lim;refine ah (N:=57) (rs:= #[.tmp 4,.tmp 5,.tmp 6]) Tryz.func21 rfl rfl rfl (Nat.le_of_ble_eq_true rfl) ?_;have hX:aC w w:=aC.refl w;have hnp:∀i,¬0≤piv (Mx i) cx:=fun i h=>by rw [hc0] at h;exact absurd h (by show ¬(0:Int)≤ -1;decide)
 refine ab ?_;refine RL.x rfl rfl (cZ.box [.int .i64 ((rx:Nat)),.int .i64 ((cx:Nat)),sx] rfl rfl) ?_;rintro _ w1 ⟨g1,rfl,hge1,hx1,hA1⟩;replace hX:=aC.trans hX hx1;refine RL.p rfl rfl (cD.assign rfl) ?_;refine RL.p rfl rfl (cD.assign rfl) ?_;refine RL.p rfl rfl (cD.assign rfl) ?_;refine RL.nil ?_;refine WP.seq ?_;refine ab ?_;refine RL.p rfl rfl (cD.move rfl) ?_;refine RL.p rfl rfl (cc da rfl (bE.ext hv hX)) ?_;refine RL.p rfl rfl (cD.fieldAddr bs rfl) ?_;refine RL.p rfl rfl (cD.load bt rfl (hA1.at_ (i:=1) rfl rfl)) ?_;refine RL.p rfl rfl (cD.neq rfl rfl) ?_;refine RL.nil ?_;refine ae (((nv:Nat):Int)≠((cx:Nat):Int)) rfl (fun c16=> ?_) (fun c16=> ?_)
 ·
  refine ab ?_;refine RL.p rfl rfl (cD.assign rfl) ?_;refine RL.p rfl rfl (cD.assign rfl) ?_;refine RL.p rfl rfl (cD.assign rfl) ?_;refine RL.nil ?_;refine WP.ret ?_;refine oL.ret ?_;refine ⟨.tuple #[.slice (none) (0) (0),.slice (none) (0) (0),.int .i64 (50)],dW (fC.tmp rfl) (fC.tmp rfl) (fC.tmp rfl),_,rfl,hX,?_⟩;dsimp only;exact .inl ⟨fun e=>c16 (by omega),rfl⟩
 ·
  refine WP.skip ?_;refine oL.norm ?_;obtain rfl:cx=nv:=by omega
  refine aE ak 5 [_,_,fun v Aa=>dO Aa v w1.heap.size rx b,_,_] rfl rfl (fun e_ w_ zZ zY=>⟨fun _=>aa (cD.fieldAddr aS ((zY 2 rfl rfl))),fun zX=>aa (cD.load bt ((zX 0 rfl)) ((bj.ext hA1 zZ).at_ (i:=0) rfl rfl)),fun zX=>fT da (by decide) bV (zX 1 rfl) (zX 1 rfl) rfl rfl (by omega) zZ.size (by omega),fun _=>aa (cD.move ((zY 1 rfl rfl))),fun zX=>cZ.call wn (aJ ((zX 3 rfl))) (so _ _ _ _ (hc0▸(bE.ext (bE.ext hv hX) zZ))),trivial⟩) ?_;intro e1 w2 hx2 ho1 hf1;replace hA1:=bj.ext hA1 hx2;replace hX:=aC.trans hX hx2;have s2_e1:e1 2=_:=ho1 2 rfl rfl;have s4_e1:e1 4=_:=ho1 4 rfl rfl;have s5_e1:e1 5=_:=ho1 5 rfl rfl;have s6_e1:e1 6=_:=ho1 6 rfl rfl;have s19_e1:dO w2 (e1 19) w1.heap.size rx b:=hf1 2 rfl;have s21_e1:bE w2 (e1 21) 0 zv btv:=hf1 4 rfl;refine RL.p rfl rfl (cD.assign rfl) ?_;refine RL.p rfl rfl (cD.assign rfl) ?_;refine RL.nil ?_;refine WP.seq ?_;refine ab ?_;refine RL.p rfl rfl (cD.fieldAddr an s2_e1) ?_;refine RL.p rfl rfl (cD.load aF rfl (hA1.at_ (i:=2) rfl rfl)) ?_;refine RL.p rfl rfl (cj az rfl (ck.ext hSx hX)) ?_;refine RL.p rfl rfl (cD.move rfl) ?_;refine RL.nil ?_;refine WP.block ?_;refine WP.loop (fun mz ez uz=>∃i:Nat,(mz=rx - i)∧(ez 4= .slice (none) (0) (0))∧(ez 5= .slice (none) (0) (0))∧(ez 6= .int .i64 (0))∧(ez 7=(e1 19))∧(ez 8=(e1 21))∧(ez 23=sx)∧(ez 24= .int .i64 ((rx:Nat)))∧(ez 25= .int .i64 ((i:Nat)))∧(i≤rx)∧(aC w uz)∧(bj uz g1 28 3 (bX [.int .i64 ((rx:Nat)),.int .i64 ((cx:Nat)),sx]))∧(dO uz (e1 19) w1.heap.size rx b)∧(bE uz (e1 21) 0 zv btv)) (rx - 0) ?_ ?_
  · exact ⟨0,rfl,s4_e1,s5_e1,s6_e1,rfl,rfl,rfl,rfl,rfl,(by omega),hX,hA1,s19_e1,s21_e1⟩
  rintro m1 e2 w3 ⟨i,hm1,s4_e2,s5_e2,s6_e2,s7_e2,s8_e2,s23_e2,s24_e2,s25_e2,hi,hX1,hA1,s19_e1,s21_e1⟩;refine ab ?_;refine RL.p rfl rfl (cD.lss s25_e2 s24_e2) ?_;refine RL.nil ?_;refine WP.seq ?_;refine ae (((i:Nat):Int)<((rx:Nat):Int)) rfl (fun c26=> ?_) (fun c26=> ?_)
  ·
   refine WP.skip ?_;refine oL.norm ?_;refine WP.seq ?_;refine WP.block ?_;refine ab ?_;refine RL.p rfl rfl (cD.move s25_e2) ?_;refine RL.x rfl rfl (gI (j:=i) az s23_e2 hSx hX1 s25_e2 (by omega) (by omega)) ?_;rintro v1 _ ⟨rfl,q1⟩;refine RL.x rfl rfl (iB aP rfl q1) ?_;rintro v2 _ ⟨rfl,q2⟩;refine RL.p rfl rfl (cD.assign rfl) ?_;refine RL.p rfl rfl (cD.assign rfl) ?_;refine RL.nil ?_;refine ab ?_;refine RL.p rfl rfl (cD.move rfl) ?_;refine RL.x rfl rfl (cZ.call pc (aJ rfl) (jC _ _ _ _ _ (bE.ext q2 hX1))) ?_;rintro _ w4 ⟨hx3,rfl⟩;replace hA1:=bj.ext hA1 hx3;replace s19_e1:=dO.ext s19_e1 hx3;replace s21_e1:=bE.ext s21_e1 hx3;replace hX1:=aC.trans hX1 hx3;refine RL.p rfl rfl (cD.assign rfl) ?_;refine RL.nil ?_;refine ab ?_;refine RL.p rfl rfl (cD.move rfl) ?_;refine RL.p rfl rfl (cD.geq rfl rfl) ?_;refine RL.nil ?_;refine ae ((0:Int)≤(piv (Mx i) cx:Int)) rfl (fun hn=>absurd hn ((hnp i))) (fun c33=> ?_);refine WP.skip ?_;refine iF.norm ?_;refine oL.norm ?_;refine WP.region ?_;refine RL.p rfl rfl (cD.add (c:=((i + 1:Nat):Int)) s25_e2 rfl (bS (by omega))) ?_;refine RL.p rfl rfl (cD.move rfl) ?_;refine RL.nil ?_;refine oL.norm ⟨_,(by omega),i + 1,rfl,s4_e2,s5_e2,s6_e2,s7_e2,s8_e2,s23_e2,s24_e2,rfl,(by omega),hX1,hA1,s19_e1,s21_e1⟩
  ·
   refine WP.exit ?_;refine oL.exit ?_;refine oL.exit ?_;refine iF.same ?_;refine oL.norm ?_;refine ab ?_;refine RL.p rfl rfl (cD.move s7_e2) ?_;refine RL.p rfl rfl (cD.move s8_e2) ?_;refine RL.p rfl rfl (cD.assign rfl) ?_;refine RL.p rfl rfl (cD.assign rfl) ?_;refine RL.p rfl rfl (cD.assign rfl) ?_;refine RL.nil ?_;refine WP.ret ?_;refine ⟨.tuple #[(e1 19),(e1 21),.int .i64 (0)],dW (fC.tmp rfl) (fC.tmp rfl) (fC.tmp rfl),_,rfl,hX1,?_⟩;dsimp only;refine .inr ⟨by omega,_,_,rfl,xn s19_e1 (fun i=>hnp i) (by omega),?_⟩;subst hc0;exact (rj s21_e1 (by omega))
end Go.TL
namespace Go.TL
open Go.RowKit Go.Proofs
set_option linter.unusedVariables false
theorem rb (w:World) (x:Value) (rx cx:Nat) (Mx:Nat→Nat→Int) (btx:Nat) (v:Value) (zv:Nat→Int) (btv b:Nat) (hx:bU w x rx cx Mx btx) (hv:bE w v cx zv btv) (hb:btv + rx*(btx + 1)≤b) (hl:b + b + 2≤bo) (hl2:btx≤b):
    Calls Tryz.prog 21 #[x,v] w (cg w fun v w'=>∃vq vr,v= .tuple #[vq,vr,.int .i64 0]∧bE w' vq rx (cf Mx cx zv) b∧bE w' vr cx (bZ Mx cx zv rx) b):=by
  rcases Nat.eq_zero_or_pos cx with h0 | h0
  · refine (ls w x rx cx Mx btx v cx zv btv b hx hv h0 (by omega)).mono ?_
    rintro e w' ⟨v,rfl,hx',h⟩;rcases h with ⟨h,_⟩ | ⟨_,h⟩
    · exact absurd rfl h
    · exact ⟨v,rfl,hx',h⟩
  · refine (nC w x rx cx Mx btx v cx zv btv b hx hv h0 hb hl hl2).mono ?_
    rintro e w' ⟨v,rfl,hx',h⟩;rcases h with ⟨h,_⟩ | ⟨_,h⟩
    · exact absurd rfl h
    · exact ⟨v,rfl,hx',h⟩
theorem qZ (w:World) (x:Value) (rx cx:Nat) (Mx:Nat→Nat→Int) (btx:Nat) (v:Value) (nv:Nat) (zv:Nat→Int) (btv:Nat) (hx:bU w x rx cx Mx btx) (hv:bE w v nv zv btv) (hn:nv≠cx) (hl:btv + rx*(btx + 1) + (btv + rx*(btx + 1) + (btx + btx + 2))≤bo):
    Calls Tryz.prog 21 #[x,v] w (cg w fun v w'=>v= .tuple #[.slice none 0 0,.slice none 0 0,.int .i64 50]):=by
  rcases Nat.eq_zero_or_pos cx with h0 | h0
  · refine (ls w x rx cx Mx btx v nv zv btv 0 hx hv h0 (by omega)).mono ?_
    rintro e w' ⟨v,rfl,hx',h⟩;rcases h with ⟨_,h⟩ | ⟨h,_⟩
    · exact ⟨v,rfl,hx',h⟩
    · exact absurd h hn
  · refine (nC w x rx cx Mx btx v nv zv btv (btv + rx*(btx + 1) + btx) hx hv h0 (by omega) (by omega) (by omega)).mono ?_
    rintro e w' ⟨v,rfl,hx',h⟩;rcases h with ⟨_,h⟩ | ⟨h,_⟩
    · exact ⟨v,rfl,hx',h⟩
    · exact absurd h hn
theorem tg (w:World) (x:Value) (rx cx:Nat) (Mx:Nat→Nat→Int) (btx:Nat) (y:Value) (ry cy:Nat) (My:Nat→Nat→Int) (bty b:Nat) (hx:bU w x rx cx Mx btx) (hy:bU w y ry cy My bty) (hxy:cx=ry) (hb:btx + bty + 1≤bo) (hb2:b + 1≤bo)
    (hfit:∀i j k,i<rx→j<cy→k≤cx→(aM k (fun x=>Mx i x*My x j)).natAbs<2^b):
    Calls Tryz.prog 61 #[x,y] w (cg w fun v w'=>∃v1,v= .tuple #[v1,.int .i64 0]∧bU w' v1 rx cy (bC cx Mx My) b):=by
  refine (zb w x rx cx Mx btx y ry cy My bty b hx hy hxy hb hb2 hfit).mono ?_;rintro e w' ⟨v,rfl,hx',v1,h1,h2⟩;exact ⟨v,rfl,hx',v1,h1,ct.matV h2⟩
theorem jw {r n c a b:Nat} {A B:Nat→Nat→Int} (hA:∀i j,i<r→j<n→(A i j).natAbs<2^a) (hB:∀i j,i<n→j<c→(B i j).natAbs<2^b) (hn:n≤16) {d:Nat} (hd:a + b + 5≤d):
    ∀i j k,i<r→j<c→k≤n→(aM k (fun x=>A i x*B x j)).natAbs<2^d:=by
  intro i j k hi hj hk;have h1:(aM k (fun x=>A i x*B x j)).natAbs≤k*(2^a*2^b):=jS fun x hx=>by
    rw [Int.natAbs_mul];exact Nat.mul_le_mul (Nat.le_of_lt (hA i x hi (by omega))) (Nat.le_of_lt (hB x j (by omega) hj))
  have h2:k*(2^a*2^b)≤16*(2^a*2^b):=Nat.mul_le_mul_right _ (by omega);have h3:16*(2^a*2^b)<2^(a + b + 5):=by
    rw [Nat.pow_add,Nat.pow_add];have:=Nat.mul_pos (Nat.two_pow_pos a) (Nat.two_pow_pos b);omega
  have h4:2^(a + b + 5)≤2^d:=Nat.pow_le_pow_right (by decide) hd;omega
def bI (rx ca rh ch ru cu rv cv:Nat) (A H U V:Nat→Nat→Int):Prop:=
  (cC rh ch H∧rh=rx∧ch=ca∧(ru=rx∧cu=rx)∧(rv=rx∧cv=rx))∧ar ru ca rh ch (bC cu U A) H∧ar ru cv rx rx (bC cu U V) du
instance (rx ca rh ch ru cu rv cv:Nat) (A H U V:Nat→Nat→Int):Decidable (bI rx ca rh ch ru cu rv cv A H U V):=inferInstanceAs (Decidable ((_∧_)∧_))
section
variable {rx ca rh ch ru cu rv cv:Nat} {A H U V:Nat→Nat→Int}
theorem tP (h:bI rx ca rh ch ru cu rv cv A H U V) (c:(((((¬True∨¬cC rh ch H)∨((rh:Nat):Int)≠((rx:Nat):Int))∨((ch:Nat):Int)≠((ca:Nat):Int))∨¬(ru=rx∧cu=rx))∨¬(rv=rx∧cv=rx))):False:=by
  obtain ⟨⟨h1,h2,h3,h4,h5⟩,_⟩:=h;rcases c with ((((c | c) | c) | c) | c) | c
  · exact c trivial
  · exact c h1
  · exact c (by rw [h2])
  · exact c (by rw [h3])
  · exact c h4
  · exact c h5
theorem vH (c:¬(((((¬True∨¬cC rh ch H)∨((rh:Nat):Int)≠((rx:Nat):Int))∨((ch:Nat):Int)≠((ca:Nat):Int))∨¬(ru=rx∧cu=rx))∨¬(rv=rx∧cv=rx))):cC rh ch H∧rh=rx∧ch=ca∧(ru=rx∧cu=rx)∧(rv=rx∧cv=rx):=
  ⟨Decidable.by_contra fun h=>c (.inl (.inl (.inl (.inl (.inr h))))),Decidable.by_contra fun h=>c (.inl (.inl (.inl (.inr (by omega))))),Decidable.by_contra fun h=>c (.inl (.inl (.inr (by omega)))),Decidable.by_contra fun h=>c (.inl (.inr h)),Decidable.by_contra fun h=>c (.inr h)⟩
theorem zp (c:¬(((¬True∨¬cC rh ch H)∨((rh:Nat):Int)≠((rx:Nat):Int))∨((ch:Nat):Int)≠((ca:Nat):Int))):cC rh ch H∧rh=rx∧ch=ca:=
  ⟨Decidable.by_contra fun h=>c (.inl (.inl (.inr h))),Decidable.by_contra fun h=>c (.inl (.inr (by omega))),Decidable.by_contra fun h=>c (.inr (by omega))⟩
theorem xJ (h:bI rx ca rh ch ru cu rv cv A H U V) (c:(((¬True∨¬cC rh ch H)∨((rh:Nat):Int)≠((rx:Nat):Int))∨((ch:Nat):Int)≠((ca:Nat):Int))):False:=
  tP h (.inl (.inl c))
theorem vI (hk:cC rh ch H∧rh=rx∧ch=ca):(((((((ru:Nat):Int)=((rx:Nat):Int)∧((cu:Nat):Int)=((rx:Nat):Int))∧True)∧((((rv:Nat):Int)=((rx:Nat):Int)∧((cv:Nat):Int)=((rx:Nat):Int))∧True))∧ar ru ca rh ch (bC cu U A) H)∧ar ru cv rx rx (bC cu U V) du)↔bI rx ca rh ch ru cu rv cv A H U V:=by
  constructor
  · rintro ⟨⟨⟨⟨⟨h1,h2⟩,_⟩,⟨⟨h3,h4⟩,_⟩⟩,h5⟩,h6⟩
    exact ⟨⟨hk.1,hk.2.1,hk.2.2,⟨by omega,by omega⟩,⟨by omega,by omega⟩⟩,h5,h6⟩
  · rintro ⟨⟨_,_,_,⟨h1,h2⟩,⟨h3,h4⟩⟩,h5,h6⟩
    exact ⟨⟨⟨⟨⟨by omega,by omega⟩,trivial⟩,⟨⟨by omega,by omega⟩,trivial⟩⟩,h5⟩,h6⟩
end
end Go.TL
namespace Go.TL
open Go.RowKit Go.Proofs
set_option linter.unusedVariables false
set_option linter.unusedSimpArgs false
section
set_option maxRecDepth 100000
theorem mW:ay Tryz.prog 29=true:=by kernel_rfl
theorem wr:ay Tryz.prog 60=true:=by kernel_rfl
theorem wq:ay Tryz.prog 61=true:=by kernel_rfl
theorem wo:ay Tryz.prog 62=true:=by kernel_rfl
theorem gb:dT Tryz.prog 31 1 3=true:=by kernel_rfl
theorem ju:dT Tryz.prog 31 2 6=true:=by kernel_rfl
end
set_option maxRecDepth 10000 in
set_option maxHeartbeats 800000 in
theorem mh (w:World) (x:Value) (rx cx:Nat) (Mx:Nat→Nat→Int) (btx:Nat) (s1 s2 s3:Value) (rh ch ru cu rv cv:Nat) (Mh Mu Mv:Nat→Nat→Int) (bh bu bv:Nat) (b:Nat) (hx:bU w x rx cx Mx btx) (h65:rh≤65536∧ch≤65536∧ru≤65536∧cu≤65536∧rv≤65536∧cv≤65536) (hSha:ck w s1 rh ch Mh bh) (hShb:ck w s2 ru cu Mu bu) (hShc:ck w s3 rv cv Mv bv) (h16:rx≤16) (hb1:bu + btx + 5≤b) (hb2:bu + bv + 5≤b) (hl:b + 1≤bo):Calls Tryz.prog 17 #[x,.agg #[.int .i64 (rh:Nat),.int .i64 (ch:Nat),s1,.int .i64 (ru:Nat),.int .i64 (cu:Nat),s2,.int .i64 (rv:Nat),.int .i64 (cv:Nat),s3]] w (cg w fun v w'=>v= .bool (decide (bI rx cx rh ch ru cu rv cv Mx Mh Mu Mv))):=by
 have hLIM:bo=562949953421312:=rfl;have hmatx:=hx;obtain ⟨sx,rfl,hrx,hcx,hSx⟩:=hx.form;refine ah (N:=76) (rs:= #[.tmp 4]) Tryz.func17 rfl rfl rfl (Nat.le_of_ble_eq_true rfl) ?_;have hX:aC w w:=aC.refl w;refine ab ?_;refine RL.x rfl rfl (cZ.box [.int .i64 ((rx:Nat)),.int .i64 ((cx:Nat)),sx] rfl rfl) ?_;rintro _ w1 ⟨g1,rfl,hge1,hx1,hA1⟩;replace hX:=aC.trans hX hx1;refine RL.x rfl rfl (cZ.box [.int .i64 ((rh:Nat)),.int .i64 ((ch:Nat)),s1,.int .i64 ((ru:Nat)),.int .i64 ((cu:Nat)),s2,.int .i64 ((rv:Nat)),.int .i64 ((cv:Nat)),s3] rfl rfl) ?_;rintro _ w2 ⟨g2,rfl,hge2,hx2,hA2⟩;replace hA1:=bj.ext hA1 hx2;replace hX:=aC.trans hX hx2;refine RL.p rfl rfl (cD.assign rfl) ?_;refine RL.nil ?_;refine WP.seq ?_;refine aE (hmono:=⟨⟨ac _,ac _,ac _,ac _,bF.imp (ac _),bF.imp (ac _),bF.imp (ac _),bF.imp (ac _),ac _,ac _,bF.imp (ac _),bF.imp (ac _),bF.imp (ac _),bF.imp (ac _),bF.imp (ac _),bF.imp (ac _),ac _,ac _,bF.imp (ac _),bF.imp (ac _),bF.imp (ac _),bF.imp (ac _),bF.imp (ac _),bF.imp (ac _),ac _,ac _,bF.imp (ac _),bF.imp (ac _),bF.imp (ac _),bF.imp (ac _),bF.imp (ac _),bF.imp (ac _),ac _,ac _,bF.imp (ac _),bF.imp (ac _),bF.imp (ac _),bF.imp (ac _),bF.imp (ac _),bF.imp (ac _),ac _,trivial⟩⟩) ak 41 (_::(fun v Aa=>v= .bool (decide (True)))::_::(fun v Aa=>v= .bool (decide (¬(True))))::_::_::(fun v Aa=>(¬(¬(True)))→(v= .bool (decide (cC rh ch Mh))))::_::_::(fun v Aa=>v= .bool (decide ((¬(True))∨(¬(cC rh ch Mh)))))::_:: [_,_,_,_,_,_,fun v Aa=>v= .bool (decide (((¬(True))∨(¬(cC rh ch Mh)))∨(((rh:Nat):Int)≠((rx:Nat):Int)))),_,_,_,_,_,_,_,fun v Aa=>v= .bool (decide ((((¬(True))∨(¬(cC rh ch Mh)))∨(((rh:Nat):Int)≠((rx:Nat):Int)))∨(((ch:Nat):Int)≠((cx:Nat):Int)))),_,_,_,_,fun v Aa=>(¬((((¬(True))∨(¬(cC rh ch Mh)))∨(((rh:Nat):Int)≠((rx:Nat):Int)))∨(((ch:Nat):Int)≠((cx:Nat):Int))))→(v= .bool (decide (ru=rx∧cu=rx))),_,_,fun v Aa=>v= .bool (decide (((((¬(True))∨(¬(cC rh ch Mh)))∨(((rh:Nat):Int)≠((rx:Nat):Int)))∨(((ch:Nat):Int)≠((cx:Nat):Int)))∨(¬(ru=rx∧cu=rx)))),_,_,_,_,fun v Aa=>(¬(((((¬(True))∨(¬(cC rh ch Mh)))∨(((rh:Nat):Int)≠((rx:Nat):Int)))∨(((ch:Nat):Int)≠((cx:Nat):Int)))∨(¬(ru=rx∧cu=rx))))→(v= .bool (decide (rv=rx∧cv=rx))),_,_]) rfl rfl (fun e_ w_ zZ zY=>⟨fun _=>aa (ag [.int .i64 ((rx:Nat)),.int .i64 ((cx:Nat)),sx] aL ((zY 2 rfl rfl)) ((bj.ext hA1 zZ).cells 0 _ rfl rfl)),fun zX=>cZ.call rJ (aJ ((zX 0 rfl))) (nw _ _ _ _ _ _ (bU.mk (ck.ext (ck.ext hSx hX) zZ) (by omega) (by omega))),fun zX=>aa (cD.not (p:=True) (zX 1 rfl)),fun zX=>aa (cD.move ((zX 2 rfl))),fun zX=>gF (zX 3 rfl) fun hg=>aa (cD.fieldAddr dX ((zY 3 rfl rfl))),fun zX=>gF (zX 3 rfl) fun hg=>aa (ag [.int .i64 ((rh:Nat)),.int .i64 ((ch:Nat)),s1] aL ((zX 4 rfl hg)) ((bj.ext hA2 zZ).cells 0 _ rfl rfl)),fun zX=>gF (zX 3 rfl) fun hg=>cZ.call mW (aJ ((zX 5 rfl hg))) (pM _ _ _ _ _ _ (bU.mk (ck.ext (ck.ext hSha hX) zZ) (by omega) (by omega))),fun zX=>gF (zX 3 rfl) fun hg=>aa (cD.not (p:=cC rh ch Mh) (zX 6 rfl hg)),fun zX=>aa (aZ (p:=¬(True)) (q:=¬(cC rh ch Mh)) (zX 3 rfl) (fun hq=>(zX 7 rfl hq))),fun zX=>aa (cD.move ((zX 8 rfl))),fun zX=>gF (zX 9 rfl) fun hg=>aa (cD.fieldAddr dX ((zY 3 rfl rfl))),fun zX=>gF (zX 9 rfl) fun hg=>aa (cD.fieldAddr aS ((zX 10 rfl hg))),fun zX=>gF (zX 9 rfl) fun hg=>aa (cD.load bt ((zX 11 rfl hg)) ((bj.ext hA2 zZ).at_ (i:=0) rfl rfl)),fun zX=>gF (zX 9 rfl) fun hg=>aa (cD.fieldAddr aS ((zY 2 rfl rfl))),fun zX=>gF (zX 9 rfl) fun hg=>aa (cD.load bt ((zX 13 rfl hg)) ((bj.ext hA1 zZ).at_ (i:=0) rfl rfl)),fun zX=>gF (zX 9 rfl) fun hg=>aa (cD.neq ((zX 12 rfl hg)) ((zX 14 rfl hg))),fun zX=>aa (aZ (p:=(¬(True))∨(¬(cC rh ch Mh))) (q:=((rh:Nat):Int)≠((rx:Nat):Int)) (zX 9 rfl) (fun hq=>(zX 15 rfl hq))),fun zX=>aa (cD.move ((zX 16 rfl))),fun zX=>gF (zX 17 rfl) fun hg=>aa (cD.fieldAddr dX ((zY 3 rfl rfl))),fun zX=>gF (zX 17 rfl) fun hg=>aa (cD.fieldAddr bs ((zX 18 rfl hg))),fun zX=>gF (zX 17 rfl) fun hg=>aa (cD.load bt ((zX 19 rfl hg)) ((bj.ext hA2 zZ).at_ (i:=1) rfl rfl)),fun zX=>gF (zX 17 rfl) fun hg=>aa (cD.fieldAddr bs ((zY 2 rfl rfl))),fun zX=>gF (zX 17 rfl) fun hg=>aa (cD.load bt ((zX 21 rfl hg)) ((bj.ext hA1 zZ).at_ (i:=1) rfl rfl)),fun zX=>gF (zX 17 rfl) fun hg=>aa (cD.neq ((zX 20 rfl hg)) ((zX 22 rfl hg))),fun zX=>aa (aZ (p:=((¬(True))∨(¬(cC rh ch Mh)))∨(((rh:Nat):Int)≠((rx:Nat):Int))) (q:=((ch:Nat):Int)≠((cx:Nat):Int)) (zX 17 rfl) (fun hq=>(zX 23 rfl hq))),fun zX=>aa (cD.move ((zX 24 rfl))),fun zX=>gF (zX 25 rfl) fun hg=>aa (cD.fieldAddr gb ((zY 3 rfl rfl))),fun zX=>gF (zX 25 rfl) fun hg=>aa (ag [.int .i64 ((ru:Nat)),.int .i64 ((cu:Nat)),s2] aL ((zX 26 rfl hg)) ((bj.ext hA2 zZ).cells 3 _ rfl rfl)),fun zX=>gF (zX 25 rfl) fun hg=>aa (cD.fieldAddr aS ((zY 2 rfl rfl))),fun zX=>gF (zX 25 rfl) fun hg=>aa (cD.load bt ((zX 28 rfl hg)) ((bj.ext hA1 zZ).at_ (i:=0) rfl rfl)),fun zX=>gF (zX 25 rfl) fun hg=>cZ.call wr (aB ((zX 27 rfl hg)) ((zX 29 rfl hg))) (pK _ _ _ _ _ _ rx (bU.mk (ck.ext (ck.ext hShb hX) zZ) (by omega) (by omega))),fun zX=>gF (zX 25 rfl) fun hg=>aa (cD.not (p:=ru=rx∧cu=rx) (zX 30 rfl hg)),fun zX=>aa (aZ (p:=(((¬(True))∨(¬(cC rh ch Mh)))∨(((rh:Nat):Int)≠((rx:Nat):Int)))∨(((ch:Nat):Int)≠((cx:Nat):Int))) (q:=¬(ru=rx∧cu=rx)) (zX 25 rfl) (fun hq=>(zX 31 rfl hq))),fun zX=>aa (cD.move ((zX 32 rfl))),fun zX=>gF (zX 33 rfl) fun hg=>aa (cD.fieldAddr ju ((zY 3 rfl rfl))),fun zX=>gF (zX 33 rfl) fun hg=>aa (ag [.int .i64 ((rv:Nat)),.int .i64 ((cv:Nat)),s3] aL ((zX 34 rfl hg)) ((bj.ext hA2 zZ).cells 6 _ rfl rfl)),fun zX=>gF (zX 33 rfl) fun hg=>aa (cD.fieldAddr aS ((zY 2 rfl rfl))),fun zX=>gF (zX 33 rfl) fun hg=>aa (cD.load bt ((zX 36 rfl hg)) ((bj.ext hA1 zZ).at_ (i:=0) rfl rfl)),fun zX=>gF (zX 33 rfl) fun hg=>cZ.call wr (aB ((zX 35 rfl hg)) ((zX 37 rfl hg))) (pK _ _ _ _ _ _ rx (bU.mk (ck.ext (ck.ext hShc hX) zZ) (by omega) (by omega))),fun zX=>gF (zX 33 rfl) fun hg=>aa (cD.not (p:=rv=rx∧cv=rx) (zX 38 rfl hg)),fun zX=>aa (aZ (p:=((((¬(True))∨(¬(cC rh ch Mh)))∨(((rh:Nat):Int)≠((rx:Nat):Int)))∨(((ch:Nat):Int)≠((cx:Nat):Int)))∨(¬(ru=rx∧cu=rx))) (q:=¬(rv=rx∧cv=rx)) (zX 33 rfl) (fun hq=>(zX 39 rfl hq))),trivial⟩) ?_;intro e1 w3 hx3 ho1 hf1;replace hA1:=bj.ext hA1 hx3;replace hA2:=bj.ext hA2 hx3;replace hX:=aC.trans hX hx3;have s2_e1:e1 2=_:=ho1 2 rfl rfl;have s3_e1:e1 3=_:=ho1 3 rfl rfl;have s49_e1:e1 49=_:=hf1 40 rfl;refine RL.nil ?_;refine ae ((((((¬(True))∨(¬(cC rh ch Mh)))∨(((rh:Nat):Int)≠((rx:Nat):Int)))∨(((ch:Nat):Int)≠((cx:Nat):Int)))∨(¬(ru=rx∧cu=rx)))∨(¬(rv=rx∧cv=rx))) s49_e1 (fun c49=> ?_) (fun c49=> ?_)
 ·
  refine ab ?_;refine RL.p rfl rfl (cD.assign rfl) ?_;refine RL.nil ?_;refine WP.ret ?_;refine oL.ret ?_;refine ⟨.bool (false),zw.one (fC.tmp rfl),_,rfl,hX,?_⟩;dsimp only;exact congrArg _ (decide_eq_false fun h=>tP h c49).symm
 ·
  refine WP.skip ?_;refine oL.norm ?_;obtain ⟨hka,hkb,hkc,hkd,hke⟩:=vH c49;refine ab ?_;refine RL.p rfl rfl (cD.fieldAddr gb s3_e1) ?_;refine RL.p rfl rfl (ag [.int .i64 ((ru:Nat)),.int .i64 ((cu:Nat)),s2] aL rfl (hA2.cells 3 _ rfl rfl)) ?_;refine RL.p rfl rfl (ag [.int .i64 ((rx:Nat)),.int .i64 ((cx:Nat)),sx] aL s2_e1 (hA1.cells 0 _ rfl rfl)) ?_;refine RL.x rfl rfl (cZ.call wq (aB rfl rfl) (tg _ _ _ _ _ _ _ _ _ _ _ b (bU.mk (ck.ext hShb hX) (by omega) (by omega)) (bU.mk (ck.ext hSx hX) (by omega) (by omega)) (by omega) (by omega) (by omega) (jw (ck.bd hShb) (by rw [show cu=rx by omega];exact ck.bd hSx) (by omega) (by omega)))) ?_;rintro _ w4 ⟨hx4,v1,rfl,q1⟩;replace hA1:=bj.ext hA1 hx4;replace hA2:=bj.ext hA2 hx4;replace hX:=aC.trans hX hx4;refine RL.p rfl rfl (cD.move rfl) ?_;refine RL.p rfl rfl (cD.extract rfl rfl) ?_;refine RL.p rfl rfl (cD.extract rfl rfl) ?_;refine RL.x rfl rfl (cZ.alloc [.int .i64 (0),.int .i64 (0),.slice (none) (0) (0)] cd rfl) ?_;rintro _ w5 ⟨g3,rfl,hge3,hx5,hA3⟩;have ne2:g1≠g3:=Nat.ne_of_lt (Nat.lt_of_lt_of_le hA1.lt hge3);have ne3:g2≠g3:=Nat.ne_of_lt (Nat.lt_of_lt_of_le hA2.lt hge3);have hbs3:w.heap.size≤g3:=Nat.le_trans hX.size hge3;replace hA1:=bj.ext hA1 hx5;replace hA2:=bj.ext hA2 hx5;replace q1:=bU.ext q1 hx5;replace hX:=aC.trans hX hx5;obtain ⟨sv1,hq1,hr1,hc1,hS1⟩:=q1.form;refine RL.x rfl rfl (cZ.store [.int .i64 ((ru:Nat)),.int .i64 ((cx:Nat)),sv1] cG rfl hq1 rfl hA3 (Nat.le_of_ble_eq_true rfl) (cJ rfl rfl hS1.one)) ?_;rintro _ w6 ⟨hk1,hnew⟩;replace hA1:=hA1.keep hk1 ne2;replace hA2:=hA2.keep hk1 ne3;replace hS1:=bG hS1 hk1 hA3 (by decide);replace hX:=hX.step hk1 (fun b e=>by subst e;exact hbs3);replace hA3:=hnew.lit [.int .i64 ((ru:Nat)),.int .i64 ((cx:Nat)),sv1] rfl;clear hnew;refine RL.p rfl rfl (cD.assign rfl) ?_;refine RL.nil ?_;refine ab ?_;refine RL.p rfl rfl (cD.fieldAddr gb s3_e1) ?_;refine RL.p rfl rfl (ag [.int .i64 ((ru:Nat)),.int .i64 ((cu:Nat)),s2] aL rfl (hA2.cells 3 _ rfl rfl)) ?_;refine RL.p rfl rfl (cD.fieldAddr ju s3_e1) ?_;refine RL.p rfl rfl (ag [.int .i64 ((rv:Nat)),.int .i64 ((cv:Nat)),s3] aL rfl (hA2.cells 6 _ rfl rfl)) ?_;refine RL.x rfl rfl (cZ.call wq (aB rfl rfl) (tg _ _ _ _ _ _ _ _ _ _ _ b (bU.mk (ck.ext hShb hX) (by omega) (by omega)) (bU.mk (ck.ext hShc hX) (by omega) (by omega)) (by omega) (by omega) (by omega) (jw (ck.bd hShb) (by rw [show cu=rv by omega];exact ck.bd hShc) (by omega) (by omega)))) ?_;rintro _ w7 ⟨hx6,v2,rfl,q2⟩;replace hA1:=bj.ext hA1 hx6;replace hA2:=bj.ext hA2 hx6;replace hA3:=bj.ext hA3 hx6;replace hS1:=ck.ext hS1 hx6;replace hX:=aC.trans hX hx6;refine RL.p rfl rfl (cD.move rfl) ?_;refine RL.p rfl rfl (cD.extract rfl rfl) ?_;refine RL.p rfl rfl (cD.extract rfl rfl) ?_;refine RL.x rfl rfl (cZ.alloc [.int .i64 (0),.int .i64 (0),.slice (none) (0) (0)] cd rfl) ?_;rintro _ w8 ⟨g4,rfl,hge4,hx7,hA4⟩;have ne4:g1≠g4:=Nat.ne_of_lt (Nat.lt_of_lt_of_le hA1.lt hge4);have ne5:g2≠g4:=Nat.ne_of_lt (Nat.lt_of_lt_of_le hA2.lt hge4);have ne6:g3≠g4:=Nat.ne_of_lt (Nat.lt_of_lt_of_le hA3.lt hge4);have hbs4:w.heap.size≤g4:=Nat.le_trans hX.size hge4;replace hA1:=bj.ext hA1 hx7;replace hA2:=bj.ext hA2 hx7;replace hA3:=bj.ext hA3 hx7;replace hS1:=ck.ext hS1 hx7;replace q2:=bU.ext q2 hx7;replace hX:=aC.trans hX hx7;obtain ⟨sv2,hq2,hr2,hc2,hS2⟩:=q2.form;refine RL.x rfl rfl (cZ.store [.int .i64 ((ru:Nat)),.int .i64 ((cv:Nat)),sv2] cG rfl hq2 rfl hA4 (Nat.le_of_ble_eq_true rfl) (cJ rfl rfl hS2.one)) ?_;rintro _ w9 ⟨hk2,hnew⟩;replace hA1:=hA1.keep hk2 ne4;replace hA2:=hA2.keep hk2 ne5;replace hA3:=hA3.keep hk2 ne6;replace hS1:=bG hS1 hk2 hA4 (by decide);replace hS2:=bG hS2 hk2 hA4 (by decide);replace hX:=hX.step hk2 (fun b e=>by subst e;exact hbs4);replace hA4:=hnew.lit [.int .i64 ((ru:Nat)),.int .i64 ((cv:Nat)),sv2] rfl;clear hnew;refine RL.p rfl rfl (cD.assign rfl) ?_;refine RL.nil ?_;have hBw1:w.heap.size≤w9.heap.size:=hX.size;refine aE ak 11 [_,_,_,fun v Aa=>v= .bool (decide (ar ru cx rh ch (bC cu Mu Mx) Mh)),fun v Aa=>v= .bool (decide (ar ru cx rh ch (bC cu Mu Mx) Mh)),_,_,_,fun v Aa=>(ar ru cx rh ch (bC cu Mu Mx) Mh)→(ct Aa v w9.heap.size rx rx du 1),fun v Aa=>(ar ru cx rh ch (bC cu Mu Mx) Mh)→(v= .bool (decide (ar ru cv rx rx (bC cu Mu Mv) du))),_] rfl rfl (fun e_ w_ zZ zY=>⟨fun _=>aa (ag [.int .i64 ((ru:Nat)),.int .i64 ((cx:Nat)),sv1] aL ((zY 5 rfl rfl)) ((bj.ext hA3 zZ).cells 0 _ rfl rfl)),fun _=>aa (cD.fieldAddr dX ((zY 3 rfl s3_e1))),fun zX=>aa (ag [.int .i64 ((rh:Nat)),.int .i64 ((ch:Nat)),s1] aL ((zX 1 rfl)) ((bj.ext hA2 zZ).cells 0 _ rfl rfl)),fun zX=>cZ.call wo (aB ((zX 0 rfl)) ((zX 2 rfl))) (pB _ _ _ _ _ _ _ _ _ _ _ (bU.mk (ck.ext hS1 zZ) (by omega) (by omega)) (bU.mk (ck.ext (ck.ext hSha hX) zZ) (by omega) (by omega))),fun zX=>aa (cD.move ((zX 3 rfl))),fun zX=>gT (zX 4 rfl) fun hg=>aa (ag [.int .i64 ((ru:Nat)),.int .i64 ((cv:Nat)),sv2] aL ((zY 7 rfl rfl)) ((bj.ext hA4 zZ).cells 0 _ rfl rfl)),fun zX=>gT (zX 4 rfl) fun hg=>aa (cD.fieldAddr aS ((zY 2 rfl s2_e1))),fun zX=>gT (zX 4 rfl) fun hg=>aa (cD.load bt ((zX 6 rfl hg)) ((bj.ext hA1 zZ).at_ (i:=0) rfl rfl)),fun zX=>gT (zX 4 rfl) fun hg=>cZ.mono (cZ.call rN (aJ ((zX 7 rfl hg))) (gL _ rx (by omega))) fun v Ab hv=>⟨hv.1,ct.low hv.2 zZ.size⟩,fun zX=>gT (zX 4 rfl) fun hg=>cZ.call wo (aB ((zX 5 rfl hg)) rfl) (pB _ _ _ _ _ _ _ _ _ _ _ (bU.mk (ck.ext hS2 zZ) (by omega) (by omega)) (ct.matV (zX 8 rfl hg))),fun zX=>aa (aw (p:=ar ru cx rh ch (bC cu Mu Mx) Mh) (q:=ar ru cv rx rx (bC cu Mu Mv) du) (zX 4 rfl) (fun hq=>(zX 9 rfl hq))),trivial⟩) ?_;intro e2 w10 hx8 ho2 hf2;replace hX:=aC.trans hX hx8;have s75_e2:e2 75=_:=hf2 10 rfl;refine RL.p rfl rfl (cD.assign s75_e2) ?_;refine RL.nil ?_;refine WP.ret ?_;refine ⟨.bool (decide ((ar ru cx rh ch (bC cu Mu Mx) Mh)∧(ar ru cv rx rx (bC cu Mu Mv) du))),zw.one (fC.tmp rfl),_,rfl,hX,?_⟩;dsimp only;exact congrArg _ (decide_eq_decide.2 ⟨fun h=>⟨⟨hka,hkb,hkc,hkd,hke⟩,h⟩,fun h=>h.2⟩)
end Go.TL
namespace Go.TL
set_option linter.unusedVariables false
def zR (r c:Nat) (M0:Nat→Nat→Int) (v:Nat→Int):Prop:=∀u:Nat→Int,(∀i,i<r→aM c (fun j=>u j*M0 i j)=0)→aM c (fun j=>v j*u j)=0
theorem ph (u v:Nat→Int) (n:Nat):aM n (fun j=>u j*v j)=aM n (fun j=>v j*u j):=aO fun _ _=>Int.mul_comm _ _
theorem jj {r c k k1:Nat} {M0 K1 M:Nat→Nat→Int} (h1:∀u,gC k1 c K1 u↔xR c r (wK M0) u) (h2:∀v,gC k c M v↔xR c k1 (wK K1) v) (v:Nat→Int):gC k c M v↔zR r c M0 v:=by
  rw [h2]
  constructor
  · intro hk u hu
    obtain ⟨a,ha⟩:=(h1 u).2 fun j hj=>hu j hj
    have e1:aM c (fun j=>v j*u j)=aM c (fun j=>u j*v j):=ph _ _ _;have e2:aM c (fun j=>u j*v j)=aM c (fun j=>aM k1 (fun x=>a x*K1 x j)*v j):=aO fun j hj=>by rw [ha j hj]
    have e3:aM c (fun j=>aM k1 (fun x=>a x*K1 x j)*v j)=aM k1 (fun x=>a x*aM c (fun j=>K1 x j*v j)):=(eD k1 c a K1 (fun j _=>v j) 0).symm;rw [e1,e2,e3];refine dE fun x hx=> ?_
    have e4:aM c (fun j=>K1 x j*v j)=aM c (fun j=>v j*wK K1 j x):=ph _ _ _;rw [e4,hk x hx,Int.mul_zero]
  · intro hs x hx
    exact hs (K1 x) fun i hi=>(h1 (K1 x)).1 (gC.row hx) i hi
theorem qe.lat {r c e0 k:Nat} {M0 M:Nat→Nat→Int} (h:qe r c e0 M0 k M):(∃P,fI k c M P)∧∀v,gC k c M v↔zR r c M0 v:=by
  obtain ⟨k1,K1,a1,a2⟩:=h;exact ⟨a2.lat.1,jj a1.lat.2 a2.lat.2⟩
theorem zQ.lat {r c e0 e1 k:Nat} {M0 M:Nat→Nat→Int} (h:zQ r c e0 e1 M0 k M):(∃P,fI k c M P)∧∀v,gC k c M v↔zR r c M0 v:=by
  obtain ⟨k1,K1,a1,a2⟩:=h;exact ⟨a2.lat.1,jj a1.lat.2 a2.lat.2⟩
end Go.TL
namespace Go.TL
open Go.RowKit Go.Proofs
set_option linter.unusedVariables false
def qh (w:World) (v:Value) (r c e0:Nat) (M0:Nat→Nat→Int) (b:Nat):Prop:=∃k M,fW r c e0 M0 k M∧bU w v k r M b
theorem qh.ext {w w':World} {v:Value} {r c e0 b:Nat} {M0:Nat→Nat→Int} (h:qh w v r c e0 M0 b) (hx:aC w w'):qh w' v r c e0 M0 b:=by obtain ⟨k,S,h1,h2⟩:=h;exact ⟨k,S,h1,h2.ext hx⟩
theorem ox (r c e0:Nat) (M0:Nat→Nat→Int) (b:Nat):bF (fun v w=>qh w v r c e0 M0 b):=fun _ _ _ h hx=>h.ext hx
instance (r c e0:Nat) (M0:Nat→Nat→Int) (b:Nat):Nonempty (bF (fun v w=>qh w v r c e0 M0 b)):=⟨ox r c e0 M0 b⟩
end Go.TL
namespace Go.TL
set_option linter.unusedVariables false
def av (a b:Int):Nat→Nat→Int:=fun _ j=>if j=0 then a else b
end Go.TL
namespace Go.TL
open Go.RowKit Go.Proofs
set_option linter.unusedVariables false
def f2 (a b:Int):Nat→Int:=fun i=>if i=0 then a else b
def f4 (a b c d:Int):Nat→Int:=fun i=>if i=0 then a else if i=1 then b else if i=2 then c else d
def vG (a b:Int):Nat→Nat→Int:=fun i _=>if i=0 then a else b
def aG (a b c d:Int):Nat→Nat→Int:=fun i j=>if i=0 then (if j=0 then a else b) else (if j=0 then c else d)
theorem pv {w:World} {g T m:Nat} {a b:Int} (hA:bj w g T 2 (bX [.int .i64 a,.int .i64 b])):eL .i64 m w (.slice (some ⟨g,0,none⟩) 2 2) 2 (f2 a b):=
  ⟨_,_,rfl,Nat.le_refl _,by decide,fun _=>⟨g,0,rfl,fun i hi=>by
    rw [Nat.zero_add];have:=hA.cell hi;rcases (by omega:i=0∨i=1) with rfl | rfl
    · exact this
    · exact this⟩⟩
theorem pu {w:World} {g T m:Nat} {a b c d:Int} (hA:bj w g T 4 (bX [.int .i64 a,.int .i64 b,.int .i64 c,.int .i64 d])):eL .i64 m w (.slice (some ⟨g,0,none⟩) 4 4) 4 (f4 a b c d):=
  ⟨_,_,rfl,Nat.le_refl _,by decide,fun _=>⟨g,0,rfl,fun i hi=>by
    rw [Nat.zero_add];have:=hA.cell hi;rcases (by omega:i=0∨i=1∨i=2∨i=3) with rfl | rfl | rfl | rfl
    · exact this
    · exact this
    · exact this
    · exact this⟩⟩
section
variable {w:World} {l x y:Value} {a b c d:Int}
theorem jZ (hl:eL .i64 2 w l 2 (f2 a b)) (ha:a.natAbs<16) (hb:b.natAbs<16):Calls Tryz.prog 36 #[.int .i64 1,.int .i64 2,l] w (cg w fun v w'=>ct w' v w.heap.size 1 2 (av a b) 4):=by
  have hf:∀i,i<2→(f2 a b i).natAbs<16:=fun i _=>by unfold f2;split<;>assumption
  refine (lY w 1 2 l 2 (f2 a b) 4 (by decide) (by decide) hl (by decide) (fun i hi=>by have:=hf i hi;omega) (fun i hi=>hf i hi)).mono fun _ w' ⟨v,g1,g2,g3⟩=>⟨v,g1,g2,ct.congr g3 fun i j hi hj=> ?_⟩
  have:i=0:=by omega
  subst this
  unfold eP f2 av
  rw [if_pos (by omega),show 0*2 + j=j by omega]
theorem sE (hl:eL .i64 2 w l 2 (f2 a b)) (ha:a.natAbs<16) (hb:b.natAbs<16):Calls Tryz.prog 36 #[.int .i64 2,.int .i64 1,l] w (cg w fun v w'=>ct w' v w.heap.size 2 1 (vG a b) 4):=by
  have hf:∀i,i<2→(f2 a b i).natAbs<16:=fun i _=>by unfold f2;split<;>assumption
  refine (lY w 2 1 l 2 (f2 a b) 4 (by decide) (by decide) hl (by decide) (fun i hi=>by have:=hf i hi;omega) (fun i hi=>hf i hi)).mono fun _ w' ⟨v,g1,g2,g3⟩=>⟨v,g1,g2,ct.congr g3 fun i j hi hj=> ?_⟩
  have:j=0:=by omega
  subst this
  unfold eP f2 vG
  rw [if_pos (by omega),show i*1 + 0=i by omega]
theorem iq (hl:eL .i64 2 w l 4 (f4 a b c d)) (ha:a.natAbs<16∧b.natAbs<16) (hb:c.natAbs<16∧d.natAbs<16):Calls Tryz.prog 36 #[.int .i64 2,.int .i64 2,l] w (cg w fun v w'=>ct w' v w.heap.size 2 2 (aG a b c d) 4):=by
  have hf:∀i,i<4→(f4 a b c d i).natAbs<16:=fun i _=>by unfold f4;split<;>(try split)<;>(try split)<;>omega
  refine (lY w 2 2 l 4 (f4 a b c d) 4 (by decide) (by decide) hl (by decide) (fun i hi=>by have:=hf i hi;omega) (fun i hi=>hf i hi)).mono fun _ w' ⟨v,g1,g2,g3⟩=>⟨v,g1,g2,ct.congr g3 fun i j hi hj=> ?_⟩
  unfold eP f4 aG
  rw [if_pos (by omega)];rcases (by omega:i=0∨i=1) with rfl | rfl<;>rcases (by omega:j=0∨j=1) with rfl | rfl<;>rfl
end
theorem mb (w:World) (c:Nat) (hc:c≤65536):bU w (.agg #[.int .i64 ((0:Nat):Int),.int .i64 ((c:Nat):Int),.slice none 0 0]) 0 c (fun _ _=>0) 4:=
  bU.mk ⟨none,0,rfl,Nat.le_refl _,⟨by decide,by decide,by decide⟩,fun h=>by omega⟩ (by decide) hc
theorem lZ {e:cF} {i j l m:Nat} {x y z o:Operand} {v u t s:Value} (h:ev e x=v) (k:ev e y=u) (n:ev e z=t) (q:ev e o=s):
    #[(i,x),(j,y),(l,z),(m,o)].toList.map (fun p:Nat×Operand=>(p.1,ev e p.2))= [(i,v),(j,u),(l,t),(m,s)]:=by simp [h,k,n,q]
end Go.TL
