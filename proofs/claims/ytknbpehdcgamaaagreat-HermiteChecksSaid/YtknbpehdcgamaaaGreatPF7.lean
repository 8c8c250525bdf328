/-
  Lemmas towards the theorem of this claim (part 7).
  Conditions: those that each theorem names.
-/
import Derived.Test.YtknbpehdcgamaaaGreatPF6
namespace Go.TL
open Go.RowKit Go.Proofs
set_option linter.unusedVariables false
set_option linter.unusedSimpArgs false
set_option maxRecDepth 10000 in
theorem vV (w:World) (x:Value) (zx:Int) (btx:Nat) (y:Value) (zy:Int) (bty:Nat) (hx:al w x zx btx) (hy:al w y zy bty) (hzy:zy≠0) (hl:btx + bty + 300≤br):Calls Tryz.prog 55 #[x,y] w (ci w fun v w'=>al w' v (zx/zy) btx):=by
 have hLIM:br=562949953421312:=rfl;refine ak (N:=16) (rs:= #[.cell 4 49]) Tryz.func55 rfl rfl rfl (Nat.le_of_ble_eq_true rfl) ?_;have hX:aF w w:=aF.refl w;refine ab ?_;obtain ⟨ca1,cb1,hq1,ho1,ho2⟩:=al.cells (al.ext hx hX);have qi1:al w (.agg #[ca1,cb1]) zx btx:=hq1▸(al.ext hx hX);refine RL.x rfl rfl (dj.box [ca1,cb1] hq1 rfl) ?_;rintro _ w1 ⟨g1,rfl,hge1,hx1,hA1⟩;replace qi1:=al.ext qi1 hx1;replace hX:=aF.trans hX hx1;obtain ⟨ca2,cb2,hq2,ho3,ho4⟩:=al.cells (al.ext hy hX);have qi2:al w1 (.agg #[ca2,cb2]) zy bty:=hq2▸(al.ext hy hX);refine RL.x rfl rfl (dj.box [ca2,cb2] hq2 rfl) ?_;rintro _ w2 ⟨g2,rfl,hge2,hx2,hA2⟩;replace qi1:=al.ext qi1 hx2;replace hA1:=be.ext hA1 hx2;replace qi2:=al.ext qi2 hx2;replace hX:=aF.trans hX hx2;refine RL.x rfl rfl (dj.alloc [.bool (false),.slice (none) (0) (0)] bH rfl) ?_;rintro _ w3 ⟨g3,rfl,hge3,hx3,hA3⟩;have hbs3:w.heap.size≤g3:=Nat.le_trans hX.size hge3;replace qi1:=al.ext qi1 hx3;replace hA1:=be.ext hA1 hx3;replace qi2:=al.ext qi2 hx3;replace hA2:=be.ext hA2 hx3;replace hX:=aF.trans hX hx3;refine RL.nil ?_;refine ab ?_;refine RL.p rfl rfl (af [ca1,cb1] ao rfl (hA1.cells 0 _ rfl rfl)) ?_;refine RL.p rfl rfl (af [ca2,cb2] ao rfl (hA2.cells 0 _ rfl rfl)) ?_;refine RL.x rfl rfl (dj.call xG (ax rfl rfl) (oq _ _ _ _ _ _ _ qi1 qi2 hzy hl)) ?_;rintro _ w4 ⟨hx4,v1,v2,rfl,q1,q2⟩;replace hA3:=be.ext hA3 hx4;replace hX:=aF.trans hX hx4;refine RL.p rfl rfl (cI.move rfl) ?_;refine RL.p rfl rfl (cI.extract rfl rfl) ?_;refine RL.p rfl rfl (cI.extract rfl rfl) ?_;refine RL.p rfl rfl (cI.extract rfl rfl) ?_;refine RL.x rfl rfl (dj.alloc [.bool (false),.slice (none) (0) (0)] bH rfl) ?_;rintro _ w5 ⟨g4,rfl,hge4,hx5,hA4⟩;have ne6:g3≠g4:=Nat.ne_of_lt (Nat.lt_of_lt_of_le hA3.lt hge4);have hbs4:w.heap.size≤g4:=Nat.le_trans hX.size hge4;replace hA3:=be.ext hA3 hx5;replace q1:=al.ext q1 hx5;replace q2:=al.ext q2 hx5;replace hX:=aF.trans hX hx5;refine RL.x rfl rfl (dj.alloc [.bool (false),.slice (none) (0) (0)] bH rfl) ?_;rintro _ w6 ⟨g5,rfl,hge5,hx6,hA5⟩;have ne9:g3≠g5:=Nat.ne_of_lt (Nat.lt_of_lt_of_le hA3.lt hge5);have ne10:g4≠g5:=Nat.ne_of_lt (Nat.lt_of_lt_of_le hA4.lt hge5);have hbs5:w.heap.size≤g5:=Nat.le_trans hX.size hge5;replace hA3:=be.ext hA3 hx6;replace q1:=al.ext q1 hx6;replace q2:=al.ext q2 hx6;replace hA4:=be.ext hA4 hx6;replace hX:=aF.trans hX hx6;obtain ⟨ca3,cb3,hq3,ho5,ho6⟩:=al.cells q1;have qi3:al w6 (.agg #[ca3,cb3]) ((zx)/(zy)) btx:=hq3▸q1;refine RL.x rfl rfl (dj.store [ca3,cb3] aN rfl hq3 rfl hA4 (Nat.le_of_ble_eq_true rfl) (bj ho5 ho6)) ?_;rintro _ w7 ⟨hk1,hnew⟩;replace hA3:=hA3.keep hk1 ne6;replace q2:=ae q2 hk1 hA4 (by decide);replace hA5:=hA5.keep hk1 (Ne.symm ne10);replace qi3:=ae qi3 hk1 hA4 (by decide);replace hX:=hX.step hk1 (fun b e=>by subst e;exact hbs4);replace hA4:=hnew.lit [ca3,cb3] rfl;clear hnew;obtain ⟨ca4,cb4,hq4,ho7,ho8⟩:=al.cells q2;refine RL.x rfl rfl (dj.store [ca4,cb4] aN rfl hq4 rfl hA5 (Nat.le_of_ble_eq_true rfl) (bj ho7 ho8)) ?_;rintro _ w8 ⟨hk2,hnew⟩;replace hA3:=hA3.keep hk2 ne9;replace hA4:=hA4.keep hk2 ne10;replace qi3:=ae qi3 hk2 hA5 (by decide);replace hX:=hX.step hk2 (fun b e=>by subst e;exact hbs5);clear hnew;refine RL.p rfl rfl (cI.assign rfl) ?_;refine RL.nil ?_;refine ab ?_;refine RL.p rfl rfl (af [ca3,cb3] ao rfl (hA4.cells 0 _ rfl rfl)) ?_;refine RL.x rfl rfl (dj.store [ca3,cb3] aN rfl rfl rfl hA3 (Nat.le_of_ble_eq_true rfl) (bj ho5 ho6)) ?_;rintro _ w9 ⟨hk3,hnew⟩;replace qi3:=ae qi3 hk3 hA3 (by decide);replace hX:=hX.step hk3 (fun b e=>by subst e;exact hbs3);replace hA3:=hnew.lit [ca3,cb3] rfl;clear hnew;refine RL.nil ?_;refine WP.ret ?_;refine ⟨.agg #[ca3,cb3],Bb.one (aj [ca3,cb3] ao rfl (hA3.cells 0 _ rfl rfl)),_,rfl,hX,?_⟩;dsimp only;exact qi3
set_option maxRecDepth 10000 in
theorem vS (w:World) (x:Value) (nx:Nat) (zx:Nat→Int) (btx:Nat) (hx:bO w x nx zx btx):Calls Tryz.prog 63 #[x] w (ci w fun v w'=>v= .int .i64 (da iI zx nx)):=by
 have hLIM:br=562949953421312:=rfl;have hlimx:=hx.lim;refine ak (N:=17) (rs:= #[.tmp 2]) Tryz.func63 rfl rfl rfl (Nat.le_of_ble_eq_true rfl) ?_;have hX:aF w w:=aF.refl w;refine ab ?_;refine RL.p rfl rfl (cI.assign rfl) ?_;refine RL.nil ?_;refine WP.seq ?_;refine ab ?_;refine RL.p rfl rfl (cI.assign rfl) ?_;refine RL.nil ?_;refine WP.block ?_;refine WP.loop (fun mz ez uz=>∃i:Nat,(mz=nx - i)∧(ez 0=x)∧(ez 3= .int .i64 ((i:Nat)))∧(i≤nx)∧(da iI zx i= -1)∧(aF w uz)) (nx - 0) ?_ ?_
 · exact ⟨0,rfl,rfl,rfl,(by omega),rfl,hX⟩
 rintro m1 e1 w1 ⟨i,hm1,s0_e1,s3_e1,hi,hnone,hX1⟩;refine WP.seq ?_;refine ab ?_;refine RL.p rfl rfl (cI.move s3_e1) ?_;refine RL.p rfl rfl (cI.move s0_e1) ?_;refine RL.p rfl rfl (cl dk rfl (bO.ext hx hX1)) ?_;refine RL.p rfl rfl (cI.lss rfl rfl) ?_;refine RL.nil ?_;refine ag (((i:Nat):Int)<((nx:Nat):Int)) rfl (fun c7=> ?_) (fun c7=> ?_)
 ·
  refine WP.skip ?_;refine pR.norm ?_;refine WP.seq ?_;refine WP.block ?_;refine ab ?_;refine RL.p rfl rfl (cI.move s0_e1) ?_;refine RL.p rfl rfl (cI.move s3_e1) ?_;refine RL.x rfl rfl (bk (j:=i) dk rfl (bO.ext hx hX1) rfl (by omega) (by omega)) ?_;rintro v1 _ ⟨rfl,q1⟩;refine RL.x rfl rfl (bo ao rfl q1) ?_;rintro v2 _ ⟨rfl,q2⟩;refine RL.x rfl rfl (dj.call io (aI rfl) (fD _ _ _ _ q2)) ?_;rintro _ w2 ⟨hx1,rfl⟩;replace hX1:=aF.trans hX1 hx1;refine RL.p rfl rfl (cI.neq rfl rfl) ?_;refine RL.nil ?_;refine ag (((zx i:Int).sign:Int)≠(0:Int)) rfl (fun c15=> ?_) (fun c15=> ?_)
  ·
   refine ab ?_;refine RL.p rfl rfl (cI.move s3_e1) ?_;refine RL.p rfl rfl (cI.assign rfl) ?_;refine RL.nil ?_;refine WP.ret ?_;refine jm.ret ?_;refine pR.ret ?_;refine pR.ret ?_;refine jm.ret ?_;refine pR.ret ?_;refine ⟨.int .i64 ((i:Nat)),Bb.one (ge.tmp rfl),_,rfl,hX1,?_⟩;dsimp only;rw [ek hnone (Be.mp c15) (by omega)]
  ·
   refine WP.skip ?_;refine jm.norm ?_;refine pR.norm ?_;refine WP.region ?_;refine RL.p rfl rfl (cI.move s3_e1) ?_;refine RL.p rfl rfl (cI.add (c:=((i + 1:Nat):Int)) rfl rfl (bU (by omega))) ?_;refine RL.p rfl rfl (cI.assign rfl) ?_;refine RL.nil ?_;refine pR.norm ⟨_,(by omega),i + 1,rfl,s0_e1,rfl,(by omega),(gV hnone (fun h=>c15 (Be.mpr h))),hX1⟩
 ·
  refine WP.exit ?_;refine pR.exit ?_;refine pR.exit ?_;refine jm.same ?_;refine pR.norm ?_;refine ab ?_;refine RL.p rfl rfl (cI.assign rfl) ?_;refine RL.nil ?_;refine WP.ret ?_;refine ⟨.int .i64 (-1),Bb.one (ge.tmp rfl),_,rfl,hX1,?_⟩;dsimp only;rw [show nx=i by omega,hnone]
set_option maxRecDepth 10000 in
theorem qA (w:World) (B gw r c:Nat) (M U V:Nat→Nat→Int) (b:Nat) (i:Nat) (j:Nat) (k:Value) (zk:Int) (btk:Nat) (hW:bT 83 w B gw r c M U V b) (hi:i<r) (hj:j<r) (hk:al w k zk btk) (hij:i≠j) (hb:btk + b + 2≤br) (hfM:∀a,a<c→(M i a + zk*M j a).natAbs<2^b) (hfU:∀a,a<r→(U i a + zk*U j a).natAbs<2^b) (hfV:∀a,a<r→(V a j - zk*V a i).natAbs<2^b):Calls Tryz.prog 51 #[.pointer (some ⟨gw,0,none⟩),.int .i64 (i:Nat),.int .i64 (j:Nat),k] w (ma (dx B w) w fun v w'=>bT 83 w' B gw r c (cX M i j zk) (cX U i j zk) (dR V i j zk) b):=by
 have hLIM:br=562949953421312:=rfl;obtain ⟨hm,hu,hv,km,ku,kv,ρm,ρu,ρv,hBg,hG,hMm,hMu,hMv,nmu,nmv,nuv,dmu,dmv,duv⟩:=hW;have hdm:=cD.dlim hMm;have hcm:=cD.clim hMm;have hdu:=cD.dlim hMu;have hdv:=cD.dlim hMv;have h0m:=hMm;have h0u:=hMu;have h0v:=hMv;refine ak (N:=143) (rs:= #[]) Tryz.func51 rfl rfl rfl (Nat.le_of_ble_eq_true rfl) ?_;have hX:Keeps (dx B w) w w:=Keeps.refl _ w;refine ab ?_;obtain ⟨ca1,cb1,hq1,ho1,ho2⟩:=al.cells hk;have qi1:al w (.agg #[ca1,cb1]) zk btk:=hq1▸hk;refine RL.x rfl rfl (dj.box [ca1,cb1] hq1 rfl) ?_;rintro _ w1 ⟨g1,rfl,hge1,hx1,hA1⟩;have ne2:∀ii,ii<r→ρm ii≠g1:=fun ii hi=>Nat.ne_of_lt (Nat.lt_of_lt_of_le (cD.rowlt hMm hi) hge1)
 have ne4:∀ii,ii<r→ρu ii≠g1:=fun ii hi=>Nat.ne_of_lt (Nat.lt_of_lt_of_le (cD.rowlt hMu hi) hge1)
 have ne6:∀ii,ii<r→ρv ii≠g1:=fun ii hi=>Nat.ne_of_lt (Nat.lt_of_lt_of_le (cD.rowlt hMv hi) hge1)
 replace hG:=be.ext hG hx1;replace hMm:=cD.ext hMm hx1;replace hMu:=cD.ext hMu hx1;replace hMv:=cD.ext hMv hx1;replace hk:=al.ext hk hx1;replace qi1:=al.ext qi1 hx1;replace hX:=aS hX hx1;refine RL.nil ?_;refine WP.seq ?_;refine ab ?_;refine RL.p rfl rfl (cI.assign rfl) ?_;refine RL.nil ?_;refine WP.block ?_;refine WP.loop (fun mz ez uz=>∃ja:Nat,(mz=c - ja)∧(ez 0= .pointer (some ⟨gw,0,none⟩))∧(ez 1= .int .i64 ((i:Nat)))∧(ez 2= .int .i64 ((j:Nat)))∧(ez 7= .pointer (some ⟨g1,0,none⟩))∧(ez 8= .int .i64 ((ja:Nat)))∧(ja≤c)∧(Keeps (dx B w) w uz)∧(be uz gw 83 9 (bS [.int .i64 ((r:Nat)),.int .i64 ((c:Nat)),.slice (some ⟨hm,0,none⟩) (r) (km),.int .i64 ((r:Nat)),.int .i64 ((r:Nat)),.slice (some ⟨hu,0,none⟩) (r) (ku),.int .i64 ((r:Nat)),.int .i64 ((r:Nat)),.slice (some ⟨hv,0,none⟩) (r) (kv)]))∧(cD uz B hm km r c ρm (rowP M (cX M i j zk) i ja) b)∧(cD uz B hu ku r r ρu U b)∧(cD uz B hv kv r r ρv V b)∧(al uz k zk btk)∧(al uz (.agg #[ca1,cb1]:Value) zk btk)∧(be uz g1 49 2 (bS [ca1,cb1]))) (c - 0) ?_ ?_
 · exact ⟨0,rfl,rfl,rfl,rfl,rfl,rfl,(by omega),hX,hG,bA hMm (gP M (cX M i j zk) i),hMu,hMv,hk,qi1,hA1⟩
 rintro m1 e1 w2 ⟨ja,hm1,s0_e1,s1_e1,s2_e1,s7_e1,s8_e1,hja,hX1,hG,hMm,hMu,hMv,hk,qi1,hA1⟩;refine WP.seq ?_;refine ab ?_;refine RL.p rfl rfl (cI.move s8_e1) ?_;refine RL.p rfl rfl (cI.move s0_e1) ?_;refine RL.p rfl rfl (cI.nilCheck rfl) ?_;refine RL.p rfl rfl (cI.fieldAddr cP rfl) ?_;refine RL.p rfl rfl (cI.fieldAddr bE rfl) ?_;refine RL.p rfl rfl (cI.load bG rfl (hG.at_ (i:=1) rfl rfl)) ?_;refine RL.p rfl rfl (cI.lss rfl rfl) ?_;refine RL.nil ?_;refine ag (((ja:Nat):Int)<((c:Nat):Int)) rfl (fun c17=> ?_) (fun c17=> ?_)
 ·
  refine WP.skip ?_;refine pR.norm ?_;refine WP.seq ?_;refine WP.block ?_;refine WP.ds (hmono:=⟨⟨ac _,ac _,ac _,ac _,ac _,ac _,ac _,cm _ _,ac _,ac _,ac _,ac _,ac _,ac _,ac _,ac _,cm _ _,ac _,ac _,bD _ _,ac _,ac _,ac _,ac _,ac _,ac _,ac _,ac _,cm _ _,ac _,ac _,bD _ _,bD _ _,bD _ _,ac _,trivial⟩⟩) am 35 (_::_::_::_::_:: [_,_,_,_,_,_,_,_,_,_,_,_,_,_,_,_,_,_,_,_,_,_,_,_,_,_,_,_,_,_]) rfl rfl (fun e_ w_ BH BG=>⟨fun _=>aa (cI.move ((BG 0 rfl s0_e1))),fun BF=>aa (cI.nilCheck ((BF 0 rfl))),fun BF=>aa (cI.fieldAddr cP ((BF 1 rfl))),fun BF=>aa (cI.fieldAddr aq ((BF 2 rfl))),fun BF=>aa (cI.load aH ((BF 3 rfl)) ((be.ext hG BH).at_ (i:=2) rfl rfl)),fun _=>aa (cI.move ((BG 1 rfl s1_e1))),fun BF=>aa (cI.index (j:=i) aB ((BF 4 rfl)) ((BF 5 rfl)) rfl (by omega) (by omega)),fun BF=>ah (an (i:=i) aU (BF 6 rfl) (cD.ext hMm BH) (by omega)),fun _=>aa (cI.move ((BG 8 rfl s8_e1))),fun _=>aa (cI.move ((BG 0 rfl s0_e1))),fun BF=>aa (cI.nilCheck ((BF 9 rfl))),fun BF=>aa (cI.fieldAddr cP ((BF 10 rfl))),fun BF=>aa (cI.fieldAddr aq ((BF 11 rfl))),fun BF=>aa (cI.load aH ((BF 12 rfl)) ((be.ext hG BH).at_ (i:=2) rfl rfl)),fun _=>aa (cI.move ((BG 1 rfl s1_e1))),fun BF=>aa (cI.index (j:=i) aB ((BF 13 rfl)) ((BF 14 rfl)) rfl (by omega) (by omega)),fun BF=>ah (an (i:=i) aU (BF 15 rfl) (cD.ext hMm BH) (by omega)),fun _=>aa (cI.move ((BG 8 rfl s8_e1))),fun BF=>aa (av (j:=ja) bi (BF 16 rfl) rfl (BF 17 rfl) (by omega) (by omega)),fun BF=>ah (aP (j:=ja) ao (BF 18 rfl) (cD.row (cD.ext hMm BH) (by omega)) (by omega)),fun _=>aa (af [ca1,cb1] ao ((BG 7 rfl s7_e1)) ((be.ext hA1 BH).cells 0 _ rfl rfl)),fun _=>aa (cI.move ((BG 0 rfl s0_e1))),fun BF=>aa (cI.nilCheck ((BF 21 rfl))),fun BF=>aa (cI.fieldAddr cP ((BF 22 rfl))),fun BF=>aa (cI.fieldAddr aq ((BF 23 rfl))),fun BF=>aa (cI.load aH ((BF 24 rfl)) ((be.ext hG BH).at_ (i:=2) rfl rfl)),fun _=>aa (cI.move ((BG 2 rfl s2_e1))),fun BF=>aa (cI.index (j:=j) aB ((BF 25 rfl)) ((BF 26 rfl)) rfl (by omega) (by omega)),fun BF=>ah (an (i:=j) aU (BF 27 rfl) (cD.ext hMm BH) (by omega)),fun _=>aa (cI.move ((BG 8 rfl s8_e1))),fun BF=>aa (av (j:=ja) bi (BF 28 rfl) rfl (BF 29 rfl) (by omega) (by omega)),fun BF=>ah (aP (j:=ja) ao (BF 30 rfl) (cD.row (cD.ext hMm BH) (by omega)) (by omega)),fun BF=>dj.call jT (ax ((BF 20 rfl)) rfl) (jV _ _ _ _ _ _ _ ((btk) + (b)) ((al.ext qi1 BH)) ((BF 31 rfl)) (by omega) (by omega)),fun BF=>dj.call kU (ax rfl rfl) (lo _ _ _ _ _ _ _ (max (b) ((btk) + (b)) + 1) ((BF 19 rfl)) ((BF 32 rfl)) (by omega) (by omega) (by omega)),fun BF=>aa (av (j:=ja) bi (BF 7 rfl) rfl (BF 8 rfl) (by omega) (by omega)),trivial⟩) ?_;intro e2 w3 hx2 ho3 hf1;replace hG:=be.ext hG hx2;replace hMm:=cD.ext hMm hx2;replace hMu:=cD.ext hMu hx2;replace hMv:=cD.ext hMv hx2;replace hk:=al.ext hk hx2;replace qi1:=al.ext qi1 hx2;replace hA1:=be.ext hA1 hx2;replace hX1:=aS hX1 hx2;have s0_e2:=ho3 0 rfl s0_e1;have s1_e2:=ho3 1 rfl s1_e1;have s2_e2:=ho3 2 rfl s2_e1;have s7_e2:=ho3 7 rfl s7_e1;have s8_e2:=ho3 8 rfl s8_e1;have s53_e2:al w3 (e2 53) (((rowP M (cX M i j zk) i ja) i ja:Int) + ((zk:Int)*((rowP M (cX M i j zk) i ja) j ja:Int):Int)) (max (b) ((btk) + (b)) + 1):=hf1 33 rfl;have s54_e2:e2 54=_:=hf1 34 rfl;refine RL.x rfl rfl (bM (i:=i) (j:=ja) aN s54_e2 rfl (al.eq s53_e2 (by rw [gQ,lj _ _ _ _ hij]) (hfM ja (by omega)) (by omega)) hMm (by omega) (by omega)) ?_;rintro _ w4 ⟨hk1,hN1⟩;have hR1:=cD.row (i:=i) hMm (by omega);replace hG:=aT hG hk1 hR1 (by decide);replace hMu:=aX hMu hk1 hR1 (fun ii hii=>Ne.symm (dmu i ii (by omega) hii));replace hMv:=aX hMv hk1 hR1 (fun ii hii=>Ne.symm (dmv i ii (by omega) hii));replace hk:=bZ hk hk1 hR1;replace qi1:=bZ qi1 hk1 hR1;replace hA1:=hA1.keep hk1 (Ne.symm (ne2 i (by omega)));replace hX1:=hX1.step hk1 (fun b e=>by subst e;exact (.inl (dh (i:=i) h0m (by omega))));replace hMm:=hN1;clear hR1;refine RL.nil ?_;refine jm.norm ?_;refine pR.norm ?_;refine WP.region ?_;refine RL.p rfl rfl (cI.move s8_e2) ?_;refine RL.p rfl rfl (cI.add (c:=((ja + 1:Nat):Int)) rfl rfl (bU (by omega))) ?_;refine RL.p rfl rfl (cI.assign rfl) ?_;refine RL.nil ?_;refine pR.norm ⟨_,(by omega),ja + 1,rfl,s0_e2,s1_e2,s2_e2,s7_e2,rfl,(by omega),hX1,hG,bA hMm (gS (qC _)),hMu,hMv,hk,qi1,hA1⟩
 ·
  refine WP.exit ?_;refine pR.exit ?_;refine pR.exit ?_;refine jm.same ?_;refine pR.norm ?_;refine WP.seq ?_;refine ab ?_;refine RL.p rfl rfl (cI.assign rfl) ?_;refine RL.nil ?_;refine WP.block ?_;refine WP.loop (fun mz ez uz=>∃jb:Nat,(mz=r - jb)∧(ez 0= .pointer (some ⟨gw,0,none⟩))∧(ez 1= .int .i64 ((i:Nat)))∧(ez 2= .int .i64 ((j:Nat)))∧(ez 7= .pointer (some ⟨g1,0,none⟩))∧(ez 9= .int .i64 ((jb:Nat)))∧(jb≤r)∧(Keeps (dx B w) w uz)∧(be uz gw 83 9 (bS [.int .i64 ((r:Nat)),.int .i64 ((c:Nat)),.slice (some ⟨hm,0,none⟩) (r) (km),.int .i64 ((r:Nat)),.int .i64 ((r:Nat)),.slice (some ⟨hu,0,none⟩) (r) (ku),.int .i64 ((r:Nat)),.int .i64 ((r:Nat)),.slice (some ⟨hv,0,none⟩) (r) (kv)]))∧(cD uz B hm km r c ρm (rowP M (cX M i j zk) i ja) b)∧(cD uz B hu ku r r ρu (rowP U (cX U i j zk) i jb) b)∧(cD uz B hv kv r r ρv V b)∧(al uz k zk btk)∧(al uz (.agg #[ca1,cb1]:Value) zk btk)∧(be uz g1 49 2 (bS [ca1,cb1]))) (r - 0) ?_ ?_
  · exact ⟨0,rfl,s0_e1,s1_e1,s2_e1,s7_e1,rfl,(by omega),hX1,hG,hMm,bA hMu (gP U (cX U i j zk) i),hMv,hk,qi1,hA1⟩
  rintro m2 e3 w5 ⟨jb,hm2,s0_e3,s1_e3,s2_e3,s7_e3,s9_e3,hjb,hX2,hG,hMm,hMu,hMv,hk,qi1,hA1⟩;refine WP.seq ?_;refine ab ?_;refine RL.p rfl rfl (cI.move s9_e3) ?_;refine RL.p rfl rfl (cI.move s0_e3) ?_;refine RL.p rfl rfl (cI.nilCheck rfl) ?_;refine RL.p rfl rfl (cI.fieldAddr dU rfl) ?_;refine RL.p rfl rfl (cI.fieldAddr bE rfl) ?_;refine RL.p rfl rfl (cI.load bG rfl (hG.at_ (i:=4) rfl rfl)) ?_;refine RL.p rfl rfl (cI.lss rfl rfl) ?_;refine RL.nil ?_;refine ag (((jb:Nat):Int)<((r:Nat):Int)) rfl (fun c61=> ?_) (fun c61=> ?_)
  ·
   refine WP.skip ?_;refine pR.norm ?_;refine WP.seq ?_;refine WP.block ?_;refine WP.ds (hmono:=⟨⟨ac _,ac _,ac _,ac _,ac _,ac _,ac _,cm _ _,ac _,ac _,ac _,ac _,ac _,ac _,ac _,ac _,cm _ _,ac _,ac _,bD _ _,ac _,ac _,ac _,ac _,ac _,ac _,ac _,ac _,cm _ _,ac _,ac _,bD _ _,bD _ _,bD _ _,ac _,trivial⟩⟩) am 35 (_::_::_::_::_:: [_,_,_,_,_,_,_,_,_,_,_,_,_,_,_,_,_,_,_,_,_,_,_,_,_,_,_,_,_,_]) rfl rfl (fun e_ w_ BH BG=>⟨fun _=>aa (cI.move ((BG 0 rfl s0_e3))),fun BF=>aa (cI.nilCheck ((BF 0 rfl))),fun BF=>aa (cI.fieldAddr dU ((BF 1 rfl))),fun BF=>aa (cI.fieldAddr aq ((BF 2 rfl))),fun BF=>aa (cI.load aH ((BF 3 rfl)) ((be.ext hG BH).at_ (i:=5) rfl rfl)),fun _=>aa (cI.move ((BG 1 rfl s1_e3))),fun BF=>aa (cI.index (j:=i) aB ((BF 4 rfl)) ((BF 5 rfl)) rfl (by omega) (by omega)),fun BF=>ah (an (i:=i) aU (BF 6 rfl) (cD.ext hMu BH) (by omega)),fun _=>aa (cI.move ((BG 9 rfl s9_e3))),fun _=>aa (cI.move ((BG 0 rfl s0_e3))),fun BF=>aa (cI.nilCheck ((BF 9 rfl))),fun BF=>aa (cI.fieldAddr dU ((BF 10 rfl))),fun BF=>aa (cI.fieldAddr aq ((BF 11 rfl))),fun BF=>aa (cI.load aH ((BF 12 rfl)) ((be.ext hG BH).at_ (i:=5) rfl rfl)),fun _=>aa (cI.move ((BG 1 rfl s1_e3))),fun BF=>aa (cI.index (j:=i) aB ((BF 13 rfl)) ((BF 14 rfl)) rfl (by omega) (by omega)),fun BF=>ah (an (i:=i) aU (BF 15 rfl) (cD.ext hMu BH) (by omega)),fun _=>aa (cI.move ((BG 9 rfl s9_e3))),fun BF=>aa (av (j:=jb) bi (BF 16 rfl) rfl (BF 17 rfl) (by omega) (by omega)),fun BF=>ah (aP (j:=jb) ao (BF 18 rfl) (cD.row (cD.ext hMu BH) (by omega)) (by omega)),fun _=>aa (af [ca1,cb1] ao ((BG 7 rfl s7_e3)) ((be.ext hA1 BH).cells 0 _ rfl rfl)),fun _=>aa (cI.move ((BG 0 rfl s0_e3))),fun BF=>aa (cI.nilCheck ((BF 21 rfl))),fun BF=>aa (cI.fieldAddr dU ((BF 22 rfl))),fun BF=>aa (cI.fieldAddr aq ((BF 23 rfl))),fun BF=>aa (cI.load aH ((BF 24 rfl)) ((be.ext hG BH).at_ (i:=5) rfl rfl)),fun _=>aa (cI.move ((BG 2 rfl s2_e3))),fun BF=>aa (cI.index (j:=j) aB ((BF 25 rfl)) ((BF 26 rfl)) rfl (by omega) (by omega)),fun BF=>ah (an (i:=j) aU (BF 27 rfl) (cD.ext hMu BH) (by omega)),fun _=>aa (cI.move ((BG 9 rfl s9_e3))),fun BF=>aa (av (j:=jb) bi (BF 28 rfl) rfl (BF 29 rfl) (by omega) (by omega)),fun BF=>ah (aP (j:=jb) ao (BF 30 rfl) (cD.row (cD.ext hMu BH) (by omega)) (by omega)),fun BF=>dj.call jT (ax ((BF 20 rfl)) rfl) (jV _ _ _ _ _ _ _ ((btk) + (b)) ((al.ext qi1 BH)) ((BF 31 rfl)) (by omega) (by omega)),fun BF=>dj.call kU (ax rfl rfl) (lo _ _ _ _ _ _ _ (max (b) ((btk) + (b)) + 1) ((BF 19 rfl)) ((BF 32 rfl)) (by omega) (by omega) (by omega)),fun BF=>aa (av (j:=jb) bi (BF 7 rfl) rfl (BF 8 rfl) (by omega) (by omega)),trivial⟩) ?_;intro e4 w6 hx3 ho4 hf2;replace hG:=be.ext hG hx3;replace hMm:=cD.ext hMm hx3;replace hMu:=cD.ext hMu hx3;replace hMv:=cD.ext hMv hx3;replace hk:=al.ext hk hx3;replace qi1:=al.ext qi1 hx3;replace hA1:=be.ext hA1 hx3;replace hX2:=aS hX2 hx3;have s0_e4:=ho4 0 rfl s0_e3;have s1_e4:=ho4 1 rfl s1_e3;have s2_e4:=ho4 2 rfl s2_e3;have s7_e4:=ho4 7 rfl s7_e3;have s9_e4:=ho4 9 rfl s9_e3;have s97_e4:al w6 (e4 97) (((rowP U (cX U i j zk) i jb) i jb:Int) + ((zk:Int)*((rowP U (cX U i j zk) i jb) j jb:Int):Int)) (max (b) ((btk) + (b)) + 1):=hf2 33 rfl;have s98_e4:e4 98=_:=hf2 34 rfl;refine RL.x rfl rfl (bM (i:=i) (j:=jb) aN s98_e4 rfl (al.eq s97_e4 (by rw [gQ,lj _ _ _ _ hij]) (hfU jb (by omega)) (by omega)) hMu (by omega) (by omega)) ?_;rintro _ w7 ⟨hk2,hN2⟩;have hR2:=cD.row (i:=i) hMu (by omega);replace hG:=aT hG hk2 hR2 (by decide);replace hMm:=aX hMm hk2 hR2 (fun ii hii=>dmu ii i hii (by omega));replace hMv:=aX hMv hk2 hR2 (fun ii hii=>Ne.symm (duv i ii (by omega) hii));replace hk:=bZ hk hk2 hR2;replace qi1:=bZ qi1 hk2 hR2;replace hA1:=hA1.keep hk2 (Ne.symm (ne4 i (by omega)));replace hX2:=hX2.step hk2 (fun b e=>by subst e;exact (.inl (dh (i:=i) h0u (by omega))));replace hMu:=hN2;clear hR2;refine RL.nil ?_;refine jm.norm ?_;refine pR.norm ?_;refine WP.region ?_;refine RL.p rfl rfl (cI.move s9_e4) ?_;refine RL.p rfl rfl (cI.add (c:=((jb + 1:Nat):Int)) rfl rfl (bU (by omega))) ?_;refine RL.p rfl rfl (cI.assign rfl) ?_;refine RL.nil ?_;refine pR.norm ⟨_,(by omega),jb + 1,rfl,s0_e4,s1_e4,s2_e4,s7_e4,rfl,(by omega),hX2,hG,hMm,bA hMu (gS (qC _)),hMv,hk,qi1,hA1⟩
  ·
   refine WP.exit ?_;refine pR.exit ?_;refine pR.exit ?_;refine jm.same ?_;refine pR.norm ?_;refine ab ?_;refine RL.p rfl rfl (cI.assign rfl) ?_;refine RL.nil ?_;refine WP.block ?_;refine WP.loop (fun mz ez uz=>∃a:Nat,(mz=r - a)∧(ez 0= .pointer (some ⟨gw,0,none⟩))∧(ez 1= .int .i64 ((i:Nat)))∧(ez 2= .int .i64 ((j:Nat)))∧(ez 7= .pointer (some ⟨g1,0,none⟩))∧(ez 10= .int .i64 ((a:Nat)))∧(a≤r)∧(Keeps (dx B w) w uz)∧(be uz gw 83 9 (bS [.int .i64 ((r:Nat)),.int .i64 ((c:Nat)),.slice (some ⟨hm,0,none⟩) (r) (km),.int .i64 ((r:Nat)),.int .i64 ((r:Nat)),.slice (some ⟨hu,0,none⟩) (r) (ku),.int .i64 ((r:Nat)),.int .i64 ((r:Nat)),.slice (some ⟨hv,0,none⟩) (r) (kv)]))∧(cD uz B hm km r c ρm (rowP M (cX M i j zk) i ja) b)∧(cD uz B hu ku r r ρu (rowP U (cX U i j zk) i jb) b)∧(cD uz B hv kv r r ρv (en V (dR V i j zk) a) b)∧(al uz k zk btk)∧(al uz (.agg #[ca1,cb1]:Value) zk btk)∧(be uz g1 49 2 (bS [ca1,cb1]))) (r - 0) ?_ ?_
   · exact ⟨0,rfl,s0_e3,s1_e3,s2_e3,s7_e3,rfl,(by omega),hX2,hG,hMm,hMu,bA hMv (eT V (dR V i j zk)).symm,hk,qi1,hA1⟩
   rintro m3 e5 w8 ⟨a,hm3,s0_e5,s1_e5,s2_e5,s7_e5,s10_e5,ha,hX3,hG,hMm,hMu,hMv,hk,qi1,hA1⟩;refine WP.seq ?_;refine ab ?_;refine RL.p rfl rfl (cI.move s10_e5) ?_;refine RL.p rfl rfl (cI.move s0_e5) ?_;refine RL.p rfl rfl (cI.nilCheck rfl) ?_;refine RL.p rfl rfl (cI.fieldAddr dI rfl) ?_;refine RL.p rfl rfl (cI.fieldAddr bg rfl) ?_;refine RL.p rfl rfl (cI.load bG rfl (hG.at_ (i:=6) rfl rfl)) ?_;refine RL.p rfl rfl (cI.lss rfl rfl) ?_;refine RL.nil ?_;refine ag (((a:Nat):Int)<((r:Nat):Int)) rfl (fun c105=> ?_) (fun c105=> ?_)
   ·
    refine WP.skip ?_;refine pR.norm ?_;refine WP.seq ?_;refine WP.block ?_;refine WP.ds (hmono:=⟨⟨ac _,ac _,ac _,ac _,ac _,ac _,ac _,cm _ _,ac _,ac _,ac _,ac _,ac _,ac _,ac _,ac _,cm _ _,ac _,ac _,bD _ _,ac _,ac _,ac _,ac _,ac _,ac _,ac _,ac _,cm _ _,ac _,ac _,bD _ _,bD _ _,bD _ _,ac _,trivial⟩⟩) am 35 (_::_::_::_::_:: [_,_,_,_,_,_,_,_,_,_,_,_,_,_,_,_,_,_,_,_,_,_,_,_,_,_,_,_,_,_]) rfl rfl (fun e_ w_ BH BG=>⟨fun _=>aa (cI.move ((BG 0 rfl s0_e5))),fun BF=>aa (cI.nilCheck ((BF 0 rfl))),fun BF=>aa (cI.fieldAddr dI ((BF 1 rfl))),fun BF=>aa (cI.fieldAddr aq ((BF 2 rfl))),fun BF=>aa (cI.load aH ((BF 3 rfl)) ((be.ext hG BH).at_ (i:=8) rfl rfl)),fun _=>aa (cI.move ((BG 10 rfl s10_e5))),fun BF=>aa (cI.index (j:=a) aB ((BF 4 rfl)) ((BF 5 rfl)) rfl (by omega) (by omega)),fun BF=>ah (an (i:=a) aU (BF 6 rfl) (cD.ext hMv BH) (by omega)),fun _=>aa (cI.move ((BG 2 rfl s2_e5))),fun _=>aa (cI.move ((BG 0 rfl s0_e5))),fun BF=>aa (cI.nilCheck ((BF 9 rfl))),fun BF=>aa (cI.fieldAddr dI ((BF 10 rfl))),fun BF=>aa (cI.fieldAddr aq ((BF 11 rfl))),fun BF=>aa (cI.load aH ((BF 12 rfl)) ((be.ext hG BH).at_ (i:=8) rfl rfl)),fun _=>aa (cI.move ((BG 10 rfl s10_e5))),fun BF=>aa (cI.index (j:=a) aB ((BF 13 rfl)) ((BF 14 rfl)) rfl (by omega) (by omega)),fun BF=>ah (an (i:=a) aU (BF 15 rfl) (cD.ext hMv BH) (by omega)),fun _=>aa (cI.move ((BG 2 rfl s2_e5))),fun BF=>aa (av (j:=j) bi (BF 16 rfl) rfl (BF 17 rfl) (by omega) (by omega)),fun BF=>ah (aP (j:=j) ao (BF 18 rfl) (cD.row (cD.ext hMv BH) (by omega)) (by omega)),fun _=>aa (af [ca1,cb1] ao ((BG 7 rfl s7_e5)) ((be.ext hA1 BH).cells 0 _ rfl rfl)),fun _=>aa (cI.move ((BG 0 rfl s0_e5))),fun BF=>aa (cI.nilCheck ((BF 21 rfl))),fun BF=>aa (cI.fieldAddr dI ((BF 22 rfl))),fun BF=>aa (cI.fieldAddr aq ((BF 23 rfl))),fun BF=>aa (cI.load aH ((BF 24 rfl)) ((be.ext hG BH).at_ (i:=8) rfl rfl)),fun _=>aa (cI.move ((BG 10 rfl s10_e5))),fun BF=>aa (cI.index (j:=a) aB ((BF 25 rfl)) ((BF 26 rfl)) rfl (by omega) (by omega)),fun BF=>ah (an (i:=a) aU (BF 27 rfl) (cD.ext hMv BH) (by omega)),fun _=>aa (cI.move ((BG 1 rfl s1_e5))),fun BF=>aa (av (j:=i) bi (BF 28 rfl) rfl (BF 29 rfl) (by omega) (by omega)),fun BF=>ah (aP (j:=i) ao (BF 30 rfl) (cD.row (cD.ext hMv BH) (by omega)) (by omega)),fun BF=>dj.call jT (ax ((BF 20 rfl)) rfl) (jV _ _ _ _ _ _ _ ((btk) + (b)) ((al.ext qi1 BH)) ((BF 31 rfl)) (by omega) (by omega)),fun BF=>dj.call ql (ax rfl rfl) (qx _ _ _ _ _ _ _ (max (b) ((btk) + (b)) + 1) ((BF 19 rfl)) ((BF 32 rfl)) (by omega) (by omega) (by omega)),fun BF=>aa (av (j:=j) bi (BF 7 rfl) rfl (BF 8 rfl) (by omega) (by omega)),trivial⟩) ?_;intro e6 w9 hx4 ho5 hf3;replace hG:=be.ext hG hx4;replace hMm:=cD.ext hMm hx4;replace hMu:=cD.ext hMu hx4;replace hMv:=cD.ext hMv hx4;replace hk:=al.ext hk hx4;replace qi1:=al.ext qi1 hx4;replace hA1:=be.ext hA1 hx4;replace hX3:=aS hX3 hx4;have s0_e6:=ho5 0 rfl s0_e5;have s1_e6:=ho5 1 rfl s1_e5;have s2_e6:=ho5 2 rfl s2_e5;have s7_e6:=ho5 7 rfl s7_e5;have s10_e6:=ho5 10 rfl s10_e5;have s141_e6:al w9 (e6 141) (((en V (dR V i j zk) a) a j:Int) - ((zk:Int)*((en V (dR V i j zk) a) a i:Int):Int)) (max (b) ((btk) + (b)) + 1):=hf3 33 rfl;have s142_e6:e6 142=_:=hf3 34 rfl;refine RL.x rfl rfl (bM (i:=a) (j:=j) aN s142_e6 rfl (al.eq s141_e6 (by rw [dt,dt]) (hfV a (by omega)) (by omega)) hMv (by omega) (by omega)) ?_;rintro _ w10 ⟨hk3,hN3⟩;have hR3:=cD.row (i:=a) hMv (by omega);replace hG:=aT hG hk3 hR3 (by decide);replace hMm:=aX hMm hk3 hR3 (fun ii hii=>dmv ii a hii (by omega));replace hMu:=aX hMu hk3 hR3 (fun ii hii=>duv ii a hii (by omega));replace hk:=bZ hk hk3 hR3;replace qi1:=bZ qi1 hk3 hR3;replace hA1:=hA1.keep hk3 (Ne.symm (ne6 a (by omega)));replace hX3:=hX3.step hk3 (fun b e=>by subst e;exact (.inl (dh (i:=a) h0v (by omega))));replace hMv:=hN3;clear hR3;refine RL.nil ?_;refine jm.norm ?_;refine pR.norm ?_;refine WP.region ?_;refine RL.p rfl rfl (cI.move s10_e6) ?_;refine RL.p rfl rfl (cI.add (c:=((a + 1:Nat):Int)) rfl rfl (bU (by omega))) ?_;refine RL.p rfl rfl (cI.assign rfl) ?_;refine RL.nil ?_;refine pR.norm ⟨_,(by omega),a + 1,rfl,s0_e6,s1_e6,s2_e6,s7_e6,rfl,(by omega),hX3,hG,hMm,hMu,bA hMv (gZ (by simp [dR]) (fun c hc=>by simp [dR,hc])),hk,qi1,hA1⟩
   ·
    refine WP.exit ?_;refine pR.exit ?_;refine pR.exit ?_;refine jm.same ?_;refine ⟨.tuple #[],Bb.zero,_,rfl,hX3,?_⟩;dsimp only;exact ⟨hm,hu,hv,km,ku,kv,_,_,_,hBg,hG,(cD.congr hMm (fun a2 c2 _ hc=>iS ou (by omega))),(cD.congr hMu (fun a2 c2 _ hc=>iS ou (by omega))),(cD.congr hMv (fun a c ha hc=>fM V _ c (by omega))),nmu,nmv,nuv,dmu,dmv,duv⟩
set_option maxRecDepth 10000 in
theorem tN (w:World) (B gw r c:Nat) (M U V:Nat→Nat→Int) (b:Nat) (i:Nat) (hW:bT 83 w B gw r c M U V b) (hi:i<r):Calls Tryz.prog 54 #[.pointer (some ⟨gw,0,none⟩),.int .i64 (i:Nat)] w (ma (dx B w) w fun v w'=>bT 83 w' B gw r c (dq M i) (dq U i) (eJ V i) b):=by
 have hLIM:br=562949953421312:=rfl;obtain ⟨hm,hu,hv,km,ku,kv,ρm,ρu,ρv,hBg,hG,hMm,hMu,hMv,nmu,nmv,nuv,dmu,dmv,duv⟩:=hW;have hdm:=cD.dlim hMm;have hcm:=cD.clim hMm;have hdu:=cD.dlim hMu;have hdv:=cD.dlim hMv;have h0m:=hMm;have h0u:=hMu;have h0v:=hMv;have hbM:=fun a (ha:a<c)=>cD.bd hMm hi ha
 have hbU:=fun a (ha:a<r)=>cD.bd hMu hi ha
 have hbV:=fun a (ha:a<r)=>cD.bd hMv ha hi
 refine ak (N:=100) (rs:= #[]) Tryz.func54 rfl rfl rfl (Nat.le_of_ble_eq_true rfl) ?_;have hX:Keeps (dx B w) w w:=Keeps.refl _ w;refine WP.seq ?_;refine ab ?_;refine RL.p rfl rfl (cI.assign rfl) ?_;refine RL.nil ?_;refine WP.block ?_;refine WP.loop (fun mz ez uz=>∃ja:Nat,(mz=c - ja)∧(ez 0= .pointer (some ⟨gw,0,none⟩))∧(ez 1= .int .i64 ((i:Nat)))∧(ez 4= .int .i64 ((ja:Nat)))∧(ja≤c)∧(Keeps (dx B w) w uz)∧(be uz gw 83 9 (bS [.int .i64 ((r:Nat)),.int .i64 ((c:Nat)),.slice (some ⟨hm,0,none⟩) (r) (km),.int .i64 ((r:Nat)),.int .i64 ((r:Nat)),.slice (some ⟨hu,0,none⟩) (r) (ku),.int .i64 ((r:Nat)),.int .i64 ((r:Nat)),.slice (some ⟨hv,0,none⟩) (r) (kv)]))∧(cD uz B hm km r c ρm (rowP M (dq M i) i ja) b)∧(cD uz B hu ku r r ρu U b)∧(cD uz B hv kv r r ρv V b)) (c - 0) ?_ ?_
 · exact ⟨0,rfl,rfl,rfl,rfl,(by omega),hX,hG,bA hMm (gP M (dq M i) i),hMu,hMv⟩
 rintro m1 e1 w1 ⟨ja,hm1,s0_e1,s1_e1,s4_e1,hja,hX1,hG,hMm,hMu,hMv⟩;refine WP.seq ?_;refine ab ?_;refine RL.p rfl rfl (cI.move s4_e1) ?_;refine RL.p rfl rfl (cI.move s0_e1) ?_;refine RL.p rfl rfl (cI.nilCheck rfl) ?_;refine RL.p rfl rfl (cI.fieldAddr cP rfl) ?_;refine RL.p rfl rfl (cI.fieldAddr bE rfl) ?_;refine RL.p rfl rfl (cI.load bG rfl (hG.at_ (i:=1) rfl rfl)) ?_;refine RL.p rfl rfl (cI.lss rfl rfl) ?_;refine RL.nil ?_;refine ag (((ja:Nat):Int)<((c:Nat):Int)) rfl (fun c13=> ?_) (fun c13=> ?_)
 ·
  refine WP.skip ?_;refine pR.norm ?_;refine WP.seq ?_;refine WP.block ?_;refine WP.ds am 22 [_,_,_,_,_,_,_,_,_,_,_,_,_,_,_,_,_,_,_,_,_,_] rfl rfl (fun e_ w_ BH BG=>⟨fun _=>aa (cI.move ((BG 0 rfl s0_e1))),fun BF=>aa (cI.nilCheck ((BF 0 rfl))),fun BF=>aa (cI.fieldAddr cP ((BF 1 rfl))),fun BF=>aa (cI.fieldAddr aq ((BF 2 rfl))),fun BF=>aa (cI.load aH ((BF 3 rfl)) ((be.ext hG BH).at_ (i:=2) rfl rfl)),fun _=>aa (cI.move ((BG 1 rfl s1_e1))),fun BF=>aa (cI.index (j:=i) aB ((BF 4 rfl)) ((BF 5 rfl)) rfl (by omega) (by omega)),fun BF=>ah (an (i:=i) aU (BF 6 rfl) (cD.ext hMm BH) (by omega)),fun _=>aa (cI.move ((BG 4 rfl s4_e1))),fun _=>aa (cI.move ((BG 0 rfl s0_e1))),fun BF=>aa (cI.nilCheck ((BF 9 rfl))),fun BF=>aa (cI.fieldAddr cP ((BF 10 rfl))),fun BF=>aa (cI.fieldAddr aq ((BF 11 rfl))),fun BF=>aa (cI.load aH ((BF 12 rfl)) ((be.ext hG BH).at_ (i:=2) rfl rfl)),fun _=>aa (cI.move ((BG 1 rfl s1_e1))),fun BF=>aa (cI.index (j:=i) aB ((BF 13 rfl)) ((BF 14 rfl)) rfl (by omega) (by omega)),fun BF=>ah (an (i:=i) aU (BF 15 rfl) (cD.ext hMm BH) (by omega)),fun _=>aa (cI.move ((BG 4 rfl s4_e1))),fun BF=>aa (av (j:=ja) bi (BF 16 rfl) rfl (BF 17 rfl) (by omega) (by omega)),fun BF=>ah (aP (j:=ja) ao (BF 18 rfl) (cD.row (cD.ext hMm BH) (by omega)) (by omega)),fun BF=>dj.call kT (aI rfl) (ll _ _ _ _ ((BF 19 rfl))),fun BF=>aa (av (j:=ja) bi (BF 7 rfl) rfl (BF 8 rfl) (by omega) (by omega)),trivial⟩) ?_;intro e2 w2 hx1 ho1 hf1;replace hG:=be.ext hG hx1;replace hMm:=cD.ext hMm hx1;replace hMu:=cD.ext hMu hx1;replace hMv:=cD.ext hMv hx1;replace hX1:=aS hX1 hx1;have s0_e2:=ho1 0 rfl s0_e1;have s1_e2:=ho1 1 rfl s1_e1;have s4_e2:=ho1 4 rfl s4_e1;have s36_e2:al w2 (e2 36) (-((rowP M (dq M i) i ja) i ja)) b:=hf1 20 rfl;have s37_e2:e2 37=_:=hf1 21 rfl;refine RL.x rfl rfl (bM (i:=i) (j:=ja) aN s37_e2 rfl (al.eq s36_e2 (by rw [gQ]) (pw (hbM ja (by omega))) (by omega)) hMm (by omega) (by omega)) ?_;rintro _ w3 ⟨hk1,hN1⟩;have hR1:=cD.row (i:=i) hMm (by omega);replace hG:=aT hG hk1 hR1 (by decide);replace hMu:=aX hMu hk1 hR1 (fun ii hii=>Ne.symm (dmu i ii (by omega) hii));replace hMv:=aX hMv hk1 hR1 (fun ii hii=>Ne.symm (dmv i ii (by omega) hii));replace hX1:=hX1.step hk1 (fun b e=>by subst e;exact (.inl (dh (i:=i) h0m (by omega))));replace hMm:=hN1;clear hR1;refine RL.nil ?_;refine jm.norm ?_;refine pR.norm ?_;refine WP.region ?_;refine RL.p rfl rfl (cI.move s4_e2) ?_;refine RL.p rfl rfl (cI.add (c:=((ja + 1:Nat):Int)) rfl rfl (bU (by omega))) ?_;refine RL.p rfl rfl (cI.assign rfl) ?_;refine RL.nil ?_;refine pR.norm ⟨_,(by omega),ja + 1,rfl,s0_e2,s1_e2,rfl,(by omega),hX1,hG,bA hMm (gS (qB _)),hMu,hMv⟩
 ·
  refine WP.exit ?_;refine pR.exit ?_;refine pR.exit ?_;refine jm.same ?_;refine pR.norm ?_;refine WP.seq ?_;refine ab ?_;refine RL.p rfl rfl (cI.assign rfl) ?_;refine RL.nil ?_;refine WP.block ?_;refine WP.loop (fun mz ez uz=>∃jb:Nat,(mz=r - jb)∧(ez 0= .pointer (some ⟨gw,0,none⟩))∧(ez 1= .int .i64 ((i:Nat)))∧(ez 5= .int .i64 ((jb:Nat)))∧(jb≤r)∧(Keeps (dx B w) w uz)∧(be uz gw 83 9 (bS [.int .i64 ((r:Nat)),.int .i64 ((c:Nat)),.slice (some ⟨hm,0,none⟩) (r) (km),.int .i64 ((r:Nat)),.int .i64 ((r:Nat)),.slice (some ⟨hu,0,none⟩) (r) (ku),.int .i64 ((r:Nat)),.int .i64 ((r:Nat)),.slice (some ⟨hv,0,none⟩) (r) (kv)]))∧(cD uz B hm km r c ρm (rowP M (dq M i) i ja) b)∧(cD uz B hu ku r r ρu (rowP U (dq U i) i jb) b)∧(cD uz B hv kv r r ρv V b)) (r - 0) ?_ ?_
  · exact ⟨0,rfl,s0_e1,s1_e1,rfl,(by omega),hX1,hG,hMm,bA hMu (gP U (dq U i) i),hMv⟩
  rintro m2 e3 w4 ⟨jb,hm2,s0_e3,s1_e3,s5_e3,hjb,hX2,hG,hMm,hMu,hMv⟩;refine WP.seq ?_;refine ab ?_;refine RL.p rfl rfl (cI.move s5_e3) ?_;refine RL.p rfl rfl (cI.move s0_e3) ?_;refine RL.p rfl rfl (cI.nilCheck rfl) ?_;refine RL.p rfl rfl (cI.fieldAddr dU rfl) ?_;refine RL.p rfl rfl (cI.fieldAddr bE rfl) ?_;refine RL.p rfl rfl (cI.load bG rfl (hG.at_ (i:=4) rfl rfl)) ?_;refine RL.p rfl rfl (cI.lss rfl rfl) ?_;refine RL.nil ?_;refine ag (((jb:Nat):Int)<((r:Nat):Int)) rfl (fun c44=> ?_) (fun c44=> ?_)
  ·
   refine WP.skip ?_;refine pR.norm ?_;refine WP.seq ?_;refine WP.block ?_;refine WP.ds am 22 [_,_,_,_,_,_,_,_,_,_,_,_,_,_,_,_,_,_,_,_,_,_] rfl rfl (fun e_ w_ BH BG=>⟨fun _=>aa (cI.move ((BG 0 rfl s0_e3))),fun BF=>aa (cI.nilCheck ((BF 0 rfl))),fun BF=>aa (cI.fieldAddr dU ((BF 1 rfl))),fun BF=>aa (cI.fieldAddr aq ((BF 2 rfl))),fun BF=>aa (cI.load aH ((BF 3 rfl)) ((be.ext hG BH).at_ (i:=5) rfl rfl)),fun _=>aa (cI.move ((BG 1 rfl s1_e3))),fun BF=>aa (cI.index (j:=i) aB ((BF 4 rfl)) ((BF 5 rfl)) rfl (by omega) (by omega)),fun BF=>ah (an (i:=i) aU (BF 6 rfl) (cD.ext hMu BH) (by omega)),fun _=>aa (cI.move ((BG 5 rfl s5_e3))),fun _=>aa (cI.move ((BG 0 rfl s0_e3))),fun BF=>aa (cI.nilCheck ((BF 9 rfl))),fun BF=>aa (cI.fieldAddr dU ((BF 10 rfl))),fun BF=>aa (cI.fieldAddr aq ((BF 11 rfl))),fun BF=>aa (cI.load aH ((BF 12 rfl)) ((be.ext hG BH).at_ (i:=5) rfl rfl)),fun _=>aa (cI.move ((BG 1 rfl s1_e3))),fun BF=>aa (cI.index (j:=i) aB ((BF 13 rfl)) ((BF 14 rfl)) rfl (by omega) (by omega)),fun BF=>ah (an (i:=i) aU (BF 15 rfl) (cD.ext hMu BH) (by omega)),fun _=>aa (cI.move ((BG 5 rfl s5_e3))),fun BF=>aa (av (j:=jb) bi (BF 16 rfl) rfl (BF 17 rfl) (by omega) (by omega)),fun BF=>ah (aP (j:=jb) ao (BF 18 rfl) (cD.row (cD.ext hMu BH) (by omega)) (by omega)),fun BF=>dj.call kT (aI rfl) (ll _ _ _ _ ((BF 19 rfl))),fun BF=>aa (av (j:=jb) bi (BF 7 rfl) rfl (BF 8 rfl) (by omega) (by omega)),trivial⟩) ?_;intro e4 w5 hx2 ho2 hf2;replace hG:=be.ext hG hx2;replace hMm:=cD.ext hMm hx2;replace hMu:=cD.ext hMu hx2;replace hMv:=cD.ext hMv hx2;replace hX2:=aS hX2 hx2;have s0_e4:=ho2 0 rfl s0_e3;have s1_e4:=ho2 1 rfl s1_e3;have s5_e4:=ho2 5 rfl s5_e3;have s67_e4:al w5 (e4 67) (-((rowP U (dq U i) i jb) i jb)) b:=hf2 20 rfl;have s68_e4:e4 68=_:=hf2 21 rfl;refine RL.x rfl rfl (bM (i:=i) (j:=jb) aN s68_e4 rfl (al.eq s67_e4 (by rw [gQ]) (pw (hbU jb (by omega))) (by omega)) hMu (by omega) (by omega)) ?_;rintro _ w6 ⟨hk2,hN2⟩;have hR2:=cD.row (i:=i) hMu (by omega);replace hG:=aT hG hk2 hR2 (by decide);replace hMm:=aX hMm hk2 hR2 (fun ii hii=>dmu ii i hii (by omega));replace hMv:=aX hMv hk2 hR2 (fun ii hii=>Ne.symm (duv i ii (by omega) hii));replace hX2:=hX2.step hk2 (fun b e=>by subst e;exact (.inl (dh (i:=i) h0u (by omega))));replace hMu:=hN2;clear hR2;refine RL.nil ?_;refine jm.norm ?_;refine pR.norm ?_;refine WP.region ?_;refine RL.p rfl rfl (cI.move s5_e4) ?_;refine RL.p rfl rfl (cI.add (c:=((jb + 1:Nat):Int)) rfl rfl (bU (by omega))) ?_;refine RL.p rfl rfl (cI.assign rfl) ?_;refine RL.nil ?_;refine pR.norm ⟨_,(by omega),jb + 1,rfl,s0_e4,s1_e4,rfl,(by omega),hX2,hG,hMm,bA hMu (gS (qB _)),hMv⟩
  ·
   refine WP.exit ?_;refine pR.exit ?_;refine pR.exit ?_;refine jm.same ?_;refine pR.norm ?_;refine ab ?_;refine RL.p rfl rfl (cI.assign rfl) ?_;refine RL.nil ?_;refine WP.block ?_;refine WP.loop (fun mz ez uz=>∃a:Nat,(mz=r - a)∧(ez 0= .pointer (some ⟨gw,0,none⟩))∧(ez 1= .int .i64 ((i:Nat)))∧(ez 6= .int .i64 ((a:Nat)))∧(a≤r)∧(Keeps (dx B w) w uz)∧(be uz gw 83 9 (bS [.int .i64 ((r:Nat)),.int .i64 ((c:Nat)),.slice (some ⟨hm,0,none⟩) (r) (km),.int .i64 ((r:Nat)),.int .i64 ((r:Nat)),.slice (some ⟨hu,0,none⟩) (r) (ku),.int .i64 ((r:Nat)),.int .i64 ((r:Nat)),.slice (some ⟨hv,0,none⟩) (r) (kv)]))∧(cD uz B hm km r c ρm (rowP M (dq M i) i ja) b)∧(cD uz B hu ku r r ρu (rowP U (dq U i) i jb) b)∧(cD uz B hv kv r r ρv (en V (eJ V i) a) b)) (r - 0) ?_ ?_
   · exact ⟨0,rfl,s0_e3,s1_e3,rfl,(by omega),hX2,hG,hMm,hMu,bA hMv (eT V (eJ V i)).symm⟩
   rintro m3 e5 w7 ⟨a,hm3,s0_e5,s1_e5,s6_e5,ha,hX3,hG,hMm,hMu,hMv⟩;refine WP.seq ?_;refine ab ?_;refine RL.p rfl rfl (cI.move s6_e5) ?_;refine RL.p rfl rfl (cI.move s0_e5) ?_;refine RL.p rfl rfl (cI.nilCheck rfl) ?_;refine RL.p rfl rfl (cI.fieldAddr dI rfl) ?_;refine RL.p rfl rfl (cI.fieldAddr bg rfl) ?_;refine RL.p rfl rfl (cI.load bG rfl (hG.at_ (i:=6) rfl rfl)) ?_;refine RL.p rfl rfl (cI.lss rfl rfl) ?_;refine RL.nil ?_;refine ag (((a:Nat):Int)<((r:Nat):Int)) rfl (fun c75=> ?_) (fun c75=> ?_)
   ·
    refine WP.skip ?_;refine pR.norm ?_;refine WP.seq ?_;refine WP.block ?_;refine WP.ds am 22 [_,_,_,_,_,_,_,_,_,_,_,_,_,_,_,_,_,_,_,_,_,_] rfl rfl (fun e_ w_ BH BG=>⟨fun _=>aa (cI.move ((BG 0 rfl s0_e5))),fun BF=>aa (cI.nilCheck ((BF 0 rfl))),fun BF=>aa (cI.fieldAddr dI ((BF 1 rfl))),fun BF=>aa (cI.fieldAddr aq ((BF 2 rfl))),fun BF=>aa (cI.load aH ((BF 3 rfl)) ((be.ext hG BH).at_ (i:=8) rfl rfl)),fun _=>aa (cI.move ((BG 6 rfl s6_e5))),fun BF=>aa (cI.index (j:=a) aB ((BF 4 rfl)) ((BF 5 rfl)) rfl (by omega) (by omega)),fun BF=>ah (an (i:=a) aU (BF 6 rfl) (cD.ext hMv BH) (by omega)),fun _=>aa (cI.move ((BG 1 rfl s1_e5))),fun _=>aa (cI.move ((BG 0 rfl s0_e5))),fun BF=>aa (cI.nilCheck ((BF 9 rfl))),fun BF=>aa (cI.fieldAddr dI ((BF 10 rfl))),fun BF=>aa (cI.fieldAddr aq ((BF 11 rfl))),fun BF=>aa (cI.load aH ((BF 12 rfl)) ((be.ext hG BH).at_ (i:=8) rfl rfl)),fun _=>aa (cI.move ((BG 6 rfl s6_e5))),fun BF=>aa (cI.index (j:=a) aB ((BF 13 rfl)) ((BF 14 rfl)) rfl (by omega) (by omega)),fun BF=>ah (an (i:=a) aU (BF 15 rfl) (cD.ext hMv BH) (by omega)),fun _=>aa (cI.move ((BG 1 rfl s1_e5))),fun BF=>aa (av (j:=i) bi (BF 16 rfl) rfl (BF 17 rfl) (by omega) (by omega)),fun BF=>ah (aP (j:=i) ao (BF 18 rfl) (cD.row (cD.ext hMv BH) (by omega)) (by omega)),fun BF=>dj.call kT (aI rfl) (ll _ _ _ _ ((BF 19 rfl))),fun BF=>aa (av (j:=i) bi (BF 7 rfl) rfl (BF 8 rfl) (by omega) (by omega)),trivial⟩) ?_;intro e6 w8 hx3 ho3 hf3;replace hG:=be.ext hG hx3;replace hMm:=cD.ext hMm hx3;replace hMu:=cD.ext hMu hx3;replace hMv:=cD.ext hMv hx3;replace hX3:=aS hX3 hx3;have s0_e6:=ho3 0 rfl s0_e5;have s1_e6:=ho3 1 rfl s1_e5;have s6_e6:=ho3 6 rfl s6_e5;have s98_e6:al w8 (e6 98) (-((en V (eJ V i) a) a i)) b:=hf3 20 rfl;have s99_e6:e6 99=_:=hf3 21 rfl;refine RL.x rfl rfl (bM (i:=a) (j:=i) aN s99_e6 rfl (al.eq s98_e6 (by rw [dt]) (pw (hbV a (by omega))) (by omega)) hMv (by omega) (by omega)) ?_;rintro _ w9 ⟨hk3,hN3⟩;have hR3:=cD.row (i:=a) hMv (by omega);replace hG:=aT hG hk3 hR3 (by decide);replace hMm:=aX hMm hk3 hR3 (fun ii hii=>dmv ii a hii (by omega));replace hMu:=aX hMu hk3 hR3 (fun ii hii=>duv ii a hii (by omega));replace hX3:=hX3.step hk3 (fun b e=>by subst e;exact (.inl (dh (i:=a) h0v (by omega))));replace hMv:=hN3;clear hR3;refine RL.nil ?_;refine jm.norm ?_;refine pR.norm ?_;refine WP.region ?_;refine RL.p rfl rfl (cI.move s6_e6) ?_;refine RL.p rfl rfl (cI.add (c:=((a + 1:Nat):Int)) rfl rfl (bU (by omega))) ?_;refine RL.p rfl rfl (cI.assign rfl) ?_;refine RL.nil ?_;refine pR.norm ⟨_,(by omega),a + 1,rfl,s0_e6,s1_e6,rfl,(by omega),hX3,hG,hMm,hMu,bA hMv (gZ (by simp [eJ]) (fun c hc=>by simp [eJ,hc]))⟩
   ·
    refine WP.exit ?_;refine pR.exit ?_;refine pR.exit ?_;refine jm.same ?_;refine ⟨.tuple #[],Bb.zero,_,rfl,hX3,?_⟩;dsimp only;exact ⟨hm,hu,hv,km,ku,kv,_,_,_,hBg,hG,(cD.congr hMm (fun a2 c2 _ hc=>iS ot (by omega))),(cD.congr hMu (fun a2 c2 _ hc=>iS ot (by omega))),(cD.congr hMv (fun a c ha hc=>fM V _ c (by omega))),nmu,nmv,nuv,dmu,dmv,duv⟩
set_option maxRecDepth 10000 in
theorem tM (w:World) (B gw r c:Nat) (M U V:Nat→Nat→Int) (b:Nat) (i:Nat) (j:Nat) (hW:bT 83 w B gw r c M U V b) (hi:i<r) (hj:j<r):Calls Tryz.prog 53 #[.pointer (some ⟨gw,0,none⟩),.int .i64 (i:Nat),.int .i64 (j:Nat)] w (ma (dx B w) w fun v w'=>bT 83 w' B gw r c (cE M i j) (cE U i j) (cY V i j) b):=by
 have hLIM:br=562949953421312:=rfl;obtain ⟨hm,hu,hv,km,ku,kv,ρm,ρu,ρv,hBg,hG,hMm,hMu,hMv,nmu,nmv,nuv,dmu,dmv,duv⟩:=hW;have hdm:=cD.dlim hMm;have hcm:=cD.clim hMm;have hdu:=cD.dlim hMu;have hdv:=cD.dlim hMv;have h0m:=hMm;have h0u:=hMu;have h0v:=hMv;refine ak (N:=123) (rs:= #[]) Tryz.func53 rfl rfl rfl (Nat.le_of_ble_eq_true rfl) ?_;have hX:Keeps (dx B w) w w:=Keeps.refl _ w;refine ab ?_;refine RL.p rfl rfl (cI.move rfl) ?_;refine RL.p rfl rfl (cI.nilCheck rfl) ?_;refine RL.p rfl rfl (cI.fieldAddr cP rfl) ?_;refine RL.p rfl rfl (cI.fieldAddr aq rfl) ?_;refine RL.p rfl rfl (cI.load aH rfl (hG.at_ (i:=2) rfl rfl)) ?_;refine RL.p rfl rfl (cI.move rfl) ?_;refine RL.p rfl rfl (cI.index (j:=i) aB rfl rfl rfl (by omega) (by omega)) ?_;refine RL.x rfl rfl (an (i:=i) aU rfl hMm (by omega)) ?_;rintro v1 _ ⟨rfl,q1⟩;refine RL.p rfl rfl (cI.assign rfl) ?_;refine RL.nil ?_;refine aK am 15 [_,_,_,_,_,_,_,_,_,_,_,_,_,_,_] rfl rfl (fun e_ w_ BH BG=>⟨fun _=>aa (cI.move ((BG 0 rfl rfl))),fun BF=>aa (cI.nilCheck ((BF 0 rfl))),fun BF=>aa (cI.fieldAddr cP ((BF 1 rfl))),fun BF=>aa (cI.fieldAddr aq ((BF 2 rfl))),fun BF=>aa (cI.load aH ((BF 3 rfl)) ((be.ext hG BH).at_ (i:=2) rfl rfl)),fun _=>aa (cI.move ((BG 1 rfl rfl))),fun _=>aa (cI.move ((BG 0 rfl rfl))),fun BF=>aa (cI.nilCheck ((BF 6 rfl))),fun BF=>aa (cI.fieldAddr cP ((BF 7 rfl))),fun BF=>aa (cI.fieldAddr aq ((BF 8 rfl))),fun BF=>aa (cI.load aH ((BF 9 rfl)) ((be.ext hG BH).at_ (i:=2) rfl rfl)),fun _=>aa (cI.move ((BG 2 rfl rfl))),fun BF=>aa (cI.index (j:=j) aB ((BF 10 rfl)) ((BF 11 rfl)) rfl (by omega) (by omega)),fun BF=>ah (an (i:=j) aU (BF 12 rfl) (cD.ext hMm BH) (by omega)),fun BF=>aa (cI.index (j:=i) aB ((BF 4 rfl)) ((BF 5 rfl)) rfl (by omega) (by omega)),trivial⟩) ?_;intro e1 w1 hx1 ho1 hf1;replace hG:=be.ext hG hx1;replace hMm:=cD.ext hMm hx1;replace hMu:=cD.ext hMu hx1;replace hMv:=cD.ext hMv hx1;replace q1:=fx.ext q1 hx1;replace hX:=aS hX hx1;have s0_e1:e1 0=_:=ho1 0 rfl rfl;have s1_e1:e1 1=_:=ho1 1 rfl rfl;have s2_e1:e1 2=_:=ho1 2 rfl rfl;have s6_e1:e1 6=_:=ho1 6 rfl rfl;have s30_e1:fx w1 (e1 30) (ρm j) c:=hf1 13 rfl;have s31_e1:e1 31=_:=hf1 14 rfl;obtain ⟨fh1,hH1⟩:=cD.split hMm;refine RL.x rfl rfl (cK (i:=i) (g:=(ρm j)) (n:=c) (f:=fh1) gf s31_e1 rfl (bF s30_e1 w1) hH1 (by omega)) ?_;rintro _ w2 ⟨hk1,hN1⟩;have hMo1:=hMm;have hH01:=hH1;replace hG:=hG.keep hk1 (hG.ne hH01 (by decide));replace hMu:=bW hMu hk1 hH01 (Ne.symm nmu);replace hMv:=bW hMv hk1 hH01 (Ne.symm nmv);replace hX:=hX.step hk1 (fun b e=>by subst e;exact (.inl (dS h0m)));refine RL.nil ?_;refine ab ?_;refine RL.p rfl rfl (cI.move s0_e1) ?_;refine RL.p rfl rfl (cI.nilCheck rfl) ?_;refine RL.p rfl rfl (cI.fieldAddr cP rfl) ?_;refine RL.p rfl rfl (cI.fieldAddr aq rfl) ?_;refine RL.p rfl rfl (cI.load aH rfl (hG.at_ (i:=2) rfl rfl)) ?_;refine RL.p rfl rfl (cI.move s2_e1) ?_;refine RL.p rfl rfl (cI.move s6_e1) ?_;refine RL.p rfl rfl (cI.index (j:=j) aB rfl rfl rfl (by omega) (by omega)) ?_;refine RL.x rfl rfl (cK (i:=j) (g:=(ρm i)) (n:=c) (f:=(dZ fh1 (0 + i*1) [(e1 30)])) gf rfl rfl (bF q1 w2) hN1 (by omega)) ?_;rintro _ w3 ⟨hk2,hN2⟩;have hH02:=hN1;replace hG:=hG.keep hk2 (hG.ne hH02 (by decide));replace hMu:=bW hMu hk2 hH02 (Ne.symm nmu);replace hMv:=bW hMv hk2 hH02 (Ne.symm nmv);replace hX:=hX.step hk2 (fun b e=>by subst e;exact (.inl (dS h0m)));have hk3:=hk1.step hk2 (fun b e=> .inl e);have hMm:=fz (i:=i) (j:=j) hMo1 hH1 hk3 hN2 (bF s30_e1 w1) (bF q1 w2) (by omega) (by omega);replace dmu:=gO (i:=i) (j:=j) dmu (by omega) (by omega);replace dmv:=gO (i:=i) (j:=j) dmv (by omega) (by omega);refine RL.nil ?_;refine ab ?_;refine RL.p rfl rfl (cI.move s0_e1) ?_;refine RL.p rfl rfl (cI.nilCheck rfl) ?_;refine RL.p rfl rfl (cI.fieldAddr dU rfl) ?_;refine RL.p rfl rfl (cI.fieldAddr aq rfl) ?_;refine RL.p rfl rfl (cI.load aH rfl (hG.at_ (i:=5) rfl rfl)) ?_;refine RL.p rfl rfl (cI.move s1_e1) ?_;refine RL.p rfl rfl (cI.index (j:=i) aB rfl rfl rfl (by omega) (by omega)) ?_;refine RL.x rfl rfl (an (i:=i) aU rfl hMu (by omega)) ?_;rintro v2 _ ⟨rfl,q2⟩;refine RL.p rfl rfl (cI.assign rfl) ?_;refine RL.nil ?_;refine aK am 15 [_,_,_,_,_,_,_,_,_,_,_,_,_,_,_] rfl rfl (fun e_ w_ BH BG=>⟨fun _=>aa (cI.move ((BG 0 rfl s0_e1))),fun BF=>aa (cI.nilCheck ((BF 0 rfl))),fun BF=>aa (cI.fieldAddr dU ((BF 1 rfl))),fun BF=>aa (cI.fieldAddr aq ((BF 2 rfl))),fun BF=>aa (cI.load aH ((BF 3 rfl)) ((be.ext hG BH).at_ (i:=5) rfl rfl)),fun _=>aa (cI.move ((BG 1 rfl s1_e1))),fun _=>aa (cI.move ((BG 0 rfl s0_e1))),fun BF=>aa (cI.nilCheck ((BF 6 rfl))),fun BF=>aa (cI.fieldAddr dU ((BF 7 rfl))),fun BF=>aa (cI.fieldAddr aq ((BF 8 rfl))),fun BF=>aa (cI.load aH ((BF 9 rfl)) ((be.ext hG BH).at_ (i:=5) rfl rfl)),fun _=>aa (cI.move ((BG 2 rfl s2_e1))),fun BF=>aa (cI.index (j:=j) aB ((BF 10 rfl)) ((BF 11 rfl)) rfl (by omega) (by omega)),fun BF=>ah (an (i:=j) aU (BF 12 rfl) (cD.ext hMu BH) (by omega)),fun BF=>aa (cI.index (j:=i) aB ((BF 4 rfl)) ((BF 5 rfl)) rfl (by omega) (by omega)),trivial⟩) ?_;intro e2 w4 hx2 ho2 hf2;replace hG:=be.ext hG hx2;replace hMm:=cD.ext hMm hx2;replace hMu:=cD.ext hMu hx2;replace hMv:=cD.ext hMv hx2;replace q2:=fx.ext q2 hx2;replace hX:=aS hX hx2;have s0_e2:=ho2 0 rfl s0_e1;have s1_e2:=ho2 1 rfl s1_e1;have s2_e2:=ho2 2 rfl s2_e1;have s6_e2:e2 6=_:=ho2 6 rfl rfl;have s61_e2:fx w4 (e2 61) (ρu j) r:=hf2 13 rfl;have s62_e2:e2 62=_:=hf2 14 rfl;obtain ⟨fh2,hH2⟩:=cD.split hMu;refine RL.x rfl rfl (cK (i:=i) (g:=(ρu j)) (n:=r) (f:=fh2) gf s62_e2 rfl (bF s61_e2 w4) hH2 (by omega)) ?_;rintro _ w5 ⟨hk4,hN3⟩;have hMo2:=hMu;have hH03:=hH2;replace hG:=hG.keep hk4 (hG.ne hH03 (by decide));replace hMm:=bW hMm hk4 hH03 nmu;replace hMv:=bW hMv hk4 hH03 (Ne.symm nuv);replace hX:=hX.step hk4 (fun b e=>by subst e;exact (.inl (dS h0u)));refine RL.nil ?_;refine ab ?_;refine RL.p rfl rfl (cI.move s0_e2) ?_;refine RL.p rfl rfl (cI.nilCheck rfl) ?_;refine RL.p rfl rfl (cI.fieldAddr dU rfl) ?_;refine RL.p rfl rfl (cI.fieldAddr aq rfl) ?_;refine RL.p rfl rfl (cI.load aH rfl (hG.at_ (i:=5) rfl rfl)) ?_;refine RL.p rfl rfl (cI.move s2_e2) ?_;refine RL.p rfl rfl (cI.move s6_e2) ?_;refine RL.p rfl rfl (cI.index (j:=j) aB rfl rfl rfl (by omega) (by omega)) ?_;refine RL.x rfl rfl (cK (i:=j) (g:=(ρu i)) (n:=r) (f:=(dZ fh2 (0 + i*1) [(e2 61)])) gf rfl rfl (bF q2 w5) hN3 (by omega)) ?_;rintro _ w6 ⟨hk5,hN4⟩;have hH04:=hN3;replace hG:=hG.keep hk5 (hG.ne hH04 (by decide));replace hMm:=bW hMm hk5 hH04 nmu;replace hMv:=bW hMv hk5 hH04 (Ne.symm nuv);replace hX:=hX.step hk5 (fun b e=>by subst e;exact (.inl (dS h0u)));have hk6:=hk4.step hk5 (fun b e=> .inl e);have hMu:=fz (i:=i) (j:=j) hMo2 hH2 hk6 hN4 (bF s61_e2 w4) (bF q2 w5) (by omega) (by omega);replace dmu:=qo (i:=i) (j:=j) dmu (by omega) (by omega);replace duv:=gO (i:=i) (j:=j) duv (by omega) (by omega);refine RL.nil ?_;refine ab ?_;refine RL.p rfl rfl (cI.assign rfl) ?_;refine RL.nil ?_;refine WP.block ?_;refine WP.loop (fun mz ez uz=>∃a:Nat,(mz=r - a)∧(ez 0= .pointer (some ⟨gw,0,none⟩))∧(ez 1= .int .i64 ((i:Nat)))∧(ez 2= .int .i64 ((j:Nat)))∧(ez 7= .int .i64 ((a:Nat)))∧(a≤r)∧(Keeps (dx B w) w uz)∧(be uz gw 83 9 (bS [.int .i64 ((r:Nat)),.int .i64 ((c:Nat)),.slice (some ⟨hm,0,none⟩) (r) (km),.int .i64 ((r:Nat)),.int .i64 ((r:Nat)),.slice (some ⟨hu,0,none⟩) (r) (ku),.int .i64 ((r:Nat)),.int .i64 ((r:Nat)),.slice (some ⟨hv,0,none⟩) (r) (kv)]))∧(cD uz B hm km r c (fQ ρm i j) (cE M i j) b)∧(cD uz B hu ku r r (fQ ρu i j) (cE U i j) b)∧(cD uz B hv kv r r ρv (en V (cY V i j) a) b)) (r - 0) ?_ ?_
 · exact ⟨0,rfl,s0_e2,s1_e2,s2_e2,rfl,(by omega),hX,hG,hMm,hMu,bA hMv (eT V (cY V i j)).symm⟩
 rintro m1 e3 w7 ⟨a,hm1,s0_e3,s1_e3,s2_e3,s7_e3,ha,hX1,hG,hMm,hMu,hMv⟩;refine WP.seq ?_;refine ab ?_;refine RL.p rfl rfl (cI.move s7_e3) ?_;refine RL.p rfl rfl (cI.move s0_e3) ?_;refine RL.p rfl rfl (cI.nilCheck rfl) ?_;refine RL.p rfl rfl (cI.fieldAddr dI rfl) ?_;refine RL.p rfl rfl (cI.fieldAddr bg rfl) ?_;refine RL.p rfl rfl (cI.load bG rfl (hG.at_ (i:=6) rfl rfl)) ?_;refine RL.p rfl rfl (cI.lss rfl rfl) ?_;refine RL.nil ?_;refine ag (((a:Nat):Int)<((r:Nat):Int)) rfl (fun c77=> ?_) (fun c77=> ?_)
 ·
  refine WP.skip ?_;refine pR.norm ?_;refine WP.seq ?_;refine WP.block ?_;refine ab ?_;refine RL.p rfl rfl (cI.move s0_e3) ?_;refine RL.p rfl rfl (cI.nilCheck rfl) ?_;refine RL.p rfl rfl (cI.fieldAddr dI rfl) ?_;refine RL.p rfl rfl (cI.fieldAddr aq rfl) ?_;refine RL.p rfl rfl (cI.load aH rfl (hG.at_ (i:=8) rfl rfl)) ?_;refine RL.p rfl rfl (cI.move s7_e3) ?_;refine RL.p rfl rfl (cI.index (j:=a) aB rfl rfl rfl (by omega) (by omega)) ?_;refine RL.x rfl rfl (an (i:=a) aU rfl hMv (by omega)) ?_;rintro v3 _ ⟨rfl,q3⟩;refine RL.p rfl rfl (cI.move s1_e3) ?_;refine RL.p rfl rfl (av (j:=i) bi (bF q3 w7) rfl rfl (by omega) (by omega)) ?_;refine RL.x rfl rfl (aP (j:=i) ao rfl (cD.row hMv (by omega)) (by omega)) ?_;rintro v4 _ ⟨rfl,q4⟩;refine RL.x rfl rfl (dj.alloc [.bool (false),.slice (none) (0) (0)] bH rfl) ?_;rintro _ w8 ⟨g1,rfl,hge1,hx3,hA1⟩;have ne1:gw≠g1:=Nat.ne_of_lt (Nat.lt_of_lt_of_le hG.lt hge1);have ne2:∀ii,ii<r→(fQ ρm i j) ii≠g1:=fun ii hi=>Nat.ne_of_lt (Nat.lt_of_lt_of_le (cD.rowlt hMm hi) hge1)
  have ne4:∀ii,ii<r→(fQ ρu i j) ii≠g1:=fun ii hi=>Nat.ne_of_lt (Nat.lt_of_lt_of_le (cD.rowlt hMu hi) hge1)
  have ne6:∀ii,ii<r→ρv ii≠g1:=fun ii hi=>Nat.ne_of_lt (Nat.lt_of_lt_of_le (cD.rowlt hMv hi) hge1)
  have hbs1:w.heap.size≤g1:=Nat.le_trans hX1.size hge1;replace hG:=be.ext hG hx3;replace hMm:=cD.ext hMm hx3;replace hMu:=cD.ext hMu hx3;replace hMv:=cD.ext hMv hx3;replace q4:=al.ext q4 hx3;replace hX1:=aS hX1 hx3;obtain ⟨ca1,cb1,hq1,ho3,ho4⟩:=al.cells q4;have qi1:al w8 (.agg #[ca1,cb1]) ((en V (cY V i j) a) a i) b:=hq1▸q4;refine RL.x rfl rfl (dj.store [ca1,cb1] aN rfl hq1 rfl hA1 (Nat.le_of_ble_eq_true rfl) (bj ho3 ho4)) ?_;rintro _ w9 ⟨hk7,hnew⟩;replace hMm:=em hMm hk7 hA1 ne2;replace hMu:=em hMu hk7 hA1 ne4;replace hMv:=em hMv hk7 hA1 ne6;replace hG:=hG.keep hk7 ne1;replace qi1:=ae qi1 hk7 hA1 (by decide);replace hX1:=hX1.step hk7 (fun b e=>by subst e;exact .inr hbs1);replace hA1:=hnew.lit [ca1,cb1] rfl;clear hnew;refine RL.nil ?_;refine aK am 21 [_,_,_,_,_,_,_,_,_,_,_,_,_,_,_,_,_,_,_,_,_] rfl rfl (fun e_ w_ BH BG=>⟨fun _=>aa (cI.move ((BG 0 rfl s0_e3))),fun BF=>aa (cI.nilCheck ((BF 0 rfl))),fun BF=>aa (cI.fieldAddr dI ((BF 1 rfl))),fun BF=>aa (cI.fieldAddr aq ((BF 2 rfl))),fun BF=>aa (cI.load aH ((BF 3 rfl)) ((be.ext hG BH).at_ (i:=8) rfl rfl)),fun _=>aa (cI.move ((BG 7 rfl s7_e3))),fun BF=>aa (cI.index (j:=a) aB ((BF 4 rfl)) ((BF 5 rfl)) rfl (by omega) (by omega)),fun BF=>ah (an (i:=a) aU (BF 6 rfl) (cD.ext hMv BH) (by omega)),fun _=>aa (cI.move ((BG 1 rfl s1_e3))),fun _=>aa (cI.move ((BG 0 rfl s0_e3))),fun BF=>aa (cI.nilCheck ((BF 9 rfl))),fun BF=>aa (cI.fieldAddr dI ((BF 10 rfl))),fun BF=>aa (cI.fieldAddr aq ((BF 11 rfl))),fun BF=>aa (cI.load aH ((BF 12 rfl)) ((be.ext hG BH).at_ (i:=8) rfl rfl)),fun _=>aa (cI.move ((BG 7 rfl s7_e3))),fun BF=>aa (cI.index (j:=a) aB ((BF 13 rfl)) ((BF 14 rfl)) rfl (by omega) (by omega)),fun BF=>ah (an (i:=a) aU (BF 15 rfl) (cD.ext hMv BH) (by omega)),fun _=>aa (cI.move ((BG 2 rfl s2_e3))),fun BF=>aa (av (j:=j) bi (BF 16 rfl) rfl (BF 17 rfl) (by omega) (by omega)),fun BF=>ah (aP (j:=j) ao (BF 18 rfl) (cD.row (cD.ext hMv BH) (by omega)) (by omega)),fun BF=>aa (av (j:=i) bi (BF 7 rfl) rfl (BF 8 rfl) (by omega) (by omega)),trivial⟩) ?_;intro e4 w10 hx4 ho5 hf3;replace hG:=be.ext hG hx4;replace hA1:=be.ext hA1 hx4;replace qi1:=al.ext qi1 hx4;replace hMm:=cD.ext hMm hx4;replace hMu:=cD.ext hMu hx4;replace hMv:=cD.ext hMv hx4;replace hX1:=aS hX1 hx4;have s0_e4:=ho5 0 rfl s0_e3;have s1_e4:=ho5 1 rfl s1_e3;have s2_e4:=ho5 2 rfl s2_e3;have s7_e4:=ho5 7 rfl s7_e3;have s8_e4:e4 8=_:=ho5 8 rfl rfl;have s110_e4:al w10 (e4 110) ((en V (cY V i j) a) a j) b:=hf3 19 rfl;have s111_e4:e4 111=_:=hf3 20 rfl;refine RL.x rfl rfl (bM (i:=a) (j:=i) aN s111_e4 rfl s110_e4 hMv (by omega) (by omega)) ?_;rintro _ w11 ⟨hk8,hN5⟩;have hR1:=cD.row (i:=a) hMv (by omega);replace hG:=aT hG hk8 hR1 (by decide);replace hA1:=hA1.keep hk8 (Ne.symm (ne6 a (by omega)));replace qi1:=bZ qi1 hk8 hR1;replace hMm:=aX hMm hk8 hR1 (fun ii hii=>dmv ii a hii (by omega));replace hMu:=aX hMu hk8 hR1 (fun ii hii=>duv ii a hii (by omega));replace hX1:=hX1.step hk8 (fun b e=>by subst e;exact (.inl (dh (i:=a) h0v (by omega))));replace hMv:=hN5;clear hR1;refine RL.nil ?_;refine WP.ds am 11 [_,_,_,_,_,_,_,_,_,_,_] rfl rfl (fun e_ w_ BH BG=>⟨fun _=>aa (cI.move ((BG 0 rfl s0_e4))),fun BF=>aa (cI.nilCheck ((BF 0 rfl))),fun BF=>aa (cI.fieldAddr dI ((BF 1 rfl))),fun BF=>aa (cI.fieldAddr aq ((BF 2 rfl))),fun BF=>aa (cI.load aH ((BF 3 rfl)) ((be.ext hG BH).at_ (i:=8) rfl rfl)),fun _=>aa (cI.move ((BG 7 rfl s7_e4))),fun BF=>aa (cI.index (j:=a) aB ((BF 4 rfl)) ((BF 5 rfl)) rfl (by omega) (by omega)),fun BF=>ah (an (i:=a) aU (BF 6 rfl) (cD.ext hMv BH) (by omega)),fun _=>aa (cI.move ((BG 2 rfl s2_e4))),fun _=>aa (af [ca1,cb1] ao ((BG 8 rfl s8_e4)) ((be.ext hA1 BH).cells 0 _ rfl rfl)),fun BF=>aa (av (j:=j) bi (BF 7 rfl) rfl (BF 8 rfl) (by omega) (by omega)),trivial⟩) ?_;intro e5 w12 hx5 ho6 hf4;replace hG:=be.ext hG hx5;replace qi1:=al.ext qi1 hx5;replace hMm:=cD.ext hMm hx5;replace hMu:=cD.ext hMu hx5;replace hMv:=cD.ext hMv hx5;replace hX1:=aS hX1 hx5;have s0_e5:=ho6 0 rfl s0_e4;have s1_e5:=ho6 1 rfl s1_e4;have s2_e5:=ho6 2 rfl s2_e4;have s7_e5:=ho6 7 rfl s7_e4;have s121_e5:e5 121=_:=hf4 9 rfl;have s122_e5:e5 122=_:=hf4 10 rfl;refine RL.x rfl rfl (bM (i:=a) (j:=j) aN s122_e5 s121_e5 qi1 hMv (by omega) (by omega)) ?_;rintro _ w13 ⟨hk9,hN6⟩;have hR2:=cD.row (i:=a) hMv (by omega);replace hG:=aT hG hk9 hR2 (by decide);replace hMm:=aX hMm hk9 hR2 (fun ii hii=>dmv ii a hii (by omega));replace hMu:=aX hMu hk9 hR2 (fun ii hii=>duv ii a hii (by omega));replace hX1:=hX1.step hk9 (fun b e=>by subst e;exact (.inl (dh (i:=a) h0v (by omega))));replace hMv:=hN6;clear hR2;refine RL.nil ?_;refine jm.norm ?_;refine pR.norm ?_;refine WP.region ?_;refine RL.p rfl rfl (cI.move s7_e5) ?_;refine RL.p rfl rfl (cI.add (c:=((a + 1:Nat):Int)) rfl rfl (bU (by omega))) ?_;refine RL.p rfl rfl (cI.assign rfl) ?_;refine RL.nil ?_;refine pR.norm ⟨_,(by omega),a + 1,rfl,s0_e5,s1_e5,s2_e5,rfl,(by omega),hX1,hG,hMm,hMu,bA hMv (lL (fun h=>by rw [dt];simp [cY]) (by rw [dt];by_cases e:j=i<;>simp [cY,e]) (fun c h1 h2=>by simp [cY,h1,h2]))⟩
 ·
  refine WP.exit ?_;refine pR.exit ?_;refine pR.exit ?_;refine jm.same ?_;refine ⟨.tuple #[],Bb.zero,_,rfl,hX1,?_⟩;dsimp only;exact ⟨hm,hu,hv,km,ku,kv,_,_,_,hBg,hG,hMm,hMu,(cD.congr hMv (fun a c ha hc=>fM V _ c (by omega))),nmu,nmv,nuv,dmu,dmv,duv⟩
end Go.TL
namespace Go.TL
set_option linter.unusedVariables false
def sg (S:WS) (top q:Nat):WS:=if S.M top q<0 then fC S top else S
theorem xO (S:WS) (top q:Nat):sn S top top q=sg S top q:=by unfold sn sg;rw [kL]
theorem yM {S:WS} {top q:Nat} (h:S.M top q<0):sg S top q=fC S top:=by unfold sg;rw [if_pos h]
theorem yL {S:WS} {top q:Nat} (h:¬S.M top q<0):sg S top q=S:=by unfold sg;rw [if_neg h]
theorem yK (S:WS) (top q:Nat):(sg S top q).M top q=((S.M top q).natAbs:Int):=by rw [←xO,jq]
def lK (S:WS) (top i q:Nat):WS:=bQ (cU S top i (-(S.M top q/S.M i q))) top i
theorem xU {S:WS} {top i q:Nat} (h:top≠i):(lK S top i q).M i q=S.M top q % S.M i q:=by
  unfold lK bQ cU cE cX
  simp only [if_neg (Ne.symm h),if_true];rw [Int.emod_def,Int.neg_mul,Int.mul_comm];omega
theorem wD {S:WS} {top i q:Nat} (h:top≠i):(lK S top i q).M top q=S.M i q:=by
  unfold lK bQ cU cE cX
  simp only [if_neg (Ne.symm h),if_true]
theorem uN {S:WS} {top i q:Nat} (h:top≠i) (hz:S.M i q≠0):((lK S top i q).M i q).natAbs<(S.M i q).natAbs:=by
  rw [xU h];have h1:=Int.emod_nonneg (S.M top q) hz;have h2:=Int.emod_lt (S.M top q) hz;omega
theorem uO {S:WS} {top i q:Nat} (h:top≠i) (hz:S.M i q≠0) (h0:S.M top q=0):((bQ S top i).M i q).natAbs<(S.M i q).natAbs:=by
  unfold bQ cE
  simp only [if_neg (Ne.symm h),if_true];rw [h0];omega
end Go.TL
namespace Go.TL
open Go.RowKit Go.Proofs
set_option linter.unusedVariables false
set_option linter.unusedSimpArgs false
set_option maxRecDepth 10000 in
theorem vQ (w:World) (x:Value) (r c:Nat) (M:Nat→Nat→Int) (b0 b:Nat) (hx:cc w x r c M b0) (hb0:b0 + 1≤b) (hb:b≤br):Calls Tryz.prog 48 #[x] w (ci w fun v w'=>∃gw,v= .pointer (some ⟨gw,0,none⟩)∧bT 83 w' w.heap.size gw r c M dA dA b):=by
 have hLIM:br=562949953421312:=rfl;obtain ⟨sx,rfl,hr,hc,hSx⟩:=hx.form;obtain ⟨B,hBe⟩:∃B:Nat,B=w.heap.size:=⟨_,rfl⟩
 have hBle:w.heap.size≤B:=by omega
 refine ak (N:=13) (rs:= #[.tmp 2]) Tryz.func48 rfl rfl rfl (Nat.le_of_ble_eq_true rfl) ?_;have hX:aF w w:=aF.refl w;refine ab ?_;refine RL.x rfl rfl (dj.box [.int .i64 ((r:Nat)),.int .i64 ((c:Nat)),sx] rfl rfl) ?_;rintro _ w1 ⟨g1,rfl,hge1,hx1,hA1⟩;replace hX:=aF.trans hX hx1;refine RL.p rfl rfl (cI.assign rfl) ?_;refine RL.nil ?_;have hX1s:B≤w1.heap.size:=by rw [hBe];exact hX.size
 have hBw1:w.heap.size≤w1.heap.size:=hX.size;have hBw2:w.heap.size≤w1.heap.size:=hX.size;have hBw3:w.heap.size≤w1.heap.size:=hX.size;refine ig am 8 [_,fun v BI=>cH BI v w1.heap.size r c M (b0 + 1),_,_,fun v BI=>cH BI v w1.heap.size r r dA 1,_,_,fun v BI=>cH BI v w1.heap.size r r dA 1] (Apart.of (jC) [(1,4),(1,7),(4,7)] rfl ⟨(fun h=>by cases h),(fun _=>gX _ _ _ _ _),(fun h=>by cases h),(fun h=>by cases h),(fun _=>gX _ _ _ _ _),(fun h=>by cases h),(fun h=>by cases h),(fun _=>gX _ _ _ _ _),trivial⟩) rfl rfl ⟨ac _,dK _ _ _ _ _,ac _,ac _,dK _ _ _ _ _,ac _,ac _,dK _ _ _ _ _,trivial⟩ ⟨fun e_ w_ BH BG BF=>aM rfl (aa (af [.int .i64 ((r:Nat)),.int .i64 ((c:Nat)),sx] aR (((BG 1 rfl).trans rfl)) ((be.ext hA1 BH).cells 0 _ rfl rfl))),fun e_ w_ BH BG BF=>dj.mono (dj.call ip (aI ((BF 0 rfl))) (dQ _ _ _ _ _ _ (cc.mk (co.ext (co.ext hSx hX) BH) (by omega) (by omega)) (by omega))) fun v BJ hv=>⟨hv.1,cH.low hv.2 BH.size,dD fun b hb=>eU hv.2 hb⟩,fun e_ w_ BH BG BF=>aM rfl (aa (cI.fieldAddr bg (((BG 1 rfl).trans rfl)))),fun e_ w_ BH BG BF=>aM rfl (aa (cI.load bG ((BF 2 rfl)) ((be.ext hA1 BH).at_ (i:=0) rfl rfl))),fun e_ w_ BH BG BF=>dj.mono (dj.call sZ (aI ((BF 3 rfl))) (iw _ r (by omega))) fun v BJ hv=>⟨hv.1,cH.low hv.2 BH.size,dD fun b hb=>eU hv.2 hb⟩,fun e_ w_ BH BG BF=>aM rfl (aa (cI.fieldAddr bg (((BG 1 rfl).trans rfl)))),fun e_ w_ BH BG BF=>aM rfl (aa (cI.load bG ((BF 5 rfl)) ((be.ext hA1 BH).at_ (i:=0) rfl rfl))),fun e_ w_ BH BG BF=>dj.mono (dj.call sZ (aI ((BF 6 rfl))) (iw _ r (by omega))) fun v BJ hv=>⟨hv.1,cH.low hv.2 BH.size,dD fun b hb=>eU hv.2 hb⟩,trivial⟩ ?_;intro e1 w2 hx2 ho1 hf1 hp1;replace hX:=aF.trans hX hx2;have s4_e1:cH w2 (e1 4) w1.heap.size r c M (b0 + 1):=hf1 1 rfl;have s7_e1:cH w2 (e1 7) w1.heap.size r r dA 1:=hf1 4 rfl;have s10_e1:cH w2 (e1 10) w1.heap.size r r dA 1:=hf1 7 rfl;obtain ⟨hm,km,ρm,hqm,hMm⟩:=s4_e1;have hdm:=cD.dlim hMm;obtain ⟨hu,ku,ρu,hqu,hMu⟩:=s7_e1;have hdu:=cD.dlim hMu;obtain ⟨hv,kv,ρv,hqv,hMv⟩:=s10_e1;have hdv:=cD.dlim hMv;obtain ⟨nmu,dmu⟩:=eQ hMm hMu (by rw [←hqm,←hqu];exact hp1 1 4 rfl rfl rfl rfl);obtain ⟨nmv,dmv⟩:=eQ hMm hMv (by rw [←hqm,←hqv];exact hp1 1 7 rfl rfl rfl rfl);obtain ⟨nuv,duv⟩:=eQ hMu hMv (by rw [←hqu,←hqv];exact hp1 4 7 rfl rfl rfl rfl);refine RL.p rfl rfl (cI.build (vs:= [(0,.agg #[.int .i64 ((r:Nat)),.int .i64 ((c:Nat)),.slice (some ⟨hm,0,none⟩) (r) (km)]),(1,.agg #[.int .i64 ((r:Nat)),.int .i64 ((r:Nat)),.slice (some ⟨hu,0,none⟩) (r) (ku)]),(2,.agg #[.int .i64 ((r:Nat)),.int .i64 ((r:Nat)),.slice (some ⟨hv,0,none⟩) (r) (kv)])]) [(0,3),(3,3),(6,3)] zM zK (eC hqm hqu hqv) (jY rfl)) ?_;refine RL.x rfl rfl (dj.box [.int .i64 ((r:Nat)),.int .i64 ((c:Nat)),.slice (some ⟨hm,0,none⟩) (r) (km),.int .i64 ((r:Nat)),.int .i64 ((r:Nat)),.slice (some ⟨hu,0,none⟩) (r) (ku),.int .i64 ((r:Nat)),.int .i64 ((r:Nat)),.slice (some ⟨hv,0,none⟩) (r) (kv)] rfl rfl) ?_;rintro _ w3 ⟨gw,rfl,hge2,hx3,hA2⟩;have hbs2:w.heap.size≤gw:=Nat.le_trans hX.size hge2;replace hMm:=cD.ext hMm hx3;replace hMu:=cD.ext hMu hx3;replace hMv:=cD.ext hMv hx3;replace hX:=aF.trans hX hx3;refine RL.p rfl rfl (cI.assign rfl) ?_;refine RL.nil ?_;refine WP.ret ?_;refine ⟨.pointer (some ⟨gw,0,none⟩),Bb.one (ge.tmp rfl),_,rfl,hX,?_⟩;dsimp only;rw [←hBe];exact ⟨gw,rfl,hm,hu,hv,km,ku,kv,ρm,ρu,ρv,(by rw [hBe];exact hbs2),hA2,cD.up (cD.low hMm hX1s) (by omega) (by omega),cD.up (cD.low hMu hX1s) (by omega) (by omega),cD.up (cD.low hMv hX1s) (by omega) (by omega),nmu,nmv,nuv,dmu,dmv,duv⟩
end Go.TL
namespace Go.TL
open Go.RowKit
set_option linter.unusedVariables false
def pM (l:List Oper) (i:Nat):Bool:=match l[i]? with
  | none=>false
  | some oi=>(List.range l.length).all fun j=>Nat.ble j i || match l[j]? with
      | some oj=>oj.after.any (fun e=>Region.binds .any e&&e.on==i) || oi.apart l.toArray oj
      | none=>true
theorem sF {l:List Oper} {i:Nat} {o:Oper} {listed:Array Bool} (h:pM l i=true) (hl:∀k,k<i→listed.getD k false=true) (ho:l[i]? =some o):Region.free .any l.toArray listed i=true:=by
  simp only [pM,ho,List.all_eq_true,List.mem_range] at h;have ho2:l.toArray[i]? =some o:=by simpa using ho
  simp only [Region.free,ho2,List.all_eq_true,List.mem_range,List.size_toArray];intro j hj;have h1:=h j hj
  by_cases hji:j=i
  · subst hji;simp
  · by_cases hlt:j<i
    · have:=hl j hlt
      have h2:=ni this;rw [getD_eq h2 true false,this];simp
    · simp only [Bool.or_eq_true] at h1⊢
      rcases h1 with h1 | h1
      · have:=Nat.le_of_ble_eq_true h1;omega
      · right
        have hoj:l.toArray[j]? =l[j]? :=by simp
        rw [hoj];exact h1
def pZ (P:Program) (l:List Oper) (n:Nat) (Φ:List ck) (A:Apart Φ) (e0:ct) (w0:World) (j:Nat):Prop:=
  ∃o,l[j]? =some o∧o.guard=none∧pM l j=true∧(∀k,A.ap j k=false)∧
    ∀e' w',aF w0 w'→(∀t,dY l n t=false→e' t=e0 t)→(∀k,fW o k=true→cb Φ k (e' (aW l k)) w')→∃v,(∀w2,cI P o e' w2 v)∧cb Φ j v w'
section
variable {P:Program} {N:Nat} {Q:Exit→Act→World→Prop} {l:List Oper}
theorem oB {n:Nat} {tk:Nat→Bool} (G:Good N n l tk) {Φ:List ck} {A:Apart Φ} {e0:ct} {w0 w w':World} (hmono:ei Φ) {listed:Array Bool} {a:Act} {e':ct} {i:Nat} {o:Oper} {v:Value}
    (M:Mid N n l (fun _=>false) Φ A e0 w0 listed a w) (hin:i<n) (ho':l[i]? =some o) (hafter:∀e∈o.after,Region.binds .any e=true→listed.getD e.on false=true)
    (he:IsE N a e') (hother:∀t,dY l n t=false→e' t=e0 t) (hf:∀i,i<n→listed.getD i false=true→cb Φ i (e' (aW l i)) w)
    (happ:∀i j,i<n→j<n→i≠j→listed.getD i false=true→listed.getD j false=true→A.disj l i j e' w)
    (hext:aF w w') (hφv:cb Φ i v w') (hfresh:A.fresh l o i e' w v w'):Mid N n l (fun _=>false) Φ A e0 w0 (listed.setIfInBounds i true) (a.put o.dst v) w':=by
  obtain ⟨d,hd,hdN,hdist,hguard⟩:=G.dst i o hin ho';have hdi:aW l i=d:=by simp [aW,ho',hd]
  have hedge:∀j,fW o j=true→listed.getD j false=true∧j<n:=by
    intro j hj;simp only [fW,List.any_eq_true,Bool.and_eq_true] at hj;obtain ⟨x,hx,hxj,hxb⟩:=hj;have hx':x∈o.after:=Array.mem_def.2 hx;have hxe:x.on=j:=Nat.eq_of_beq_eq_true hxj;subst hxe;exact ⟨hafter x hx' hxb,Nat.lt_trans (G.back i o ho' x hx' hxb) hin⟩
  have hkd:∀k,k<n→k≠i→aW l k≠d:=by
    intro k hk hki;rcases Nat.lt_trichotomy k i with h | h | h
    · exact hdist k h
    · exact absurd h hki
    · intro heq
      have hkl:k<l.length:=Nat.lt_of_lt_of_le hk G.le;obtain ⟨d2,hd2,_,hdist2,_⟩:=G.dst k l[k] hk (List.getElem?_eq_getElem hkl);have:aW l k=d2:=by simp [aW,hkl,hd2]
      rw [heq] at this;exact hdist2 i h (by rw [hdi];exact this)
  have hval:∀k,k<n→k≠i→dV e' o.dst v (aW l k)=e' (aW l k):=by
    intro k hk hki;simp only [hd,dV];exact cG _ _ _ _ (hkd k hk hki)
  have hvi:dV e' o.dst v (aW l i)=v:=by rw [hdi];simp only [hd,dV,bV]
  refine ⟨by simp [M.size],?_,?_,(fun j hj=>by cases hj),aF.trans M.ext hext,dV e' o.dst v,he.put (by simp [hd,fK,Nat.blt_eq,hdN]) v,?_,?_,?_⟩
  · intro k ok hk hlk e hke hb
    by_cases hki:k=i
    · subst hki
      rw [ho'] at hk;injection hk with hk;subst hk;exact getD_set_true (hafter e hke hb)
    · rw [getD_set_ne false (Ne.symm hki)] at hlk
      exact getD_set_true (M.closed k ok hk hlk e hke hb)
  · intro j hj hjl
    rw [getD_set_ne true (by omega)];exact M.late j hj hjl
  · intro t ht
    simp only [hd,dV];rw [cG _ _ _ _ (fq ht hin ho' hd)];exact hother t ht
  · intro k hk hlk
    by_cases hki:k=i
    · subst hki
      rw [hdi];simp only [hd,dV,bV];exact hφv
    · rw [getD_set_ne false (Ne.symm hki)] at hlk
      rw [hval k hk hki];have:=hf k hk hlk
      unfold cb at this⊢
      split
      · rename_i φk hφk
        rw [hφk] at this;exact ei.at_ hmono k φk hφk _ _ _ this hext
      · trivial
  · have old:∀k k',k<n→k≠i→listed.getD k false=true→A.ap k k'=true→∀b,A.own k (e' (aW l k)) w' b→A.own k (e' (aW l k)) w b∧b<w.heap.size:=fun k k' hk _ hlk hfk b hb=>
      ⟨A.keep k k' _ _ _ b hfk (hf k hk hlk) hext hb,A.low k k' _ _ b hfk (hf k hk hlk) (A.keep k k' _ _ _ b hfk (hf k hk hlk) hext hb)⟩
    have key:∀j,j<n→j≠i→listed.getD j false=true→A.ap i j=true→∀b,A.own i v w' b→¬A.own j (e' (aW l j)) w' b:=by
      intro j hj hji hlj hap b h1 h2;have h3:=old j i hj hji hlj (A.symm i j hap) b h2;rcases hfresh with h4 | h4 | ⟨k,hk1,hk2,hk3⟩
      · rw [h4 j] at hap;cases hap
      · have:=h4 b h1;omega
      · obtain ⟨h5,h6⟩:=hk2 j hap
        obtain ⟨h7,h8⟩:=hedge k hk1;exact happ k j h8 hj (Ne.symm h6) h7 hlj h5 b (hk3 b h1) h3.1
    intro k j hk hj hkj hlk hlj hap b
    by_cases hki:k=i
    · have hji:j≠i:=fun h=>hkj (hki.trans h.symm)
      rw [getD_set_ne false (Ne.symm hji)] at hlj;rw [hval j hj hji];subst hki;rw [hvi];exact key j hj hji hlj hap b
    · rw [getD_set_ne false (Ne.symm hki)] at hlk
      rw [hval k hk hki]
      by_cases hji:j=i
      · subst hji
        rw [hvi];intro h1 h2;exact key k hk hki hlk (A.symm k j hap) b h2 h1
      · rw [getD_set_ne false (Ne.symm hji)] at hlj
        rw [hval j hj hji];intro h1 h2;exact happ k j hk hj hkj hlk hlj hap b (old k j hk hki hlk hap b h1).1 (old j k hj hji hlj (A.symm k j hap) b h2).1
theorem ud {n:Nat} {tk:Nat→Bool} (G:Good N n l tk) {Φ:List ck} {A:Apart Φ} {e0:ct} {w0:World} (hlen:Φ.length=n) (hmono:ei Φ) (hob:fy P l n Φ A e0 w0 0 l Φ) (hs:Region.noSelect l.toArray=true) (hQ:∀c a w,¬Q (.panic c) a w) (hlt:∀j,tk j=true→pZ P l n Φ A e0 w0 j)
    (htail:∀a e' w',IsE N a e'→aF w0 w'→(∀t,dY l n t=false→e' t=e0 t)→(∀i,i<n→cb Φ i (e' (aW l i)) w')→
      (∀i j,i<n→j<n→i≠j→A.disj l i j e' w')→wpList P l.toArray Q (l.drop n) a w'):
    ∀(fuel:Nat) (listed:Array Bool) (a:Act) (w:World),Mid N n l (fun _=>false) Φ A e0 w0 listed a w→listed.toList.count false≤fuel→wpAny P .any l.toArray Q fuel listed a w:=by
  intro fuel
  induction fuel with
  | zero=>
    intro listed a w M hc;have hall:∀j,j<l.length→listed.getD j false=true:=by
      intro j hj;have hj':j<listed.size:=by rw [M.size];exact hj
      cases hb:listed.getD j false with
      | true=>rfl
      | false=>
        have:(false:Bool)∈listed.toList:=by
          have hx:listed.toList[j]'(by simpa using hj')=false:=by simpa [hj'] using hb
          exact hx▸List.getElem_mem _
        have:=List.count_pos_iff.2 this;omega
    have hnl:n=l.length:=by
      rcases Nat.lt_or_ge n l.length with h | h
      · have h1:=M.late n (Nat.le_refl _) h
        rw [getD_eq (by rw [M.size];exact h) true false,hall n h] at h1;cases h1
      · have:=G.le;omega
    obtain ⟨e',he,hother,hf,hd⟩:=M.env;have h1:=htail a e' w he M.ext hother (fun i hi=>hf i hi (hall i (by omega))) (fun i j hi hj hne=>hd i j hi hj hne (hall i (by omega)) (hall j (by omega)));exact iL G 0 n listed a w (Nat.le_refl _) G.le M.size (fun j hj=>hall j (by omega)) M.late (by omega) h1
  | succ fuel ih=>
    intro listed a w M hc
    by_cases hall:∀j,j<n→listed.getD j false=true
    · obtain ⟨e',he,hother,hf,hd⟩:=M.env
      have h1:=htail a e' w he M.ext hother (fun i hi=>hf i hi (hall i hi)) (fun i j hi hj hne=>hd i j hi hj hne (hall i hi) (hall j hj));refine iL G (fuel + 1) n listed a w (Nat.le_refl _) G.le M.size hall M.late ?_ h1;have key:∀m,m≤l.length→n≤m→(listed.toList.drop n).take (m - n)=List.replicate (m - n) false:=by
        intro m hm hnm
        apply List.ext_getElem?
        intro k
        by_cases hk:k<m - n
        · have hkl:n + k<listed.size:=by rw [M.size];omega
          rw [List.getElem?_take,if_pos hk,List.getElem?_drop,List.getElem?_replicate,if_pos hk];have:=M.late (n + k) (by omega) (by omega);simp only [Array.getD_eq_getD_getElem?] at this;rw [Array.getElem?_eq_getElem hkl] at this;simp only [Option.getD_some] at this;rw [Array.getElem?_toList,Array.getElem?_eq_getElem hkl,this]
        · rw [List.getElem?_eq_none (by simp;omega),List.getElem?_eq_none (by simp;omega)]
      have h2:=key l.length (Nat.le_refl _) G.le;have h3:(listed.toList.drop n).take (l.length - n)=listed.toList.drop n:=List.take_of_length_le (by simp [M.size]);have h4:listed.toList.count false=(listed.toList.take n).count false + (listed.toList.drop n).count false:=by
        rw [←List.count_append,List.take_append_drop]
      rw [h3] at h2;rw [h2,List.count_replicate_self] at h4;omega
    · have hex:∃j,j<n∧listed.getD j false=false:=by
        apply Classical.byContradiction
        intro hno
        apply hall
        intro j hj;cases hb:listed.getD j false with
        | true=>rfl
        | false=>exact absurd ⟨j,hj,hb⟩ hno
      have hmin:∃j,j<n∧listed.getD j false=false∧∀k,k<j→listed.getD k false=true:=by
        obtain ⟨j,hj,hb⟩:=hex
        induction j using Nat.strongRecOn with
        | _ j ihj=>
          by_cases hk:∃k,k<j∧listed.getD k false=false
          · obtain ⟨k,hkj,hkb⟩:=hk
            exact ihj k hkj (by omega) hkb
          · refine ⟨j,hj,hb,fun k hkj=> ?_⟩
            cases hbk:listed.getD k false with
            | true=>rfl
            | false=>exact absurd ⟨k,hkj,hbk⟩ hk
      obtain ⟨j0,hj0,hj0b,hj0k⟩:=hmin;have hj0l:j0<l.length:=Nat.lt_of_lt_of_le hj0 G.le;have hready0:j0∈Region.ready .any l.toArray listed:=by
        refine mem_ready.2 ⟨by rw [getD_eq (by rw [M.size];exact hj0l) true false];exact hj0b,l[j0],by simp [hj0l],fun e he hbe=>hj0k _ ?_⟩;exact G.back j0 _ (List.getElem?_eq_getElem hj0l) e he hbe
      by_cases htk:tk j0=true
      · obtain ⟨o,ho',hg0,hfr,hap0,hlo⟩:=hlt j0 htk
        obtain ⟨e',he,hother,hf,happ⟩:=M.env;have hpre:∀k,fW o k=true→cb Φ k (e' (aW l k)) w:=fun k hk=>by
          simp only [fW,List.any_eq_true,Bool.and_eq_true] at hk;obtain ⟨x,hx,hxj,hxb⟩:=hk;have hxe:x.on=k:=Nat.eq_of_beq_eq_true hxj;subst hxe;have hlt0:=G.back j0 o ho' x (Array.mem_def.2 hx) hxb;exact hf _ (Nat.lt_trans hlt0 hj0) (hj0k _ hlt0)
        obtain ⟨v,hv,hφ⟩:=hlo e' w M.ext hother hpre;have hj0s:j0<listed.size:=by rw [M.size];exact hj0l
        have hcnt:=dE hj0s (by rw [getD_eq hj0s true false];exact hj0b);refine wpAny_take (by simpa using ho') hs (sF hfr hj0k ho') (by rw [List.contains_iff_mem];exact hready0) (fun c a w h=>absurd h (hQ c _ w)) (.inl ⟨by simp only [Region.wanted];rw [hg0],fun w2=>by have:=hv w2;unfold cI at this;rw [he.eval];exact this⟩) ?_;exact ih _ _ _ (oB G hmono M hj0 ho' (fun e hm hb=>hj0k _ (G.back j0 o ho' e hm hb)) he hother hf happ (aF.refl w) hφ (.inl hap0)) (by omega)
      refine ⟨fun hnil=>(by rw [hnil] at hready0;cases hready0),fun i hi=> ?_⟩;obtain ⟨hi0,o,ho,hafter⟩:=mem_ready.1 hi;have ho':l[i]? =some o:=by simpa using ho
      have hil:i<l.length:=(List.getElem?_eq_some_iff.1 ho').1;have hisz:i<listed.size:=by rw [M.size];exact hil
      have hin:i<n:=by
        rcases Nat.lt_or_ge i n with h | h
        · exact h
        · have ha:Anc l i j0:=(G.tail i h hil j0 (by omega)).elim id fun h=>absurd h htk
          have:=iA M.closed ha (fun o2 ho2 e he hb=>by rw [ho'] at ho2;injection ho2 with ho2;subst ho2;exact hafter e he hb);rw [hj0b] at this;cases this
      obtain ⟨e',he,hother,hf,happ⟩:=M.env;obtain ⟨d,hd,hdN,hdist,hguard⟩:=G.dst i o hin ho';obtain ⟨φ,hφ⟩:∃φ,Φ[i]? =some φ:=⟨Φ[i]'(by omega),List.getElem?_eq_getElem (by omega)⟩
      have hdi:aW l i=d:=by simp [aW,ho',hd]
      have hedge:∀j,fW o j=true→listed.getD j false=true∧j<n:=by
        intro j hj;simp only [fW,List.any_eq_true,Bool.and_eq_true] at hj;obtain ⟨x,hx,hxj,hxb⟩:=hj;have hx':x∈o.after:=Array.mem_def.2 hx;have hxe:x.on=j:=Nat.eq_of_beq_eq_true hxj;subst hxe;exact ⟨hafter x hx' hxb,Nat.lt_trans (G.back i o ho' x hx' hxb) hin⟩
      have hob':=fy.at_ hob i o φ ho' hφ;rw [Nat.zero_add] at hob';have H:=hob' e' w M.ext hother (fun j hj=>hf j (hedge j hj).2 (hedge j hj).1);have hφa:∀v w',φ v w'→cb Φ i v w':=fun v w' h=>by simp only [cb,hφ];exact h
      have next:∀v w',aF w w'→φ v w'→A.fresh l o i e' w v w'→Mid N n l (fun _=>false) Φ A e0 w0 (listed.setIfInBounds i true) (a.put o.dst v) w':=fun v w' h1 h2 h3=>
        oB G hmono M hin ho' hafter he hother hf happ h1 (hφa v w' h2) h3
      have hcnt:=dE hisz hi0
      unfold wpOp
      rw [ho];simp only;cases hg:o.guard with
      | none=>
        rw [hg] at H;simp only at H;rw [if_pos (by simp [Region.wanted,hg])];exact .inl (H a he.eval _ _ fun v w' hv=>ih _ _ _ (next v w' hv.1 hv.2.1 hv.2.2) (by omega))
      | some gw=>
        obtain ⟨g,want⟩:=gw;rw [hg] at H;simp only at H;obtain ⟨hnf,H⟩:=H;have nofr:∀v w',A.fresh l o i e' w v w':=fun v w'=> .inl hnf
        obtain ⟨hge,hgn⟩:=hguard g want hg;have hgl:g<l.length:=Nat.lt_of_lt_of_le hgn G.le;obtain ⟨dg,hdg,hdgN,_,_⟩:=G.dst g l[g] hgn (List.getElem?_eq_getElem hgl);have hdgat:aW l g=dg:=by simp [aW,hgl,hdg]
        have hsz:dg<a.tmps.size:=by rw [he.size];exact hdgN
        rcases H with ⟨b,hb,hyes,hno⟩ | ⟨hu,hno⟩
        · have hy:yielded l.toArray a.tmps g=some b:=by
            have hgv:=he.get dg;rw [←hdgat,hb,hdgat] at hgv;have hgv':a.tmps[dg]? =some (.bool b):=by
              simp only [Array.getD_eq_getD_getElem?,Array.getElem?_eq_getElem hsz,Option.getD_some] at hgv;rw [Array.getElem?_eq_getElem hsz,hgv]
            unfold yielded
            simp [hgl,hdg,hgv']
          by_cases hbw:b=want
          · rw [if_pos (by simp [Region.wanted,hg,hy,hbw])]
            exact .inl (hyes hbw a he.eval _ _ fun v w' hv=>ih _ _ _ (next v w' hv.1 hv.2 (nofr v w')) (by omega))
          · rw [if_neg (by simp [Region.wanted,hg,hy,hbw])]
            exact ih _ _ _ (next undef w (aF.refl w) (hno (by cases b<;>cases want<;>simp_all)) (nofr undef w)) (by omega)
        · have hy:yielded l.toArray a.tmps g=none:=by
            have hgv:=he.get dg;rw [←hdgat,hu,hdgat] at hgv;have hgv':a.tmps[dg]? =some undef:=by
              simp only [Array.getD_eq_getD_getElem?,Array.getElem?_eq_getElem hsz,Option.getD_some] at hgv;rw [Array.getElem?_eq_getElem hsz,hgv]
            unfold yielded
            simp [hgl,hdg,hgv',undef]
          rw [if_neg (by simp [Region.wanted,hg,hy])];exact ih _ _ _ (next undef w (aF.refl w) hno (nofr undef w)) (by omega)
end
theorem zr {P:Program} {N:Nat} {Q:cZ} {e:ct} {w:World} {id:Nat} {l:List Oper} (hm:P.follows .mixedOrders=true) (n:Nat) (Φ:List ck) (A:Apart Φ) (ks:List Nat)
    (hs:Region.noSelect l.toArray=true) (hc:eA (fun j=>ks.contains j) N n l=true) (hlen:Φ.length=n) (hmono:ei Φ) (hob:fy P l n Φ A e w 0 l Φ) (hlt:∀j,j∈ks→pZ P l n Φ A e w j)
    (hkn:ks.all (fun k=>Nat.blt k n)=true)
    (htail:∀e' w',aF w w'→(∀t,dY l n t=false→e' t=e t)→(∀j,Nat.blt j n=true→cb Φ j (e' (aW l j)) w')→
      (∀i j,Nat.blt i n=true→Nat.blt j n=true→Nat.beq i j=false→A.disj l i j e' w')→
      RL P N l.toArray (fun e w=>Q .normal e w) (l.drop n) e' w'):WP P N (.region id l.toArray true) Q e w:=by
  intro a ha;have htk:∀j,(fun j=>ks.contains j) j=true→j<n:=fun j h=>by
    have h':j∈ks:=List.contains_iff_mem.1 h;have:=List.all_eq_true.1 hkn j h'
    simpa [Nat.blt_eq] using this
  have G:=ep (tk:=fun j=>ks.contains j) hc htk;refine Code.wp_mono (Q:=fun x a' w'=>x=Exit.normal∧∃e',IsE N a' e'∧Q x e' w') (fun x a' w' h=>h.2) ?_;refine wp_region_any hm ?_;simp only [List.size_toArray];have hrep:∀i,(Array.replicate l.length false).getD i false=false:=fun i=>by by_cases hi:i<l.length<;>simp [hi]
  refine ud (Q:=fun x a' w'=>x=Exit.normal∧∃e',IsE N a' e'∧Q x e' w') G hlen hmono hob hs (fun c a w h=>by cases h.1) (fun j hj=>hlt j (List.contains_iff_mem.1 hj)) ?_ _ _ _ _ ?_ ?_
  · intro a2 e' w' hae hext hoth hf hd
    exact htail e' w' hext hoth (fun j hj=>hf j (by simpa [Nat.blt_eq] using hj)) (fun i j hi hj hij=>hd i j (by simpa [Nat.blt_eq] using hi) (by simpa [Nat.blt_eq] using hj) (eo hij)) a2 _ hae fun _ e'' _ h1 h2=>⟨rfl,e'',h1,h2⟩
  · refine ⟨by simp,?_,?_,(fun _ h=>by cases h),⟨rfl,rfl,rfl,Nat.le_refl _,fun _ _=>rfl⟩,e,ha,fun _ _=>rfl,?_,?_⟩
    · intro i o _ h;rw [hrep] at h;cases h
    · intro j _ hj;simp [hj]
    · intro i _ h;rw [hrep] at h;cases h
    · intro i j _ _ _ h;rw [hrep] at h;cases h
  · simp
theorem sJ {P:Program} {N:Nat} {Q:cZ} {e:ct} {w:World} {id:Nat} {l:List Oper} {y:Code} (hm:P.follows .mixedOrders=true) (n:Nat) (Φ:List ck) (A:Apart Φ) (ks:List Nat)
    (hs:Region.noSelect l.toArray=true) (hc:eA (fun j=>ks.contains j) N n l=true) (hlen:Φ.length=n) (hmono:ei Φ) (hob:fy P l n Φ A e w 0 l Φ) (hlt:∀j,j∈ks→pZ P l n Φ A e w j)
    (hkn:ks.all (fun k=>Nat.blt k n)=true)
    (htail:∀e' w',aF w w'→(∀t,dY l n t=false→e' t=e t)→(∀j,Nat.blt j n=true→cb Φ j (e' (aW l j)) w')→
      (∀i j,Nat.blt i n=true→Nat.blt j n=true→Nat.beq i j=false→A.disj l i j e' w')→
      RL P N l.toArray (fun e w=>WP P N y Q e w) (l.drop n) e' w'):WP P N (.seq (.region id l.toArray true) y) Q e w:=
  WP.seq (zr hm n Φ A ks hs hc hlen hmono hob hlt hkn htail)
theorem AO {p:Nat→Prop} {a:Nat} (ha:p a):∀j,j∈ [a]→p j:=fun j h=>by
  rcases List.mem_cons.1 h with h | h
  · rw [h];exact ha
  · cases h
theorem AN {p:Nat→Prop} {a b:Nat} (ha:p a) (hb:p b):∀j,j∈ [a,b]→p j:=fun j h=>by
  rcases List.mem_cons.1 h with h | h
  · rw [h];exact ha
  · exact AO hb j h
def vx (w:World) (v:Value) (a c:Int) (b1 b2:Nat):Prop:=∃v1 v2,v= .tuple #[v1,v2,.int .i64 0]∧al w v1 (a/c) b1∧al w v2 (a % c) b2
theorem vx.ext {w w':World} {v:Value} {a c:Int} {b1 b2:Nat} (h:vx w v a c b1 b2) (hx:aF w w'):vx w' v a c b1 b2:=by
  obtain ⟨v1,v2,h1,h2,h3⟩:=h;exact ⟨v1,v2,h1,h2.ext hx,h3.ext hx⟩
theorem lF (a c:Int) (b1 b2:Nat):bP (fun v w=>vx w v a c b1 b2):=fun _ _ _ h hx=>h.ext hx
instance (a c:Int) (b1 b2:Nat):Nonempty (bP (fun v w=>vx w v a c b1 b2)):=⟨lF a c b1 b2⟩
section
variable {P:Program} {e:ct} {w:World} {d:Option Tmp} {ty:TypeId} {pos:String} {after:Array Edge} {gd:Option (Nat×Bool)} {x:Operand} {v:Value} {a c:Int} {b1 b2:Nat}
theorem xi (hx:ev e x=v) (h:vx w v a c b1 b2):dj P ⟨d,.extract x 0,ty,pos,after,gd⟩ e w (fun v' w'=>w=w'∧al w' v' (a/c) b1):=by
  obtain ⟨v1,v2,rfl,h2,h3⟩:=h;exact dm (φ:=fun v' w'=>al w' v' (a/c) b1) (cI.extract hx rfl) h2
theorem xh (hx:ev e x=v) (h:vx w v a c b1 b2):dj P ⟨d,.extract x 1,ty,pos,after,gd⟩ e w (fun v' w'=>w=w'∧al w' v' (a % c) b2):=by
  obtain ⟨v1,v2,rfl,h2,h3⟩:=h;exact dm (φ:=fun v' w'=>al w' v' (a % c) b2) (cI.extract hx rfl) h3
theorem xj (hx:ev e x=v) (h:vx w v a c b1 b2):cI P ⟨d,.extract x 2,ty,pos,after,gd⟩ e w (.int .i64 0):=by
  obtain ⟨v1,v2,rfl,h2,h3⟩:=h;exact cI.extract hx rfl
theorem uU (hx:ev e x=v) (h:vx w v a c b1 b2):∃u,(∀w2,cI P ⟨d,.extract x 1,ty,pos,after,gd⟩ e w2 u)∧al w u (a % c) b2:=by
  obtain ⟨v1,v2,rfl,h2,h3⟩:=h;exact ⟨v2,fun w2=>cI.extract hx rfl,h3⟩
theorem uT (hx:ev e x=v) (h:vx w v a c b1 b2):∃u,(∀w2,cI P ⟨d,.extract x 2,ty,pos,after,gd⟩ e w2 u)∧u= .int .i64 0:=by
  obtain ⟨v1,v2,rfl,h2,h3⟩:=h;exact ⟨_,fun w2=>cI.extract hx rfl,rfl⟩
end
end Go.TL
namespace Go.TL
open Go.RowKit Go.Proofs
set_option linter.unusedVariables false
set_option linter.unusedSimpArgs false
set_option maxRecDepth 10000 in
set_option maxHeartbeats 1600000 in
theorem yR (w:World) (x:Value) (r c:Nat) (M:Nat→Nat→Int) (b0 b:Nat) (F:Nat→Nat→WS→Prop) (J:Nat→Nat→Nat→WS→Prop) (hx:cc w x r c M b0) (hb0:b0 + 1≤b) (hb:2*b + 300≤br) (hF0:F 0 0 ⟨M,dA,dA⟩) (hstart:∀top q S,top<r→q<c→F top q S→J top q (top + 1) S) (hfit:∀top q i S,top<i→i<r→q<c→J top q i S→S.M i q≠0→S.M top q≠0→jo r c b (cU S top i (-(S.M top q/S.M i q)))) (hnext1:∀top q i S,top<i→i<r→q<c→J top q i S→S.M i q≠0→S.M top q≠0→J top q i (lK S top i q)) (hnext0:∀top q i S,top<i→i<r→q<c→J top q i S→S.M i q≠0→S.M top q=0→J top q i (bQ S top i)) (hdone:∀top q i S,top<i→i<r→q<c→J top q i S→S.M i q=0→J top q (i + 1) S) (hno:∀top q S,top<r→q<c→J top q r S→S.M top q=0→F top (q + 1) S) (hra:∀top q S,top<r→q<c→J top q r S→S.M top q≠0→(∀n,n<top→jo r c b (ra (sg S top q) top q (n + 1)))∧F (top + 1) (q + 1) (ra (sg S top q) top q top)):Calls Tryz.prog 14 #[x] w (ci w fun v w'=>∃top q S,F top q S∧(c≤q∨r≤top)∧top≤r∧q≤c∧jn w' v r c S b):=by
 have hLIM:br=562949953421312:=rfl;obtain ⟨sx,rfl,hr,hc,hSx⟩:=hx.form;have hwr:w.heap.size≤w.heap.size:=Nat.le_refl _;refine ak (N:=173) (rs:= #[.cell 2 31]) Tryz.func14 rfl rfl rfl (Nat.le_of_ble_eq_true rfl) ?_;have hX:aF w w:=aF.refl w;refine ab ?_;refine RL.x rfl rfl (dj.box [.int .i64 ((r:Nat)),.int .i64 ((c:Nat)),sx] rfl rfl) ?_;rintro _ w1 ⟨g1,rfl,hge1,hx1,hA1⟩;replace hX:=aF.trans hX hx1;refine RL.x rfl rfl (dj.alloc [.int .i64 (0),.int .i64 (0),.slice (none) (0) (0),.int .i64 (0),.int .i64 (0),.slice (none) (0) (0),.int .i64 (0),.int .i64 (0),.slice (none) (0) (0)] ef rfl) ?_;rintro _ w2 ⟨g2,rfl,hge2,hx2,hA2⟩;have hbs2:w.heap.size≤g2:=Nat.le_trans hX.size hge2;replace hA1:=be.ext hA1 hx2;replace hX:=aF.trans hX hx2;refine RL.nil ?_;refine ab ?_;refine RL.p rfl rfl (af [.int .i64 ((r:Nat)),.int .i64 ((c:Nat)),sx] aR rfl (hA1.cells 0 _ rfl rfl)) ?_;refine RL.x rfl rfl (dj.call At (aI rfl) (vQ _ _ _ _ _ _ b (cc.mk (co.ext hSx hX) (by omega) (by omega)) (by omega) (by omega))) ?_;rintro _ w3 ⟨hx3,gw,rfl,hW⟩;obtain ⟨B,hBe⟩:∃B:Nat,B=w2.heap.size:=⟨_,rfl⟩
 rw [←hBe] at hW;have hBle:w.heap.size≤B:=by rw [hBe];exact hX.size
 replace hA1:=be.ext hA1 hx3;replace hA2:=be.ext hA2 hx3;replace hX:=aF.trans hX hx3;refine RL.p rfl rfl (cI.assign rfl) ?_;refine RL.nil ?_;refine ab ?_;refine RL.p rfl rfl (cI.assign rfl) ?_;refine RL.nil ?_;refine WP.seq ?_;refine ab ?_;refine RL.p rfl rfl (cI.assign rfl) ?_;refine RL.nil ?_;refine WP.block ?_;refine WP.loop (fun mz ez uz=>∃top:Nat,∃q:Nat,∃S:WS,(mz=c - q)∧(ez 1= .pointer (some ⟨g1,0,none⟩))∧(ez 2= .pointer (some ⟨g2,0,none⟩))∧(ez 3= .pointer (some ⟨gw,0,none⟩))∧(ez 4= .int .i64 ((top:Nat)))∧(ez 5= .int .i64 ((q:Nat)))∧(top≤r)∧(q≤c)∧(F top q S)∧(aF w uz)∧(be uz g1 28 3 (bS [.int .i64 ((r:Nat)),.int .i64 ((c:Nat)),sx]))∧(be uz g2 31 9 (bS [.int .i64 (0),.int .i64 (0),.slice (none) (0) (0),.int .i64 (0),.int .i64 (0),.slice (none) (0) (0),.int .i64 (0),.int .i64 (0),.slice (none) (0) (0)]))∧(bT 83 uz B gw r c (S).M (S).U (S).V b)) (c - 0) ?_ ?_
 · exact ⟨0,0,⟨M,dA,dA⟩,rfl,rfl,rfl,rfl,rfl,rfl,(by omega),(by omega),hF0,hX,hA1,hA2,hW⟩
 rintro m1 e1 w4 ⟨top,q,S,hm1,s1_e1,s2_e1,s3_e1,s4_e1,s5_e1,htop,hq,hF,hX1,hA1,hA2,hW⟩;refine WP.seq ?_;refine aK am 10 [_,_,_,_,fun v BI=>v= .bool (decide (((q:Nat):Int)<((c:Nat):Int))),_,_,_,_,_] rfl rfl (fun e_ w_ BH BG=>⟨fun _=>aa (cI.move ((BG 5 rfl s5_e1))),fun _=>aa (cI.fieldAddr bE ((BG 1 rfl s1_e1))),fun BF=>aa (cI.load bG ((BF 1 rfl)) ((be.ext hA1 BH).at_ (i:=1) rfl rfl)),fun BF=>aa (cI.lss ((BF 0 rfl)) ((BF 2 rfl))),fun BF=>aa (cI.move ((BF 3 rfl))),fun BF=>gT (BF 4 rfl) fun hg=>aa (cI.move ((BG 4 rfl s4_e1))),fun BF=>gT (BF 4 rfl) fun hg=>aa (cI.fieldAddr bg ((BG 1 rfl s1_e1))),fun BF=>gT (BF 4 rfl) fun hg=>aa (cI.load bG ((BF 6 rfl hg)) ((be.ext hA1 BH).at_ (i:=0) rfl rfl)),fun BF=>gT (BF 4 rfl) fun hg=>aa (cI.lss ((BF 5 rfl hg)) ((BF 7 rfl hg))),fun BF=>aa (ay (p:=((q:Nat):Int)<((c:Nat):Int)) (q:=((top:Nat):Int)<((r:Nat):Int)) (BF 4 rfl) (fun hq=>(BF 8 rfl hq))),trivial⟩) ?_;intro e2 w5 hx4 ho1 hf1;replace hA1:=be.ext hA1 hx4;replace hA2:=be.ext hA2 hx4;replace hW:=bT.ext hW hx4;replace hX1:=aF.trans hX1 hx4;have s1_e2:=ho1 1 rfl s1_e1;have s2_e2:=ho1 2 rfl s2_e1;have s3_e2:=ho1 3 rfl s3_e1;have s4_e2:=ho1 4 rfl s4_e1;have s5_e2:=ho1 5 rfl s5_e1;have s22_e2:e2 22=_:=hf1 9 rfl;refine RL.nil ?_;refine ag ((((q:Nat):Int)<((c:Nat):Int))∧(((top:Nat):Int)<((r:Nat):Int))) s22_e2 (fun c22=> ?_) (fun c22=> ?_)
 ·
  refine WP.skip ?_;refine pR.norm ?_;refine WP.seq ?_;refine WP.block ?_;refine WP.seq ?_;refine ab ?_;refine RL.p rfl rfl (cI.move s4_e2) ?_;refine RL.p rfl rfl (cI.add (c:=((top + 1:Nat):Int)) rfl rfl (bU (by omega))) ?_;refine RL.p rfl rfl (cI.assign rfl) ?_;refine RL.nil ?_;refine WP.block ?_;refine WP.loop (fun mz ez uz=>∃i:Nat,∃T:WS,(mz=r - i)∧(ez 1= .pointer (some ⟨g1,0,none⟩))∧(ez 2= .pointer (some ⟨g2,0,none⟩))∧(ez 3= .pointer (some ⟨gw,0,none⟩))∧(ez 4= .int .i64 ((top:Nat)))∧(ez 5= .int .i64 ((q:Nat)))∧(ez 6= .int .i64 ((i:Nat)))∧(top + 1≤i)∧(i≤r)∧(J top q i T)∧(aF w uz)∧(be uz g1 28 3 (bS [.int .i64 ((r:Nat)),.int .i64 ((c:Nat)),sx]))∧(be uz g2 31 9 (bS [.int .i64 (0),.int .i64 (0),.slice (none) (0) (0),.int .i64 (0),.int .i64 (0),.slice (none) (0) (0),.int .i64 (0),.int .i64 (0),.slice (none) (0) (0)]))∧(bT 83 uz B gw r c (T).M (T).U (T).V b)) (r - (top + 1)) ?_ ?_
  · exact ⟨top + 1,S,rfl,s1_e2,s2_e2,s3_e2,s4_e2,s5_e2,rfl,(by omega),(by omega),(hstart top q S (by omega) (by omega) hF),hX1,hA1,hA2,hW⟩
  rintro m2 e3 w6 ⟨i,T,hm2,s1_e3,s2_e3,s3_e3,s4_e3,s5_e3,s6_e3,hi,hir,hJ,hX2,hA1,hA2,hW⟩;refine WP.seq ?_;refine ab ?_;refine RL.p rfl rfl (cI.move s6_e3) ?_;refine RL.p rfl rfl (cI.fieldAddr bg s1_e3) ?_;refine RL.p rfl rfl (cI.load bG rfl (hA1.at_ (i:=0) rfl rfl)) ?_;refine RL.p rfl rfl (cI.lss rfl rfl) ?_;refine RL.nil ?_;refine ag (((i:Nat):Int)<((r:Nat):Int)) rfl (fun c30=> ?_) (fun c30=> ?_)
  ·
   refine WP.skip ?_;refine pR.norm ?_;refine WP.seq ?_;refine WP.block ?_;refine WP.block ?_;refine WP.loop (fun mz ez uz=>∃Y:WS,(mz=(Y.M i q).natAbs)∧(ez 1= .pointer (some ⟨g1,0,none⟩))∧(ez 2= .pointer (some ⟨g2,0,none⟩))∧(ez 3= .pointer (some ⟨gw,0,none⟩))∧(ez 4= .int .i64 ((top:Nat)))∧(ez 5= .int .i64 ((q:Nat)))∧(ez 6= .int .i64 ((i:Nat)))∧(J top q i Y)∧(aF w uz)∧(be uz g1 28 3 (bS [.int .i64 ((r:Nat)),.int .i64 ((c:Nat)),sx]))∧(be uz g2 31 9 (bS [.int .i64 (0),.int .i64 (0),.slice (none) (0) (0),.int .i64 (0),.int .i64 (0),.slice (none) (0) (0),.int .i64 (0),.int .i64 (0),.slice (none) (0) (0)]))∧(bT 83 uz B gw r c (Y).M (Y).U (Y).V b)) ((T.M i q).natAbs) ?_ ?_
   · exact ⟨T,rfl,s1_e3,s2_e3,s3_e3,s4_e3,s5_e3,s6_e3,hJ,hX2,hA1,hA2,hW⟩
   rintro m3 e4 w7 ⟨Y,hm3,s1_e4,s2_e4,s3_e4,s4_e4,s5_e4,s6_e4,hJ2,hX3,hA1,hA2,hW⟩;refine WP.seq ?_;have hWc:=hW;obtain ⟨hm_1,hu_1,hv_1,km_1,ku_1,kv_1,ρm_1,ρu_1,ρv_1,_,hG_1,hMm_1,hMu_1,hMv_1,_⟩:=hWc;have hdm_1:=cD.dlim hMm_1;have hcm_1:=cD.clim hMm_1
   skip
   refine ab ?_;refine RL.p rfl rfl (cI.move s3_e4) ?_;refine RL.p rfl rfl (cI.nilCheck rfl) ?_;refine RL.p rfl rfl (cI.fieldAddr cP rfl) ?_;refine RL.p rfl rfl (cI.fieldAddr aq rfl) ?_;refine RL.p rfl rfl (cI.load aH rfl (hG_1.at_ (i:=2) rfl rfl)) ?_;refine RL.p rfl rfl (cI.move s6_e4) ?_;refine RL.p rfl rfl (cI.index (j:=i) aB rfl rfl rfl (by omega) (by omega)) ?_;refine RL.x rfl rfl (an (i:=i) aU rfl hMm_1 (by omega)) ?_;rintro v1 _ ⟨rfl,q1⟩;refine RL.p rfl rfl (cI.move s5_e4) ?_;refine RL.p rfl rfl (av (j:=q) bi (bF q1 w7) rfl rfl (by omega) (by omega)) ?_;refine RL.x rfl rfl (aP (j:=q) ao rfl (cD.row hMm_1 (by omega)) (by omega)) ?_;rintro v2 _ ⟨rfl,q2⟩;refine RL.x rfl rfl (dj.call io (aI rfl) (fD _ _ _ _ q2)) ?_;rintro _ w8 ⟨hx5,rfl⟩;replace hA1:=be.ext hA1 hx5;replace hA2:=be.ext hA2 hx5;replace hW:=bT.ext hW hx5;replace hX3:=aF.trans hX3 hx5;refine RL.p rfl rfl (cI.neq rfl rfl) ?_;refine RL.nil ?_;refine ag (((((Y).M) i q:Int).sign:Int)≠(0:Int)) rfl (fun c45=> ?_) (fun c45=> ?_)
   ·
    refine WP.skip ?_;refine pR.norm ?_;refine WP.block ?_;refine WP.seq ?_;have hWc:=hW;obtain ⟨hm_2,hu_2,hv_2,km_2,ku_2,kv_2,ρm_2,ρu_2,ρv_2,_,hG_2,hMm_2,hMu_2,hMv_2,_⟩:=hWc;have hdm_2:=cD.dlim hMm_2;have hcm_2:=cD.clim hMm_2;have hyz:Y.M i q≠0:=fun h=>c45 (Int.sign_eq_zero_iff_zero.2 h)
    refine ab ?_;refine RL.p rfl rfl (cI.move s3_e4) ?_;refine RL.p rfl rfl (cI.nilCheck rfl) ?_;refine RL.p rfl rfl (cI.fieldAddr cP rfl) ?_;refine RL.p rfl rfl (cI.fieldAddr aq rfl) ?_;refine RL.p rfl rfl (cI.load aH rfl (hG_2.at_ (i:=2) rfl rfl)) ?_;refine RL.p rfl rfl (cI.move s4_e4) ?_;refine RL.p rfl rfl (cI.index (j:=top) aB rfl rfl rfl (by omega) (by omega)) ?_;refine RL.x rfl rfl (an (i:=top) aU rfl hMm_2 (by omega)) ?_;rintro v3 _ ⟨rfl,q3⟩;refine RL.p rfl rfl (cI.move s5_e4) ?_;refine RL.p rfl rfl (av (j:=q) bi (bF q3 w8) rfl rfl (by omega) (by omega)) ?_;refine RL.x rfl rfl (aP (j:=q) ao rfl (cD.row hMm_2 (by omega)) (by omega)) ?_;rintro v4 _ ⟨rfl,q4⟩;refine RL.x rfl rfl (dj.call io (aI rfl) (fD _ _ _ _ q4)) ?_;rintro _ w9 ⟨hx6,rfl⟩;replace hA1:=be.ext hA1 hx6;replace hA2:=be.ext hA2 hx6;replace hW:=bT.ext hW hx6;replace hX3:=aF.trans hX3 hx6;refine RL.p rfl rfl (cI.neq rfl rfl) ?_;refine RL.nil ?_;refine ag (((((Y).M) top q:Int).sign:Int)≠(0:Int)) rfl (fun c58=> ?_) (fun c58=> ?_)
    ·
     have hWc:=hW;obtain ⟨hm_3,hu_3,hv_3,km_3,ku_3,kv_3,ρm_3,ρu_3,ρv_3,_,hG_3,hMm_3,hMu_3,hMv_3,_⟩:=hWc;have hdm_3:=cD.dlim hMm_3;have hcm_3:=cD.clim hMm_3;have hxz:Y.M top q≠0:=fun h=>c58 (Int.sign_eq_zero_iff_zero.2 h)
     have hXf:=hX3;have hXa1:=aF.refl w9
     skip
     refine sJ am 29 [_,_,_,_,_,_,_,_,_,_,_,_,_,_,_,_,_,_,_,_,_,_,fun v BI=>vx BI v (((Y).M) top q) (((Y).M) i q) b b,fun v BI=>vx BI v (((Y).M) top q) (((Y).M) i q) b b,fun v BI=>al BI v ((((Y).M) top q)/(((Y).M) i q)) b,fun v BI=>al BI v ((((Y).M) top q) % (((Y).M) i q)) b,_,fun v BI=>ij BI v w9.heap.size 49 ([.bool (false),.slice (none) (0) (0)]),fun v BI=>ij BI v w9.heap.size 49 ([.bool (false),.slice (none) (0) (0)])] (Apart.of (fun v _ b=>b=dl v) [(27,28)] rfl ⟨(fun h=>by cases h),(fun h=>by cases h),(fun h=>by cases h),(fun h=>by cases h),(fun h=>by cases h),(fun h=>by cases h),(fun h=>by cases h),(fun h=>by cases h),(fun h=>by cases h),(fun h=>by cases h),(fun h=>by cases h),(fun h=>by cases h),(fun h=>by cases h),(fun h=>by cases h),(fun h=>by cases h),(fun h=>by cases h),(fun h=>by cases h),(fun h=>by cases h),(fun h=>by cases h),(fun h=>by cases h),(fun h=>by cases h),(fun h=>by cases h),(fun h=>by cases h),(fun h=>by cases h),(fun h=>by cases h),(fun h=>by cases h),(fun h=>by cases h),(fun _=>iZ _ _ _),(fun _=>iZ _ _ _),trivial⟩) [25,26] (by kernel_rfl) (by kernel_rfl) rfl ⟨ac _,ac _,ac _,ac _,ac _,ac _,ac _,cm _ _,ac _,ac _,bD _ _,ac _,ac _,ac _,ac _,ac _,ac _,ac _,cm _ _,ac _,ac _,bD _ _,lF _ _ _ _,lF _ _ _ _,bD _ _,bD _ _,ac _,eP _ _ _,eP _ _ _,trivial⟩ ⟨fun e_ w_ BH BG BF=>aM rfl (aa (cI.move (((BG 3 rfl).trans s3_e4)))),fun e_ w_ BH BG BF=>aM rfl (aa (cI.nilCheck ((BF 0 rfl)))),fun e_ w_ BH BG BF=>aM rfl (aa (cI.fieldAddr cP ((BF 1 rfl)))),fun e_ w_ BH BG BF=>aM rfl (aa (cI.fieldAddr aq ((BF 2 rfl)))),fun e_ w_ BH BG BF=>aM rfl (aa (cI.load aH ((BF 3 rfl)) ((be.ext hG_3 BH).at_ (i:=2) rfl rfl))),fun e_ w_ BH BG BF=>aM rfl (aa (cI.move (((BG 4 rfl).trans s4_e4)))),fun e_ w_ BH BG BF=>aM rfl (aa (cI.index (j:=top) aB ((BF 4 rfl)) ((BF 5 rfl)) rfl (by omega) (by omega))),fun e_ w_ BH BG BF=>aM rfl (ah (an (i:=top) aU (BF 6 rfl) (cD.ext hMm_3 BH) (by omega))),fun e_ w_ BH BG BF=>aM rfl (aa (cI.move (((BG 5 rfl).trans s5_e4)))),fun e_ w_ BH BG BF=>aM rfl (aa (av (j:=q) bi (BF 7 rfl) rfl (BF 8 rfl) (by omega) (by omega))),fun e_ w_ BH BG BF=>aM rfl (ah (aP (j:=q) ao (BF 9 rfl) (cD.row (cD.ext hMm_3 BH) (by omega)) (by omega))),fun e_ w_ BH BG BF=>aM rfl (aa (cI.move (((BG 3 rfl).trans s3_e4)))),fun e_ w_ BH BG BF=>aM rfl (aa (cI.nilCheck ((BF 11 rfl)))),fun e_ w_ BH BG BF=>aM rfl (aa (cI.fieldAddr cP ((BF 12 rfl)))),fun e_ w_ BH BG BF=>aM rfl (aa (cI.fieldAddr aq ((BF 13 rfl)))),fun e_ w_ BH BG BF=>aM rfl (aa (cI.load aH ((BF 14 rfl)) ((be.ext hG_3 BH).at_ (i:=2) rfl rfl))),fun e_ w_ BH BG BF=>aM rfl (aa (cI.move (((BG 6 rfl).trans s6_e4)))),fun e_ w_ BH BG BF=>aM rfl (aa (cI.index (j:=i) aB ((BF 15 rfl)) ((BF 16 rfl)) rfl (by omega) (by omega))),fun e_ w_ BH BG BF=>aM rfl (ah (an (i:=i) aU (BF 17 rfl) (cD.ext hMm_3 BH) (by omega))),fun e_ w_ BH BG BF=>aM rfl (aa (cI.move (((BG 5 rfl).trans s5_e4)))),fun e_ w_ BH BG BF=>aM rfl (aa (av (j:=q) bi (BF 18 rfl) rfl (BF 19 rfl) (by omega) (by omega))),fun e_ w_ BH BG BF=>aM rfl (ah (aP (j:=q) ao (BF 20 rfl) (cD.row (cD.ext hMm_3 BH) (by omega)) (by omega))),fun e_ w_ BH BG BF=>aM rfl (dj.call xG (ax rfl rfl) (oq _ _ _ _ _ _ _ (BF 10 rfl) (BF 21 rfl) hyz (by omega))),fun e_ w_ BH BG BF=>aM rfl (mF ((BF 22 rfl))),fun e_ w_ BH BG BF=>aM rfl (ah (φ:=fun v BI=>al BI v ((((Y).M) top q)/(((Y).M) i q)) b) (xi rfl (BF 23 rfl))),fun e_ w_ BH BG BF=>aM rfl (ah (φ:=fun v BI=>al BI v ((((Y).M) top q) % (((Y).M) i q)) b) (xh rfl (BF 23 rfl))),fun e_ w_ BH BG BF=>aM rfl (aa (xj rfl (BF 23 rfl))),fun e_ w_ BH BG BF=>dj.mono (fm [.bool (false),.slice (none) (0) (0)] bH rfl BH.size) fun v BJ hv=>⟨hv.1,hv.2.1,dD fun b hb=>hb▸hv.2.2⟩,fun e_ w_ BH BG BF=>dj.mono (fm [.bool (false),.slice (none) (0) (0)] bH rfl BH.size) fun v BJ hv=>⟨hv.1,hv.2.1,dD fun b hb=>hb▸hv.2.2⟩,trivial⟩ (AN ⟨_,rfl,rfl,(by kernel_rfl),fw rfl,fun e_ w_ BH BG BF=>uU rfl (BF 23 rfl)⟩ ⟨_,rfl,rfl,(by kernel_rfl),fw rfl,fun e_ w_ BH BG BF=>uT rfl (BF 23 rfl)⟩) rfl ?_;intro e5 w10 hx7 ho2 hf2 hp1;replace hA1:=be.ext hA1 hx7;replace hA2:=be.ext hA2 hx7;replace hXa1:=aF.trans hXa1 hx7;replace hX3:=aF.trans hX3 hx7;have s1_e5:e5 1= .pointer (some ⟨g1,0,none⟩):=(ho2 1 rfl).trans s1_e4;have s2_e5:e5 2= .pointer (some ⟨g2,0,none⟩):=(ho2 2 rfl).trans s2_e4;have s3_e5:e5 3= .pointer (some ⟨gw,0,none⟩):=(ho2 3 rfl).trans s3_e4;have s4_e5:e5 4= .int .i64 ((top:Nat)):=(ho2 4 rfl).trans s4_e4;have s5_e5:e5 5= .int .i64 ((q:Nat)):=(ho2 5 rfl).trans s5_e4;have s6_e5:e5 6= .int .i64 ((i:Nat)):=(ho2 6 rfl).trans s6_e4;have s83_e5:al w10 (e5 83) ((((Y).M) top q)/(((Y).M) i q)) b:=hf2 24 rfl;have s84_e5:al w10 (e5 84) ((((Y).M) top q) % (((Y).M) i q)) b:=hf2 25 rfl;have s85_e5:e5 85=_:=hf2 26 rfl;have s7_e5:ij w10 (e5 7) w9.heap.size 49 ([.bool (false),.slice (none) (0) (0)]):=hf2 27 rfl;have s8_e5:ij w10 (e5 8) w9.heap.size 49 ([.bool (false),.slice (none) (0) (0)]):=hf2 28 rfl;obtain ⟨gd7,hvd7,hBd7,hAd7⟩:=s7_e5;obtain ⟨gd8,hvd8,hBd8,hAd8⟩:=s8_e5;have hned78:gd7≠gd8:=by
       have hd:=hp1 27 28 rfl rfl rfl rfl (dl (e5 7)) rfl;intro he
       apply hd
       show dl (e5 7)=dl (e5 8);rw [hvd7,hvd8];exact he
     have hbd7:w.heap.size≤gd7:=Nat.le_trans hXf.size hBd7;have hbd8:w.heap.size≤gd8:=Nat.le_trans hXf.size hBd8;obtain ⟨ca1,cb1,hq1,ho3,ho4⟩:=al.cells s83_e5;have qi1:al w10 (.agg #[ca1,cb1]) ((((Y).M) top q)/(((Y).M) i q)) b:=hq1▸s83_e5;refine RL.x rfl rfl (dj.store [ca1,cb1] aN hvd7 hq1 rfl hAd7 (Nat.le_of_ble_eq_true rfl) (bj ho3 ho4)) ?_;rintro _ w11 ⟨hk1,hnew⟩;replace hA1:=hA1.keep hk1 (hA1.ne hAd7 (by decide));replace hA2:=hA2.keep hk1 (hA2.ne hAd7 (by decide));replace hXa1:=hXa1.step hk1 (fun b e=>by subst e;exact hBd7);replace s84_e5:=ae s84_e5 hk1 hAd7 (by decide);replace hAd8:=hAd8.keep hk1 (Ne.symm hned78);replace qi1:=ae qi1 hk1 hAd7 (by decide);replace hX3:=hX3.step hk1 (fun b e=>by subst e;exact hbd7);replace hAd7:=hnew.lit [ca1,cb1] rfl;clear hnew;obtain ⟨ca2,cb2,hq2,ho5,ho6⟩:=al.cells s84_e5;refine RL.x rfl rfl (dj.store [ca2,cb2] aN hvd8 hq2 rfl hAd8 (Nat.le_of_ble_eq_true rfl) (bj ho5 ho6)) ?_;rintro _ w12 ⟨hk2,hnew⟩;replace hA1:=hA1.keep hk2 (hA1.ne hAd8 (by decide));replace hA2:=hA2.keep hk2 (hA2.ne hAd8 (by decide));replace hXa1:=hXa1.step hk2 (fun b e=>by subst e;exact hBd8);replace hAd7:=hAd7.keep hk2 hned78;replace qi1:=ae qi1 hk2 hAd8 (by decide);replace hX3:=hX3.step hk2 (fun b e=>by subst e;exact hbd8);clear hnew;refine RL.p rfl rfl (cI.assign s85_e5) ?_;refine RL.nil ?_;replace hW:=bT.ext hW hXa1;have hfitn:jo r c b (cU Y top i (-(Y.M top q/Y.M i q))):=hfit top q i Y (by omega) (by omega) (by omega) hJ2 hyz hxz;refine WP.region ?_;refine RL.p rfl rfl (cI.move s3_e5) ?_;refine RL.p rfl rfl (cI.move s4_e5) ?_;refine RL.p rfl rfl (cI.move s6_e5) ?_;refine RL.p rfl rfl (af [ca1,cb1] ao hvd7 (hAd7.cells 0 _ rfl rfl)) ?_;refine RL.x rfl rfl (dj.call kT (aI rfl) (ll _ _ _ _ qi1)) ?_;rintro v5 w13 ⟨hx8,q5⟩;replace hA1:=be.ext hA1 hx8;replace hA2:=be.ext hA2 hx8;replace hW:=bT.ext hW hx8;replace hX3:=aF.trans hX3 hx8;refine RL.x rfl rfl (cT xF (rl rfl rfl rfl rfl) (qA _ _ _ _ _ _ _ _ _ top i _ _ _ hW (by omega) (by omega) q5 (by omega) (by omega) (qZ hfitn (by omega)) (qY hfitn (by omega)) (qX hfitn (by omega)))) ?_;rintro _ w15 ⟨hk3,hN1⟩;replace hA1:=dz hA1 hk3 (by decide);replace hA2:=dz hA2 hk3 (by decide);replace hX3:=dW hX3 hk3 hBle;replace hW:bT 83 w15 B gw r c (cU Y top i (-((((Y).M) top q)/(((Y).M) i q)))).M (cU Y top i (-((((Y).M) top q)/(((Y).M) i q)))).U (cU Y top i (-((((Y).M) top q)/(((Y).M) i q)))).V b:=hN1;refine RL.nil ?_;refine pR.norm ?_;refine WP.region ?_;refine RL.p rfl rfl (cI.move s3_e5) ?_;refine RL.p rfl rfl (cI.move s4_e5) ?_;refine RL.p rfl rfl (cI.move s6_e5) ?_;refine RL.x rfl rfl (cT xE (cS rfl rfl rfl) (tM _ _ _ _ _ _ _ _ _ top i hW (by omega) (by omega))) ?_;rintro _ w17 ⟨hk4,hN2⟩;replace hA1:=dz hA1 hk4 (by decide);replace hA2:=dz hA2 hk4 (by decide);replace hX3:=dW hX3 hk4 hBle;replace hW:bT 83 w17 B gw r c (bQ (cU Y top i (-((((Y).M) top q)/(((Y).M) i q)))) top i).M (bQ (cU Y top i (-((((Y).M) top q)/(((Y).M) i q)))) top i).U (bQ (cU Y top i (-((((Y).M) top q)/(((Y).M) i q)))) top i).V b:=hN2;refine RL.nil ?_;refine jm.norm ?_;have hls:=uN (S:=Y) (top:=top) (i:=i) (q:=q) (by omega) hyz;refine pR.norm ⟨_,(by omega),_,rfl,s1_e5,s2_e5,s3_e5,s4_e5,s5_e5,s6_e5,(hnext1 top q i Y (by omega) (by omega) (by omega) hJ2 hyz hxz),hX3,hA1,hA2,hW⟩
    ·
     refine WP.skip ?_;refine pR.norm ?_;refine WP.region ?_;refine RL.p rfl rfl (cI.move s3_e4) ?_;refine RL.p rfl rfl (cI.move s4_e4) ?_;refine RL.p rfl rfl (cI.move s6_e4) ?_;refine RL.x rfl rfl (cT xE (cS rfl rfl rfl) (tM _ _ _ _ _ _ _ _ _ top i hW (by omega) (by omega))) ?_;rintro _ w19 ⟨hk5,hN3⟩;replace hA1:=dz hA1 hk5 (by decide);replace hA2:=dz hA2 hk5 (by decide);replace hX3:=dW hX3 hk5 hBle;replace hW:bT 83 w19 B gw r c (bQ Y top i).M (bQ Y top i).U (bQ Y top i).V b:=hN3;refine RL.nil ?_;refine jm.norm ?_;have hxz:Y.M top q=0:=Decidable.of_not_not (fun h=>c58 (fun h2=>h (Int.sign_eq_zero_iff_zero.1 h2)));have hls:=uO (S:=Y) (top:=top) (i:=i) (q:=q) (by omega) hyz hxz;refine pR.norm ⟨_,(by omega),_,rfl,s1_e4,s2_e4,s3_e4,s4_e4,s5_e4,s6_e4,(hnext0 top q i Y (by omega) (by omega) (by omega) hJ2 hyz hxz),hX3,hA1,hA2,hW⟩
   ·
    refine WP.exit ?_;refine pR.exit ?_;refine pR.exit ?_;refine jm.same ?_;refine jm.norm ?_;refine pR.norm ?_;refine WP.region ?_;refine RL.p rfl rfl (cI.move s6_e4) ?_;refine RL.p rfl rfl (cI.add (c:=((i + 1:Nat):Int)) rfl rfl (bU (by omega))) ?_;refine RL.p rfl rfl (cI.assign rfl) ?_;refine RL.nil ?_;refine pR.norm ⟨_,(by omega),i + 1,Y,rfl,s1_e4,s2_e4,s3_e4,s4_e4,s5_e4,rfl,(by omega),(by omega),(hdone top q i Y (by omega) (by omega) (by omega) hJ2 (Decidable.of_not_not (fun h=>c45 (fun h2=>h (Int.sign_eq_zero_iff_zero.1 h2))))),hX3,hA1,hA2,hW⟩
  ·
   refine WP.exit ?_;refine pR.exit ?_;refine pR.exit ?_;refine jm.same ?_;refine pR.norm ?_;refine WP.seq ?_;have hWc:=hW;obtain ⟨hm_4,hu_4,hv_4,km_4,ku_4,kv_4,ρm_4,ρu_4,ρv_4,_,hG_4,hMm_4,hMu_4,hMv_4,_⟩:=hWc;have hdm_4:=cD.dlim hMm_4;have hcm_4:=cD.clim hMm_4;have hJr:J top q r T:=by rw [show i=r by omega] at hJ;exact hJ
   refine ab ?_;refine RL.p rfl rfl (cI.move s3_e3) ?_;refine RL.p rfl rfl (cI.nilCheck rfl) ?_;refine RL.p rfl rfl (cI.fieldAddr cP rfl) ?_;refine RL.p rfl rfl (cI.fieldAddr aq rfl) ?_;refine RL.p rfl rfl (cI.load aH rfl (hG_4.at_ (i:=2) rfl rfl)) ?_;refine RL.p rfl rfl (cI.move s4_e3) ?_;refine RL.p rfl rfl (cI.index (j:=top) aB rfl rfl rfl (by omega) (by omega)) ?_;refine RL.x rfl rfl (an (i:=top) aU rfl hMm_4 (by omega)) ?_;rintro v6 _ ⟨rfl,q6⟩;refine RL.p rfl rfl (cI.move s5_e3) ?_;refine RL.p rfl rfl (av (j:=q) bi (bF q6 w6) rfl rfl (by omega) (by omega)) ?_;refine RL.x rfl rfl (aP (j:=q) ao rfl (cD.row hMm_4 (by omega)) (by omega)) ?_;rintro v7 _ ⟨rfl,q7⟩;refine RL.x rfl rfl (dj.call io (aI rfl) (fD _ _ _ _ q7)) ?_;rintro _ w20 ⟨hx12,rfl⟩;replace hA1:=be.ext hA1 hx12;replace hA2:=be.ext hA2 hx12;replace hW:=bT.ext hW hx12;replace q6:=fx.ext q6 hx12;replace q7:=al.ext q7 hx12;replace hX2:=aF.trans hX2 hx12;refine RL.p rfl rfl (cI.eql rfl rfl) ?_;refine RL.nil ?_;refine ag (((((T).M) top q:Int).sign:Int)=(0:Int)) rfl (fun c108=> ?_) (fun c108=> ?_)
   ·
    refine WP.exit ?_;refine pR.exit ?_;refine jm.same ?_;refine pR.norm ?_;refine WP.region ?_;refine RL.p rfl rfl (cI.move s5_e3) ?_;refine RL.p rfl rfl (cI.add (c:=((q + 1:Nat):Int)) rfl rfl (bU (by omega))) ?_;refine RL.p rfl rfl (cI.assign rfl) ?_;refine RL.nil ?_;refine pR.norm ⟨_,(by omega),_,_,T,rfl,s1_e3,s2_e3,s3_e3,s4_e3,rfl,(by omega),(by omega),(hno top q T (by omega) (by omega) hJr (Int.sign_eq_zero_iff_zero.1 c108)),hX2,hA1,hA2,hW⟩
   ·
    refine WP.skip ?_;refine pR.norm ?_;refine WP.cut (fun ez uz=>(ez 1= .pointer (some ⟨g1,0,none⟩))∧(ez 2= .pointer (some ⟨g2,0,none⟩))∧(ez 3= .pointer (some ⟨gw,0,none⟩))∧(ez 4= .int .i64 ((top:Nat)))∧(ez 5= .int .i64 ((q:Nat)))∧(aF w uz)∧(be uz g1 28 3 (bS [.int .i64 ((r:Nat)),.int .i64 ((c:Nat)),sx]))∧(be uz g2 31 9 (bS [.int .i64 (0),.int .i64 (0),.slice (none) (0) (0),.int .i64 (0),.int .i64 (0),.slice (none) (0) (0),.int .i64 (0),.int .i64 (0),.slice (none) (0) (0)]))∧(bT 83 uz B gw r c (sg T top q).M (sg T top q).U (sg T top q).V b)∧(fx uz v6 (ρm_4 top) c)∧(al uz v7 (((T).M) top q) b)) ?_ ?_
    ·
     have hWc:=hW;obtain ⟨hm_5,hu_5,hv_5,km_5,ku_5,kv_5,ρm_5,ρu_5,ρv_5,_,hG_5,hMm_5,hMu_5,hMv_5,_⟩:=hWc;have hdm_5:=cD.dlim hMm_5;have hcm_5:=cD.clim hMm_5
     skip
     refine ab ?_;refine RL.p rfl rfl (cI.move s3_e3) ?_;refine RL.p rfl rfl (cI.nilCheck rfl) ?_;refine RL.p rfl rfl (cI.fieldAddr cP rfl) ?_;refine RL.p rfl rfl (cI.fieldAddr aq rfl) ?_;refine RL.p rfl rfl (cI.load aH rfl (hG_5.at_ (i:=2) rfl rfl)) ?_;refine RL.p rfl rfl (cI.move s4_e3) ?_;refine RL.p rfl rfl (cI.index (j:=top) aB rfl rfl rfl (by omega) (by omega)) ?_;refine RL.x rfl rfl (an (i:=top) aU rfl hMm_5 (by omega)) ?_;rintro v8 _ ⟨rfl,q8⟩;refine RL.p rfl rfl (cI.move s5_e3) ?_;refine RL.p rfl rfl (av (j:=q) bi (bF q8 w20) rfl rfl (by omega) (by omega)) ?_;refine RL.x rfl rfl (aP (j:=q) ao rfl (cD.row hMm_5 (by omega)) (by omega)) ?_;rintro v9 _ ⟨rfl,q9⟩;refine RL.x rfl rfl (dj.call io (aI rfl) (fD _ _ _ _ q9)) ?_;rintro _ w21 ⟨hx13,rfl⟩;replace hA1:=be.ext hA1 hx13;replace hA2:=be.ext hA2 hx13;replace hW:=bT.ext hW hx13;replace q6:=fx.ext q6 hx13;replace q7:=al.ext q7 hx13;replace hX2:=aF.trans hX2 hx13;refine RL.p rfl rfl (cI.lss rfl rfl) ?_;refine RL.nil ?_;refine ag (((((T).M) top q:Int).sign:Int)<(0:Int)) rfl (fun c121=> ?_) (fun c121=> ?_)
     ·
      refine WP.region ?_;refine RL.p rfl rfl (cI.move s3_e3) ?_;refine RL.p rfl rfl (cI.move s4_e3) ?_;refine RL.x rfl rfl (cT As (ax rfl rfl) (tN _ _ _ _ _ _ _ _ _ top hW (by omega))) ?_;rintro _ w23 ⟨hk6,hN4⟩;replace hA1:=dz hA1 hk6 (by decide);replace hA2:=dz hA2 hk6 (by decide);replace q7:=uA q7 hk6;replace hX2:=dW hX2 hk6 hBle;replace hW:bT 83 w23 B gw r c (fC T top).M (fC T top).U (fC T top).V b:=hN4;refine RL.nil ?_;refine pR.norm ⟨s1_e3,s2_e3,s3_e3,s4_e3,s5_e3,hX2,hA1,hA2,fN hW (yM ((de _).1 c121)).symm,q6,q7⟩
     ·
      refine WP.skip ?_;refine pR.norm ⟨s1_e3,s2_e3,s3_e3,s4_e3,s5_e3,hX2,hA1,hA2,fN hW (yL (fun h=>c121 ((de _).2 h))).symm,q6,q7⟩
    rintro e6 w24 ⟨s1_e6,s2_e6,s3_e6,s4_e6,s5_e6,hX4,hA1,hA2,hW,q6,q7⟩;refine WP.seq ?_;have htz:T.M top q≠0:=fun h=>c108 (Int.sign_eq_zero_iff_zero.2 h)
    have hq0:(sg T top q).M top q≠0:=by rw [yK];omega
    obtain ⟨hfr,hF2⟩:=hra top q T (by omega) (by omega) hJr htz;refine ab ?_;refine RL.p rfl rfl (cI.assign rfl) ?_;refine RL.nil ?_;refine WP.block ?_;refine WP.loop (fun mz ez uz=>∃n:Nat,(mz=top - n)∧(ez 1= .pointer (some ⟨g1,0,none⟩))∧(ez 2= .pointer (some ⟨g2,0,none⟩))∧(ez 3= .pointer (some ⟨gw,0,none⟩))∧(ez 4= .int .i64 ((top:Nat)))∧(ez 5= .int .i64 ((q:Nat)))∧(ez 10= .int .i64 ((n:Nat)))∧(n≤top)∧(aF w uz)∧(be uz g1 28 3 (bS [.int .i64 ((r:Nat)),.int .i64 ((c:Nat)),sx]))∧(be uz g2 31 9 (bS [.int .i64 (0),.int .i64 (0),.slice (none) (0) (0),.int .i64 (0),.int .i64 (0),.slice (none) (0) (0),.int .i64 (0),.int .i64 (0),.slice (none) (0) (0)]))∧(bT 83 uz B gw r c (ra (sg T top q) top q n).M (ra (sg T top q) top q n).U (ra (sg T top q) top q n).V b)) (top - 0) ?_ ?_
    · exact ⟨0,rfl,s1_e6,s2_e6,s3_e6,s4_e6,s5_e6,rfl,(by omega),hX4,hA1,hA2,hW⟩
    rintro m4 e7 w25 ⟨n,hm4,s1_e7,s2_e7,s3_e7,s4_e7,s5_e7,s10_e7,hn,hX5,hA1,hA2,hW⟩;have hqz:(ra (sg T top q) top q n).M top q≠0:=by rw [pn _ _ _ _ _ (by omega)];exact hq0
    refine WP.seq ?_;refine ab ?_;refine RL.p rfl rfl (cI.move s10_e7) ?_;refine RL.p rfl rfl (cI.move s4_e7) ?_;refine RL.p rfl rfl (cI.lss rfl rfl) ?_;refine RL.nil ?_;refine ag (((n:Nat):Int)<((top:Nat):Int)) rfl (fun c127=> ?_) (fun c127=> ?_)
    ·
     refine WP.skip ?_;refine pR.norm ?_;refine WP.seq ?_;refine WP.block ?_;have hWc:=hW;obtain ⟨hm_6,hu_6,hv_6,km_6,ku_6,kv_6,ρm_6,ρu_6,ρv_6,_,hG_6,hMm_6,hMu_6,hMv_6,_⟩:=hWc;have hdm_6:=cD.dlim hMm_6;have hcm_6:=cD.clim hMm_6;have hfitn:jo r c b (cU (ra (sg T top q) top q n) n top (-((ra (sg T top q) top q n).M n q/(ra (sg T top q) top q n).M top q))):=hfr n (by omega);refine WP.ds am 27 [_,_,_,_,_,_,_,_,_,_,_,_,_,_,_,_,_,_,_,_,_,_,_,_,_,_,_] rfl rfl (fun e_ w_ BH BG=>⟨fun _=>aa (cI.move ((BG 3 rfl s3_e7))),fun _=>aa (cI.move ((BG 10 rfl s10_e7))),fun _=>aa (cI.move ((BG 4 rfl s4_e7))),fun _=>aa (cI.move ((BG 3 rfl s3_e7))),fun BF=>aa (cI.nilCheck ((BF 3 rfl))),fun BF=>aa (cI.fieldAddr cP ((BF 4 rfl))),fun BF=>aa (cI.fieldAddr aq ((BF 5 rfl))),fun BF=>aa (cI.load aH ((BF 6 rfl)) ((be.ext hG_6 BH).at_ (i:=2) rfl rfl)),fun _=>aa (cI.move ((BG 10 rfl s10_e7))),fun BF=>aa (cI.index (j:=n) aB ((BF 7 rfl)) ((BF 8 rfl)) rfl (by omega) (by omega)),fun BF=>ah (an (i:=n) aU (BF 9 rfl) (cD.ext hMm_6 BH) (by omega)),fun _=>aa (cI.move ((BG 5 rfl s5_e7))),fun BF=>aa (av (j:=q) bi (BF 10 rfl) rfl (BF 11 rfl) (by omega) (by omega)),fun BF=>ah (aP (j:=q) ao (BF 12 rfl) (cD.row (cD.ext hMm_6 BH) (by omega)) (by omega)),fun _=>aa (cI.move ((BG 3 rfl s3_e7))),fun BF=>aa (cI.nilCheck ((BF 14 rfl))),fun BF=>aa (cI.fieldAddr cP ((BF 15 rfl))),fun BF=>aa (cI.fieldAddr aq ((BF 16 rfl))),fun BF=>aa (cI.load aH ((BF 17 rfl)) ((be.ext hG_6 BH).at_ (i:=2) rfl rfl)),fun _=>aa (cI.move ((BG 4 rfl s4_e7))),fun BF=>aa (cI.index (j:=top) aB ((BF 18 rfl)) ((BF 19 rfl)) rfl (by omega) (by omega)),fun BF=>ah (an (i:=top) aU (BF 20 rfl) (cD.ext hMm_6 BH) (by omega)),fun _=>aa (cI.move ((BG 5 rfl s5_e7))),fun BF=>aa (av (j:=q) bi (BF 21 rfl) rfl (BF 22 rfl) (by omega) (by omega)),fun BF=>ah (aP (j:=q) ao (BF 23 rfl) (cD.row (cD.ext hMm_6 BH) (by omega)) (by omega)),fun BF=>dj.call Ao (ax rfl rfl) (vV _ _ _ _ _ _ _ (BF 13 rfl) (BF 24 rfl) hqz (by omega)),fun BF=>dj.call kT (aI rfl) (ll _ _ _ _ ((BF 25 rfl))),trivial⟩) ?_;intro e8 w26 hx15 ho7 hf3;replace hA1:=be.ext hA1 hx15;replace hA2:=be.ext hA2 hx15;replace hW:=bT.ext hW hx15;replace hX5:=aF.trans hX5 hx15;have s1_e8:=ho7 1 rfl s1_e7;have s2_e8:=ho7 2 rfl s2_e7;have s3_e8:=ho7 3 rfl s3_e7;have s4_e8:=ho7 4 rfl s4_e7;have s5_e8:=ho7 5 rfl s5_e7;have s10_e8:=ho7 10 rfl s10_e7;have s130_e8:e8 130=_:=hf3 0 rfl;have s131_e8:e8 131=_:=hf3 1 rfl;have s132_e8:e8 132=_:=hf3 2 rfl;have s156_e8:al w26 (e8 156) (-((((ra (sg T top q) top q n).M) n q)/(((ra (sg T top q) top q n).M) top q))) b:=hf3 26 rfl;refine RL.x rfl rfl (cT xF (rl s130_e8 s131_e8 s132_e8 rfl) (qA _ _ _ _ _ _ _ _ _ n top _ _ _ hW (by omega) (by omega) s156_e8 (by omega) (by omega) (qZ hfitn (by omega)) (qY hfitn (by omega)) (qX hfitn (by omega)))) ?_;rintro _ w28 ⟨hk7,hN5⟩;replace hA1:=dz hA1 hk7 (by decide);replace hA2:=dz hA2 hk7 (by decide);replace hX5:=dW hX5 hk7 hBle;replace hW:bT 83 w28 B gw r c (cU (ra (sg T top q) top q n) n top (-((((ra (sg T top q) top q n).M) n q)/(((ra (sg T top q) top q n).M) top q)))).M (cU (ra (sg T top q) top q n) n top (-((((ra (sg T top q) top q n).M) n q)/(((ra (sg T top q) top q n).M) top q)))).U (cU (ra (sg T top q) top q n) n top (-((((ra (sg T top q) top q n).M) n q)/(((ra (sg T top q) top q n).M) top q)))).V b:=hN5;refine RL.nil ?_;refine jm.norm ?_;refine pR.norm ?_;refine WP.region ?_;refine RL.p rfl rfl (cI.move s10_e8) ?_;refine RL.p rfl rfl (cI.add (c:=((n + 1:Nat):Int)) rfl rfl (bU (by omega))) ?_;refine RL.p rfl rfl (cI.assign rfl) ?_;refine RL.nil ?_;refine pR.norm ⟨_,(by omega),n + 1,rfl,s1_e8,s2_e8,s3_e8,s4_e8,s5_e8,rfl,(by omega),hX5,hA1,hA2,hW⟩
    ·
     refine WP.exit ?_;refine pR.exit ?_;refine pR.exit ?_;refine jm.same ?_;refine pR.norm ?_;refine WP.region ?_;refine RL.p rfl rfl (cI.move s4_e7) ?_;refine RL.p rfl rfl (cI.add (c:=((top + 1:Nat):Int)) rfl rfl (bU (by omega))) ?_;refine RL.p rfl rfl (cI.assign rfl) ?_;refine RL.nil ?_;refine jm.norm ?_;refine pR.norm ?_;refine WP.region ?_;refine RL.p rfl rfl (cI.move s5_e7) ?_;refine RL.p rfl rfl (cI.add (c:=((q + 1:Nat):Int)) rfl rfl (bU (by omega))) ?_;refine RL.p rfl rfl (cI.assign rfl) ?_;refine RL.nil ?_;have hnt:n=top:=by omega
     rw [hnt] at hW;refine pR.norm ⟨_,(by omega),_,_,_,rfl,s1_e7,s2_e7,s3_e7,rfl,rfl,(by omega),(by omega),hF2,hX5,hA1,hA2,hW⟩
 ·
  refine WP.exit ?_;refine pR.exit ?_;refine pR.exit ?_;refine jm.same ?_;refine pR.norm ?_;have hWc:=hW;obtain ⟨hm_7,hu_7,hv_7,km_7,ku_7,kv_7,ρm_7,ρu_7,ρv_7,_,hG_7,hMm_7,hMu_7,hMv_7,_⟩:=hWc;have hdm_7:=cD.dlim hMm_7;have hcm_7:=cD.clim hMm_7;have hdu_7:=cD.dlim hMu_7;have hdv_7:=cD.dlim hMv_7
  skip
  refine aK am 12 [_,_,_,_,_,_,_,_,_,_,_,_] rfl rfl (fun e_ w_ BH BG=>⟨fun _=>aa (cI.move ((BG 3 rfl s3_e2))),fun BF=>aa (cI.nilCheck ((BF 0 rfl))),fun BF=>aa (cI.fieldAddr cP ((BF 1 rfl))),fun BF=>aa (af [.int .i64 ((r:Nat)),.int .i64 ((c:Nat)),.slice (some ⟨hm_7,0,none⟩) (r) (km_7)] aR ((BF 2 rfl)) ((be.ext hG_7 BH).cells 0 _ rfl rfl)),fun _=>aa (cI.move ((BG 3 rfl s3_e2))),fun BF=>aa (cI.nilCheck ((BF 4 rfl))),fun BF=>aa (cI.fieldAddr dU ((BF 5 rfl))),fun BF=>aa (af [.int .i64 ((r:Nat)),.int .i64 ((r:Nat)),.slice (some ⟨hu_7,0,none⟩) (r) (ku_7)] aR ((BF 6 rfl)) ((be.ext hG_7 BH).cells 3 _ rfl rfl)),fun _=>aa (cI.move ((BG 3 rfl s3_e2))),fun BF=>aa (cI.nilCheck ((BF 8 rfl))),fun BF=>aa (cI.fieldAddr dI ((BF 9 rfl))),fun BF=>aa (af [.int .i64 ((r:Nat)),.int .i64 ((r:Nat)),.slice (some ⟨hv_7,0,none⟩) (r) (kv_7)] aR ((BF 10 rfl)) ((be.ext hG_7 BH).cells 6 _ rfl rfl)),trivial⟩) ?_;intro e9 w29 hx17 ho8 hf4;replace hA2:=be.ext hA2 hx17;replace hMm_7:=cD.ext hMm_7 hx17;replace hMu_7:=cD.ext hMu_7 hx17;replace hMv_7:=cD.ext hMv_7 hx17;replace hX1:=aF.trans hX1 hx17;have s2_e9:=ho8 2 rfl s2_e2;have s163_e9:e9 163=_:=hf4 3 rfl;have s167_e9:e9 167=_:=hf4 7 rfl;have s171_e9:e9 171=_:=hf4 11 rfl;refine RL.p rfl rfl (cI.build (vs:= [(0,.agg #[.int .i64 ((r:Nat)),.int .i64 ((c:Nat)),.slice (some ⟨hm_7,0,none⟩) (r) (km_7)]),(1,.agg #[.int .i64 ((r:Nat)),.int .i64 ((r:Nat)),.slice (some ⟨hu_7,0,none⟩) (r) (ku_7)]),(2,.agg #[.int .i64 ((r:Nat)),.int .i64 ((r:Nat)),.slice (some ⟨hv_7,0,none⟩) (r) (kv_7)])]) [(0,3),(3,3),(6,3)] jR ef (eC s163_e9 s167_e9 s171_e9) (jY rfl)) ?_;refine RL.x rfl rfl (dj.store [.int .i64 ((r:Nat)),.int .i64 ((c:Nat)),.slice (some ⟨hm_7,0,none⟩) (r) (km_7),.int .i64 ((r:Nat)),.int .i64 ((r:Nat)),.slice (some ⟨hu_7,0,none⟩) (r) (ku_7),.int .i64 ((r:Nat)),.int .i64 ((r:Nat)),.slice (some ⟨hv_7,0,none⟩) (r) (kv_7)] ik s2_e9 rfl rfl hA2 (Nat.le_of_ble_eq_true rfl) (it rfl rfl rfl rfl rfl rfl rfl rfl rfl)) ?_;rintro _ w30 ⟨hk8,hnew⟩;replace hMm_7:=aE hMm_7 hk8 hA2 (by decide);replace hMu_7:=aE hMu_7 hk8 hA2 (by decide);replace hMv_7:=aE hMv_7 hk8 hA2 (by decide);replace hX1:=hX1.step hk8 (fun b e=>by subst e;exact hbs2);replace hA2:=hnew.lit [.int .i64 ((r:Nat)),.int .i64 ((c:Nat)),.slice (some ⟨hm_7,0,none⟩) (r) (km_7),.int .i64 ((r:Nat)),.int .i64 ((r:Nat)),.slice (some ⟨hu_7,0,none⟩) (r) (ku_7),.int .i64 ((r:Nat)),.int .i64 ((r:Nat)),.slice (some ⟨hv_7,0,none⟩) (r) (kv_7)] rfl;clear hnew;refine RL.nil ?_;refine WP.ret ?_;refine ⟨.agg #[.int .i64 ((r:Nat)),.int .i64 ((c:Nat)),.slice (some ⟨hm_7,0,none⟩) (r) (km_7),.int .i64 ((r:Nat)),.int .i64 ((r:Nat)),.slice (some ⟨hu_7,0,none⟩) (r) (ku_7),.int .i64 ((r:Nat)),.int .i64 ((r:Nat)),.slice (some ⟨hv_7,0,none⟩) (r) (kv_7)],Bb.one (aj [.int .i64 ((r:Nat)),.int .i64 ((c:Nat)),.slice (some ⟨hm_7,0,none⟩) (r) (km_7),.int .i64 ((r:Nat)),.int .i64 ((r:Nat)),.slice (some ⟨hu_7,0,none⟩) (r) (ku_7),.int .i64 ((r:Nat)),.int .i64 ((r:Nat)),.slice (some ⟨hv_7,0,none⟩) (r) (kv_7)] iq s2_e9 (hA2.cells 0 _ rfl rfl)),_,rfl,hX1,?_⟩;dsimp only;exact ⟨top,q,S,hF,by omega,htop,hq,_,_,_,rfl,⟨by omega,by omega⟩,by omega,cD.hdrV hMm_7 (by omega) (by omega),cD.hdrV hMu_7 (by omega) (by omega),cD.hdrV hMv_7 (by omega) (by omega)⟩
end Go.TL
namespace Go.TL
set_option linter.unusedVariables false
theorem eu0 {x y:Int} (h0:y≠0):(1 + (x/y).natAbs)*((x % y).natAbs + 1)≤x.natAbs + 1 + 2*(x % y).natAbs:=by
  have h1:=Int.emod_nonneg x h0;have h2:=Int.emod_lt x h0;have h3:=Int.mul_ediv_add_emod x y;have h4:(y*(x/y)).natAbs≤x.natAbs + (x % y).natAbs:=by omega
  rw [Int.natAbs_mul] at h4;have h5:(x/y).natAbs*((x % y).natAbs + 1)≤(x/y).natAbs*y.natAbs:=Nat.mul_le_mul_left _ (by omega);rw [Nat.mul_comm (x/y).natAbs y.natAbs] at h5;rw [Nat.add_mul,Nat.one_mul];omega
theorem eu1 {x y:Int} {E:Nat} (hx:x.natAbs≤E) (hy:y.natAbs≤E) (h0:y≠0):(1 + (x/y).natAbs)*((y.natAbs + 1)*((x % y).natAbs + 1))≤(E + 1)*(3*E + 1):=by
  have h1:=eu0 (x:=x) h0;have h2:=Int.emod_nonneg x h0;have h3:=Int.emod_lt x h0;rw [Nat.mul_left_comm];exact Nat.mul_le_mul (by omega) (by omega)
theorem eu2 {x y:Int} {s C:Nat} (h0:y≠0) (hy:0≤y) (hyx:y<(x.natAbs:Int)) (hs:s*((x.natAbs + 1)*(y.natAbs + 1))≤C):s*(1 + (x/y).natAbs)*((y.natAbs + 1)*((x % y).natAbs + 1))≤3*C:=by
  have h1:=eu0 (x:=x) h0;have h2:=Int.emod_nonneg x h0;have h3:=Int.emod_lt x h0;have h4:(1 + (x/y).natAbs)*((x % y).natAbs + 1)≤3*(x.natAbs + 1):=by omega
  have e1:s*(1 + (x/y).natAbs)*((y.natAbs + 1)*((x % y).natAbs + 1))=s*(y.natAbs + 1)*((1 + (x/y).natAbs)*((x % y).natAbs + 1)):=by ac_rfl
  rw [e1];refine Nat.le_trans (Nat.mul_le_mul_left _ h4) ?_;have e2:s*(y.natAbs + 1)*(3*(x.natAbs + 1))=3*(s*((x.natAbs + 1)*(y.natAbs + 1))):=by ac_rfl
  rw [e2];exact Nat.mul_le_mul_left _ hs
theorem eu3 {x y:Int} {s C:Nat} (hx:0≤x) (h0:0<y) (hs:s*((x.natAbs + 1)*(y.natAbs + 1))≤C):s*(1 + (x/y).natAbs)*((y.natAbs + 1)*((x % y).natAbs + 1))≤C:=by
  have h2:=Int.emod_nonneg x (show y≠0 by omega);have h3:=Int.emod_lt x (show y≠0 by omega);have h4:=Int.mul_ediv_add_emod x y;have h5:0≤x/y:=Int.ediv_nonneg hx (by omega);have h6:(y*(x/y)).natAbs + (x % y).natAbs=x.natAbs:=by
    have:0≤y*(x/y):=Int.mul_nonneg (by omega) h5;omega
  rw [Int.natAbs_mul] at h6;have h7:(x/y).natAbs*((x % y).natAbs + 1)≤(x/y).natAbs*y.natAbs:=Nat.mul_le_mul_left _ (by omega);rw [Nat.mul_comm (x/y).natAbs y.natAbs] at h7;have h8:(1 + (x/y).natAbs)*((x % y).natAbs + 1)≤x.natAbs + 1:=by rw [Nat.add_mul,Nat.one_mul];omega
  have e1:s*(1 + (x/y).natAbs)*((y.natAbs + 1)*((x % y).natAbs + 1))=s*(y.natAbs + 1)*((1 + (x/y).natAbs)*((x % y).natAbs + 1)):=by ac_rfl
  rw [e1];refine Nat.le_trans (Nat.mul_le_mul_left _ h8) ?_;have e2:s*(y.natAbs + 1)*(x.natAbs + 1)=s*((x.natAbs + 1)*(y.natAbs + 1)):=by ac_rfl
  rw [e2];exact hs
section
variable {r c:Nat} {S:WS} {EM EU EV K:Nat}
theorem qd {i j:Nat} {k:Int} (hi:i<r) (hj:j<r) (hk:k.natAbs≤K) (hM:∀i j,i<r→j<c→(S.M i j).natAbs≤EM) (hU:∀i j,i<r→j<r→(S.U i j).natAbs≤EU) (hV:∀i j,i<r→j<r→(S.V i j).natAbs≤EV):
    (∀a b,a<r→b<c→((cU S i j k).M a b).natAbs≤EM*(1 + K))∧(∀a b,a<r→b<r→((cU S i j k).U a b).natAbs≤EU*(1 + K))∧∀a b,a<r→b<r→((cU S i j k).V a b).natAbs≤EV*(1 + K):=by
  have hle:∀E L:Nat,E≤E*(1 + L):=fun E L=>by rw [Nat.mul_add,Nat.mul_one];omega
  refine ⟨fun a b ha hb=> ?_,fun a b ha hb=> ?_,fun a b ha hb=> ?_⟩
  · simp only [cU,cX];split
    · exact ga (hM _ _ hi hb) (hM _ _ hj hb) hk
    · exact Nat.le_trans (hM _ _ ha hb) (hle _ _)
  · simp only [cU,cX];split
    · exact ga (hU _ _ hi hb) (hU _ _ hj hb) hk
    · exact Nat.le_trans (hU _ _ ha hb) (hle _ _)
  · simp only [cU,dR];split
    · have:=ga (k:= -k) (hV a j ha hj) (hV a i ha hi) (by rw [Int.natAbs_neg];exact hk)
      rw [Int.neg_mul] at this;rw [Int.sub_eq_add_neg];exact this
    · exact Nat.le_trans (hV _ _ ha hb) (hle _ _)
theorem kM {i j:Nat} (hi:i<r) (hj:j<r) (hM:∀i j,i<r→j<c→(S.M i j).natAbs≤EM) (hU:∀i j,i<r→j<r→(S.U i j).natAbs≤EU) (hV:∀i j,i<r→j<r→(S.V i j).natAbs≤EV):
    (∀a b,a<r→b<c→((bQ S i j).M a b).natAbs≤EM)∧(∀a b,a<r→b<r→((bQ S i j).U a b).natAbs≤EU)∧∀a b,a<r→b<r→((bQ S i j).V a b).natAbs≤EV:=by
  refine ⟨fun a b ha hb=> ?_,fun a b ha hb=> ?_,fun a b ha hb=> ?_⟩
  · simp only [bQ,cE];split
    · exact hM _ _ hj hb
    · split
      · exact hM _ _ hi hb
      · exact hM _ _ ha hb
  · simp only [bQ,cE];split
    · exact hU _ _ hj hb
    · split
      · exact hU _ _ hi hb
      · exact hU _ _ ha hb
  · simp only [bQ,cY];split
    · exact hV _ _ ha hj
    · split
      · exact hV _ _ ha hi
      · exact hV _ _ ha hb
end
def eR (e0 r:Nat):Nat→Nat
  | 0=>e0
  | t + 1=>eR e0 r t + (2*eR e0 r t + 6)*(r - t - 1) + eR e0 r t + 1
def gR (e0 r:Nat):Nat→Nat
  | 0=>0
  | t + 1=>gR e0 r t + (2*eR e0 r t + 6)*(r - t - 1) + eR e0 r t + 3
structure FR (r c e0:Nat) (M0:Nat→Nat→Int) (top q:Nat) (S:WS):Prop where
  lin:Lin r c M0 S
  ech:mb r top q S.M
  bm:∀i j,i<r→j<c→(S.M i j).natAbs≤2^eR e0 r top
  bu:∀i j,i<r→j<r→(S.U i j).natAbs≤2^eR e0 r top
  bv:∀i j,i<r→j<r→(S.V i j).natAbs≤2^gR e0 r top
structure JR (r c e0:Nat) (M0:Nat→Nat→Int) (top q i:Nat) (S:WS):Prop where
  lin:Lin r c M0 S
  ech:mb r top q S.M
  col:∀k,k≤top∨i≤k→k<r→(S.M k q).natAbs≤2^eR e0 r top
  zer:∀k,top<k→k<i→S.M k q=0
  nul:S.M top q=0→(∀i j,i<r→j<c→(S.M i j).natAbs≤2^eR e0 r top)∧(∀i j,i<r→j<r→(S.U i j).natAbs≤2^eR e0 r top)∧∀i j,i<r→j<r→(S.V i j).natAbs≤2^gR e0 r top
  run:∃s:Nat,(∀a j,a<r→j<c→(S.M a j).natAbs≤2^eR e0 r top*(2^(2*eR e0 r top + 6))^(i - top - 1)*s)∧(∀a j,a<r→j<r→(S.U a j).natAbs≤2^eR e0 r top*(2^(2*eR e0 r top + 6))^(i - top - 1)*s)∧
    (∀a j,a<r→j<r→(S.V a j).natAbs≤2^gR e0 r top*(2^(2*eR e0 r top + 6))^(i - top - 1)*s)∧(i<r→s=1∨
      (0≤S.M i q∧S.M i q<((S.M top q).natAbs:Int)∧s*(((S.M top q).natAbs + 1)*((S.M i q).natAbs + 1))≤(2^eR e0 r top + 1)*(3*2^eR e0 r top + 1))∨
      (0≤S.M i q∧S.M i q<S.M top q∧s*(((S.M top q).natAbs + 1)*((S.M i q).natAbs + 1))≤3*((2^eR e0 r top + 1)*(3*2^eR e0 r top + 1))))∧(r≤i→s=1)
section
variable {r c e0:Nat} {M0:Nat→Nat→Int} {top q i:Nat} {S:WS}
theorem xT (e:Nat):3*((2^e + 1)*(3*2^e + 1))≤2^(2*e + 6):=by
  have h0:0<2^e:=Nat.two_pow_pos e;have h2:2^(2*e + 6)=(2^e*2^e)*64:=by rw [Nat.pow_add,Nat.two_mul,Nat.pow_add]
  rw [h2]
  generalize 2^e=x at*
  have h3:(x + 1)*(3*x + 1)≤(2*x)*(4*x):=Nat.mul_le_mul (by omega) (by omega);have h4:(2*x)*(4*x)=8*(x*x):=by rw [Nat.mul_mul_mul_comm]
  omega
theorem jc (e0 r:Nat):∀{s t:Nat},s≤t→eR e0 r s≤eR e0 r t
  | s,0,h=>by rw [show s=0 by omega];exact Nat.le_refl _
  | s,t + 1,h=>by
    by_cases e:s=t + 1
    · rw [e];exact Nat.le_refl _
    · have:=jc e0 r (s:=s) (t:=t) (by omega);simp only [eR];omega
theorem nm (e0 r:Nat):∀{s t:Nat},s≤t→gR e0 r s≤gR e0 r t
  | s,0,h=>by rw [show s=0 by omega];exact Nat.le_refl _
  | s,t + 1,h=>by
    by_cases e:s=t + 1
    · rw [e];exact Nat.le_refl _
    · have:=nm e0 r (s:=s) (t:=t) (by omega);simp only [gR];omega
theorem FR.start (hM:∀i j,i<r→j<c→(M0 i j).natAbs≤2^e0):FR r c e0 M0 0 0 ⟨M0,dA,dA⟩:=by
  have hid:∀(e i j:Nat),(dA i j).natAbs≤2^e:=fun e i j=>by
    have:=Nat.two_pow_pos e
    unfold dA;split<;>simp<;>omega
  exact ⟨Lin.start M0,⟨fun _=>0,fun i hi=>by omega,fun a _ _ j hj=>by omega⟩,hM,fun i j _ _=>hid _ i j,fun i j _ _=>hid _ i j⟩
theorem JR.of (h:FR r c e0 M0 top q S) (ht:top<r) (hq:q<c):JR r c e0 M0 top q (top + 1) S:=by
  have e1:∀x:Nat,x*(2^(2*eR e0 r top + 6))^(top + 1 - top - 1)*1=x:=fun x=>by rw [show top + 1 - top - 1=0 by omega,Nat.pow_zero,Nat.mul_one,Nat.mul_one]
  exact ⟨h.lin,h.ech,fun k _ hk=>h.bm k q hk hq,fun k h1 h2=>by omega,fun _=>⟨h.bm,h.bu,h.bv⟩,1,fun a j ha hj=>by rw [e1];exact h.bm a j ha hj,fun a j ha hj=>by rw [e1];exact h.bu a j ha hj,fun a j ha hj=>by rw [e1];exact h.bv a j ha hj,fun _=> .inl rfl,fun _=>rfl⟩
theorem mb.of {M M':Nat→Nat→Int} (h:mb r top q M) (h1:∀a,a<top→∀j,M' a j=M a j) (h2:∀a,top≤a→a<r→∀j,j<q→M' a j=0):mb r top q M':=by
  obtain ⟨P,g1,g2⟩:=h;refine ⟨P,fun i hi=> ?_,h2⟩;obtain ⟨k1,k2,k3,k4⟩:=g1 i hi;refine ⟨k1,by rw [h1 i hi];exact k2,fun j hj=>by rw [h1 i hi];exact k3 j hj,fun k hk=> ?_⟩;rw [h1 i hi,h1 k (by omega)];exact k4 k hk
theorem rb {a j:Nat} (hne:top≠i):(lK S top i q).M a j=if a=top then S.M i j else if a=i then S.M top j + -(S.M top q/S.M i q)*S.M i j else S.M a j:=by
  unfold lK bQ cU cE cX
  by_cases e1:a=top
  · subst e1;simp only [if_true,if_neg (Ne.symm hne)]
  · by_cases e2:a=i
    · subst e2;simp only [if_neg e1,if_true]
    · simp only [if_neg e1,if_neg e2]
theorem JR.zero (h:JR r c e0 M0 top q i S) (ht:top<i) (hi:i<r) (hz:S.M i q=0):JR r c e0 M0 top q (i + 1) S:=by
  obtain ⟨s,hM,hU,hV,hc,_⟩:=h.run;have hs:s≤2^(2*eR e0 r top + 6):=by
    have h0:=xT (eR e0 r top);have h1:1≤2^(2*eR e0 r top + 6):=Nat.two_pow_pos _;have h2:s≤s*(((S.M top q).natAbs + 1)*((S.M i q).natAbs + 1)):=Nat.le_mul_of_pos_right _ (Nat.mul_pos (by omega) (by omega));rcases hc hi with h3 | h3 | h3
    · omega
    · omega
    · omega
  have e1:∀x:Nat,x*(2^(2*eR e0 r top + 6))^(i - top - 1)*s≤x*(2^(2*eR e0 r top + 6))^(i + 1 - top - 1)*1:=fun x=>by
    clear hM hU hV
    generalize 2^(2*eR e0 r top + 6)=A at hs⊢
    rw [show i + 1 - top - 1=(i - top - 1) + 1 by omega,Nat.pow_succ,Nat.mul_one,←Nat.mul_assoc];exact Nat.mul_le_mul_left _ hs
  refine ⟨h.lin,h.ech,fun k hk hr=>h.col k (by omega) hr,fun k h1 h2=> ?_,h.nul,1,fun a j ha hj=>Nat.le_trans (hM a j ha hj) (e1 _),fun a j ha hj=>Nat.le_trans (hU a j ha hj) (e1 _),fun a j ha hj=>Nat.le_trans (hV a j ha hj) (e1 _),fun _=> .inl rfl,fun _=>rfl⟩
  by_cases e:k=i
  · subst e;exact hz
  · exact h.zer k h1 (by omega)
theorem JR.swap (h:JR r c e0 M0 top q i S) (ht:top<i) (hi:i<r) (hz:S.M i q≠0) (h0:S.M top q=0):JR r c e0 M0 top q i (bQ S top i):=by
  obtain ⟨s,hM,hU,hV,hc,_⟩:=h.run;have hs:s=1:=by
    rcases hc hi with h3 | h3 | h3
    · exact h3
    · omega
    · omega
  have hrow:∀a j,(bQ S top i).M a j=if a=top then S.M i j else if a=i then S.M top j else S.M a j:=fun a j=>by
    simp only [bQ,cE];split
    · rfl
    · split<;>rfl
  obtain ⟨b1,b2,b3⟩:=kM (show top<r by omega) hi hM hU hV;obtain ⟨P,p1,p2⟩:=id h.ech;refine ⟨h.lin.swap (by omega) hi,h.ech.of (fun a ha j=>by rw [hrow,if_neg (by omega),if_neg (by omega)]) (fun a ha har j hj=> ?_),fun k hk hr=> ?_,fun k h1 h2=>by rw [hrow,if_neg (by omega),if_neg (by omega)];exact h.zer k h1 h2,fun hx=>absurd hx (by rw [hrow,if_pos rfl];exact hz),s,b1,b2,b3,fun _=> .inl hs,fun hri=>hs⟩
  · rw [hrow];split
    · exact p2 i (by omega) hi j hj
    · split
      · exact p2 top (Nat.le_refl _) (by omega) j hj
      · exact p2 a ha har j hj
  · rw [hrow];split
    · exact h.col i (.inr (Nat.le_refl _)) hi
    · split
      · exact h.col top (.inl (Nat.le_refl _)) (by omega)
      · exact h.col k hk hr
theorem JR.step (h:JR r c e0 M0 top q i S) (ht:top<i) (hi:i<r) (hz:S.M i q≠0) (h0:S.M top q≠0):JR r c e0 M0 top q i (lK S top i q)∧
    ∃s,s≤2^(2*eR e0 r top + 6)∧(∀a j,a<r→j<c→((cU S top i (-(S.M top q/S.M i q))).M a j).natAbs≤2^eR e0 r top*(2^(2*eR e0 r top + 6))^(i - top - 1)*s)∧
      (∀a j,a<r→j<r→((cU S top i (-(S.M top q/S.M i q))).U a j).natAbs≤2^eR e0 r top*(2^(2*eR e0 r top + 6))^(i - top - 1)*s)∧
      ∀a j,a<r→j<r→((cU S top i (-(S.M top q/S.M i q))).V a j).natAbs≤2^gR e0 r top*(2^(2*eR e0 r top + 6))^(i - top - 1)*s:=by
  obtain ⟨s,hM,hU,hV,hc,_⟩:=h.run;have htr:top<r:=by omega
  have hne:top≠i:=by omega
  obtain ⟨c1,c2,c3⟩:=qd (k:= -(S.M top q/S.M i q)) (K:=(S.M top q/S.M i q).natAbs) htr hi (by rw [Int.natAbs_neg];exact Nat.le_refl _) hM hU hV;simp only [Nat.mul_assoc _ s] at c1 c2 c3;obtain ⟨b1,b2,b3⟩:=kM htr hi c1 c2 c3;have x1:(lK S top i q).M top q=S.M i q:=wD hne;have x2:(lK S top i q).M i q=S.M top q % S.M i q:=xU hne;have m1:=Int.emod_nonneg (S.M top q) hz;have m2:=Int.emod_lt (S.M top q) hz;have hct:=h.col top (.inl (Nat.le_refl _)) htr;have hci:=h.col i (.inr (Nat.le_refl _)) hi;have hst:(0≤(lK S top i q).M i q∧(lK S top i q).M i q<(((lK S top i q).M top q).natAbs:Int)∧s*(1 + (S.M top q/S.M i q).natAbs)*((((lK S top i q).M top q).natAbs + 1)*(((lK S top i q).M i q).natAbs + 1))≤(2^eR e0 r top + 1)*(3*2^eR e0 r top + 1))∨
      (0≤(lK S top i q).M i q∧(lK S top i q).M i q<(lK S top i q).M top q∧s*(1 + (S.M top q/S.M i q).natAbs)*((((lK S top i q).M top q).natAbs + 1)*(((lK S top i q).M i q).natAbs + 1))≤3*((2^eR e0 r top + 1)*(3*2^eR e0 r top + 1))):=by
    rw [x1,x2];rcases hc hi with h3 | h3 | h3
    · left
      refine ⟨m1,by omega,?_⟩;rw [h3,Nat.one_mul];exact eu1 hct hci hz
    · right
      exact ⟨m1,by omega,eu2 hz h3.1 h3.2.1 h3.2.2⟩
    · right
      exact ⟨m1,by omega,eu3 (by omega) (by omega) h3.2.2⟩
  have hsb:s*(1 + (S.M top q/S.M i q).natAbs)≤2^(2*eR e0 r top + 6):=by
    have g0:=xT (eR e0 r top);have g2:s*(1 + (S.M top q/S.M i q).natAbs)≤s*(1 + (S.M top q/S.M i q).natAbs)*((((lK S top i q).M top q).natAbs + 1)*(((lK S top i q).M i q).natAbs + 1)):=Nat.le_mul_of_pos_right _ (Nat.mul_pos (by omega) (by omega));rcases hst with h3 | h3<;>omega
  obtain ⟨P,p1,p2⟩:=id h.ech;refine ⟨⟨(h.lin.add _ htr hi hne).swap htr hi,h.ech.of (fun a ha j=>by rw [rb hne,if_neg (by omega),if_neg (by omega)]) (fun a ha har j hj=> ?_),fun k hk hr=> ?_,fun k h1 h2=>by rw [rb hne,if_neg (by omega),if_neg (by omega)];exact h.zer k h1 h2,fun hx=>absurd hx (by rw [x1];exact hz),_,b1,b2,b3,fun _=> .inr hst,fun hri=>by omega⟩,_,hsb,c1,c2,c3⟩
  · rw [rb hne];split
    · exact p2 i (by omega) hi j hj
    · split
      · rw [p2 top (Nat.le_refl _) htr j hj,p2 i (by omega) hi j hj,Int.mul_zero];rfl
      · exact p2 a ha har j hj
  · by_cases e1:k=top
    · subst e1;rw [x1];exact hci
    · by_cases e2:k=i
      · subst e2;rw [x2];omega
      · rw [rb hne,if_neg e1,if_neg e2];exact h.col k hk hr
theorem JR.none (h:JR r c e0 M0 top q r S) (ht:top<r) (hz:S.M top q=0):FR r c e0 M0 top (q + 1) S:=by
  obtain ⟨hM,hU,hV⟩:=h.nul hz;refine ⟨h.lin,?_,hM,hU,hV⟩;obtain ⟨P,h1,h2⟩:=h.ech;refine ⟨P,fun i hi=> ?_,fun a ha har j hj=> ?_⟩
  · obtain ⟨g1,g2⟩:=h1 i hi;exact ⟨by omega,g2⟩
  · by_cases e:j=q
    · subst e
      by_cases e2:a=top
      · subst e2;exact hz
      · exact h.zer a (by omega) har
    · exact h2 a ha har j (by omega)
theorem AH (e n:Nat):2^e*(2^(2*e + 6))^n*(1 + 2^e)≤2^(e + (2*e + 6)*n + e + 1):=by
  have h0:0<2^e:=Nat.two_pow_pos e;rw [Nat.pow_add 2 (e + (2*e + 6)*n + e) 1,Nat.pow_add 2 (e + (2*e + 6)*n) e,Nat.pow_add 2 e,Nat.pow_mul,Nat.mul_assoc (2^e*(2^(2*e + 6))^n)];exact Nat.mul_le_mul_left _ (by omega)
theorem Bp (g e n:Nat):2^g*(2^(2*e + 6))^n*(1 + 7*2^e)≤2^(g + (2*e + 6)*n + e + 3):=by
  have h0:0<2^e:=Nat.two_pow_pos e;rw [Nat.pow_add 2 (g + (2*e + 6)*n + e) 3,Nat.pow_add 2 (g + (2*e + 6)*n) e,Nat.pow_add 2 g,Nat.pow_mul,Nat.mul_assoc (2^g*(2^(2*e + 6))^n)];exact Nat.mul_le_mul_left _ (by omega)
theorem JR.pivot (h:JR r c e0 M0 top q r S) (ht:top<r) (hq:q<c) (h8:r≤8) (hp:S.M top q≠0):
    (∀n,n≤top→(∀i j,i<r→j<c→((ra (sg S top q) top q n).M i j).natAbs≤2^eR e0 r (top + 1))∧
        (∀i j,i<r→j<r→((ra (sg S top q) top q n).U i j).natAbs≤2^eR e0 r (top + 1))∧
        ∀i j,i<r→j<r→((ra (sg S top q) top q n).V i j).natAbs≤2^gR e0 r (top + 1))∧
      FR r c e0 M0 (top + 1) (q + 1) (ra (sg S top q) top q top):=by
  rw [←xO];have hE0:0<2^eR e0 r top:=Nat.two_pow_pos _;obtain ⟨s,hM,hU,hV,_,hs⟩:=h.run;rw [hs (Nat.le_refl _)] at hM hU hV;simp only [Nat.mul_one] at hM hU hV;have htop:=jq S top top q;obtain ⟨hM2,hU2,hV2⟩:=tr (q:=q) ht ht hM hU hV;have hlin:=h.lin.sn q ht ht;have hech:=h.ech.sn (q:=q) ht (Nat.le_refl _) ht;have hcol:∀i,i≠top→(sn S top top q).M i q=S.M i q:=fun i hi=>by rw [(rP S top top q i q).1 hi,if_neg hi]
  have hab:∀i,i<top→((sn S top top q).M i q).natAbs≤2^eR e0 r top:=fun i hi=>by rw [hcol i (by omega)];exact h.col i (.inl (by omega)) (by omega)
  have hbelow:∀i,top<i→i<r→(sn S top top q).M i q=0:=fun i hi hir=>by
    rw [hcol i (by omega)];exact h.zer i hi hir
  generalize sn S top top q=S2 at*
  generalize hy:(S.M top q).natAbs=y at*
  have hy0:0<y:=by omega
  have hK:∀i,i<top→(kq S2 top q i).natAbs≤2^eR e0 r top:=fun i hi=>by
    unfold kq;rw [htop]
    exact Nat.le_trans (no (by omega)) (hab i hi)
  have hbd:=fun n (hn:n≤top)=>xQ (n:=n) ht hn (by omega) hK hM2 hU2 hV2
  have hfin:∀n,n≤top→(∀i j,i<r→j<c→((ra S2 top q n).M i j).natAbs≤2^eR e0 r (top + 1))∧(∀i j,i<r→j<r→((ra S2 top q n).U i j).natAbs≤2^eR e0 r (top + 1))∧
      ∀i j,i<r→j<r→((ra S2 top q n).V i j).natAbs≤2^gR e0 r (top + 1):=fun n hn=>by
    refine ⟨fun i j hi hj=> ?_,fun i j hi hj=> ?_,fun i j hi hj=> ?_⟩
    · exact Nat.le_trans ((hbd n hn).1 i j hi hj) (AH _ _)
    · exact Nat.le_trans ((hbd n hn).2.1 i j hi hj) (AH _ _)
    · exact Nat.le_trans ((hbd n hn).2.2 i j hi hj) (Bp _ _ _)
  refine ⟨hfin,hlin.ra q ht top (Nat.le_refl _),?_,(hfin top (Nat.le_refl _)).1,(hfin top (Nat.le_refl _)).2.1,(hfin top (Nat.le_refl _)).2.2⟩;obtain ⟨P,h1,h2⟩:=hech;have hrow:∀i,i<top→∀j,j<q→(ra S2 top q top).M i j=S2.M i j:=fun i hi j hj=>by
    rw [lU _ _ _ _ _ _ (Nat.le_refl _),if_pos hi,h2 top (Nat.le_refl _) ht j hj,Int.mul_zero,Int.add_zero]
  have hrest:∀i,top≤i→∀j,(ra S2 top q top).M i j=S2.M i j:=fun i hi j=>by rw [lU _ _ _ _ _ _ (Nat.le_refl _),if_neg (by omega)]
  refine ⟨cC P top q,fun i hi=> ?_,fun a ha har j hj=> ?_⟩
  · by_cases e:i=top
    · subst e
      rw [bs];refine ⟨by omega,by rw [hrest i (Nat.le_refl _),htop];omega,fun j hj=>by rw [hrest i (Nat.le_refl _)];exact h2 i (Nat.le_refl _) ht j hj,fun k hk=> ?_⟩;rw [bp _ _ _ _ (by omega),hrest i (Nat.le_refl _),htop,lU _ _ _ _ _ _ (Nat.le_refl _),if_pos hk]
      unfold kq
      rw [htop];have e1:S2.M k q + -(S2.M k q/(y:Int))*(y:Int)=S2.M k q % (y:Int):=by
        have:=Int.mul_ediv_add_emod (S2.M k q) (y:Int);rw [Int.neg_mul,Int.mul_comm (S2.M k q/(y:Int))];omega
      rw [e1];exact ⟨(h1 k hk).1,Int.emod_nonneg _ (by omega),Int.emod_lt_of_pos _ (by omega)⟩
    · rw [bp _ _ _ _ e]
      obtain ⟨g1,g2,g3,g4⟩:=h1 i (by omega);refine ⟨by omega,by rw [hrow i (by omega) _ g1];exact g2,fun j hj=>by rw [hrow i (by omega) _ (by omega)];exact g3 j hj,fun k hk=> ?_⟩;rw [bp _ _ _ _ (by omega),hrow k (by omega) _ g1,hrow i (by omega) _ g1];exact g4 k hk
  · rw [hrest a (by omega)]
    by_cases e:j=q
    · subst e;exact hbelow a (by omega) har
    · exact h2 a (by omega) har j (by omega)
end
end Go.TL
namespace Go.TL
open Go.RowKit
set_option linter.unusedVariables false
def zA (w:World) (v:Value) (n:Nat) (ka ki kj:Nat→Nat) (kk:Nat→Int):Prop:=∃A c,v= .slice A n c∧n≤c∧c<9223372036854775808∧
  (0<n→∃g o,A=some ⟨g,o,none⟩∧∀i,i<n→(w.cell? ⟨g,o + i*4,none⟩=some (.int .u8 (ka i:Nat))∧w.cell? ⟨g,o + i*4 + 1,none⟩=some (.int .u8 (ki i:Nat)))∧w.cell? ⟨g,o + i*4 + 2,none⟩=some (.int .u8 (kj i:Nat))∧w.cell? ⟨g,o + i*4 + 3,none⟩=some (.int .i8 (kk i)))
theorem zA.ext {w w':World} {v:Value} {n:Nat} {ka ki kj:Nat→Nat} {kk:Nat→Int} (h:zA w v n ka ki kj kk) (hx:aF w w'):zA w' v n ka ki kj kk:=by
  obtain ⟨A,c,h1,h2,h3,h4⟩:=h;exact ⟨A,c,h1,h2,h3,fun hn=>by
    obtain ⟨g,o,hA,hc⟩:=h4 hn;exact ⟨g,o,hA,fun i hi=>by obtain ⟨⟨g1,g2⟩,g3,g4⟩:=hc i hi;exact ⟨⟨aF.cell g1 hx,aF.cell g2 hx⟩,aF.cell g3 hx,aF.cell g4 hx⟩⟩⟩
instance (n:Nat) (ka ki kj:Nat→Nat) (kk:Nat→Int):Nonempty (bP (fun v w=>zA w v n ka ki kj kk)):=⟨fun _ _ _ h hx=>h.ext hx⟩
def xl (w:World) (v:Value) (a b c:Nat) (d:Int):Prop:=∃g o,v= .pointer (some ⟨g,o,none⟩)∧(w.cell? ⟨g,o,none⟩=some (.int .u8 (a:Nat))∧w.cell? ⟨g,o + 1,none⟩=some (.int .u8 (b:Nat)))∧w.cell? ⟨g,o + 2,none⟩=some (.int .u8 (c:Nat))∧w.cell? ⟨g,o + 3,none⟩=some (.int .i8 d)
theorem xl.ext {w w':World} {v:Value} {a b c:Nat} {d:Int} (h:xl w v a b c d) (hx:aF w w'):xl w' v a b c d:=by
  obtain ⟨g,o,h1,⟨h2,h3⟩,h4,h5⟩:=h;exact ⟨g,o,h1,⟨aF.cell h2 hx,aF.cell h3 hx⟩,aF.cell h4 hx,aF.cell h5 hx⟩
theorem sd (a b c:Nat) (d:Int):bP (fun v w=>xl w v a b c d):=fun _ _ _ h hx=>h.ext hx
instance (a b c:Nat) (d:Int):Nonempty (bP (fun v w=>xl w v a b c d)):=⟨sd a b c d⟩
instance (k:IntKind) (x:Int):Nonempty (bP (fun v w=>pb k w v x)):=⟨fun _ _ _ h hx=>h.ext hx⟩
structure MvI (r c e0:Nat) (M:Nat→Nat→Int) (n:Nat) (S:WS):Prop where
  lin:Lin r c M S
  bm:∀i j,i<r→j<c→(S.M i j).natAbs≤2^(e0 + 2*n)
  bu:∀i j,i<r→j<r→(S.U i j).natAbs≤2^(2*n)
  bv:∀i j,i<r→j<r→(S.V i j).natAbs≤2^(2*n)
section
variable {r c e0 n:Nat} {M:Nat→Nat→Int} {S:WS}
theorem uC (i j:Nat):(dA i j).natAbs≤1:=by unfold dA;split<;>decide
theorem MvI.start (h:∀i j,i<r→j<c→(M i j).natAbs≤2^e0):MvI r c e0 M 0 ⟨M,dA,dA⟩:=
  ⟨Lin.start M,h,fun i j _ _=>uC i j,fun i j _ _=>uC i j⟩
theorem MvI.next (h:MvI r c e0 M n S):MvI r c e0 M (n + 1) S:=
  ⟨h.lin,fun i j hi hj=>Nat.le_trans (h.bm i j hi hj) (Nat.pow_le_pow_right (by decide) (by omega)),fun i j hi hj=>Nat.le_trans (h.bu i j hi hj) (Nat.pow_le_pow_right (by decide) (by omega)),fun i j hi hj=>Nat.le_trans (h.bv i j hi hj) (Nat.pow_le_pow_right (by decide) (by omega))⟩
theorem MvI.swap (h:MvI r c e0 M n S) {i j:Nat} (hi:i<r) (hj:j<r):MvI r c e0 M (n + 1) (bQ S i j):=by
  obtain ⟨h1,h2,h3⟩:=kM (c:=c) hi hj h.bm h.bu h.bv;exact MvI.next ⟨h.lin.swap hi hj,h1,h2,h3⟩
theorem MvI.neg (h:MvI r c e0 M n S) {i:Nat} (hi:i<r):MvI r c e0 M (n + 1) (fC S i):=by
  refine MvI.next ⟨h.lin.neg hi,fun a b ha hb=> ?_,fun a b ha hb=> ?_,fun a b ha hb=> ?_⟩
  · simp only [fC,dq];split
    · rw [Int.natAbs_neg];exact h.bm i b hi hb
    · exact h.bm a b ha hb
  · simp only [fC,dq];split
    · rw [Int.natAbs_neg];exact h.bu i b hi hb
    · exact h.bu a b ha hb
  · simp only [fC,eJ];split
    · rw [Int.natAbs_neg];exact h.bv a i ha hi
    · exact h.bv a b ha hb
theorem MvI.add (h:MvI r c e0 M n S) {i j:Nat} {k:Int} (hi:i<r) (hj:j<r) (hij:i≠j) (hk:k.natAbs≤3):MvI r c e0 M (n + 1) (cU S i j k):=by
  obtain ⟨h1,h2,h3⟩:=qd (c:=c) hi hj hk h.bm h.bu h.bv;refine ⟨h.lin.add k hi hj hij,fun a b ha hb=> ?_,fun a b ha hb=> ?_,fun a b ha hb=> ?_⟩
  · rw [show e0 + 2*(n + 1)=e0 + 2*n + 2 by omega,Nat.pow_add];exact h1 a b ha hb
  · rw [show 2*(n + 1)=2*n + 2 by omega,Nat.pow_add];exact h2 a b ha hb
  · rw [show 2*(n + 1)=2*n + 2 by omega,Nat.pow_add];exact h3 a b ha hb
end
end Go.TL
namespace Go.TL
open Go.RowKit Go.Proofs
set_option linter.unusedVariables false
def bR (e0 r:Nat):Nat:=eR e0 r r + gR e0 r r + 2
structure HermR (r c e0:Nat) (M0:Nat→Nat→Int) (k:Nat) (S:WS):Prop where
  lin:Lin r c M0 S
  kr:k≤r
  kc:k≤c
  ech:mb r k c S.M
  bm:∀i j,i<r→j<c→(S.M i j).natAbs≤2^eR e0 r k
  bu:∀i j,i<r→j<r→(S.U i j).natAbs≤2^eR e0 r k
  bv:∀i j,i<r→j<r→(S.V i j).natAbs≤2^gR e0 r k
theorem vU (w:World) (x:Value) (r c:Nat) (M:Nat→Nat→Int) (b0 e0 b:Nat) (hx:cc w x r c M b0) (h8:r≤8) (hM:∀i j,i<r→j<c→(M i j).natAbs≤2^e0) (hb:bR e0 r≤b) (hb1:2 + e0≤b) (hl:2*b + 300≤br):
    Calls Tryz.prog 14 #[x] w (ci w fun v w'=>∃k S,HermR r c e0 M k S∧jn w' v r c S b):=by
  have hfit:∀{t:Nat} {S:WS},t≤r→(∀i j,i<r→j<c→(S.M i j).natAbs≤2^eR e0 r t)→(∀i j,i<r→j<r→(S.U i j).natAbs≤2^eR e0 r t)→(∀i j,i<r→j<r→(S.V i j).natAbs≤2^gR e0 r t)→jo r c b S:=by
    intro t S ht h1 h2 h3;have e1:=jc e0 r (s:=t) (t:=r) ht;have e2:=nm e0 r (s:=t) (t:=r) ht
    unfold bR at hb
    exact ⟨fun i j hi hj=>eX (h1 i j hi hj) (by omega),fun i j hi hj=>eX (h2 i j hi hj) (by omega),fun i j hi hj=>eX (h3 i j hi hj) (by omega)⟩
  have e0r:=jc e0 r (s:=0) (t:=r) (by omega);have hbb:=hb
  unfold bR at hbb
  simp only [eR] at e0r;have hx0:cc w x r c M (e0 + 1):=hx.more (fun i j hi hj=>eX (hM i j hi hj) (by omega)) (by omega);refine (yR w x r c M (e0 + 1) b (FR r c e0 M) (JR r c e0 M) hx0 (by omega) hl (FR.start hM) (fun top q S ht hq h=>JR.of h ht hq) ?_ ?_ ?_ ?_ ?_ ?_).mono ?_
  · intro top q i S hti hir hq hJ hz h0
    obtain ⟨_,s,hs,g1,g2,g3⟩:=hJ.step hti hir hz h0;have e1:=jc e0 r (s:=top + 1) (t:=r) (by omega);have e2:=nm e0 r (s:=top + 1) (t:=r) (by omega);have hp:∀x:Nat,2^x*(2^(2*eR e0 r top + 6))^(i - top - 1)*s≤2^(x + (2*eR e0 r top + 6)*(r - top - 1)):=fun x=>by
      have h1:2^x*(2^(2*eR e0 r top + 6))^(i - top - 1)*s≤2^x*(2^(2*eR e0 r top + 6))^(i - top - 1)*2^(2*eR e0 r top + 6):=Nat.mul_le_mul_left _ hs;refine Nat.le_trans h1 ?_;rw [←Nat.pow_mul,←Nat.pow_add,←Nat.pow_add];refine Nat.pow_le_pow_right (by omega) ?_;have h2:(2*eR e0 r top + 6)*(i - top - 1) + (2*eR e0 r top + 6)=(2*eR e0 r top + 6)*(i - top - 1 + 1):=by rw [Nat.mul_add,Nat.mul_one]
      have h3:(2*eR e0 r top + 6)*(i - top - 1 + 1)≤(2*eR e0 r top + 6)*(r - top - 1):=Nat.mul_le_mul_left _ (by omega);omega
    have k1:eR e0 r top + (2*eR e0 r top + 6)*(r - top - 1)<eR e0 r (top + 1):=by simp only [eR];omega
    have k2:gR e0 r top + (2*eR e0 r top + 6)*(r - top - 1)<gR e0 r (top + 1):=by simp only [gR];omega
    exact ⟨fun a j ha hj=>eX (Nat.le_trans (g1 a j ha hj) (hp _)) (by omega),fun a j ha hj=>eX (Nat.le_trans (g2 a j ha hj) (hp _)) (by omega),fun a j ha hj=>eX (Nat.le_trans (g3 a j ha hj) (hp _)) (by omega)⟩
  · intro top q i S hti hir hq hJ hz h0
    exact (hJ.step hti hir hz h0).1
  · intro top q i S hti hir hq hJ hz h0
    exact hJ.swap hti hir hz h0
  · intro top q i S hti hir hq hJ hz
    exact hJ.zero hti hir hz
  · intro top q S ht hq hJ hz
    exact hJ.none ht hz
  · intro top q S ht hq hJ hz
    obtain ⟨h1,h2⟩:=hJ.pivot ht hq h8 hz;exact ⟨fun n hn=>by obtain ⟨g1,g2,g3⟩:=h1 (n + 1) (by omega);exact hfit (by omega) g1 g2 g3,h2⟩
  · rintro e w' ⟨v,rfl,hx',top,q,S,hF,hex,ht,hq,hH⟩
    have hech:mb r top c S.M:=by
      obtain ⟨P,h1,h2⟩:=hF.ech;refine ⟨P,fun i hi=> ?_,fun a ha har j hj=> ?_⟩
      · obtain ⟨g1,g2⟩:=h1 i hi;exact ⟨by omega,g2⟩
      · rcases hex with h | h
        · exact h2 a ha har j (by omega)
        · omega
    exact ⟨v,rfl,hx',top,S,⟨hF.lin,ht,hech.kc (Nat.le_refl _),hech,hF.bm,hF.bu,hF.bv⟩,hH⟩
end Go.TL
namespace Go.TL
set_option linter.unusedVariables false
theorem mb.some {r k c:Nat} {M:Nat→Nat→Int} (h:mb r k c M) {i:Nat} (hi:i<k):0≤piv (M i) c:=by
  obtain ⟨P,h1,_⟩:=h;obtain ⟨g1,g2,_⟩:=h1 i hi
  by_cases hn:0≤piv (M i) c
  · exact hn
  · have h3:da iI (M i) c= -1:=by have:=(eI (p:=iI) (z:=M i) c).2;unfold piv at hn;omega
    have:=eN h3 (P i) g1
    unfold iI at this
    omega
theorem mb.none {r k c:Nat} {M:Nat→Nat→Int} (h:mb r k c M) {i:Nat} (hi:k≤i) (hr:i<r):¬0≤piv (M i) c:=by
  obtain ⟨P,_,h2⟩:=h
  unfold piv
  rw [iW fun j hj=>by unfold iI;exact fun hne=>hne (h2 i hi hr j hj)];omega
def mH (r c e0:Nat) (M0:Nat→Nat→Int) (k:Nat) (M:Nat→Nat→Int):Prop:=
  ∃k1 S1 S2,HermR r c e0 M0 k1 S1∧HermR (r - k1) r (eR e0 r k1) (fun i=>S1.U (k1 + i)) k S2∧M=S2.M
theorem mH.bd {r c e0 e1 k:Nat} {M0 M:Nat→Nat→Int} (h:mH r c e0 M0 k M) (he:∀k,k≤r→eR (eR e0 r k) (r - k) (r - k)≤e1) {i j:Nat} (hi:i<k) (hj:j<r):(M i j).natAbs≤2^e1:=by
  obtain ⟨k1,S1,S2,h1,h2,rfl⟩:=h;have g1:=h2.kr;exact Nat.le_trans (h2.bm i j (by omega) hj) (Nat.pow_le_pow_right (by omega) (Nat.le_trans (jc _ _ g1) (he k1 h1.kr)))
theorem mH.kr {r c e0 k:Nat} {M0 M:Nat→Nat→Int} (h:mH r c e0 M0 k M):k≤r:=by
  obtain ⟨k1,S1,S2,h1,h2,rfl⟩:=h;have g1:=h2.kr;omega
end Go.TL
namespace Go.TL
open Go.RowKit Go.Proofs
set_option linter.unusedVariables false
def Ba (r c e0 e1:Nat) (M0:Nat→Nat→Int) (k:Nat) (M:Nat→Nat→Int):Prop:=∃k1 K1,mH c r e0 (yc M0) k1 K1∧mH c k1 e1 (yc K1) k M
def nO (w:World) (v:Value) (r c e0:Nat) (M0:Nat→Nat→Int) (b:Nat):Prop:=∃k S,HermR r c e0 M0 k S∧jn w v r c S b
theorem nO.ext {w w':World} {v:Value} {r c e0 b:Nat} {M0:Nat→Nat→Int} (h:nO w v r c e0 M0 b) (hx:aF w w'):nO w' v r c e0 M0 b:=by obtain ⟨k,S,h1,h2⟩:=h;exact ⟨k,S,h1,h2.ext hx⟩
theorem oz (r c e0:Nat) (M0:Nat→Nat→Int) (b:Nat):bP (fun v w=>nO w v r c e0 M0 b):=fun _ _ _ h hx=>h.ext hx
instance (r c e0:Nat) (M0:Nat→Nat→Int) (b:Nat):Nonempty (bP (fun v w=>nO w v r c e0 M0 b)):=⟨oz r c e0 M0 b⟩
def rA (w:World) (v:Value) (r c e0:Nat) (M0:Nat→Nat→Int) (b:Nat):Prop:=∃k S,HermR r c e0 M0 k S∧cc w v r c S.M b
theorem rA.ext {w w':World} {v:Value} {r c e0 b:Nat} {M0:Nat→Nat→Int} (h:rA w v r c e0 M0 b) (hx:aF w w'):rA w' v r c e0 M0 b:=by obtain ⟨k,S,h1,h2⟩:=h;exact ⟨k,S,h1,h2.ext hx⟩
theorem pB (r c e0:Nat) (M0:Nat→Nat→Int) (b:Nat):bP (fun v w=>rA w v r c e0 M0 b):=fun _ _ _ h hx=>h.ext hx
instance (r c e0:Nat) (M0:Nat→Nat→Int) (b:Nat):Nonempty (bP (fun v w=>rA w v r c e0 M0 b)):=⟨pB r c e0 M0 b⟩
def rC (w:World) (v:Value) (r c e0:Nat) (M0:Nat→Nat→Int) (b:Nat):Prop:=∃k S,HermR r c e0 M0 k S∧cc w v k c S.M b
theorem rC.ext {w w':World} {v:Value} {r c e0 b:Nat} {M0:Nat→Nat→Int} (h:rC w v r c e0 M0 b) (hx:aF w w'):rC w' v r c e0 M0 b:=by obtain ⟨k,S,h1,h2⟩:=h;exact ⟨k,S,h1,h2.ext hx⟩
theorem pD (r c e0:Nat) (M0:Nat→Nat→Int) (b:Nat):bP (fun v w=>rC w v r c e0 M0 b):=fun _ _ _ h hx=>h.ext hx
instance (r c e0:Nat) (M0:Nat→Nat→Int) (b:Nat):Nonempty (bP (fun v w=>rC w v r c e0 M0 b)):=⟨pD r c e0 M0 b⟩
def rr (w:World) (v:Value) (r c e0:Nat) (M0:Nat→Nat→Int) (b:Nat):Prop:=∃k M,mH r c e0 M0 k M∧cc w v k r M b
theorem rr.ext {w w':World} {v:Value} {r c e0 b:Nat} {M0:Nat→Nat→Int} (h:rr w v r c e0 M0 b) (hx:aF w w'):rr w' v r c e0 M0 b:=by obtain ⟨k,S,h1,h2⟩:=h;exact ⟨k,S,h1,h2.ext hx⟩
theorem pz (r c e0:Nat) (M0:Nat→Nat→Int) (b:Nat):bP (fun v w=>rr w v r c e0 M0 b):=fun _ _ _ h hx=>h.ext hx
instance (r c e0:Nat) (M0:Nat→Nat→Int) (b:Nat):Nonempty (bP (fun v w=>rr w v r c e0 M0 b)):=⟨pz r c e0 M0 b⟩
end Go.TL
