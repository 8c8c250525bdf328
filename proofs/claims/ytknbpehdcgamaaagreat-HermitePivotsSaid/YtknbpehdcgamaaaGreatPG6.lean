/-
  Lemmas towards the theorem of this claim (part 6).
  Conditions: those that each theorem names.
-/
import Derived.Test.YtknbpehdcgamaaaGreatPG5
namespace Go.TL
open Go.RowKit Go.Proofs
set_option linter.unusedVariables false
set_option linter.unusedSimpArgs false
set_option maxRecDepth 10000 in
theorem oN (w:World) (n:Nat) (hn:n≤65536):Calls Tryz.prog 47 #[.int .i64 (n:Nat)] w (cc w fun v w'=>cO w' v w.heap.size n n ct 1):=by
 have hLIM:bj=562949953421312:=rfl;refine ai (N:=22) (rs:= #[.cell 2 28]) Tryz.func47 rfl rfl rfl (Nat.le_of_ble_eq_true rfl) ?_;have hX:aA w w:=aA.refl w;refine ab ?_;refine RL.x rfl rfl (cQ.alloc [.int .i64 (0),.int .i64 (0),.slice (none) (0) (0)] cn rfl) ?_;rintro _ w1 ⟨g1,rfl,hge1,hx1,hA1⟩;have hbs1:w.heap.size≤g1:=Nat.le_trans hX.size hge1;replace hX:=aA.trans hX hx1;refine RL.nil ?_;refine ab ?_;refine RL.p rfl rfl (cj.move rfl) ?_;refine RL.p rfl rfl (cj.move rfl) ?_;have hBw1:w.heap.size≤w1.heap.size:=hX.size;refine RL.x rfl rfl (cQ.call pI (aC rfl rfl) (pU _ n n 1 (by omega) (by omega) (by omega))) ?_;rintro v1 w2 ⟨hx2,q1⟩;replace hA1:=aY.ext hA1 hx2;replace hX:=aA.trans hX hx2;refine RL.x rfl rfl (cQ.alloc [.int .i64 (0),.int .i64 (0),.slice (none) (0) (0)] cn rfl) ?_;rintro _ w3 ⟨g2,rfl,hge2,hx3,hA2⟩;have ne1:g1≠g2:=Nat.ne_of_lt (Nat.lt_of_lt_of_le hA1.lt hge2);have hbs2:w.heap.size≤g2:=Nat.le_trans hX.size hge2;replace hA1:=aY.ext hA1 hx3;replace q1:=cO.ext q1 hx3;replace hX:=aA.trans hX hx3;obtain ⟨gh1,kh1,ρ1,hq1,hM1⟩:=q1;have hd1:=cY.dlim hM1;have hd2:=cY.clim hM1;refine RL.x rfl rfl (cQ.store [.int .i64 ((n:Nat)),.int .i64 ((n:Nat)),.slice (some ⟨gh1,0,none⟩) (n) (kh1)] cR rfl hq1 rfl hA2 (Nat.le_of_ble_eq_true rfl) (cS rfl rfl rfl)) ?_;rintro _ w4 ⟨hk1,hnew⟩;replace hM1:=bk hM1 hk1 hA2 (by decide);replace hA1:=hA1.keep hk1 ne1;replace hX:=hX.step hk1 (fun b e=>by subst e;exact hbs2);replace hA2:=hnew.lit [.int .i64 ((n:Nat)),.int .i64 ((n:Nat)),.slice (some ⟨gh1,0,none⟩) (n) (kh1)] rfl;clear hnew;refine RL.nil ?_;refine WP.seq ?_;refine ab ?_;refine RL.p rfl rfl (cj.assign rfl) ?_;refine RL.nil ?_;refine WP.block ?_;refine WP.loop (fun mz ez uz=>∃i:Nat,(mz=n - i)∧(ez 0= .int .i64 ((n:Nat)))∧(ez 2= .pointer (some ⟨g1,0,none⟩))∧(ez 3= .pointer (some ⟨g2,0,none⟩))∧(ez 4= .int .i64 ((i:Nat)))∧(i≤n)∧(aA w uz)∧(aY uz g1 28 3 (bU [.int .i64 (0),.int .i64 (0),.slice (none) (0) (0)]))∧(aY uz g2 28 3 (bU [.int .i64 ((n:Nat)),.int .i64 ((n:Nat)),.slice (some ⟨gh1,0,none⟩) (n) (kh1)]))∧(cY uz w1.heap.size gh1 kh1 n n ρ1 (xm i) 1)) (n - 0) ?_ ?_
 · exact ⟨0,rfl,rfl,rfl,rfl,rfl,(by omega),hX,hA1,hA2,bZ hM1 wl⟩
 rintro m1 e1 w5 ⟨i,hm1,s0_e1,s2_e1,s3_e1,s4_e1,hi,hX1,hA1,hA2,hM1⟩;refine WP.seq ?_;refine ab ?_;refine RL.p rfl rfl (cj.move s4_e1) ?_;refine RL.p rfl rfl (cj.move s0_e1) ?_;refine RL.p rfl rfl (cj.lss rfl rfl) ?_;refine RL.nil ?_;refine ae (((i:Nat):Int)<((n:Nat):Int)) rfl (fun c10=> ?_) (fun c10=> ?_)
 ·
  refine WP.skip ?_;refine pl.norm ?_;refine WP.seq ?_;refine WP.block ?_;refine WP.ds am 8 [_,_,_,_,_,_,_,_] rfl rfl (fun e_ w_ AV AU=>⟨fun _=>aa (cj.fieldAddr aw ((AU 3 rfl s3_e1))),fun AT=>aa (cj.load aU ((AT 0 rfl)) ((aY.ext hA2 AV).at_ (i:=2) rfl rfl)),fun _=>aa (cj.move ((AU 4 rfl s4_e1))),fun AT=>aa (cj.index (j:=i) aK ((AT 1 rfl)) ((AT 2 rfl)) rfl (by omega) (by omega)),fun AT=>ag (aG (i:=i) bn (AT 3 rfl) (cY.ext hM1 AV) (by omega)),fun _=>aa (cj.move ((AU 4 rfl s4_e1))),fun _=>cQ.call lm (aL rfl) (rg (1) (1) _ (by decide) (by decide) (by decide)),fun AT=>aa (aR (j:=i) bE (AT 4 rfl) rfl (AT 5 rfl) (by omega) (by omega)),trivial⟩) ?_;intro e2 w6 hx4 ho1 hf1;replace hA1:=aY.ext hA1 hx4;replace hA2:=aY.ext hA2 hx4;replace hM1:=cY.ext hM1 hx4;replace hX1:=aA.trans hX1 hx4;have s0_e2:=ho1 0 rfl s0_e1;have s2_e2:=ho1 2 rfl s2_e1;have s3_e2:=ho1 3 rfl s3_e1;have s4_e2:=ho1 4 rfl s4_e1;have s19_e2:ak w6 (e2 19) 1 1:=hf1 6 rfl;have s20_e2:e2 20=_:=hf1 7 rfl;refine RL.x rfl rfl (cU (i:=i) (j:=i) bf s20_e2 rfl s19_e2 hM1 (by omega) (by omega)) ?_;rintro _ w7 ⟨hk2,hN1⟩;have hR1:=cY.row (i:=i) hM1 (by omega);replace hA1:=bF hA1 hk2 hR1 (by decide);replace hA2:=bF hA2 hk2 hR1 (by decide);replace hX1:=hX1.step hk2 (fun b e=>by subst e;exact (Nat.le_trans hBw1 (cY.rowB (i:=i) hM1 (by omega))));replace hM1:=hN1;clear hR1;refine RL.nil ?_;refine iD.norm ?_;refine pl.norm ?_;refine WP.region ?_;refine RL.p rfl rfl (cj.move s4_e2) ?_;refine RL.p rfl rfl (cj.add (c:=((i + 1:Nat):Int)) rfl rfl (bT (by omega))) ?_;refine RL.p rfl rfl (cj.assign rfl) ?_;refine RL.nil ?_;refine pl.norm ⟨_,(by omega),i + 1,rfl,s0_e2,s2_e2,s3_e2,rfl,(by omega),hX1,hA1,hA2,bZ hM1 (wk i)⟩
 ·
  refine WP.exit ?_;refine pl.exit ?_;refine pl.exit ?_;refine iD.same ?_;refine pl.norm ?_;refine ab ?_;refine RL.p rfl rfl (af [.int .i64 ((n:Nat)),.int .i64 ((n:Nat)),.slice (some ⟨gh1,0,none⟩) (n) (kh1)] aV s3_e1 (hA2.cells 0 _ rfl rfl)) ?_;refine RL.x rfl rfl (cQ.store [.int .i64 ((n:Nat)),.int .i64 ((n:Nat)),.slice (some ⟨gh1,0,none⟩) (n) (kh1)] cR s2_e1 rfl rfl hA1 (Nat.le_of_ble_eq_true rfl) (cS rfl rfl rfl)) ?_;rintro _ w8 ⟨hk3,hnew⟩;replace hM1:=bk hM1 hk3 hA1 (by decide);replace hX1:=hX1.step hk3 (fun b e=>by subst e;exact hbs1);replace hA1:=hnew.lit [.int .i64 ((n:Nat)),.int .i64 ((n:Nat)),.slice (some ⟨gh1,0,none⟩) (n) (kh1)] rfl;clear hnew;refine RL.nil ?_;refine WP.ret ?_;refine ⟨.agg #[.int .i64 ((n:Nat)),.int .i64 ((n:Nat)),.slice (some ⟨gh1,0,none⟩) (n) (kh1)],Am.one (aj [.int .i64 ((n:Nat)),.int .i64 ((n:Nat)),.slice (some ⟨gh1,0,none⟩) (n) (kh1)] aV s2_e1 (hA1.cells 0 _ rfl rfl)),_,rfl,hX1,?_⟩;dsimp only;exact ⟨_,_,_,rfl,cY.congr (cY.low hM1 hBw1) fun a c2 ha hc2=>wm c2 (by omega)⟩
set_option maxRecDepth 10000 in
theorem ye (w:World) (x:Value) (rx cx:Nat) (Mx:Nat→Nat→Int) (btx:Nat) (y:Value) (ry cy:Nat) (My:Nat→Nat→Int) (bty:Nat) (b:Nat) (hx:bX w x rx cx Mx btx) (hy:bX w y ry cy My bty) (hxy:cx=ry) (hb:btx + bty + 1≤bj) (hb2:b + 1≤bj) (hfit:∀i j k,i<rx→j<cy→k≤cx→(av k (fun x=>Mx i x*My x j)).natAbs<2^b):Calls Tryz.prog 90 #[x,y] w (cc w fun v w'=>∃v1,v= .tuple #[v1,.int .i64 0]∧cO w' v1 w.heap.size rx cy (bc cx Mx My) b):=by
 have hLIM:bj=562949953421312:=rfl;have hmatx:=hx;obtain ⟨sx,rfl,hrx,hcx,hSx⟩:=hx.form;have hmaty:=hy;obtain ⟨sy,rfl,hry,hcy,hSy⟩:=hy.form;refine ai (N:=73) (rs:= #[.cell 4 28,.tmp 5]) Tryz.func90 rfl rfl rfl (Nat.le_of_ble_eq_true rfl) ?_;have hX:aA w w:=aA.refl w;refine ab ?_;refine RL.x rfl rfl (cQ.box [.int .i64 ((rx:Nat)),.int .i64 ((cx:Nat)),sx] rfl rfl) ?_;rintro _ w1 ⟨g1,rfl,hge1,hx1,hA1⟩;replace hX:=aA.trans hX hx1;refine RL.x rfl rfl (cQ.box [.int .i64 ((ry:Nat)),.int .i64 ((cy:Nat)),sy] rfl rfl) ?_;rintro _ w2 ⟨g2,rfl,hge2,hx2,hA2⟩;replace hA1:=aY.ext hA1 hx2;replace hX:=aA.trans hX hx2;refine RL.x rfl rfl (cQ.alloc [.int .i64 (0),.int .i64 (0),.slice (none) (0) (0)] cn rfl) ?_;rintro _ w3 ⟨g3,rfl,hge3,hx3,hA3⟩;have hbs3:w.heap.size≤g3:=Nat.le_trans hX.size hge3;replace hA1:=aY.ext hA1 hx3;replace hA2:=aY.ext hA2 hx3;replace hX:=aA.trans hX hx3;refine RL.p rfl rfl (cj.assign rfl) ?_;refine RL.nil ?_;refine WP.seq ?_;refine ab ?_;refine RL.p rfl rfl (cj.fieldAddr bC rfl) ?_;refine RL.p rfl rfl (cj.load bD rfl (hA1.at_ (i:=1) rfl rfl)) ?_;refine RL.p rfl rfl (cj.fieldAddr aX rfl) ?_;refine RL.p rfl rfl (cj.load bD rfl (hA2.at_ (i:=0) rfl rfl)) ?_;refine RL.p rfl rfl (cj.neq rfl rfl) ?_;refine RL.nil ?_;refine ae (((cx:Nat):Int)≠((ry:Nat):Int)) rfl (fun hn=>absurd hn ((by omega))) (fun c14=> ?_);refine WP.skip ?_;refine pl.norm ?_;refine ab ?_;refine RL.p rfl rfl (cj.fieldAddr aX rfl) ?_;refine RL.p rfl rfl (cj.load bD rfl (hA1.at_ (i:=0) rfl rfl)) ?_;refine RL.p rfl rfl (cj.fieldAddr bC rfl) ?_;refine RL.p rfl rfl (cj.load bD rfl (hA2.at_ (i:=1) rfl rfl)) ?_;have hBw1:w.heap.size≤w3.heap.size:=hX.size;refine RL.x rfl rfl (cQ.call pI (aC rfl rfl) (pU _ rx cy b (by omega) (by omega) (by omega))) ?_;rintro v1 w4 ⟨hx4,q1⟩;replace hA1:=aY.ext hA1 hx4;replace hA2:=aY.ext hA2 hx4;replace hA3:=aY.ext hA3 hx4;replace hX:=aA.trans hX hx4;refine RL.x rfl rfl (cQ.alloc [.int .i64 (0),.int .i64 (0),.slice (none) (0) (0)] cn rfl) ?_;rintro _ w5 ⟨g4,rfl,hge4,hx5,hA4⟩;have ne4:g1≠g4:=Nat.ne_of_lt (Nat.lt_of_lt_of_le hA1.lt hge4);have ne5:g2≠g4:=Nat.ne_of_lt (Nat.lt_of_lt_of_le hA2.lt hge4);have ne6:g3≠g4:=Nat.ne_of_lt (Nat.lt_of_lt_of_le hA3.lt hge4);have hbs4:w.heap.size≤g4:=Nat.le_trans hX.size hge4;replace hA1:=aY.ext hA1 hx5;replace hA2:=aY.ext hA2 hx5;replace hA3:=aY.ext hA3 hx5;replace q1:=cO.ext q1 hx5;replace hX:=aA.trans hX hx5;obtain ⟨gh1,kh1,ρ1,hq1,hM1⟩:=q1;have hd1:=cY.dlim hM1;have hd2:=cY.clim hM1;refine RL.x rfl rfl (cQ.store [.int .i64 ((rx:Nat)),.int .i64 ((cy:Nat)),.slice (some ⟨gh1,0,none⟩) (rx) (kh1)] cR rfl hq1 rfl hA4 (Nat.le_of_ble_eq_true rfl) (cS rfl rfl rfl)) ?_;rintro _ w6 ⟨hk1,hnew⟩;replace hM1:=bk hM1 hk1 hA4 (by decide);replace hA1:=hA1.keep hk1 ne4;replace hA2:=hA2.keep hk1 ne5;replace hA3:=hA3.keep hk1 ne6;replace hX:=hX.step hk1 (fun b e=>by subst e;exact hbs4);replace hA4:=hnew.lit [.int .i64 ((rx:Nat)),.int .i64 ((cy:Nat)),.slice (some ⟨gh1,0,none⟩) (rx) (kh1)] rfl;clear hnew;refine RL.nil ?_;refine WP.seq ?_;refine ab ?_;refine RL.p rfl rfl (cj.assign rfl) ?_;refine RL.nil ?_;refine WP.block ?_;refine WP.loop (fun mz ez uz=>∃i:Nat,(mz=rx - i)∧(ez 2= .pointer (some ⟨g1,0,none⟩))∧(ez 3= .pointer (some ⟨g2,0,none⟩))∧(ez 4= .pointer (some ⟨g3,0,none⟩))∧(ez 5= .int .i64 (0))∧(ez 6= .pointer (some ⟨g4,0,none⟩))∧(ez 7= .int .i64 ((i:Nat)))∧(i≤rx)∧(aA w uz)∧(aY uz g1 28 3 (bU [.int .i64 ((rx:Nat)),.int .i64 ((cx:Nat)),sx]))∧(aY uz g2 28 3 (bU [.int .i64 ((ry:Nat)),.int .i64 ((cy:Nat)),sy]))∧(aY uz g3 28 3 (bU [.int .i64 (0),.int .i64 (0),.slice (none) (0) (0)]))∧(aY uz g4 28 3 (bU [.int .i64 ((rx:Nat)),.int .i64 ((cy:Nat)),.slice (some ⟨gh1,0,none⟩) (rx) (kh1)]))∧(cY uz w3.heap.size gh1 kh1 rx cy ρ1 (cG (bc cx Mx My) i 0) b)) (rx - 0) ?_ ?_
 · exact ⟨0,rfl,rfl,rfl,rfl,rfl,rfl,rfl,(by omega),hX,hA1,hA2,hA3,hA4,bZ hM1 (iK (bc cx Mx My))⟩
 rintro m1 e1 w7 ⟨i,hm1,s2_e1,s3_e1,s4_e1,s5_e1,s6_e1,s7_e1,hi,hX1,hA1,hA2,hA3,hA4,hM1⟩;refine WP.seq ?_;refine ab ?_;refine RL.p rfl rfl (cj.move s7_e1) ?_;refine RL.p rfl rfl (cj.fieldAddr aX s2_e1) ?_;refine RL.p rfl rfl (cj.load bD rfl (hA1.at_ (i:=0) rfl rfl)) ?_;refine RL.p rfl rfl (cj.lss rfl rfl) ?_;refine RL.nil ?_;refine ae (((i:Nat):Int)<((rx:Nat):Int)) rfl (fun c24=> ?_) (fun c24=> ?_)
 ·
  refine WP.skip ?_;refine pl.norm ?_;refine WP.seq ?_;refine WP.block ?_;refine ab ?_;refine RL.p rfl rfl (cj.assign rfl) ?_;refine RL.nil ?_;refine WP.block ?_;refine WP.loop (fun mz ez uz=>∃j:Nat,(mz=cy - j)∧(ez 2= .pointer (some ⟨g1,0,none⟩))∧(ez 3= .pointer (some ⟨g2,0,none⟩))∧(ez 4= .pointer (some ⟨g3,0,none⟩))∧(ez 5= .int .i64 (0))∧(ez 6= .pointer (some ⟨g4,0,none⟩))∧(ez 7= .int .i64 ((i:Nat)))∧(ez 8= .int .i64 ((j:Nat)))∧(j≤cy)∧(aA w uz)∧(aY uz g1 28 3 (bU [.int .i64 ((rx:Nat)),.int .i64 ((cx:Nat)),sx]))∧(aY uz g2 28 3 (bU [.int .i64 ((ry:Nat)),.int .i64 ((cy:Nat)),sy]))∧(aY uz g3 28 3 (bU [.int .i64 (0),.int .i64 (0),.slice (none) (0) (0)]))∧(aY uz g4 28 3 (bU [.int .i64 ((rx:Nat)),.int .i64 ((cy:Nat)),.slice (some ⟨gh1,0,none⟩) (rx) (kh1)]))∧(cY uz w3.heap.size gh1 kh1 rx cy ρ1 (cG (bc cx Mx My) i j) b)) (cy - 0) ?_ ?_
  · exact ⟨0,rfl,s2_e1,s3_e1,s4_e1,s5_e1,s6_e1,s7_e1,rfl,(by omega),hX1,hA1,hA2,hA3,hA4,hM1⟩
  rintro m2 e2 w8 ⟨j,hm2,s2_e2,s3_e2,s4_e2,s5_e2,s6_e2,s7_e2,s8_e2,hj,hX2,hA1,hA2,hA3,hA4,hM1⟩;refine WP.seq ?_;refine ab ?_;refine RL.p rfl rfl (cj.move s8_e2) ?_;refine RL.p rfl rfl (cj.fieldAddr bC s3_e2) ?_;refine RL.p rfl rfl (cj.load bD rfl (hA2.at_ (i:=1) rfl rfl)) ?_;refine RL.p rfl rfl (cj.lss rfl rfl) ?_;refine RL.nil ?_;refine ae (((j:Nat):Int)<((cy:Nat):Int)) rfl (fun c30=> ?_) (fun c30=> ?_)
  ·
   refine WP.skip ?_;refine pl.norm ?_;refine WP.seq ?_;refine WP.block ?_;refine ab ?_;refine RL.p rfl rfl (cj.assign rfl) ?_;refine RL.nil ?_;refine WP.block ?_;refine WP.loop (fun mz ez uz=>∃k:Nat,(mz=cx - k)∧(ez 2= .pointer (some ⟨g1,0,none⟩))∧(ez 3= .pointer (some ⟨g2,0,none⟩))∧(ez 4= .pointer (some ⟨g3,0,none⟩))∧(ez 5= .int .i64 (0))∧(ez 6= .pointer (some ⟨g4,0,none⟩))∧(ez 7= .int .i64 ((i:Nat)))∧(ez 8= .int .i64 ((j:Nat)))∧(ez 9= .int .i64 ((k:Nat)))∧(k≤cx)∧(aA w uz)∧(aY uz g1 28 3 (bU [.int .i64 ((rx:Nat)),.int .i64 ((cx:Nat)),sx]))∧(aY uz g2 28 3 (bU [.int .i64 ((ry:Nat)),.int .i64 ((cy:Nat)),sy]))∧(aY uz g3 28 3 (bU [.int .i64 (0),.int .i64 (0),.slice (none) (0) (0)]))∧(aY uz g4 28 3 (bU [.int .i64 ((rx:Nat)),.int .i64 ((cy:Nat)),.slice (some ⟨gh1,0,none⟩) (rx) (kh1)]))∧(cY uz w3.heap.size gh1 kh1 rx cy ρ1 (ee (cG (bc cx Mx My) i j) i j (av k (fun x=>Mx i x*My x j))) b)) (cx - 0) ?_ ?_
   · exact ⟨0,rfl,s2_e2,s3_e2,s4_e2,s5_e2,s6_e2,s7_e2,s8_e2,rfl,(by omega),hX2,hA1,hA2,hA3,hA4,bZ hM1 (mul_zero _ i j)⟩
   rintro m3 e3 w9 ⟨k,hm3,s2_e3,s3_e3,s4_e3,s5_e3,s6_e3,s7_e3,s8_e3,s9_e3,hk,hX3,hA1,hA2,hA3,hA4,hM1⟩;refine WP.seq ?_;refine ab ?_;refine RL.p rfl rfl (cj.move s9_e3) ?_;refine RL.p rfl rfl (cj.fieldAddr bC s2_e3) ?_;refine RL.p rfl rfl (cj.load bD rfl (hA1.at_ (i:=1) rfl rfl)) ?_;refine RL.p rfl rfl (cj.lss rfl rfl) ?_;refine RL.nil ?_;refine ae (((k:Nat):Int)<((cx:Nat):Int)) rfl (fun c36=> ?_) (fun c36=> ?_)
   ·
    refine WP.skip ?_;refine pl.norm ?_;refine WP.seq ?_;refine WP.block ?_;refine WP.ds (hmono:=⟨⟨ac _,ac _,ac _,ac _,dH _ _,ac _,ac _,ac _,ac _,ac _,dH _ _,ac _,ac _,dA _ _,ac _,ac _,ac _,iM _ _ _,iL _ _ _,ac _,iN _ _,dA _ _,ac _,ac _,ac _,iM _ _ _,iL _ _ _,ac _,iN _ _,dA _ _,dA _ _,dA _ _,ac _,trivial⟩⟩) am 33 (_::_::_:: [_,_,_,_,_,_,_,_,_,_,_,_,_,_,_,_,_,_,_,_,_,_,_,_,_,_,_,_,_,_]) rfl rfl (fun e_ w_ AV AU=>⟨fun _=>aa (cj.fieldAddr aw ((AU 6 rfl s6_e3))),fun AT=>aa (cj.load aU ((AT 0 rfl)) ((aY.ext hA4 AV).at_ (i:=2) rfl rfl)),fun _=>aa (cj.move ((AU 7 rfl s7_e3))),fun AT=>aa (cj.index (j:=i) aK ((AT 1 rfl)) ((AT 2 rfl)) rfl (by omega) (by omega)),fun AT=>ag (aG (i:=i) bn (AT 3 rfl) (cY.ext hM1 AV) (by omega)),fun _=>aa (cj.move ((AU 8 rfl s8_e3))),fun _=>aa (cj.fieldAddr aw ((AU 6 rfl s6_e3))),fun AT=>aa (cj.load aU ((AT 6 rfl)) ((aY.ext hA4 AV).at_ (i:=2) rfl rfl)),fun _=>aa (cj.move ((AU 7 rfl s7_e3))),fun AT=>aa (cj.index (j:=i) aK ((AT 7 rfl)) ((AT 8 rfl)) rfl (by omega) (by omega)),fun AT=>ag (aG (i:=i) bn (AT 9 rfl) (cY.ext hM1 AV) (by omega)),fun _=>aa (cj.move ((AU 8 rfl s8_e3))),fun AT=>aa (aR (j:=j) bE (AT 10 rfl) rfl (AT 11 rfl) (by omega) (by omega)),fun AT=>ag (bN (j:=j) aq (AT 12 rfl) (cY.row (cY.ext hM1 AV) (by omega)) (by omega)),fun _=>aa (cj.fieldAddr aw ((AU 2 rfl s2_e3))),fun AT=>aa (cj.load aU ((AT 14 rfl)) ((aY.ext hA1 AV).at_ (i:=2) rfl rfl)),fun _=>aa (cj.move ((AU 7 rfl s7_e3))),fun AT=>ag (aJ (j:=i) aK (AT 15 rfl) (ce.ext (ce.ext hSx hX3) AV) (AT 16 rfl) (by omega) (by omega)),fun AT=>ag (aI bn rfl (AT 17 rfl)),fun _=>aa (cj.move ((AU 9 rfl s9_e3))),fun AT=>ag (aM (j:=k) bE rfl (AT 18 rfl) (AT 19 rfl) (by omega) (by omega)),fun AT=>ag (aO aq rfl (AT 20 rfl)),fun _=>aa (cj.fieldAddr aw ((AU 3 rfl s3_e3))),fun AT=>aa (cj.load aU ((AT 22 rfl)) ((aY.ext hA2 AV).at_ (i:=2) rfl rfl)),fun _=>aa (cj.move ((AU 9 rfl s9_e3))),fun AT=>ag (aJ (j:=k) aK (AT 23 rfl) (ce.ext (ce.ext hSy hX3) AV) (AT 24 rfl) (by omega) (by omega)),fun AT=>ag (aI bn rfl (AT 25 rfl)),fun _=>aa (cj.move ((AU 8 rfl s8_e3))),fun AT=>ag (aM (j:=j) bE rfl (AT 26 rfl) (AT 27 rfl) (by omega) (by omega)),fun AT=>ag (aO aq rfl (AT 28 rfl)),fun AT=>cQ.call sA (aC rfl rfl) (tj _ _ _ _ _ _ _ ((btx) + (bty)) ((AT 21 rfl)) ((AT 29 rfl)) (by omega) (by omega)),fun AT=>cQ.call sB (aC rfl rfl) (tq _ _ _ _ _ _ _ (max (b) ((btx) + (bty)) + 1) ((AT 13 rfl)) ((AT 30 rfl)) (by omega) (by omega) (by omega)),fun AT=>aa (aR (j:=j) bE (AT 4 rfl) rfl (AT 5 rfl) (by omega) (by omega)),trivial⟩) ?_;intro e4 w10 hx6 ho1 hf1;replace hA1:=aY.ext hA1 hx6;replace hA2:=aY.ext hA2 hx6;replace hA3:=aY.ext hA3 hx6;replace hA4:=aY.ext hA4 hx6;replace hM1:=cY.ext hM1 hx6;replace hX3:=aA.trans hX3 hx6;have s2_e4:=ho1 2 rfl s2_e3;have s3_e4:=ho1 3 rfl s3_e3;have s4_e4:=ho1 4 rfl s4_e3;have s5_e4:=ho1 5 rfl s5_e3;have s6_e4:=ho1 6 rfl s6_e3;have s7_e4:=ho1 7 rfl s7_e3;have s8_e4:=ho1 8 rfl s8_e3;have s9_e4:=ho1 9 rfl s9_e3;have s70_e4:ak w10 (e4 70) (((ee (cG (bc cx Mx My) i j) i j (av k (fun x=>Mx i x*My x j))) i j:Int) + (((Mx i) k:Int)*((My k) j:Int):Int)) (max (b) ((btx) + (bty)) + 1):=hf1 31 rfl;have s71_e4:e4 71=_:=hf1 32 rfl;refine RL.x rfl rfl (cU (i:=i) (j:=j) bf s71_e4 rfl (ak.eq s70_e4 (by rw [qV];rfl) (hfit i j (k + 1) (by omega) (by omega) (by omega)) (by omega)) hM1 (by omega) (by omega)) ?_;rintro _ w11 ⟨hk2,hN1⟩;have hR1:=cY.row (i:=i) hM1 (by omega);replace hA1:=bF hA1 hk2 hR1 (by decide);replace hA2:=bF hA2 hk2 hR1 (by decide);replace hA3:=bF hA3 hk2 hR1 (by decide);replace hA4:=bF hA4 hk2 hR1 (by decide);replace hX3:=hX3.step hk2 (fun b e=>by subst e;exact (Nat.le_trans hBw1 (cY.rowB (i:=i) hM1 (by omega))));replace hM1:=hN1;clear hR1;refine RL.nil ?_;refine iD.norm ?_;refine pl.norm ?_;refine WP.region ?_;refine RL.p rfl rfl (cj.move s9_e4) ?_;refine RL.p rfl rfl (cj.add (c:=((k + 1:Nat):Int)) rfl rfl (bT (by omega))) ?_;refine RL.p rfl rfl (cj.assign rfl) ?_;refine RL.nil ?_;refine pl.norm ⟨_,(by omega),k + 1,rfl,s2_e4,s3_e4,s4_e4,s5_e4,s6_e4,s7_e4,s8_e4,rfl,(by omega),hX3,hA1,hA2,hA3,hA4,bZ hM1 (qT _ _ _ _ _)⟩
   ·
    refine WP.exit ?_;refine pl.exit ?_;refine pl.exit ?_;refine iD.same ?_;refine iD.norm ?_;refine pl.norm ?_;refine WP.region ?_;refine RL.p rfl rfl (cj.move s8_e3) ?_;refine RL.p rfl rfl (cj.add (c:=((j + 1:Nat):Int)) rfl rfl (bT (by omega))) ?_;refine RL.p rfl rfl (cj.assign rfl) ?_;refine RL.nil ?_;refine pl.norm ⟨_,(by omega),j + 1,rfl,s2_e3,s3_e3,s4_e3,s5_e3,s6_e3,s7_e3,rfl,(by omega),hX3,hA1,hA2,hA3,hA4,bZ hM1 (by rw [show k=cx by omega];exact gg (bc cx Mx My) i j)⟩
  ·
   refine WP.exit ?_;refine pl.exit ?_;refine pl.exit ?_;refine iD.same ?_;refine iD.norm ?_;refine pl.norm ?_;refine WP.region ?_;refine RL.p rfl rfl (cj.move s7_e2) ?_;refine RL.p rfl rfl (cj.add (c:=((i + 1:Nat):Int)) rfl rfl (bT (by omega))) ?_;refine RL.p rfl rfl (cj.assign rfl) ?_;refine RL.nil ?_;refine pl.norm ⟨_,(by omega),i + 1,rfl,s2_e2,s3_e2,s4_e2,s5_e2,s6_e2,rfl,(by omega),hX2,hA1,hA2,hA3,hA4,cY.congr hM1 fun a c2 ha hc2=>lE _ i (by omega)⟩
 ·
  refine WP.exit ?_;refine pl.exit ?_;refine pl.exit ?_;refine iD.same ?_;refine pl.norm ?_;refine ab ?_;refine RL.p rfl rfl (af [.int .i64 ((rx:Nat)),.int .i64 ((cy:Nat)),.slice (some ⟨gh1,0,none⟩) (rx) (kh1)] aV s6_e1 (hA4.cells 0 _ rfl rfl)) ?_;refine RL.x rfl rfl (cQ.store [.int .i64 ((rx:Nat)),.int .i64 ((cy:Nat)),.slice (some ⟨gh1,0,none⟩) (rx) (kh1)] cR s4_e1 rfl rfl hA3 (Nat.le_of_ble_eq_true rfl) (cS rfl rfl rfl)) ?_;rintro _ w12 ⟨hk3,hnew⟩;replace hM1:=bk hM1 hk3 hA3 (by decide);replace hX1:=hX1.step hk3 (fun b e=>by subst e;exact hbs3);replace hA3:=hnew.lit [.int .i64 ((rx:Nat)),.int .i64 ((cy:Nat)),.slice (some ⟨gh1,0,none⟩) (rx) (kh1)] rfl;clear hnew;refine RL.p rfl rfl (cj.assign rfl) ?_;refine RL.nil ?_;refine WP.ret ?_;refine ⟨.tuple #[.agg #[.int .i64 ((rx:Nat)),.int .i64 ((cy:Nat)),.slice (some ⟨gh1,0,none⟩) (rx) (kh1)],.int .i64 (0)],dT (aj [.int .i64 ((rx:Nat)),.int .i64 ((cy:Nat)),.slice (some ⟨gh1,0,none⟩) (rx) (kh1)] aV s4_e1 (hA3.cells 0 _ rfl rfl)) (fw.tmp rfl),_,rfl,hX1,?_⟩;dsimp only;exact ⟨_,rfl,_,_,_,rfl,cY.congr (cY.low hM1 hBw1) fun a c2 ha hc2=>by rw [show i=rx by omega];exact fm _ c2 ha⟩
set_option maxRecDepth 10000 in
theorem lB (w:World) (x:Value) (rx cx:Nat) (Mx:Nat→Nat→Int) (btx:Nat) (y:Value) (ry cy:Nat) (My:Nat→Nat→Int) (bty:Nat) (b:Nat) (hx:bX w x rx cx Mx btx) (hy:bX w y ry cy My bty) (hxy:cx=ry) (hb:btx + bty + 1≤bj) (hb2:b + 1≤bj) (hfit:∀i j k,i<rx→j<cy→k≤cx→(av k (fun x=>Mx i x*My x j)).natAbs<2^b):Calls Tryz.prog 46 #[x,y] w (cc w fun v w'=>cO w' v w.heap.size rx cy (bc cx Mx My) b):=by
 have hLIM:bj=562949953421312:=rfl;have hmatx:=hx;obtain ⟨sx,rfl,hrx,hcx,hSx⟩:=hx.form;have hmaty:=hy;obtain ⟨sy,rfl,hry,hcy,hSy⟩:=hy.form;refine ai (N:=14) (rs:= #[.cell 4 28]) Tryz.func46 rfl rfl rfl (Nat.le_of_ble_eq_true rfl) ?_;have hX:aA w w:=aA.refl w;refine ab ?_;refine RL.x rfl rfl (cQ.box [.int .i64 ((rx:Nat)),.int .i64 ((cx:Nat)),sx] rfl rfl) ?_;rintro _ w1 ⟨g1,rfl,hge1,hx1,hA1⟩;replace hX:=aA.trans hX hx1;refine RL.x rfl rfl (cQ.box [.int .i64 ((ry:Nat)),.int .i64 ((cy:Nat)),sy] rfl rfl) ?_;rintro _ w2 ⟨g2,rfl,hge2,hx2,hA2⟩;replace hA1:=aY.ext hA1 hx2;replace hX:=aA.trans hX hx2;refine RL.x rfl rfl (cQ.alloc [.int .i64 (0),.int .i64 (0),.slice (none) (0) (0)] cn rfl) ?_;rintro _ w3 ⟨g3,rfl,hge3,hx3,hA3⟩;have hbs3:w.heap.size≤g3:=Nat.le_trans hX.size hge3;replace hA1:=aY.ext hA1 hx3;replace hA2:=aY.ext hA2 hx3;replace hX:=aA.trans hX hx3;refine RL.nil ?_;refine ab ?_;refine RL.p rfl rfl (af [.int .i64 ((rx:Nat)),.int .i64 ((cx:Nat)),sx] aV rfl (hA1.cells 0 _ rfl rfl)) ?_;refine RL.p rfl rfl (af [.int .i64 ((ry:Nat)),.int .i64 ((cy:Nat)),sy] aV rfl (hA2.cells 0 _ rfl rfl)) ?_;refine RL.x rfl rfl (cQ.call zc (aC rfl rfl) (ye _ _ _ _ _ _ _ _ _ _ _ b (bX.mk (ce.ext hSx hX) (by omega) (by omega)) (bX.mk (ce.ext hSy hX) (by omega) (by omega)) hxy hb hb2 hfit)) ?_;rintro _ w4 ⟨hx4,v1,rfl,q1⟩;have hBw1:w.heap.size≤w3.heap.size:=hX.size;replace hA3:=aY.ext hA3 hx4;replace hX:=aA.trans hX hx4;refine RL.p rfl rfl (cj.move rfl) ?_;refine RL.p rfl rfl (cj.extract rfl rfl) ?_;refine RL.p rfl rfl (cj.extract rfl rfl) ?_;refine RL.x rfl rfl (cQ.alloc [.int .i64 (0),.int .i64 (0),.slice (none) (0) (0)] cn rfl) ?_;rintro _ w5 ⟨g4,rfl,hge4,hx5,hA4⟩;have ne6:g3≠g4:=Nat.ne_of_lt (Nat.lt_of_lt_of_le hA3.lt hge4);have hbs4:w.heap.size≤g4:=Nat.le_trans hX.size hge4;replace hA3:=aY.ext hA3 hx5;replace q1:=cO.ext q1 hx5;replace hX:=aA.trans hX hx5;obtain ⟨gh1,kh1,ρ1,hq1,hM1⟩:=q1;have hd1:=cY.dlim hM1;have hd2:=cY.clim hM1;refine RL.x rfl rfl (cQ.store [.int .i64 ((rx:Nat)),.int .i64 ((cy:Nat)),.slice (some ⟨gh1,0,none⟩) (rx) (kh1)] cR rfl hq1 rfl hA4 (Nat.le_of_ble_eq_true rfl) (cS rfl rfl rfl)) ?_;rintro _ w6 ⟨hk1,hnew⟩;replace hM1:=bk hM1 hk1 hA4 (by decide);replace hA3:=hA3.keep hk1 ne6;replace hX:=hX.step hk1 (fun b e=>by subst e;exact hbs4);replace hA4:=hnew.lit [.int .i64 ((rx:Nat)),.int .i64 ((cy:Nat)),.slice (some ⟨gh1,0,none⟩) (rx) (kh1)] rfl;clear hnew;refine RL.p rfl rfl (cj.assign rfl) ?_;refine RL.nil ?_;refine ab ?_;refine RL.p rfl rfl (af [.int .i64 ((rx:Nat)),.int .i64 ((cy:Nat)),.slice (some ⟨gh1,0,none⟩) (rx) (kh1)] aV rfl (hA4.cells 0 _ rfl rfl)) ?_;refine RL.x rfl rfl (cQ.store [.int .i64 ((rx:Nat)),.int .i64 ((cy:Nat)),.slice (some ⟨gh1,0,none⟩) (rx) (kh1)] cR rfl rfl rfl hA3 (Nat.le_of_ble_eq_true rfl) (cS rfl rfl rfl)) ?_;rintro _ w7 ⟨hk2,hnew⟩;replace hM1:=bk hM1 hk2 hA3 (by decide);replace hX:=hX.step hk2 (fun b e=>by subst e;exact hbs3);replace hA3:=hnew.lit [.int .i64 ((rx:Nat)),.int .i64 ((cy:Nat)),.slice (some ⟨gh1,0,none⟩) (rx) (kh1)] rfl;clear hnew;refine RL.nil ?_;refine WP.ret ?_;refine ⟨.agg #[.int .i64 ((rx:Nat)),.int .i64 ((cy:Nat)),.slice (some ⟨gh1,0,none⟩) (rx) (kh1)],Am.one (aj [.int .i64 ((rx:Nat)),.int .i64 ((cy:Nat)),.slice (some ⟨gh1,0,none⟩) (rx) (kh1)] aV rfl (hA3.cells 0 _ rfl rfl)),_,rfl,hX,?_⟩;dsimp only;exact ⟨_,_,_,rfl,cY.low hM1 (hBw1)⟩
end Go.TL
namespace Go.TL
open Go.RowKit Go.Proofs
set_option linter.unusedVariables false
set_option linter.unusedSimpArgs false
set_option maxRecDepth 10000 in
theorem tn (w:World) (r:Nat) (c:Nat) (l:Value) (n:Nat) (f:Nat→Int) (hr:r≤16) (hc:c≤16) (hl:eH .i8 57 w l n f):Calls Tryz.prog 37 #[.int .i64 (r:Nat),.int .i64 (c:Nat),l] w (cc w fun v w'=>cO w' v w.heap.size r c (ed f n c) 4):=by
 have hLIM:bj=562949953421312:=rfl;have hln:n<9223372036854775808:=by obtain ⟨_,_,_,h2,h3,_⟩:=hl;omega
 refine ai (N:=60) (rs:= #[.cell 6 28]) Tryz.func37 rfl rfl rfl (Nat.le_of_ble_eq_true rfl) ?_;have hX:aA w w:=aA.refl w;refine ab ?_;refine RL.x rfl rfl (cQ.alloc [.int .i64 (0),.int .i64 (0),.slice (none) (0) (0)] cn rfl) ?_;rintro _ w1 ⟨g1,rfl,hge1,hx1,hA1⟩;have hbs1:w.heap.size≤g1:=Nat.le_trans hX.size hge1;replace hX:=aA.trans hX hx1;refine RL.nil ?_;refine ab ?_;refine RL.p rfl rfl (cj.move rfl) ?_;refine RL.p rfl rfl (cj.max (c:=((r:Nat):Int)) rfl rfl (by omega)) ?_;refine RL.p rfl rfl (cj.min (c:=((r:Nat):Int)) rfl rfl (by omega)) ?_;refine RL.p rfl rfl (cj.move rfl) ?_;refine RL.p rfl rfl (cj.max (c:=((c:Nat):Int)) rfl rfl (by omega)) ?_;refine RL.p rfl rfl (cj.min (c:=((c:Nat):Int)) rfl rfl (by omega)) ?_;have hBw1:w.heap.size≤w1.heap.size:=hX.size;refine RL.x rfl rfl (cQ.call pI (aC rfl rfl) (pU _ r c 4 (by omega) (by omega) (by omega))) ?_;rintro v1 w2 ⟨hx2,q1⟩;replace hA1:=aY.ext hA1 hx2;replace hX:=aA.trans hX hx2;refine RL.x rfl rfl (cQ.alloc [.int .i64 (0),.int .i64 (0),.slice (none) (0) (0)] cn rfl) ?_;rintro _ w3 ⟨g2,rfl,hge2,hx3,hA2⟩;have ne1:g1≠g2:=Nat.ne_of_lt (Nat.lt_of_lt_of_le hA1.lt hge2);have hbs2:w.heap.size≤g2:=Nat.le_trans hX.size hge2;replace hA1:=aY.ext hA1 hx3;replace q1:=cO.ext q1 hx3;replace hX:=aA.trans hX hx3;obtain ⟨gh1,kh1,ρ1,hq1,hM1⟩:=q1;have hd1:=cY.dlim hM1;have hd2:=cY.clim hM1;refine RL.x rfl rfl (cQ.store [.int .i64 ((r:Nat)),.int .i64 ((c:Nat)),.slice (some ⟨gh1,0,none⟩) (r) (kh1)] cR rfl hq1 rfl hA2 (Nat.le_of_ble_eq_true rfl) (cS rfl rfl rfl)) ?_;rintro _ w4 ⟨hk1,hnew⟩;replace hM1:=bk hM1 hk1 hA2 (by decide);replace hA1:=hA1.keep hk1 ne1;replace hX:=hX.step hk1 (fun b e=>by subst e;exact hbs2);replace hA2:=hnew.lit [.int .i64 ((r:Nat)),.int .i64 ((c:Nat)),.slice (some ⟨gh1,0,none⟩) (r) (kh1)] rfl;clear hnew;refine RL.nil ?_;refine WP.seq ?_;refine ab ?_;refine RL.p rfl rfl (cj.assign rfl) ?_;refine RL.nil ?_;refine WP.block ?_;refine WP.loop (fun mz ez uz=>∃i:Nat,(mz=r - i)∧(ez 2=l)∧(ez 6= .pointer (some ⟨g1,0,none⟩))∧(ez 7= .pointer (some ⟨g2,0,none⟩))∧(ez 8= .int .i64 ((i:Nat)))∧(i≤r)∧(aA w uz)∧(aY uz g1 28 3 (bU [.int .i64 (0),.int .i64 (0),.slice (none) (0) (0)]))∧(aY uz g2 28 3 (bU [.int .i64 ((r:Nat)),.int .i64 ((c:Nat)),.slice (some ⟨gh1,0,none⟩) (r) (kh1)]))∧(cY uz w1.heap.size gh1 kh1 r c ρ1 (cG (ed f n c) i 0) 4)) (r - 0) ?_ ?_
 · exact ⟨0,rfl,rfl,rfl,rfl,rfl,(by omega),hX,hA1,hA2,bZ hM1 (iK (ed f n c))⟩
 rintro m1 e1 w5 ⟨i,hm1,s2_e1,s6_e1,s7_e1,s8_e1,hi,hX1,hA1,hA2,hM1⟩;refine WP.seq ?_;refine ab ?_;refine RL.p rfl rfl (cj.move s8_e1) ?_;refine RL.p rfl rfl (cj.fieldAddr aX s7_e1) ?_;refine RL.p rfl rfl (cj.load bD rfl (hA2.at_ (i:=0) rfl rfl)) ?_;refine RL.p rfl rfl (cj.lss rfl rfl) ?_;refine RL.nil ?_;refine ae (((i:Nat):Int)<((r:Nat):Int)) rfl (fun c20=> ?_) (fun c20=> ?_)
 ·
  refine WP.skip ?_;refine pl.norm ?_;refine WP.seq ?_;refine WP.block ?_;refine ab ?_;refine RL.p rfl rfl (cj.assign rfl) ?_;refine RL.nil ?_;refine WP.block ?_;refine WP.loop (fun mz ez uz=>∃j:Nat,(mz=c - j)∧(ez 2=l)∧(ez 6= .pointer (some ⟨g1,0,none⟩))∧(ez 7= .pointer (some ⟨g2,0,none⟩))∧(ez 8= .int .i64 ((i:Nat)))∧(ez 9= .int .i64 ((j:Nat)))∧(j≤c)∧(aA w uz)∧(aY uz g1 28 3 (bU [.int .i64 (0),.int .i64 (0),.slice (none) (0) (0)]))∧(aY uz g2 28 3 (bU [.int .i64 ((r:Nat)),.int .i64 ((c:Nat)),.slice (some ⟨gh1,0,none⟩) (r) (kh1)]))∧(cY uz w1.heap.size gh1 kh1 r c ρ1 (cG (ed f n c) i j) 4)) (c - 0) ?_ ?_
  · exact ⟨0,rfl,s2_e1,s6_e1,s7_e1,s8_e1,rfl,(by omega),hX1,hA1,hA2,hM1⟩
  rintro m2 e2 w6 ⟨j,hm2,s2_e2,s6_e2,s7_e2,s8_e2,s9_e2,hj,hX2,hA1,hA2,hM1⟩;have hic:i*c≤16*16:=Nat.mul_le_mul (by omega) (by omega);refine WP.seq ?_;refine aF am 15 [_,_,_,_,fun v AW=>v= .bool (decide (((j:Nat):Int)<((c:Nat):Int))),_,_,_,_,_,_,_,_,_,_] rfl rfl (fun e_ w_ AV AU=>⟨fun _=>aa (cj.move ((AU 9 rfl s9_e2))),fun _=>aa (cj.fieldAddr bC ((AU 7 rfl s7_e2))),fun AT=>aa (cj.load bD ((AT 1 rfl)) ((aY.ext hA2 AV).at_ (i:=1) rfl rfl)),fun AT=>aa (cj.lss ((AT 0 rfl)) ((AT 2 rfl))),fun AT=>aa (cj.move ((AT 3 rfl))),fun AT=>gT (AT 4 rfl) fun hg=>aa (cj.move ((AU 8 rfl s8_e2))),fun AT=>gT (AT 4 rfl) fun hg=>aa (cj.fieldAddr bC ((AU 7 rfl s7_e2))),fun AT=>gT (AT 4 rfl) fun hg=>aa (cj.load bD ((AT 6 rfl hg)) ((aY.ext hA2 AV).at_ (i:=1) rfl rfl)),fun AT=>gT (AT 4 rfl) fun hg=>aa (cj.mul (c:=((i*c:Nat):Int)) ((AT 5 rfl hg)) ((AT 7 rfl hg)) (bT (by omega))),fun AT=>gT (AT 4 rfl) fun hg=>aa (cj.move ((AU 9 rfl s9_e2))),fun AT=>gT (AT 4 rfl) fun hg=>aa (cj.add (c:=(((i*c) + j:Nat):Int)) ((AT 8 rfl hg)) ((AT 9 rfl hg)) (bT (by omega))),fun AT=>gT (AT 4 rfl) fun hg=>aa (cj.move ((AU 2 rfl s2_e2))),fun AT=>gT (AT 4 rfl) fun hg=>aa (kP wL (AT 11 rfl hg) (eH.ext (eH.ext hl hX2) AV)),fun AT=>gT (AT 4 rfl) fun hg=>aa (cj.lss ((AT 10 rfl hg)) ((AT 12 rfl hg))),fun AT=>aa (au (p:=((j:Nat):Int)<((c:Nat):Int)) (q:=((((i*c) + j:Nat):Int):Int)<((n:Nat):Int)) (AT 4 rfl) (fun hq=>(AT 13 rfl hq))),trivial⟩) ?_;intro e3 w7 hx4 ho1 hf1;replace hA1:=aY.ext hA1 hx4;replace hA2:=aY.ext hA2 hx4;replace hM1:=cY.ext hM1 hx4;replace hX2:=aA.trans hX2 hx4;have s2_e3:=ho1 2 rfl s2_e2;have s6_e3:=ho1 6 rfl s6_e2;have s7_e3:=ho1 7 rfl s7_e2;have s8_e3:=ho1 8 rfl s8_e2;have s9_e3:=ho1 9 rfl s9_e2;have s37_e3:e3 37=_:=hf1 14 rfl;refine RL.nil ?_;refine ae ((((j:Nat):Int)<((c:Nat):Int))∧(((((i*c) + j:Nat):Int):Int)<((n:Nat):Int))) s37_e3 (fun c37=> ?_) (fun c37=> ?_)
  ·
   refine WP.skip ?_;refine pl.norm ?_;refine WP.seq ?_;refine WP.block ?_;refine WP.ds am 19 [_,_,_,_,_,_,_,_,_,_,_,_,_,_,_,_,_,_,_] rfl rfl (fun e_ w_ AV AU=>⟨fun _=>aa (cj.fieldAddr aw ((AU 7 rfl s7_e3))),fun AT=>aa (cj.load aU ((AT 0 rfl)) ((aY.ext hA2 AV).at_ (i:=2) rfl rfl)),fun _=>aa (cj.move ((AU 8 rfl s8_e3))),fun AT=>aa (cj.index (j:=i) aK ((AT 1 rfl)) ((AT 2 rfl)) rfl (by omega) (by omega)),fun AT=>ag (aG (i:=i) bn (AT 3 rfl) (cY.ext hM1 AV) (by omega)),fun _=>aa (cj.move ((AU 9 rfl s9_e3))),fun _=>aa (cj.move ((AU 2 rfl s2_e3))),fun _=>aa (cj.move ((AU 8 rfl s8_e3))),fun _=>aa (cj.fieldAddr bC ((AU 7 rfl s7_e3))),fun AT=>aa (cj.load bD ((AT 8 rfl)) ((aY.ext hA2 AV).at_ (i:=1) rfl rfl)),fun AT=>aa (cj.mul (c:=((i*c:Nat):Int)) ((AT 7 rfl)) ((AT 9 rfl)) (bT (by omega))),fun _=>aa (cj.move ((AU 9 rfl s9_e3))),fun AT=>aa (cj.add (c:=(((i*c) + j:Nat):Int)) ((AT 10 rfl)) ((AT 11 rfl)) (bT (by omega))),fun AT=>ag (iz (j:=(i*c) + j) wL (AT 6 rfl) (eH.ext (eH.ext hl hX2) AV) (AT 12 rfl) (by omega) (by omega)),fun AT=>aa (jp yQ rfl (AT 13 rfl)),fun AT=>aa (cj.rem (c:=(f (i*c + j)).tmod 10) ((AT 14 rfl)) rfl (by omega) rfl),fun AT=>aa (az (c:=(f (i*c + j)).tmod 10) yT qX ((AT 15 rfl)) (bT ⟨(oC _).1,Int.le_of_lt_add_one (oC _).2,rfl⟩)),fun AT=>cQ.call lm (aL ((AT 16 rfl))) (rg ((f (i*c + j)).tmod 10) (4) _ (oC _) (wN _) (by decide)),fun AT=>aa (aR (j:=j) bE (AT 4 rfl) rfl (AT 5 rfl) (by omega) (by omega)),trivial⟩) ?_;intro e4 w8 hx5 ho2 hf2;replace hA1:=aY.ext hA1 hx5;replace hA2:=aY.ext hA2 hx5;replace hM1:=cY.ext hM1 hx5;replace hX2:=aA.trans hX2 hx5;have s2_e4:=ho2 2 rfl s2_e3;have s6_e4:=ho2 6 rfl s6_e3;have s7_e4:=ho2 7 rfl s7_e3;have s8_e4:=ho2 8 rfl s8_e3;have s9_e4:=ho2 9 rfl s9_e3;have s57_e4:ak w8 (e4 57) ((f (i*c + j)).tmod 10) 4:=hf2 17 rfl;have s58_e4:e4 58=_:=hf2 18 rfl;refine RL.x rfl rfl (cU (i:=i) (j:=j) bf s58_e4 rfl (ak.eq s57_e4 (ui (n:=n) (by omega)) (nY _ _ _ _ _) (by decide)) hM1 (by omega) (by omega)) ?_;rintro _ w9 ⟨hk2,hN1⟩;have hR1:=cY.row (i:=i) hM1 (by omega);replace hA1:=bF hA1 hk2 hR1 (by decide);replace hA2:=bF hA2 hk2 hR1 (by decide);replace hX2:=hX2.step hk2 (fun b e=>by subst e;exact (Nat.le_trans hBw1 (cY.rowB (i:=i) hM1 (by omega))));replace hM1:=hN1;clear hR1;refine RL.nil ?_;refine iD.norm ?_;refine pl.norm ?_;refine WP.region ?_;refine RL.p rfl rfl (cj.move s9_e4) ?_;refine RL.p rfl rfl (cj.add (c:=((j + 1:Nat):Int)) rfl rfl (bT (by omega))) ?_;refine RL.p rfl rfl (cj.assign rfl) ?_;refine RL.nil ?_;refine pl.norm ⟨_,(by omega),j + 1,rfl,s2_e4,s6_e4,s7_e4,s8_e4,rfl,(by omega),hX2,hA1,hA2,bZ hM1 (gg (ed f n c) i j)⟩
  ·
   refine WP.exit ?_;refine pl.exit ?_;refine pl.exit ?_;refine iD.same ?_;refine iD.norm ?_;refine pl.norm ?_;refine WP.region ?_;refine RL.p rfl rfl (cj.move s8_e3) ?_;refine RL.p rfl rfl (cj.add (c:=((i + 1:Nat):Int)) rfl rfl (bT (by omega))) ?_;refine RL.p rfl rfl (cj.assign rfl) ?_;refine RL.nil ?_;refine pl.norm ⟨_,(by omega),i + 1,rfl,s2_e3,s6_e3,s7_e3,rfl,(by omega),hX2,hA1,hA2,cY.congr hM1 fun a c2 ha hc2=>lD (fun e he hec=>by unfold ed;rw [if_neg (by omega)]) hc2⟩
 ·
  refine WP.exit ?_;refine pl.exit ?_;refine pl.exit ?_;refine iD.same ?_;refine pl.norm ?_;refine ab ?_;refine RL.p rfl rfl (af [.int .i64 ((r:Nat)),.int .i64 ((c:Nat)),.slice (some ⟨gh1,0,none⟩) (r) (kh1)] aV s7_e1 (hA2.cells 0 _ rfl rfl)) ?_;refine RL.x rfl rfl (cQ.store [.int .i64 ((r:Nat)),.int .i64 ((c:Nat)),.slice (some ⟨gh1,0,none⟩) (r) (kh1)] cR s6_e1 rfl rfl hA1 (Nat.le_of_ble_eq_true rfl) (cS rfl rfl rfl)) ?_;rintro _ w10 ⟨hk3,hnew⟩;replace hM1:=bk hM1 hk3 hA1 (by decide);replace hX1:=hX1.step hk3 (fun b e=>by subst e;exact hbs1);replace hA1:=hnew.lit [.int .i64 ((r:Nat)),.int .i64 ((c:Nat)),.slice (some ⟨gh1,0,none⟩) (r) (kh1)] rfl;clear hnew;refine RL.nil ?_;refine WP.ret ?_;refine ⟨.agg #[.int .i64 ((r:Nat)),.int .i64 ((c:Nat)),.slice (some ⟨gh1,0,none⟩) (r) (kh1)],Am.one (aj [.int .i64 ((r:Nat)),.int .i64 ((c:Nat)),.slice (some ⟨gh1,0,none⟩) (r) (kh1)] aV s6_e1 (hA1.cells 0 _ rfl rfl)),_,rfl,hX1,?_⟩;dsimp only;exact ⟨_,_,_,rfl,cY.congr (cY.low hM1 hBw1) fun a c2 ha hc2=>by rw [show i=r by omega];exact fm _ c2 ha⟩
end Go.TL
namespace Go.TL
open Go.RowKit Go.Proofs
set_option linter.unusedVariables false
set_option linter.unusedSimpArgs false
set_option maxRecDepth 10000 in
theorem oL (w:World) (x:Value) (nx:Nat) (zx:Nat→Int) (btx:Nat) (hx:bi w x nx zx btx):Calls Tryz.prog 89 #[x] w (cc w fun v w'=>v= .bool (decide True)):=by
 have hLIM:bj=562949953421312:=rfl;have hlimx:=hx.lim;refine ai (N:=16) (rs:= #[.tmp 2]) Tryz.func89 rfl rfl rfl (Nat.le_of_ble_eq_true rfl) ?_;have hX:aA w w:=aA.refl w;refine ab ?_;refine RL.p rfl rfl (cj.assign rfl) ?_;refine RL.nil ?_;refine WP.seq ?_;refine ab ?_;refine RL.p rfl rfl (cj.assign rfl) ?_;refine RL.nil ?_;refine WP.block ?_;refine WP.loop (fun mz ez uz=>∃i:Nat,(mz=nx - i)∧(ez 0=x)∧(ez 3= .int .i64 ((i:Nat)))∧(i≤nx)∧(aA w uz)) (nx - 0) ?_ ?_
 · exact ⟨0,rfl,rfl,rfl,(by omega),hX⟩
 rintro m1 e1 w1 ⟨i,hm1,s0_e1,s3_e1,hi,hX1⟩;refine WP.seq ?_;refine ab ?_;refine RL.p rfl rfl (cj.move s3_e1) ?_;refine RL.p rfl rfl (cj.move s0_e1) ?_;refine RL.p rfl rfl (bW cA rfl (bi.ext hx hX1)) ?_;refine RL.p rfl rfl (cj.lss rfl rfl) ?_;refine RL.nil ?_;refine ae (((i:Nat):Int)<((nx:Nat):Int)) rfl (fun c7=> ?_) (fun c7=> ?_)
 ·
  refine WP.skip ?_;refine pl.norm ?_;refine WP.seq ?_;refine WP.block ?_;refine ab ?_;refine RL.p rfl rfl (cj.move s0_e1) ?_;refine RL.p rfl rfl (cj.move s3_e1) ?_;refine RL.x rfl rfl (aM (j:=i) cA rfl (bi.ext hx hX1) rfl (by omega) (by omega)) ?_;rintro v1 _ ⟨rfl,q1⟩;refine RL.x rfl rfl (aO aq rfl q1) ?_;rintro v2 _ ⟨rfl,q2⟩;refine RL.x rfl rfl (cQ.call xM (aL rfl) (vv _ _ _ _ q2)) ?_;rintro _ w2 ⟨hx1,rfl⟩;replace hX1:=aA.trans hX1 hx1;refine RL.p rfl rfl (cj.not (p:=True) rfl) ?_;refine RL.nil ?_;refine ae (¬(True)) rfl (fun c15=> ?_) (fun c15=> ?_)
  ·
   refine ab ?_;refine RL.p rfl rfl (cj.assign rfl) ?_;refine RL.nil ?_;refine WP.ret ?_;refine iD.ret ?_;refine pl.ret ?_;refine pl.ret ?_;refine iD.ret ?_;refine pl.ret ?_;refine ⟨.bool (false),Am.one (fw.tmp rfl),_,rfl,hX1,?_⟩;dsimp only;exact absurd trivial c15
  ·
   refine WP.skip ?_;refine iD.norm ?_;refine pl.norm ?_;refine WP.region ?_;refine RL.p rfl rfl (cj.move s3_e1) ?_;refine RL.p rfl rfl (cj.add (c:=((i + 1:Nat):Int)) rfl rfl (bT (by omega))) ?_;refine RL.p rfl rfl (cj.assign rfl) ?_;refine RL.nil ?_;refine pl.norm ⟨_,(by omega),i + 1,rfl,s0_e1,rfl,(by omega),hX1⟩
 ·
  refine WP.exit ?_;refine pl.exit ?_;refine pl.exit ?_;refine iD.same ?_;refine pl.norm ?_;refine ab ?_;refine RL.p rfl rfl (cj.assign rfl) ?_;refine RL.nil ?_;refine WP.ret ?_;refine ⟨.bool (true),Am.one (fw.tmp rfl),_,rfl,hX1,?_⟩
  rfl
set_option maxRecDepth 10000 in
theorem jZ (w:World) (x:Value) (rx cx:Nat) (Mx:Nat→Nat→Int) (btx:Nat) (hx:bX w x rx cx Mx btx):Calls Tryz.prog 44 #[x] w (cc w fun v w'=>v= .bool (decide True)):=by
 have hLIM:bj=562949953421312:=rfl;have hmatx:=hx;obtain ⟨sx,rfl,hrx,hcx,hSx⟩:=hx.form;refine ai (N:=45) (rs:= #[.tmp 2]) Tryz.func44 rfl rfl rfl (Nat.le_of_ble_eq_true rfl) ?_;have hX:aA w w:=aA.refl w;refine ab ?_;refine RL.x rfl rfl (cQ.box [.int .i64 ((rx:Nat)),.int .i64 ((cx:Nat)),sx] rfl rfl) ?_;rintro _ w1 ⟨g1,rfl,hge1,hx1,hA1⟩;replace hX:=aA.trans hX hx1;refine RL.p rfl rfl (cj.assign rfl) ?_;refine RL.nil ?_;refine WP.seq ?_;refine aF am 16 [_,_,_,fun v AW=>v= .bool (decide (((rx:Nat):Int)<(0:Int))),_,_,_,_,fun v AW=>v= .bool (decide ((((rx:Nat):Int)<(0:Int))∨(((cx:Nat):Int)<(0:Int)))),_,_,_,_,_,_,_] rfl rfl (fun e_ w_ AV AU=>⟨fun _=>aa (cj.fieldAddr aX ((AU 1 rfl rfl))),fun AT=>aa (cj.load bD ((AT 0 rfl)) ((aY.ext hA1 AV).at_ (i:=0) rfl rfl)),fun AT=>aa (cj.lss ((AT 1 rfl)) rfl),fun AT=>aa (cj.move ((AT 2 rfl))),fun AT=>gF (AT 3 rfl) fun hg=>aa (cj.fieldAddr bC ((AU 1 rfl rfl))),fun AT=>gF (AT 3 rfl) fun hg=>aa (cj.load bD ((AT 4 rfl hg)) ((aY.ext hA1 AV).at_ (i:=1) rfl rfl)),fun AT=>gF (AT 3 rfl) fun hg=>aa (cj.lss ((AT 5 rfl hg)) rfl),fun AT=>aa (aP (p:=((rx:Nat):Int)<(0:Int)) (q:=((cx:Nat):Int)<(0:Int)) (AT 3 rfl) (fun hq=>(AT 6 rfl hq))),fun AT=>aa (cj.move ((AT 7 rfl))),fun AT=>gF (AT 8 rfl) fun hg=>aa (cj.fieldAddr aw ((AU 1 rfl rfl))),fun AT=>gF (AT 8 rfl) fun hg=>aa (cj.load aU ((AT 9 rfl hg)) ((aY.ext hA1 AV).at_ (i:=2) rfl rfl)),fun AT=>gF (AT 8 rfl) fun hg=>aa (cd aK (AT 10 rfl hg) (ce.ext (ce.ext hSx hX) AV)),fun AT=>gF (AT 8 rfl) fun hg=>aa (cj.fieldAddr aX ((AU 1 rfl rfl))),fun AT=>gF (AT 8 rfl) fun hg=>aa (cj.load bD ((AT 12 rfl hg)) ((aY.ext hA1 AV).at_ (i:=0) rfl rfl)),fun AT=>gF (AT 8 rfl) fun hg=>aa (cj.neq ((AT 11 rfl hg)) ((AT 13 rfl hg))),fun AT=>aa (aP (p:=(((rx:Nat):Int)<(0:Int))∨(((cx:Nat):Int)<(0:Int))) (q:=((rx:Nat):Int)≠((rx:Nat):Int)) (AT 8 rfl) (fun hq=>(AT 14 rfl hq))),trivial⟩) ?_;intro e1 w2 hx2 ho1 hf1;replace hA1:=aY.ext hA1 hx2;replace hX:=aA.trans hX hx2;have s1_e1:e1 1=_:=ho1 1 rfl rfl;have s19_e1:e1 19=_:=hf1 15 rfl;refine RL.nil ?_;refine ae (((((rx:Nat):Int)<(0:Int))∨(((cx:Nat):Int)<(0:Int)))∨(((rx:Nat):Int)≠((rx:Nat):Int))) s19_e1 (fun c19=> ?_) (fun c19=> ?_)
 ·
  refine ab ?_;refine RL.p rfl rfl (cj.assign rfl) ?_;refine RL.nil ?_;refine WP.ret ?_;refine pl.ret ?_;refine ⟨.bool (false),Am.one (fw.tmp rfl),_,rfl,hX,?_⟩;dsimp only;exfalso;omega
 ·
  refine WP.skip ?_;refine pl.norm ?_;refine WP.seq ?_;refine ab ?_;refine RL.p rfl rfl (cj.assign rfl) ?_;refine RL.nil ?_;refine WP.block ?_;refine WP.loop (fun mz ez uz=>∃i:Nat,(mz=rx - i)∧(ez 1= .pointer (some ⟨g1,0,none⟩))∧(ez 3= .int .i64 ((i:Nat)))∧(i≤rx)∧(aA w uz)∧(aY uz g1 28 3 (bU [.int .i64 ((rx:Nat)),.int .i64 ((cx:Nat)),sx]))) (rx - 0) ?_ ?_
  · exact ⟨0,rfl,s1_e1,rfl,(by omega),hX,hA1⟩
  rintro m1 e2 w3 ⟨i,hm1,s1_e2,s3_e2,hi,hX1,hA1⟩;refine WP.seq ?_;refine ab ?_;refine RL.p rfl rfl (cj.move s3_e2) ?_;refine RL.p rfl rfl (cj.fieldAddr aw s1_e2) ?_;refine RL.p rfl rfl (cj.load aU rfl (hA1.at_ (i:=2) rfl rfl)) ?_;refine RL.p rfl rfl (cd aK rfl (ce.ext hSx hX1)) ?_;refine RL.p rfl rfl (cj.lss rfl rfl) ?_;refine RL.nil ?_;refine ae (((i:Nat):Int)<((rx:Nat):Int)) rfl (fun c24=> ?_) (fun c24=> ?_)
  ·
   refine WP.skip ?_;refine pl.norm ?_;refine WP.seq ?_;refine WP.block ?_;refine aF am 18 [_,_,_,_,_,_,_,_,_,fun v AW=>v= .bool (decide (((cx:Nat):Int)≠((cx:Nat):Int))),_,_,_,_,_,fun v AW=>(¬(((cx:Nat):Int)≠((cx:Nat):Int)))→(v= .bool (decide (True))),_,_] rfl rfl (fun e_ w_ AV AU=>⟨fun _=>aa (cj.fieldAddr aw ((AU 1 rfl s1_e2))),fun AT=>aa (cj.load aU ((AT 0 rfl)) ((aY.ext hA1 AV).at_ (i:=2) rfl rfl)),fun _=>aa (cj.move ((AU 3 rfl s3_e2))),fun AT=>ag (aJ (j:=i) aK (AT 1 rfl) (ce.ext (ce.ext hSx hX1) AV) (AT 2 rfl) (by omega) (by omega)),fun AT=>ag (aI bn rfl (AT 3 rfl)),fun AT=>aa (bW bE rfl (AT 4 rfl)),fun _=>aa (cj.fieldAddr bC ((AU 1 rfl s1_e2))),fun AT=>aa (cj.load bD ((AT 6 rfl)) ((aY.ext hA1 AV).at_ (i:=1) rfl rfl)),fun AT=>aa (cj.neq ((AT 5 rfl)) ((AT 7 rfl))),fun AT=>aa (cj.move ((AT 8 rfl))),fun AT=>gF (AT 9 rfl) fun hg=>aa (cj.fieldAddr aw ((AU 1 rfl s1_e2))),fun AT=>gF (AT 9 rfl) fun hg=>aa (cj.load aU ((AT 10 rfl hg)) ((aY.ext hA1 AV).at_ (i:=2) rfl rfl)),fun AT=>gF (AT 9 rfl) fun hg=>aa (cj.move ((AU 3 rfl s3_e2))),fun AT=>gF (AT 9 rfl) fun hg=>ag (aJ (j:=i) aK (AT 11 rfl hg) (ce.ext (ce.ext hSx hX1) AV) (AT 12 rfl hg) (by omega) (by omega)),fun AT=>gF (AT 9 rfl) fun hg=>ag (aI bn rfl (AT 13 rfl hg)),fun AT=>gF (AT 9 rfl) fun hg=>cQ.call zd (aL rfl) (oL _ _ _ _ _ (AT 14 rfl hg)),fun AT=>gF (AT 9 rfl) fun hg=>aa (cj.not (p:=True) (AT 15 rfl hg)),fun AT=>aa (aP (p:=((cx:Nat):Int)≠((cx:Nat):Int)) (q:=¬(True)) (AT 9 rfl) (fun hq=>(AT 16 rfl hq))),trivial⟩) ?_;intro e3 w4 hx3 ho2 hf2;replace hA1:=aY.ext hA1 hx3;replace hX1:=aA.trans hX1 hx3;have s1_e3:=ho2 1 rfl s1_e2;have s3_e3:=ho2 3 rfl s3_e2;have s44_e3:e3 44=_:=hf2 17 rfl;refine RL.nil ?_;refine ae ((((cx:Nat):Int)≠((cx:Nat):Int))∨(¬(True))) s44_e3 (fun c44=> ?_) (fun c44=> ?_)
   ·
    refine ab ?_;refine RL.p rfl rfl (cj.assign rfl) ?_;refine RL.nil ?_;refine WP.ret ?_;refine iD.ret ?_;refine pl.ret ?_;refine pl.ret ?_;refine iD.ret ?_;refine pl.ret ?_;refine ⟨.bool (false),Am.one (fw.tmp rfl),_,rfl,hX1,?_⟩;dsimp only;exact c44.elim (fun h=>absurd rfl h) (fun h=>absurd trivial h)
   ·
    refine WP.skip ?_;refine iD.norm ?_;refine pl.norm ?_;refine WP.region ?_;refine RL.p rfl rfl (cj.move s3_e3) ?_;refine RL.p rfl rfl (cj.add (c:=((i + 1:Nat):Int)) rfl rfl (bT (by omega))) ?_;refine RL.p rfl rfl (cj.assign rfl) ?_;refine RL.nil ?_;refine pl.norm ⟨_,(by omega),i + 1,rfl,s1_e3,rfl,(by omega),hX1,hA1⟩
  ·
   refine WP.exit ?_;refine pl.exit ?_;refine pl.exit ?_;refine iD.same ?_;refine pl.norm ?_;refine ab ?_;refine RL.p rfl rfl (cj.assign rfl) ?_;refine RL.nil ?_;refine WP.ret ?_;refine ⟨.bool (true),Am.one (fw.tmp rfl),_,rfl,hX1,?_⟩
   rfl
set_option maxRecDepth 10000 in
theorem iI (w:World) (x:Value) (nx:Nat) (zx:Nat→Int) (btx:Nat) (y:Value) (ny:Nat) (zy:Nat→Int) (bty:Nat) (hx:bi w x nx zx btx) (hy:bi w y ny zy bty):Calls Tryz.prog 24 #[x,y] w (cc w fun v w'=>v= .bool (decide (ay nx ny zx zy))):=by
 have hLIM:bj=562949953421312:=rfl;have hlimx:=hx.lim;have hlimy:=hy.lim;refine ai (N:=27) (rs:= #[.tmp 4]) Tryz.func24 rfl rfl rfl (Nat.le_of_ble_eq_true rfl) ?_;have hX:aA w w:=aA.refl w;refine ab ?_;refine RL.p rfl rfl (cj.assign rfl) ?_;refine RL.nil ?_;refine WP.seq ?_;refine ab ?_;refine RL.p rfl rfl (cj.move rfl) ?_;refine RL.p rfl rfl (bW cA rfl (bi.ext hx hX)) ?_;refine RL.p rfl rfl (cj.move rfl) ?_;refine RL.p rfl rfl (bW cA rfl (bi.ext hy hX)) ?_;refine RL.p rfl rfl (cj.neq rfl rfl) ?_;refine RL.nil ?_;refine ae (((nx:Nat):Int)≠((ny:Nat):Int)) rfl (fun c10=> ?_) (fun c10=> ?_)
 ·
  refine ab ?_;refine RL.p rfl rfl (cj.assign rfl) ?_;refine RL.nil ?_;refine WP.ret ?_;refine pl.ret ?_;refine ⟨.bool (false),Am.one (fw.tmp rfl),_,rfl,hX,?_⟩;dsimp only;rw [nI (by omega)]
 ·
  refine WP.skip ?_;refine pl.norm ?_;refine WP.seq ?_;refine ab ?_;refine RL.p rfl rfl (cj.assign rfl) ?_;refine RL.nil ?_;refine WP.block ?_;refine WP.loop (fun mz ez uz=>∃i:Nat,(mz=nx - i)∧(ez 0=x)∧(ez 1=y)∧(ez 5= .int .i64 ((i:Nat)))∧(i≤nx)∧(∀j,j<i→zx j=zy j)∧(aA w uz)) (nx - 0) ?_ ?_
  · exact ⟨0,rfl,rfl,rfl,rfl,(by omega),(fun j hj=>by omega),hX⟩
  rintro m1 e1 w1 ⟨i,hm1,s0_e1,s1_e1,s5_e1,hi,heq,hX1⟩;refine WP.seq ?_;refine ab ?_;refine RL.p rfl rfl (cj.move s5_e1) ?_;refine RL.p rfl rfl (cj.move s0_e1) ?_;refine RL.p rfl rfl (bW cA rfl (bi.ext hx hX1)) ?_;refine RL.p rfl rfl (cj.lss rfl rfl) ?_;refine RL.nil ?_;refine ae (((i:Nat):Int)<((nx:Nat):Int)) rfl (fun c14=> ?_) (fun c14=> ?_)
  ·
   refine WP.skip ?_;refine pl.norm ?_;refine WP.seq ?_;refine WP.block ?_;refine aF am 10 [_,_,_,_,_,_,_,_,fun v AW=>v= .bool (decide ((zx i:Int)=(zy i:Int))),_] rfl rfl (fun e_ w_ AV AU=>⟨fun _=>aa (cj.move ((AU 0 rfl s0_e1))),fun _=>aa (cj.move ((AU 5 rfl s5_e1))),fun AT=>ag (aM (j:=i) cA (AT 0 rfl) (bi.ext (bi.ext hx hX1) AV) (AT 1 rfl) (by omega) (by omega)),fun AT=>ag (aO aq rfl (AT 2 rfl)),fun _=>aa (cj.move ((AU 1 rfl s1_e1))),fun _=>aa (cj.move ((AU 5 rfl s5_e1))),fun AT=>ag (aM (j:=i) cA (AT 4 rfl) (bi.ext (bi.ext hy hX1) AV) (AT 5 rfl) (by omega) (by omega)),fun AT=>ag (aO aq rfl (AT 6 rfl)),fun AT=>cQ.call wX (aC rfl rfl) (ti _ _ _ _ _ _ _ ((AT 3 rfl)) ((AT 7 rfl))),fun AT=>aa (cj.not (p:=(zx i:Int)=(zy i:Int)) (AT 8 rfl)),trivial⟩) ?_;intro e2 w2 hx1 ho1 hf1;replace hX1:=aA.trans hX1 hx1;have s0_e2:=ho1 0 rfl s0_e1;have s1_e2:=ho1 1 rfl s1_e1;have s5_e2:=ho1 5 rfl s5_e1;have s26_e2:e2 26=_:=hf1 9 rfl;refine RL.nil ?_;refine ae (¬((zx i:Int)=(zy i:Int))) s26_e2 (fun c26=> ?_) (fun c26=> ?_)
   ·
    refine ab ?_;refine RL.p rfl rfl (cj.assign rfl) ?_;refine RL.nil ?_;refine WP.ret ?_;refine iD.ret ?_;refine pl.ret ?_;refine pl.ret ?_;refine iD.ret ?_;refine pl.ret ?_;refine ⟨.bool (false),Am.one (fw.tmp rfl),_,rfl,hX1,?_⟩;dsimp only;rw [nJ (i:=i) (by omega) c26]
   ·
    refine WP.skip ?_;refine iD.norm ?_;refine pl.norm ?_;refine WP.region ?_;refine RL.p rfl rfl (cj.move s5_e2) ?_;refine RL.p rfl rfl (cj.add (c:=((i + 1:Nat):Int)) rfl rfl (bT (by omega))) ?_;refine RL.p rfl rfl (cj.assign rfl) ?_;refine RL.nil ?_;refine pl.norm ⟨_,(by omega),i + 1,rfl,s0_e2,s1_e2,rfl,(by omega),(ef heq (by omega)),hX1⟩
  ·
   refine WP.exit ?_;refine pl.exit ?_;refine pl.exit ?_;refine iD.same ?_;refine pl.norm ?_;refine ab ?_;refine RL.p rfl rfl (cj.assign rfl) ?_;refine RL.nil ?_;refine WP.ret ?_;refine ⟨.bool (true),Am.one (fw.tmp rfl),_,rfl,hX1,?_⟩;dsimp only;rw [lw (by omega) (fun j hj=>heq j (by omega))]
set_option maxRecDepth 10000 in
theorem ij (w:World) (x:Value) (rx cx:Nat) (Mx:Nat→Nat→Int) (btx:Nat) (y:Value) (ry cy:Nat) (My:Nat→Nat→Int) (bty:Nat) (hx:bX w x rx cx Mx btx) (hy:bX w y ry cy My bty):Calls Tryz.prog 13 #[x,y] w (cc w fun v w'=>v= .bool (decide (ao rx cx ry cy Mx My))):=by
 have hLIM:bj=562949953421312:=rfl;have hmatx:=hx;obtain ⟨sx,rfl,hrx,hcx,hSx⟩:=hx.form;have hmaty:=hy;obtain ⟨sy,rfl,hry,hcy,hSy⟩:=hy.form;refine ai (N:=46) (rs:= #[.tmp 4]) Tryz.func13 rfl rfl rfl (Nat.le_of_ble_eq_true rfl) ?_;have hX:aA w w:=aA.refl w;refine ab ?_;refine RL.x rfl rfl (cQ.box [.int .i64 ((rx:Nat)),.int .i64 ((cx:Nat)),sx] rfl rfl) ?_;rintro _ w1 ⟨g1,rfl,hge1,hx1,hA1⟩;replace hX:=aA.trans hX hx1;refine RL.x rfl rfl (cQ.box [.int .i64 ((ry:Nat)),.int .i64 ((cy:Nat)),sy] rfl rfl) ?_;rintro _ w2 ⟨g2,rfl,hge2,hx2,hA2⟩;replace hA1:=aY.ext hA1 hx2;replace hX:=aA.trans hX hx2;refine RL.p rfl rfl (cj.assign rfl) ?_;refine RL.nil ?_;refine WP.seq ?_;refine aF am 21 [_,_,_,_,_,fun v AW=>v= .bool (decide (((rx:Nat):Int)≠((ry:Nat):Int))),_,_,_,_,_,_,fun v AW=>v= .bool (decide ((((rx:Nat):Int)≠((ry:Nat):Int))∨(((cx:Nat):Int)≠((cy:Nat):Int)))),_,_,_,_,_,_,_,_] rfl rfl (fun e_ w_ AV AU=>⟨fun _=>aa (cj.fieldAddr aX ((AU 2 rfl rfl))),fun AT=>aa (cj.load bD ((AT 0 rfl)) ((aY.ext hA1 AV).at_ (i:=0) rfl rfl)),fun _=>aa (cj.fieldAddr aX ((AU 3 rfl rfl))),fun AT=>aa (cj.load bD ((AT 2 rfl)) ((aY.ext hA2 AV).at_ (i:=0) rfl rfl)),fun AT=>aa (cj.neq ((AT 1 rfl)) ((AT 3 rfl))),fun AT=>aa (cj.move ((AT 4 rfl))),fun AT=>gF (AT 5 rfl) fun hg=>aa (cj.fieldAddr bC ((AU 2 rfl rfl))),fun AT=>gF (AT 5 rfl) fun hg=>aa (cj.load bD ((AT 6 rfl hg)) ((aY.ext hA1 AV).at_ (i:=1) rfl rfl)),fun AT=>gF (AT 5 rfl) fun hg=>aa (cj.fieldAddr bC ((AU 3 rfl rfl))),fun AT=>gF (AT 5 rfl) fun hg=>aa (cj.load bD ((AT 8 rfl hg)) ((aY.ext hA2 AV).at_ (i:=1) rfl rfl)),fun AT=>gF (AT 5 rfl) fun hg=>aa (cj.neq ((AT 7 rfl hg)) ((AT 9 rfl hg))),fun AT=>aa (aP (p:=((rx:Nat):Int)≠((ry:Nat):Int)) (q:=((cx:Nat):Int)≠((cy:Nat):Int)) (AT 5 rfl) (fun hq=>(AT 10 rfl hq))),fun AT=>aa (cj.move ((AT 11 rfl))),fun AT=>gF (AT 12 rfl) fun hg=>aa (cj.fieldAddr aw ((AU 2 rfl rfl))),fun AT=>gF (AT 12 rfl) fun hg=>aa (cj.load aU ((AT 13 rfl hg)) ((aY.ext hA1 AV).at_ (i:=2) rfl rfl)),fun AT=>gF (AT 12 rfl) fun hg=>aa (cd aK (AT 14 rfl hg) (ce.ext (ce.ext hSx hX) AV)),fun AT=>gF (AT 12 rfl) fun hg=>aa (cj.fieldAddr aw ((AU 3 rfl rfl))),fun AT=>gF (AT 12 rfl) fun hg=>aa (cj.load aU ((AT 16 rfl hg)) ((aY.ext hA2 AV).at_ (i:=2) rfl rfl)),fun AT=>gF (AT 12 rfl) fun hg=>aa (cd aK (AT 17 rfl hg) (ce.ext (ce.ext hSy hX) AV)),fun AT=>gF (AT 12 rfl) fun hg=>aa (cj.neq ((AT 15 rfl hg)) ((AT 18 rfl hg))),fun AT=>aa (aP (p:=(((rx:Nat):Int)≠((ry:Nat):Int))∨(((cx:Nat):Int)≠((cy:Nat):Int))) (q:=((rx:Nat):Int)≠((ry:Nat):Int)) (AT 12 rfl) (fun hq=>(AT 19 rfl hq))),trivial⟩) ?_;intro e1 w3 hx3 ho1 hf1;replace hA1:=aY.ext hA1 hx3;replace hA2:=aY.ext hA2 hx3;replace hX:=aA.trans hX hx3;have s2_e1:e1 2=_:=ho1 2 rfl rfl;have s3_e1:e1 3=_:=ho1 3 rfl rfl;have s26_e1:e1 26=_:=hf1 20 rfl;refine RL.nil ?_;refine ae (((((rx:Nat):Int)≠((ry:Nat):Int))∨(((cx:Nat):Int)≠((cy:Nat):Int)))∨(((rx:Nat):Int)≠((ry:Nat):Int))) s26_e1 (fun c26=> ?_) (fun c26=> ?_)
 ·
  refine ab ?_;refine RL.p rfl rfl (cj.assign rfl) ?_;refine RL.nil ?_;refine WP.ret ?_;refine pl.ret ?_;refine ⟨.bool (false),Am.one (fw.tmp rfl),_,rfl,hX,?_⟩;dsimp only;rw [tK (by omega)]
 ·
  refine WP.skip ?_;refine pl.norm ?_;refine WP.seq ?_;refine ab ?_;refine RL.p rfl rfl (cj.assign rfl) ?_;refine RL.nil ?_;refine WP.block ?_;refine WP.loop (fun mz ez uz=>∃i:Nat,(mz=rx - i)∧(ez 2= .pointer (some ⟨g1,0,none⟩))∧(ez 3= .pointer (some ⟨g2,0,none⟩))∧(ez 5= .int .i64 ((i:Nat)))∧(i≤rx)∧(∀j,j<i→ay cx cy (Mx j) (My j))∧(aA w uz)∧(aY uz g1 28 3 (bU [.int .i64 ((rx:Nat)),.int .i64 ((cx:Nat)),sx]))∧(aY uz g2 28 3 (bU [.int .i64 ((ry:Nat)),.int .i64 ((cy:Nat)),sy]))) (rx - 0) ?_ ?_
  · exact ⟨0,rfl,s2_e1,s3_e1,rfl,(by omega),(fun j hj=>by omega),hX,hA1,hA2⟩
  rintro m1 e2 w4 ⟨i,hm1,s2_e2,s3_e2,s5_e2,hi,heq,hX1,hA1,hA2⟩;refine WP.seq ?_;refine ab ?_;refine RL.p rfl rfl (cj.move s5_e2) ?_;refine RL.p rfl rfl (cj.fieldAddr aw s2_e2) ?_;refine RL.p rfl rfl (cj.load aU rfl (hA1.at_ (i:=2) rfl rfl)) ?_;refine RL.p rfl rfl (cd aK rfl (ce.ext hSx hX1)) ?_;refine RL.p rfl rfl (cj.lss rfl rfl) ?_;refine RL.nil ?_;refine ae (((i:Nat):Int)<((rx:Nat):Int)) rfl (fun c31=> ?_) (fun c31=> ?_)
  ·
   refine WP.skip ?_;refine pl.norm ?_;refine WP.seq ?_;refine WP.block ?_;refine aF am 12 [_,_,_,_,_,_,_,_,_,_,fun v AW=>v= .bool (decide (ay cx cy (Mx i) (My i))),_] rfl rfl (fun e_ w_ AV AU=>⟨fun _=>aa (cj.fieldAddr aw ((AU 2 rfl s2_e2))),fun AT=>aa (cj.load aU ((AT 0 rfl)) ((aY.ext hA1 AV).at_ (i:=2) rfl rfl)),fun _=>aa (cj.move ((AU 5 rfl s5_e2))),fun AT=>ag (aJ (j:=i) aK (AT 1 rfl) (ce.ext (ce.ext hSx hX1) AV) (AT 2 rfl) (by omega) (by omega)),fun AT=>ag (aI bn rfl (AT 3 rfl)),fun _=>aa (cj.fieldAddr aw ((AU 3 rfl s3_e2))),fun AT=>aa (cj.load aU ((AT 5 rfl)) ((aY.ext hA2 AV).at_ (i:=2) rfl rfl)),fun _=>aa (cj.move ((AU 5 rfl s5_e2))),fun AT=>ag (aJ (j:=i) aK (AT 6 rfl) (ce.ext (ce.ext hSy hX1) AV) (AT 7 rfl) (by omega) (by omega)),fun AT=>ag (aI bn rfl (AT 8 rfl)),fun AT=>cQ.call sC (aC rfl rfl) (iI _ _ _ _ _ _ _ _ _ (AT 4 rfl) (AT 9 rfl)),fun AT=>aa (cj.not (p:=ay cx cy (Mx i) (My i)) (AT 10 rfl)),trivial⟩) ?_;intro e3 w5 hx4 ho2 hf2;replace hA1:=aY.ext hA1 hx4;replace hA2:=aY.ext hA2 hx4;replace hX1:=aA.trans hX1 hx4;have s2_e3:=ho2 2 rfl s2_e2;have s3_e3:=ho2 3 rfl s3_e2;have s5_e3:=ho2 5 rfl s5_e2;have s45_e3:e3 45=_:=hf2 11 rfl;refine RL.nil ?_;refine ae (¬(ay cx cy (Mx i) (My i))) s45_e3 (fun c45=> ?_) (fun c45=> ?_)
   ·
    refine ab ?_;refine RL.p rfl rfl (cj.assign rfl) ?_;refine RL.nil ?_;refine WP.ret ?_;refine iD.ret ?_;refine pl.ret ?_;refine pl.ret ?_;refine iD.ret ?_;refine pl.ret ?_;refine ⟨.bool (false),Am.one (fw.tmp rfl),_,rfl,hX1,?_⟩;dsimp only;rw [tL (i:=i) (by omega) c45]
   ·
    refine WP.skip ?_;refine iD.norm ?_;refine pl.norm ?_;refine WP.region ?_;refine RL.p rfl rfl (cj.move s5_e3) ?_;refine RL.p rfl rfl (cj.add (c:=((i + 1:Nat):Int)) rfl rfl (bT (by omega))) ?_;refine RL.p rfl rfl (cj.assign rfl) ?_;refine RL.nil ?_;refine pl.norm ⟨_,(by omega),i + 1,rfl,s2_e3,s3_e3,rfl,(by omega),(ef heq (Decidable.of_not_not c45)),hX1,hA1,hA2⟩
  ·
   refine WP.exit ?_;refine pl.exit ?_;refine pl.exit ?_;refine iD.same ?_;refine pl.norm ?_;refine ab ?_;refine RL.p rfl rfl (cj.assign rfl) ?_;refine RL.nil ?_;refine WP.ret ?_;refine ⟨.bool (true),Am.one (fw.tmp rfl),_,rfl,hX1,?_⟩;dsimp only;rw [rJ (by omega) (fun j hj=>heq j (by omega))]
set_option maxRecDepth 10000 in
theorem pT (w:World) (x:Value) (rx cx:Nat) (Mx:Nat→Nat→Int) (btx:Nat) (r:Nat) (c:Nat) (hx:bX w x rx cx Mx btx):Calls Tryz.prog 45 #[x,.int .i64 (r:Nat),.int .i64 (c:Nat)] w (cc w fun v w'=>v= .bool (decide ((((rx:Nat):Int)=((r:Nat):Int)∧((cx:Nat):Int)=((c:Nat):Int))∧True))):=by
 have hLIM:bj=562949953421312:=rfl;have hmatx:=hx;obtain ⟨sx,rfl,hrx,hcx,hSx⟩:=hx.form;refine ai (N:=21) (rs:= #[.tmp 6]) Tryz.func45 rfl rfl rfl (Nat.le_of_ble_eq_true rfl) ?_;have hX:aA w w:=aA.refl w;refine ab ?_;refine RL.x rfl rfl (cQ.box [.int .i64 ((rx:Nat)),.int .i64 ((cx:Nat)),sx] rfl rfl) ?_;rintro _ w1 ⟨g1,rfl,hge1,hx1,hA1⟩;replace hX:=aA.trans hX hx1;refine RL.p rfl rfl (cj.assign rfl) ?_;refine RL.nil ?_;refine aF am 14 [_,_,_,_,fun v AW=>v= .bool (decide (((rx:Nat):Int)=((r:Nat):Int))),_,_,_,_,_,fun v AW=>v= .bool (decide ((((rx:Nat):Int)=((r:Nat):Int))∧(((cx:Nat):Int)=((c:Nat):Int)))),_,fun v AW=>((((rx:Nat):Int)=((r:Nat):Int))∧(((cx:Nat):Int)=((c:Nat):Int)))→(v= .bool (decide (True))),_] rfl rfl (fun e_ w_ AV AU=>⟨fun _=>aa (cj.fieldAddr aX ((AU 3 rfl rfl))),fun AT=>aa (cj.load bD ((AT 0 rfl)) ((aY.ext hA1 AV).at_ (i:=0) rfl rfl)),fun _=>aa (cj.move ((AU 1 rfl rfl))),fun AT=>aa (cj.eql ((AT 1 rfl)) ((AT 2 rfl))),fun AT=>aa (cj.move ((AT 3 rfl))),fun AT=>gT (AT 4 rfl) fun hg=>aa (cj.fieldAddr bC ((AU 3 rfl rfl))),fun AT=>gT (AT 4 rfl) fun hg=>aa (cj.load bD ((AT 5 rfl hg)) ((aY.ext hA1 AV).at_ (i:=1) rfl rfl)),fun AT=>gT (AT 4 rfl) fun hg=>aa (cj.move ((AU 2 rfl rfl))),fun AT=>gT (AT 4 rfl) fun hg=>aa (cj.eql ((AT 6 rfl hg)) ((AT 7 rfl hg))),fun AT=>aa (au (p:=((rx:Nat):Int)=((r:Nat):Int)) (q:=((cx:Nat):Int)=((c:Nat):Int)) (AT 4 rfl) (fun hq=>(AT 8 rfl hq))),fun AT=>aa (cj.move ((AT 9 rfl))),fun AT=>gT (AT 10 rfl) fun hg=>aa (af [.int .i64 ((rx:Nat)),.int .i64 ((cx:Nat)),sx] aV ((AU 3 rfl rfl)) ((aY.ext hA1 AV).cells 0 _ rfl rfl)),fun AT=>gT (AT 10 rfl) fun hg=>cQ.call su (aL ((AT 11 rfl hg))) (jZ _ _ _ _ _ _ (bX.mk (ce.ext (ce.ext hSx hX) AV) (by omega) (by omega))),fun AT=>aa (au (p:=(((rx:Nat):Int)=((r:Nat):Int))∧(((cx:Nat):Int)=((c:Nat):Int))) (q:=True) (AT 10 rfl) (fun hq=>(AT 12 rfl hq))),trivial⟩) ?_;intro e1 w2 hx2 ho1 hf1;replace hX:=aA.trans hX hx2;have s20_e1:e1 20=_:=hf1 13 rfl;refine RL.p rfl rfl (cj.assign s20_e1) ?_;refine RL.nil ?_;refine WP.ret ?_;refine ⟨.bool (decide (((((rx:Nat):Int)=((r:Nat):Int))∧(((cx:Nat):Int)=((c:Nat):Int)))∧(True))),Am.one (fw.tmp rfl),_,rfl,hX,?_⟩
 rfl
end Go.TL
namespace Go.TL
open Go.RowKit Go.Proofs
set_option linter.unusedVariables false
set_option linter.unusedSimpArgs false
set_option maxRecDepth 10000 in
theorem mq (w:World) (r:Nat) (c:Nat) (l:Value) (n:Nat) (f:Nat→Int) (b:Nat) (hr:r≤16) (hc:c≤16) (hl:eH .i64 2 w l n f) (hb:b + 1≤bj) (hfr:∀i,i<n→ -9223372036854775808≤f i∧f i<9223372036854775808) (hfb:∀i,i<n→(f i).natAbs<2^b):Calls Tryz.prog 36 #[.int .i64 (r:Nat),.int .i64 (c:Nat),l] w (cc w fun v w'=>cO w' v w.heap.size r c (eL f n c) b):=by
 have hLIM:bj=562949953421312:=rfl;have hln:n<9223372036854775808:=by obtain ⟨_,_,_,h2,h3,_⟩:=hl;omega
 refine ai (N:=50) (rs:= #[.cell 6 28]) Tryz.func36 rfl rfl rfl (Nat.le_of_ble_eq_true rfl) ?_;have hX:aA w w:=aA.refl w;refine ab ?_;refine RL.x rfl rfl (cQ.alloc [.int .i64 (0),.int .i64 (0),.slice (none) (0) (0)] cn rfl) ?_;rintro _ w1 ⟨g1,rfl,hge1,hx1,hA1⟩;have hbs1:w.heap.size≤g1:=Nat.le_trans hX.size hge1;replace hX:=aA.trans hX hx1;refine RL.nil ?_;refine ab ?_;refine RL.p rfl rfl (cj.move rfl) ?_;refine RL.p rfl rfl (cj.move rfl) ?_;have hBw1:w.heap.size≤w1.heap.size:=hX.size;refine RL.x rfl rfl (cQ.call pI (aC rfl rfl) (pU _ r c b (by omega) (by omega) (by omega))) ?_;rintro v1 w2 ⟨hx2,q1⟩;replace hA1:=aY.ext hA1 hx2;replace hX:=aA.trans hX hx2;refine RL.x rfl rfl (cQ.alloc [.int .i64 (0),.int .i64 (0),.slice (none) (0) (0)] cn rfl) ?_;rintro _ w3 ⟨g2,rfl,hge2,hx3,hA2⟩;have ne1:g1≠g2:=Nat.ne_of_lt (Nat.lt_of_lt_of_le hA1.lt hge2);have hbs2:w.heap.size≤g2:=Nat.le_trans hX.size hge2;replace hA1:=aY.ext hA1 hx3;replace q1:=cO.ext q1 hx3;replace hX:=aA.trans hX hx3;obtain ⟨gh1,kh1,ρ1,hq1,hM1⟩:=q1;have hd1:=cY.dlim hM1;have hd2:=cY.clim hM1;refine RL.x rfl rfl (cQ.store [.int .i64 ((r:Nat)),.int .i64 ((c:Nat)),.slice (some ⟨gh1,0,none⟩) (r) (kh1)] cR rfl hq1 rfl hA2 (Nat.le_of_ble_eq_true rfl) (cS rfl rfl rfl)) ?_;rintro _ w4 ⟨hk1,hnew⟩;replace hM1:=bk hM1 hk1 hA2 (by decide);replace hA1:=hA1.keep hk1 ne1;replace hX:=hX.step hk1 (fun b e=>by subst e;exact hbs2);replace hA2:=hnew.lit [.int .i64 ((r:Nat)),.int .i64 ((c:Nat)),.slice (some ⟨gh1,0,none⟩) (r) (kh1)] rfl;clear hnew;refine RL.nil ?_;refine WP.seq ?_;refine ab ?_;refine RL.p rfl rfl (cj.assign rfl) ?_;refine RL.nil ?_;refine WP.block ?_;refine WP.loop (fun mz ez uz=>∃i:Nat,(mz=r - i)∧(ez 0= .int .i64 ((r:Nat)))∧(ez 1= .int .i64 ((c:Nat)))∧(ez 2=l)∧(ez 6= .pointer (some ⟨g1,0,none⟩))∧(ez 7= .pointer (some ⟨g2,0,none⟩))∧(ez 8= .int .i64 ((i:Nat)))∧(i≤r)∧(aA w uz)∧(aY uz g1 28 3 (bU [.int .i64 (0),.int .i64 (0),.slice (none) (0) (0)]))∧(aY uz g2 28 3 (bU [.int .i64 ((r:Nat)),.int .i64 ((c:Nat)),.slice (some ⟨gh1,0,none⟩) (r) (kh1)]))∧(cY uz w1.heap.size gh1 kh1 r c ρ1 (cG (eL f n c) i 0) b)) (r - 0) ?_ ?_
 · exact ⟨0,rfl,rfl,rfl,rfl,rfl,rfl,rfl,(by omega),hX,hA1,hA2,bZ hM1 (iK (eL f n c))⟩
 rintro m1 e1 w5 ⟨i,hm1,s0_e1,s1_e1,s2_e1,s6_e1,s7_e1,s8_e1,hi,hX1,hA1,hA2,hM1⟩;refine WP.seq ?_;refine ab ?_;refine RL.p rfl rfl (cj.move s8_e1) ?_;refine RL.p rfl rfl (cj.move s0_e1) ?_;refine RL.p rfl rfl (cj.lss rfl rfl) ?_;refine RL.nil ?_;refine ae (((i:Nat):Int)<((r:Nat):Int)) rfl (fun c15=> ?_) (fun c15=> ?_)
 ·
  refine WP.skip ?_;refine pl.norm ?_;refine WP.seq ?_;refine WP.block ?_;refine ab ?_;refine RL.p rfl rfl (cj.assign rfl) ?_;refine RL.nil ?_;refine WP.block ?_;refine WP.loop (fun mz ez uz=>∃j:Nat,(mz=c - j)∧(ez 0= .int .i64 ((r:Nat)))∧(ez 1= .int .i64 ((c:Nat)))∧(ez 2=l)∧(ez 6= .pointer (some ⟨g1,0,none⟩))∧(ez 7= .pointer (some ⟨g2,0,none⟩))∧(ez 8= .int .i64 ((i:Nat)))∧(ez 9= .int .i64 ((j:Nat)))∧(j≤c)∧(aA w uz)∧(aY uz g1 28 3 (bU [.int .i64 (0),.int .i64 (0),.slice (none) (0) (0)]))∧(aY uz g2 28 3 (bU [.int .i64 ((r:Nat)),.int .i64 ((c:Nat)),.slice (some ⟨gh1,0,none⟩) (r) (kh1)]))∧(cY uz w1.heap.size gh1 kh1 r c ρ1 (cG (eL f n c) i j) b)) (c - 0) ?_ ?_
  · exact ⟨0,rfl,s0_e1,s1_e1,s2_e1,s6_e1,s7_e1,s8_e1,rfl,(by omega),hX1,hA1,hA2,hM1⟩
  rintro m2 e2 w6 ⟨j,hm2,s0_e2,s1_e2,s2_e2,s6_e2,s7_e2,s8_e2,s9_e2,hj,hX2,hA1,hA2,hM1⟩;have hic:i*c≤16*16:=Nat.mul_le_mul (by omega) (by omega);refine WP.seq ?_;refine aF am 13 [_,_,_,fun v AW=>v= .bool (decide (((j:Nat):Int)<((c:Nat):Int))),_,_,_,_,_,_,_,_,_] rfl rfl (fun e_ w_ AV AU=>⟨fun _=>aa (cj.move ((AU 9 rfl s9_e2))),fun _=>aa (cj.move ((AU 1 rfl s1_e2))),fun AT=>aa (cj.lss ((AT 0 rfl)) ((AT 1 rfl))),fun AT=>aa (cj.move ((AT 2 rfl))),fun AT=>gT (AT 3 rfl) fun hg=>aa (cj.move ((AU 8 rfl s8_e2))),fun AT=>gT (AT 3 rfl) fun hg=>aa (cj.move ((AU 1 rfl s1_e2))),fun AT=>gT (AT 3 rfl) fun hg=>aa (cj.mul (c:=((i*c:Nat):Int)) ((AT 4 rfl hg)) ((AT 5 rfl hg)) (bT (by omega))),fun AT=>gT (AT 3 rfl) fun hg=>aa (cj.move ((AU 9 rfl s9_e2))),fun AT=>gT (AT 3 rfl) fun hg=>aa (cj.add (c:=(((i*c) + j:Nat):Int)) ((AT 6 rfl hg)) ((AT 7 rfl hg)) (bT (by omega))),fun AT=>gT (AT 3 rfl) fun hg=>aa (cj.move ((AU 2 rfl s2_e2))),fun AT=>gT (AT 3 rfl) fun hg=>aa (kP fF (AT 9 rfl hg) (eH.ext (eH.ext hl hX2) AV)),fun AT=>gT (AT 3 rfl) fun hg=>aa (cj.lss ((AT 8 rfl hg)) ((AT 10 rfl hg))),fun AT=>aa (au (p:=((j:Nat):Int)<((c:Nat):Int)) (q:=((((i*c) + j:Nat):Int):Int)<((n:Nat):Int)) (AT 3 rfl) (fun hq=>(AT 11 rfl hq))),trivial⟩) ?_;intro e3 w7 hx4 ho1 hf1;replace hA1:=aY.ext hA1 hx4;replace hA2:=aY.ext hA2 hx4;replace hM1:=cY.ext hM1 hx4;replace hX2:=aA.trans hX2 hx4;have s0_e3:=ho1 0 rfl s0_e2;have s1_e3:=ho1 1 rfl s1_e2;have s2_e3:=ho1 2 rfl s2_e2;have s6_e3:=ho1 6 rfl s6_e2;have s7_e3:=ho1 7 rfl s7_e2;have s8_e3:=ho1 8 rfl s8_e2;have s9_e3:=ho1 9 rfl s9_e2;have s30_e3:e3 30=_:=hf1 12 rfl;refine RL.nil ?_;refine ae ((((j:Nat):Int)<((c:Nat):Int))∧(((((i*c) + j:Nat):Int):Int)<((n:Nat):Int))) s30_e3 (fun c30=> ?_) (fun c30=> ?_)
  ·
   refine WP.skip ?_;refine pl.norm ?_;refine WP.seq ?_;refine WP.block ?_;refine WP.ds am 16 [_,_,_,_,_,_,_,_,_,_,_,_,_,_,_,_] rfl rfl (fun e_ w_ AV AU=>⟨fun _=>aa (cj.fieldAddr aw ((AU 7 rfl s7_e3))),fun AT=>aa (cj.load aU ((AT 0 rfl)) ((aY.ext hA2 AV).at_ (i:=2) rfl rfl)),fun _=>aa (cj.move ((AU 8 rfl s8_e3))),fun AT=>aa (cj.index (j:=i) aK ((AT 1 rfl)) ((AT 2 rfl)) rfl (by omega) (by omega)),fun AT=>ag (aG (i:=i) bn (AT 3 rfl) (cY.ext hM1 AV) (by omega)),fun _=>aa (cj.move ((AU 9 rfl s9_e3))),fun _=>aa (cj.move ((AU 2 rfl s2_e3))),fun _=>aa (cj.move ((AU 8 rfl s8_e3))),fun _=>aa (cj.move ((AU 1 rfl s1_e3))),fun AT=>aa (cj.mul (c:=((i*c:Nat):Int)) ((AT 7 rfl)) ((AT 8 rfl)) (bT (by omega))),fun _=>aa (cj.move ((AU 9 rfl s9_e3))),fun AT=>aa (cj.add (c:=(((i*c) + j:Nat):Int)) ((AT 9 rfl)) ((AT 10 rfl)) (bT (by omega))),fun AT=>ag (iz (j:=(i*c) + j) fF (AT 6 rfl) (eH.ext (eH.ext hl hX2) AV) (AT 11 rfl) (by omega) (by omega)),fun AT=>aa (jp AC rfl (AT 12 rfl)),fun AT=>cQ.call lm (aL ((AT 13 rfl))) (rg (f ((i*c) + j)) (b) _ (hfr _ (by omega)) (hfb _ (by omega)) (by omega)),fun AT=>aa (aR (j:=j) bE (AT 4 rfl) rfl (AT 5 rfl) (by omega) (by omega)),trivial⟩) ?_;intro e4 w8 hx5 ho2 hf2;replace hA1:=aY.ext hA1 hx5;replace hA2:=aY.ext hA2 hx5;replace hM1:=cY.ext hM1 hx5;replace hX2:=aA.trans hX2 hx5;have s0_e4:=ho2 0 rfl s0_e3;have s1_e4:=ho2 1 rfl s1_e3;have s2_e4:=ho2 2 rfl s2_e3;have s6_e4:=ho2 6 rfl s6_e3;have s7_e4:=ho2 7 rfl s7_e3;have s8_e4:=ho2 8 rfl s8_e3;have s9_e4:=ho2 9 rfl s9_e3;have s47_e4:ak w8 (e4 47) (f ((i*c) + j)) b:=hf2 14 rfl;have s48_e4:e4 48=_:=hf2 15 rfl;refine RL.x rfl rfl (cU (i:=i) (j:=j) bf s48_e4 rfl (ak.eq s47_e4 (tV (n:=n) (by omega)) (tW hfb _ _ _) (by omega)) hM1 (by omega) (by omega)) ?_;rintro _ w9 ⟨hk2,hN1⟩;have hR1:=cY.row (i:=i) hM1 (by omega);replace hA1:=bF hA1 hk2 hR1 (by decide);replace hA2:=bF hA2 hk2 hR1 (by decide);replace hX2:=hX2.step hk2 (fun b e=>by subst e;exact (Nat.le_trans hBw1 (cY.rowB (i:=i) hM1 (by omega))));replace hM1:=hN1;clear hR1;refine RL.nil ?_;refine iD.norm ?_;refine pl.norm ?_;refine WP.region ?_;refine RL.p rfl rfl (cj.move s9_e4) ?_;refine RL.p rfl rfl (cj.add (c:=((j + 1:Nat):Int)) rfl rfl (bT (by omega))) ?_;refine RL.p rfl rfl (cj.assign rfl) ?_;refine RL.nil ?_;refine pl.norm ⟨_,(by omega),j + 1,rfl,s0_e4,s1_e4,s2_e4,s6_e4,s7_e4,s8_e4,rfl,(by omega),hX2,hA1,hA2,bZ hM1 (gg (eL f n c) i j)⟩
  ·
   refine WP.exit ?_;refine pl.exit ?_;refine pl.exit ?_;refine iD.same ?_;refine iD.norm ?_;refine pl.norm ?_;refine WP.region ?_;refine RL.p rfl rfl (cj.move s8_e3) ?_;refine RL.p rfl rfl (cj.add (c:=((i + 1:Nat):Int)) rfl rfl (bT (by omega))) ?_;refine RL.p rfl rfl (cj.assign rfl) ?_;refine RL.nil ?_;refine pl.norm ⟨_,(by omega),i + 1,rfl,s0_e3,s1_e3,s2_e3,s6_e3,s7_e3,rfl,(by omega),hX2,hA1,hA2,cY.congr hM1 fun a c2 ha hc2=>lD (fun e he hec=>by unfold eL;rw [if_neg (by omega)]) hc2⟩
 ·
  refine WP.exit ?_;refine pl.exit ?_;refine pl.exit ?_;refine iD.same ?_;refine pl.norm ?_;refine ab ?_;refine RL.p rfl rfl (af [.int .i64 ((r:Nat)),.int .i64 ((c:Nat)),.slice (some ⟨gh1,0,none⟩) (r) (kh1)] aV s7_e1 (hA2.cells 0 _ rfl rfl)) ?_;refine RL.x rfl rfl (cQ.store [.int .i64 ((r:Nat)),.int .i64 ((c:Nat)),.slice (some ⟨gh1,0,none⟩) (r) (kh1)] cR s6_e1 rfl rfl hA1 (Nat.le_of_ble_eq_true rfl) (cS rfl rfl rfl)) ?_;rintro _ w10 ⟨hk3,hnew⟩;replace hM1:=bk hM1 hk3 hA1 (by decide);replace hX1:=hX1.step hk3 (fun b e=>by subst e;exact hbs1);replace hA1:=hnew.lit [.int .i64 ((r:Nat)),.int .i64 ((c:Nat)),.slice (some ⟨gh1,0,none⟩) (r) (kh1)] rfl;clear hnew;refine RL.nil ?_;refine WP.ret ?_;refine ⟨.agg #[.int .i64 ((r:Nat)),.int .i64 ((c:Nat)),.slice (some ⟨gh1,0,none⟩) (r) (kh1)],Am.one (aj [.int .i64 ((r:Nat)),.int .i64 ((c:Nat)),.slice (some ⟨gh1,0,none⟩) (r) (kh1)] aV s6_e1 (hA1.cells 0 _ rfl rfl)),_,rfl,hX1,?_⟩;dsimp only;exact ⟨_,_,_,rfl,cY.congr (cY.low hM1 hBw1) fun a c2 ha hc2=>by rw [show i=r by omega];exact fm _ c2 ha⟩
end Go.TL
namespace Go.TL
set_option linter.unusedVariables false
theorem As {z:Int}:z.sign≠0↔gU z:=by unfold gU;simp [Int.sign_eq_zero_iff_zero]
end Go.TL
namespace Go.TL
open Go.RowKit Go.Proofs
set_option linter.unusedVariables false
set_option linter.unusedSimpArgs false
set_option maxRecDepth 10000 in
theorem vw (w:World) (x:Value) (nx:Nat) (zx:Nat→Int) (btx:Nat) (hx:bi w x nx zx btx):Calls Tryz.prog 63 #[x] w (cc w fun v w'=>v= .int .i64 (cM gU zx nx)):=by
 have hLIM:bj=562949953421312:=rfl;have hlimx:=hx.lim;refine ai (N:=17) (rs:= #[.tmp 2]) Tryz.func63 rfl rfl rfl (Nat.le_of_ble_eq_true rfl) ?_;have hX:aA w w:=aA.refl w;refine ab ?_;refine RL.p rfl rfl (cj.assign rfl) ?_;refine RL.nil ?_;refine WP.seq ?_;refine ab ?_;refine RL.p rfl rfl (cj.assign rfl) ?_;refine RL.nil ?_;refine WP.block ?_;refine WP.loop (fun mz ez uz=>∃i:Nat,(mz=nx - i)∧(ez 0=x)∧(ez 3= .int .i64 ((i:Nat)))∧(i≤nx)∧(cM gU zx i= -1)∧(aA w uz)) (nx - 0) ?_ ?_
 · exact ⟨0,rfl,rfl,rfl,(by omega),rfl,hX⟩
 rintro m1 e1 w1 ⟨i,hm1,s0_e1,s3_e1,hi,hnone,hX1⟩;refine WP.seq ?_;refine ab ?_;refine RL.p rfl rfl (cj.move s3_e1) ?_;refine RL.p rfl rfl (cj.move s0_e1) ?_;refine RL.p rfl rfl (bW cA rfl (bi.ext hx hX1)) ?_;refine RL.p rfl rfl (cj.lss rfl rfl) ?_;refine RL.nil ?_;refine ae (((i:Nat):Int)<((nx:Nat):Int)) rfl (fun c7=> ?_) (fun c7=> ?_)
 ·
  refine WP.skip ?_;refine pl.norm ?_;refine WP.seq ?_;refine WP.block ?_;refine ab ?_;refine RL.p rfl rfl (cj.move s0_e1) ?_;refine RL.p rfl rfl (cj.move s3_e1) ?_;refine RL.x rfl rfl (aM (j:=i) cA rfl (bi.ext hx hX1) rfl (by omega) (by omega)) ?_;rintro v1 _ ⟨rfl,q1⟩;refine RL.x rfl rfl (aO aq rfl q1) ?_;rintro v2 _ ⟨rfl,q2⟩;refine RL.x rfl rfl (cQ.call pK (aL rfl) (mo _ _ _ _ q2)) ?_;rintro _ w2 ⟨hx1,rfl⟩;replace hX1:=aA.trans hX1 hx1;refine RL.p rfl rfl (cj.neq rfl rfl) ?_;refine RL.nil ?_;refine ae (((zx i:Int).sign:Int)≠(0:Int)) rfl (fun c15=> ?_) (fun c15=> ?_)
  ·
   refine ab ?_;refine RL.p rfl rfl (cj.move s3_e1) ?_;refine RL.p rfl rfl (cj.assign rfl) ?_;refine RL.nil ?_;refine WP.ret ?_;refine iD.ret ?_;refine pl.ret ?_;refine pl.ret ?_;refine iD.ret ?_;refine pl.ret ?_;refine ⟨.int .i64 ((i:Nat)),Am.one (fw.tmp rfl),_,rfl,hX1,?_⟩;dsimp only;rw [dP hnone (As.mp c15) (by omega)]
  ·
   refine WP.skip ?_;refine iD.norm ?_;refine pl.norm ?_;refine WP.region ?_;refine RL.p rfl rfl (cj.move s3_e1) ?_;refine RL.p rfl rfl (cj.add (c:=((i + 1:Nat):Int)) rfl rfl (bT (by omega))) ?_;refine RL.p rfl rfl (cj.assign rfl) ?_;refine RL.nil ?_;refine pl.norm ⟨_,(by omega),i + 1,rfl,s0_e1,rfl,(by omega),(gf hnone (fun h=>c15 (As.mpr h))),hX1⟩
 ·
  refine WP.exit ?_;refine pl.exit ?_;refine pl.exit ?_;refine iD.same ?_;refine pl.norm ?_;refine ab ?_;refine RL.p rfl rfl (cj.assign rfl) ?_;refine RL.nil ?_;refine WP.ret ?_;refine ⟨.int .i64 (-1),Am.one (fw.tmp rfl),_,rfl,hX1,?_⟩;dsimp only;rw [show nx=i by omega,hnone]
end Go.TL
namespace Go.TL
set_option linter.unusedVariables false
def sg (S:WS) (top q:Nat):WS:=if S.M top q<0 then fE S top else S
theorem zJ (S:WS) (top q:Nat):sn S top top q=sg S top q:=by unfold sn sg;rw [jM]
def kX (S:WS) (top i q:Nat):WS:=bK (de S top i (-(S.M top q/S.M i q))) top i
theorem Ab {S:WS} {top i q:Nat} (h:top≠i):(kX S top i q).M i q=S.M top q % S.M i q:=by
  unfold kX bK de cE dw
  simp only [if_neg (Ne.symm h),if_true];rw [Int.emod_def,Int.neg_mul,Int.mul_comm];omega
theorem vY {S:WS} {top i q:Nat} (h:top≠i):(kX S top i q).M top q=S.M i q:=by
  unfold kX bK de cE dw
  simp only [if_neg (Ne.symm h),if_true]
end Go.TL
namespace Go.TL
open Go.RowKit
set_option linter.unusedVariables false
def Aw (w:World) (v:Value) (a c:Int) (b1 b2:Nat):Prop:=∃v1 v2,v= .tuple #[v1,v2,.int .i64 0]∧ak w v1 (a/c) b1∧ak w v2 (a % c) b2
theorem Aw.ext {w w':World} {v:Value} {a c:Int} {b1 b2:Nat} (h:Aw w v a c b1 b2) (hx:aA w w'):Aw w' v a c b1 b2:=by
  obtain ⟨v1,v2,h1,h2,h3⟩:=h;exact ⟨v1,v2,h1,h2.ext hx,h3.ext hx⟩
theorem tI (a c:Int) (b1 b2:Nat):bq (fun v w=>Aw w v a c b1 b2):=fun _ _ _ h hx=>h.ext hx
instance (a c:Int) (b1 b2:Nat):Nonempty (bq (fun v w=>Aw w v a c b1 b2)):=⟨tI a c b1 b2⟩
end Go.TL
namespace Go.TL
set_option linter.unusedVariables false
theorem eu0 {x y:Int} (h0:y≠0):(1 + (x/y).natAbs)*((x % y).natAbs + 1)≤x.natAbs + 1 + 2*(x % y).natAbs:=by
  have h1:=Int.emod_nonneg x h0;have h2:=Int.emod_lt x h0;have h3:=Int.mul_ediv_add_emod x y;have h4:(y*(x/y)).natAbs≤x.natAbs + (x % y).natAbs:=by omega
  rw [Int.natAbs_mul] at h4;have h5:(x/y).natAbs*((x % y).natAbs + 1)≤(x/y).natAbs*y.natAbs:=Nat.mul_le_mul_left _ (by omega);rw [Nat.mul_comm (x/y).natAbs y.natAbs] at h5;rw [Nat.add_mul,Nat.one_mul];omega
theorem eu1 {x y:Int} {E:Nat} (hx:x.natAbs≤E) (hy:y.natAbs≤E) (h0:y≠0):(1 + (x/y).natAbs)*((y.natAbs + 1)*((x % y).natAbs + 1))≤(E + 1)*(3*E + 1):=by
  have h1:=eu0 (x:=x) h0;have h2:=Int.emod_nonneg x h0;have h3:=Int.emod_lt x h0;rw [Nat.mul_left_comm];exact Nat.mul_le_mul (by omega) (by omega)
theorem eu2 {x y:Int} {s C:Nat} (h0:y≠0) (hy:0≤y) (hyx:y<(x.natAbs:Int)) (hs:s*((x.natAbs + 1)*(y.natAbs + 1))≤C):s*(1 + (x/y).natAbs)*((y.natAbs + 1)*((x % y).natAbs + 1))≤3*C:=by
  have h1:=eu0 (x:=x) h0;have h2:=Int.emod_nonneg x h0;have h3:=Int.emod_lt x h0;have h4:(1 + (x/y).natAbs)*((x % y).natAbs + 1)≤3*(x.natAbs + 1):=by omega
  have e1:s*(1 + (x/y).natAbs)*((y.natAbs + 1)*((x % y).natAbs + 1))=s*(y.natAbs + 1)*((1 + (x/y).natAbs)*((x % y).natAbs + 1)):=by ac_rfl
  rw [e1];refine Nat.le_trans (Nat.mul_le_mul_left _ h4) ?_;have e2:s*(y.natAbs + 1)*(3*(x.natAbs + 1))=3*(s*((x.natAbs + 1)*(y.natAbs + 1))):=by ac_rfl
  rw [e2];exact Nat.mul_le_mul_left _ hs
theorem eu3 {x y:Int} {s C:Nat} (hx:0≤x) (h0:0<y) (hs:s*((x.natAbs + 1)*(y.natAbs + 1))≤C):s*(1 + (x/y).natAbs)*((y.natAbs + 1)*((x % y).natAbs + 1))≤C:=by
  have h2:=Int.emod_nonneg x (show y≠0 by omega);have h3:=Int.emod_lt x (show y≠0 by omega);have h4:=Int.mul_ediv_add_emod x y;have h5:0≤x/y:=Int.ediv_nonneg hx (by omega);have h6:(y*(x/y)).natAbs + (x % y).natAbs=x.natAbs:=by
    have:0≤y*(x/y):=Int.mul_nonneg (by omega) h5;omega
  rw [Int.natAbs_mul] at h6;have h7:(x/y).natAbs*((x % y).natAbs + 1)≤(x/y).natAbs*y.natAbs:=Nat.mul_le_mul_left _ (by omega);rw [Nat.mul_comm (x/y).natAbs y.natAbs] at h7;have h8:(1 + (x/y).natAbs)*((x % y).natAbs + 1)≤x.natAbs + 1:=by rw [Nat.add_mul,Nat.one_mul];omega
  have e1:s*(1 + (x/y).natAbs)*((y.natAbs + 1)*((x % y).natAbs + 1))=s*(y.natAbs + 1)*((1 + (x/y).natAbs)*((x % y).natAbs + 1)):=by ac_rfl
  rw [e1];refine Nat.le_trans (Nat.mul_le_mul_left _ h8) ?_;have e2:s*(y.natAbs + 1)*(x.natAbs + 1)=s*((x.natAbs + 1)*(y.natAbs + 1)):=by ac_rfl
  rw [e2];exact hs
section
variable {r c:Nat} {S:WS} {EM EU EV K:Nat}
theorem py {i j:Nat} {k:Int} (hi:i<r) (hj:j<r) (hk:k.natAbs≤K) (hM:∀i j,i<r→j<c→(S.M i j).natAbs≤EM) (hU:∀i j,i<r→j<r→(S.U i j).natAbs≤EU) (hV:∀i j,i<r→j<r→(S.V i j).natAbs≤EV):
    (∀a b,a<r→b<c→((de S i j k).M a b).natAbs≤EM*(1 + K))∧(∀a b,a<r→b<r→((de S i j k).U a b).natAbs≤EU*(1 + K))∧∀a b,a<r→b<r→((de S i j k).V a b).natAbs≤EV*(1 + K):=by
  have hle:∀E L:Nat,E≤E*(1 + L):=fun E L=>by rw [Nat.mul_add,Nat.mul_one];omega
  refine ⟨fun a b ha hb=> ?_,fun a b ha hb=> ?_,fun a b ha hb=> ?_⟩
  · simp only [de,dw];split
    · exact fu (hM _ _ hi hb) (hM _ _ hj hb) hk
    · exact Nat.le_trans (hM _ _ ha hb) (hle _ _)
  · simp only [de,dw];split
    · exact fu (hU _ _ hi hb) (hU _ _ hj hb) hk
    · exact Nat.le_trans (hU _ _ ha hb) (hle _ _)
  · simp only [de,eb];split
    · have:=fu (k:= -k) (hV a j ha hj) (hV a i ha hi) (by rw [Int.natAbs_neg];exact hk)
      rw [Int.neg_mul] at this;rw [Int.sub_eq_add_neg];exact this
    · exact Nat.le_trans (hV _ _ ha hb) (hle _ _)
theorem jN {i j:Nat} (hi:i<r) (hj:j<r) (hM:∀i j,i<r→j<c→(S.M i j).natAbs≤EM) (hU:∀i j,i<r→j<r→(S.U i j).natAbs≤EU) (hV:∀i j,i<r→j<r→(S.V i j).natAbs≤EV):
    (∀a b,a<r→b<c→((bK S i j).M a b).natAbs≤EM)∧(∀a b,a<r→b<r→((bK S i j).U a b).natAbs≤EU)∧∀a b,a<r→b<r→((bK S i j).V a b).natAbs≤EV:=by
  refine ⟨fun a b ha hb=> ?_,fun a b ha hb=> ?_,fun a b ha hb=> ?_⟩
  · simp only [bK,cE];split
    · exact hM _ _ hj hb
    · split
      · exact hM _ _ hi hb
      · exact hM _ _ ha hb
  · simp only [bK,cE];split
    · exact hU _ _ hj hb
    · split
      · exact hU _ _ hi hb
      · exact hU _ _ ha hb
  · simp only [bK,dk];split
    · exact hV _ _ ha hj
    · split
      · exact hV _ _ ha hi
      · exact hV _ _ ha hb
end
def eR (e0 r:Nat):Nat→Nat
  | 0=>e0
  | t + 1=>eR e0 r t + (2*eR e0 r t + 6)*(r - t - 1) + eR e0 r t + 1
def gR (e0 r:Nat):Nat→Nat
  | 0=>0
  | t + 1=>gR e0 r t + (2*eR e0 r t + 6)*(r - t - 1) + eR e0 r t + 3
structure FR (r c e0:Nat) (M0:Nat→Nat→Int) (top q:Nat) (S:WS):Prop where
  lin:Lin r c M0 S
  ech:lW r top q S.M
  bm:∀i j,i<r→j<c→(S.M i j).natAbs≤2^eR e0 r top
  bu:∀i j,i<r→j<r→(S.U i j).natAbs≤2^eR e0 r top
  bv:∀i j,i<r→j<r→(S.V i j).natAbs≤2^gR e0 r top
structure JR (r c e0:Nat) (M0:Nat→Nat→Int) (top q i:Nat) (S:WS):Prop where
  lin:Lin r c M0 S
  ech:lW r top q S.M
  col:∀k,k≤top∨i≤k→k<r→(S.M k q).natAbs≤2^eR e0 r top
  zer:∀k,top<k→k<i→S.M k q=0
  nul:S.M top q=0→(∀i j,i<r→j<c→(S.M i j).natAbs≤2^eR e0 r top)∧(∀i j,i<r→j<r→(S.U i j).natAbs≤2^eR e0 r top)∧∀i j,i<r→j<r→(S.V i j).natAbs≤2^gR e0 r top
  run:∃s:Nat,(∀a j,a<r→j<c→(S.M a j).natAbs≤2^eR e0 r top*(2^(2*eR e0 r top + 6))^(i - top - 1)*s)∧(∀a j,a<r→j<r→(S.U a j).natAbs≤2^eR e0 r top*(2^(2*eR e0 r top + 6))^(i - top - 1)*s)∧
    (∀a j,a<r→j<r→(S.V a j).natAbs≤2^gR e0 r top*(2^(2*eR e0 r top + 6))^(i - top - 1)*s)∧(i<r→s=1∨
      (0≤S.M i q∧S.M i q<((S.M top q).natAbs:Int)∧s*(((S.M top q).natAbs + 1)*((S.M i q).natAbs + 1))≤(2^eR e0 r top + 1)*(3*2^eR e0 r top + 1))∨
      (0≤S.M i q∧S.M i q<S.M top q∧s*(((S.M top q).natAbs + 1)*((S.M i q).natAbs + 1))≤3*((2^eR e0 r top + 1)*(3*2^eR e0 r top + 1))))∧(r≤i→s=1)
section
variable {r c e0:Nat} {M0:Nat→Nat→Int} {top q i:Nat} {S:WS}
theorem xh (e:Nat):3*((2^e + 1)*(3*2^e + 1))≤2^(2*e + 6):=by
  have h0:0<2^e:=Nat.two_pow_pos e;have h2:2^(2*e + 6)=(2^e*2^e)*64:=by rw [Nat.pow_add,Nat.two_mul,Nat.pow_add]
  rw [h2]
  generalize 2^e=x at*
  have h3:(x + 1)*(3*x + 1)≤(2*x)*(4*x):=Nat.mul_le_mul (by omega) (by omega);have h4:(2*x)*(4*x)=8*(x*x):=by rw [Nat.mul_mul_mul_comm]
  omega
theorem qt (e0 r:Nat):∀{s t:Nat},s≤t→eR e0 r s≤eR e0 r t
  | s,0,h=>by rw [show s=0 by omega];exact Nat.le_refl _
  | s,t + 1,h=>by
    by_cases e:s=t + 1
    · rw [e];exact Nat.le_refl _
    · have:=qt e0 r (s:=s) (t:=t) (by omega);simp only [eR];omega
theorem FR.start (hM:∀i j,i<r→j<c→(M0 i j).natAbs≤2^e0):FR r c e0 M0 0 0 ⟨M0,ct,ct⟩:=by
  have hid:∀(e i j:Nat),(ct i j).natAbs≤2^e:=fun e i j=>by
    have:=Nat.two_pow_pos e
    unfold ct;split<;>simp<;>omega
  exact ⟨Lin.start M0,⟨fun _=>0,fun i hi=>by omega,fun a _ _ j hj=>by omega⟩,hM,fun i j _ _=>hid _ i j,fun i j _ _=>hid _ i j⟩
theorem JR.of (h:FR r c e0 M0 top q S) (ht:top<r) (hq:q<c):JR r c e0 M0 top q (top + 1) S:=by
  have e1:∀x:Nat,x*(2^(2*eR e0 r top + 6))^(top + 1 - top - 1)*1=x:=fun x=>by rw [show top + 1 - top - 1=0 by omega,Nat.pow_zero,Nat.mul_one,Nat.mul_one]
  exact ⟨h.lin,h.ech,fun k _ hk=>h.bm k q hk hq,fun k h1 h2=>by omega,fun _=>⟨h.bm,h.bu,h.bv⟩,1,fun a j ha hj=>by rw [e1];exact h.bm a j ha hj,fun a j ha hj=>by rw [e1];exact h.bu a j ha hj,fun a j ha hj=>by rw [e1];exact h.bv a j ha hj,fun _=> .inl rfl,fun _=>rfl⟩
theorem lW.of {M M':Nat→Nat→Int} (h:lW r top q M) (h1:∀a,a<top→∀j,M' a j=M a j) (h2:∀a,top≤a→a<r→∀j,j<q→M' a j=0):lW r top q M':=by
  obtain ⟨P,g1,g2⟩:=h;refine ⟨P,fun i hi=> ?_,h2⟩;obtain ⟨k1,k2,k3,k4⟩:=g1 i hi;refine ⟨k1,by rw [h1 i hi];exact k2,fun j hj=>by rw [h1 i hi];exact k3 j hj,fun k hk=> ?_⟩;rw [h1 i hi,h1 k (by omega)];exact k4 k hk
theorem qq {a j:Nat} (hne:top≠i):(kX S top i q).M a j=if a=top then S.M i j else if a=i then S.M top j + -(S.M top q/S.M i q)*S.M i j else S.M a j:=by
  unfold kX bK de cE dw
  by_cases e1:a=top
  · subst e1;simp only [if_true,if_neg (Ne.symm hne)]
  · by_cases e2:a=i
    · subst e2;simp only [if_neg e1,if_true]
    · simp only [if_neg e1,if_neg e2]
theorem JR.zero (h:JR r c e0 M0 top q i S) (ht:top<i) (hi:i<r) (hz:S.M i q=0):JR r c e0 M0 top q (i + 1) S:=by
  obtain ⟨s,hM,hU,hV,hc,_⟩:=h.run;have hs:s≤2^(2*eR e0 r top + 6):=by
    have h0:=xh (eR e0 r top);have h1:1≤2^(2*eR e0 r top + 6):=Nat.two_pow_pos _;have h2:s≤s*(((S.M top q).natAbs + 1)*((S.M i q).natAbs + 1)):=Nat.le_mul_of_pos_right _ (Nat.mul_pos (by omega) (by omega));rcases hc hi with h3 | h3 | h3
    · omega
    · omega
    · omega
  have e1:∀x:Nat,x*(2^(2*eR e0 r top + 6))^(i - top - 1)*s≤x*(2^(2*eR e0 r top + 6))^(i + 1 - top - 1)*1:=fun x=>by
    clear hM hU hV
    generalize 2^(2*eR e0 r top + 6)=A at hs⊢
    rw [show i + 1 - top - 1=(i - top - 1) + 1 by omega,Nat.pow_succ,Nat.mul_one,←Nat.mul_assoc];exact Nat.mul_le_mul_left _ hs
  refine ⟨h.lin,h.ech,fun k hk hr=>h.col k (by omega) hr,fun k h1 h2=> ?_,h.nul,1,fun a j ha hj=>Nat.le_trans (hM a j ha hj) (e1 _),fun a j ha hj=>Nat.le_trans (hU a j ha hj) (e1 _),fun a j ha hj=>Nat.le_trans (hV a j ha hj) (e1 _),fun _=> .inl rfl,fun _=>rfl⟩
  by_cases e:k=i
  · subst e;exact hz
  · exact h.zer k h1 (by omega)
theorem JR.swap (h:JR r c e0 M0 top q i S) (ht:top<i) (hi:i<r) (hz:S.M i q≠0) (h0:S.M top q=0):JR r c e0 M0 top q i (bK S top i):=by
  obtain ⟨s,hM,hU,hV,hc,_⟩:=h.run;have hs:s=1:=by
    rcases hc hi with h3 | h3 | h3
    · exact h3
    · omega
    · omega
  have hrow:∀a j,(bK S top i).M a j=if a=top then S.M i j else if a=i then S.M top j else S.M a j:=fun a j=>by
    simp only [bK,cE];split
    · rfl
    · split<;>rfl
  obtain ⟨b1,b2,b3⟩:=jN (show top<r by omega) hi hM hU hV;obtain ⟨P,p1,p2⟩:=id h.ech;refine ⟨h.lin.swap (by omega) hi,h.ech.of (fun a ha j=>by rw [hrow,if_neg (by omega),if_neg (by omega)]) (fun a ha har j hj=> ?_),fun k hk hr=> ?_,fun k h1 h2=>by rw [hrow,if_neg (by omega),if_neg (by omega)];exact h.zer k h1 h2,fun hx=>absurd hx (by rw [hrow,if_pos rfl];exact hz),s,b1,b2,b3,fun _=> .inl hs,fun hri=>hs⟩
  · rw [hrow];split
    · exact p2 i (by omega) hi j hj
    · split
      · exact p2 top (Nat.le_refl _) (by omega) j hj
      · exact p2 a ha har j hj
  · rw [hrow];split
    · exact h.col i (.inr (Nat.le_refl _)) hi
    · split
      · exact h.col top (.inl (Nat.le_refl _)) (by omega)
      · exact h.col k hk hr
theorem JR.step (h:JR r c e0 M0 top q i S) (ht:top<i) (hi:i<r) (hz:S.M i q≠0) (h0:S.M top q≠0):JR r c e0 M0 top q i (kX S top i q)∧
    ∃s,s≤2^(2*eR e0 r top + 6)∧(∀a j,a<r→j<c→((de S top i (-(S.M top q/S.M i q))).M a j).natAbs≤2^eR e0 r top*(2^(2*eR e0 r top + 6))^(i - top - 1)*s)∧
      (∀a j,a<r→j<r→((de S top i (-(S.M top q/S.M i q))).U a j).natAbs≤2^eR e0 r top*(2^(2*eR e0 r top + 6))^(i - top - 1)*s)∧
      ∀a j,a<r→j<r→((de S top i (-(S.M top q/S.M i q))).V a j).natAbs≤2^gR e0 r top*(2^(2*eR e0 r top + 6))^(i - top - 1)*s:=by
  obtain ⟨s,hM,hU,hV,hc,_⟩:=h.run;have htr:top<r:=by omega
  have hne:top≠i:=by omega
  obtain ⟨c1,c2,c3⟩:=py (k:= -(S.M top q/S.M i q)) (K:=(S.M top q/S.M i q).natAbs) htr hi (by rw [Int.natAbs_neg];exact Nat.le_refl _) hM hU hV;simp only [Nat.mul_assoc _ s] at c1 c2 c3;obtain ⟨b1,b2,b3⟩:=jN htr hi c1 c2 c3;have x1:(kX S top i q).M top q=S.M i q:=vY hne;have x2:(kX S top i q).M i q=S.M top q % S.M i q:=Ab hne;have m1:=Int.emod_nonneg (S.M top q) hz;have m2:=Int.emod_lt (S.M top q) hz;have hct:=h.col top (.inl (Nat.le_refl _)) htr;have hci:=h.col i (.inr (Nat.le_refl _)) hi;have hst:(0≤(kX S top i q).M i q∧(kX S top i q).M i q<(((kX S top i q).M top q).natAbs:Int)∧s*(1 + (S.M top q/S.M i q).natAbs)*((((kX S top i q).M top q).natAbs + 1)*(((kX S top i q).M i q).natAbs + 1))≤(2^eR e0 r top + 1)*(3*2^eR e0 r top + 1))∨
      (0≤(kX S top i q).M i q∧(kX S top i q).M i q<(kX S top i q).M top q∧s*(1 + (S.M top q/S.M i q).natAbs)*((((kX S top i q).M top q).natAbs + 1)*(((kX S top i q).M i q).natAbs + 1))≤3*((2^eR e0 r top + 1)*(3*2^eR e0 r top + 1))):=by
    rw [x1,x2];rcases hc hi with h3 | h3 | h3
    · left
      refine ⟨m1,by omega,?_⟩;rw [h3,Nat.one_mul];exact eu1 hct hci hz
    · right
      exact ⟨m1,by omega,eu2 hz h3.1 h3.2.1 h3.2.2⟩
    · right
      exact ⟨m1,by omega,eu3 (by omega) (by omega) h3.2.2⟩
  have hsb:s*(1 + (S.M top q/S.M i q).natAbs)≤2^(2*eR e0 r top + 6):=by
    have g0:=xh (eR e0 r top);have g2:s*(1 + (S.M top q/S.M i q).natAbs)≤s*(1 + (S.M top q/S.M i q).natAbs)*((((kX S top i q).M top q).natAbs + 1)*(((kX S top i q).M i q).natAbs + 1)):=Nat.le_mul_of_pos_right _ (Nat.mul_pos (by omega) (by omega));rcases hst with h3 | h3<;>omega
  obtain ⟨P,p1,p2⟩:=id h.ech;refine ⟨⟨(h.lin.add _ htr hi hne).swap htr hi,h.ech.of (fun a ha j=>by rw [qq hne,if_neg (by omega),if_neg (by omega)]) (fun a ha har j hj=> ?_),fun k hk hr=> ?_,fun k h1 h2=>by rw [qq hne,if_neg (by omega),if_neg (by omega)];exact h.zer k h1 h2,fun hx=>absurd hx (by rw [x1];exact hz),_,b1,b2,b3,fun _=> .inr hst,fun hri=>by omega⟩,_,hsb,c1,c2,c3⟩
  · rw [qq hne];split
    · exact p2 i (by omega) hi j hj
    · split
      · rw [p2 top (Nat.le_refl _) htr j hj,p2 i (by omega) hi j hj,Int.mul_zero];rfl
      · exact p2 a ha har j hj
  · by_cases e1:k=top
    · subst e1;rw [x1];exact hci
    · by_cases e2:k=i
      · subst e2;rw [x2];omega
      · rw [qq hne,if_neg e1,if_neg e2];exact h.col k hk hr
theorem JR.none (h:JR r c e0 M0 top q r S) (ht:top<r) (hz:S.M top q=0):FR r c e0 M0 top (q + 1) S:=by
  obtain ⟨hM,hU,hV⟩:=h.nul hz;refine ⟨h.lin,?_,hM,hU,hV⟩;obtain ⟨P,h1,h2⟩:=h.ech;refine ⟨P,fun i hi=> ?_,fun a ha har j hj=> ?_⟩
  · obtain ⟨g1,g2⟩:=h1 i hi;exact ⟨by omega,g2⟩
  · by_cases e:j=q
    · subst e
      by_cases e2:a=top
      · subst e2;exact hz
      · exact h.zer a (by omega) har
    · exact h2 a ha har j (by omega)
theorem zR (e n:Nat):2^e*(2^(2*e + 6))^n*(1 + 2^e)≤2^(e + (2*e + 6)*n + e + 1):=by
  have h0:0<2^e:=Nat.two_pow_pos e;rw [Nat.pow_add 2 (e + (2*e + 6)*n + e) 1,Nat.pow_add 2 (e + (2*e + 6)*n) e,Nat.pow_add 2 e,Nat.pow_mul,Nat.mul_assoc (2^e*(2^(2*e + 6))^n)];exact Nat.mul_le_mul_left _ (by omega)
theorem AF (g e n:Nat):2^g*(2^(2*e + 6))^n*(1 + 7*2^e)≤2^(g + (2*e + 6)*n + e + 3):=by
  have h0:0<2^e:=Nat.two_pow_pos e;rw [Nat.pow_add 2 (g + (2*e + 6)*n + e) 3,Nat.pow_add 2 (g + (2*e + 6)*n) e,Nat.pow_add 2 g,Nat.pow_mul,Nat.mul_assoc (2^g*(2^(2*e + 6))^n)];exact Nat.mul_le_mul_left _ (by omega)
theorem JR.pivot (h:JR r c e0 M0 top q r S) (ht:top<r) (hq:q<c) (h8:r≤8) (hp:S.M top q≠0):
    (∀n,n≤top→(∀i j,i<r→j<c→((ra (sg S top q) top q n).M i j).natAbs≤2^eR e0 r (top + 1))∧
        (∀i j,i<r→j<r→((ra (sg S top q) top q n).U i j).natAbs≤2^eR e0 r (top + 1))∧
        ∀i j,i<r→j<r→((ra (sg S top q) top q n).V i j).natAbs≤2^gR e0 r (top + 1))∧
      FR r c e0 M0 (top + 1) (q + 1) (ra (sg S top q) top q top):=by
  rw [←zJ];have hE0:0<2^eR e0 r top:=Nat.two_pow_pos _;obtain ⟨s,hM,hU,hV,_,hs⟩:=h.run;rw [hs (Nat.le_refl _)] at hM hU hV;simp only [Nat.mul_one] at hM hU hV;have htop:=jV S top top q;obtain ⟨hM2,hU2,hV2⟩:=sM (q:=q) ht ht hM hU hV;have hlin:=h.lin.sn q ht ht;have hech:=h.ech.sn (q:=q) ht (Nat.le_refl _) ht;have hcol:∀i,i≠top→(sn S top top q).M i q=S.M i q:=fun i hi=>by rw [(rd S top top q i q).1 hi,if_neg hi]
  have hab:∀i,i<top→((sn S top top q).M i q).natAbs≤2^eR e0 r top:=fun i hi=>by rw [hcol i (by omega)];exact h.col i (.inl (by omega)) (by omega)
  have hbelow:∀i,top<i→i<r→(sn S top top q).M i q=0:=fun i hi hir=>by
    rw [hcol i (by omega)];exact h.zer i hi hir
  generalize sn S top top q=S2 at*
  generalize hy:(S.M top q).natAbs=y at*
  have hy0:0<y:=by omega
  have hK:∀i,i<top→(kq S2 top q i).natAbs≤2^eR e0 r top:=fun i hi=>by
    unfold kq;rw [htop]
    exact Nat.le_trans (mH (by omega)) (hab i hi)
  have hbd:=fun n (hn:n≤top)=>xc (n:=n) ht hn (by omega) hK hM2 hU2 hV2
  have hfin:∀n,n≤top→(∀i j,i<r→j<c→((ra S2 top q n).M i j).natAbs≤2^eR e0 r (top + 1))∧(∀i j,i<r→j<r→((ra S2 top q n).U i j).natAbs≤2^eR e0 r (top + 1))∧
      ∀i j,i<r→j<r→((ra S2 top q n).V i j).natAbs≤2^gR e0 r (top + 1):=fun n hn=>by
    refine ⟨fun i j hi hj=> ?_,fun i j hi hj=> ?_,fun i j hi hj=> ?_⟩
    · exact Nat.le_trans ((hbd n hn).1 i j hi hj) (zR _ _)
    · exact Nat.le_trans ((hbd n hn).2.1 i j hi hj) (zR _ _)
    · exact Nat.le_trans ((hbd n hn).2.2 i j hi hj) (AF _ _ _)
  refine ⟨hfin,hlin.ra q ht top (Nat.le_refl _),?_,(hfin top (Nat.le_refl _)).1,(hfin top (Nat.le_refl _)).2.1,(hfin top (Nat.le_refl _)).2.2⟩;obtain ⟨P,h1,h2⟩:=hech;have hrow:∀i,i<top→∀j,j<q→(ra S2 top q top).M i j=S2.M i j:=fun i hi j hj=>by
    rw [kW _ _ _ _ _ _ (Nat.le_refl _),if_pos hi,h2 top (Nat.le_refl _) ht j hj,Int.mul_zero,Int.add_zero]
  have hrest:∀i,top≤i→∀j,(ra S2 top q top).M i j=S2.M i j:=fun i hi j=>by rw [kW _ _ _ _ _ _ (Nat.le_refl _),if_neg (by omega)]
  refine ⟨ci P top q,fun i hi=> ?_,fun a ha har j hj=> ?_⟩
  · by_cases e:i=top
    · subst e
      rw [aW];refine ⟨by omega,by rw [hrest i (Nat.le_refl _),htop];omega,fun j hj=>by rw [hrest i (Nat.le_refl _)];exact h2 i (Nat.le_refl _) ht j hj,fun k hk=> ?_⟩;rw [aT _ _ _ _ (by omega),hrest i (Nat.le_refl _),htop,kW _ _ _ _ _ _ (Nat.le_refl _),if_pos hk]
      unfold kq
      rw [htop];have e1:S2.M k q + -(S2.M k q/(y:Int))*(y:Int)=S2.M k q % (y:Int):=by
        have:=Int.mul_ediv_add_emod (S2.M k q) (y:Int);rw [Int.neg_mul,Int.mul_comm (S2.M k q/(y:Int))];omega
      rw [e1];exact ⟨(h1 k hk).1,Int.emod_nonneg _ (by omega),Int.emod_lt_of_pos _ (by omega)⟩
    · rw [aT _ _ _ _ e]
      obtain ⟨g1,g2,g3,g4⟩:=h1 i (by omega);refine ⟨by omega,by rw [hrow i (by omega) _ g1];exact g2,fun j hj=>by rw [hrow i (by omega) _ (by omega)];exact g3 j hj,fun k hk=> ?_⟩;rw [aT _ _ _ _ (by omega),hrow k (by omega) _ g1,hrow i (by omega) _ g1];exact g4 k hk
  · rw [hrest a (by omega)]
    by_cases e:j=q
    · subst e;exact hbelow a (by omega) har
    · exact h2 a (by omega) har j (by omega)
end
end Go.TL
namespace Go.TL
open Go.RowKit
set_option linter.unusedVariables false
def yE (w:World) (v:Value) (n:Nat) (ka ki kj:Nat→Nat) (kk:Nat→Int):Prop:=∃A c,v= .slice A n c∧n≤c∧c<9223372036854775808∧
  (0<n→∃g o,A=some ⟨g,o,none⟩∧∀i,i<n→(w.cell? ⟨g,o + i*4,none⟩=some (.int .u8 (ka i:Nat))∧w.cell? ⟨g,o + i*4 + 1,none⟩=some (.int .u8 (ki i:Nat)))∧w.cell? ⟨g,o + i*4 + 2,none⟩=some (.int .u8 (kj i:Nat))∧w.cell? ⟨g,o + i*4 + 3,none⟩=some (.int .i8 (kk i)))
theorem yE.ext {w w':World} {v:Value} {n:Nat} {ka ki kj:Nat→Nat} {kk:Nat→Int} (h:yE w v n ka ki kj kk) (hx:aA w w'):yE w' v n ka ki kj kk:=by
  obtain ⟨A,c,h1,h2,h3,h4⟩:=h;exact ⟨A,c,h1,h2,h3,fun hn=>by
    obtain ⟨g,o,hA,hc⟩:=h4 hn;exact ⟨g,o,hA,fun i hi=>by obtain ⟨⟨g1,g2⟩,g3,g4⟩:=hc i hi;exact ⟨⟨aA.cell g1 hx,aA.cell g2 hx⟩,aA.cell g3 hx,aA.cell g4 hx⟩⟩⟩
instance (n:Nat) (ka ki kj:Nat→Nat) (kk:Nat→Int):Nonempty (bq (fun v w=>yE w v n ka ki kj kk)):=⟨fun _ _ _ h hx=>h.ext hx⟩
def wD (w:World) (v:Value) (a b c:Nat) (d:Int):Prop:=∃g o,v= .pointer (some ⟨g,o,none⟩)∧(w.cell? ⟨g,o,none⟩=some (.int .u8 (a:Nat))∧w.cell? ⟨g,o + 1,none⟩=some (.int .u8 (b:Nat)))∧w.cell? ⟨g,o + 2,none⟩=some (.int .u8 (c:Nat))∧w.cell? ⟨g,o + 3,none⟩=some (.int .i8 d)
theorem wD.ext {w w':World} {v:Value} {a b c:Nat} {d:Int} (h:wD w v a b c d) (hx:aA w w'):wD w' v a b c d:=by
  obtain ⟨g,o,h1,⟨h2,h3⟩,h4,h5⟩:=h;exact ⟨g,o,h1,⟨aA.cell h2 hx,aA.cell h3 hx⟩,aA.cell h4 hx,aA.cell h5 hx⟩
theorem rz (a b c:Nat) (d:Int):bq (fun v w=>wD w v a b c d):=fun _ _ _ h hx=>h.ext hx
instance (a b c:Nat) (d:Int):Nonempty (bq (fun v w=>wD w v a b c d)):=⟨rz a b c d⟩
instance (k:IntKind) (x:Int):Nonempty (bq (fun v w=>oA k w v x)):=⟨fun _ _ _ h hx=>h.ext hx⟩
structure MvI (r c e0:Nat) (M:Nat→Nat→Int) (n:Nat) (S:WS):Prop where
  lin:Lin r c M S
  bm:∀i j,i<r→j<c→(S.M i j).natAbs≤2^(e0 + 2*n)
  bu:∀i j,i<r→j<r→(S.U i j).natAbs≤2^(2*n)
  bv:∀i j,i<r→j<r→(S.V i j).natAbs≤2^(2*n)
section
variable {r c e0 n:Nat} {M:Nat→Nat→Int} {S:WS}
theorem tY (i j:Nat):(ct i j).natAbs≤1:=by unfold ct;split<;>decide
theorem MvI.start (h:∀i j,i<r→j<c→(M i j).natAbs≤2^e0):MvI r c e0 M 0 ⟨M,ct,ct⟩:=
  ⟨Lin.start M,h,fun i j _ _=>tY i j,fun i j _ _=>tY i j⟩
theorem MvI.next (h:MvI r c e0 M n S):MvI r c e0 M (n + 1) S:=
  ⟨h.lin,fun i j hi hj=>Nat.le_trans (h.bm i j hi hj) (Nat.pow_le_pow_right (by decide) (by omega)),fun i j hi hj=>Nat.le_trans (h.bu i j hi hj) (Nat.pow_le_pow_right (by decide) (by omega)),fun i j hi hj=>Nat.le_trans (h.bv i j hi hj) (Nat.pow_le_pow_right (by decide) (by omega))⟩
theorem MvI.swap (h:MvI r c e0 M n S) {i j:Nat} (hi:i<r) (hj:j<r):MvI r c e0 M (n + 1) (bK S i j):=by
  obtain ⟨h1,h2,h3⟩:=jN (c:=c) hi hj h.bm h.bu h.bv;exact MvI.next ⟨h.lin.swap hi hj,h1,h2,h3⟩
theorem MvI.neg (h:MvI r c e0 M n S) {i:Nat} (hi:i<r):MvI r c e0 M (n + 1) (fE S i):=by
  refine MvI.next ⟨h.lin.neg hi,fun a b ha hb=> ?_,fun a b ha hb=> ?_,fun a b ha hb=> ?_⟩
  · simp only [fE,eA];split
    · rw [Int.natAbs_neg];exact h.bm i b hi hb
    · exact h.bm a b ha hb
  · simp only [fE,eA];split
    · rw [Int.natAbs_neg];exact h.bu i b hi hb
    · exact h.bu a b ha hb
  · simp only [fE,fD];split
    · rw [Int.natAbs_neg];exact h.bv a i ha hi
    · exact h.bv a b ha hb
theorem MvI.add (h:MvI r c e0 M n S) {i j:Nat} {k:Int} (hi:i<r) (hj:j<r) (hij:i≠j) (hk:k.natAbs≤3):MvI r c e0 M (n + 1) (de S i j k):=by
  obtain ⟨h1,h2,h3⟩:=py (c:=c) hi hj hk h.bm h.bu h.bv;refine ⟨h.lin.add k hi hj hij,fun a b ha hb=> ?_,fun a b ha hb=> ?_,fun a b ha hb=> ?_⟩
  · rw [show e0 + 2*(n + 1)=e0 + 2*n + 2 by omega,Nat.pow_add];exact h1 a b ha hb
  · rw [show 2*(n + 1)=2*n + 2 by omega,Nat.pow_add];exact h2 a b ha hb
  · rw [show 2*(n + 1)=2*n + 2 by omega,Nat.pow_add];exact h3 a b ha hb
end
end Go.TL
namespace Go.TL
open Go.RowKit Go.Proofs
set_option linter.unusedVariables false
def bR (e0 r:Nat):Nat:=eR e0 r r + gR e0 r r + 2
structure HermR (r c e0:Nat) (M0:Nat→Nat→Int) (k:Nat) (S:WS):Prop where
  lin:Lin r c M0 S
  kr:k≤r
  kc:k≤c
  ech:lW r k c S.M
  bm:∀i j,i<r→j<c→(S.M i j).natAbs≤2^eR e0 r k
  bu:∀i j,i<r→j<r→(S.U i j).natAbs≤2^eR e0 r k
  bv:∀i j,i<r→j<r→(S.V i j).natAbs≤2^gR e0 r k
end Go.TL
namespace Go.TL
set_option linter.unusedVariables false
theorem lW.some {r k c:Nat} {M:Nat→Nat→Int} (h:lW r k c M) {i:Nat} (hi:i<k):0≤piv (M i) c:=by
  obtain ⟨P,h1,_⟩:=h;obtain ⟨g1,g2,_⟩:=h1 i hi
  by_cases hn:0≤piv (M i) c
  · exact hn
  · have h3:cM gU (M i) c= -1:=by have:=(eg (p:=gU) (z:=M i) c).2;unfold piv at hn;omega
    have:=em h3 (P i) g1
    unfold gU at this
    omega
theorem lW.none {r k c:Nat} {M:Nat→Nat→Int} (h:lW r k c M) {i:Nat} (hi:k≤i) (hr:i<r):¬0≤piv (M i) c:=by
  obtain ⟨P,_,h2⟩:=h
  unfold piv
  rw [ip fun j hj=>by unfold gU;exact fun hne=>hne (h2 i hi hr j hj)];omega
def lU (r c e0:Nat) (M0:Nat→Nat→Int) (k:Nat) (M:Nat→Nat→Int):Prop:=
  ∃k1 S1 S2,HermR r c e0 M0 k1 S1∧HermR (r - k1) r (eR e0 r k1) (fun i=>S1.U (k1 + i)) k S2∧M=S2.M
theorem lU.bd {r c e0 e1 k:Nat} {M0 M:Nat→Nat→Int} (h:lU r c e0 M0 k M) (he:∀k,k≤r→eR (eR e0 r k) (r - k) (r - k)≤e1) {i j:Nat} (hi:i<k) (hj:j<r):(M i j).natAbs≤2^e1:=by
  obtain ⟨k1,S1,S2,h1,h2,rfl⟩:=h;have g1:=h2.kr;exact Nat.le_trans (h2.bm i j (by omega) hj) (Nat.pow_le_pow_right (by omega) (Nat.le_trans (qt _ _ g1) (he k1 h1.kr)))
theorem lU.kr {r c e0 k:Nat} {M0 M:Nat→Nat→Int} (h:lU r c e0 M0 k M):k≤r:=by
  obtain ⟨k1,S1,S2,h1,h2,rfl⟩:=h;have g1:=h2.kr;omega
end Go.TL
namespace Go.TL
open Go.RowKit Go.Proofs
set_option linter.unusedVariables false
def Al (r c e0 e1:Nat) (M0:Nat→Nat→Int) (k:Nat) (M:Nat→Nat→Int):Prop:=∃k1 K1,lU c r e0 (se M0) k1 K1∧lU c k1 e1 (se K1) k M
def nf (w:World) (v:Value) (r c e0:Nat) (M0:Nat→Nat→Int) (b:Nat):Prop:=∃k S,HermR r c e0 M0 k S∧kU w v r c S b
theorem nf.ext {w w':World} {v:Value} {r c e0 b:Nat} {M0:Nat→Nat→Int} (h:nf w v r c e0 M0 b) (hx:aA w w'):nf w' v r c e0 M0 b:=by obtain ⟨k,S,h1,h2⟩:=h;exact ⟨k,S,h1,h2.ext hx⟩
theorem nQ (r c e0:Nat) (M0:Nat→Nat→Int) (b:Nat):bq (fun v w=>nf w v r c e0 M0 b):=fun _ _ _ h hx=>h.ext hx
instance (r c e0:Nat) (M0:Nat→Nat→Int) (b:Nat):Nonempty (bq (fun v w=>nf w v r c e0 M0 b)):=⟨nQ r c e0 M0 b⟩
def qN (w:World) (v:Value) (r c e0:Nat) (M0:Nat→Nat→Int) (b:Nat):Prop:=∃k S,HermR r c e0 M0 k S∧bX w v r c S.M b
theorem qN.ext {w w':World} {v:Value} {r c e0 b:Nat} {M0:Nat→Nat→Int} (h:qN w v r c e0 M0 b) (hx:aA w w'):qN w' v r c e0 M0 b:=by obtain ⟨k,S,h1,h2⟩:=h;exact ⟨k,S,h1,h2.ext hx⟩
theorem oW (r c e0:Nat) (M0:Nat→Nat→Int) (b:Nat):bq (fun v w=>qN w v r c e0 M0 b):=fun _ _ _ h hx=>h.ext hx
instance (r c e0:Nat) (M0:Nat→Nat→Int) (b:Nat):Nonempty (bq (fun v w=>qN w v r c e0 M0 b)):=⟨oW r c e0 M0 b⟩
def qP (w:World) (v:Value) (r c e0:Nat) (M0:Nat→Nat→Int) (b:Nat):Prop:=∃k S,HermR r c e0 M0 k S∧bX w v k c S.M b
theorem qP.ext {w w':World} {v:Value} {r c e0 b:Nat} {M0:Nat→Nat→Int} (h:qP w v r c e0 M0 b) (hx:aA w w'):qP w' v r c e0 M0 b:=by obtain ⟨k,S,h1,h2⟩:=h;exact ⟨k,S,h1,h2.ext hx⟩
theorem oY (r c e0:Nat) (M0:Nat→Nat→Int) (b:Nat):bq (fun v w=>qP w v r c e0 M0 b):=fun _ _ _ h hx=>h.ext hx
instance (r c e0:Nat) (M0:Nat→Nat→Int) (b:Nat):Nonempty (bq (fun v w=>qP w v r c e0 M0 b)):=⟨oY r c e0 M0 b⟩
def qK (w:World) (v:Value) (r c e0:Nat) (M0:Nat→Nat→Int) (b:Nat):Prop:=∃k M,lU r c e0 M0 k M∧bX w v k r M b
theorem qK.ext {w w':World} {v:Value} {r c e0 b:Nat} {M0:Nat→Nat→Int} (h:qK w v r c e0 M0 b) (hx:aA w w'):qK w' v r c e0 M0 b:=by obtain ⟨k,S,h1,h2⟩:=h;exact ⟨k,S,h1,h2.ext hx⟩
theorem oU (r c e0:Nat) (M0:Nat→Nat→Int) (b:Nat):bq (fun v w=>qK w v r c e0 M0 b):=fun _ _ _ h hx=>h.ext hx
instance (r c e0:Nat) (M0:Nat→Nat→Int) (b:Nat):Nonempty (bq (fun v w=>qK w v r c e0 M0 b)):=⟨oU r c e0 M0 b⟩
end Go.TL
namespace Go.TL
set_option linter.unusedVariables false
theorem gY {f:Nat→Int} {k:Nat}:∀{n:Nat},k≤n→(∀i,k≤i→i<n→f i=0)→av n f=av k f
  | 0,h,_=>by rw [show k=0 by omega]
  | n + 1,h,hz=>by
    by_cases e:k=n + 1
    · rw [e]
    · simp only [av];rw [gY (n:=n) (by omega) fun i h1 h2=>hz i h1 (by omega),hz n (by omega) (by omega)];omega
theorem jU (f:Nat→Int) (k:Nat):∀n,av (k + n) f=av k f + av n (fun i=>f (k + i))
  | 0=>by simp [av]
  | n + 1=>by rw [show k + (n + 1)=k + n + 1 by omega];simp only [av];rw [jU f k n];omega
def fC (n c:Nat) (M:Nat→Nat→Int) (v:Nat→Int):Prop:=∃a:Nat→Int,∀j,j<c→v j=av n (fun i=>a i*M i j)
theorem fC.congr {n c:Nat} {M M':Nat→Nat→Int} {v:Nat→Int} (h:fC n c M v) (he:∀i j,i<n→j<c→M i j=M' i j):fC n c M' v:=by
  obtain ⟨a,h⟩:=h;exact ⟨a,fun j hj=>by rw [h j hj];exact ar fun i hi=>by rw [he i j hi hj]⟩
theorem fC.row {n c:Nat} {M:Nat→Nat→Int} {i:Nat} (hi:i<n):fC n c M (M i):=
  ⟨fun x=>if x=i then 1 else 0,fun j hj=>by
    have:=eu (f:=fun x=>M x j) hi;rw [←this];exact ar fun x _=>by by_cases e:x=i<;>simp [e]⟩
theorem fC.sub {n c:Nat} {M:Nat→Nat→Int} {u v:Nat→Int} (h:fC n c M u) (g:fC n c M v):fC n c M (fun j=>u j - v j):=by
  obtain ⟨a,h⟩:=h;obtain ⟨b,g⟩:=g;refine ⟨fun i=>a i - b i,fun j hj=> ?_⟩;show u j - v j=_;rw [h j hj,g j hj,←gX];exact ar fun i _=>(Int.sub_mul _ _ _).symm
theorem fC.cut {k n c:Nat} {M:Nat→Nat→Int} (hk:k≤n) (hz:∀i,k≤i→i<n→∀j,j<c→M i j=0) {v:Nat→Int}:fC n c M v↔fC k c M v:=by
  constructor
  · rintro ⟨a,h⟩
    exact ⟨a,fun j hj=>by rw [h j hj];exact gY hk fun i h1 h2=>by rw [hz i h1 h2 j hj,Int.mul_zero]⟩
  · rintro ⟨a,h⟩
    refine ⟨fun i=>if i<k then a i else 0,fun j hj=> ?_⟩;rw [h j hj,gY (n:=n) hk fun i h1 h2=>by rw [hz i h1 h2 j hj,Int.mul_zero]];exact ar fun i hi=>by simp only [if_pos hi]
theorem dG (r n:Nat) (a:Nat→Int) (A B:Nat→Nat→Int) (j:Nat):av r (fun i=>a i*bc n A B i j)=av n (fun x=>av r (fun i=>a i*A i x)*B x j):=
  (kw r n (fun _=>a) A B 0 j).symm
section
variable {r c:Nat} {M0:Nat→Nat→Int} {S:WS}
theorem Lin.lat (h:Lin r c M0 S) {v:Nat→Int}:fC r c M0 v↔fC r c S.M v:=by
  constructor
  · rintro ⟨a,g⟩
    refine ⟨fun x=>av r (fun i=>a i*S.V i x),fun j hj=> ?_⟩;rw [g j hj,←dG];exact ar fun i hi=>by rw [h.back hi hj]
  · rintro ⟨a,g⟩
    refine ⟨fun x=>av r (fun i=>a i*S.U i x),fun j hj=> ?_⟩;rw [g j hj,←dG];exact ar fun i hi=>by rw [h.eq i j hi hj]
end
def eI (k c:Nat) (M:Nat→Nat→Int) (P:Nat→Nat):Prop:=∀i,i<k→P i<c∧0<M i (P i)∧(∀j,j<P i→M i j=0)∧∀n,n<i→P n<P i∧0≤M n (P i)∧M n (P i)<M i (P i)
theorem eI.lead {k c:Nat} {M:Nat→Nat→Int} {P:Nat→Nat} (h:eI k c M P) {a:Nat→Int} {v:Nat→Int} (hv:∀j,j<c→v j=av k (fun i=>a i*M i j)):
    (∀i,i<k→a i=0)∨∃j,j<k∧(∀x,x<P j→v x=0)∧v (P j)≠0∧M j (P j)∣v (P j):=by
  by_cases hz:∀i,i<k→a i=0
  · exact .inl hz
  · have hex:∃i,i<k∧a i≠0:=by
      apply Classical.byContradiction;intro hn
      exact hz fun i hi=>Classical.byContradiction fun h=>hn ⟨i,hi,h⟩
    have hmin:∃j,j<k∧a j≠0∧∀i,i<j→a i=0:=by
      obtain ⟨i,hi,ha⟩:=hex
      induction i using Nat.strongRecOn with
      | _ i ih=>
        by_cases hk:∃x,x<i∧a x≠0
        · obtain ⟨x,hx,hxa⟩:=hk;exact ih x hx (by omega) hxa
        · exact ⟨i,hi,ha,fun x hx=>Classical.byContradiction fun h=>hk ⟨x,hx,h⟩⟩
    obtain ⟨j,hj,hja,hjm⟩:=hmin;obtain ⟨g1,g2,g3,_⟩:=h j hj;have hval:v (P j)=a j*M j (P j):=by
      rw [hv _ g1];refine dO hj fun i hi hne=> ?_
      rcases Nat.lt_or_ge i j with hlt | hge
      · rw [hjm i hlt,Int.zero_mul]
      · obtain ⟨_,_,k3,k4⟩:=h i hi
        rw [k3 (P j) (k4 j (by omega)).1,Int.mul_zero]
    refine .inr ⟨j,hj,fun x hx=> ?_,?_,⟨a j,by rw [hval,Int.mul_comm]⟩⟩
    · rw [hv x (by omega)]
      refine cI fun i hi=> ?_
      rcases Nat.lt_or_ge i j with hlt | hge
      · rw [hjm i hlt,Int.zero_mul]
      · obtain ⟨_,_,k3,k4⟩:=h i hi
        by_cases e:i=j
        · subst e;rw [k3 x hx,Int.mul_zero]
        · have:=(k4 j (by omega)).1
          rw [k3 x (by omega),Int.mul_zero]
    · rw [hval];intro h0
      rcases Int.mul_eq_zero.1 h0 with h1 | h1
      · exact hja h1
      · omega
theorem eI.inl {k c:Nat} {M:Nat→Nat→Int} {P:Nat→Nat} (h:eI k c M P) {v:Nat→Int} (hv:fC k c M v):
    (∀j,j<c→v j=0)∨∃j,j<k∧(∀x,x<P j→v x=0)∧v (P j)≠0∧M j (P j)∣v (P j):=by
  obtain ⟨a,hv⟩:=hv;rcases h.lead hv with h1 | h1
  · exact .inl fun j hj=>by rw [hv j hj];exact cI fun i hi=>by rw [h1 i hi,Int.zero_mul]
  · exact .inr h1
theorem eI.inc {k c:Nat} {M:Nat→Nat→Int} {P:Nat→Nat} (h:eI k c M P) {i j:Nat} (hi:i<k) (hj:j<k) (e:P i=P j):i=j:=by
  rcases Nat.lt_trichotomy i j with h1 | h1 | h1
  · have:=((h j hj).2.2.2 i h1).1;omega
  · exact h1
  · have:=((h i hi).2.2.2 j h1).1;omega
theorem eI.sub {k k' c:Nat} {M M':Nat→Nat→Int} {P P':Nat→Nat} (h:eI k c M P) (h':eI k' c M' P') (hs:∀v,fC k c M v→fC k' c M' v) {i:Nat} (hi:i<k):
    ∃j,j<k'∧P' j=P i∧M' j (P i)∣M i (P i):=by
  obtain ⟨g1,g2,g3,_⟩:=h i hi;rcases h'.inl (hs _ (fC.row (M:=M) hi)) with h1 | ⟨j,hj,h1,h2,h3⟩
  · have:=h1 _ g1;omega
  · have e:P' j=P i:=by
      rcases Nat.lt_trichotomy (P' j) (P i) with h4 | h4 | h4
      · exact absurd (g3 _ h4) h2
      · exact h4
      · have:=h1 _ h4;omega
    exact ⟨j,hj,e,by rw [←e];exact h3⟩
theorem eI.same {k k' c:Nat} {M M':Nat→Nat→Int} {P P':Nat→Nat} (h:eI k c M P) (h':eI k' c M' P') (hs:∀v,fC k c M v→fC k' c M' v) (hs':∀v,fC k' c M' v→fC k c M v):
    ∀n,∀i,i<n→i<k→i<k'∧P' i=P i∧M' i (P i)=M i (P i)
  | 0,i,hn,_=>by omega
  | n + 1,i,hn,hi=>by
    by_cases e:i<n
    · exact eI.same h h' hs hs' n i e hi
    · have ih:=eI.same h h' hs hs' n
      obtain ⟨j,hj,hP,hd⟩:=h.sub h' hs hi;obtain ⟨i2,hi2,hP2,hd2⟩:=h'.sub h hs' hj;have e2:i2=i:=h.inc hi2 hi (hP2.trans hP);subst e2;have hij:i2≤j:=by
        rcases Nat.lt_or_ge j i2 with h1 | h1
        · obtain ⟨_,h3,_⟩:=ih j (by omega) (by omega)
          have:=h.inc (i:=j) (j:=i2) (by omega) hi (by rw [←h3];exact hP);omega
        · exact h1
      have hji:j≤i2:=by
        rcases Nat.lt_or_ge i2 j with h1 | h1
        ·
          obtain ⟨m,hm,hPm,_⟩:=h'.sub h hs' (i:=i2) (by omega);have h3:=((h' j hj).2.2.2 i2 h1).1;have h4:m<i2:=by
            rcases Nat.lt_trichotomy m i2 with h5 | h5 | h5
            · exact h5
            · subst h5;omega
            · have:=((h m hm).2.2.2 i2 h5).1;omega
          obtain ⟨h6,h7,_⟩:=ih m (by omega) hm;have:=h'.inc (i:=m) (j:=i2) h6 (by omega) (by omega);omega
        · exact h1
      have e3:j=i2:=by omega
      subst e3;refine ⟨hj,hP,?_⟩;have p1:=(h j hi).2.1;have p2:=(h' j hj).2.1;rw [hP] at p2 hd2;exact Int.dvd_antisymm (by omega) (by omega) hd hd2
theorem eI.unique {k k' c:Nat} {M M':Nat→Nat→Int} {P P':Nat→Nat} (h:eI k c M P) (h':eI k' c M' P') (hs:∀v,fC k c M v↔fC k' c M' v):k=k'∧∀i j,i<k→j<c→M i j=M' i j:=by
  have h1:=fun i hi=>eI.same h h' (fun v=>(hs v).1) (fun v=>(hs v).2) (i + 1) i (by omega) hi
  have h2:=fun i hi=>eI.same h' h (fun v=>(hs v).2) (fun v=>(hs v).1) (i + 1) i (by omega) hi
  have hk:k=k':=by
    rcases Nat.lt_trichotomy k k' with h3 | h3 | h3
    · have:=(h2 k h3).1;omega
    · exact h3
    · have:=(h1 k' h3).1;omega
  refine ⟨hk,fun i j hi hj=> ?_⟩;have hrow:fC k c M (fun j=>M i j - M' i j):=fC.sub (fC.row hi) ((hs _).2 (fC.row (h1 i hi).1));rcases h.inl hrow with h3 | ⟨m,hm,h3,h4,h5⟩
  · have:=h3 j hj;omega
  · exfalso
    obtain ⟨a1,a2,a3⟩:=h1 i hi;obtain ⟨b1,b2,b3⟩:=h1 m hm;obtain ⟨g1,g2,g3,g4⟩:=h i hi;obtain ⟨f1,f2,f3,f4⟩:=h m hm;have hmi:i<m:=by
      rcases Nat.lt_trichotomy i m with e | e | e
      · exact e
      · subst e;exact absurd (by rw [a3];omega) h4
      · have e1:=(g4 m e).1
        have e2:=g3 _ e1;have e3:=(h' i a1).2.2.1 (P m) (by omega);exact absurd (by rw [e2,e3];rfl) h4
    have c1:=(f4 i hmi).2;have c2:=((h' m b1).2.2.2 i hmi).2;rw [b2,b3] at c2;obtain ⟨t,ht⟩:=h5;have c3:(M i (P m) - M' i (P m)).natAbs<(M m (P m)).natAbs:=by omega
    have c4:(M m (P m)).natAbs≤(M i (P m) - M' i (P m)).natAbs:=by
      rw [ht,Int.natAbs_mul];refine Nat.le_mul_of_pos_right _ ?_;rcases Nat.eq_zero_or_pos t.natAbs with h0 | h0
      · have:t=0:=by omega
        subst this;exact absurd (by rw [ht,Int.mul_zero]) h4
      · exact h0
    omega
theorem lW.toP {r k c:Nat} {M:Nat→Nat→Int} (h:lW r k c M):(∃P,eI k c M P)∧∀i,k≤i→i<r→∀j,j<c→M i j=0:=by
  obtain ⟨P,h1,h2⟩:=h;exact ⟨⟨P,h1⟩,h2⟩
theorem mC {r c k:Nat} {M0:Nat→Nat→Int} {S:WS} (hl:Lin r c M0 S) (hk:k≤r) (he:lW r k c S.M) {v:Nat→Int}:fC r c M0 v↔fC k c S.M v:=
  hl.lat.trans (fC.cut hk he.toP.2)
def yF (r c:Nat) (M0:Nat→Nat→Int) (u:Nat→Int):Prop:=∀j,j<c→av r (fun i=>u i*M0 i j)=0
theorem qk {r c k:Nat} {M0:Nat→Nat→Int} {S:WS} (hl:Lin r c M0 S) (hk:k≤r) (he:lW r k c S.M) {u:Nat→Int}:yF r c M0 u↔fC (r - k) r (fun i=>S.U (k + i)) u:=by
  obtain ⟨⟨P,hP⟩,hz⟩:=he.toP
  constructor
  · intro hu
    have hcoord:∀j,j<r→u j=av r (fun i=>av r (fun x=>u x*S.V x i)*S.U i j):=fun j hj=>by
      rw [←dG];have h1:av r (fun i=>u i*bc r S.V S.U i j)=av r (fun i=>u i*ct i j):=ar fun i hi=>by rw [hl.vu i j hi hj]
      rw [h1,dO hj fun x _ hne=>by simp [ct,hne]];simp [ct]
    have hzero:∀j,j<c→av k (fun i=>av r (fun x=>u x*S.V x i)*S.M i j)=0:=fun j hj=>by
      have h1:av r (fun i=>u i*bc r S.V S.M i j)=0:=by rw [←hu j hj];exact ar fun i hi=>by rw [hl.back hi hj]
      rw [dG,gY hk fun i h2 h3=>by rw [hz i h2 h3 j hj,Int.mul_zero]] at h1;exact h1
    have hc:∀i,i<k→av r (fun x=>u x*S.V x i)=0:=by
      rcases hP.lead (a:=fun i=>av r (fun x=>u x*S.V x i)) (v:=fun _=>0) (fun j hj=>(hzero j hj).symm) with h1 | ⟨_,_,_,h2,_⟩
      · exact h1
      · exact absurd rfl h2
    refine ⟨fun i=>av r (fun x=>u x*S.V x (k + i)),fun j hj=> ?_⟩;have h5:=jU (fun i=>av r (fun x=>u x*S.V x i)*S.U i j) k (r - k);rw [show k + (r - k)=r by omega] at h5;rw [hcoord j hj,h5,cI fun i hi=>by rw [hc i hi,Int.zero_mul],Int.zero_add]
  · rintro ⟨a,h⟩ j hj
    have h1:av r (fun i=>u i*M0 i j)=av r (fun i=>av (r - k) (fun x=>a x*S.U (k + x) i)*M0 i j):=ar fun i hi=>by rw [h i hi]
    rw [h1];have h2:=(dG (r - k) r a (fun x=>S.U (k + x)) M0 j).symm;rw [h2];refine cI fun i hi=> ?_
    have h3:bc r (fun x=>S.U (k + x)) M0 i j=S.M (k + i) j:=(hl.eq (k + i) j (by omega) hj).symm;rw [h3,hz (k + i) (by omega) (by omega) j hj,Int.mul_zero]
theorem yF.congr {r c:Nat} {M M':Nat→Nat→Int} (he:∀i j,i<r→j<c→M i j=M' i j) {u:Nat→Int}:yF r c M u↔yF r c M' u:=by
  constructor<;>intro h j hj
  · rw [←h j hj];exact ar fun i hi=>by rw [he i j hi hj]
  · rw [←h j hj];exact ar fun i hi=>by rw [he i j hi hj]
theorem fU.lat {r c e0 k:Nat} {M0 M:Nat→Nat→Int} (h:fU r c e0 M0 k M):(∃P,eI k r M P)∧∀u,fC k r M u↔yF r c M0 u:=by
  obtain ⟨k1,S1,S2,h1,h2,rfl⟩:=h;exact ⟨h2.ech.toP.1,fun u=>(mC h2.lin h2.kr h2.ech).symm.trans (qk h1.lin h1.kr h1.ech).symm⟩
theorem lU.lat {r c e0 k:Nat} {M0 M:Nat→Nat→Int} (h:lU r c e0 M0 k M):(∃P,eI k r M P)∧∀u,fC k r M u↔yF r c M0 u:=by
  obtain ⟨k1,S1,S2,h1,h2,rfl⟩:=h;exact ⟨h2.ech.toP.1,fun u=>(mC h2.lin h2.kr h2.ech).symm.trans (qk h1.lin h1.kr h1.ech).symm⟩
end Go.TL
namespace Go.TL
set_option linter.unusedVariables false
theorem jW (z:Int):z.sign≤0↔z≤0:=by
  rcases Int.lt_trichotomy z 0 with h | h | h
  · rw [Int.sign_eq_neg_one_of_neg h];omega
  · subst h;simp
  · rw [Int.sign_eq_one_of_pos h];omega
theorem fq (a b:Int):0≤bV a b↔b≤a:=by unfold bV;split<;>(try split)<;>omega
def lastP (M:Nat→Nat→Int) (c:Nat):Nat→Int
  | 0=> -1
  | i + 1=>if piv (M i) c<0 then (c:Int) else piv (M i) c
def iC (M:Nat→Nat→Int) (c i:Nat):Prop:=
  piv (M i) c<0∨(lastP M c i<piv (M i) c∧0<M i (piv (M i) c).toNat∧∀k,k<i→0≤M k (piv (M i) c).toNat∧M k (piv (M i) c).toNat<M i (piv (M i) c).toNat)
def ck (r c:Nat) (M:Nat→Nat→Int):Prop:=∀i,i<r→iC M c i
instance (M:Nat→Nat→Int) (c i:Nat):Decidable (iC M c i):=inferInstanceAs (Decidable (_∨_))
instance (r c:Nat) (M:Nat→Nat→Int):Decidable (ck r c M):=inferInstanceAs (Decidable (∀i,i<r→iC M c i))
theorem iR {M:Nat→Nat→Int} {c i:Nat} (h:piv (M i) c<0):((c:Nat):Int)=lastP M c (i + 1):=by simp only [lastP];rw [if_pos h]
theorem iQ {M:Nat→Nat→Int} {c i:Nat} (h:¬piv (M i) c<0):piv (M i) c=lastP M c (i + 1):=by simp only [lastP];rw [if_neg h]
theorem kn {z:Nat→Int} {n:Nat} (h:¬piv z n<0):(piv z n).toNat<n∧((piv z n).toNat:Int)=piv z n∧z (piv z n).toNat≠0∧∀j,j<(piv z n).toNat→z j=0:=by
  obtain ⟨i,h1,h2,h3,h4⟩:=ge (p:=gU) (z:=z) (n:=n) (by unfold piv at h;omega);have h5:piv z n=(i:Int):=h2;rw [h5,Int.toNat_natCast];exact ⟨h1,rfl,h3,fun j hj=>Classical.byContradiction fun e=>h4 j hj e⟩
theorem oO {z:Nat→Int} {n p:Nat} (hp:p<n) (hz:z p≠0) (h0:∀j,j<p→z j=0):piv z n=(p:Int):=
  dP (p:=gU) (ip (p:=gU) fun i hi=>by simp [gU,h0 i hi]) hz hp
theorem yf {z:Nat→Int} {n:Nat} (h0:∀j,j<n→z j=0):piv z n= -1:=ip (p:=gU) fun i hi=>by simp [gU,h0 i hi]
theorem tr {z:Nat→Int} {n:Nat} (h:piv z n<0):∀j,j<n→z j=0:=by
  intro j hj;have h1:=(eg (p:=gU) (z:=z) n).2;have h2:cM gU z n= -1:=by unfold piv at h;omega
  exact Classical.byContradiction fun e=>em h2 j hj e
theorem lW.lastP {r k c:Nat} {M:Nat→Nat→Int} {P:Nat→Nat} (h1:∀i,i<k→P i<c∧0<M i (P i)∧(∀j,j<P i→M i j=0)∧∀n,n<i→P n<P i∧0≤M n (P i)∧M n (P i)<M i (P i)):
    ∀{i:Nat},i≤k→lastP M c i=if i=0 then -1 else ((P (i - 1):Nat):Int)
  | 0,_=>rfl
  | i + 1,hi=>by
    obtain ⟨g1,g2,g3,_⟩:=h1 i (by omega);have hp:piv (M i) c=(P i:Int):=oO g1 (by omega) g3;simp only [Go.TL.lastP];rw [if_neg (by rw [hp];omega),hp,if_neg (by omega)];simp
theorem eI.isH {r k c:Nat} {M:Nat→Nat→Int} {P:Nat→Nat} (h:eI k c M P) (h2:∀a,k≤a→a<r→∀j,j<c→M a j=0):ck r c M:=by
  intro i hi;rcases Nat.lt_or_ge i k with hk | hk
  · obtain ⟨g1,g2,g3,g4⟩:=h i hk
    have hp:piv (M i) c=(P i:Int):=oO g1 (by omega) g3;refine .inr ⟨?_,?_,?_⟩
    · rw [hp,lW.lastP (r:=r) h (by omega)]
      split
      · omega
      · have:=(g4 (i - 1) (by omega)).1;omega
    · rw [hp,Int.toNat_natCast];exact g2
    · intro n hn
      rw [hp,Int.toNat_natCast];exact (g4 n hn).2
  · left;rw [yf (h2 i hk hi)];omega
theorem ck.ech {c:Nat} {M:Nat→Nat→Int}:∀{r:Nat},ck r c M→∃k P,k≤r∧eI k c M P∧(∀a,k≤a→a<r→∀j,j<c→M a j=0)∧(k<r→lastP M c r=c)∧(0<k→k=r→lastP M c r=(P (k - 1):Nat))
  | 0,_=>⟨0,fun _=>0,Nat.le_refl _,fun i hi=>absurd hi (by omega),fun a _ ha=>absurd ha (by omega),fun h=>absurd h (by omega),fun h=>absurd h (by omega)⟩
  | r + 1,h=>by
    obtain ⟨k,P,hk,hE,hz,hl,hl2⟩:=ck.ech (r:=r) fun i hi=>h i (by omega)
    rcases h r (by omega) with hr | ⟨g1,g2,g3⟩
    · refine ⟨k,P,by omega,hE,fun a h1 h2=> ?_,fun _=>(iR hr).symm,fun _ e=>absurd e (by omega)⟩
      rcases Nat.lt_or_ge a r with e | e
      · exact hz a h1 e
      · obtain rfl:a=r:=by omega
        exact tr hr
    · have hnn:¬piv (M r) c<0:=by
        intro hn;have h1:=(eg (p:=gU) (z:=M r) c).2;have h2:cM gU (M r) c= -1:=by unfold piv at hn;omega
        have h3:piv (M r) c= -1:=h2;have h4:(-1:Int)≤lastP M c r:=by
          cases r with
          | zero=>simp [lastP]
          | succ r=>simp only [lastP];have:=(eg (p:=gU) (z:=M r) c).2;split<;>(unfold piv at*;omega)
        omega
      obtain ⟨a1,a2,a3,a4⟩:=kn hnn;have hkr:k=r:=by
        rcases Nat.lt_or_ge k r with e | e
        · have:=hl e;omega
        · omega
      subst hkr;refine ⟨k + 1,fun i=>if i=k then (piv (M k) c).toNat else P i,by omega,?_,fun a h1 h2=>absurd h2 (by omega),fun h=>absurd h (by omega),fun _ _=> ?_⟩
      · intro i hi
        rcases Nat.lt_or_ge i k with e | e
        · obtain ⟨b1,b2,b3,b4⟩:=hE i e
          simp only [if_neg (show ¬i=k by omega)];exact ⟨b1,b2,b3,fun n hn=>by simp only [if_neg (show ¬n=k by omega)];exact b4 n hn⟩
        · obtain rfl:i=k:=by omega
          simp only [if_pos];refine ⟨a1,g2,a4,fun n hn=> ?_⟩;simp only [if_neg (show ¬n=i by omega)];refine ⟨?_,g3 n hn⟩;have hl3:=hl2 (by omega) rfl;have:∀m,m<i→P m≤P (i - 1):=by
            intro m hm;rcases Nat.lt_or_ge m (i - 1) with e | e
            · exact Nat.le_of_lt ((hE (i - 1) (by omega)).2.2.2 m e).1
            · obtain rfl:m=i - 1:=by omega
              exact Nat.le_refl _
          have:=this n hn;omega
      · rw [←iQ hnn,←a2];simp
end Go.TL
namespace Go.TL
set_option linter.unusedVariables false
def oJ (M:Nat→Nat→Int) (c:Nat) (R:Nat→Int) (i:Nat):Int:=if piv (M i) c<0 then 0 else R (piv (M i) c).toNat/M i (piv (M i) c).toNat
def bS (M:Nat→Nat→Int) (c:Nat) (z:Nat→Int):Nat→Nat→Int
  | 0=>z
  | i + 1=>fun j=>bS M c z i j - oJ M c (bS M c z i) i*M i j
def cb (M:Nat→Nat→Int) (c:Nat) (z:Nat→Int) (i:Nat):Int:=oJ M c (bS M c z i) i
theorem jY {M:Nat→Nat→Int} {c i:Nat} {R:Nat→Int} (h:piv (M i) c<0):oJ M c R i=0:=if_pos h
theorem tf {M:Nat→Nat→Int} {c i:Nat} {R:Nat→Int} (h:¬piv (M i) c<0):oJ M c R i=R (piv (M i) c).toNat/M i (piv (M i) c).toNat:=if_neg h
theorem pR {M:Nat→Nat→Int} {c i e:Nat} {R:Nat→Int} (hR:∀j,j<c→(R j).natAbs<2^e):(oJ M c R i).natAbs<2^e:=by
  unfold oJ
  split
  · exact Nat.two_pow_pos e
  · rename_i h
    exact Nat.lt_of_le_of_lt (Int.natAbs_ediv_le_natAbs _ _) (hR _ (kn h).1)
theorem mn {M:Nat→Nat→Int} {r c bm bz:Nat} {z:Nat→Int} (hM:∀i j,i<r→j<c→(M i j).natAbs<2^bm) (hz:∀j,j<c→(z j).natAbs<2^bz):
    ∀{i:Nat},i≤r→∀j,j<c→(bS M c z i j).natAbs<2^(bz + i*(bm + 1))
  | 0,_=>by rw [Nat.zero_mul,Nat.add_zero];exact hz
  | i + 1,hi=>by
    intro j hj;have ih:=mn hM hz (i:=i) (by omega);have h1:=ih j hj;have h2:=pR (i:=i) (M:=M) ih;have h3:=hM i j (by omega) hj;simp only [bS];have h4:(oJ M c (bS M c z i) i*M i j).natAbs<2^(bz + i*(bm + 1))*2^bm:=by
      rw [Int.natAbs_mul];exact Nat.mul_lt_mul'' h2 h3
    have h5:2^(bz + (i + 1)*(bm + 1))=2*(2^(bz + i*(bm + 1))*2^bm):=by
      rw [←Nat.pow_add,Nat.mul_comm 2,←Nat.pow_succ];congr 1;rw [Nat.add_mul];omega
    have h6:2^(bz + i*(bm + 1))≤2^(bz + i*(bm + 1))*2^bm:=Nat.le_mul_of_pos_right _ (Nat.two_pow_pos _);rw [h5];omega
end Go.TL
namespace Go.TL
open Go.RowKit Go.Proofs
set_option linter.unusedVariables false
set_option linter.unusedSimpArgs false
set_option maxRecDepth 10000 in
theorem ws (w:World) (x:Value) (zx:Int) (btx:Nat) (hx:ak w x zx btx):Calls Tryz.prog 96 #[x] w (cc w fun v w'=>v= .bool true):=by
 have hLIM:bj=562949953421312:=rfl;obtain ⟨Ax,nx,cx,lx,rfl,hLx,hvx,htx,hnx,hbx⟩:=hx.form;have hbdx:=hx.bd;have hlimx:=hLx.lim;have hlex:=hLx.le;have holdx:=hLx.old;refine ai (N:=27) (rs:= #[.tmp 2]) Tryz.func96 rfl rfl rfl (Nat.le_of_ble_eq_true rfl) ?_;have hX:aA w w:=aA.refl w;refine ab ?_;refine RL.x rfl rfl (cQ.box [.bool (decide (zx<0)),.slice (Ax) (nx) (cx)] rfl rfl) ?_;rintro _ w1 ⟨g1,rfl,hge1,hx1,hA1⟩;replace hLx:=aB.ext hLx hx1;replace hX:=aA.trans hX hx1;refine RL.p rfl rfl (cj.assign rfl) ?_;refine RL.nil ?_;refine ab ?_;refine RL.p rfl rfl (cj.fieldAddr aH rfl) ?_;refine RL.p rfl rfl (cj.load bA rfl (hA1.at_ (i:=1) rfl rfl)) ?_;refine RL.p rfl rfl (cj.len al rfl) ?_;refine RL.p rfl rfl (cj.assign rfl) ?_;refine RL.nil ?_;refine aF am 20 [_,_,fun v AW=>v= .bool (decide (((nx:Nat):Int)=(0:Int))),_,fun v AW=>(((nx:Nat):Int)=(0:Int))→(v= .bool (decide (zx<0))),_,_,fun v AW=>v= .bool (decide ((((nx:Nat):Int)=(0:Int))∧(¬(zx<0)))),_,_,fun v AW=>((¬((((nx:Nat):Int)=(0:Int))∧(¬(zx<0))))→(v= .bool (decide ((0:Int)<((nx:Nat):Int)))))∧(¬(¬((((nx:Nat):Int)=(0:Int))∧(¬(zx<0))))→v=undef),_,_,_,_,_,_,_,_,_] rfl rfl (fun e_ w_ AV AU=>⟨fun _=>aa (cj.move ((AU 3 rfl rfl))),fun AT=>aa (cj.eql ((AT 0 rfl)) rfl),fun AT=>aa (cj.move ((AT 1 rfl))),fun AT=>gT ((AT 2 rfl)) fun hg=>aa (cj.fieldAddr bI ((AU 1 rfl rfl))),fun AT=>gT ((AT 2 rfl)) fun hg=>aa (cj.load dC ((AT 3 rfl hg)) ((aY.ext hA1 AV).at_ (i:=0) rfl rfl)),fun AT=>gT ((AT 2 rfl)) fun hg=>aa (cj.not (p:=zx<0) ((AT 4 rfl hg))),fun AT=>aa (au (p:=((nx:Nat):Int)=(0:Int)) (q:=¬(zx<0)) ((AT 2 rfl)) (fun hq=>(AT 5 rfl hq))),fun AT=>aa (cj.move ((AT 6 rfl))),fun AT=>gF ((AT 7 rfl)) fun hg=>aa (cj.move ((AU 3 rfl rfl))),fun AT=>gF ((AT 7 rfl)) fun hg=>aa (cj.gtr ((AT 8 rfl hg)) rfl),fun AT=>gFU ((AT 7 rfl)) fun hg=>aa (cj.move ((AT 9 rfl hg))),fun AT=>gN (AT 10 rfl) fun hg=>aa (cj.fieldAddr aH ((AU 1 rfl rfl))),fun AT=>gN (AT 10 rfl) fun hg=>aa (cj.load bA ((AT 11 rfl hg)) ((aY.ext hA1 AV).at_ (i:=1) rfl rfl)),fun AT=>gN (AT 10 rfl) fun hg=>aa (cj.move ((AU 3 rfl rfl))),fun AT=>gN (AT 10 rfl) fun hg=>aa (cj.sub (c:=((nx - 1:Nat):Int)) ((AT 13 rfl hg)) rfl (bT (by omega))),fun AT=>gN (AT 10 rfl) fun hg=>aa (cj.index (j:=nx - 1) al ((AT 12 rfl hg)) ((AT 14 rfl hg)) ((aB.ext hLx AV).addr (by omega)) (by omega) (by omega)),fun AT=>gN (AT 10 rfl) fun hg=>aa (cj.load bl ((AT 15 rfl hg)) (aQ ((aB.ext hLx AV).get (i:=nx - 1) (by omega)))),fun AT=>gN (AT 10 rfl) fun hg=>aa (cj.neq ((AT 16 rfl hg)) rfl),fun AT=>gF ((AT 7 rfl)) fun hg=>aa (au (p:=(0:Int)<((nx:Nat):Int)) (q:=((lx (nx - 1):Nat):Int)≠(0:Int)) (((AT 10 rfl).1 hg)) (fun hq=>((fun hq=>AT 17 rfl ⟨hg,hq⟩) hq))),fun AT=>aa (aP (p:=(((nx:Nat):Int)=(0:Int))∧(¬(zx<0))) (q:=((0:Int)<((nx:Nat):Int))∧(((lx (nx - 1):Nat):Int)≠(0:Int))) ((AT 7 rfl)) (fun hq=>(AT 18 rfl hq))),trivial⟩) ?_;intro e1 w2 hx2 ho1 hf1;replace hX:=aA.trans hX hx2;have s26_e1:e1 26=_:=hf1 19 rfl;refine RL.p rfl rfl (cj.assign s26_e1) ?_;refine RL.nil ?_;refine WP.ret ?_;refine ⟨.bool (decide (((((nx:Nat):Int)=(0:Int))∧(¬(zx<0)))∨(((0:Int)<((nx:Nat):Int))∧(((lx (nx - 1):Nat):Int)≠(0:Int))))),Am.one (fw.tmp rfl),_,rfl,hX,?_⟩;dsimp only;refine congrArg _ (decide_eq_true ?_);rcases Nat.eq_zero_or_pos nx with h | h
 · left;subst h;exact ⟨rfl,fun h2=>by have h1:=fP hvx (by omega);omega⟩
 · right;have h1:=htx h;exact ⟨by omega,by omega⟩
set_option maxRecDepth 10000 in
theorem tN (w:World) (x:Value) (zx:Int) (btx:Nat) (hx:ak w x zx btx):Calls Tryz.prog 95 #[x] w (cc w fun v w'=>v= .bool (decide (vA zx))):=by
 have hLIM:bj=562949953421312:=rfl;refine ai (N:=6) (rs:= #[.tmp 2]) Tryz.func95 rfl rfl rfl (Nat.le_of_ble_eq_true rfl) ?_;have hX:aA w w:=aA.refl w;refine ab ?_;obtain ⟨ca1,cb1,hq1,ho1,ho2⟩:=ak.cells (ak.ext hx hX);have qi1:ak w (.agg #[ca1,cb1]) zx btx:=hq1▸(ak.ext hx hX);refine RL.x rfl rfl (cQ.box [ca1,cb1] hq1 rfl) ?_;rintro _ w1 ⟨g1,rfl,hge1,hx1,hA1⟩;replace qi1:=ak.ext qi1 hx1;replace hX:=aA.trans hX hx1;refine RL.p rfl rfl (cj.assign rfl) ?_;refine RL.nil ?_;refine ab ?_;refine RL.p rfl rfl (af [ca1,cb1] aq rfl (hA1.cells 0 _ rfl rfl)) ?_;refine RL.x rfl rfl (cQ.call yX (aL rfl) (ws _ _ _ _ qi1)) ?_;rintro _ w2 ⟨hx2,rfl⟩;replace hX:=aA.trans hX hx2;refine RL.p rfl rfl (cj.not (p:=True) rfl) ?_;refine RL.p rfl rfl (cj.assign rfl) ?_;refine RL.nil ?_;refine WP.ret ?_;refine ⟨.bool (decide (¬(True))),Am.one (fw.tmp rfl),_,rfl,hX,?_⟩
 rfl
set_option maxRecDepth 10000 in
theorem sW (w:World) (x:Value) (nx:Nat) (zx:Nat→Int) (btx:Nat) (fv:Value) (p:Int→Prop) [DecidablePred p] (hx:bi w x nx zx btx) (hF:yL Tryz.prog w fv btx p):Calls Tryz.prog 118 #[x,fv] w (cc w fun v w'=>v= .int .i64 (cM p zx nx)):=by
 have hLIM:bj=562949953421312:=rfl;have hlimx:=hx.lim;refine ai (N:=19) (rs:= #[.tmp 4]) Tryz.func118 rfl rfl rfl (Nat.le_of_ble_eq_true rfl) ?_;have hX:aA w w:=aA.refl w;refine ab ?_;refine RL.p rfl rfl (cj.assign rfl) ?_;refine RL.nil ?_;refine WP.seq ?_;refine ab ?_;refine RL.p rfl rfl (cj.move rfl) ?_;refine RL.p rfl rfl (bW bE rfl (bi.ext hx hX)) ?_;refine RL.p rfl rfl (cj.move rfl) ?_;refine RL.nil ?_;refine WP.block ?_;refine WP.loop (fun mz ez uz=>∃i:Nat,(mz=nx - i)∧(ez 0=x)∧(ez 1=fv)∧(ez 7= .int .i64 ((nx:Nat)))∧(ez 8= .int .i64 ((i:Nat)))∧(i≤nx)∧(cM p zx i= -1)∧(aA w uz)) (nx - 0) ?_ ?_
 · exact ⟨0,rfl,rfl,rfl,rfl,rfl,(by omega),rfl,hX⟩
 rintro m1 e1 w1 ⟨i,hm1,s0_e1,s1_e1,s7_e1,s8_e1,hi,hnone,hX1⟩;refine ab ?_;refine RL.p rfl rfl (cj.lss s8_e1 s7_e1) ?_;refine RL.nil ?_;refine WP.seq ?_;refine ae (((i:Nat):Int)<((nx:Nat):Int)) rfl (fun c9=> ?_) (fun c9=> ?_)
 ·
  refine WP.skip ?_;refine pl.norm ?_;refine WP.seq ?_;refine WP.block ?_;refine ab ?_;refine RL.p rfl rfl (cj.move s8_e1) ?_;refine RL.p rfl rfl (cj.assign rfl) ?_;refine RL.nil ?_;refine ab ?_;refine RL.p rfl rfl (cj.move s1_e1) ?_;refine RL.p rfl rfl (cj.move s0_e1) ?_;refine RL.p rfl rfl (cj.move rfl) ?_;refine RL.x rfl rfl (aM (j:=i) bE rfl (bi.ext hx hX1) rfl (by omega) (by omega)) ?_;rintro v1 _ ⟨rfl,q1⟩;refine RL.x rfl rfl (aO aq rfl q1) ?_;rintro v2 _ ⟨rfl,q2⟩;refine RL.x rfl rfl (jq rfl (yL.ext hF hX1) rfl q2) ?_;rintro _ w2 ⟨hx1,rfl⟩;replace hX1:=aA.trans hX1 hx1;refine RL.nil ?_;refine ae (p (zx i)) rfl (fun c16=> ?_) (fun c16=> ?_)
  ·
   refine ab ?_;refine RL.p rfl rfl (cj.move rfl) ?_;refine RL.p rfl rfl (cj.assign rfl) ?_;refine RL.nil ?_;refine WP.ret ?_;refine iD.ret ?_;refine pl.ret ?_;refine pl.ret ?_;refine iD.ret ?_;refine pl.ret ?_;refine ⟨.int .i64 ((i:Nat)),Am.one (fw.tmp rfl),_,rfl,hX1,?_⟩;dsimp only;rw [dP hnone c16 (by omega)]
  ·
   refine WP.skip ?_;refine iD.norm ?_;refine pl.norm ?_;refine WP.region ?_;refine RL.p rfl rfl (cj.add (c:=((i + 1:Nat):Int)) s8_e1 rfl (bT (by omega))) ?_;refine RL.p rfl rfl (cj.move rfl) ?_;refine RL.nil ?_;refine pl.norm ⟨_,(by omega),i + 1,rfl,s0_e1,s1_e1,s7_e1,rfl,(by omega),(gf hnone c16),hX1⟩
 ·
  refine WP.exit ?_;refine pl.exit ?_;refine pl.exit ?_;refine iD.same ?_;refine pl.norm ?_;refine ab ?_;refine RL.p rfl rfl (cj.assign rfl) ?_;refine RL.nil ?_;refine WP.ret ?_;refine ⟨.int .i64 (-1),Am.one (fw.tmp rfl),_,rfl,hX1,?_⟩;dsimp only;rw [show nx=i by omega,hnone]
set_option maxRecDepth 10000 in
theorem nH (w:World) (x:Value) (nx:Nat) (zx:Nat→Int) (btx:Nat) (fv:Value) (p:Int→Prop) [DecidablePred p] (hx:bi w x nx zx btx) (hF:yL Tryz.prog w fv btx p):Calls Tryz.prog 94 #[x,fv] w (cc w fun v w'=>v= .bool (decide (0≤cM p zx nx))):=by
 have hLIM:bj=562949953421312:=rfl;have hlimx:=hx.lim;refine ai (N:=9) (rs:= #[.tmp 4]) Tryz.func94 rfl rfl rfl (Nat.le_of_ble_eq_true rfl) ?_;have hX:aA w w:=aA.refl w;refine ab ?_;refine RL.p rfl rfl (cj.assign rfl) ?_;refine RL.nil ?_;refine ab ?_;refine RL.p rfl rfl (cj.move rfl) ?_;refine RL.p rfl rfl (cj.move rfl) ?_;refine RL.x rfl rfl (cQ.call xL (aC rfl rfl) (sW _ _ _ _ _ _ p (bi.ext hx hX) (yL.ext hF hX))) ?_;rintro _ w1 ⟨hx1,rfl⟩;replace hX:=aA.trans hX hx1;refine RL.p rfl rfl (cj.geq rfl rfl) ?_;refine RL.p rfl rfl (cj.assign rfl) ?_;refine RL.nil ?_;refine WP.ret ?_;refine ⟨.bool (decide ((0:Int)≤(cM p zx nx:Int))),Am.one (fw.tmp rfl),_,rfl,hX,?_⟩
 rfl
set_option maxRecDepth 10000 in
theorem qb (w:World) (sx:Value) (Rx Cx nx cx:Nat) (Mx:Nat→Nat→Int) (btx:Nat) (hRx:Rx≤65536) (hCx:Cx≤65536) (hSx:ce w sx nx cx Mx btx):Calls Tryz.prog 59 #[.agg #[.int .i64 (Rx:Nat),.int .i64 (Cx:Nat),sx]] w (cc w fun v w'=>v= .bool (decide (nd Rx Cx nx cx))):=by
 have hLIM:bj=562949953421312:=rfl;have hlimx:=hSx.lim;refine ai (N:=38) (rs:= #[.tmp 2]) Tryz.func59 rfl rfl rfl (Nat.le_of_ble_eq_true rfl) ?_;have hX:aA w w:=aA.refl w;refine ab ?_;refine RL.x rfl rfl (cQ.box [.int .i64 ((Rx:Nat)),.int .i64 ((Cx:Nat)),sx] rfl rfl) ?_;rintro _ w1 ⟨g1,rfl,hge1,hx1,hA1⟩;replace hX:=aA.trans hX hx1;refine RL.p rfl rfl (cj.assign rfl) ?_;refine RL.nil ?_;refine WP.seq ?_;refine aF am 16 [_,_,_,fun v AW=>v= .bool (decide (((Rx:Nat):Int)<(0:Int))),_,_,_,_,fun v AW=>v= .bool (decide ((((Rx:Nat):Int)<(0:Int))∨(((Cx:Nat):Int)<(0:Int)))),_,_,_,_,_,_,_] rfl rfl (fun e_ w_ AV AU=>⟨fun _=>aa (cj.fieldAddr aX ((AU 1 rfl rfl))),fun AT=>aa (cj.load bD ((AT 0 rfl)) ((aY.ext hA1 AV).at_ (i:=0) rfl rfl)),fun AT=>aa (cj.lss ((AT 1 rfl)) rfl),fun AT=>aa (cj.move ((AT 2 rfl))),fun AT=>gF (AT 3 rfl) fun hg=>aa (cj.fieldAddr bC ((AU 1 rfl rfl))),fun AT=>gF (AT 3 rfl) fun hg=>aa (cj.load bD ((AT 4 rfl hg)) ((aY.ext hA1 AV).at_ (i:=1) rfl rfl)),fun AT=>gF (AT 3 rfl) fun hg=>aa (cj.lss ((AT 5 rfl hg)) rfl),fun AT=>aa (aP (p:=((Rx:Nat):Int)<(0:Int)) (q:=((Cx:Nat):Int)<(0:Int)) (AT 3 rfl) (fun hq=>(AT 6 rfl hq))),fun AT=>aa (cj.move ((AT 7 rfl))),fun AT=>gF (AT 8 rfl) fun hg=>aa (cj.fieldAddr aw ((AU 1 rfl rfl))),fun AT=>gF (AT 8 rfl) fun hg=>aa (cj.load aU ((AT 9 rfl hg)) ((aY.ext hA1 AV).at_ (i:=2) rfl rfl)),fun AT=>gF (AT 8 rfl) fun hg=>aa (cd aK (AT 10 rfl hg) (ce.ext (ce.ext hSx hX) AV)),fun AT=>gF (AT 8 rfl) fun hg=>aa (cj.fieldAddr aX ((AU 1 rfl rfl))),fun AT=>gF (AT 8 rfl) fun hg=>aa (cj.load bD ((AT 12 rfl hg)) ((aY.ext hA1 AV).at_ (i:=0) rfl rfl)),fun AT=>gF (AT 8 rfl) fun hg=>aa (cj.neq ((AT 11 rfl hg)) ((AT 13 rfl hg))),fun AT=>aa (aP (p:=(((Rx:Nat):Int)<(0:Int))∨(((Cx:Nat):Int)<(0:Int))) (q:=((nx:Nat):Int)≠((Rx:Nat):Int)) (AT 8 rfl) (fun hq=>(AT 14 rfl hq))),trivial⟩) ?_;intro e1 w2 hx2 ho1 hf1;replace hA1:=aY.ext hA1 hx2;replace hX:=aA.trans hX hx2;have s1_e1:e1 1=_:=ho1 1 rfl rfl;have s20_e1:e1 20=_:=hf1 15 rfl;refine RL.nil ?_;refine ae (((((Rx:Nat):Int)<(0:Int))∨(((Cx:Nat):Int)<(0:Int)))∨(((nx:Nat):Int)≠((Rx:Nat):Int))) s20_e1 (fun c20=> ?_) (fun c20=> ?_)
 ·
  refine ab ?_;refine RL.p rfl rfl (cj.assign rfl) ?_;refine RL.nil ?_;refine WP.ret ?_;refine pl.ret ?_;refine ⟨.bool (false),Am.one (fw.tmp rfl),_,rfl,hX,?_⟩;dsimp only;exact congrArg _ (decide_eq_false fun h=>by have:=h.1;omega).symm
 ·
  refine WP.skip ?_;refine pl.norm ?_;refine WP.seq ?_;refine ab ?_;refine RL.p rfl rfl (cj.fieldAddr aw s1_e1) ?_;refine RL.p rfl rfl (cj.load aU rfl (hA1.at_ (i:=2) rfl rfl)) ?_;refine RL.p rfl rfl (cd aK rfl (ce.ext hSx hX)) ?_;refine RL.p rfl rfl (cj.move rfl) ?_;refine RL.nil ?_;refine WP.block ?_;refine WP.loop (fun mz ez uz=>∃i:Nat,(mz=nx - i)∧(ez 1= .pointer (some ⟨g1,0,none⟩))∧(ez 22=sx)∧(ez 23= .int .i64 ((nx:Nat)))∧(ez 24= .int .i64 ((i:Nat)))∧(i≤nx)∧(i=0∨Cx=cx)∧(aA w uz)∧(aY uz g1 28 3 (bU [.int .i64 ((Rx:Nat)),.int .i64 ((Cx:Nat)),sx]))) (nx - 0) ?_ ?_
  · exact ⟨0,rfl,s1_e1,rfl,rfl,rfl,(by omega),(.inl rfl),hX,hA1⟩
  rintro m1 e2 w3 ⟨i,hm1,s1_e2,s22_e2,s23_e2,s24_e2,hi,hok,hX1,hA1⟩;refine ab ?_;refine RL.p rfl rfl (cj.lss s24_e2 s23_e2) ?_;refine RL.nil ?_;refine WP.seq ?_;refine ae (((i:Nat):Int)<((nx:Nat):Int)) rfl (fun c25=> ?_) (fun c25=> ?_)
  ·
   refine WP.skip ?_;refine pl.norm ?_;refine WP.seq ?_;refine WP.block ?_;refine ab ?_;refine RL.x rfl rfl (aJ (j:=i) aK s22_e2 (ce.ext hSx hX1) s24_e2 (by omega) (by omega)) ?_;rintro v1 _ ⟨rfl,q1⟩;refine RL.x rfl rfl (aI bn rfl q1) ?_;rintro v2 _ ⟨rfl,q2⟩;refine RL.p rfl rfl (cj.assign rfl) ?_;refine RL.nil ?_;refine aF am 9 [_,_,_,_,_,fun v AW=>v= .bool (decide (((cx:Nat):Int)≠((Cx:Nat):Int))),_,fun v AW=>(¬(((cx:Nat):Int)≠((Cx:Nat):Int)))→(v= .bool (decide (0≤cM vA (Mx i) cx))),_] rfl rfl (fun e_ w_ AV AU=>⟨fun _=>aa (cj.move ((AU 4 rfl rfl))),fun AT=>aa (bW bE (AT 0 rfl) (bi.ext q2 AV)),fun _=>aa (cj.fieldAddr bC ((AU 1 rfl s1_e2))),fun AT=>aa (cj.load bD ((AT 2 rfl)) ((aY.ext hA1 AV).at_ (i:=1) rfl rfl)),fun AT=>aa (cj.neq ((AT 1 rfl)) ((AT 3 rfl))),fun AT=>aa (cj.move ((AT 4 rfl))),fun AT=>gF (AT 5 rfl) fun hg=>aa (cj.move ((AU 4 rfl rfl))),fun AT=>gF (AT 5 rfl) fun hg=>cQ.call yZ (aC ((AT 6 rfl hg)) rfl) (nH _ _ _ _ _ _ vA (bi.ext q2 AV) (⟨95,#[],#[],rfl,yY,fun w1 hw1 x z hI=>tN _ _ _ _ hI⟩)),fun AT=>aa (aP (p:=((cx:Nat):Int)≠((Cx:Nat):Int)) (q:=0≤cM vA (Mx i) cx) (AT 5 rfl) (fun hq=>(AT 7 rfl hq))),trivial⟩) ?_;intro e3 w4 hx3 ho2 hf2;replace hA1:=aY.ext hA1 hx3;replace hX1:=aA.trans hX1 hx3;have s1_e3:=ho2 1 rfl s1_e2;have s22_e3:=ho2 22 rfl s22_e2;have s23_e3:=ho2 23 rfl s23_e2;have s24_e3:=ho2 24 rfl s24_e2;have s36_e3:e3 36=_:=hf2 8 rfl;refine RL.nil ?_;refine ae ((((cx:Nat):Int)≠((Cx:Nat):Int))∨(0≤cM vA (Mx i) cx)) s36_e3 (fun c36=> ?_) (fun c36=> ?_)
   ·
    refine ab ?_;refine RL.p rfl rfl (cj.assign rfl) ?_;refine RL.nil ?_;refine WP.ret ?_;refine iD.ret ?_;refine pl.ret ?_;refine pl.ret ?_;refine iD.ret ?_;refine pl.ret ?_;refine ⟨.bool (false),Am.one (fw.tmp rfl),_,rfl,hX1,?_⟩;dsimp only;exact congrArg _ (decide_eq_false fun h=>vV (i:=i) h (by omega) c36).symm
   ·
    refine WP.skip ?_;refine iD.norm ?_;refine pl.norm ?_;refine WP.region ?_;refine RL.p rfl rfl (cj.add (c:=((i + 1:Nat):Int)) s24_e3 rfl (bT (by omega))) ?_;refine RL.p rfl rfl (cj.move rfl) ?_;refine RL.nil ?_;refine pl.norm ⟨_,(by omega),i + 1,rfl,s1_e3,s22_e3,s23_e3,rfl,(by omega),(.inr (vU c36)),hX1,hA1⟩
  ·
   refine WP.exit ?_;refine pl.exit ?_;refine pl.exit ?_;refine iD.same ?_;refine pl.norm ?_;refine ab ?_;refine RL.p rfl rfl (cj.assign rfl) ?_;refine RL.nil ?_;refine WP.ret ?_;refine ⟨.bool (true),Am.one (fw.tmp rfl),_,rfl,hX1,?_⟩;dsimp only;exact congrArg _ (decide_eq_true ⟨by omega,by omega⟩).symm
set_option maxRecDepth 10000 in
theorem yi (w:World) (o:Value) (zo:Int) (bto:Nat) (x:Value) (zx:Int) (btx:Nat) (y:Value) (zy:Int) (bty:Nat) (ho:ak w o zo bto) (hx:ak w x zx btx) (hy:ak w y zy bty) (hb:btx + bty + 1≤bj) (hb2:bto + 1≤bj) (hfit:(zo + zx*zy).natAbs<2^bto):Calls Tryz.prog 121 #[o,x,y] w (cc w fun v w'=>ak w' v (zo + zx*zy) bto):=by
 have hLIM:bj=562949953421312:=rfl;refine ai (N:=21) (rs:= #[.cell 6 49]) Tryz.func121 rfl rfl rfl (Nat.le_of_ble_eq_true rfl) ?_;have hX:aA w w:=aA.refl w;refine ab ?_;obtain ⟨ca1,cb1,hq1,ho1,ho2⟩:=ak.cells (ak.ext ho hX);have qi1:ak w (.agg #[ca1,cb1]) zo bto:=hq1▸(ak.ext ho hX);refine RL.x rfl rfl (cQ.box [ca1,cb1] hq1 rfl) ?_;rintro _ w1 ⟨g1,rfl,hge1,hx1,hA1⟩;replace qi1:=ak.ext qi1 hx1;replace hX:=aA.trans hX hx1;obtain ⟨ca2,cb2,hq2,ho3,ho4⟩:=ak.cells (ak.ext hx hX);have qi2:ak w1 (.agg #[ca2,cb2]) zx btx:=hq2▸(ak.ext hx hX);refine RL.x rfl rfl (cQ.box [ca2,cb2] hq2 rfl) ?_;rintro _ w2 ⟨g2,rfl,hge2,hx2,hA2⟩;replace qi1:=ak.ext qi1 hx2;replace hA1:=aY.ext hA1 hx2;replace qi2:=ak.ext qi2 hx2;replace hX:=aA.trans hX hx2;obtain ⟨ca3,cb3,hq3,ho5,ho6⟩:=ak.cells (ak.ext hy hX);have qi3:ak w2 (.agg #[ca3,cb3]) zy bty:=hq3▸(ak.ext hy hX);refine RL.x rfl rfl (cQ.box [ca3,cb3] hq3 rfl) ?_;rintro _ w3 ⟨g3,rfl,hge3,hx3,hA3⟩;replace qi1:=ak.ext qi1 hx3;replace hA1:=aY.ext hA1 hx3;replace qi2:=ak.ext qi2 hx3;replace hA2:=aY.ext hA2 hx3;replace qi3:=ak.ext qi3 hx3;replace hX:=aA.trans hX hx3;refine RL.x rfl rfl (cQ.alloc [.bool (false),.slice (none) (0) (0)] bH rfl) ?_;rintro _ w4 ⟨g4,rfl,hge4,hx4,hA4⟩;have hbs4:w.heap.size≤g4:=Nat.le_trans hX.size hge4;replace qi1:=ak.ext qi1 hx4;replace hA1:=aY.ext hA1 hx4;replace qi2:=ak.ext qi2 hx4;replace hA2:=aY.ext hA2 hx4;replace qi3:=ak.ext qi3 hx4;replace hA3:=aY.ext hA3 hx4;replace hX:=aA.trans hX hx4;refine RL.nil ?_;refine WP.seq ?_;refine aF am 8 [_,_,_,fun v AW=>v= .bool (decide (((zx:Int).sign:Int)=(0:Int))),_,_,_,_] rfl rfl (fun e_ w_ AV AU=>⟨fun _=>aa (af [ca2,cb2] aq ((AU 4 rfl rfl)) ((aY.ext hA2 AV).cells 0 _ rfl rfl)),fun AT=>cQ.call jj (aL ((AT 0 rfl))) (fO _ _ _ _ ((ak.ext qi2 AV))),fun AT=>aa (cj.eql ((AT 1 rfl)) rfl),fun AT=>aa (cj.move ((AT 2 rfl))),fun AT=>gF (AT 3 rfl) fun hg=>aa (af [ca3,cb3] aq ((AU 5 rfl rfl)) ((aY.ext hA3 AV).cells 0 _ rfl rfl)),fun AT=>gF (AT 3 rfl) fun hg=>cQ.call jj (aL ((AT 4 rfl hg))) (fO _ _ _ _ ((ak.ext qi3 AV))),fun AT=>gF (AT 3 rfl) fun hg=>aa (cj.eql ((AT 5 rfl hg)) rfl),fun AT=>aa (aP (p:=((zx:Int).sign:Int)=(0:Int)) (q:=((zy:Int).sign:Int)=(0:Int)) (AT 3 rfl) (fun hq=>(AT 6 rfl hq))),trivial⟩) ?_;intro e1 w5 hx5 ho7 hf1;replace qi1:=ak.ext qi1 hx5;replace hA1:=aY.ext hA1 hx5;replace qi2:=ak.ext qi2 hx5;replace hA2:=aY.ext hA2 hx5;replace qi3:=ak.ext qi3 hx5;replace hA3:=aY.ext hA3 hx5;replace hA4:=aY.ext hA4 hx5;replace hX:=aA.trans hX hx5;have s3_e1:e1 3=_:=ho7 3 rfl rfl;have s4_e1:e1 4=_:=ho7 4 rfl rfl;have s5_e1:e1 5=_:=ho7 5 rfl rfl;have s6_e1:e1 6=_:=ho7 6 rfl rfl;have s14_e1:e1 14=_:=hf1 7 rfl;refine RL.nil ?_;refine ae ((((zx:Int).sign:Int)=(0:Int))∨(((zy:Int).sign:Int)=(0:Int))) s14_e1 (fun c14=> ?_) (fun c14=> ?_)
 ·
  refine ab ?_;refine RL.p rfl rfl (af [ca1,cb1] aq s3_e1 (hA1.cells 0 _ rfl rfl)) ?_;refine RL.x rfl rfl (cQ.store [ca1,cb1] bf s6_e1 rfl rfl hA4 (Nat.le_of_ble_eq_true rfl) (bs ho1 ho2)) ?_;rintro _ w6 ⟨hk1,hnew⟩;replace qi1:=ah qi1 hk1 hA4 (by decide);replace hX:=hX.step hk1 (fun b e=>by subst e;exact hbs4);replace hA4:=hnew.lit [ca1,cb1] rfl;clear hnew;refine RL.nil ?_;refine WP.ret ?_;refine pl.ret ?_;refine ⟨.agg #[ca1,cb1],Am.one (aj [ca1,cb1] aq s6_e1 (hA4.cells 0 _ rfl rfl)),_,rfl,hX,?_⟩;dsimp only;exact ak.eq qi1 (uq c14) hfit (by omega)
 ·
  refine WP.skip ?_;refine pl.norm ?_;refine aF am 5 [_,_,_,_,_] rfl rfl (fun e_ w_ AV AU=>⟨fun _=>aa (af [ca1,cb1] aq ((AU 3 rfl s3_e1)) ((aY.ext hA1 AV).cells 0 _ rfl rfl)),fun _=>aa (af [ca2,cb2] aq ((AU 4 rfl s4_e1)) ((aY.ext hA2 AV).cells 0 _ rfl rfl)),fun _=>aa (af [ca3,cb3] aq ((AU 5 rfl s5_e1)) ((aY.ext hA3 AV).cells 0 _ rfl rfl)),fun AT=>cQ.call pF (aC ((AT 1 rfl)) ((AT 2 rfl))) (qB _ _ _ _ _ _ _ ((btx) + (bty)) ((ak.ext qi2 AV)) ((ak.ext qi3 AV)) (by omega) (by omega)),fun AT=>cQ.call mh (aC ((AT 0 rfl)) rfl) (qC _ _ _ _ _ _ _ (max (bto) ((btx) + (bty)) + 1) ((ak.ext qi1 AV)) ((AT 3 rfl)) (by omega) (by omega) (by omega)),trivial⟩) ?_;intro e2 w7 hx6 ho8 hf2;replace hA4:=aY.ext hA4 hx6;replace hX:=aA.trans hX hx6;have s6_e2:=ho8 6 rfl s6_e1;have s20_e2:ak w7 (e2 20) ((zo:Int) + ((zx:Int)*(zy:Int):Int)) (max (bto) ((btx) + (bty)) + 1):=hf2 4 rfl;obtain ⟨ca4,cb4,hq4,ho9,ho10⟩:=ak.cells s20_e2;have qi4:ak w7 (.agg #[ca4,cb4]) ((zo:Int) + ((zx:Int)*(zy:Int):Int)) (max (bto) ((btx) + (bty)) + 1):=hq4▸s20_e2;refine RL.x rfl rfl (cQ.store [ca4,cb4] bf s6_e2 hq4 rfl hA4 (Nat.le_of_ble_eq_true rfl) (bs ho9 ho10)) ?_;rintro _ w8 ⟨hk2,hnew⟩;replace qi4:=ah qi4 hk2 hA4 (by decide);replace hX:=hX.step hk2 (fun b e=>by subst e;exact hbs4);replace hA4:=hnew.lit [ca4,cb4] rfl;clear hnew;refine RL.nil ?_;refine WP.ret ?_;refine ⟨.agg #[ca4,cb4],Am.one (aj [ca4,cb4] aq s6_e2 (hA4.cells 0 _ rfl rfl)),_,rfl,hX,?_⟩;dsimp only;exact ak.eq qi4 rfl hfit (by omega)
set_option maxRecDepth 10000 in
theorem yh (w:World) (x:Value) (nx:Nat) (zx:Nat→Int) (btx:Nat) (y:Value) (zy:Nat→Int) (bty:Nat) (o:Value) (zo:Int) (bto:Nat) (fv:Value) (hx:bi w x nx zx btx) (hy:bi w y nx zy bty) (ho:ak w o zo bto) (hF:Av Tryz.prog w fv btx bty bto) (hlo:bto≤bj) (hfit:∀k,k≤nx→(zo + av k (fun a=>zx a*zy a)).natAbs<2^bto):Calls Tryz.prog 120 #[x,y,o,fv] w (cc w fun v w'=>ak w' v (zo + av nx (fun a=>zx a*zy a)) bto):=by
 have hLIM:bj=562949953421312:=rfl;have hlimx:=hx.lim;have hlimy:=hy.lim;refine ai (N:=28) (rs:= #[.cell 8 49]) Tryz.func120 rfl rfl rfl (Nat.le_of_ble_eq_true rfl) ?_;have hX:aA w w:=aA.refl w;refine ab ?_;obtain ⟨ca1,cb1,hq1,ho1,ho2⟩:=ak.cells (ak.ext ho hX);have qi1:ak w (.agg #[ca1,cb1]) zo bto:=hq1▸(ak.ext ho hX);refine RL.x rfl rfl (cQ.box [ca1,cb1] hq1 rfl) ?_;rintro _ w1 ⟨g1,rfl,hge1,hx1,hA1⟩;have hbs1:w.heap.size≤g1:=Nat.le_trans hX.size hge1;replace qi1:=ak.ext qi1 hx1;replace hX:=aA.trans hX hx1;refine RL.x rfl rfl (cQ.alloc [.bool (false),.slice (none) (0) (0)] bH rfl) ?_;rintro _ w2 ⟨g2,rfl,hge2,hx2,hA2⟩;have ne1:g1≠g2:=Nat.ne_of_lt (Nat.lt_of_lt_of_le hA1.lt hge2);have hbs2:w.heap.size≤g2:=Nat.le_trans hX.size hge2;replace qi1:=ak.ext qi1 hx2;replace hA1:=aY.ext hA1 hx2;replace hX:=aA.trans hX hx2;refine RL.nil ?_;refine WP.seq ?_;refine ab ?_;refine RL.p rfl rfl (cj.move rfl) ?_;refine RL.p rfl rfl (bW bE rfl (bi.ext hx hX)) ?_;refine RL.p rfl rfl (cj.move rfl) ?_;refine RL.nil ?_;refine WP.block ?_;refine WP.loop (fun mz ez uz=>∃i:Nat,∃ka:Value,∃kb:Value,(mz=nx - i)∧(ez 0=x)∧(ez 1=y)∧(ez 3=fv)∧(ez 6= .pointer (some ⟨g1,0,none⟩))∧(ez 8= .pointer (some ⟨g2,0,none⟩))∧(ez 11= .int .i64 ((nx:Nat)))∧(ez 12= .int .i64 ((i:Nat)))∧(i≤nx)∧(ak uz (.agg #[ka,kb]) (zo + av i (fun a=>zx a*zy a)) bto)∧(aA w uz)∧(aY uz g1 49 2 (bU [ka,kb]))∧(aY uz g2 49 2 (bU [.bool (false),.slice (none) (0) (0)]))) (nx - 0) ?_ ?_
 · exact ⟨0,ca1,cb1,rfl,rfl,rfl,rfl,rfl,rfl,rfl,rfl,(by omega),(ak.eq qi1 (Int.add_zero _).symm (hfit 0 (Nat.zero_le _)) (by omega)),hX,hA1,hA2⟩
 rintro m1 e1 w3 ⟨i,ka,kb,hm1,s0_e1,s1_e1,s3_e1,s6_e1,s8_e1,s11_e1,s12_e1,hi,hIk,hX1,hA1,hA2⟩;refine ab ?_;refine RL.p rfl rfl (cj.lss s12_e1 s11_e1) ?_;refine RL.nil ?_;refine WP.seq ?_;refine ae (((i:Nat):Int)<((nx:Nat):Int)) rfl (fun c13=> ?_) (fun c13=> ?_)
 ·
  refine WP.skip ?_;refine pl.norm ?_;refine WP.seq ?_;refine WP.block ?_;refine ab ?_;refine RL.p rfl rfl (cj.move s12_e1) ?_;refine RL.p rfl rfl (cj.assign rfl) ?_;refine RL.nil ?_;refine WP.ds am 11 [_,_,_,_,_,_,_,_,_,_,fun v AW=>ak AW v ((zo + av i (fun a=>zx a*zy a)) + (zx i)*(zy i)) bto] rfl rfl (fun e_ w_ AV AU=>⟨fun _=>aa (cj.move ((AU 3 rfl s3_e1))),fun _=>aa (af [ka,kb] aq ((AU 6 rfl s6_e1)) ((aY.ext hA1 AV).cells 0 _ rfl rfl)),fun _=>aa (cj.move ((AU 0 rfl s0_e1))),fun _=>aa (cj.move ((AU 9 rfl rfl))),fun AT=>ag (aM (j:=i) bE (AT 2 rfl) (bi.ext (bi.ext hx hX1) AV) (AT 3 rfl) (by omega) (by omega)),fun AT=>ag (aO aq rfl (AT 4 rfl)),fun _=>aa (cj.move ((AU 1 rfl s1_e1))),fun _=>aa (cj.move ((AU 9 rfl rfl))),fun AT=>ag (aM (j:=i) bE (AT 6 rfl) (bi.ext (bi.ext hy hX1) AV) (AT 7 rfl) (by omega) (by omega)),fun AT=>ag (aO aq rfl (AT 8 rfl)),fun AT=>ou (AT 0 rfl) (Av.ext (Av.ext hF hX1) AV) (AT 1 rfl) rfl rfl (ak.ext hIk AV) (AT 5 rfl) (AT 9 rfl) (by rw [Int.add_assoc];exact hfit (i + 1) (by omega)),trivial⟩) ?_;intro e2 w4 hx3 ho3 hf1;replace hA1:=aY.ext hA1 hx3;replace hA2:=aY.ext hA2 hx3;replace hX1:=aA.trans hX1 hx3;have s0_e2:=ho3 0 rfl s0_e1;have s1_e2:=ho3 1 rfl s1_e1;have s3_e2:=ho3 3 rfl s3_e1;have s6_e2:=ho3 6 rfl s6_e1;have s8_e2:=ho3 8 rfl s8_e1;have s11_e2:=ho3 11 rfl s11_e1;have s12_e2:=ho3 12 rfl s12_e1;have s25_e2:ak w4 (e2 25) ((zo + av i (fun a=>zx a*zy a)) + (zx i)*(zy i)) bto:=hf1 10 rfl;obtain ⟨ca2,cb2,hq2,ho4,ho5⟩:=ak.cells s25_e2;have qi2:ak w4 (.agg #[ca2,cb2]) ((zo + av i (fun a=>zx a*zy a)) + (zx i)*(zy i)) bto:=hq2▸s25_e2;refine RL.x rfl rfl (cQ.store [ca2,cb2] bf s6_e2 hq2 rfl hA1 (Nat.le_of_ble_eq_true rfl) (bs ho4 ho5)) ?_;rintro _ w5 ⟨hk1,hnew⟩;replace hA2:=hA2.keep hk1 (Ne.symm ne1);replace qi2:=ah qi2 hk1 hA1 (by decide);replace hX1:=hX1.step hk1 (fun b e=>by subst e;exact hbs1);replace hA1:=hnew.lit [ca2,cb2] rfl;clear hnew;refine RL.nil ?_;refine iD.norm ?_;refine pl.norm ?_;refine WP.region ?_;refine RL.p rfl rfl (cj.add (c:=((i + 1:Nat):Int)) s12_e2 rfl (bT (by omega))) ?_;refine RL.p rfl rfl (cj.move rfl) ?_;refine RL.nil ?_;refine pl.norm ⟨_,(by omega),i + 1,ca2,cb2,rfl,s0_e2,s1_e2,s3_e2,s6_e2,s8_e2,s11_e2,rfl,(by omega),(ak.eq qi2 (Int.add_assoc _ _ _) (hfit (i + 1) (by omega)) (by omega)),hX1,hA1,hA2⟩
 ·
  refine WP.exit ?_;refine pl.exit ?_;refine pl.exit ?_;refine iD.same ?_;refine pl.norm ?_;refine ab ?_;refine RL.p rfl rfl (af [ka,kb] aq s6_e1 (hA1.cells 0 _ rfl rfl)) ?_;refine RL.x rfl rfl (cQ.store [ka,kb] bf s8_e1 rfl rfl hA2 (Nat.le_of_ble_eq_true rfl) (bs (lV hIk) (ak.oneB hIk))) ?_;rintro _ w6 ⟨hk2,hnew⟩;replace hIk:=ah hIk hk2 hA2 (by decide);replace hX1:=hX1.step hk2 (fun b e=>by subst e;exact hbs2);replace hA2:=hnew.lit [ka,kb] rfl;clear hnew;refine RL.nil ?_;refine WP.ret ?_;refine ⟨.agg #[ka,kb],Am.one (aj [ka,kb] aq s8_e1 (hA2.cells 0 _ rfl rfl)),_,rfl,hX1,?_⟩;dsimp only;have hin:i=nx:=by omega
  subst hin;exact hIk
set_option maxRecDepth 10000 in
theorem zU (w:World) (x:Value) (nx:Nat) (zx:Nat→Int) (btx:Nat) (y:Value) (zy:Nat→Int) (bty:Nat) (b:Nat) (hx:bi w x nx zx btx) (hy:bi w y nx zy bty) (hb:btx + bty + 1≤bj) (hb2:b + 1≤bj) (hfit:∀k,k≤nx→(av k (fun a=>zx a*zy a)).natAbs<2^b):Calls Tryz.prog 99 #[x,y] w (cc w fun v w'=>ak w' v (av nx (fun a=>zx a*zy a)) b):=by
 have hLIM:bj=562949953421312:=rfl;have hlimx:=hx.lim;have hlimy:=hy.lim;refine ai (N:=9) (rs:= #[.cell 4 49]) Tryz.func99 rfl rfl rfl (Nat.le_of_ble_eq_true rfl) ?_;have hX:aA w w:=aA.refl w;refine ab ?_;refine RL.x rfl rfl (cQ.alloc [.bool (false),.slice (none) (0) (0)] bH rfl) ?_;rintro _ w1 ⟨g1,rfl,hge1,hx1,hA1⟩;have hbs1:w.heap.size≤g1:=Nat.le_trans hX.size hge1;replace hX:=aA.trans hX hx1;refine RL.nil ?_;refine ab ?_;refine RL.p rfl rfl (cj.move rfl) ?_;refine RL.p rfl rfl (cj.move rfl) ?_;refine RL.p rfl rfl (cj.build (vs:= []) [(0,1),(1,1)] lk bH (ms) rfl) ?_;refine RL.x rfl rfl (cQ.call xJ (xo rfl rfl rfl rfl) (yh _ _ _ _ _ _ _ _ _ 0 b _ (bi.ext hx hX) (bi.ext hy hX) (ak.up (ak.zero _) (Nat.zero_le _) (by omega)) ⟨121,#[],#[],rfl,xI,fun w1 hw1 o x y zo zx zy h1 h2 h3 hb=>yi _ _ _ _ _ _ _ _ _ _ h1 h2 h3 (by omega) (by omega) hb⟩ (by omega) (fun k hk=>by rw [Int.zero_add];exact hfit k hk))) ?_;rintro v1 w2 ⟨hx2,q1⟩;replace hA1:=aY.ext hA1 hx2;replace hX:=aA.trans hX hx2;obtain ⟨ca1,cb1,hq1,ho1,ho2⟩:=ak.cells q1;have qi1:ak w2 (.agg #[ca1,cb1]) (0 + av nx (fun a=>zx a*zy a)) b:=hq1▸q1;refine RL.x rfl rfl (cQ.store [ca1,cb1] bf rfl hq1 rfl hA1 (Nat.le_of_ble_eq_true rfl) (bs ho1 ho2)) ?_;rintro _ w3 ⟨hk1,hnew⟩;replace qi1:=ah qi1 hk1 hA1 (by decide);replace hX:=hX.step hk1 (fun b e=>by subst e;exact hbs1);replace hA1:=hnew.lit [ca1,cb1] rfl;clear hnew;refine RL.nil ?_;refine WP.ret ?_;refine ⟨.agg #[ca1,cb1],Am.one (aj [ca1,cb1] aq rfl (hA1.cells 0 _ rfl rfl)),_,rfl,hX,?_⟩;dsimp only;exact ak.eq qi1 (Int.zero_add _) (hfit nx (Nat.le_refl _)) (by omega)
set_option maxRecDepth 10000 in
theorem yj (w:World) (i:Nat) (j:Nat) (gx:Nat) (sx:Value) (rx cx:Nat) (Mx:Nat→Nat→Int) (btx:Nat) (gy:Nat) (sy:Value) (ry:Nat) (My:Nat→Nat→Int) (bty:Nat) (b:Nat) (hAx:aY w gx 28 3 (bU [.int .i64 (rx:Nat),.int .i64 (cx:Nat),sx])) (hSx:ce w sx rx cx Mx btx) (hrx:rx≤65536) (hcx:cx≤65536) (hAy:aY w gy 28 3 (bU [.int .i64 (ry:Nat),.int .i64 (cx:Nat),sy])) (hSy:ce w sy ry cx My bty) (hry:ry≤65536) (hcy:cx≤65536) (hi:i<rx) (hj:j<ry) (hb:btx + bty + 1≤bj) (hb2:b + 1≤bj) (hfit:∀k,k≤cx→(av k (fun a=>Mx i a*My j a)).natAbs<2^b):Calls Tryz.prog 98 #[.int .i64 (i:Nat),.int .i64 (j:Nat),.pointer (some ⟨gx,0,none⟩),.pointer (some ⟨gy,0,none⟩)] w (cc w fun v w'=>ak w' v (av cx (fun a=>Mx i a*My j a)) b):=by
 have hLIM:bj=562949953421312:=rfl;refine ai (N:=18) (rs:= #[.cell 6 49]) Tryz.func98 rfl rfl rfl (Nat.le_of_ble_eq_true rfl) ?_;have hX:aA w w:=aA.refl w;refine ab ?_;refine RL.x rfl rfl (cQ.alloc [.bool (false),.slice (none) (0) (0)] bH rfl) ?_;rintro _ w1 ⟨g1,rfl,hge1,hx1,hA1⟩;have hbs1:w.heap.size≤g1:=Nat.le_trans hX.size hge1;replace hX:=aA.trans hX hx1;refine RL.nil ?_;refine aF am 11 [_,_,_,_,_,_,_,_,_,_,_] rfl rfl (fun e_ w_ AV AU=>⟨fun _=>aa (cj.fieldAddr aw ((AU 2 rfl rfl))),fun AT=>aa (cj.load aU ((AT 0 rfl)) ((aY.ext (aY.ext hAx hX) AV).at_ (i:=2) rfl rfl)),fun _=>aa (cj.move ((AU 0 rfl rfl))),fun AT=>ag (aJ (j:=i) aK (AT 1 rfl) (ce.ext (ce.ext hSx hX) AV) (AT 2 rfl) (by omega) (by omega)),fun AT=>ag (aI bn rfl (AT 3 rfl)),fun _=>aa (cj.fieldAddr aw ((AU 3 rfl rfl))),fun AT=>aa (cj.load aU ((AT 5 rfl)) ((aY.ext (aY.ext hAy hX) AV).at_ (i:=2) rfl rfl)),fun _=>aa (cj.move ((AU 1 rfl rfl))),fun AT=>ag (aJ (j:=j) aK (AT 6 rfl) (ce.ext (ce.ext hSy hX) AV) (AT 7 rfl) (by omega) (by omega)),fun AT=>ag (aI bn rfl (AT 8 rfl)),fun AT=>cQ.call yU (aC rfl rfl) (zU _ _ _ _ _ _ _ _ b (AT 4 rfl) (AT 9 rfl) (by omega) (by omega) (fun k hk=>hfit k hk)),trivial⟩) ?_;intro e1 w2 hx2 ho1 hf1;replace hA1:=aY.ext hA1 hx2;replace hX:=aA.trans hX hx2;have s6_e1:e1 6=_:=ho1 6 rfl rfl;have s17_e1:ak w2 (e1 17) (av cx (fun a=>(Mx i) a*(My j) a)) b:=hf1 10 rfl;obtain ⟨ca1,cb1,hq1,ho2,ho3⟩:=ak.cells s17_e1;have qi1:ak w2 (.agg #[ca1,cb1]) (av cx (fun a=>(Mx i) a*(My j) a)) b:=hq1▸s17_e1;refine RL.x rfl rfl (cQ.store [ca1,cb1] bf s6_e1 hq1 rfl hA1 (Nat.le_of_ble_eq_true rfl) (bs ho2 ho3)) ?_;rintro _ w3 ⟨hk1,hnew⟩;replace qi1:=ah qi1 hk1 hA1 (by decide);replace hX:=hX.step hk1 (fun b e=>by subst e;exact hbs1);replace hA1:=hnew.lit [ca1,cb1] rfl;clear hnew;refine RL.nil ?_;refine WP.ret ?_;refine ⟨.agg #[ca1,cb1],Am.one (aj [ca1,cb1] aq s6_e1 (hA1.cells 0 _ rfl rfl)),_,rfl,hX,?_⟩;dsimp only;exact qi1
set_option maxRecDepth 10000 in
theorem zV (w:World) (x:Value) (rx cx:Nat) (Mx:Nat→Nat→Int) (btx:Nat) (y:Value) (ry cy:Nat) (My:Nat→Nat→Int) (bty:Nat) (b:Nat) (hx:bX w x rx cx Mx btx) (hy:bX w y ry cy My bty) (hxy:cx=ry) (hb:btx + bty + 1≤bj) (hb2:b + 1≤bj) (hfit:∀i j k,i<rx→j<cy→k≤cx→(av k (fun x=>Mx i x*My x j)).natAbs<2^b):Calls Tryz.prog 61 #[x,y] w (cc w fun v w'=>∃v1,v= .tuple #[v1,.int .i64 0]∧cO w' v1 w.heap.size rx cy (bc cx Mx My) b):=by
 have hLIM:bj=562949953421312:=rfl;have hmatx:=hx;obtain ⟨sx,rfl,hrx,hcx,hSx⟩:=hx.form;have hmaty:=hy;obtain ⟨sy,rfl,hry,hcy,hSy⟩:=hy.form;refine ai (N:=21) (rs:= #[.cell 4 28,.tmp 5]) Tryz.func61 rfl rfl rfl (Nat.le_of_ble_eq_true rfl) ?_;have hX:aA w w:=aA.refl w;refine ab ?_;refine RL.x rfl rfl (cQ.box [.int .i64 ((rx:Nat)),.int .i64 ((cx:Nat)),sx] rfl rfl) ?_;rintro _ w1 ⟨g1,rfl,hge1,hx1,hA1⟩;replace hX:=aA.trans hX hx1;refine RL.x rfl rfl (cQ.box [.int .i64 ((ry:Nat)),.int .i64 ((cy:Nat)),sy] rfl rfl) ?_;rintro _ w2 ⟨g2,rfl,hge2,hx2,hA2⟩;replace hA1:=aY.ext hA1 hx2;replace hX:=aA.trans hX hx2;refine RL.x rfl rfl (cQ.alloc [.int .i64 (0),.int .i64 (0),.slice (none) (0) (0)] cn rfl) ?_;rintro _ w3 ⟨g3,rfl,hge3,hx3,hA3⟩;have hbs3:w.heap.size≤g3:=Nat.le_trans hX.size hge3;replace hA1:=aY.ext hA1 hx3;replace hA2:=aY.ext hA2 hx3;replace hX:=aA.trans hX hx3;refine RL.p rfl rfl (cj.assign rfl) ?_;refine RL.nil ?_;refine WP.seq ?_;refine ab ?_;refine RL.p rfl rfl (cj.fieldAddr bC rfl) ?_;refine RL.p rfl rfl (cj.load bD rfl (hA1.at_ (i:=1) rfl rfl)) ?_;refine RL.p rfl rfl (cj.fieldAddr aX rfl) ?_;refine RL.p rfl rfl (cj.load bD rfl (hA2.at_ (i:=0) rfl rfl)) ?_;refine RL.p rfl rfl (cj.neq rfl rfl) ?_;refine RL.nil ?_;refine ae (((cx:Nat):Int)≠((ry:Nat):Int)) rfl (fun hn=>absurd hn ((by omega))) (fun c11=> ?_);refine WP.skip ?_;refine pl.norm ?_;refine ab ?_;refine RL.p rfl rfl (af [.int .i64 ((ry:Nat)),.int .i64 ((cy:Nat)),sy] aV rfl (hA2.cells 0 _ rfl rfl)) ?_;refine RL.x rfl rfl (cQ.call yW (aL rfl) (mw _ _ _ _ _ _ (bX.mk (ce.ext hSy hX) (by omega) (by omega)))) ?_;rintro v1 w4 ⟨hx4,q1⟩;replace hA1:=aY.ext hA1 hx4;replace hA2:=aY.ext hA2 hx4;replace hA3:=aY.ext hA3 hx4;replace hX:=aA.trans hX hx4;refine RL.x rfl rfl (cQ.alloc [.int .i64 (0),.int .i64 (0),.slice (none) (0) (0)] cn rfl) ?_;rintro _ w5 ⟨g4,rfl,hge4,hx5,hA4⟩;have ne4:g1≠g4:=Nat.ne_of_lt (Nat.lt_of_lt_of_le hA1.lt hge4);have ne5:g2≠g4:=Nat.ne_of_lt (Nat.lt_of_lt_of_le hA2.lt hge4);have ne6:g3≠g4:=Nat.ne_of_lt (Nat.lt_of_lt_of_le hA3.lt hge4);have hbs4:w.heap.size≤g4:=Nat.le_trans hX.size hge4;replace hA1:=aY.ext hA1 hx5;replace hA2:=aY.ext hA2 hx5;replace hA3:=aY.ext hA3 hx5;replace q1:=bX.ext q1 hx5;replace hX:=aA.trans hX hx5;obtain ⟨sv1,hq1,hr1,hc1,hS1⟩:=q1.form;refine RL.x rfl rfl (cQ.store [.int .i64 ((cy:Nat)),.int .i64 ((ry:Nat)),sv1] cR rfl hq1 rfl hA4 (Nat.le_of_ble_eq_true rfl) (cS rfl rfl hS1.one)) ?_;rintro _ w6 ⟨hk1,hnew⟩;replace hA1:=hA1.keep hk1 ne4;replace hA2:=hA2.keep hk1 ne5;replace hA3:=hA3.keep hk1 ne6;replace hS1:=br hS1 hk1 hA4 (by decide);replace hX:=hX.step hk1 (fun b e=>by subst e;exact hbs4);replace hA4:=hnew.lit [.int .i64 ((cy:Nat)),.int .i64 ((ry:Nat)),sv1] rfl;clear hnew;refine RL.nil ?_;refine ab ?_;refine RL.p rfl rfl (cj.fieldAddr aX rfl) ?_;refine RL.p rfl rfl (cj.load bD rfl (hA1.at_ (i:=0) rfl rfl)) ?_;refine RL.p rfl rfl (cj.fieldAddr bC rfl) ?_;refine RL.p rfl rfl (cj.load bD rfl (hA2.at_ (i:=1) rfl rfl)) ?_;refine RL.p rfl rfl (cj.makeFunc (lQ) (aC rfl rfl)) ?_;have hBw1:w.heap.size≤w6.heap.size:=hX.size;refine RL.x rfl rfl (cQ.call pG (cH rfl rfl rfl) (jB _ rx cy _ (bc cx Mx My) b (by omega) (by omega) ⟨98,#[],#[.pointer (some ⟨g1,0,none⟩),.pointer (some ⟨g4,0,none⟩)],rfl,yV,fun w1 hw1 i j hi hj=>by subst hxy;exact yj _ i j _ _ _ _ _ _ _ _ _ (fun i j=>My j i) _ b (aY.ext hA1 hw1) (ce.ext (ce.ext hSx hX) hw1) (by omega) (by omega) (aY.ext hA4 hw1) (ce.ext hS1 hw1) (by omega) (by omega) (by omega) (by omega) (by omega) (by omega) (fun k hk=>hfit i j k (by omega) (by omega) hk)⟩ (by omega))) ?_;rintro v2 w7 ⟨hx6,q2⟩;replace hA3:=aY.ext hA3 hx6;replace hX:=aA.trans hX hx6;obtain ⟨gh1,kh1,ρ1,hq2,hM1⟩:=q2;have hd1:=cY.dlim hM1;have hd2:=cY.clim hM1;refine RL.x rfl rfl (cQ.store [.int .i64 ((rx:Nat)),.int .i64 ((cy:Nat)),.slice (some ⟨gh1,0,none⟩) (rx) (kh1)] cR rfl hq2 rfl hA3 (Nat.le_of_ble_eq_true rfl) (cS rfl rfl rfl)) ?_;rintro _ w8 ⟨hk2,hnew⟩;replace hM1:=bk hM1 hk2 hA3 (by decide);replace hX:=hX.step hk2 (fun b e=>by subst e;exact hbs3);replace hA3:=hnew.lit [.int .i64 ((rx:Nat)),.int .i64 ((cy:Nat)),.slice (some ⟨gh1,0,none⟩) (rx) (kh1)] rfl;clear hnew;refine RL.p rfl rfl (cj.assign rfl) ?_;refine RL.nil ?_;refine WP.ret ?_;refine ⟨.tuple #[.agg #[.int .i64 ((rx:Nat)),.int .i64 ((cy:Nat)),.slice (some ⟨gh1,0,none⟩) (rx) (kh1)],.int .i64 (0)],dT (aj [.int .i64 ((rx:Nat)),.int .i64 ((cy:Nat)),.slice (some ⟨gh1,0,none⟩) (rx) (kh1)] aV rfl (hA3.cells 0 _ rfl rfl)) (fw.tmp rfl),_,rfl,hX,?_⟩;dsimp only;exact ⟨_,rfl,⟨_,_,_,rfl,cY.low hM1 (hBw1)⟩⟩
end Go.TL
