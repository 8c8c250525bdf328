/-
  Lemmas towards the theorem of this claim (part 4).
  Conditions: those that each theorem names.
-/
import Derived.Test.YtknbpehdcgamaaaGreatPG3
namespace Go.TL
open Go.RowKit Go.Proofs
set_option linter.unusedVariables false
set_option linter.unusedSimpArgs false
set_option maxRecDepth 10000 in
theorem jB (w:World) (r:Nat) (c:Nat) (fv:Value) (F:Nat→Nat→Int) (b:Nat) (hr:r≤65536) (hc:c≤65536) (hF:Au Tryz.prog w fv r c F b) (hb:b≤bj):Calls Tryz.prog 81 #[.int .i64 (r:Nat),.int .i64 (c:Nat),fv] w (cc w fun v w'=>cO w' v w.heap.size r c F b):=by
 have hLIM:bj=562949953421312:=rfl;refine ai (N:=43) (rs:= #[.cell 6 28]) Tryz.func81 rfl rfl rfl (Nat.le_of_ble_eq_true rfl) ?_;have hX:aA w w:=aA.refl w;refine ab ?_;refine RL.x rfl rfl (cQ.alloc [.int .i64 (0),.int .i64 (0),.slice (none) (0) (0)] cn rfl) ?_;rintro _ w1 ⟨g1,rfl,hge1,hx1,hA1⟩;have hbs1:w.heap.size≤g1:=Nat.le_trans hX.size hge1;replace hX:=aA.trans hX hx1;refine RL.nil ?_;refine ab ?_;refine RL.p rfl rfl (cj.move rfl) ?_;refine RL.p rfl rfl (cj.move rfl) ?_;refine RL.p rfl rfl (cj.move rfl) ?_;refine RL.x rfl rfl (df (r) [.slice (none) (0) (0)] aK pC rfl rfl rfl (by omega) (by omega) (by omega) (by omega) (by decide)) ?_;rintro _ w2 ⟨g2,rfl,hge2,hx2,hA2⟩;have hbs2:w.heap.size≤g2:=Nat.le_trans hX.size hge2;replace hA1:=aY.ext hA1 hx2;replace hX:=aA.trans hX hx2;replace hA2:=cY.born (c:=c) (Nat.mul_one _▸hA2) hbs2 (by omega) (by omega) (cG F 0 0) (b) (by omega);refine RL.p rfl rfl (cj.build (vs:= [(0,.int .i64 ((r:Nat))),(1,.int .i64 ((c:Nat))),(2,.slice (some ⟨g2,0,none⟩) (r) (r))]) [(0,1),(1,1),(2,1)] jR cn (ko rfl rfl rfl) rfl) ?_;refine RL.x rfl rfl (cQ.alloc [.int .i64 (0),.int .i64 (0),.slice (none) (0) (0)] cn rfl) ?_;rintro _ w3 ⟨g3,rfl,hge3,hx3,hA3⟩;have ne2:g1≠g3:=Nat.ne_of_lt (Nat.lt_of_lt_of_le hA1.lt hge3);have hbs3:w.heap.size≤g3:=Nat.le_trans hX.size hge3;replace hA1:=aY.ext hA1 hx3;replace hA2:=cY.ext hA2 hx3;replace hX:=aA.trans hX hx3;refine RL.x rfl rfl (cQ.store [.int .i64 ((r:Nat)),.int .i64 ((c:Nat)),.slice (some ⟨g2,0,none⟩) (r) (r)] cR rfl rfl rfl hA3 (Nat.le_of_ble_eq_true rfl) (cS rfl rfl rfl)) ?_;rintro _ w4 ⟨hk1,hnew⟩;replace hA2:=bk hA2 hk1 hA3 (by decide);replace hA1:=hA1.keep hk1 ne2;replace hX:=hX.step hk1 (fun b e=>by subst e;exact hbs3);replace hA3:=hnew.lit [.int .i64 ((r:Nat)),.int .i64 ((c:Nat)),.slice (some ⟨g2,0,none⟩) (r) (r)] rfl;clear hnew;refine RL.nil ?_;refine WP.seq ?_;refine ab ?_;refine RL.p rfl rfl (cj.move rfl) ?_;refine RL.p rfl rfl (cj.move rfl) ?_;refine RL.nil ?_;refine WP.block ?_;refine WP.loop (fun mz ez uz=>∃i:Nat,∃ρ:Nat→Nat,(mz=r - i)∧(ez 1= .int .i64 ((c:Nat)))∧(ez 2=fv)∧(ez 6= .pointer (some ⟨g1,0,none⟩))∧(ez 7= .pointer (some ⟨g3,0,none⟩))∧(ez 15= .int .i64 ((r:Nat)))∧(ez 16= .int .i64 ((i:Nat)))∧(i≤r)∧(aA w uz)∧(aY uz g1 28 3 (bU [.int .i64 (0),.int .i64 (0),.slice (none) (0) (0)]))∧(aY uz g3 28 3 (bU [.int .i64 ((r:Nat)),.int .i64 ((c:Nat)),.slice (some ⟨g2,0,none⟩) (r) (r)]))∧(cY uz w.heap.size g2 r i c ρ (cG F i 0) b)) (r - 0) ?_ ?_
 · exact ⟨0,_,rfl,rfl,rfl,rfl,rfl,rfl,rfl,(by omega),hX,hA1,hA3,hA2⟩
 rintro m1 e1 w5 ⟨i,ρ,hm1,s1_e1,s2_e1,s6_e1,s7_e1,s15_e1,s16_e1,hi,hX1,hA1,hA3,hA2⟩;refine ab ?_;refine RL.p rfl rfl (cj.lss s16_e1 s15_e1) ?_;refine RL.nil ?_;refine WP.seq ?_;refine ae (((i:Nat):Int)<((r:Nat):Int)) rfl (fun c17=> ?_) (fun c17=> ?_)
 ·
  refine WP.skip ?_;refine pl.norm ?_;refine WP.seq ?_;refine WP.block ?_;refine ab ?_;refine RL.p rfl rfl (cj.move s16_e1) ?_;refine RL.p rfl rfl (cj.assign rfl) ?_;refine RL.nil ?_;have hro_g2:=fun ii (hi:ii<i)=>cY.rowlt hA2 hi
  have hgo_g2:=cY.ghlt hA2;have hXr:=hX1;refine aF am 6 [_,_,_,_,fun v AW=>dJ AW v w5.heap.size c b,_] rfl rfl (fun e_ w_ AV AU=>⟨fun _=>aa (cj.fieldAddr aw ((AU 7 rfl s7_e1))),fun AT=>aa (cj.load aU ((AT 0 rfl)) ((aY.ext hA3 AV).at_ (i:=2) rfl rfl)),fun _=>aa (cj.move ((AU 8 rfl rfl))),fun _=>aa (cj.move ((AU 1 rfl s1_e1))),fun AT=>fR bE (by decide) bH (AT 3 rfl) (AT 3 rfl) rfl rfl (by omega) AV.size (by omega),fun AT=>aa (cj.index (j:=i) aK ((AT 1 rfl)) ((AT 2 rfl)) rfl (by omega) (by omega)),trivial⟩) ?_;intro e2 w6 hx4 ho1 hf1;replace hA1:=aY.ext hA1 hx4;replace hA3:=aY.ext hA3 hx4;replace hA2:=cY.ext hA2 hx4;replace hX1:=aA.trans hX1 hx4;have s1_e2:=ho1 1 rfl s1_e1;have s2_e2:=ho1 2 rfl s2_e1;have s6_e2:=ho1 6 rfl s6_e1;have s7_e2:=ho1 7 rfl s7_e1;have s15_e2:=ho1 15 rfl s15_e1;have s16_e2:=ho1 16 rfl s16_e1;have s8_e2:e2 8=_:=ho1 8 rfl rfl;have s23_e2:dJ w6 (e2 23) w5.heap.size c b:=hf1 4 rfl;have s24_e2:e2 24=_:=hf1 5 rfl;obtain ⟨g4,hq1,hge4,hR1⟩:=s23_e2;have ne5:∀ii,ii<i→ρ ii≠g4:=fun ii hi=>Nat.ne_of_lt (Nat.lt_of_lt_of_le (hro_g2 ii hi) hge4)
  have hbs4:w.heap.size≤g4:=Nat.le_trans hXr.size hge4;refine RL.x rfl rfl (ol ji s24_e2 hq1 (AE _ _ _ _ (Nat.le_refl _) (by omega)) hR1 hA2 (by omega) (by omega) (fun j hj=>rk F i j) hbs4 (fun ii hi=>Ne.symm (ne5 ii hi))) ?_;rintro _ w7 ⟨hk2,hN1⟩;replace hA1:=iY hA1 hk2 hA2 (by decide);replace hA3:=iY hA3 hk2 hA2 (by decide);replace hX1:=hX1.step hk2 (fun b e=>by subst e;exact hbs2);replace hA2:=hN1;refine RL.nil ?_;refine ab ?_;refine RL.p rfl rfl (cj.move s1_e2) ?_;refine RL.p rfl rfl (cj.move rfl) ?_;refine RL.nil ?_;refine WP.block ?_;refine WP.loop (fun mz ez uz=>∃j:Nat,(mz=c - j)∧(ez 1= .int .i64 ((c:Nat)))∧(ez 2=fv)∧(ez 6= .pointer (some ⟨g1,0,none⟩))∧(ez 7= .pointer (some ⟨g3,0,none⟩))∧(ez 8= .int .i64 ((i:Nat)))∧(ez 15= .int .i64 ((r:Nat)))∧(ez 16= .int .i64 ((i:Nat)))∧(ez 25= .int .i64 ((c:Nat)))∧(ez 26= .int .i64 ((j:Nat)))∧(j≤c)∧(aA w uz)∧(aY uz g1 28 3 (bU [.int .i64 (0),.int .i64 (0),.slice (none) (0) (0)]))∧(aY uz g3 28 3 (bU [.int .i64 ((r:Nat)),.int .i64 ((c:Nat)),.slice (some ⟨g2,0,none⟩) (r) (r)]))∧(cY uz w.heap.size g2 r (i + 1) c (ci ρ i g4) (cG F i j) b)) (c - 0) ?_ ?_
  · exact ⟨0,rfl,s1_e2,s2_e2,s6_e2,s7_e2,s8_e2,s15_e2,s16_e2,rfl,rfl,(by omega),hX1,hA1,hA3,hA2⟩
  rintro m2 e3 w8 ⟨j,hm2,s1_e3,s2_e3,s6_e3,s7_e3,s8_e3,s15_e3,s16_e3,s25_e3,s26_e3,hj,hX2,hA1,hA3,hA2⟩;refine ab ?_;refine RL.p rfl rfl (cj.lss s26_e3 s25_e3) ?_;refine RL.nil ?_;refine WP.seq ?_;refine ae (((j:Nat):Int)<((c:Nat):Int)) rfl (fun c27=> ?_) (fun c27=> ?_)
  ·
   refine WP.skip ?_;refine pl.norm ?_;refine WP.seq ?_;refine WP.block ?_;refine ab ?_;refine RL.p rfl rfl (cj.move s26_e3) ?_;refine RL.p rfl rfl (cj.assign rfl) ?_;refine RL.nil ?_;refine WP.ds am 11 [_,_,_,_,_,_,_,_,_,fun v AW=>ak AW v (F i j) b,_] rfl rfl (fun e_ w_ AV AU=>⟨fun _=>aa (cj.fieldAddr aw ((AU 7 rfl s7_e3))),fun AT=>aa (cj.load aU ((AT 0 rfl)) ((aY.ext hA3 AV).at_ (i:=2) rfl rfl)),fun _=>aa (cj.move ((AU 8 rfl s8_e3))),fun AT=>aa (cj.index (j:=i) aK ((AT 1 rfl)) ((AT 2 rfl)) rfl (by omega) (by omega)),fun AT=>ag (aG (i:=i) bn (AT 3 rfl) (cY.ext hA2 AV) (by omega)),fun _=>aa (cj.move ((AU 9 rfl rfl))),fun _=>aa (cj.move ((AU 2 rfl s2_e3))),fun _=>aa (cj.move ((AU 8 rfl s8_e3))),fun _=>aa (cj.move ((AU 9 rfl rfl))),fun AT=>ot (i:=i) (j:=j) (AT 6 rfl) (Au.ext (Au.ext hF hX2) AV) (AT 7 rfl) (AT 8 rfl) rfl rfl (by omega) (by omega),fun AT=>aa (aR (j:=j) bE (AT 4 rfl) rfl (AT 5 rfl) (by omega) (by omega)),trivial⟩) ?_;intro e4 w9 hx5 ho2 hf2;replace hA1:=aY.ext hA1 hx5;replace hA3:=aY.ext hA3 hx5;replace hA2:=cY.ext hA2 hx5;replace hX2:=aA.trans hX2 hx5;have s1_e4:=ho2 1 rfl s1_e3;have s2_e4:=ho2 2 rfl s2_e3;have s6_e4:=ho2 6 rfl s6_e3;have s7_e4:=ho2 7 rfl s7_e3;have s8_e4:=ho2 8 rfl s8_e3;have s15_e4:=ho2 15 rfl s15_e3;have s16_e4:=ho2 16 rfl s16_e3;have s25_e4:=ho2 25 rfl s25_e3;have s26_e4:=ho2 26 rfl s26_e3;have s38_e4:ak w9 (e4 38) (F i j) b:=hf2 9 rfl;have s39_e4:e4 39=_:=hf2 10 rfl;refine RL.x rfl rfl (cU (i:=i) (j:=j) bf s39_e4 rfl s38_e4 hA2 (by omega) (by omega)) ?_;rintro _ w10 ⟨hk3,hN2⟩;have hR2:=cY.row (i:=i) hA2 (by omega);replace hA1:=bF hA1 hk3 hR2 (by decide);replace hA3:=bF hA3 hk3 hR2 (by decide);replace hX2:=hX2.step hk3 (fun b e=>by subst e;exact (cY.rowB (i:=i) hA2 (by omega)));replace hA2:=hN2;clear hR2;refine RL.nil ?_;refine iD.norm ?_;refine pl.norm ?_;refine WP.region ?_;refine RL.p rfl rfl (cj.add (c:=((j + 1:Nat):Int)) s26_e4 rfl (bT (by omega))) ?_;refine RL.p rfl rfl (cj.move rfl) ?_;refine RL.nil ?_;refine pl.norm ⟨_,(by omega),j + 1,rfl,s1_e4,s2_e4,s6_e4,s7_e4,s8_e4,s15_e4,s16_e4,s25_e4,rfl,(by omega),hX2,hA1,hA3,bZ hA2 (gg F i j)⟩
  ·
   refine WP.exit ?_;refine pl.exit ?_;refine pl.exit ?_;refine iD.same ?_;refine iD.norm ?_;refine pl.norm ?_;refine WP.region ?_;refine RL.p rfl rfl (cj.add (c:=((i + 1:Nat):Int)) s16_e3 rfl (bT (by omega))) ?_;refine RL.p rfl rfl (cj.move rfl) ?_;refine RL.nil ?_;refine pl.norm ⟨_,(by omega),i + 1,_,rfl,s1_e3,s2_e3,s6_e3,s7_e3,s15_e3,rfl,(by omega),hX2,hA1,hA3,cY.congr hA2 fun a c2 ha hc2=>lE F i (by omega)⟩
 ·
  refine WP.exit ?_;refine pl.exit ?_;refine pl.exit ?_;refine iD.same ?_;refine pl.norm ?_;refine ab ?_;refine RL.p rfl rfl (af [.int .i64 ((r:Nat)),.int .i64 ((c:Nat)),.slice (some ⟨g2,0,none⟩) (r) (r)] aV s7_e1 (hA3.cells 0 _ rfl rfl)) ?_;refine RL.x rfl rfl (cQ.store [.int .i64 ((r:Nat)),.int .i64 ((c:Nat)),.slice (some ⟨g2,0,none⟩) (r) (r)] cR s6_e1 rfl rfl hA1 (Nat.le_of_ble_eq_true rfl) (cS rfl rfl rfl)) ?_;rintro _ w11 ⟨hk4,hnew⟩;replace hA2:=bk hA2 hk4 hA1 (by decide);replace hX1:=hX1.step hk4 (fun b e=>by subst e;exact hbs1);replace hA1:=hnew.lit [.int .i64 ((r:Nat)),.int .i64 ((c:Nat)),.slice (some ⟨g2,0,none⟩) (r) (r)] rfl;clear hnew;refine RL.nil ?_;refine WP.ret ?_;refine ⟨.agg #[.int .i64 ((r:Nat)),.int .i64 ((c:Nat)),.slice (some ⟨g2,0,none⟩) (r) (r)],Am.one (aj [.int .i64 ((r:Nat)),.int .i64 ((c:Nat)),.slice (some ⟨g2,0,none⟩) (r) (r)] aV s6_e1 (hA1.cells 0 _ rfl rfl)),_,rfl,hX1,?_⟩;dsimp only;exact ⟨_,_,_,rfl,wC (cY.congr hA2 fun a c2 ha hc2=>fm F c2 ha) (by omega)⟩
set_option maxRecDepth 10000 in
theorem mA (w:World) (i:Nat) (j:Nat) (gx:Nat) (sx:Value) (rx cx:Nat) (Mx:Nat→Nat→Int) (btx:Nat) (hAx:aY w gx 28 3 (bU [.int .i64 (rx:Nat),.int .i64 (cx:Nat),sx])) (hSx:ce w sx rx cx Mx btx) (hrx:rx≤65536) (hcx:cx≤65536) (hi:i<cx) (hj:j<rx):Calls Tryz.prog 119 #[.int .i64 (i:Nat),.int .i64 (j:Nat),.pointer (some ⟨gx,0,none⟩)] w (cc w fun v w'=>ak w' v (Mx j i) btx):=by
 have hLIM:bj=562949953421312:=rfl;refine ai (N:=14) (rs:= #[.cell 5 49]) Tryz.func119 rfl rfl rfl (Nat.le_of_ble_eq_true rfl) ?_;have hX:aA w w:=aA.refl w;refine ab ?_;refine RL.x rfl rfl (cQ.alloc [.bool (false),.slice (none) (0) (0)] bH rfl) ?_;rintro _ w1 ⟨g1,rfl,hge1,hx1,hA1⟩;have hbs1:w.heap.size≤g1:=Nat.le_trans hX.size hge1;replace hX:=aA.trans hX hx1;refine RL.nil ?_;refine ab ?_;refine RL.p rfl rfl (cj.fieldAddr aw rfl) ?_;refine RL.p rfl rfl (cj.load aU rfl ((aY.ext hAx hX).at_ (i:=2) rfl rfl)) ?_;refine RL.p rfl rfl (cj.move rfl) ?_;refine RL.x rfl rfl (aJ (j:=j) aK rfl (ce.ext hSx hX) rfl (by omega) (by omega)) ?_;rintro v1 _ ⟨rfl,q1⟩;refine RL.x rfl rfl (aI bn rfl q1) ?_;rintro v2 _ ⟨rfl,q2⟩;refine RL.p rfl rfl (cj.move rfl) ?_;refine RL.x rfl rfl (aM (j:=i) bE rfl q2 rfl (by omega) (by omega)) ?_;rintro v3 _ ⟨rfl,q3⟩;refine RL.x rfl rfl (aO aq rfl q3) ?_;rintro v4 _ ⟨rfl,q4⟩;obtain ⟨ca1,cb1,hq1,ho1,ho2⟩:=ak.cells q4;have qi1:ak w1 (.agg #[ca1,cb1]) ((Mx j) i) btx:=hq1▸q4;refine RL.x rfl rfl (cQ.store [ca1,cb1] bf rfl hq1 rfl hA1 (Nat.le_of_ble_eq_true rfl) (bs ho1 ho2)) ?_;rintro _ w2 ⟨hk1,hnew⟩;replace qi1:=ah qi1 hk1 hA1 (by decide);replace hX:=hX.step hk1 (fun b e=>by subst e;exact hbs1);replace hA1:=hnew.lit [ca1,cb1] rfl;clear hnew;refine RL.nil ?_;refine WP.ret ?_;refine ⟨.agg #[ca1,cb1],Am.one (aj [ca1,cb1] aq rfl (hA1.cells 0 _ rfl rfl)),_,rfl,hX,?_⟩;dsimp only;exact qi1
set_option maxRecDepth 10000 in
theorem nT (w:World) (x:Value) (rx cx:Nat) (Mx:Nat→Nat→Int) (btx:Nat) (hx:bX w x rx cx Mx btx):Calls Tryz.prog 97 #[x] w (cc w fun v w'=>cO w' v w.heap.size cx rx (fun i j=>Mx j i) btx):=by
 have hLIM:bj=562949953421312:=rfl;have hmatx:=hx;obtain ⟨sx,rfl,hrx,hcx,hSx⟩:=hx.form;refine ai (N:=9) (rs:= #[.cell 2 28]) Tryz.func97 rfl rfl rfl (Nat.le_of_ble_eq_true rfl) ?_;have hX:aA w w:=aA.refl w;refine ab ?_;refine RL.x rfl rfl (cQ.box [.int .i64 ((rx:Nat)),.int .i64 ((cx:Nat)),sx] rfl rfl) ?_;rintro _ w1 ⟨g1,rfl,hge1,hx1,hA1⟩;replace hX:=aA.trans hX hx1;refine RL.x rfl rfl (cQ.alloc [.int .i64 (0),.int .i64 (0),.slice (none) (0) (0)] cn rfl) ?_;rintro _ w2 ⟨g2,rfl,hge2,hx2,hA2⟩;have hbs2:w.heap.size≤g2:=Nat.le_trans hX.size hge2;replace hA1:=aY.ext hA1 hx2;replace hX:=aA.trans hX hx2;refine RL.nil ?_;refine ab ?_;refine RL.p rfl rfl (cj.fieldAddr bC rfl) ?_;refine RL.p rfl rfl (cj.load bD rfl (hA1.at_ (i:=1) rfl rfl)) ?_;refine RL.p rfl rfl (cj.fieldAddr aX rfl) ?_;refine RL.p rfl rfl (cj.load bD rfl (hA1.at_ (i:=0) rfl rfl)) ?_;refine RL.p rfl rfl (cj.makeFunc (lQ) (aL rfl)) ?_;have hBw1:w.heap.size≤w2.heap.size:=hX.size;refine RL.x rfl rfl (cQ.call pG (cH rfl rfl rfl) (jB _ cx rx _ (fun i j=>Mx j i) btx (by omega) (by omega) ⟨119,#[],#[.pointer (some ⟨g1,0,none⟩)],rfl,xK,fun w1 hw1 i j hi hj=>mA _ _ _ _ _ _ _ _ _ (aY.ext hA1 hw1) (ce.ext (ce.ext hSx hX) hw1) (by omega) (by omega) (by omega) (by omega)⟩ (by omega))) ?_;rintro v1 w3 ⟨hx3,q1⟩;replace hA2:=aY.ext hA2 hx3;replace hX:=aA.trans hX hx3;obtain ⟨gh1,kh1,ρ1,hq1,hM1⟩:=q1;have hd1:=cY.dlim hM1;have hd2:=cY.clim hM1;refine RL.x rfl rfl (cQ.store [.int .i64 ((cx:Nat)),.int .i64 ((rx:Nat)),.slice (some ⟨gh1,0,none⟩) (cx) (kh1)] cR rfl hq1 rfl hA2 (Nat.le_of_ble_eq_true rfl) (cS rfl rfl rfl)) ?_;rintro _ w4 ⟨hk1,hnew⟩;replace hM1:=bk hM1 hk1 hA2 (by decide);replace hX:=hX.step hk1 (fun b e=>by subst e;exact hbs2);replace hA2:=hnew.lit [.int .i64 ((cx:Nat)),.int .i64 ((rx:Nat)),.slice (some ⟨gh1,0,none⟩) (cx) (kh1)] rfl;clear hnew;refine RL.nil ?_;refine WP.ret ?_;refine ⟨.agg #[.int .i64 ((cx:Nat)),.int .i64 ((rx:Nat)),.slice (some ⟨gh1,0,none⟩) (cx) (kh1)],Am.one (aj [.int .i64 ((cx:Nat)),.int .i64 ((rx:Nat)),.slice (some ⟨gh1,0,none⟩) (cx) (kh1)] aV rfl (hA2.cells 0 _ rfl rfl)),_,rfl,hX,?_⟩;dsimp only;exact ⟨_,_,_,rfl,cY.low hM1 (hBw1)⟩
set_option maxRecDepth 10000 in
theorem nU (w:World) (i:Nat) (j:Nat):Calls Tryz.prog 82 #[.int .i64 (i:Nat),.int .i64 (j:Nat)] w (cc w fun v w'=>ak w' v (ct i j) 1):=by
 have hLIM:bj=562949953421312:=rfl;refine ai (N:=10) (rs:= #[.cell 4 49]) Tryz.func82 rfl rfl rfl (Nat.le_of_ble_eq_true rfl) ?_;have hX:aA w w:=aA.refl w;refine ab ?_;refine RL.x rfl rfl (cQ.alloc [.bool (false),.slice (none) (0) (0)] bH rfl) ?_;rintro _ w1 ⟨g1,rfl,hge1,hx1,hA1⟩;have hbs1:w.heap.size≤g1:=Nat.le_trans hX.size hge1;replace hX:=aA.trans hX hx1;refine RL.nil ?_;refine WP.seq ?_;refine ab ?_;refine RL.p rfl rfl (cj.move rfl) ?_;refine RL.p rfl rfl (cj.move rfl) ?_;refine RL.p rfl rfl (cj.eql rfl rfl) ?_;refine RL.nil ?_;refine ae (((i:Nat):Int)=((j:Nat):Int)) rfl (fun c7=> ?_) (fun c7=> ?_)
 ·
  refine ab ?_;refine RL.x rfl rfl (cQ.call pH (aL rfl) (wu (1) (1) _ (by decide) (by decide) (by decide))) ?_;rintro v1 w2 ⟨hx2,q1⟩;replace hA1:=aY.ext hA1 hx2;replace hX:=aA.trans hX hx2;obtain ⟨ca1,cb1,hq1,ho1,ho2⟩:=ak.cells q1;have qi1:ak w2 (.agg #[ca1,cb1]) 1 1:=hq1▸q1;refine RL.x rfl rfl (cQ.store [ca1,cb1] bf rfl hq1 rfl hA1 (Nat.le_of_ble_eq_true rfl) (bs ho1 ho2)) ?_;rintro _ w3 ⟨hk1,hnew⟩;replace qi1:=ah qi1 hk1 hA1 (by decide);replace hX:=hX.step hk1 (fun b e=>by subst e;exact hbs1);replace hA1:=hnew.lit [ca1,cb1] rfl;clear hnew;refine RL.nil ?_;refine WP.ret ?_;refine pl.ret ?_;refine ⟨.agg #[ca1,cb1],Am.one (aj [ca1,cb1] aq rfl (hA1.cells 0 _ rfl rfl)),_,rfl,hX,?_⟩;dsimp only;have he:i=j:=by omega
  exact ak.eq qi1 (by simp [ct,he]) (by simp [ct,he]) (by decide)
 ·
  refine WP.skip ?_;refine pl.norm ?_;refine ab ?_;refine RL.p rfl rfl (cj.build (vs:= []) [(0,1),(1,1)] lk bH (ms) rfl) ?_;refine RL.x rfl rfl (cQ.store [.bool (false),.slice (none) (0) (0)] bf rfl rfl rfl hA1 (Nat.le_of_ble_eq_true rfl) (bs rfl rfl)) ?_;rintro _ w4 ⟨hk2,hnew⟩;replace hX:=hX.step hk2 (fun b e=>by subst e;exact hbs1);replace hA1:=hnew.lit [.bool (false),.slice (none) (0) (0)] rfl;clear hnew;refine RL.nil ?_;refine WP.ret ?_;refine ⟨.agg #[.bool (false),.slice (none) (0) (0)],Am.one (aj [.bool (false),.slice (none) (0) (0)] aq rfl (hA1.cells 0 _ rfl rfl)),_,rfl,hX,?_⟩;dsimp only;have he:¬i=j:=by omega
  exact ak.eq ((ak.zero w).ext hX) (by simp [ct,he]) (by simp [ct,he]) (by decide)
set_option maxRecDepth 10000 in
theorem gI (w:World) (n:Nat) (hn:n≤65536):Calls Tryz.prog 39 #[.int .i64 (n:Nat)] w (cc w fun v w'=>cO w' v w.heap.size n n ct 1):=by
 have hLIM:bj=562949953421312:=rfl;refine ai (N:=6) (rs:= #[.cell 2 28]) Tryz.func39 rfl rfl rfl (Nat.le_of_ble_eq_true rfl) ?_;have hX:aA w w:=aA.refl w;refine ab ?_;refine RL.x rfl rfl (cQ.alloc [.int .i64 (0),.int .i64 (0),.slice (none) (0) (0)] cn rfl) ?_;rintro _ w1 ⟨g1,rfl,hge1,hx1,hA1⟩;have hbs1:w.heap.size≤g1:=Nat.le_trans hX.size hge1;replace hX:=aA.trans hX hx1;refine RL.nil ?_;refine ab ?_;refine RL.p rfl rfl (cj.move rfl) ?_;refine RL.p rfl rfl (cj.move rfl) ?_;have hBw1:w.heap.size≤w1.heap.size:=hX.size;refine RL.x rfl rfl (cQ.call pG (cH rfl rfl rfl) (jB _ n n _ ct 1 (by omega) (by omega) ⟨82,#[],#[],rfl,zj,fun w1 hw1 i j hi hj=>nU _ i j⟩ (by omega))) ?_;rintro v1 w2 ⟨hx2,q1⟩;replace hA1:=aY.ext hA1 hx2;replace hX:=aA.trans hX hx2;obtain ⟨gh1,kh1,ρ1,hq1,hM1⟩:=q1;have hd1:=cY.dlim hM1;have hd2:=cY.clim hM1;refine RL.x rfl rfl (cQ.store [.int .i64 ((n:Nat)),.int .i64 ((n:Nat)),.slice (some ⟨gh1,0,none⟩) (n) (kh1)] cR rfl hq1 rfl hA1 (Nat.le_of_ble_eq_true rfl) (cS rfl rfl rfl)) ?_;rintro _ w3 ⟨hk1,hnew⟩;replace hM1:=bk hM1 hk1 hA1 (by decide);replace hX:=hX.step hk1 (fun b e=>by subst e;exact hbs1);replace hA1:=hnew.lit [.int .i64 ((n:Nat)),.int .i64 ((n:Nat)),.slice (some ⟨gh1,0,none⟩) (n) (kh1)] rfl;clear hnew;refine RL.nil ?_;refine WP.ret ?_;refine ⟨.agg #[.int .i64 ((n:Nat)),.int .i64 ((n:Nat)),.slice (some ⟨gh1,0,none⟩) (n) (kh1)],Am.one (aj [.int .i64 ((n:Nat)),.int .i64 ((n:Nat)),.slice (some ⟨gh1,0,none⟩) (n) (kh1)] aV rfl (hA1.cells 0 _ rfl rfl)),_,rfl,hX,?_⟩;dsimp only;exact ⟨_,_,_,rfl,cY.low hM1 (hBw1)⟩
set_option maxRecDepth 10000 in
theorem tO (w:World) (i:Nat) (j:Nat) (k:Value) (zk:Int) (btk:Nat) (gx:Nat) (sx:Value) (rx cx:Nat) (Mx:Nat→Nat→Int) (btx:Nat) (hk:nc w k zk btk) (hAx:aY w gx 28 3 (bU [.int .i64 (rx:Nat),.int .i64 (cx:Nat),sx])) (hSx:ce w sx rx cx Mx btx) (hrx:rx≤65536) (hcx:cx≤65536) (hi:i<rx) (hj:j<cx) (hb:btk + btx≤bj):Calls Tryz.prog 109 #[.int .i64 (i:Nat),.int .i64 (j:Nat),k,.pointer (some ⟨gx,0,none⟩)] w (cc w fun v w'=>ak w' v (zk*Mx i j) (btk + btx)):=by
 have hLIM:bj=562949953421312:=rfl;refine ai (N:=17) (rs:= #[.cell 6 49]) Tryz.func109 rfl rfl rfl (Nat.le_of_ble_eq_true rfl) ?_;have hX:aA w w:=aA.refl w;refine ab ?_;refine RL.x rfl rfl (cQ.alloc [.bool (false),.slice (none) (0) (0)] bH rfl) ?_;rintro _ w1 ⟨g1,rfl,hge1,hx1,hA1⟩;have hbs1:w.heap.size≤g1:=Nat.le_trans hX.size hge1;replace hX:=aA.trans hX hx1;refine RL.nil ?_;refine aF am 10 [_,_,_,_,_,_,_,_,_,_] rfl rfl (fun e_ w_ AV AU=>⟨fun _=>ag (aO aq (AU 2 rfl rfl) (nc.ext (nc.ext hk hX) AV)),fun _=>aa (cj.fieldAddr aw ((AU 3 rfl rfl))),fun AT=>aa (cj.load aU ((AT 1 rfl)) ((aY.ext (aY.ext hAx hX) AV).at_ (i:=2) rfl rfl)),fun _=>aa (cj.move ((AU 0 rfl rfl))),fun AT=>ag (aJ (j:=i) aK (AT 2 rfl) (ce.ext (ce.ext hSx hX) AV) (AT 3 rfl) (by omega) (by omega)),fun AT=>ag (aI bn rfl (AT 4 rfl)),fun _=>aa (cj.move ((AU 1 rfl rfl))),fun AT=>ag (aM (j:=j) bE rfl (AT 5 rfl) (AT 6 rfl) (by omega) (by omega)),fun AT=>ag (aO aq rfl (AT 7 rfl)),fun AT=>cQ.call pF (aC rfl rfl) (qB _ _ _ _ _ _ _ ((btk) + (btx)) ((AT 0 rfl)) ((AT 8 rfl)) (by omega) (by omega)),trivial⟩) ?_;intro e1 w2 hx2 ho1 hf1;replace hA1:=aY.ext hA1 hx2;replace hX:=aA.trans hX hx2;have s6_e1:e1 6=_:=ho1 6 rfl rfl;have s16_e1:ak w2 (e1 16) ((zk:Int)*((Mx i) j:Int)) ((btk) + (btx)):=hf1 9 rfl;obtain ⟨ca1,cb1,hq1,ho2,ho3⟩:=ak.cells s16_e1;have qi1:ak w2 (.agg #[ca1,cb1]) ((zk:Int)*((Mx i) j:Int)) ((btk) + (btx)):=hq1▸s16_e1;refine RL.x rfl rfl (cQ.store [ca1,cb1] bf s6_e1 hq1 rfl hA1 (Nat.le_of_ble_eq_true rfl) (bs ho2 ho3)) ?_;rintro _ w3 ⟨hk1,hnew⟩;replace qi1:=ah qi1 hk1 hA1 (by decide);replace hX:=hX.step hk1 (fun b e=>by subst e;exact hbs1);replace hA1:=hnew.lit [ca1,cb1] rfl;clear hnew;refine RL.nil ?_;refine WP.ret ?_;refine ⟨.agg #[ca1,cb1],Am.one (aj [ca1,cb1] aq s6_e1 (hA1.cells 0 _ rfl rfl)),_,rfl,hX,?_⟩;dsimp only;exact qi1
set_option maxRecDepth 10000 in
theorem vJ (w:World) (x:Value) (rx cx:Nat) (Mx:Nat→Nat→Int) (btx:Nat) (k:Value) (zk:Int) (btk:Nat) (hx:bX w x rx cx Mx btx) (hk:ak w k zk btk) (hb:btk + btx≤bj):Calls Tryz.prog 79 #[x,k] w (cc w fun v w'=>cO w' v w.heap.size rx cx (fun i j=>zk*Mx i j) (btk + btx)):=by
 have hLIM:bj=562949953421312:=rfl;have hmatx:=hx;obtain ⟨sx,rfl,hrx,hcx,hSx⟩:=hx.form;refine ai (N:=11) (rs:= #[.cell 4 28]) Tryz.func79 rfl rfl rfl (Nat.le_of_ble_eq_true rfl) ?_;have hX:aA w w:=aA.refl w;refine ab ?_;refine RL.x rfl rfl (cQ.box [.int .i64 ((rx:Nat)),.int .i64 ((cx:Nat)),sx] rfl rfl) ?_;rintro _ w1 ⟨g1,rfl,hge1,hx1,hA1⟩;replace hX:=aA.trans hX hx1;obtain ⟨ca1,cb1,hq1,ho1,ho2⟩:=ak.cells (ak.ext hk hX);have qi1:ak w1 (.agg #[ca1,cb1]) zk btk:=hq1▸(ak.ext hk hX);refine RL.x rfl rfl (cQ.box [ca1,cb1] hq1 rfl) ?_;rintro _ w2 ⟨g2,rfl,hge2,hx2,hA2⟩;replace hA1:=aY.ext hA1 hx2;replace qi1:=ak.ext qi1 hx2;replace hX:=aA.trans hX hx2;refine RL.x rfl rfl (cQ.alloc [.int .i64 (0),.int .i64 (0),.slice (none) (0) (0)] cn rfl) ?_;rintro _ w3 ⟨g3,rfl,hge3,hx3,hA3⟩;have hbs3:w.heap.size≤g3:=Nat.le_trans hX.size hge3;replace hA1:=aY.ext hA1 hx3;replace qi1:=ak.ext qi1 hx3;replace hA2:=aY.ext hA2 hx3;replace hX:=aA.trans hX hx3;refine RL.nil ?_;refine ab ?_;refine RL.p rfl rfl (cj.fieldAddr aX rfl) ?_;refine RL.p rfl rfl (cj.load bD rfl (hA1.at_ (i:=0) rfl rfl)) ?_;refine RL.p rfl rfl (cj.fieldAddr bC rfl) ?_;refine RL.p rfl rfl (cj.load bD rfl (hA1.at_ (i:=1) rfl rfl)) ?_;refine RL.p rfl rfl (cj.makeFunc (lQ) (aC rfl rfl)) ?_;have hBw1:w.heap.size≤w3.heap.size:=hX.size;have hlt1:g2<w3.heap.size:=hA2.lt;refine RL.x rfl rfl (cQ.call pG (cH rfl rfl rfl) (jB _ rx cx _ (fun i j=>zk*Mx i j) (btk + btx) (by omega) (by omega) ⟨109,#[],#[.pointer (some ⟨g2,0,none⟩),.pointer (some ⟨g1,0,none⟩)],rfl,xO,fun w1 hw1 i j hi hj=>tO _ _ _ _ _ _ _ _ _ _ _ _ (nc.ext (tX hA2 qi1) hw1) (aY.ext hA1 hw1) (ce.ext (ce.ext hSx hX) hw1) (by omega) (by omega) (by omega) (by omega) (by omega)⟩ (by omega))) ?_;rintro v1 w4 ⟨hx4,q1⟩;replace hA3:=aY.ext hA3 hx4;replace hX:=aA.trans hX hx4;obtain ⟨gh1,kh1,ρ1,hq2,hM1⟩:=q1;have hd1:=cY.dlim hM1;have hd2:=cY.clim hM1;refine RL.x rfl rfl (cQ.store [.int .i64 ((rx:Nat)),.int .i64 ((cx:Nat)),.slice (some ⟨gh1,0,none⟩) (rx) (kh1)] cR rfl hq2 rfl hA3 (Nat.le_of_ble_eq_true rfl) (cS rfl rfl rfl)) ?_;rintro _ w5 ⟨hk1,hnew⟩;replace hM1:=bk hM1 hk1 hA3 (by decide);replace hX:=hX.step hk1 (fun b e=>by subst e;exact hbs3);replace hA3:=hnew.lit [.int .i64 ((rx:Nat)),.int .i64 ((cx:Nat)),.slice (some ⟨gh1,0,none⟩) (rx) (kh1)] rfl;clear hnew;refine RL.nil ?_;refine WP.ret ?_;refine ⟨.agg #[.int .i64 ((rx:Nat)),.int .i64 ((cx:Nat)),.slice (some ⟨gh1,0,none⟩) (rx) (kh1)],Am.one (aj [.int .i64 ((rx:Nat)),.int .i64 ((cx:Nat)),.slice (some ⟨gh1,0,none⟩) (rx) (kh1)] aV rfl (hA3.cells 0 _ rfl rfl)),_,rfl,hX,?_⟩;dsimp only;exact ⟨_,_,_,rfl,cY.low hM1 (hBw1)⟩
set_option maxRecDepth 10000 in
theorem uc (w:World) (x:Value) (zx:Int) (btx:Nat) (hx:ak w x zx btx):Calls Tryz.prog 93 #[x] w (cc w fun v w'=>v= .bool (decide (gU zx))):=by
 have hLIM:bj=562949953421312:=rfl;refine ai (N:=6) (rs:= #[.tmp 2]) Tryz.func93 rfl rfl rfl (Nat.le_of_ble_eq_true rfl) ?_;have hX:aA w w:=aA.refl w;refine ab ?_;obtain ⟨ca1,cb1,hq1,ho1,ho2⟩:=ak.cells (ak.ext hx hX);have qi1:ak w (.agg #[ca1,cb1]) zx btx:=hq1▸(ak.ext hx hX);refine RL.x rfl rfl (cQ.box [ca1,cb1] hq1 rfl) ?_;rintro _ w1 ⟨g1,rfl,hge1,hx1,hA1⟩;replace qi1:=ak.ext qi1 hx1;replace hX:=aA.trans hX hx1;refine RL.p rfl rfl (cj.assign rfl) ?_;refine RL.nil ?_;refine ab ?_;refine RL.p rfl rfl (af [ca1,cb1] aq rfl (hA1.cells 0 _ rfl rfl)) ?_;refine RL.x rfl rfl (cQ.call jj (aL rfl) (fO _ _ _ _ qi1)) ?_;rintro _ w2 ⟨hx2,rfl⟩;replace hX:=aA.trans hX hx2;refine RL.p rfl rfl (cj.neq rfl rfl) ?_;refine RL.p rfl rfl (cj.assign rfl) ?_;refine RL.nil ?_;refine WP.ret ?_;refine ⟨.bool (decide (((zx:Int).sign:Int)≠(0:Int))),Am.one (fw.tmp rfl),_,rfl,hX,?_⟩;dsimp only;rw [uB]
set_option maxRecDepth 10000 in
theorem vo (w:World) (x:Value) (nx:Nat) (zx:Nat→Int) (btx:Nat) (fv:Value) (p:Int→Prop) [DecidablePred p] (hx:bi w x nx zx btx) (hF:yL Tryz.prog w fv btx p):Calls Tryz.prog 92 #[x,fv] w (cc w fun v w'=>v= .int .i64 (cM p zx nx)):=by
 have hLIM:bj=562949953421312:=rfl;have hlimx:=hx.lim;refine ai (N:=19) (rs:= #[.tmp 4]) Tryz.func92 rfl rfl rfl (Nat.le_of_ble_eq_true rfl) ?_;have hX:aA w w:=aA.refl w;refine ab ?_;refine RL.p rfl rfl (cj.assign rfl) ?_;refine RL.nil ?_;refine WP.seq ?_;refine ab ?_;refine RL.p rfl rfl (cj.move rfl) ?_;refine RL.p rfl rfl (bW cA rfl (bi.ext hx hX)) ?_;refine RL.p rfl rfl (cj.move rfl) ?_;refine RL.nil ?_;refine WP.block ?_;refine WP.loop (fun mz ez uz=>∃i:Nat,(mz=nx - i)∧(ez 0=x)∧(ez 1=fv)∧(ez 7= .int .i64 ((nx:Nat)))∧(ez 8= .int .i64 ((i:Nat)))∧(i≤nx)∧(cM p zx i= -1)∧(aA w uz)) (nx - 0) ?_ ?_
 · exact ⟨0,rfl,rfl,rfl,rfl,rfl,(by omega),rfl,hX⟩
 rintro m1 e1 w1 ⟨i,hm1,s0_e1,s1_e1,s7_e1,s8_e1,hi,hnone,hX1⟩;refine ab ?_;refine RL.p rfl rfl (cj.lss s8_e1 s7_e1) ?_;refine RL.nil ?_;refine WP.seq ?_;refine ae (((i:Nat):Int)<((nx:Nat):Int)) rfl (fun c9=> ?_) (fun c9=> ?_)
 ·
  refine WP.skip ?_;refine pl.norm ?_;refine WP.seq ?_;refine WP.block ?_;refine ab ?_;refine RL.p rfl rfl (cj.move s8_e1) ?_;refine RL.p rfl rfl (cj.assign rfl) ?_;refine RL.nil ?_;refine ab ?_;refine RL.p rfl rfl (cj.move s1_e1) ?_;refine RL.p rfl rfl (cj.move s0_e1) ?_;refine RL.p rfl rfl (cj.move rfl) ?_;refine RL.x rfl rfl (aM (j:=i) cA rfl (bi.ext hx hX1) rfl (by omega) (by omega)) ?_;rintro v1 _ ⟨rfl,q1⟩;refine RL.x rfl rfl (aO aq rfl q1) ?_;rintro v2 _ ⟨rfl,q2⟩;refine RL.x rfl rfl (jq rfl (yL.ext hF hX1) rfl q2) ?_;rintro _ w2 ⟨hx1,rfl⟩;replace hX1:=aA.trans hX1 hx1;refine RL.nil ?_;refine ae (p (zx i)) rfl (fun c16=> ?_) (fun c16=> ?_)
  ·
   refine ab ?_;refine RL.p rfl rfl (cj.move rfl) ?_;refine RL.p rfl rfl (cj.assign rfl) ?_;refine RL.nil ?_;refine WP.ret ?_;refine iD.ret ?_;refine pl.ret ?_;refine pl.ret ?_;refine iD.ret ?_;refine pl.ret ?_;refine ⟨.int .i64 ((i:Nat)),Am.one (fw.tmp rfl),_,rfl,hX1,?_⟩;dsimp only;rw [dP hnone c16 (by omega)]
  ·
   refine WP.skip ?_;refine iD.norm ?_;refine pl.norm ?_;refine WP.region ?_;refine RL.p rfl rfl (cj.add (c:=((i + 1:Nat):Int)) s8_e1 rfl (bT (by omega))) ?_;refine RL.p rfl rfl (cj.move rfl) ?_;refine RL.nil ?_;refine pl.norm ⟨_,(by omega),i + 1,rfl,s0_e1,s1_e1,s7_e1,rfl,(by omega),(gf hnone c16),hX1⟩
 ·
  refine WP.exit ?_;refine pl.exit ?_;refine pl.exit ?_;refine iD.same ?_;refine pl.norm ?_;refine ab ?_;refine RL.p rfl rfl (cj.assign rfl) ?_;refine RL.nil ?_;refine WP.ret ?_;refine ⟨.int .i64 (-1),Am.one (fw.tmp rfl),_,rfl,hX1,?_⟩;dsimp only;rw [show nx=i by omega,hnone]
set_option maxRecDepth 10000 in
theorem jG (w:World) (x:Value) (nx:Nat) (zx:Nat→Int) (btx:Nat) (hx:bi w x nx zx btx):Calls Tryz.prog 56 #[x] w (cc w fun v w'=>v= .int .i64 (piv zx nx)):=by
 have hLIM:bj=562949953421312:=rfl;have hlimx:=hx.lim;refine ai (N:=5) (rs:= #[.tmp 2]) Tryz.func56 rfl rfl rfl (Nat.le_of_ble_eq_true rfl) ?_;have hX:aA w w:=aA.refl w;refine ab ?_;refine RL.p rfl rfl (cj.assign rfl) ?_;refine RL.nil ?_;refine ab ?_;refine RL.p rfl rfl (cj.move rfl) ?_;refine RL.x rfl rfl (cQ.call zb (aC rfl rfl) (vo _ _ _ _ _ _ gU (bi.ext hx hX) (⟨93,#[],#[],rfl,za,fun w1 hw1 x z hI=>uc _ _ _ _ hI⟩))) ?_;rintro _ w1 ⟨hx1,rfl⟩;replace hX:=aA.trans hX hx1;refine RL.p rfl rfl (cj.assign rfl) ?_;refine RL.nil ?_;refine WP.ret ?_;refine ⟨.int .i64 (cM gU zx nx),Am.one (fw.tmp rfl),_,rfl,hX,?_⟩
 rfl
set_option maxRecDepth 10000 in
theorem yg (w:World) (x:Value) (zx:Int) (btx:Nat) (y:Value) (zy:Int) (bty:Nat) (hx:ak w x zx btx) (hy:ak w y zy bty):Calls Tryz.prog 104 #[x,y] w (cc w fun v w'=>v= .bool (decide (zx=zy))):=by
 have hLIM:bj=562949953421312:=rfl;refine ai (N:=9) (rs:= #[.tmp 4]) Tryz.func104 rfl rfl rfl (Nat.le_of_ble_eq_true rfl) ?_;have hX:aA w w:=aA.refl w;refine ab ?_;obtain ⟨ca1,cb1,hq1,ho1,ho2⟩:=ak.cells (ak.ext hx hX);have qi1:ak w (.agg #[ca1,cb1]) zx btx:=hq1▸(ak.ext hx hX);refine RL.x rfl rfl (cQ.box [ca1,cb1] hq1 rfl) ?_;rintro _ w1 ⟨g1,rfl,hge1,hx1,hA1⟩;replace qi1:=ak.ext qi1 hx1;replace hX:=aA.trans hX hx1;obtain ⟨ca2,cb2,hq2,ho3,ho4⟩:=ak.cells (ak.ext hy hX);have qi2:ak w1 (.agg #[ca2,cb2]) zy bty:=hq2▸(ak.ext hy hX);refine RL.x rfl rfl (cQ.box [ca2,cb2] hq2 rfl) ?_;rintro _ w2 ⟨g2,rfl,hge2,hx2,hA2⟩;replace qi1:=ak.ext qi1 hx2;replace hA1:=aY.ext hA1 hx2;replace qi2:=ak.ext qi2 hx2;replace hX:=aA.trans hX hx2;refine RL.p rfl rfl (cj.assign rfl) ?_;refine RL.nil ?_;refine ab ?_;refine RL.p rfl rfl (af [ca1,cb1] aq rfl (hA1.cells 0 _ rfl rfl)) ?_;refine RL.p rfl rfl (af [ca2,cb2] aq rfl (hA2.cells 0 _ rfl rfl)) ?_;refine RL.x rfl rfl (cQ.call so (aC rfl rfl) (uH _ _ _ _ _ _ _ qi1 qi2)) ?_;rintro _ w3 ⟨hx3,rfl⟩;replace hX:=aA.trans hX hx3;refine RL.p rfl rfl (cj.eql rfl rfl) ?_;refine RL.p rfl rfl (cj.assign rfl) ?_;refine RL.nil ?_;refine WP.ret ?_;refine ⟨.bool (decide ((bV (zx) (zy):Int)=(0:Int))),Am.one (fw.tmp rfl),_,rfl,hX,?_⟩;dsimp only;rw [qx (kY zx zy)]
set_option maxRecDepth 10000 in
theorem vp (w:World) (x:Value) (nx:Nat) (zx:Nat→Int) (btx:Nat) (y:Value) (ny:Nat) (zy:Nat→Int) (bty:Nat) (fv:Value) (hx:bi w x nx zx btx) (hy:bi w y ny zy bty) (hF:wH Tryz.prog w fv btx bty):Calls Tryz.prog 103 #[x,y,fv] w (cc w fun v w'=>v= .bool (decide (ay nx ny zx zy))):=by
 have hLIM:bj=562949953421312:=rfl;have hlimx:=hx.lim;have hlimy:=hy.lim;refine ai (N:=32) (rs:= #[.tmp 6]) Tryz.func103 rfl rfl rfl (Nat.le_of_ble_eq_true rfl) ?_;have hX:aA w w:=aA.refl w;refine ab ?_;refine RL.p rfl rfl (cj.assign rfl) ?_;refine RL.nil ?_;refine WP.seq ?_;refine ab ?_;refine RL.p rfl rfl (cj.move rfl) ?_;refine RL.p rfl rfl (bW bE rfl (bi.ext hx hX)) ?_;refine RL.p rfl rfl (cj.move rfl) ?_;refine RL.p rfl rfl (bW bE rfl (bi.ext hy hX)) ?_;refine RL.p rfl rfl (cj.neq rfl rfl) ?_;refine RL.nil ?_;refine ae (((nx:Nat):Int)≠((ny:Nat):Int)) rfl (fun c14=> ?_) (fun c14=> ?_)
 ·
  refine ab ?_;refine RL.p rfl rfl (cj.assign rfl) ?_;refine RL.nil ?_;refine WP.ret ?_;refine pl.ret ?_;refine ⟨.bool (false),Am.one (fw.tmp rfl),_,rfl,hX,?_⟩;dsimp only;rw [nI (by omega)]
 ·
  refine WP.skip ?_;refine pl.norm ?_;refine WP.seq ?_;refine ab ?_;refine RL.p rfl rfl (cj.move rfl) ?_;refine RL.p rfl rfl (bW bE rfl (bi.ext hx hX)) ?_;refine RL.p rfl rfl (cj.move rfl) ?_;refine RL.nil ?_;refine WP.block ?_;refine WP.loop (fun mz ez uz=>∃i:Nat,(mz=nx - i)∧(ez 1=y)∧(ez 2=fv)∧(ez 15=x)∧(ez 16= .int .i64 ((nx:Nat)))∧(ez 17= .int .i64 ((i:Nat)))∧(i≤nx)∧(∀j,j<i→zx j=zy j)∧(aA w uz)) (nx - 0) ?_ ?_
  · exact ⟨0,rfl,rfl,rfl,rfl,rfl,rfl,(by omega),(fun j hj=>by omega),hX⟩
  rintro m1 e1 w1 ⟨i,hm1,s1_e1,s2_e1,s15_e1,s16_e1,s17_e1,hi,heq,hX1⟩;refine ab ?_;refine RL.p rfl rfl (cj.lss s17_e1 s16_e1) ?_;refine RL.nil ?_;refine WP.seq ?_;refine ae (((i:Nat):Int)<((nx:Nat):Int)) rfl (fun c18=> ?_) (fun c18=> ?_)
  ·
   refine WP.skip ?_;refine pl.norm ?_;refine WP.seq ?_;refine WP.block ?_;refine ab ?_;refine RL.p rfl rfl (cj.move s17_e1) ?_;refine RL.x rfl rfl (aM (j:=i) bE s15_e1 (bi.ext hx hX1) s17_e1 (by omega) (by omega)) ?_;rintro v1 _ ⟨rfl,q1⟩;refine RL.x rfl rfl (aO aq rfl q1) ?_;rintro v2 _ ⟨rfl,q2⟩;refine RL.x rfl rfl (cQ.alloc [.bool (false),.slice (none) (0) (0)] bH rfl) ?_;rintro _ w2 ⟨g1,rfl,hge1,hx1,hA1⟩;have hbs1:w.heap.size≤g1:=Nat.le_trans hX1.size hge1;replace q2:=ak.ext q2 hx1;replace hX1:=aA.trans hX1 hx1;refine RL.p rfl rfl (cj.assign rfl) ?_;obtain ⟨ca1,cb1,hq1,ho1,ho2⟩:=ak.cells q2;have qi1:ak w2 (.agg #[ca1,cb1]) (zx i) btx:=hq1▸q2;refine RL.x rfl rfl (cQ.store [ca1,cb1] bf rfl hq1 rfl hA1 (Nat.le_of_ble_eq_true rfl) (bs ho1 ho2)) ?_;rintro _ w3 ⟨hk1,hnew⟩;replace qi1:=ah qi1 hk1 hA1 (by decide);replace hX1:=hX1.step hk1 (fun b e=>by subst e;exact hbs1);replace hA1:=hnew.lit [ca1,cb1] rfl;clear hnew;refine RL.nil ?_;refine ab ?_;refine RL.p rfl rfl (cj.move s1_e1) ?_;refine RL.p rfl rfl (cj.move rfl) ?_;refine RL.x rfl rfl (aM (j:=i) bE rfl (bi.ext hy hX1) rfl (by omega) (by omega)) ?_;rintro v3 _ ⟨rfl,q3⟩;refine RL.x rfl rfl (aO aq rfl q3) ?_;rintro v4 _ ⟨rfl,q4⟩;refine RL.x rfl rfl (cQ.alloc [.bool (false),.slice (none) (0) (0)] bH rfl) ?_;rintro _ w4 ⟨g2,rfl,hge2,hx2,hA2⟩;have ne1:g1≠g2:=Nat.ne_of_lt (Nat.lt_of_lt_of_le hA1.lt hge2);have hbs2:w.heap.size≤g2:=Nat.le_trans hX1.size hge2;replace hA1:=aY.ext hA1 hx2;replace qi1:=ak.ext qi1 hx2;replace q4:=ak.ext q4 hx2;replace hX1:=aA.trans hX1 hx2;obtain ⟨ca2,cb2,hq2,ho3,ho4⟩:=ak.cells q4;have qi2:ak w4 (.agg #[ca2,cb2]) (zy i) bty:=hq2▸q4;refine RL.x rfl rfl (cQ.store [ca2,cb2] bf rfl hq2 rfl hA2 (Nat.le_of_ble_eq_true rfl) (bs ho3 ho4)) ?_;rintro _ w5 ⟨hk2,hnew⟩;replace hA1:=hA1.keep hk2 ne1;replace qi1:=ah qi1 hk2 hA2 (by decide);replace qi2:=ah qi2 hk2 hA2 (by decide);replace hX1:=hX1.step hk2 (fun b e=>by subst e;exact hbs2);replace hA2:=hnew.lit [ca2,cb2] rfl;clear hnew;refine RL.nil ?_;refine ab ?_;refine RL.p rfl rfl (cj.move s2_e1) ?_;refine RL.p rfl rfl (af [ca1,cb1] aq rfl (hA1.cells 0 _ rfl rfl)) ?_;refine RL.p rfl rfl (af [ca2,cb2] aq rfl (hA2.cells 0 _ rfl rfl)) ?_;refine RL.x rfl rfl (mX rfl (wH.ext hF hX1) rfl rfl qi1 qi2) ?_;rintro _ w6 ⟨hx3,rfl⟩;replace hX1:=aA.trans hX1 hx3;refine RL.p rfl rfl (cj.not (p:=zx i=zy i) rfl) ?_;refine RL.nil ?_;refine ae (¬(zx i=zy i)) rfl (fun c30=> ?_) (fun c30=> ?_)
   ·
    refine ab ?_;refine RL.p rfl rfl (cj.assign rfl) ?_;refine RL.nil ?_;refine WP.ret ?_;refine iD.ret ?_;refine pl.ret ?_;refine pl.ret ?_;refine iD.ret ?_;refine pl.ret ?_;refine ⟨.bool (false),Am.one (fw.tmp rfl),_,rfl,hX1,?_⟩;dsimp only;rw [nJ (i:=i) (by omega) (by simpa using c30)]
   ·
    refine WP.skip ?_;refine iD.norm ?_;refine pl.norm ?_;refine WP.region ?_;refine RL.p rfl rfl (cj.add (c:=((i + 1:Nat):Int)) s17_e1 rfl (bT (by omega))) ?_;refine RL.p rfl rfl (cj.move rfl) ?_;refine RL.nil ?_;refine pl.norm ⟨_,(by omega),i + 1,rfl,s1_e1,s2_e1,s15_e1,s16_e1,rfl,(by omega),(ef heq (by simpa using c30)),hX1⟩
  ·
   refine WP.exit ?_;refine pl.exit ?_;refine pl.exit ?_;refine iD.same ?_;refine pl.norm ?_;refine ab ?_;refine RL.p rfl rfl (cj.assign rfl) ?_;refine RL.nil ?_;refine WP.ret ?_;refine ⟨.bool (true),Am.one (fw.tmp rfl),_,rfl,hX1,?_⟩;dsimp only;rw [lw (by omega) (fun j hj=>heq j (by omega))]
set_option maxRecDepth 10000 in
theorem tQ (w:World) (x:Value) (nx:Nat) (zx:Nat→Int) (btx:Nat) (y:Value) (ny:Nat) (zy:Nat→Int) (bty:Nat) (hx:bi w x nx zx btx) (hy:bi w y ny zy bty):Calls Tryz.prog 102 #[x,y] w (cc w fun v w'=>v= .bool (decide (ay nx ny zx zy))):=by
 have hLIM:bj=562949953421312:=rfl;have hlimx:=hx.lim;have hlimy:=hy.lim;refine ai (N:=8) (rs:= #[.tmp 4]) Tryz.func102 rfl rfl rfl (Nat.le_of_ble_eq_true rfl) ?_;have hX:aA w w:=aA.refl w;refine ab ?_;refine RL.p rfl rfl (cj.assign rfl) ?_;refine RL.nil ?_;refine ab ?_;refine RL.p rfl rfl (cj.move rfl) ?_;refine RL.p rfl rfl (cj.move rfl) ?_;refine RL.x rfl rfl (cQ.call xR (cH rfl rfl rfl) (vp _ _ _ _ _ _ _ _ _ _ (bi.ext hx hX) (bi.ext hy hX) ⟨104,#[],#[],rfl,xQ,fun w1 hw1 x z y u hI hJ=>yg _ _ _ _ _ _ _ hI hJ⟩)) ?_;rintro _ w1 ⟨hx1,rfl⟩;replace hX:=aA.trans hX hx1;refine RL.p rfl rfl (cj.assign rfl) ?_;refine RL.nil ?_;refine WP.ret ?_;refine ⟨.bool (decide (ay nx ny zx zy)),Am.one (fw.tmp rfl),_,rfl,hX,?_⟩
 rfl
set_option maxRecDepth 10000 in
theorem sX (w:World) (x:Value) (nx cx:Nat) (Mx:Nat→Nat→Int) (btx:Nat) (y:Value) (ny cy:Nat) (My:Nat→Nat→Int) (bty:Nat) (fv:Value) (hx:ce w x nx cx Mx btx) (hy:ce w y ny cy My bty) (hF:wG Tryz.prog w fv btx bty):Calls Tryz.prog 101 #[x,y,fv] w (cc w fun v w'=>v= .bool (decide (fW nx ny cx cy Mx My))):=by
 have hLIM:bj=562949953421312:=rfl;have hlimx:=hx.lim;have hlimy:=hy.lim;refine ai (N:=32) (rs:= #[.tmp 6]) Tryz.func101 rfl rfl rfl (Nat.le_of_ble_eq_true rfl) ?_;have hX:aA w w:=aA.refl w;refine ab ?_;refine RL.p rfl rfl (cj.assign rfl) ?_;refine RL.nil ?_;refine WP.seq ?_;refine ab ?_;refine RL.p rfl rfl (cj.move rfl) ?_;refine RL.p rfl rfl (cd aK rfl (ce.ext hx hX)) ?_;refine RL.p rfl rfl (cj.move rfl) ?_;refine RL.p rfl rfl (cd aK rfl (ce.ext hy hX)) ?_;refine RL.p rfl rfl (cj.neq rfl rfl) ?_;refine RL.nil ?_;refine ae (((nx:Nat):Int)≠((ny:Nat):Int)) rfl (fun c14=> ?_) (fun c14=> ?_)
 ·
  refine ab ?_;refine RL.p rfl rfl (cj.assign rfl) ?_;refine RL.nil ?_;refine WP.ret ?_;refine pl.ret ?_;refine ⟨.bool (false),Am.one (fw.tmp rfl),_,rfl,hX,?_⟩;dsimp only;rw [ua (by omega)]
 ·
  refine WP.skip ?_;refine pl.norm ?_;refine WP.seq ?_;refine ab ?_;refine RL.p rfl rfl (cj.move rfl) ?_;refine RL.p rfl rfl (cd aK rfl (ce.ext hx hX)) ?_;refine RL.p rfl rfl (cj.move rfl) ?_;refine RL.nil ?_;refine WP.block ?_;refine WP.loop (fun mz ez uz=>∃i:Nat,(mz=nx - i)∧(ez 1=y)∧(ez 2=fv)∧(ez 15=x)∧(ez 16= .int .i64 ((nx:Nat)))∧(ez 17= .int .i64 ((i:Nat)))∧(i≤nx)∧(∀j,j<i→ay cx cy (Mx j) (My j))∧(aA w uz)) (nx - 0) ?_ ?_
  · exact ⟨0,rfl,rfl,rfl,rfl,rfl,rfl,(by omega),(fun j hj=>by omega),hX⟩
  rintro m1 e1 w1 ⟨i,hm1,s1_e1,s2_e1,s15_e1,s16_e1,s17_e1,hi,heq,hX1⟩;refine ab ?_;refine RL.p rfl rfl (cj.lss s17_e1 s16_e1) ?_;refine RL.nil ?_;refine WP.seq ?_;refine ae (((i:Nat):Int)<((nx:Nat):Int)) rfl (fun c18=> ?_) (fun c18=> ?_)
  ·
   refine WP.skip ?_;refine pl.norm ?_;refine WP.seq ?_;refine WP.block ?_;refine ab ?_;refine RL.p rfl rfl (cj.move s17_e1) ?_;refine RL.x rfl rfl (aJ (j:=i) aK s15_e1 (ce.ext hx hX1) s17_e1 (by omega) (by omega)) ?_;rintro v1 _ ⟨rfl,q1⟩;refine RL.x rfl rfl (aI bn rfl q1) ?_;rintro v2 _ ⟨rfl,q2⟩;refine RL.p rfl rfl (cj.assign rfl) ?_;refine RL.p rfl rfl (cj.assign rfl) ?_;refine RL.nil ?_;refine ab ?_;refine RL.p rfl rfl (cj.move s1_e1) ?_;refine RL.p rfl rfl (cj.move rfl) ?_;refine RL.x rfl rfl (aJ (j:=i) aK rfl (ce.ext hy hX1) rfl (by omega) (by omega)) ?_;rintro v3 _ ⟨rfl,q3⟩;refine RL.x rfl rfl (aI bn rfl q3) ?_;rintro v4 _ ⟨rfl,q4⟩;refine RL.p rfl rfl (cj.assign rfl) ?_;refine RL.nil ?_;refine ab ?_;refine RL.p rfl rfl (cj.move s2_e1) ?_;refine RL.p rfl rfl (cj.move rfl) ?_;refine RL.p rfl rfl (cj.move rfl) ?_;refine RL.x rfl rfl (mW rfl (wG.ext hF hX1) rfl rfl q2 q4) ?_;rintro _ w2 ⟨hx1,rfl⟩;replace hX1:=aA.trans hX1 hx1;refine RL.p rfl rfl (cj.not (p:=ay cx cy (Mx i) (My i)) rfl) ?_;refine RL.nil ?_;refine ae (¬(ay cx cy (Mx i) (My i))) rfl (fun c30=> ?_) (fun c30=> ?_)
   ·
    refine ab ?_;refine RL.p rfl rfl (cj.assign rfl) ?_;refine RL.nil ?_;refine WP.ret ?_;refine iD.ret ?_;refine pl.ret ?_;refine pl.ret ?_;refine iD.ret ?_;refine pl.ret ?_;refine ⟨.bool (false),Am.one (fw.tmp rfl),_,rfl,hX1,?_⟩;dsimp only;rw [ub (i:=i) (by omega) (by simpa using c30)]
   ·
    refine WP.skip ?_;refine iD.norm ?_;refine pl.norm ?_;refine WP.region ?_;refine RL.p rfl rfl (cj.add (c:=((i + 1:Nat):Int)) s17_e1 rfl (bT (by omega))) ?_;refine RL.p rfl rfl (cj.move rfl) ?_;refine RL.nil ?_;refine pl.norm ⟨_,(by omega),i + 1,rfl,s1_e1,s2_e1,s15_e1,s16_e1,rfl,(by omega),(ef heq (by simpa using c30)),hX1⟩
  ·
   refine WP.exit ?_;refine pl.exit ?_;refine pl.exit ?_;refine iD.same ?_;refine pl.norm ?_;refine ab ?_;refine RL.p rfl rfl (cj.assign rfl) ?_;refine RL.nil ?_;refine WP.ret ?_;refine ⟨.bool (true),Am.one (fw.tmp rfl),_,rfl,hX1,?_⟩;dsimp only;rw [rN (by omega) (fun j hj=>heq j (by omega))]
set_option maxRecDepth 10000 in
theorem tM (w:World) (x:Value) (rx cx:Nat) (Mx:Nat→Nat→Int) (btx:Nat) (hx:bX w x rx cx Mx btx):Calls Tryz.prog 100 #[x] w (cc w fun v w'=>v= .agg #[.int .i64 (rx:Nat),.int .i64 (cx:Nat)]):=by
 have hLIM:bj=562949953421312:=rfl;have hmatx:=hx;obtain ⟨sx,rfl,hrx,hcx,hSx⟩:=hx.form;refine ai (N:=8) (rs:= #[.cell 2 121]) Tryz.func100 rfl rfl rfl (Nat.le_of_ble_eq_true rfl) ?_;have hX:aA w w:=aA.refl w;refine ab ?_;refine RL.x rfl rfl (cQ.box [.int .i64 ((rx:Nat)),.int .i64 ((cx:Nat)),sx] rfl rfl) ?_;rintro _ w1 ⟨g1,rfl,hge1,hx1,hA1⟩;replace hX:=aA.trans hX hx1;refine RL.x rfl rfl (cQ.alloc [.int .i64 (0),.int .i64 (0)] sj rfl) ?_;rintro _ w2 ⟨g2,rfl,hge2,hx2,hA2⟩;have hbs2:w.heap.size≤g2:=Nat.le_trans hX.size hge2;replace hA1:=aY.ext hA1 hx2;replace hX:=aA.trans hX hx2;refine RL.nil ?_;refine ab ?_;refine RL.p rfl rfl (cj.fieldAddr aX rfl) ?_;refine RL.p rfl rfl (cj.load bD rfl (hA1.at_ (i:=0) rfl rfl)) ?_;refine RL.p rfl rfl (cj.fieldAddr bC rfl) ?_;refine RL.p rfl rfl (cj.load bD rfl (hA1.at_ (i:=1) rfl rfl)) ?_;refine RL.p rfl rfl (nb (vs:= [(0,.int .i64 ((rx:Nat))),(1,.int .i64 ((cx:Nat)))]) xu yN sj (eQ rfl rfl) rfl) ?_;refine RL.x rfl rfl (cQ.store [.int .i64 ((rx:Nat)),.int .i64 ((cx:Nat))] xq rfl rfl rfl hA2 (Nat.le_of_ble_eq_true rfl) (bs rfl rfl)) ?_;rintro _ w3 ⟨hk1,hnew⟩;replace hX:=hX.step hk1 (fun b e=>by subst e;exact hbs2);replace hA2:=hnew.lit [.int .i64 ((rx:Nat)),.int .i64 ((cx:Nat))] rfl;clear hnew;refine RL.nil ?_;refine WP.ret ?_;refine ⟨.agg #[.int .i64 ((rx:Nat)),.int .i64 ((cx:Nat))],Am.one (aj [.int .i64 ((rx:Nat)),.int .i64 ((cx:Nat))] xV rfl (hA2.cells 0 _ rfl rfl)),_,rfl,hX,?_⟩
 rfl
set_option maxRecDepth 10000 in
theorem qc (w:World) (x:Value) (rx cx:Nat) (Mx:Nat→Nat→Int) (btx:Nat) (y:Value) (ry cy:Nat) (My:Nat→Nat→Int) (bty:Nat) (hx:bX w x rx cx Mx btx) (hy:bX w y ry cy My bty):Calls Tryz.prog 62 #[x,y] w (cc w fun v w'=>v= .bool (decide (ao rx cx ry cy Mx My))):=by
 have hLIM:bj=562949953421312:=rfl;have hmatx:=hx;obtain ⟨sx,rfl,hrx,hcx,hSx⟩:=hx.form;have hmaty:=hy;obtain ⟨sy,rfl,hry,hcy,hSy⟩:=hy.form;refine ai (N:=17) (rs:= #[.tmp 4]) Tryz.func62 rfl rfl rfl (Nat.le_of_ble_eq_true rfl) ?_;have hX:aA w w:=aA.refl w;refine ab ?_;refine RL.x rfl rfl (cQ.box [.int .i64 ((rx:Nat)),.int .i64 ((cx:Nat)),sx] rfl rfl) ?_;rintro _ w1 ⟨g1,rfl,hge1,hx1,hA1⟩;replace hX:=aA.trans hX hx1;refine RL.x rfl rfl (cQ.box [.int .i64 ((ry:Nat)),.int .i64 ((cy:Nat)),sy] rfl rfl) ?_;rintro _ w2 ⟨g2,rfl,hge2,hx2,hA2⟩;replace hA1:=aY.ext hA1 hx2;replace hX:=aA.trans hX hx2;refine RL.p rfl rfl (cj.assign rfl) ?_;refine RL.nil ?_;refine aF am 12 [_,_,_,_,_,fun v AW=>v= .bool (decide (((rx:Nat):Int)=((ry:Nat):Int)∧((cx:Nat):Int)=((cy:Nat):Int))),_,_,_,_,fun v AW=>(((rx:Nat):Int)=((ry:Nat):Int)∧((cx:Nat):Int)=((cy:Nat):Int))→(v= .bool (decide (fW rx ry cx cy Mx My))),_] rfl rfl (fun e_ w_ AV AU=>⟨fun _=>aa (af [.int .i64 ((rx:Nat)),.int .i64 ((cx:Nat)),sx] aV ((AU 2 rfl rfl)) ((aY.ext hA1 AV).cells 0 _ rfl rfl)),fun AT=>cQ.call sJ (aL ((AT 0 rfl))) (tM _ _ _ _ _ _ (bX.mk (ce.ext (ce.ext hSx hX) AV) (by omega) (by omega))),fun _=>aa (af [.int .i64 ((ry:Nat)),.int .i64 ((cy:Nat)),sy] aV ((AU 3 rfl rfl)) ((aY.ext hA2 AV).cells 0 _ rfl rfl)),fun AT=>cQ.call sJ (aL ((AT 2 rfl))) (tM _ _ _ _ _ _ (bX.mk (ce.ext (ce.ext hSy hX) AV) (by omega) (by omega))),fun AT=>aa (oz xx vi xv (AT 1 rfl) (AT 3 rfl)),fun AT=>aa (cj.move ((AT 4 rfl))),fun AT=>gT (AT 5 rfl) fun hg=>aa (cj.fieldAddr aw ((AU 2 rfl rfl))),fun AT=>gT (AT 5 rfl) fun hg=>aa (cj.load aU ((AT 6 rfl hg)) ((aY.ext hA1 AV).at_ (i:=2) rfl rfl)),fun AT=>gT (AT 5 rfl) fun hg=>aa (cj.fieldAddr aw ((AU 3 rfl rfl))),fun AT=>gT (AT 5 rfl) fun hg=>aa (cj.load aU ((AT 8 rfl hg)) ((aY.ext hA2 AV).at_ (i:=2) rfl rfl)),fun AT=>gT (AT 5 rfl) fun hg=>cQ.call xT (cH ((AT 7 rfl hg)) ((AT 9 rfl hg)) rfl) (sX _ _ _ _ _ _ _ _ _ _ _ _ (ce.ext (ce.ext hSx hX) AV) (ce.ext (ce.ext hSy hX) AV) ⟨102,#[],#[],rfl,xS,fun w1 hw1 x n z y m u hI hJ=>tQ _ _ _ _ _ _ _ _ _ hI hJ⟩),fun AT=>aa (au (p:=((rx:Nat):Int)=((ry:Nat):Int)∧((cx:Nat):Int)=((cy:Nat):Int)) (q:=fW rx ry cx cy Mx My) (AT 5 rfl) (fun hq=>(AT 10 rfl hq))),trivial⟩) ?_;intro e1 w3 hx3 ho1 hf1;replace hX:=aA.trans hX hx3;have s16_e1:e1 16=_:=hf1 11 rfl;refine RL.p rfl rfl (cj.assign s16_e1) ?_;refine RL.nil ?_;refine WP.ret ?_;refine ⟨.bool (decide ((((rx:Nat):Int)=((ry:Nat):Int)∧((cx:Nat):Int)=((cy:Nat):Int))∧(fW rx ry cx cy Mx My))),Am.one (fw.tmp rfl),_,rfl,hX,?_⟩;dsimp only;exact congrArg _ (qx rI)
end Go.TL
namespace Go.TL
open Go.RowKit
set_option linter.unusedVariables false
def yC (w:World) (b:Nat):Prop:=(∃m f,aY w b 49 m f)∨∃m f,aY w b 41 m f
def eG (B:Nat) (w:World) (b:Nat):Prop:=B≤b∧yC w b
def gC (ρ:Nat→Nat) (i j:Nat):Nat→Nat:=fun a=>if a=i then ρ j else if a=j then ρ i else ρ a
def dw (M:Nat→Nat→Int) (i j:Nat) (k:Int):Nat→Nat→Int:=fun a c=>if a=i then M i c + k*M j c else M a c
def eb (V:Nat→Nat→Int) (i j:Nat) (k:Int):Nat→Nat→Int:=fun a c=>if c=j then V a j - k*V a i else V a c
def cE (M:Nat→Nat→Int) (i j:Nat):Nat→Nat→Int:=fun a=>if a=i then M j else if a=j then M i else M a
def dk (V:Nat→Nat→Int) (i j:Nat):Nat→Nat→Int:=fun a c=>if c=i then V a j else if c=j then V a i else V a c
def eA (M:Nat→Nat→Int) (i:Nat):Nat→Nat→Int:=fun a c=>if a=i then -(M i c) else M a c
def fD (V:Nat→Nat→Int) (i:Nat):Nat→Nat→Int:=fun a c=>if c=i then -(V a i) else V a c
def fp (V V':Nat→Nat→Int) (n:Nat):Nat→Nat→Int:=fun a c=>if a<n then V' a c else V a c
theorem iV (V V':Nat→Nat→Int):fp V V' 0=V:=by funext a c;simp [fp]
theorem kG (V V':Nat→Nat→Int) {n a:Nat} (c:Nat) (h:a<n):fp V V' n a c=V' a c:=by simp [fp,h]
theorem ff (V V':Nat→Nat→Int) (n c:Nat):fp V V' n n c=V n c:=by simp [fp]
theorem lL {V V':Nat→Nat→Int} {n j:Nat} {q:Int} (hq:q=V' n j) (h:∀c,c≠j→V' n c=V n c):ee (fp V V' n) n j q=fp V V' (n + 1):=by
  funext a c
  simp only [ee,fp]
  by_cases e:a=n
  · subst e
    rw [if_pos (Nat.lt_succ_self a),if_neg (Nat.lt_irrefl a)]
    by_cases e2:c=j
    · subst e2;rw [if_pos ⟨rfl,rfl⟩,hq]
    · rw [if_neg (fun h=>e2 h.2),h c e2]
  · rw [if_neg (fun h=>e h.1)]
    by_cases e3:a<n
    · rw [if_pos e3,if_pos (by omega)]
    · rw [if_neg e3,if_neg (by omega)]
theorem ph {V V':Nat→Nat→Int} {n i j:Nat} {p q:Int} (hp:i≠j→p=V' n i) (hq:q=V' n j) (h:∀c,c≠i→c≠j→V' n c=V n c):ee (ee (fp V V' n) n i p) n j q=fp V V' (n + 1):=by
  funext a c
  simp only [ee,fp]
  by_cases e:a=n
  · subst e
    rw [if_pos (Nat.lt_succ_self a),if_neg (Nat.lt_irrefl a)]
    by_cases e2:c=j
    · subst e2;rw [if_pos ⟨rfl,rfl⟩,hq]
    · rw [if_neg (fun h=>e2 h.2)]
      by_cases e3:c=i
      · subst e3;rw [if_pos ⟨rfl,rfl⟩,hp e2]
      · rw [if_neg (fun h=>e3 h.2),h c e3 e2]
  · rw [if_neg (fun h=>e h.1),if_neg (fun h=>e h.1)]
    by_cases e3:a<n
    · rw [if_pos e3,if_pos (by omega)]
    · rw [if_neg e3,if_neg (by omega)]
theorem rV {x:Value} {b:Bool} (h:x= .bool b):x= .bool (decide (b=true)):=by subst h;cases b<;>rfl
theorem mi {ρ σ:Nat→Nat} {r i j:Nat} (h:∀a b,a<r→b<r→ρ a≠σ b) (hi:i<r) (hj:j<r):∀a b,a<r→b<r→gC ρ i j a≠σ b:=fun a b ha hb=>by
  unfold gC;split
  · exact h _ _ hj hb
  · split
    · exact h _ _ hi hb
    · exact h _ _ ha hb
theorem vl {ρ σ:Nat→Nat} {r i j:Nat} (h:∀a b,a<r→b<r→ρ a≠σ b) (hi:i<r) (hj:j<r):∀a b,a<r→b<r→ρ a≠gC σ i j b:=fun a b ha hb=>by
  unfold gC;split
  · exact h _ _ ha hj
  · split
    · exact h _ _ ha hi
    · exact h _ _ ha hb
theorem lZ {ρ σ:Nat→Nat} {r i g:Nat} (h:∀a b,a<r→b<r→ρ a≠σ b) (hg:∀b,b<r→σ b≠g):∀a b,a<r→b<r→ci ρ i g a≠σ b:=fun a b ha hb=>by
  unfold ci;split
  · exact Ne.symm (hg b hb)
  · exact h _ _ ha hb
theorem vf {ρ σ:Nat→Nat} {r i g:Nat} (h:∀a b,a<r→b<r→ρ a≠σ b) (hg:∀a,a<r→ρ a≠g):∀a b,a<r→b<r→ρ a≠ci σ i g b:=fun a b ha hb=>by
  unfold ci;split
  · exact hg a ha
  · exact h _ _ ha hb
theorem nl {ρ:Nat→Nat} {r i g gn:Nat} (h:∀ii,ii<r→ρ ii≠g) (hg:gn≠g):∀ii,ii<r→ci ρ i gn ii≠g:=fun ii hii=>by
  unfold ci;split
  · exact hg
  · exact h ii hii
theorem jX (M:Nat→Nat→Int) (i j:Nat) (k:Int):setRow M i (fun c=>M i c + k*M j c)=dw M i j k:=by
  funext a c;unfold setRow dw;split
  · rfl
  · rfl
theorem ib (M:Nat→Nat→Int) (i j:Nat) {k:Int} (hk:k=0):dw M i j k=M:=by
  funext a c;subst hk;unfold dw;split
  · subst_vars;simp
  · rfl
theorem Aj (V:Nat→Nat→Int) (i j:Nat) {k:Int} (hk:k=0):eb V i j k=V:=by
  funext a c;subst hk;unfold eb;split
  · subst_vars;simp
  · rfl
def kJ (zx zy:Nat→Int) (k:Int) (i:Nat):Nat→Int:=fun j=>if j<i then zx j + k*zy j else zx j
theorem uN (zx zy:Nat→Int) (k:Int) (i:Nat):jP (kJ zx zy k i) i (zx i + k*zy i)=kJ zx zy k (i + 1):=by
  funext j
  unfold jP kJ
  by_cases e:j=i
  · subst e;rw [if_pos rfl,if_pos (by omega)]
  · rw [if_neg e]
    by_cases h:j<i
    · rw [if_pos h,if_pos (by omega)]
    · rw [if_neg h,if_neg (by omega)]
theorem uM {zx zy ζ:Nat→Int} {k:Int} {i n:Nat} (hal:∀j,i≤j→j<n→ζ j=zy j) (hi:i<n):(kJ zx zy k i) i + k*ζ i=zx i + k*zy i:=by
  rw [hal i (Nat.le_refl _) hi];unfold kJ;rw [if_neg (by omega)]
theorem yA {zx zy ζ ζ2:Nat→Int} {k q:Int} {i n gx gy:Nat} (hal:∀j,i≤j→j<n→ζ j=zy j) (h:(gx=gy∧ζ2=jP (kJ zx zy k i) i q)∨(gx≠gy∧ζ2=ζ)) (hxy:gx=gy→∀j,j<n→zx j=zy j):
    ∀j,i + 1≤j→j<n→ζ2 j=zy j:=fun j h1 h2=>by
  rcases h with ⟨h3,h4⟩ | ⟨_,h4⟩
  · subst h4;unfold jP kJ;rw [if_neg (by omega),if_neg (by omega)];exact hxy h3 j h2
  · subst h4;exact hal j (by omega) h2
def bp (x:Nat→Int) (top:Nat):Nat→Int×Bool
  | 0=>(-1,false)
  | n + 1=>if x (top + n)=0 then bp x top n else
      (if (bp x top n).1<0∨(x (top + n)).natAbs<(x (bp x top n).1.toNat).natAbs then ((top + n:Nat):Int) else (bp x top n).1,decide (0≤(bp x top n).1))
theorem jC (x:Nat→Int) (top:Nat):∀n, -1≤(bp x top n).1∧(bp x top n).1<((top + n:Nat):Int)∧(0≤(bp x top n).1→(top:Int)≤(bp x top n).1)
  | 0=>by simp only [bp];omega
  | n + 1=>by
    have:=jC x top n;simp only [bp]
    split
    · omega
    · split<;>simp only<;>omega
def dL (w:World) (v:Value) (B n:Nat) (z:Nat→Int) (b:Nat):Prop:=∃g,fg w v g n∧B≤g∧cw w g n z b
theorem dL.ext {w w':World} {v:Value} {B n b:Nat} {z:Nat→Int} (h:dL w v B n z b) (hx:aA w w'):dL w' v B n z b:=by obtain ⟨g,h1,h2,h3⟩:=h;exact ⟨g,h1,h2,h3.ext hx⟩
theorem eK (B n:Nat) (z:Nat→Int) (b:Nat):bq (fun v w=>dL w v B n z b):=fun _ _ _ h hx=>h.ext hx
instance (B n:Nat) (z:Nat→Int) (b:Nat):Nonempty (bq (fun v w=>dL w v B n z b)):=⟨eK B n z b⟩
theorem eM {w:World} {v:Value} {g n:Nat} (h:fg w v g n):dQ v=g:=by obtain ⟨k,h1,_⟩:=h;subst h1;rfl
theorem iP (B n:Nat) (z:Nat→Int) (b:Nat):fz (fun v _ b=>b=dQ v) (fun v w=>dL w v B n z b):=
  ⟨fun v w b h hb=>by obtain ⟨g,h1,h2,h3⟩:=h;rw [hb,eM h1];exact h3.lt,fun _ _ _ _ _ _ h=>h⟩
theorem vC {z:Int} {b:Nat} (h:z.natAbs<2^b):(z + -2*z).natAbs<2^b:=by omega
theorem nO {M:Nat→Nat→Int} {i a b:Nat} (h:(M i a).natAbs<2^b):(setRow M i (M i) i a + -2*setRow M i (M i) i a).natAbs<2^b:=by
  have:setRow M i (M i) i a=M i a:=by simp [setRow]
  rw [this];exact vC h
theorem pY (M:Nat→Nat→Int) (i:Nat):setRow (setRow M i (M i)) i (fun c=>setRow M i (M i) i c + -2*setRow M i (M i) i c)=eA M i:=by
  funext a c
  unfold setRow eA
  by_cases e:a=i
  · subst e;simp;omega
  · simp [e]
section
variable {w w' w0:World} {v u:Value} {g gh m d n c b B:Nat} {z:Nat→Int} {M:Nat→Nat→Int} {ρ:Nat→Nat}
theorem cY.inj (h:cY w B gh m d c ρ M b) {i j:Nat} (hi:i<d) (hj:j<d) (e:ρ i=ρ j):i=j:=h.2.2.2.2 i j hi hj e
theorem fh (h:cY w B gh m d c ρ M b) {i:Nat} (hi:i<d):eG B w (ρ i):=by
  obtain ⟨m',f',_,ha,_⟩:=h.row' hi;exact ⟨(h.2.2.2.1 i hi).1,.inl ⟨m',f',ha⟩⟩
theorem fi (h:cY w B gh m d c ρ M b):eG B w gh:=by
  obtain ⟨h1,_,⟨_,_,f,ha,_⟩,_⟩:=h;exact ⟨h1,.inr ⟨_,_,ha⟩⟩
theorem Keeps.own {w1 w2:World} (h:Keeps (eG B w) w w1) (k:Keeps (eG B w1) w1 w2):Keeps (eG B w) w w2:=
  h.step k fun b hb=>by
    by_cases hlt:b<w.heap.size
    · refine .inl ⟨hb.1,Classical.byContradiction fun hn=>hn ?_⟩
      have hk:=h.block b hlt (fun hS=>hn hS.2);rcases hb.2 with ⟨m,f,cs,hg,hr⟩ | ⟨m,f,cs,hg,hr⟩
      · exact .inl ⟨m,f,cs,hk▸hg,hr⟩
      · exact .inr ⟨m,f,cs,hk▸hg,hr⟩
    · exact .inr (by omega)
theorem eG.nu {b':Nat}:∀k m f,eG B w k→¬aY w k 101 m f:=fun k m f h ha=>by
  rcases h.2 with ⟨m',f',h'⟩ | ⟨m',f',h'⟩
  · exact h'.ne ha (by decide) rfl
  · exact h'.ne ha (by decide) rfl
theorem jJ {T k:Nat} {f:Nat→Value} (h:aY w g T k f) (hk:Keeps (eG B w) w w') (ht:T≠49∧T≠41):aY w' g T k f:=
  h.keep hk fun hS=>by
    rcases hS.2 with ⟨m',f',h'⟩ | ⟨m',f',h'⟩
    · exact h.ne h' ht.1 rfl
    · exact h.ne h' ht.2 rfl
theorem kT {wb:World} (h:aA wb w) (k:Keeps (eG B w) w w') (hB:wb.heap.size≤B):aA wb w':=h.step k fun b hb=>Nat.le_trans hB hb.1
theorem js {i j:Nat} {f:Nat→Value} (h:cY w B gh m d c ρ M b) (ha:aY w gh 41 m f) (hk:Keeps (fun b=>b=gh) w w') (ha':aY w' gh 41 m (dM (dM f (0 + i*1) [v]) (0 + j*1) [u]))
    (hv:fg w v (ρ j) c) (hu:fg w u (ρ i) c) (hi:i<d) (hj:j<d):cY w' B gh m d c (gC ρ i j) (cE M i j) b:=by
  have hne:=fun k (hk:k<d)=>h.ne hk
  have hnu:=h.nu;obtain ⟨h1,h2,⟨h3,h3b,f0,h6,h7⟩,h4,h5⟩:=h;obtain ⟨_,hff⟩:=ha.eq h6;refine ⟨h1,h2,⟨h3,h3b,_,ha',fun a hA=> ?_⟩,fun a hA=> ?_,fun a a2 hA hA2 e=> ?_⟩
  · simp only [dM,Nat.zero_add,Nat.mul_one,gC]
    by_cases e1:a=j
    · subst e1
      rw [bO]
      by_cases e2:a=i
      · subst e2;rw [if_pos rfl];exact hu
      · rw [if_neg e2,if_pos rfl];exact hu
    · rw [co _ _ _ _ e1]
      by_cases e2:a=i
      · subst e2;rw [bO,if_pos rfl];exact hv
      · rw [co _ _ _ _ e2,if_neg e2,if_neg e1,hff a (by omega)];exact h7 a hA
  · have key:∀k,k<d→B≤ρ k∧cw w' (ρ k) c (M k) b:=fun k hk'=>⟨(h4 k hk').1,(h4 k hk').2.keep hk (fun e=>hne k hk' e.symm) hnu⟩
    simp only [gC,cE]
    by_cases e1:a=i
    · rw [if_pos e1,if_pos e1];exact key j hj
    · rw [if_neg e1,if_neg e1]
      by_cases e2:a=j
      · rw [if_pos e2,if_pos e2];exact key i hi
      · rw [if_neg e2,if_neg e2];exact key a hA
  · simp only [gC] at e
    by_cases e1:a=i<;>by_cases e2:a2=i
    · omega
    · rw [if_pos e1,if_neg e2] at e
      by_cases e3:a2=j
      · rw [if_pos e3] at e;have:=h5 _ _ hj hi e;omega
      · rw [if_neg e3] at e;have:=h5 _ _ hj hA2 e;omega
    · rw [if_neg e1,if_pos e2] at e
      by_cases e3:a=j
      · rw [if_pos e3] at e;have:=h5 _ _ hi hj e;omega
      · rw [if_neg e3] at e;have:=h5 _ _ hA hj e;omega
    · rw [if_neg e1,if_neg e2] at e
      by_cases e3:a=j<;>by_cases e4:a2=j
      · omega
      · rw [if_pos e3,if_neg e4] at e;have:=h5 _ _ hi hA2 e;omega
      · rw [if_neg e3,if_pos e4] at e;have:=h5 _ _ hA hi e;omega
      · rw [if_neg e3,if_neg e4] at e;exact h5 _ _ hA hA2 e
theorem cY.split (h:cY w B gh m d c ρ M b):∃f,aY w gh 41 m f:=by obtain ⟨_,_,⟨_,_,f,ha,_⟩,_⟩:=h;exact ⟨f,ha⟩
theorem oB {i:Nat} {f:Nat→Value} (h:cY w B gh m d c ρ M b) (ha:aY w gh 41 m f) (hk:Keeps (fun b=>b=gh) w w') (ha':aY w' gh 41 m (dM f (0 + i*1) [v]))
    (hv:fg w v g c) (hR:cw w g c z b) (hB:B≤g) (hnew:∀a,a<d→ρ a≠g) (hi:i<d):cY w' B gh m d c (ci ρ i g) (TL.setRow M i z) b:=by
  have hne:=fun k (hk:k<d)=>h.ne hk
  have hnu:=h.nu;obtain ⟨h1,h2,⟨h3,h3b,f0,h6,h7⟩,h4,h5⟩:=h;obtain ⟨_,hff⟩:=ha.eq h6;have hgne:g≠gh:=by
    obtain ⟨m',f',_,ha',_⟩:=hR;exact ha'.ne h6 (by decide)
  refine ⟨h1,h2,⟨h3,h3b,_,ha',fun a hA=> ?_⟩,fun a hA=> ?_,fun a a2 hA hA2 e=> ?_⟩
  · simp only [dM,Nat.zero_add,Nat.mul_one]
    by_cases e1:a=i
    · subst e1;rw [bO,aW];exact hv
    · rw [co _ _ _ _ e1,aT _ _ _ _ e1,hff a (by omega)];exact h7 a hA
  · by_cases e1:a=i
    · subst e1;rw [aW];exact ⟨hB,(hR.keep hk hgne hnu).congr fun j _=>by simp [TL.setRow]⟩
    · rw [aT _ _ _ _ e1];exact ⟨(h4 a hA).1,((h4 a hA).2.keep hk (fun e=>hne a hA e.symm) hnu).congr fun j _=>by simp [TL.setRow,e1]⟩
  · by_cases e1:a=i<;>by_cases e2:a2=i
    · omega
    · rw [e1,aW,aT _ _ _ _ e2] at e;exact absurd e.symm (hnew a2 hA2)
    · rw [e2,aW,aT _ _ _ _ e1] at e;exact absurd e (hnew a hA)
    · rw [aT _ _ _ _ e1,aT _ _ _ _ e2] at e;exact h5 _ _ hA hA2 e
theorem cP {k gA:Nat} {f:Nat→Value} (h:cY w B gh m d c ρ M b) (hk:Keeps (fun b=>b=gA) w w') (hA:aY w gA 41 k f) (hne:gh≠gA):cY w' B gh m d c ρ M b:=
  h.keep hk hne (fun i hi e=>by subst e;obtain ⟨m',f',_,ha',_⟩:=h.row' hi;exact hA.ne ha' (by decide) rfl) fun k m2 f2 e ha2=>by subst e;exact hA.ne ha2 (by decide) rfl
theorem oI {k gA:Nat} {f:Nat→Value} (h:cw w g n z b) (hk:Keeps (fun b=>b=gA) w w') (hA:aY w gA 41 k f):cw w' g n z b:=
  h.keep hk (fun e=>by subst e;obtain ⟨m',f',_,ha',_⟩:=h;exact hA.ne ha' (by decide) rfl) fun k m2 f2 e ha2=>by subst e;exact hA.ne ha2 (by decide) rfl
theorem fQ {z':Nat→Int} (h:cw w g n z b) (e:z=z'):cw w g n z' b:=e▸h
theorem rY (h:cw w g n z b):b≤bj:=by obtain ⟨m,f,h1,_⟩:=h;exact h1.2
theorem fg.dim (h:fg w v g n):n≤65536:=by obtain ⟨k,_,_,h3⟩:=h;exact h3.2
theorem cY.bd {i j:Nat} (h:cY w B gh m d c ρ M b) (hi:i<d) (hj:j<c):(M i j).natAbs<2^b:=by
  obtain ⟨m',f',_,_,hf⟩:=h.row' hi;exact (hf j hj).bd
theorem pm {gx gy:Nat} {zx zy:Nat→Int} (hY:cw w gy n zy b) (hX':cw w' gx n zx b) (hk:Keeps (fun b=>b=gx) w w') (hX:cw w gx n z b):
    ∃zy',cw w' gy n zy' b∧((gx=gy∧zy'=zx)∨(gx≠gy∧zy'=zy)):=by
  by_cases e:gx=gy
  · subst e;exact ⟨zx,hX',.inl ⟨rfl,rfl⟩⟩
  · exact ⟨zy,hY.keep hk (Ne.symm e) hX.nu,.inr ⟨e,rfl⟩⟩
end
theorem dq {P:Program} {e:cl} {w:World} {d:Option Tmp} {ty:TypeId} {pos:String} {after:Array Edge} {gd:Option (Nat×Bool)} {t gh m i n g:Nat} {x y:Operand} {v:Value} {f:Nat→Value} (ht:ey P t 1=true)
    (hx:ev e x= .pointer (some ⟨gh,0 + i*1,none⟩)) (hy:ev e y=v) (hS:fg w v g n) (ha:aY w gh 41 m f) (hi:i<m):
    cQ P ⟨d,.store t x y,ty,pos,after,gd⟩ e w (fun _ w'=>Keeps (fun b=>b=gh) w w'∧aY w' gh 41 m (dM f (0 + i*1) [v])):=by
  obtain ⟨k,rfl,h2,h3⟩:=hS;exact cQ.store (n:=m) [.slice (some ⟨g,0,none⟩) n k] (by simpa using ht) hx hy rfl ha (by simp;omega) (dx rfl)
def cZ (T:Nat) (w:World) (B gw r c:Nat) (M U V:Nat→Nat→Int) (b:Nat):Prop:=
  ∃hm hu hv km ku kv ρm ρu ρv,B≤gw∧aY w gw T 9 (bU [.int .i64 (r:Nat),.int .i64 (c:Nat),.slice (some ⟨hm,0,none⟩) r km,.int .i64 (r:Nat),.int .i64 (r:Nat),.slice (some ⟨hu,0,none⟩) r ku,.int .i64 (r:Nat),.int .i64 (r:Nat),.slice (some ⟨hv,0,none⟩) r kv])∧
    cY w B hm km r c ρm M b∧cY w B hu ku r r ρu U b∧cY w B hv kv r r ρv V b∧hm≠hu∧hm≠hv∧hu≠hv∧
    (∀i j,i<r→j<r→ρm i≠ρu j)∧(∀i j,i<r→j<r→ρm i≠ρv j)∧(∀i j,i<r→j<r→ρu i≠ρv j)
theorem cZ.congr {T:Nat} {w:World} {B gw r c:Nat} {M U V M' U' V':Nat→Nat→Int} {b:Nat} (h:cZ T w B gw r c M U V b) (hM:∀i j,i<r→j<c→M i j=M' i j) (hU:∀i j,i<r→j<r→U i j=U' i j)
    (hV:∀i j,i<r→j<r→V i j=V' i j):cZ T w B gw r c M' U' V' b:=by
  obtain ⟨hm,hu,hv,km,ku,kv,ρm,ρu,ρv,h1,h2,h3,h4,h5,h6⟩:=h;exact ⟨hm,hu,hv,km,ku,kv,ρm,ρu,ρv,h1,h2,h3.congr hM,h4.congr hU,h5.congr hV,h6⟩
theorem cZ.ext {T:Nat} {w w':World} {B gw r c:Nat} {M U V:Nat→Nat→Int} {b:Nat} (h:cZ T w B gw r c M U V b) (hx:aA w w'):cZ T w' B gw r c M U V b:=by
  obtain ⟨hm,hu,hv,km,ku,kv,ρm,ρu,ρv,h1,h2,h3,h4,h5,h6⟩:=h;exact ⟨hm,hu,hv,km,ku,kv,ρm,ρu,ρv,h1,h2.ext hx,h3.ext hx,h4.ext hx,h5.ext hx,h6⟩
section
variable {P:Program} {e:cl} {w:World} {d:Option Tmp} {ty:TypeId} {pos:String} {after:Array Edge} {gd:Option (Nat×Bool)}
theorem iA {t m g0 n b:Nat} {x y:Operand} {v:Value} {z:Nat→Int} (ht:sliceB P t 49 2 m=true) (hm:m≤32) (hz:(P.info? 49).bind (·.zero)=some (.agg #[.bool false,.slice none 0 0]))
    (hx:ev e x= .slice (some ⟨g0,0,none⟩) 0 0) (hA:aY w g0 49 0 (bU [])) (hy:ev e y=v) (hR:bi w v n z b) (hn:0<n):
    cQ P ⟨d,.call {callee:= .builtin .append,args:= #[x,y],argTypes:= #[t,t]},ty,pos,after,gd⟩ e w (fun v' w'=>aA w w'∧dL w' v' w.heap.size n z b∧w.heap.size≤dQ v'):=by
  obtain ⟨A,k,rfl,h2,h3,h4⟩:=hR;obtain ⟨g,rfl,m',f,hm',ha,hf⟩:=h4 hn;have hones:∀i,i<n*2→(f i).oneCell'=true:=fun i hi=>by
    have:=hf (i/2) (by omega);obtain ⟨c0,c1,h1,h2,h3⟩:=this.cells
    injection h1 with h1
    rcases (by omega:i=2*(i/2)∨i=2*(i/2) + 1) with e | e
    · rw [e];have h5:f (2*(i/2))=c0:=by have:=congrArg (fun a=>a[0]?) h1;simpa using this
      rw [h5];exact h2
    · rw [e];have h5:f (2*(i/2) + 1)=c1:=by have:=congrArg (fun a=>a[1]?) h1;simpa using this
      rw [h5];exact h3
  refine cQ.mono (ea (n:=0) (cap:=0) (kk:=n) (h:=f) [.bool false,.slice none 0 0] ht hm hz rfl rfl (by decide) hx hy hA (Nat.le_refl _) (by decide) (fun i hi=>by rw [Nat.zero_add];exact ha.cell (by omega)) hones (by omega)) ?_;rintro v' w' ⟨hk,g',cap',f',rfl,h5,h6,h7,h8,h9,h10⟩;rcases h7 with ⟨_,_,h7⟩ | ⟨h7,hx'⟩
  · omega
  · simp only [Nat.zero_add,Nat.zero_mul] at*
    refine ⟨hx',⟨g',⟨cap',rfl,h5,h6,h3.2.1⟩,h7,cap'*2,f',⟨by omega,h3.2.2⟩,h8,fun j hj=> ?_⟩,h7⟩;rw [h10 (2*j) (by omega),h10 (2*j + 1) (by omega)];exact (hf j hj).ext hx'
theorem kN {t m yt n b n' c':Nat} {x y:Operand} {v:Value} {z:Nat→Int} (ht:sliceB P t 49 2 m=true) (hx:ev e x=v) (hR:bi w v n z b) (hy:ev e y= .slice none n' c') (hn:0<n):
    cj P ⟨d,.binOp .eql t x y yt,ty,pos,after,gd⟩ e w (.bool false):=by
  obtain ⟨A,k,rfl,h2,h3,h4⟩:=hR;obtain ⟨g,rfl,_⟩:=h4 hn;have:=gO (P:=P) (e:=e) (w:=w) (d:=d) (ty:=ty) (pos:=pos) (after:=after) (gd:=gd) (yt:=yt) ht hx hy
  simpa using this
end
theorem pq {P:Program} {e:cl} {w:World} {d:Option Tmp} {ty:TypeId} {pos:String} {after:Array Edge} {gd:Option (Nat×Bool)} {cal:Operand} {f:Nat} {xs:Array Operand} {ts:Array TypeId} {fst cap vs:Array Value} {S:Nat→Prop} {R:Value→World→Prop}
    (hcb:ax P f=true) (hf:ev e cal= .func (.func f) fst cap) (ha:fst ++ xs.map (ev e) ++ cap=vs) (h:Calls P f vs w (pn S w R)):
    cQ P ⟨d,.call {callee:= .value cal,args:=xs,argTypes:=ts},ty,pos,after,gd⟩ e w (fun v w'=>Keeps S w w'∧R v w'):=
  dt hcb hf ha h fun _ _ ⟨v,h1,h2,h3⟩=>⟨v,h1,h2,h3⟩
end Go.TL
namespace Go.TL
open Go.RowKit
set_option linter.unusedVariables false
def vX (l:List Oper):List Nat→Array Bool→Bool
  | [],_=>true
  | k::ks,listed=>Region.free .any l.toArray listed k&&(Region.ready .any l.toArray listed).contains k&&(match l[k]? with | some o=>o.guard.isNone&&o.after.toList.all (fun e=> !Region.binds .any e) | none=>false)&&
      vX l ks (listed.setIfInBounds k true)
def uY (P:Program) (l:List Oper) (n:Nat) (Φ:List cf) (A:Apart Φ) (e0:cl):List Nat→List Value→Prop
  | k::ks,v::vs=>(Nat.blt k n=true∧(∃o,l[k]? =some o∧∀w e,(∀t,eE l n t=false→e t=e0 t)→cj P o e w v)∧(∀w,cK Φ k v w)∧∀j,A.ap k j=false)∧uY P l n Φ A e0 ks vs
  | [], []=>True
  | _,_=>False
section
variable {P:Program} {N:Nat} {Q:Exit→Act→World→Prop} {l:List Oper}
theorem kD {n:Nat} {tk:Nat→Bool} (G:Good N n l tk) {Φ:List cf} {A:Apart Φ} {e0:cl} {w0:World} (hs:Region.noSelect l.toArray=true) (hQ:∀c a w,¬Q (.panic c) a w):
    ∀(ks:List Nat) (vs:List Value) (fuel:Nat) (listed:Array Bool) (a:Act) (w:World),vX l ks listed=true→uY P l n Φ A e0 ks vs→Mid N n l (fun _=>false) Φ A e0 w0 listed a w→listed.toList.count false≤fuel→
      (∀listed' a' fuel',Mid N n l (fun _=>false) Φ A e0 w0 listed' a' w→(∀j,listed.getD j false=true∨j∈ks→listed'.getD j false=true)→listed'.toList.count false≤fuel'→wpAny P .any l.toArray Q fuel' listed' a' w)→
      wpAny P .any l.toArray Q fuel listed a w
  | [], [],fuel,listed,a,w,_,_,M,hc,hk=>hk listed a fuel M (fun j h=>h.elim id fun h=>by cases h) hc
  | [],_::_,_,_,_,_,_,h,_,_,_=>h.elim
  | _::_, [],_,_,_,_,_,h,_,_,_=>h.elim
  | k::ks,v::vs,fuel,listed,a,w,hf,⟨⟨hkn,⟨o,ho,hv⟩,hφ,hap⟩,hob⟩,M,hc,hk=>by
    simp only [vX,Bool.and_eq_true] at hf;obtain ⟨⟨⟨hfree,hready⟩,hgo⟩,hrest⟩:=hf;rw [ho] at hgo;simp only [Bool.and_eq_true,List.all_eq_true,Bool.not_eq_true'] at hgo;have hkn':k<n:=by simpa [Nat.blt_eq] using hkn
    have hkl:k<l.length:=Nat.lt_of_lt_of_le hkn' G.le;have hks:k<listed.size:=by rw [M.size];exact hkl
    obtain ⟨d,hd,hdN,hdist,_⟩:=G.dst k o hkn' ho;have hdk:aZ l k=d:=by simp [aZ,ho,hd]
    have hkf:listed.getD k true=false:=by
      have hr:=hready;rw [List.contains_iff_mem] at hr;exact (mem_ready.1 hr).1
    have hcnt:=eF hks hkf;obtain ⟨f,hff⟩:∃f,fuel=f + 1:=⟨fuel - 1,by omega⟩
    subst hff;obtain ⟨e',he,hother,hfct,hdj⟩:=M.env;have hne:∀j,j<n→j≠k→aZ l j≠d:=by
      intro j hj hjk;rcases Nat.lt_trichotomy j k with h | h | h
      · exact hdist j h
      · exact absurd h hjk
      · intro heq
        have hjl:j<l.length:=Nat.lt_of_lt_of_le hj G.le;obtain ⟨d2,hd2,_,hdist2,_⟩:=G.dst j l[j] hj (List.getElem?_eq_getElem hjl);have:aZ l j=d2:=by simp [aZ,hjl,hd2]
        rw [heq] at this;exact hdist2 k h (by rw [hdk];exact this)
    have hval:∀j,j<n→j≠k→et e' o.dst v (aZ l j)=e' (aZ l j):=fun j hj hjk=>by
      simp only [hd,et];exact co _ _ _ _ (hne j hj hjk)
    refine wpAny_take (by simpa using ho) hs hfree hready (fun c a w h=>absurd h (hQ c _ w)) (.inl ⟨by simp only [Region.wanted];cases hg:o.guard with | none=>rfl | some _=>rw [hg] at hgo;simp at hgo,fun w=>by have:=hv w e' hother;unfold cj at this;rw [he.eval];exact this⟩) ?_;refine kD G hs hQ ks vs f _ _ w hrest hob ?_ (by omega) (fun listed' a' fuel' M' hall hc'=>hk listed' a' fuel' M' (fun j hj=>hall j ?_) hc')
    · refine ⟨by simp [M.size],?_,?_,(fun _ h=>by cases h),M.ext,et e' o.dst v,he.put (by simp [hd,fK,Nat.blt_eq,hdN]) v,?_,?_,?_⟩
      · intro i oi hoi h e hem hb
        by_cases hik:i=k
        · subst hik
          rw [ho] at hoi;injection hoi with hoi;subst hoi;rw [hgo.2 e (Array.mem_def.1 hem)] at hb;cases hb
        · rw [getD_set_ne false (Ne.symm hik)] at h
          have:=M.closed i oi hoi h e hem hb
          by_cases hek:e.on=k
          · rw [hek];simp [hks]
          · rw [getD_set_ne false (Ne.symm hek)];exact this
      · intro j hj hjl
        rw [getD_set_ne true (by omega)];exact M.late j hj hjl
      · intro t ht
        simp only [hd,et];rw [co _ _ _ _ (fJ ht hkn' ho hd)];exact hother t ht
      · intro i hi h
        by_cases hik:i=k
        · subst hik;rw [hdk];simp only [hd,et,bO];exact hφ _
        · rw [getD_set_ne false (Ne.symm hik)] at h
          rw [hval i hi hik];exact hfct i hi h
      · intro i j hi hj hij h1 h2 hA
        by_cases hik:i=k
        · rw [hik,hap] at hA;cases hA
        · by_cases hjk:j=k
          · have:=A.symm _ _ hA;rw [hjk,hap] at this;cases this
          · rw [getD_set_ne false (Ne.symm hik)] at h1
            rw [getD_set_ne false (Ne.symm hjk)] at h2;rw [hval i hi hik,hval j hj hjk];exact hdj i j hi hj hij h1 h2 hA
    · rcases hj with h | h
      · left
        by_cases hjk:j=k
        · rw [hjk];simp [hks]
        · rw [getD_set_ne false (Ne.symm hjk)];exact h
      · rcases List.mem_cons.1 h with h | h
        · left;rw [h];simp [hks]
        · exact .inr h
end
theorem wy {P:Program} {N:Nat} {Q:da} {e:cl} {w:World} {id:Nat} {l:List Oper} (hm:P.follows .mixedOrders=true) (n:Nat) (Φ:List cf) (A:Apart Φ) (ks:List Nat) (vs:List Value)
    (hs:Region.noSelect l.toArray=true) (hfr:vX l ks (Array.replicate l.length false)=true) (hc:fc (fun j=>ks.contains j) N n l=true) (hlen:Φ.length=n) (hmono:eN Φ) (hob:fS P l n Φ A e w 0 l Φ) (hv:uY P l n Φ A e ks vs)
    (hkn:ks.all (fun k=>Nat.blt k n)=true)
    (htail:∀e' w',aA w w'→(∀t,eE l n t=false→e' t=e t)→(∀j,Nat.blt j n=true→cK Φ j (e' (aZ l j)) w')→
      (∀i j,Nat.blt i n=true→Nat.blt j n=true→Nat.beq i j=false→A.disj l i j e' w')→
      RL P N l.toArray (fun e w=>Q .normal e w) (l.drop n) e' w'):WP P N (.region id l.toArray true) Q e w:=by
  intro a ha;have htk:∀j,(fun j=>ks.contains j) j=true→j<n:=fun j h=>by
    have h':j∈ks:=List.contains_iff_mem.1 h;have:=List.all_eq_true.1 hkn j h'
    simpa [Nat.blt_eq] using this
  have G:=eU (tk:=fun j=>ks.contains j) hc htk;refine Code.wp_mono (Q:=fun x a' w'=>x=Exit.normal∧∃e',IsE N a' e'∧Q x e' w') (fun x a' w' h=>h.2) ?_;refine wp_region_any hm ?_;simp only [List.size_toArray];have hrep:∀i,(Array.replicate l.length false).getD i false=false:=fun i=>by by_cases hi:i<l.length<;>simp [hi]
  refine kD (Q:=fun x a' w'=>x=Exit.normal∧∃e',IsE N a' e'∧Q x e' w') G (Φ:=Φ) (A:=A) (e0:=e) (w0:=w) hs (fun c a w h=>by cases h.1) ks vs _ _ a _ hfr hv ?_ ?_ ?_
  · refine ⟨by simp,?_,?_,(fun _ h=>by cases h),⟨rfl,rfl,rfl,Nat.le_refl _,fun _ _=>rfl⟩,e,ha,fun _ _=>rfl,?_,?_⟩
    · intro i o _ h;rw [hrep] at h;cases h
    · intro j _ hj;simp [hj]
    · intro i _ h;rw [hrep] at h;cases h
    · intro i j _ _ _ h;rw [hrep] at h;cases h
  · simp
  · intro listed' a' fuel' M hall hcn
    refine mv G hlen hmono hob ?_ _ _ _ _ ⟨M.size,M.closed,M.late,fun j hj=>hall j (.inr (List.contains_iff_mem.1 hj)),M.ext,M.env⟩ hcn;intro a2 e' w' hae hext hoth hf hd;exact htail e' w' hext hoth (fun j hj=>hf j (by simpa [Nat.blt_eq] using hj)) (fun i j hi hj hij=>hd i j (by simpa [Nat.blt_eq] using hi) (by simpa [Nat.blt_eq] using hj) (ep hij)) a2 _ hae fun _ e'' _ h1 h2=>⟨rfl,e'',h1,h2⟩
end Go.TL
namespace Go.TL
open Go.RowKit Go.Proofs
set_option linter.unusedVariables false
set_option linter.unusedSimpArgs false
set_option maxRecDepth 10000 in
theorem ue (w:World) (x:Value) (rx cx:Nat) (Mx:Nat→Nat→Int) (btx:Nat) (hx:bX w x rx cx Mx btx) (hb:1 + btx≤bj):Calls Tryz.prog 38 #[x] w (cc w fun v w'=>cO w' v w.heap.size rx cx Mx (1 + btx)):=by
 have hLIM:bj=562949953421312:=rfl;have hmatx:=hx;obtain ⟨sx,rfl,hrx,hcx,hSx⟩:=hx.form;refine ai (N:=6) (rs:= #[.cell 2 28]) Tryz.func38 rfl rfl rfl (Nat.le_of_ble_eq_true rfl) ?_;have hX:aA w w:=aA.refl w;refine ab ?_;refine RL.x rfl rfl (cQ.box [.int .i64 ((rx:Nat)),.int .i64 ((cx:Nat)),sx] rfl rfl) ?_;rintro _ w1 ⟨g1,rfl,hge1,hx1,hA1⟩;replace hX:=aA.trans hX hx1;refine RL.x rfl rfl (cQ.alloc [.int .i64 (0),.int .i64 (0),.slice (none) (0) (0)] cn rfl) ?_;rintro _ w2 ⟨g2,rfl,hge2,hx2,hA2⟩;have hbs2:w.heap.size≤g2:=Nat.le_trans hX.size hge2;replace hA1:=aY.ext hA1 hx2;replace hX:=aA.trans hX hx2;refine RL.nil ?_;have hBw1:w.heap.size≤w2.heap.size:=hX.size;refine aF am 3 [_,_,fun v AW=>cO AW v w2.heap.size rx cx ((fun i j=>1*Mx i j)) (1 + btx)] rfl rfl (fun e_ w_ AV AU=>⟨fun _=>aa (af [.int .i64 ((rx:Nat)),.int .i64 ((cx:Nat)),sx] aV ((AU 1 rfl rfl)) ((aY.ext hA1 AV).cells 0 _ rfl rfl)),fun _=>cQ.call pH (aL rfl) (wu (1) (1) _ (by decide) (by decide) (by decide)),fun AT=>cQ.mono (cQ.call zm (aC ((AT 0 rfl)) rfl) (vJ _ _ _ _ _ _ _ _ _ (bX.mk (ce.ext (ce.ext hSx hX) AV) (by omega) (by omega)) (AT 1 rfl) (by omega))) fun v AX hv=>⟨hv.1,cO.low hv.2 AV.size⟩,trivial⟩) ?_;intro e1 w3 hx3 ho1 hf1;replace hA2:=aY.ext hA2 hx3;replace hX:=aA.trans hX hx3;have s2_e1:e1 2=_:=ho1 2 rfl rfl;have s5_e1:cO w3 (e1 5) w2.heap.size rx cx ((fun i j=>1*Mx i j)) (1 + btx):=hf1 2 rfl;obtain ⟨gh1,kh1,ρ1,hq1,hM1⟩:=s5_e1;have hd1:=cY.dlim hM1;have hd2:=cY.clim hM1;refine RL.x rfl rfl (cQ.store [.int .i64 ((rx:Nat)),.int .i64 ((cx:Nat)),.slice (some ⟨gh1,0,none⟩) (rx) (kh1)] cR s2_e1 hq1 rfl hA2 (Nat.le_of_ble_eq_true rfl) (cS rfl rfl rfl)) ?_;rintro _ w4 ⟨hk1,hnew⟩;replace hM1:=bk hM1 hk1 hA2 (by decide);replace hX:=hX.step hk1 (fun b e=>by subst e;exact hbs2);replace hA2:=hnew.lit [.int .i64 ((rx:Nat)),.int .i64 ((cx:Nat)),.slice (some ⟨gh1,0,none⟩) (rx) (kh1)] rfl;clear hnew;refine RL.nil ?_;refine WP.ret ?_;refine ⟨.agg #[.int .i64 ((rx:Nat)),.int .i64 ((cx:Nat)),.slice (some ⟨gh1,0,none⟩) (rx) (kh1)],Am.one (aj [.int .i64 ((rx:Nat)),.int .i64 ((cx:Nat)),.slice (some ⟨gh1,0,none⟩) (rx) (kh1)] aV s2_e1 (hA2.cells 0 _ rfl rfl)),_,rfl,hX,?_⟩;dsimp only;exact cO.congr (⟨_,_,_,rfl,cY.low hM1 (hBw1)⟩) (fun i j _ _=>Int.one_mul _)
set_option maxRecDepth 10000 in
theorem gJ (w:World) (x:Value) (zx:Int) (btx:Nat) (y:Value) (zy:Int) (bty:Nat) (hx:ak w x zx btx) (hy:ak w y zy bty) (hzy:zy≠0) (hl:btx + 1≤bj):Calls Tryz.prog 43 #[x,y] w (cc w fun v w'=>ak w' v (zx/zy) btx):=by
 have hLIM:bj=562949953421312:=rfl;refine ai (N:=16) (rs:= #[.cell 4 49]) Tryz.func43 rfl rfl rfl (Nat.le_of_ble_eq_true rfl) ?_;have hX:aA w w:=aA.refl w;refine ab ?_;obtain ⟨ca1,cb1,hq1,ho1,ho2⟩:=ak.cells (ak.ext hx hX);have qi1:ak w (.agg #[ca1,cb1]) zx btx:=hq1▸(ak.ext hx hX);refine RL.x rfl rfl (cQ.box [ca1,cb1] hq1 rfl) ?_;rintro _ w1 ⟨g1,rfl,hge1,hx1,hA1⟩;replace qi1:=ak.ext qi1 hx1;replace hX:=aA.trans hX hx1;obtain ⟨ca2,cb2,hq2,ho3,ho4⟩:=ak.cells (ak.ext hy hX);have qi2:ak w1 (.agg #[ca2,cb2]) zy bty:=hq2▸(ak.ext hy hX);refine RL.x rfl rfl (cQ.box [ca2,cb2] hq2 rfl) ?_;rintro _ w2 ⟨g2,rfl,hge2,hx2,hA2⟩;replace qi1:=ak.ext qi1 hx2;replace hA1:=aY.ext hA1 hx2;replace qi2:=ak.ext qi2 hx2;replace hX:=aA.trans hX hx2;refine RL.x rfl rfl (cQ.alloc [.bool (false),.slice (none) (0) (0)] bH rfl) ?_;rintro _ w3 ⟨g3,rfl,hge3,hx3,hA3⟩;have hbs3:w.heap.size≤g3:=Nat.le_trans hX.size hge3;replace qi1:=ak.ext qi1 hx3;replace hA1:=aY.ext hA1 hx3;replace qi2:=ak.ext qi2 hx3;replace hA2:=aY.ext hA2 hx3;replace hX:=aA.trans hX hx3;refine RL.nil ?_;refine ab ?_;refine RL.p rfl rfl (af [ca1,cb1] aq rfl (hA1.cells 0 _ rfl rfl)) ?_;refine RL.p rfl rfl (af [ca2,cb2] aq rfl (hA2.cells 0 _ rfl rfl)) ?_;refine RL.x rfl rfl (cQ.call ze (aC rfl rfl) (uG _ _ _ _ _ _ _ qi1 qi2 hzy hl)) ?_;rintro _ w4 ⟨hx4,v1,v2,rfl,q1,q2⟩;replace hA3:=aY.ext hA3 hx4;replace hX:=aA.trans hX hx4;refine RL.p rfl rfl (cj.move rfl) ?_;refine RL.p rfl rfl (cj.extract rfl rfl) ?_;refine RL.p rfl rfl (cj.extract rfl rfl) ?_;refine RL.p rfl rfl (cj.extract rfl rfl) ?_;refine RL.x rfl rfl (cQ.alloc [.bool (false),.slice (none) (0) (0)] bH rfl) ?_;rintro _ w5 ⟨g4,rfl,hge4,hx5,hA4⟩;have ne6:g3≠g4:=Nat.ne_of_lt (Nat.lt_of_lt_of_le hA3.lt hge4);have hbs4:w.heap.size≤g4:=Nat.le_trans hX.size hge4;replace hA3:=aY.ext hA3 hx5;replace q1:=ak.ext q1 hx5;replace q2:=ak.ext q2 hx5;replace hX:=aA.trans hX hx5;refine RL.x rfl rfl (cQ.alloc [.bool (false),.slice (none) (0) (0)] bH rfl) ?_;rintro _ w6 ⟨g5,rfl,hge5,hx6,hA5⟩;have ne9:g3≠g5:=Nat.ne_of_lt (Nat.lt_of_lt_of_le hA3.lt hge5);have ne10:g4≠g5:=Nat.ne_of_lt (Nat.lt_of_lt_of_le hA4.lt hge5);have hbs5:w.heap.size≤g5:=Nat.le_trans hX.size hge5;replace hA3:=aY.ext hA3 hx6;replace q1:=ak.ext q1 hx6;replace q2:=ak.ext q2 hx6;replace hA4:=aY.ext hA4 hx6;replace hX:=aA.trans hX hx6;obtain ⟨ca3,cb3,hq3,ho5,ho6⟩:=ak.cells q1;have qi3:ak w6 (.agg #[ca3,cb3]) ((zx)/(zy)) btx:=hq3▸q1;refine RL.x rfl rfl (cQ.store [ca3,cb3] bf rfl hq3 rfl hA4 (Nat.le_of_ble_eq_true rfl) (bs ho5 ho6)) ?_;rintro _ w7 ⟨hk1,hnew⟩;replace hA3:=hA3.keep hk1 ne6;replace q2:=ah q2 hk1 hA4 (by decide);replace hA5:=hA5.keep hk1 (Ne.symm ne10);replace qi3:=ah qi3 hk1 hA4 (by decide);replace hX:=hX.step hk1 (fun b e=>by subst e;exact hbs4);replace hA4:=hnew.lit [ca3,cb3] rfl;clear hnew;obtain ⟨ca4,cb4,hq4,ho7,ho8⟩:=ak.cells q2;refine RL.x rfl rfl (cQ.store [ca4,cb4] bf rfl hq4 rfl hA5 (Nat.le_of_ble_eq_true rfl) (bs ho7 ho8)) ?_;rintro _ w8 ⟨hk2,hnew⟩;replace hA3:=hA3.keep hk2 ne9;replace hA4:=hA4.keep hk2 ne10;replace qi3:=ah qi3 hk2 hA5 (by decide);replace hX:=hX.step hk2 (fun b e=>by subst e;exact hbs5);clear hnew;refine RL.p rfl rfl (cj.assign rfl) ?_;refine RL.nil ?_;refine ab ?_;refine RL.p rfl rfl (af [ca3,cb3] aq rfl (hA4.cells 0 _ rfl rfl)) ?_;refine RL.x rfl rfl (cQ.store [ca3,cb3] bf rfl rfl rfl hA3 (Nat.le_of_ble_eq_true rfl) (bs ho5 ho6)) ?_;rintro _ w9 ⟨hk3,hnew⟩;replace qi3:=ah qi3 hk3 hA3 (by decide);replace hX:=hX.step hk3 (fun b e=>by subst e;exact hbs3);replace hA3:=hnew.lit [ca3,cb3] rfl;clear hnew;refine RL.nil ?_;refine WP.ret ?_;refine ⟨.agg #[ca3,cb3],Am.one (aj [ca3,cb3] aq rfl (hA3.cells 0 _ rfl rfl)),_,rfl,hX,?_⟩;dsimp only;exact qi3
set_option maxRecDepth 10000 in
theorem pQ (w:World) (x:Value) (nx:Nat) (zx:Nat→Int) (btx:Nat) (hx:bi w x nx zx btx) (hn:0<nx):Calls Tryz.prog 112 #[x] w (cc w fun v w'=>dL w' v w.heap.size nx zx btx):=by
 have hLIM:bj=562949953421312:=rfl;have hlimx:=hx.lim;refine ai (N:=8) (rs:= #[.tmp 2]) Tryz.func112 rfl rfl rfl (Nat.le_of_ble_eq_true rfl) ?_;have hX:aA w w:=aA.refl w;refine ab ?_;refine RL.p rfl rfl (cj.assign rfl) ?_;refine RL.nil ?_;refine WP.seq ?_;refine ab ?_;refine RL.p rfl rfl (cj.move rfl) ?_;refine RL.p rfl rfl (kN bE rfl (bi.ext hx hX) rfl hn) ?_;refine RL.nil ?_;refine WP.cond _ rfl (fun hf=>absurd hf (by decide)) (fun _=> ?_);refine WP.skip ?_;refine pl.norm ?_;refine ab ?_;refine RL.x rfl rfl (cL bE) ?_;rintro _ w1 ⟨g1,rfl,hge1,hx1,hA1⟩;replace hX:=aA.trans hX hx1;refine RL.p rfl rfl (cj.move rfl) ?_;have hBw1:w.heap.size≤w1.heap.size:=hX.size;refine RL.x rfl rfl (iA bE (by decide) bH rfl hA1 rfl (bi.ext hx hX) hn) ?_;rintro v1 w2 ⟨hx2,q1,_⟩;replace hX:=aA.trans hX hx2;refine RL.p rfl rfl (cj.assign rfl) ?_;refine RL.nil ?_;refine WP.ret ?_;refine ⟨v1,Am.one (fw.tmp rfl),_,rfl,hX,?_⟩;dsimp only;obtain ⟨g,h1,h2,h3⟩:=q1;exact ⟨g,h1,Nat.le_trans hBw1 h2,h3⟩
set_option maxRecDepth 10000 in
theorem nW (w:World) (gx gy n:Nat) (zx zy:Nat→Int) (b:Nat) (x:Value) (y:Value) (k:Value) (zk:Int) (btk:Nat) (hx:fg w x gx n) (hy:fg w y gy n) (hk:ak w k zk btk) (hX0:cw w gx n zx b) (hY0:cw w gy n zy b) (hxy:gx=gy→∀j,j<n→zx j=zy j) (hb:btk + b + 2≤bj) (hfit:∀j,j<n→(zx j + zk*zy j).natAbs<2^b):Calls Tryz.prog 66 #[x,y,k] w (pn (fun b=>b=gx) w fun v w'=>cw w' gx n (fun j=>zx j + zk*zy j) b):=by
 have hLIM:bj=562949953421312:=rfl;refine ai (N:=27) (rs:= #[]) Tryz.func66 rfl rfl rfl (Nat.le_of_ble_eq_true rfl) ?_;have hX:Keeps (fun b=>b=gx) w w:=Keeps.refl _ w;have hn16:=hx.dim;have hblim:=rY hX0;refine ab ?_;obtain ⟨ca1,cb1,hq1,ho1,ho2⟩:=ak.cells hk;have qi1:ak w (.agg #[ca1,cb1]) zk btk:=hq1▸hk;refine RL.x rfl rfl (cQ.box [ca1,cb1] hq1 rfl) ?_;rintro _ w1 ⟨g1,rfl,hge1,hx1,hA1⟩;have ne1:gx≠g1:=Nat.ne_of_lt (Nat.lt_of_lt_of_le (cw.lt hX0) hge1);replace hx:=fg.ext hx hx1;replace hy:=fg.ext hy hx1;replace hX0:=cw.ext hX0 hx1;replace hY0:=cw.ext hY0 hx1;replace qi1:=ak.ext qi1 hx1;replace hX:=bo hX hx1;refine RL.nil ?_;refine ab ?_;refine RL.p rfl rfl (cj.move rfl) ?_;refine RL.p rfl rfl (sd cA (bL hx w1) rfl) ?_;refine RL.p rfl rfl (cj.move rfl) ?_;refine RL.nil ?_;refine WP.block ?_;refine WP.loop (fun mz ez uz=>∃i:Nat,∃ζ:Nat→Int,(mz=n - i)∧(ez 0=x)∧(ez 1=y)∧(ez 5= .pointer (some ⟨g1,0,none⟩))∧(ez 8= .int .i64 ((n:Nat)))∧(ez 9= .int .i64 ((i:Nat)))∧(i≤n)∧(∀j,i≤j→j<n→ζ j=zy j)∧(Keeps (fun b=>b=gx) w uz)∧(fg uz x gx n)∧(fg uz y gy n)∧(cw uz gx n (kJ zx zy zk i) b)∧(cw uz gy n ζ b)∧(ak uz (.agg #[ca1,cb1]:Value) zk btk)∧(aY uz g1 49 2 (bU [ca1,cb1]))) (n - 0) ?_ ?_
 · exact ⟨0,zy,rfl,rfl,rfl,rfl,rfl,rfl,(by omega),(fun j _ _=>rfl),hX,hx,hy,cw.congr hX0 (fun j _=>by simp [kJ]),hY0,qi1,hA1⟩
 rintro m1 e1 w2 ⟨i,ζ,hm1,s0_e1,s1_e1,s5_e1,s8_e1,s9_e1,hi,hal,hX1,hx,hy,hX0,hY0,qi1,hA1⟩;refine ab ?_;refine RL.p rfl rfl (cj.lss s9_e1 s8_e1) ?_;refine RL.nil ?_;refine WP.seq ?_;refine ae (((i:Nat):Int)<((n:Nat):Int)) rfl (fun c10=> ?_) (fun c10=> ?_)
 ·
  refine WP.skip ?_;refine pl.norm ?_;refine WP.seq ?_;refine WP.block ?_;refine ab ?_;refine RL.p rfl rfl (cj.move s9_e1) ?_;refine RL.p rfl rfl (cj.assign rfl) ?_;refine RL.nil ?_;refine WP.ds am 14 [_,_,_,_,_,_,_,_,_,_,_,_,_,_] rfl rfl (fun e_ w_ AV AU=>⟨fun _=>aa (cj.move ((AU 0 rfl s0_e1))),fun _=>aa (cj.move ((AU 6 rfl rfl))),fun _=>aa (cj.move ((AU 0 rfl s0_e1))),fun _=>aa (cj.move ((AU 6 rfl rfl))),fun AT=>aa (aR (j:=i) cA (bL hx w_) (AT 2 rfl) (AT 3 rfl) (by omega) (by omega)),fun AT=>ag (bN (j:=i) aq (AT 4 rfl) (cw.ext hX0 AV) (by omega)),fun _=>aa (af [ca1,cb1] aq ((AU 5 rfl s5_e1)) ((aY.ext hA1 AV).cells 0 _ rfl rfl)),fun _=>aa (cj.move ((AU 1 rfl s1_e1))),fun _=>aa (cj.move ((AU 6 rfl rfl))),fun AT=>aa (aR (j:=i) cA (bL hy w_) (AT 7 rfl) (AT 8 rfl) (by omega) (by omega)),fun AT=>ag (bN (j:=i) aq (AT 9 rfl) (cw.ext hY0 AV) (by omega)),fun AT=>cQ.call pF (aC ((AT 6 rfl)) rfl) (qB _ _ _ _ _ _ _ ((btk) + (b)) ((ak.ext qi1 AV)) ((AT 10 rfl)) (by omega) (by omega)),fun AT=>cQ.call mh (aC rfl rfl) (qC _ _ _ _ _ _ _ (max (b) ((btk) + (b)) + 1) ((AT 5 rfl)) ((AT 11 rfl)) (by omega) (by omega) (by omega)),fun AT=>aa (aR (j:=i) cA (bL hx w_) (AT 0 rfl) (AT 1 rfl) (by omega) (by omega)),trivial⟩) ?_;intro e2 w3 hx2 ho3 hf1;replace hx:=fg.ext hx hx2;replace hy:=fg.ext hy hx2;replace hX0:=cw.ext hX0 hx2;replace hY0:=cw.ext hY0 hx2;replace qi1:=ak.ext qi1 hx2;replace hA1:=aY.ext hA1 hx2;replace hX1:=bo hX1 hx2;have s0_e2:=ho3 0 rfl s0_e1;have s1_e2:=ho3 1 rfl s1_e1;have s5_e2:=ho3 5 rfl s5_e1;have s8_e2:=ho3 8 rfl s8_e1;have s9_e2:=ho3 9 rfl s9_e1;have s24_e2:ak w3 (e2 24) (((kJ zx zy zk i) i:Int) + ((zk:Int)*(ζ i:Int):Int)) (max (b) ((btk) + (b)) + 1):=hf1 12 rfl;have s25_e2:e2 25=_:=hf1 13 rfl;refine RL.x rfl rfl (gL (j:=i) bf s25_e2 rfl (ak.eq s24_e2 (uM hal (by omega)) (hfit i (by omega)) (by omega)) hX0 (by omega)) ?_;rintro _ w4 ⟨hk1,hN1⟩;replace qi1:=cW qi1 hk1 hX0;replace hA1:=hA1.keep hk1 (Ne.symm ne1);replace hX1:=hX1.step hk1 (fun b e=>by subst e;exact .inl rfl);obtain ⟨ζ2,hY1,hal2⟩:=pm hY0 hN1 hk1 hX0;replace hY0:=hY1;replace hX0:=hN1;refine RL.nil ?_;refine iD.norm ?_;refine pl.norm ?_;refine WP.region ?_;refine RL.p rfl rfl (cj.add (c:=((i + 1:Nat):Int)) s9_e2 rfl (bT (by omega))) ?_;refine RL.p rfl rfl (cj.move rfl) ?_;refine RL.nil ?_;refine pl.norm ⟨_,(by omega),i + 1,ζ2,rfl,s0_e2,s1_e2,s5_e2,s8_e2,rfl,(by omega),(yA hal hal2 hxy),hX1,hx,hy,fQ hX0 (uN zx zy zk i),hY0,qi1,hA1⟩
 ·
  refine WP.exit ?_;refine pl.exit ?_;refine pl.exit ?_;refine iD.same ?_;refine ⟨.tuple #[],Am.zero,_,rfl,hX1,?_⟩;dsimp only;exact cw.congr hX0 (fun j hj=>by unfold kJ;rw [if_pos (by omega)])
set_option maxRecDepth 10000 in
theorem qm (w:World) (B gw r c:Nat) (M U V:Nat→Nat→Int) (b:Nat) (i:Nat) (j:Nat) (k:Value) (zk:Int) (btk:Nat) (hW:cZ 74 w B gw r c M U V b) (hi:i<r) (hj:j<r) (hk:ak w k zk btk) (hij:i≠j) (hb:btk + b + 2≤bj) (hfM:∀a,a<c→(M i a + zk*M j a).natAbs<2^b) (hfU:∀a,a<r→(U i a + zk*U j a).natAbs<2^b) (hfV:∀a,a<r→(V a j - zk*V a i).natAbs<2^b):Calls Tryz.prog 41 #[.pointer (some ⟨gw,0,none⟩),.int .i64 (i:Nat),.int .i64 (j:Nat),k] w (pn (eG B w) w fun v w'=>cZ 74 w' B gw r c (dw M i j zk) (dw U i j zk) (eb V i j zk) b):=by
 have hLIM:bj=562949953421312:=rfl;obtain ⟨hm,hu,hv,km,ku,kv,ρm,ρu,ρv,hBg,hG,hMm,hMu,hMv,nmu,nmv,nuv,dmu,dmv,duv⟩:=hW;have hdm:=cY.dlim hMm;have hcm:=cY.clim hMm;have hdu:=cY.dlim hMu;have hdv:=cY.dlim hMv;have h0m:=hMm;have h0u:=hMu;have h0v:=hMv;refine ai (N:=74) (rs:= #[]) Tryz.func41 rfl rfl rfl (Nat.le_of_ble_eq_true rfl) ?_;have hX:Keeps (eG B w) w w:=Keeps.refl _ w;refine ab ?_;obtain ⟨ca1,cb1,hq1,ho1,ho2⟩:=ak.cells hk;have qi1:ak w (.agg #[ca1,cb1]) zk btk:=hq1▸hk;refine RL.x rfl rfl (cQ.box [ca1,cb1] hq1 rfl) ?_;rintro _ w1 ⟨g1,rfl,hge1,hx1,hA1⟩;have ne2:∀ii,ii<r→ρm ii≠g1:=fun ii hi=>Nat.ne_of_lt (Nat.lt_of_lt_of_le (cY.rowlt hMm hi) hge1)
 have ne4:∀ii,ii<r→ρu ii≠g1:=fun ii hi=>Nat.ne_of_lt (Nat.lt_of_lt_of_le (cY.rowlt hMu hi) hge1)
 have ne6:∀ii,ii<r→ρv ii≠g1:=fun ii hi=>Nat.ne_of_lt (Nat.lt_of_lt_of_le (cY.rowlt hMv hi) hge1)
 replace hG:=aY.ext hG hx1;replace hMm:=cY.ext hMm hx1;replace hMu:=cY.ext hMu hx1;replace hMv:=cY.ext hMv hx1;replace hk:=ak.ext hk hx1;replace qi1:=ak.ext qi1 hx1;replace hX:=bo hX hx1;refine RL.nil ?_;refine WP.seq ?_;refine ab ?_;refine RL.p rfl rfl (af [ca1,cb1] aq rfl (hA1.cells 0 _ rfl rfl)) ?_;refine RL.x rfl rfl (cQ.call jj (aL rfl) (fO _ _ _ _ qi1)) ?_;rintro _ w2 ⟨hx2,rfl⟩;replace hG:=aY.ext hG hx2;replace hMm:=cY.ext hMm hx2;replace hMu:=cY.ext hMu hx2;replace hMv:=cY.ext hMv hx2;replace hk:=ak.ext hk hx2;replace qi1:=ak.ext qi1 hx2;replace hA1:=aY.ext hA1 hx2;replace hX:=bo hX hx2;refine RL.p rfl rfl (cj.eql rfl rfl) ?_;refine RL.nil ?_;refine ae (((zk:Int).sign:Int)=(0:Int)) rfl (fun c12=> ?_) (fun c12=> ?_)
 ·
  refine WP.ret ?_;refine pl.ret ?_;refine ⟨.tuple #[],Am.zero,_,rfl,hX,?_⟩;dsimp only;have hz0:zk=0:=by simpa [Int.sign_eq_zero_iff_zero] using c12
  exact ⟨hm,hu,hv,km,ku,kv,_,_,_,hBg,hG,bZ hMm (ib M i j hz0).symm,bZ hMu (ib U i j hz0).symm,bZ hMv (Aj V i j hz0).symm,nmu,nmv,nuv,dmu,dmv,duv⟩
 ·
  refine WP.skip ?_;refine pl.norm ?_;refine aF am 17 [_,_,_,_,_,_,_,_,_,_,_,_,_,_,_,_,_] rfl rfl (fun e_ w_ AV AU=>⟨fun _=>aa (cj.move ((AU 0 rfl rfl))),fun AT=>aa (cj.nilCheck ((AT 0 rfl))),fun AT=>aa (cj.fieldAddr cB ((AT 1 rfl))),fun AT=>aa (cj.fieldAddr aw ((AT 2 rfl))),fun AT=>aa (cj.load aU ((AT 3 rfl)) ((aY.ext hG AV).at_ (i:=2) rfl rfl)),fun _=>aa (cj.move ((AU 1 rfl rfl))),fun AT=>aa (cj.index (j:=i) aK ((AT 4 rfl)) ((AT 5 rfl)) rfl (by omega) (by omega)),fun AT=>ag (aG (i:=i) bn (AT 6 rfl) (cY.ext hMm AV) (by omega)),fun _=>aa (cj.move ((AU 0 rfl rfl))),fun AT=>aa (cj.nilCheck ((AT 8 rfl))),fun AT=>aa (cj.fieldAddr cB ((AT 9 rfl))),fun AT=>aa (cj.fieldAddr aw ((AT 10 rfl))),fun AT=>aa (cj.load aU ((AT 11 rfl)) ((aY.ext hG AV).at_ (i:=2) rfl rfl)),fun _=>aa (cj.move ((AU 2 rfl rfl))),fun AT=>aa (cj.index (j:=j) aK ((AT 12 rfl)) ((AT 13 rfl)) rfl (by omega) (by omega)),fun AT=>ag (aG (i:=j) bn (AT 14 rfl) (cY.ext hMm AV) (by omega)),fun _=>aa (af [ca1,cb1] aq ((AU 7 rfl rfl)) ((aY.ext hA1 AV).cells 0 _ rfl rfl)),trivial⟩) ?_;intro e1 w3 hx3 ho3 hf1;replace hG:=aY.ext hG hx3;replace hMm:=cY.ext hMm hx3;replace hMu:=cY.ext hMu hx3;replace hMv:=cY.ext hMv hx3;replace hk:=ak.ext hk hx3;replace qi1:=ak.ext qi1 hx3;replace hA1:=aY.ext hA1 hx3;replace hX:=bo hX hx3;have s0_e1:e1 0=_:=ho3 0 rfl rfl;have s1_e1:e1 1=_:=ho3 1 rfl rfl;have s2_e1:e1 2=_:=ho3 2 rfl rfl;have s7_e1:e1 7=_:=ho3 7 rfl rfl;have s20_e1:fg w3 (e1 20) (ρm i) c:=hf1 7 rfl;have s28_e1:fg w3 (e1 28) (ρm j) c:=hf1 15 rfl;have s29_e1:e1 29=_:=hf1 16 rfl;refine RL.x rfl rfl (du nt (cH rfl rfl s29_e1) (nW _ _ _ _ _ _ _ _ _ _ _ _ (bL s20_e1 w3) (bL s28_e1 w3) qi1 (cY.row (i:=i) hMm (by omega)) (cY.row (i:=j) hMm (by omega)) (fun e=>absurd (cY.inj hMm (by omega) (by omega) e) hij) (by omega) hfM)) ?_;rintro _ w5 ⟨hk1,hN1⟩;have hR1:=cY.row (i:=i) hMm (by omega);replace hG:=bF hG hk1 hR1 (by decide);replace hMu:=cg hMu hk1 hR1 (fun ii hii=>Ne.symm (dmu i ii (by omega) hii));replace hMv:=cg hMv hk1 hR1 (fun ii hii=>Ne.symm (dmv i ii (by omega) hii));replace hk:=cW hk hk1 hR1;replace qi1:=cW qi1 hk1 hR1;replace hA1:=hA1.keep hk1 (Ne.symm (ne2 i (by omega)));replace hX:=hX.step hk1 (fun b e=>by subst e;exact (.inl (fh (i:=i) h0m (by omega))));replace hMm:=cY.setRow (i:=i) hMm (by omega) hk1 hN1;refine RL.nil ?_;refine aF am 17 [_,_,_,_,_,_,_,_,_,_,_,_,_,_,_,_,_] rfl rfl (fun e_ w_ AV AU=>⟨fun _=>aa (cj.move ((AU 0 rfl s0_e1))),fun AT=>aa (cj.nilCheck ((AT 0 rfl))),fun AT=>aa (cj.fieldAddr dF ((AT 1 rfl))),fun AT=>aa (cj.fieldAddr aw ((AT 2 rfl))),fun AT=>aa (cj.load aU ((AT 3 rfl)) ((aY.ext hG AV).at_ (i:=5) rfl rfl)),fun _=>aa (cj.move ((AU 1 rfl s1_e1))),fun AT=>aa (cj.index (j:=i) aK ((AT 4 rfl)) ((AT 5 rfl)) rfl (by omega) (by omega)),fun AT=>ag (aG (i:=i) bn (AT 6 rfl) (cY.ext hMu AV) (by omega)),fun _=>aa (cj.move ((AU 0 rfl s0_e1))),fun AT=>aa (cj.nilCheck ((AT 8 rfl))),fun AT=>aa (cj.fieldAddr dF ((AT 9 rfl))),fun AT=>aa (cj.fieldAddr aw ((AT 10 rfl))),fun AT=>aa (cj.load aU ((AT 11 rfl)) ((aY.ext hG AV).at_ (i:=5) rfl rfl)),fun _=>aa (cj.move ((AU 2 rfl s2_e1))),fun AT=>aa (cj.index (j:=j) aK ((AT 12 rfl)) ((AT 13 rfl)) rfl (by omega) (by omega)),fun AT=>ag (aG (i:=j) bn (AT 14 rfl) (cY.ext hMu AV) (by omega)),fun _=>aa (af [ca1,cb1] aq ((AU 7 rfl s7_e1)) ((aY.ext hA1 AV).cells 0 _ rfl rfl)),trivial⟩) ?_;intro e2 w6 hx5 ho4 hf2;replace hG:=aY.ext hG hx5;replace hMm:=cY.ext hMm hx5;replace hMu:=cY.ext hMu hx5;replace hMv:=cY.ext hMv hx5;replace hk:=ak.ext hk hx5;replace qi1:=ak.ext qi1 hx5;replace hA1:=aY.ext hA1 hx5;replace hX:=bo hX hx5;have s0_e2:=ho4 0 rfl s0_e1;have s1_e2:=ho4 1 rfl s1_e1;have s2_e2:=ho4 2 rfl s2_e1;have s7_e2:=ho4 7 rfl s7_e1;have s38_e2:fg w6 (e2 38) (ρu i) r:=hf2 7 rfl;have s46_e2:fg w6 (e2 46) (ρu j) r:=hf2 15 rfl;have s47_e2:e2 47=_:=hf2 16 rfl;refine RL.x rfl rfl (du nt (cH rfl rfl s47_e2) (nW _ _ _ _ _ _ _ _ _ _ _ _ (bL s38_e2 w6) (bL s46_e2 w6) qi1 (cY.row (i:=i) hMu (by omega)) (cY.row (i:=j) hMu (by omega)) (fun e=>absurd (cY.inj hMu (by omega) (by omega) e) hij) (by omega) hfU)) ?_;rintro _ w8 ⟨hk2,hN2⟩;have hR2:=cY.row (i:=i) hMu (by omega);replace hG:=bF hG hk2 hR2 (by decide);replace hMm:=cg hMm hk2 hR2 (fun ii hii=>dmu ii i hii (by omega));replace hMv:=cg hMv hk2 hR2 (fun ii hii=>Ne.symm (duv i ii (by omega) hii));replace hk:=cW hk hk2 hR2;replace qi1:=cW qi1 hk2 hR2;replace hA1:=hA1.keep hk2 (Ne.symm (ne4 i (by omega)));replace hX:=hX.step hk2 (fun b e=>by subst e;exact (.inl (fh (i:=i) h0u (by omega))));replace hMu:=cY.setRow (i:=i) hMu (by omega) hk2 hN2;refine RL.nil ?_;refine ab ?_;refine RL.p rfl rfl (cj.move s0_e2) ?_;refine RL.p rfl rfl (cj.nilCheck rfl) ?_;refine RL.p rfl rfl (cj.fieldAddr jx rfl) ?_;refine RL.p rfl rfl (cj.fieldAddr aw rfl) ?_;refine RL.p rfl rfl (cj.load aU rfl (hG.at_ (i:=8) rfl rfl)) ?_;refine RL.p rfl rfl (cj.len aK rfl) ?_;refine RL.p rfl rfl (cj.move rfl) ?_;refine RL.nil ?_;refine WP.block ?_;refine WP.loop (fun mz ez uz=>∃a:Nat,(mz=r - a)∧(ez 1= .int .i64 ((i:Nat)))∧(ez 2= .int .i64 ((j:Nat)))∧(ez 7= .pointer (some ⟨g1,0,none⟩))∧(ez 53= .slice (some ⟨hv,0,none⟩) (r) (kv))∧(ez 54= .int .i64 ((r:Nat)))∧(ez 55= .int .i64 ((a:Nat)))∧(a≤r)∧(Keeps (eG B w) w uz)∧(aY uz gw 74 9 (bU [.int .i64 ((r:Nat)),.int .i64 ((c:Nat)),.slice (some ⟨hm,0,none⟩) (r) (km),.int .i64 ((r:Nat)),.int .i64 ((r:Nat)),.slice (some ⟨hu,0,none⟩) (r) (ku),.int .i64 ((r:Nat)),.int .i64 ((r:Nat)),.slice (some ⟨hv,0,none⟩) (r) (kv)]))∧(cY uz B hm km r c ρm (setRow M i (fun c=>M i c + zk*M j c)) b)∧(cY uz B hu ku r r ρu (setRow U i (fun c=>U i c + zk*U j c)) b)∧(cY uz B hv kv r r ρv (fp V (eb V i j zk) a) b)∧(ak uz k zk btk)∧(ak uz (.agg #[ca1,cb1]:Value) zk btk)∧(aY uz g1 49 2 (bU [ca1,cb1]))) (r - 0) ?_ ?_
  · exact ⟨0,rfl,s1_e2,s2_e2,s7_e2,rfl,rfl,rfl,(by omega),hX,hG,hMm,hMu,bZ hMv (iV V (eb V i j zk)).symm,hk,qi1,hA1⟩
  rintro m1 e3 w9 ⟨a,hm1,s1_e3,s2_e3,s7_e3,s53_e3,s54_e3,s55_e3,ha,hX1,hG,hMm,hMu,hMv,hk,qi1,hA1⟩;refine ab ?_;refine RL.p rfl rfl (cj.lss s55_e3 s54_e3) ?_;refine RL.nil ?_;refine WP.seq ?_;refine ae (((a:Nat):Int)<((r:Nat):Int)) rfl (fun c56=> ?_) (fun c56=> ?_)
  ·
   refine WP.skip ?_;refine pl.norm ?_;refine WP.seq ?_;refine WP.block ?_;refine ab ?_;refine RL.p rfl rfl (cj.index (j:=a) aK s53_e3 s55_e3 rfl (by omega) (by omega)) ?_;refine RL.x rfl rfl (aG (i:=a) bn rfl hMv (by omega)) ?_;rintro v1 _ ⟨rfl,q1⟩;refine RL.p rfl rfl (cj.assign rfl) ?_;refine RL.nil ?_;refine WP.ds am 14 [_,_,_,_,_,_,_,_,_,_,_,_,_,_] rfl rfl (fun e_ w_ AV AU=>⟨fun _=>aa (cj.move ((AU 9 rfl rfl))),fun _=>aa (cj.move ((AU 2 rfl s2_e3))),fun _=>aa (cj.move ((AU 9 rfl rfl))),fun _=>aa (cj.move ((AU 2 rfl s2_e3))),fun AT=>aa (aR (j:=j) bE (bL q1 w_) (AT 2 rfl) (AT 3 rfl) (by omega) (by omega)),fun AT=>ag (bN (j:=j) aq (AT 4 rfl) (cY.row (cY.ext hMv AV) (by omega)) (by omega)),fun _=>aa (af [ca1,cb1] aq ((AU 7 rfl s7_e3)) ((aY.ext hA1 AV).cells 0 _ rfl rfl)),fun _=>aa (cj.move ((AU 9 rfl rfl))),fun _=>aa (cj.move ((AU 1 rfl s1_e3))),fun AT=>aa (aR (j:=i) bE (bL q1 w_) (AT 7 rfl) (AT 8 rfl) (by omega) (by omega)),fun AT=>ag (bN (j:=i) aq (AT 9 rfl) (cY.row (cY.ext hMv AV) (by omega)) (by omega)),fun AT=>cQ.call pF (aC ((AT 6 rfl)) rfl) (qB _ _ _ _ _ _ _ ((btk) + (b)) ((ak.ext qi1 AV)) ((AT 10 rfl)) (by omega) (by omega)),fun AT=>cQ.call zf (aC rfl rfl) (Ai _ _ _ _ _ _ _ (max (b) ((btk) + (b)) + 1) ((AT 5 rfl)) ((AT 11 rfl)) (by omega) (by omega) (by omega)),fun AT=>aa (aR (j:=j) bE (bL q1 w_) (AT 0 rfl) (AT 1 rfl) (by omega) (by omega)),trivial⟩) ?_;intro e4 w10 hx7 ho5 hf3;replace hG:=aY.ext hG hx7;replace hMm:=cY.ext hMm hx7;replace hMu:=cY.ext hMu hx7;replace hMv:=cY.ext hMv hx7;replace hk:=ak.ext hk hx7;replace qi1:=ak.ext qi1 hx7;replace hA1:=aY.ext hA1 hx7;replace hX1:=bo hX1 hx7;have s1_e4:=ho5 1 rfl s1_e3;have s2_e4:=ho5 2 rfl s2_e3;have s7_e4:=ho5 7 rfl s7_e3;have s53_e4:=ho5 53 rfl s53_e3;have s54_e4:=ho5 54 rfl s54_e3;have s55_e4:=ho5 55 rfl s55_e3;have s71_e4:ak w10 (e4 71) (((fp V (eb V i j zk) a) a j:Int) - ((zk:Int)*((fp V (eb V i j zk) a) a i:Int):Int)) (max (b) ((btk) + (b)) + 1):=hf3 12 rfl;have s72_e4:e4 72=_:=hf3 13 rfl;refine RL.x rfl rfl (cU (i:=a) (j:=j) bf s72_e4 rfl (ak.eq s71_e4 (by rw [ff,ff]) (hfV a (by omega)) (by omega)) hMv (by omega) (by omega)) ?_;rintro _ w11 ⟨hk3,hN3⟩;have hR3:=cY.row (i:=a) hMv (by omega);replace hG:=bF hG hk3 hR3 (by decide);replace hMm:=cg hMm hk3 hR3 (fun ii hii=>dmv ii a hii (by omega));replace hMu:=cg hMu hk3 hR3 (fun ii hii=>duv ii a hii (by omega));replace hk:=cW hk hk3 hR3;replace qi1:=cW qi1 hk3 hR3;replace hA1:=hA1.keep hk3 (Ne.symm (ne6 a (by omega)));replace hX1:=hX1.step hk3 (fun b e=>by subst e;exact (.inl (fh (i:=a) h0v (by omega))));replace hMv:=hN3;clear hR3;refine RL.nil ?_;refine iD.norm ?_;refine pl.norm ?_;refine WP.region ?_;refine RL.p rfl rfl (cj.add (c:=((a + 1:Nat):Int)) s55_e4 rfl (bT (by omega))) ?_;refine RL.p rfl rfl (cj.move rfl) ?_;refine RL.nil ?_;refine pl.norm ⟨_,(by omega),a + 1,rfl,s1_e4,s2_e4,s7_e4,s53_e4,s54_e4,rfl,(by omega),hX1,hG,hMm,hMu,bZ hMv (lL (by simp [eb]) (fun c hc=>by simp [eb,hc])),hk,qi1,hA1⟩
  ·
   refine WP.exit ?_;refine pl.exit ?_;refine pl.exit ?_;refine iD.same ?_;refine ⟨.tuple #[],Am.zero,_,rfl,hX1,?_⟩;dsimp only;exact ⟨hm,hu,hv,km,ku,kv,_,_,_,hBg,hG,(bZ hMm (jX M i j zk)),(bZ hMu (jX U i j zk)),(cY.congr hMv (fun a c ha hc=>kG V _ c (by omega))),nmu,nmv,nuv,dmu,dmv,duv⟩
set_option maxRecDepth 10000 in
theorem yn (w:World) (B gw r c:Nat) (M U V:Nat→Nat→Int) (b:Nat) (i:Nat) (j:Nat) (hW:cZ 74 w B gw r c M U V b) (hi:i<r) (hj:j<r):Calls Tryz.prog 84 #[.pointer (some ⟨gw,0,none⟩),.int .i64 (i:Nat),.int .i64 (j:Nat)] w (pn (eG B w) w fun v w'=>cZ 74 w' B gw r c (cE M i j) (cE U i j) (dk V i j) b):=by
 have hLIM:bj=562949953421312:=rfl;obtain ⟨hm,hu,hv,km,ku,kv,ρm,ρu,ρv,hBg,hG,hMm,hMu,hMv,nmu,nmv,nuv,dmu,dmv,duv⟩:=hW;have hdm:=cY.dlim hMm;have hcm:=cY.clim hMm;have hdu:=cY.dlim hMu;have hdv:=cY.dlim hMv;have h0m:=hMm;have h0u:=hMu;have h0v:=hMv;refine ai (N:=93) (rs:= #[]) Tryz.func84 rfl rfl rfl (Nat.le_of_ble_eq_true rfl) ?_;have hX:Keeps (eG B w) w w:=Keeps.refl _ w;refine gK am 29 [_,_,_,_,_,_,_,_,_,_,_,_,_,_,_,_,_,_,_,_,_,_,_,_,_,_,_,_,_] (Apart.of (fun _ _ _=>False) [] rfl ⟨(fun h=>by cases h),(fun h=>by cases h),(fun h=>by cases h),(fun h=>by cases h),(fun h=>by cases h),(fun h=>by cases h),(fun h=>by cases h),(fun h=>by cases h),(fun h=>by cases h),(fun h=>by cases h),(fun h=>by cases h),(fun h=>by cases h),(fun h=>by cases h),(fun h=>by cases h),(fun h=>by cases h),(fun h=>by cases h),(fun h=>by cases h),(fun h=>by cases h),(fun h=>by cases h),(fun h=>by cases h),(fun h=>by cases h),(fun h=>by cases h),(fun h=>by cases h),(fun h=>by cases h),(fun h=>by cases h),(fun h=>by cases h),(fun h=>by cases h),(fun h=>by cases h),(fun h=>by cases h),trivial⟩) 11 (vk:= .int .i64 ((j:Nat))) rfl rfl rfl (by kernel_rfl) (by kernel_rfl) (by kernel_rfl) (by kernel_rfl) rfl rfl ⟨ac _,ac _,ac _,ac _,ac _,ac _,ac _,ac _,ac _,ac _,ac _,ac _,ac _,ac _,ac _,ac _,ac _,ac _,ac _,dH _ _,ac _,ac _,ac _,ac _,ac _,ac _,ac _,dH _ _,ac _,trivial⟩ ⟨fun e_ w_ AV AU AT=>aS rfl (aa (cj.move (((AU 0 rfl).trans rfl)))),fun e_ w_ AV AU AT=>aS rfl (aa (cj.nilCheck ((AT 0 rfl)))),fun e_ w_ AV AU AT=>aS rfl (aa (cj.fieldAddr cB ((AT 1 rfl)))),fun e_ w_ AV AU AT=>aS rfl (aa (cj.fieldAddr aw ((AT 2 rfl)))),fun e_ w_ AV AU AT=>aS rfl (aa (cj.load aU ((AT 3 rfl)) ((aY.ext hG AV).at_ (i:=2) rfl rfl))),fun e_ w_ AV AU AT=>aS rfl (aa (cj.move (((AU 1 rfl).trans rfl)))),fun e_ w_ AV AU AT=>aS rfl (aa (cj.move (((AU 0 rfl).trans rfl)))),fun e_ w_ AV AU AT=>aS rfl (aa (cj.nilCheck ((AT 6 rfl)))),fun e_ w_ AV AU AT=>aS rfl (aa (cj.fieldAddr cB ((AT 7 rfl)))),fun e_ w_ AV AU AT=>aS rfl (aa (cj.fieldAddr aw ((AT 8 rfl)))),fun e_ w_ AV AU AT=>aS rfl (aa (cj.load aU ((AT 9 rfl)) ((aY.ext hG AV).at_ (i:=2) rfl rfl))),fun e_ w_ AV AU AT=>aS rfl (aa (cj.move (((AU 2 rfl).trans rfl)))),fun e_ w_ AV AU AT=>aS rfl (aa (cj.move (((AU 0 rfl).trans rfl)))),fun e_ w_ AV AU AT=>aS rfl (aa (cj.nilCheck ((AT 12 rfl)))),fun e_ w_ AV AU AT=>aS rfl (aa (cj.fieldAddr cB ((AT 13 rfl)))),fun e_ w_ AV AU AT=>aS rfl (aa (cj.fieldAddr aw ((AT 14 rfl)))),fun e_ w_ AV AU AT=>aS rfl (aa (cj.load aU ((AT 15 rfl)) ((aY.ext hG AV).at_ (i:=2) rfl rfl))),fun e_ w_ AV AU AT=>aS rfl (aa (cj.move (((AU 2 rfl).trans rfl)))),fun e_ w_ AV AU AT=>aS rfl (aa (cj.index (j:=j) aK ((AT 16 rfl)) ((AT 17 rfl)) rfl (by omega) (by omega))),fun e_ w_ AV AU AT=>aS rfl (ag (aG (i:=j) bn (AT 18 rfl) (cY.ext hMm AV) (by omega))),fun e_ w_ AV AU AT=>aS rfl (aa (cj.move (((AU 0 rfl).trans rfl)))),fun e_ w_ AV AU AT=>aS rfl (aa (cj.nilCheck ((AT 20 rfl)))),fun e_ w_ AV AU AT=>aS rfl (aa (cj.fieldAddr cB ((AT 21 rfl)))),fun e_ w_ AV AU AT=>aS rfl (aa (cj.fieldAddr aw ((AT 22 rfl)))),fun e_ w_ AV AU AT=>aS rfl (aa (cj.load aU ((AT 23 rfl)) ((aY.ext hG AV).at_ (i:=2) rfl rfl))),fun e_ w_ AV AU AT=>aS rfl (aa (cj.move (((AU 1 rfl).trans rfl)))),fun e_ w_ AV AU AT=>aS rfl (aa (cj.index (j:=i) aK ((AT 24 rfl)) ((AT 25 rfl)) rfl (by omega) (by omega))),fun e_ w_ AV AU AT=>aS rfl (ag (aG (i:=i) bn (AT 26 rfl) (cY.ext hMm AV) (by omega))),fun e_ w_ AV AU AT=>aS rfl (aa (cj.index (j:=i) aK ((AT 4 rfl)) ((AT 5 rfl)) rfl (by omega) (by omega))),trivial⟩ (fun _=>cj.move rfl) (fun _=>rfl) (iv rfl) ?_;intro e1 w1 hx1 ho1 hf1 hp1;replace hG:=aY.ext hG hx1;replace hMm:=cY.ext hMm hx1;replace hMu:=cY.ext hMu hx1;replace hMv:=cY.ext hMv hx1;replace hX:=bo hX hx1;have s0_e1:e1 0= .pointer (some ⟨gw,0,none⟩):=(ho1 0 rfl).trans rfl;have s1_e1:e1 1= .int .i64 ((i:Nat)):=(ho1 1 rfl).trans rfl;have s2_e1:e1 2= .int .i64 ((j:Nat)):=(ho1 2 rfl).trans rfl;have s18_e1:e1 18=_:=hf1 10 rfl;have s19_e1:e1 19=_:=hf1 11 rfl;have s27_e1:fg w1 (e1 27) (ρm j) c:=hf1 19 rfl;have s35_e1:fg w1 (e1 35) (ρm i) c:=hf1 27 rfl;have s36_e1:e1 36=_:=hf1 28 rfl;obtain ⟨fh1,hH1⟩:=cY.split hMm;refine RL.x rfl rfl (dq (i:=i) (g:=(ρm j)) (n:=c) (f:=fh1) ji s36_e1 rfl (bL s27_e1 w1) hH1 (by omega)) ?_;rintro _ w2 ⟨hk1,hN1⟩;have hMo1:=hMm;have hH01:=hH1;replace hG:=hG.keep hk1 (hG.ne hH01 (by decide));replace hMu:=cP hMu hk1 hH01 (Ne.symm nmu);replace hMv:=cP hMv hk1 hH01 (Ne.symm nmv);replace hX:=hX.step hk1 (fun b e=>by subst e;exact (.inl (fi h0m)));refine RL.p rfl rfl (cj.index (j:=j) aK s18_e1 s19_e1 rfl (by omega) (by omega)) ?_;refine RL.x rfl rfl (dq (i:=j) (g:=(ρm i)) (n:=c) (f:=(dM fh1 (0 + i*1) [(e1 27)])) ji rfl rfl (bL s35_e1 w2) hN1 (by omega)) ?_;rintro _ w3 ⟨hk2,hN2⟩;have hH02:=hN1;replace hG:=hG.keep hk2 (hG.ne hH02 (by decide));replace hMu:=cP hMu hk2 hH02 (Ne.symm nmu);replace hMv:=cP hMv hk2 hH02 (Ne.symm nmv);replace hX:=hX.step hk2 (fun b e=>by subst e;exact (.inl (fi h0m)));have hk3:=hk1.step hk2 (fun b e=> .inl e);have hMm:=js (i:=i) (j:=j) hMo1 hH1 hk3 hN2 (bL s27_e1 w1) (bL s35_e1 w2) (by omega) (by omega);replace dmu:=mi (i:=i) (j:=j) dmu (by omega) (by omega);replace dmv:=mi (i:=i) (j:=j) dmv (by omega) (by omega);refine RL.nil ?_;refine gK am 29 [_,_,_,_,_,_,_,_,_,_,_,_,_,_,_,_,_,_,_,_,_,_,_,_,_,_,_,_,_] (Apart.of (fun _ _ _=>False) [] rfl ⟨(fun h=>by cases h),(fun h=>by cases h),(fun h=>by cases h),(fun h=>by cases h),(fun h=>by cases h),(fun h=>by cases h),(fun h=>by cases h),(fun h=>by cases h),(fun h=>by cases h),(fun h=>by cases h),(fun h=>by cases h),(fun h=>by cases h),(fun h=>by cases h),(fun h=>by cases h),(fun h=>by cases h),(fun h=>by cases h),(fun h=>by cases h),(fun h=>by cases h),(fun h=>by cases h),(fun h=>by cases h),(fun h=>by cases h),(fun h=>by cases h),(fun h=>by cases h),(fun h=>by cases h),(fun h=>by cases h),(fun h=>by cases h),(fun h=>by cases h),(fun h=>by cases h),(fun h=>by cases h),trivial⟩) 11 (vk:= .int .i64 ((j:Nat))) rfl rfl rfl (by kernel_rfl) (by kernel_rfl) (by kernel_rfl) (by kernel_rfl) rfl rfl ⟨ac _,ac _,ac _,ac _,ac _,ac _,ac _,ac _,ac _,ac _,ac _,ac _,ac _,ac _,ac _,ac _,ac _,ac _,ac _,dH _ _,ac _,ac _,ac _,ac _,ac _,ac _,ac _,dH _ _,ac _,trivial⟩ ⟨fun e_ w_ AV AU AT=>aS rfl (aa (cj.move (((AU 0 rfl).trans s0_e1)))),fun e_ w_ AV AU AT=>aS rfl (aa (cj.nilCheck ((AT 0 rfl)))),fun e_ w_ AV AU AT=>aS rfl (aa (cj.fieldAddr dF ((AT 1 rfl)))),fun e_ w_ AV AU AT=>aS rfl (aa (cj.fieldAddr aw ((AT 2 rfl)))),fun e_ w_ AV AU AT=>aS rfl (aa (cj.load aU ((AT 3 rfl)) ((aY.ext hG AV).at_ (i:=5) rfl rfl))),fun e_ w_ AV AU AT=>aS rfl (aa (cj.move (((AU 1 rfl).trans s1_e1)))),fun e_ w_ AV AU AT=>aS rfl (aa (cj.move (((AU 0 rfl).trans s0_e1)))),fun e_ w_ AV AU AT=>aS rfl (aa (cj.nilCheck ((AT 6 rfl)))),fun e_ w_ AV AU AT=>aS rfl (aa (cj.fieldAddr dF ((AT 7 rfl)))),fun e_ w_ AV AU AT=>aS rfl (aa (cj.fieldAddr aw ((AT 8 rfl)))),fun e_ w_ AV AU AT=>aS rfl (aa (cj.load aU ((AT 9 rfl)) ((aY.ext hG AV).at_ (i:=5) rfl rfl))),fun e_ w_ AV AU AT=>aS rfl (aa (cj.move (((AU 2 rfl).trans s2_e1)))),fun e_ w_ AV AU AT=>aS rfl (aa (cj.move (((AU 0 rfl).trans s0_e1)))),fun e_ w_ AV AU AT=>aS rfl (aa (cj.nilCheck ((AT 12 rfl)))),fun e_ w_ AV AU AT=>aS rfl (aa (cj.fieldAddr dF ((AT 13 rfl)))),fun e_ w_ AV AU AT=>aS rfl (aa (cj.fieldAddr aw ((AT 14 rfl)))),fun e_ w_ AV AU AT=>aS rfl (aa (cj.load aU ((AT 15 rfl)) ((aY.ext hG AV).at_ (i:=5) rfl rfl))),fun e_ w_ AV AU AT=>aS rfl (aa (cj.move (((AU 2 rfl).trans s2_e1)))),fun e_ w_ AV AU AT=>aS rfl (aa (cj.index (j:=j) aK ((AT 16 rfl)) ((AT 17 rfl)) rfl (by omega) (by omega))),fun e_ w_ AV AU AT=>aS rfl (ag (aG (i:=j) bn (AT 18 rfl) (cY.ext hMu AV) (by omega))),fun e_ w_ AV AU AT=>aS rfl (aa (cj.move (((AU 0 rfl).trans s0_e1)))),fun e_ w_ AV AU AT=>aS rfl (aa (cj.nilCheck ((AT 20 rfl)))),fun e_ w_ AV AU AT=>aS rfl (aa (cj.fieldAddr dF ((AT 21 rfl)))),fun e_ w_ AV AU AT=>aS rfl (aa (cj.fieldAddr aw ((AT 22 rfl)))),fun e_ w_ AV AU AT=>aS rfl (aa (cj.load aU ((AT 23 rfl)) ((aY.ext hG AV).at_ (i:=5) rfl rfl))),fun e_ w_ AV AU AT=>aS rfl (aa (cj.move (((AU 1 rfl).trans s1_e1)))),fun e_ w_ AV AU AT=>aS rfl (aa (cj.index (j:=i) aK ((AT 24 rfl)) ((AT 25 rfl)) rfl (by omega) (by omega))),fun e_ w_ AV AU AT=>aS rfl (ag (aG (i:=i) bn (AT 26 rfl) (cY.ext hMu AV) (by omega))),fun e_ w_ AV AU AT=>aS rfl (aa (cj.index (j:=i) aK ((AT 4 rfl)) ((AT 5 rfl)) rfl (by omega) (by omega))),trivial⟩ (fun _=>cj.move s2_e1) (fun _=>rfl) (iv rfl) ?_;intro e2 w4 hx2 ho2 hf2 hp2;replace hG:=aY.ext hG hx2;replace hMm:=cY.ext hMm hx2;replace hMu:=cY.ext hMu hx2;replace hMv:=cY.ext hMv hx2;replace hX:=bo hX hx2;have s0_e2:e2 0= .pointer (some ⟨gw,0,none⟩):=(ho2 0 rfl).trans s0_e1;have s1_e2:e2 1= .int .i64 ((i:Nat)):=(ho2 1 rfl).trans s1_e1;have s2_e2:e2 2= .int .i64 ((j:Nat)):=(ho2 2 rfl).trans s2_e1;have s48_e2:e2 48=_:=hf2 10 rfl;have s49_e2:e2 49=_:=hf2 11 rfl;have s57_e2:fg w4 (e2 57) (ρu j) r:=hf2 19 rfl;have s65_e2:fg w4 (e2 65) (ρu i) r:=hf2 27 rfl;have s66_e2:e2 66=_:=hf2 28 rfl;obtain ⟨fh2,hH2⟩:=cY.split hMu;refine RL.x rfl rfl (dq (i:=i) (g:=(ρu j)) (n:=r) (f:=fh2) ji s66_e2 rfl (bL s57_e2 w4) hH2 (by omega)) ?_;rintro _ w5 ⟨hk4,hN3⟩;have hMo2:=hMu;have hH03:=hH2;replace hG:=hG.keep hk4 (hG.ne hH03 (by decide));replace hMm:=cP hMm hk4 hH03 nmu;replace hMv:=cP hMv hk4 hH03 (Ne.symm nuv);replace hX:=hX.step hk4 (fun b e=>by subst e;exact (.inl (fi h0u)));refine RL.p rfl rfl (cj.index (j:=j) aK s48_e2 s49_e2 rfl (by omega) (by omega)) ?_;refine RL.x rfl rfl (dq (i:=j) (g:=(ρu i)) (n:=r) (f:=(dM fh2 (0 + i*1) [(e2 57)])) ji rfl rfl (bL s65_e2 w5) hN3 (by omega)) ?_;rintro _ w6 ⟨hk5,hN4⟩;have hH04:=hN3;replace hG:=hG.keep hk5 (hG.ne hH04 (by decide));replace hMm:=cP hMm hk5 hH04 nmu;replace hMv:=cP hMv hk5 hH04 (Ne.symm nuv);replace hX:=hX.step hk5 (fun b e=>by subst e;exact (.inl (fi h0u)));have hk6:=hk4.step hk5 (fun b e=> .inl e);have hMu:=js (i:=i) (j:=j) hMo2 hH2 hk6 hN4 (bL s57_e2 w4) (bL s65_e2 w5) (by omega) (by omega);replace dmu:=vl (i:=i) (j:=j) dmu (by omega) (by omega);replace duv:=mi (i:=i) (j:=j) duv (by omega) (by omega);refine RL.nil ?_;refine ab ?_;refine RL.p rfl rfl (cj.move s0_e2) ?_;refine RL.p rfl rfl (cj.nilCheck rfl) ?_;refine RL.p rfl rfl (cj.fieldAddr jx rfl) ?_;refine RL.p rfl rfl (cj.fieldAddr aw rfl) ?_;refine RL.p rfl rfl (cj.load aU rfl (hG.at_ (i:=8) rfl rfl)) ?_;refine RL.p rfl rfl (cj.len aK rfl) ?_;refine RL.p rfl rfl (cj.move rfl) ?_;refine RL.nil ?_;refine WP.block ?_;refine WP.loop (fun mz ez uz=>∃a:Nat,(mz=r - a)∧(ez 1= .int .i64 ((i:Nat)))∧(ez 2= .int .i64 ((j:Nat)))∧(ez 72= .slice (some ⟨hv,0,none⟩) (r) (kv))∧(ez 73= .int .i64 ((r:Nat)))∧(ez 74= .int .i64 ((a:Nat)))∧(a≤r)∧(Keeps (eG B w) w uz)∧(aY uz gw 74 9 (bU [.int .i64 ((r:Nat)),.int .i64 ((c:Nat)),.slice (some ⟨hm,0,none⟩) (r) (km),.int .i64 ((r:Nat)),.int .i64 ((r:Nat)),.slice (some ⟨hu,0,none⟩) (r) (ku),.int .i64 ((r:Nat)),.int .i64 ((r:Nat)),.slice (some ⟨hv,0,none⟩) (r) (kv)]))∧(cY uz B hm km r c (gC ρm i j) (cE M i j) b)∧(cY uz B hu ku r r (gC ρu i j) (cE U i j) b)∧(cY uz B hv kv r r ρv (fp V (dk V i j) a) b)) (r - 0) ?_ ?_
 · exact ⟨0,rfl,s1_e2,s2_e2,rfl,rfl,rfl,(by omega),hX,hG,hMm,hMu,bZ hMv (iV V (dk V i j)).symm⟩
 rintro m1 e3 w7 ⟨a,hm1,s1_e3,s2_e3,s72_e3,s73_e3,s74_e3,ha,hX1,hG,hMm,hMu,hMv⟩;refine ab ?_;refine RL.p rfl rfl (cj.lss s74_e3 s73_e3) ?_;refine RL.nil ?_;refine WP.seq ?_;refine ae (((a:Nat):Int)<((r:Nat):Int)) rfl (fun c75=> ?_) (fun c75=> ?_)
 ·
  refine WP.skip ?_;refine pl.norm ?_;refine WP.seq ?_;refine WP.block ?_;refine ab ?_;refine RL.p rfl rfl (cj.index (j:=a) aK s72_e3 s74_e3 rfl (by omega) (by omega)) ?_;refine RL.x rfl rfl (aG (i:=a) bn rfl hMv (by omega)) ?_;rintro v1 _ ⟨rfl,q1⟩;refine RL.p rfl rfl (cj.assign rfl) ?_;refine RL.nil ?_;refine wy am 13 [_,_,_,_,_,_,_,_,_,_,_,_,_] (Apart.of (fun _ _ _=>False) [] rfl ⟨(fun h=>by cases h),(fun h=>by cases h),(fun h=>by cases h),(fun h=>by cases h),(fun h=>by cases h),(fun h=>by cases h),(fun h=>by cases h),(fun h=>by cases h),(fun h=>by cases h),(fun h=>by cases h),(fun h=>by cases h),(fun h=>by cases h),(fun h=>by cases h),trivial⟩) [2,3] [v1,.int .i64 ((j:Nat))] (by kernel_rfl) (by kernel_rfl) (by kernel_rfl) rfl ⟨ac _,ac _,ac _,ac _,ac _,ac _,ac _,dA _ _,ac _,ac _,ac _,dA _ _,ac _,trivial⟩ ⟨fun e_ w_ AV AU AT=>aS rfl (aa (cj.move (((AU 7 rfl).trans rfl)))),fun e_ w_ AV AU AT=>aS rfl (aa (cj.move (((AU 1 rfl).trans s1_e3)))),fun e_ w_ AV AU AT=>aS rfl (aa (cj.move (((AU 7 rfl).trans rfl)))),fun e_ w_ AV AU AT=>aS rfl (aa (cj.move (((AU 2 rfl).trans s2_e3)))),fun e_ w_ AV AU AT=>aS rfl (aa (cj.move (((AU 7 rfl).trans rfl)))),fun e_ w_ AV AU AT=>aS rfl (aa (cj.move (((AU 2 rfl).trans s2_e3)))),fun e_ w_ AV AU AT=>aS rfl (aa (aR (j:=j) bE (bL q1 w_) (AT 4 rfl) (AT 5 rfl) (by omega) (by omega))),fun e_ w_ AV AU AT=>aS rfl (ag (bN (j:=j) aq (AT 6 rfl) (cY.row (cY.ext hMv AV) (by omega)) (by omega))),fun e_ w_ AV AU AT=>aS rfl (aa (cj.move (((AU 7 rfl).trans rfl)))),fun e_ w_ AV AU AT=>aS rfl (aa (cj.move (((AU 1 rfl).trans s1_e3)))),fun e_ w_ AV AU AT=>aS rfl (aa (aR (j:=i) bE (bL q1 w_) (AT 8 rfl) (AT 9 rfl) (by omega) (by omega))),fun e_ w_ AV AU AT=>aS rfl (ag (bN (j:=i) aq (AT 10 rfl) (cY.row (cY.ext hMv AV) (by omega)) (by omega))),fun e_ w_ AV AU AT=>aS rfl (aa (aR (j:=i) bE (bL q1 w_) (AT 0 rfl) (AT 1 rfl) (by omega) (by omega))),trivial⟩ ⟨⟨rfl,⟨_,rfl,fun w_ e_ AU=>cj.move (((AU 7 rfl).trans rfl))⟩,fun _=>rfl,iv rfl⟩,⟨rfl,⟨_,rfl,fun w_ e_ AU=>cj.move (((AU 2 rfl).trans s2_e3))⟩,fun _=>rfl,iv rfl⟩,trivial⟩ rfl ?_;intro e4 w8 hx3 ho3 hf3 hp3;replace hG:=aY.ext hG hx3;replace hMm:=cY.ext hMm hx3;replace hMu:=cY.ext hMu hx3;replace hMv:=cY.ext hMv hx3;replace q1:=fg.ext q1 hx3;replace hX1:=bo hX1 hx3;have s1_e4:e4 1= .int .i64 ((i:Nat)):=(ho3 1 rfl).trans s1_e3;have s2_e4:e4 2= .int .i64 ((j:Nat)):=(ho3 2 rfl).trans s2_e3;have s72_e4:e4 72= .slice (some ⟨hv,0,none⟩) (r) (kv):=(ho3 72 rfl).trans s72_e3;have s73_e4:e4 73= .int .i64 ((r:Nat)):=(ho3 73 rfl).trans s73_e3;have s74_e4:e4 74= .int .i64 ((a:Nat)):=(ho3 74 rfl).trans s74_e3;have s80_e4:e4 80=_:=hf3 2 rfl;have s81_e4:e4 81=_:=hf3 3 rfl;have s85_e4:ak w8 (e4 85) ((fp V (dk V i j) a) a j) b:=hf3 7 rfl;have s89_e4:ak w8 (e4 89) ((fp V (dk V i j) a) a i) b:=hf3 11 rfl;have s90_e4:e4 90=_:=hf3 12 rfl;refine RL.x rfl rfl (cU (i:=a) (j:=i) bf s90_e4 rfl s85_e4 hMv (by omega) (by omega)) ?_;rintro _ w9 ⟨hk7,hN5⟩;have hR1:=cY.row (i:=a) hMv (by omega);replace hG:=bF hG hk7 hR1 (by decide);replace hMm:=cg hMm hk7 hR1 (fun ii hii=>dmv ii a hii (by omega));replace hMu:=cg hMu hk7 hR1 (fun ii hii=>duv ii a hii (by omega));replace s89_e4:=cW s89_e4 hk7 hR1;replace hX1:=hX1.step hk7 (fun b e=>by subst e;exact (.inl (fh (i:=a) h0v (by omega))));replace hMv:=hN5;clear hR1;refine RL.p rfl rfl (aR (j:=j) bE (bL q1 w9) s80_e4 s81_e4 (by omega) (by omega)) ?_;refine RL.x rfl rfl (cU (i:=a) (j:=j) bf rfl rfl s89_e4 hMv (by omega) (by omega)) ?_;rintro _ w10 ⟨hk8,hN6⟩;have hR2:=cY.row (i:=a) hMv (by omega);replace hG:=bF hG hk8 hR2 (by decide);replace hMm:=cg hMm hk8 hR2 (fun ii hii=>dmv ii a hii (by omega));replace hMu:=cg hMu hk8 hR2 (fun ii hii=>duv ii a hii (by omega));replace hX1:=hX1.step hk8 (fun b e=>by subst e;exact (.inl (fh (i:=a) h0v (by omega))));replace hMv:=hN6;clear hR2;refine RL.nil ?_;refine iD.norm ?_;refine pl.norm ?_;refine WP.region ?_;refine RL.p rfl rfl (cj.add (c:=((a + 1:Nat):Int)) s74_e4 rfl (bT (by omega))) ?_;refine RL.p rfl rfl (cj.move rfl) ?_;refine RL.nil ?_;refine pl.norm ⟨_,(by omega),a + 1,rfl,s1_e4,s2_e4,s72_e4,s73_e4,rfl,(by omega),hX1,hG,hMm,hMu,bZ hMv (ph (fun h=>by rw [ff];simp [dk]) (by rw [ff];by_cases e:j=i<;>simp [dk,e]) (fun c h1 h2=>by simp [dk,h1,h2]))⟩
 ·
  refine WP.exit ?_;refine pl.exit ?_;refine pl.exit ?_;refine iD.same ?_;refine ⟨.tuple #[],Am.zero,_,rfl,hX1,?_⟩;dsimp only;exact ⟨hm,hu,hv,km,ku,kv,_,_,_,hBg,hG,hMm,hMu,(cY.congr hMv (fun a c ha hc=>kG V _ c (by omega))),nmu,nmv,nuv,dmu,dmv,duv⟩
set_option maxRecDepth 10000 in
theorem ud (w:World) (B gw r c:Nat) (M U V:Nat→Nat→Int) (b:Nat) (i:Nat) (hW:cZ 74 w B gw r c M U V b) (hi:i<r) (hc:0<c) (hb:b + 4≤bj):Calls Tryz.prog 85 #[.pointer (some ⟨gw,0,none⟩),.int .i64 (i:Nat)] w (pn (eG B w) w fun v w'=>cZ 74 w' B gw r c (eA M i) (eA U i) (fD V i) b):=by
 have hLIM:bj=562949953421312:=rfl;obtain ⟨hm,hu,hv,km,ku,kv,ρm,ρu,ρv,hBg,hG,hMm,hMu,hMv,nmu,nmv,nuv,dmu,dmv,duv⟩:=hW;have hdm:=cY.dlim hMm;have hcm:=cY.clim hMm;have hdu:=cY.dlim hMu;have hdv:=cY.dlim hMv;have h0m:=hMm;have h0u:=hMu;have h0v:=hMv;have h0G:=hG;have hbM:=fun a (ha:a<c)=>cY.bd hMm hi ha
 have hbU:=fun a (ha:a<r)=>cY.bd hMu hi ha
 refine ai (N:=95) (rs:= #[]) Tryz.func85 rfl rfl rfl (Nat.le_of_ble_eq_true rfl) ?_;have hX:Keeps (eG B w) w w:=Keeps.refl _ w;refine ab ?_;refine RL.x rfl rfl (cQ.call pH (aL rfl) (wu (-2) (2) _ (by decide) (by decide) (by decide))) ?_;rintro v1 w1 ⟨hx1,q1⟩;replace hG:=aY.ext hG hx1;replace hMm:=cY.ext hMm hx1;replace hMu:=cY.ext hMu hx1;replace hMv:=cY.ext hMv hx1;replace hX:=bo hX hx1;refine RL.x rfl rfl (cQ.alloc [.bool (false),.slice (none) (0) (0)] bH rfl) ?_;rintro _ w2 ⟨g1,rfl,hge1,hx2,hA1⟩;have ne1:gw≠g1:=Nat.ne_of_lt (Nat.lt_of_lt_of_le hG.lt hge1);have ne2:∀ii,ii<r→ρm ii≠g1:=fun ii hi=>Nat.ne_of_lt (Nat.lt_of_lt_of_le (cY.rowlt hMm hi) hge1)
 have ne4:∀ii,ii<r→ρu ii≠g1:=fun ii hi=>Nat.ne_of_lt (Nat.lt_of_lt_of_le (cY.rowlt hMu hi) hge1)
 have ne6:∀ii,ii<r→ρv ii≠g1:=fun ii hi=>Nat.ne_of_lt (Nat.lt_of_lt_of_le (cY.rowlt hMv hi) hge1)
 have hbs1:w.heap.size≤g1:=Nat.le_trans hX.size hge1;replace hG:=aY.ext hG hx2;replace hMm:=cY.ext hMm hx2;replace hMu:=cY.ext hMu hx2;replace hMv:=cY.ext hMv hx2;replace q1:=ak.ext q1 hx2;replace hX:=bo hX hx2;obtain ⟨ca1,cb1,hq1,ho1,ho2⟩:=ak.cells q1;have qi1:ak w2 (.agg #[ca1,cb1]) (-2) 2:=hq1▸q1;refine RL.x rfl rfl (cQ.store [ca1,cb1] bf rfl hq1 rfl hA1 (Nat.le_of_ble_eq_true rfl) (bs ho1 ho2)) ?_;rintro _ w3 ⟨hk1,hnew⟩;replace hMm:=gi hMm hk1 hA1 ne2;replace hMu:=gi hMu hk1 hA1 ne4;replace hMv:=gi hMv hk1 hA1 ne6;replace hG:=hG.keep hk1 ne1;replace qi1:=ah qi1 hk1 hA1 (by decide);replace hX:=hX.step hk1 (fun b e=>by subst e;exact .inr hbs1);replace hA1:=hnew.lit [ca1,cb1] rfl;clear hnew;refine RL.nil ?_;have hXr:=hX;have hBw:B≤w.heap.size:=Nat.le_trans hBg (Nat.le_of_lt (h0G.lt));have hro_m:=fun ii (hi:ii<r)=>cY.rowlt hMm hi
 have hro_u:=fun ii (hi:ii<r)=>cY.rowlt hMu hi
 have hro_v:=fun ii (hi:ii<r)=>cY.rowlt hMv hi
 have hlt_g1:=hA1.lt;refine gK am 31 [_,_,_,_,_,_,_,_,_,_,_,_,_,_,_,_,_,_,_,_,fun v AW=>dL AW v w3.heap.size c (M i) b,_,_,_,_,_,_,_,_,fun v AW=>dL AW v w3.heap.size r (U i) b,_] (Apart.of (fun v _ b=>b=dQ v) [(20,29)] rfl ⟨(fun h=>by cases h),(fun h=>by cases h),(fun h=>by cases h),(fun h=>by cases h),(fun h=>by cases h),(fun h=>by cases h),(fun h=>by cases h),(fun h=>by cases h),(fun h=>by cases h),(fun h=>by cases h),(fun h=>by cases h),(fun h=>by cases h),(fun h=>by cases h),(fun h=>by cases h),(fun h=>by cases h),(fun h=>by cases h),(fun h=>by cases h),(fun h=>by cases h),(fun h=>by cases h),(fun h=>by cases h),(fun _=>iP _ _ _ _),(fun h=>by cases h),(fun h=>by cases h),(fun h=>by cases h),(fun h=>by cases h),(fun h=>by cases h),(fun h=>by cases h),(fun h=>by cases h),(fun h=>by cases h),(fun _=>iP _ _ _ _),(fun h=>by cases h),trivial⟩) 11 (vk:= .int .i64 ((i:Nat))) rfl rfl rfl (by kernel_rfl) (by kernel_rfl) (by kernel_rfl) (by kernel_rfl) rfl rfl ⟨ac _,ac _,ac _,ac _,ac _,ac _,ac _,ac _,ac _,ac _,ac _,ac _,ac _,ac _,ac _,ac _,ac _,ac _,ac _,dH _ _,eK _ _ _ _,ac _,ac _,ac _,ac _,ac _,ac _,ac _,dH _ _,eK _ _ _ _,ac _,trivial⟩ ⟨fun e_ w_ AV AU AT=>aS rfl (aa (cj.move (((AU 0 rfl).trans rfl)))),fun e_ w_ AV AU AT=>aS rfl (aa (cj.nilCheck ((AT 0 rfl)))),fun e_ w_ AV AU AT=>aS rfl (aa (cj.fieldAddr cB ((AT 1 rfl)))),fun e_ w_ AV AU AT=>aS rfl (aa (cj.fieldAddr aw ((AT 2 rfl)))),fun e_ w_ AV AU AT=>aS rfl (aa (cj.load aU ((AT 3 rfl)) ((aY.ext hG AV).at_ (i:=2) rfl rfl))),fun e_ w_ AV AU AT=>aS rfl (aa (cj.move (((AU 1 rfl).trans rfl)))),fun e_ w_ AV AU AT=>aS rfl (aa (cj.move (((AU 0 rfl).trans rfl)))),fun e_ w_ AV AU AT=>aS rfl (aa (cj.nilCheck ((AT 6 rfl)))),fun e_ w_ AV AU AT=>aS rfl (aa (cj.fieldAddr dF ((AT 7 rfl)))),fun e_ w_ AV AU AT=>aS rfl (aa (cj.fieldAddr aw ((AT 8 rfl)))),fun e_ w_ AV AU AT=>aS rfl (aa (cj.load aU ((AT 9 rfl)) ((aY.ext hG AV).at_ (i:=5) rfl rfl))),fun e_ w_ AV AU AT=>aS rfl (aa (cj.move (((AU 1 rfl).trans rfl)))),fun e_ w_ AV AU AT=>aS rfl (aa (cj.move (((AU 0 rfl).trans rfl)))),fun e_ w_ AV AU AT=>aS rfl (aa (cj.nilCheck ((AT 12 rfl)))),fun e_ w_ AV AU AT=>aS rfl (aa (cj.fieldAddr cB ((AT 13 rfl)))),fun e_ w_ AV AU AT=>aS rfl (aa (cj.fieldAddr aw ((AT 14 rfl)))),fun e_ w_ AV AU AT=>aS rfl (aa (cj.load aU ((AT 15 rfl)) ((aY.ext hG AV).at_ (i:=2) rfl rfl))),fun e_ w_ AV AU AT=>aS rfl (aa (cj.move (((AU 1 rfl).trans rfl)))),fun e_ w_ AV AU AT=>aS rfl (aa (cj.index (j:=i) aK ((AT 16 rfl)) ((AT 17 rfl)) rfl (by omega) (by omega))),fun e_ w_ AV AU AT=>aS rfl (ag (aG (i:=i) bn (AT 18 rfl) (cY.ext hMm AV) (by omega))),fun e_ w_ AV AU AT=>cQ.mono (cQ.call sH (aL rfl) (pQ _ _ _ _ _ (fg.rowV (w':=w_) (AT 19 rfl) (cY.row (i:=i) (cY.ext hMm AV) (by omega))) (by omega))) fun v AX hv=>⟨hv.1,(by obtain ⟨g,h1,h2,h3⟩:=hv.2;exact ⟨g,h1,Nat.le_trans AV.size h2,h3⟩),fo fun b hb=>hb▸(by obtain ⟨g,h1,h2,h3⟩:=hv.2;rw [eM h1];exact h2)⟩,fun e_ w_ AV AU AT=>aS rfl (aa (cj.move (((AU 0 rfl).trans rfl)))),fun e_ w_ AV AU AT=>aS rfl (aa (cj.nilCheck ((AT 21 rfl)))),fun e_ w_ AV AU AT=>aS rfl (aa (cj.fieldAddr dF ((AT 22 rfl)))),fun e_ w_ AV AU AT=>aS rfl (aa (cj.fieldAddr aw ((AT 23 rfl)))),fun e_ w_ AV AU AT=>aS rfl (aa (cj.load aU ((AT 24 rfl)) ((aY.ext hG AV).at_ (i:=5) rfl rfl))),fun e_ w_ AV AU AT=>aS rfl (aa (cj.move (((AU 1 rfl).trans rfl)))),fun e_ w_ AV AU AT=>aS rfl (aa (cj.index (j:=i) aK ((AT 25 rfl)) ((AT 26 rfl)) rfl (by omega) (by omega))),fun e_ w_ AV AU AT=>aS rfl (ag (aG (i:=i) bn (AT 27 rfl) (cY.ext hMu AV) (by omega))),fun e_ w_ AV AU AT=>cQ.mono (cQ.call sH (aL rfl) (pQ _ _ _ _ _ (fg.rowV (w':=w_) (AT 28 rfl) (cY.row (i:=i) (cY.ext hMu AV) (by omega))) (by omega))) fun v AX hv=>⟨hv.1,(by obtain ⟨g,h1,h2,h3⟩:=hv.2;exact ⟨g,h1,Nat.le_trans AV.size h2,h3⟩),fo fun b hb=>hb▸(by obtain ⟨g,h1,h2,h3⟩:=hv.2;rw [eM h1];exact h2)⟩,fun e_ w_ AV AU AT=>aS rfl (aa (cj.index (j:=i) aK ((AT 4 rfl)) ((AT 5 rfl)) rfl (by omega) (by omega))),trivial⟩ (fun _=>cj.move rfl) (fun _=>rfl) (iv rfl) ?_;intro e1 w4 hx3 ho3 hf1 hp1;replace hG:=aY.ext hG hx3;replace hA1:=aY.ext hA1 hx3;replace qi1:=ak.ext qi1 hx3;replace hMm:=cY.ext hMm hx3;replace hMu:=cY.ext hMu hx3;replace hMv:=cY.ext hMv hx3;replace hX:=bo hX hx3;have s0_e1:e1 0= .pointer (some ⟨gw,0,none⟩):=(ho3 0 rfl).trans rfl;have s1_e1:e1 1= .int .i64 ((i:Nat)):=(ho3 1 rfl).trans rfl;have s4_e1:e1 4= .pointer (some ⟨g1,0,none⟩):=(ho3 4 rfl).trans rfl;have s18_e1:e1 18=_:=hf1 10 rfl;have s19_e1:e1 19=_:=hf1 11 rfl;have s28_e1:dL w4 (e1 28) w3.heap.size c (M i) b:=hf1 20 rfl;have s37_e1:dL w4 (e1 37) w3.heap.size r (U i) b:=hf1 29 rfl;have s38_e1:e1 38=_:=hf1 30 rfl;obtain ⟨gc1,hSc1,hBc1,hRc1⟩:=s28_e1;obtain ⟨gc2,hSc2,hBc2,hRc2⟩:=s37_e1;have ne8:gc1≠gc2:=by
   have hd:=hp1 20 29 rfl rfl rfl rfl (dQ (e1 28)) rfl;intro he
   apply hd
   show dQ (e1 28)=dQ (e1 37);rw [eM hSc1,eM hSc2];exact he
 have ne9:∀ii,ii<r→ρm ii≠gc1:=fun ii hi=>Nat.ne_of_lt (Nat.lt_of_lt_of_le (hro_m ii hi) hBc1)
 have ne10:∀ii,ii<r→ρu ii≠gc1:=fun ii hi=>Nat.ne_of_lt (Nat.lt_of_lt_of_le (hro_u ii hi) hBc1)
 have ne11:∀ii,ii<r→ρv ii≠gc1:=fun ii hi=>Nat.ne_of_lt (Nat.lt_of_lt_of_le (hro_v ii hi) hBc1)
 have hbs2:w.heap.size≤gc1:=Nat.le_trans hXr.size hBc1;have hbB1:B≤gc1:=Nat.le_trans hBw hbs2;have ne12:g1≠gc1:=Nat.ne_of_lt (Nat.lt_of_lt_of_le hlt_g1 hBc1);have ne13:∀ii,ii<r→ρm ii≠gc2:=fun ii hi=>Nat.ne_of_lt (Nat.lt_of_lt_of_le (hro_m ii hi) hBc2)
 have ne14:∀ii,ii<r→ρu ii≠gc2:=fun ii hi=>Nat.ne_of_lt (Nat.lt_of_lt_of_le (hro_u ii hi) hBc2)
 have ne15:∀ii,ii<r→ρv ii≠gc2:=fun ii hi=>Nat.ne_of_lt (Nat.lt_of_lt_of_le (hro_v ii hi) hBc2)
 have hbs3:w.heap.size≤gc2:=Nat.le_trans hXr.size hBc2;have hbB2:B≤gc2:=Nat.le_trans hBw hbs3;obtain ⟨fh1,hH1⟩:=cY.split hMm;refine RL.x rfl rfl (dq (i:=i) (g:=gc1) (n:=c) (f:=fh1) ji s38_e1 rfl (bL hSc1 w4) hH1 (by omega)) ?_;rintro _ w5 ⟨hk2,hN1⟩;have hMo1:=hMm;have hH01:=hH1;have hRo1:=hRc1;replace hG:=hG.keep hk2 (hG.ne hH01 (by decide));replace hA1:=hA1.keep hk2 (hA1.ne hH01 (by decide));replace qi1:=ah qi1 hk2 hH01 (by decide);replace hMu:=cP hMu hk2 hH01 (Ne.symm nmu);replace hMv:=cP hMv hk2 hH01 (Ne.symm nmv);replace hRc2:=oI hRc2 hk2 hH01;replace hX:=hX.step hk2 (fun b e=>by subst e;exact (.inl (fi h0m)));replace hMm:=oB hMo1 hH1 hk2 hN1 (bL hSc1 w4) hRo1 hbB1 ne9 (by omega);replace dmu:=lZ (i:=i) dmu ne10;replace dmv:=lZ (i:=i) dmv ne11;have ne17:=nl (i:=i) ne2 (Ne.symm ne12);have ne18:=nl (i:=i) ne13 ne8;refine RL.p rfl rfl (cj.index (j:=i) aK s18_e1 s19_e1 rfl (by omega) (by omega)) ?_;obtain ⟨fh2,hH2⟩:=cY.split hMu;refine RL.x rfl rfl (dq (i:=i) (g:=gc2) (n:=r) (f:=fh2) ji rfl rfl (bL hSc2 w5) hH2 (by omega)) ?_;rintro _ w6 ⟨hk3,hN2⟩;have hMo2:=hMu;have hH02:=hH2;have hRo2:=hRc2;replace hG:=hG.keep hk3 (hG.ne hH02 (by decide));replace hA1:=hA1.keep hk3 (hA1.ne hH02 (by decide));replace qi1:=ah qi1 hk3 hH02 (by decide);replace hMm:=cP hMm hk3 hH02 nmu;replace hMv:=cP hMv hk3 hH02 (Ne.symm nuv);replace hX:=hX.step hk3 (fun b e=>by subst e;exact (.inl (fi h0u)));replace hMu:=oB hMo2 hH2 hk3 hN2 (bL hSc2 w5) hRo2 hbB2 ne14 (by omega);replace dmu:=vf (i:=i) dmu ne18;replace duv:=lZ (i:=i) duv ne15;refine RL.nil ?_;refine aF am 17 [_,_,_,_,_,_,_,_,_,_,_,_,_,_,_,_,_] rfl rfl (fun e_ w_ AV AU=>⟨fun _=>aa (cj.move ((AU 0 rfl s0_e1))),fun AT=>aa (cj.nilCheck ((AT 0 rfl))),fun AT=>aa (cj.fieldAddr cB ((AT 1 rfl))),fun AT=>aa (cj.fieldAddr aw ((AT 2 rfl))),fun AT=>aa (cj.load aU ((AT 3 rfl)) ((aY.ext hG AV).at_ (i:=2) rfl rfl)),fun _=>aa (cj.move ((AU 1 rfl s1_e1))),fun AT=>aa (cj.index (j:=i) aK ((AT 4 rfl)) ((AT 5 rfl)) rfl (by omega) (by omega)),fun AT=>ag (aG (i:=i) bn (AT 6 rfl) (cY.ext hMm AV) (by omega)),fun _=>aa (cj.move ((AU 0 rfl s0_e1))),fun AT=>aa (cj.nilCheck ((AT 8 rfl))),fun AT=>aa (cj.fieldAddr cB ((AT 9 rfl))),fun AT=>aa (cj.fieldAddr aw ((AT 10 rfl))),fun AT=>aa (cj.load aU ((AT 11 rfl)) ((aY.ext hG AV).at_ (i:=2) rfl rfl)),fun _=>aa (cj.move ((AU 1 rfl s1_e1))),fun AT=>aa (cj.index (j:=i) aK ((AT 12 rfl)) ((AT 13 rfl)) rfl (by omega) (by omega)),fun AT=>ag (aG (i:=i) bn (AT 14 rfl) (cY.ext hMm AV) (by omega)),fun _=>aa (af [ca1,cb1] aq ((AU 4 rfl s4_e1)) ((aY.ext hA1 AV).cells 0 _ rfl rfl)),trivial⟩) ?_;intro e2 w7 hx4 ho4 hf2;replace hG:=aY.ext hG hx4;replace hA1:=aY.ext hA1 hx4;replace qi1:=ak.ext qi1 hx4;replace hMm:=cY.ext hMm hx4;replace hMu:=cY.ext hMu hx4;replace hMv:=cY.ext hMv hx4;replace hX:=bo hX hx4;have s0_e2:=ho4 0 rfl s0_e1;have s1_e2:=ho4 1 rfl s1_e1;have s4_e2:=ho4 4 rfl s4_e1;have s47_e2:fg w7 (e2 47) ((ci ρm i gc1) i) c:=hf2 7 rfl;have s55_e2:fg w7 (e2 55) ((ci ρm i gc1) i) c:=hf2 15 rfl;have s56_e2:e2 56=_:=hf2 16 rfl;refine RL.x rfl rfl (du nt (cH rfl rfl s56_e2) (nW _ _ _ _ _ _ _ _ _ _ _ _ (bL s47_e2 w7) (bL s55_e2 w7) qi1 (cY.row (i:=i) hMm (by omega)) (cY.row (i:=i) hMm (by omega)) (fun _ _ _=>rfl) (by omega) (fun a ha=>nO (hbM a (by omega))))) ?_;rintro _ w9 ⟨hk4,hN3⟩;have hR1:=cY.row (i:=i) hMm (by omega);replace hG:=bF hG hk4 hR1 (by decide);replace hA1:=hA1.keep hk4 (Ne.symm (ne17 i (by omega)));replace qi1:=cW qi1 hk4 hR1;replace hMu:=cg hMu hk4 hR1 (fun ii hii=>Ne.symm (dmu i ii (by omega) hii));replace hMv:=cg hMv hk4 hR1 (fun ii hii=>Ne.symm (dmv i ii (by omega) hii));replace hX:=hX.step hk4 (fun b e=>by subst e;exact (.inr (by rw [aW];exact hbs2)));replace hMm:=cY.setRow (i:=i) hMm (by omega) hk4 hN3;refine RL.nil ?_;refine aF am 17 [_,_,_,_,_,_,_,_,_,_,_,_,_,_,_,_,_] rfl rfl (fun e_ w_ AV AU=>⟨fun _=>aa (cj.move ((AU 0 rfl s0_e2))),fun AT=>aa (cj.nilCheck ((AT 0 rfl))),fun AT=>aa (cj.fieldAddr dF ((AT 1 rfl))),fun AT=>aa (cj.fieldAddr aw ((AT 2 rfl))),fun AT=>aa (cj.load aU ((AT 3 rfl)) ((aY.ext hG AV).at_ (i:=5) rfl rfl)),fun _=>aa (cj.move ((AU 1 rfl s1_e2))),fun AT=>aa (cj.index (j:=i) aK ((AT 4 rfl)) ((AT 5 rfl)) rfl (by omega) (by omega)),fun AT=>ag (aG (i:=i) bn (AT 6 rfl) (cY.ext hMu AV) (by omega)),fun _=>aa (cj.move ((AU 0 rfl s0_e2))),fun AT=>aa (cj.nilCheck ((AT 8 rfl))),fun AT=>aa (cj.fieldAddr dF ((AT 9 rfl))),fun AT=>aa (cj.fieldAddr aw ((AT 10 rfl))),fun AT=>aa (cj.load aU ((AT 11 rfl)) ((aY.ext hG AV).at_ (i:=5) rfl rfl)),fun _=>aa (cj.move ((AU 1 rfl s1_e2))),fun AT=>aa (cj.index (j:=i) aK ((AT 12 rfl)) ((AT 13 rfl)) rfl (by omega) (by omega)),fun AT=>ag (aG (i:=i) bn (AT 14 rfl) (cY.ext hMu AV) (by omega)),fun _=>aa (af [ca1,cb1] aq ((AU 4 rfl s4_e2)) ((aY.ext hA1 AV).cells 0 _ rfl rfl)),trivial⟩) ?_;intro e3 w10 hx6 ho5 hf3;replace hG:=aY.ext hG hx6;replace qi1:=ak.ext qi1 hx6;replace hMm:=cY.ext hMm hx6;replace hMu:=cY.ext hMu hx6;replace hMv:=cY.ext hMv hx6;replace hX:=bo hX hx6;have s0_e3:=ho5 0 rfl s0_e2;have s1_e3:=ho5 1 rfl s1_e2;have s65_e3:fg w10 (e3 65) ((ci ρu i gc2) i) r:=hf3 7 rfl;have s73_e3:fg w10 (e3 73) ((ci ρu i gc2) i) r:=hf3 15 rfl;have s74_e3:e3 74=_:=hf3 16 rfl;refine RL.x rfl rfl (du nt (cH rfl rfl s74_e3) (nW _ _ _ _ _ _ _ _ _ _ _ _ (bL s65_e3 w10) (bL s73_e3 w10) qi1 (cY.row (i:=i) hMu (by omega)) (cY.row (i:=i) hMu (by omega)) (fun _ _ _=>rfl) (by omega) (fun a ha=>nO (hbU a (by omega))))) ?_;rintro _ w12 ⟨hk5,hN4⟩;have hR2:=cY.row (i:=i) hMu (by omega);replace hG:=bF hG hk5 hR2 (by decide);replace hMm:=cg hMm hk5 hR2 (fun ii hii=>dmu ii i hii (by omega));replace hMv:=cg hMv hk5 hR2 (fun ii hii=>Ne.symm (duv i ii (by omega) hii));replace hX:=hX.step hk5 (fun b e=>by subst e;exact (.inr (by rw [aW];exact hbs3)));replace hMu:=cY.setRow (i:=i) hMu (by omega) hk5 hN4;refine RL.nil ?_;refine ab ?_;refine RL.p rfl rfl (cj.move s0_e3) ?_;refine RL.p rfl rfl (cj.nilCheck rfl) ?_;refine RL.p rfl rfl (cj.fieldAddr jx rfl) ?_;refine RL.p rfl rfl (cj.fieldAddr aw rfl) ?_;refine RL.p rfl rfl (cj.load aU rfl (hG.at_ (i:=8) rfl rfl)) ?_;refine RL.p rfl rfl (cj.len aK rfl) ?_;refine RL.p rfl rfl (cj.move rfl) ?_;refine RL.nil ?_;refine WP.block ?_;refine WP.loop (fun mz ez uz=>∃a:Nat,(mz=r - a)∧(ez 1= .int .i64 ((i:Nat)))∧(ez 80= .slice (some ⟨hv,0,none⟩) (r) (kv))∧(ez 81= .int .i64 ((r:Nat)))∧(ez 82= .int .i64 ((a:Nat)))∧(a≤r)∧(Keeps (eG B w) w uz)∧(aY uz gw 74 9 (bU [.int .i64 ((r:Nat)),.int .i64 ((c:Nat)),.slice (some ⟨hm,0,none⟩) (r) (km),.int .i64 ((r:Nat)),.int .i64 ((r:Nat)),.slice (some ⟨hu,0,none⟩) (r) (ku),.int .i64 ((r:Nat)),.int .i64 ((r:Nat)),.slice (some ⟨hv,0,none⟩) (r) (kv)]))∧(cY uz B hm km r c (ci ρm i gc1) (setRow (setRow M i (M i)) i (fun c=>(setRow M i (M i)) i c + (-2)*(setRow M i (M i)) i c)) b)∧(cY uz B hu ku r r (ci ρu i gc2) (setRow (setRow U i (U i)) i (fun c=>(setRow U i (U i)) i c + (-2)*(setRow U i (U i)) i c)) b)∧(cY uz B hv kv r r ρv (fp V (fD V i) a) b)) (r - 0) ?_ ?_
 · exact ⟨0,rfl,s1_e3,rfl,rfl,rfl,(by omega),hX,hG,hMm,hMu,bZ hMv (iV V (fD V i)).symm⟩
 rintro m1 e4 w13 ⟨a,hm1,s1_e4,s80_e4,s81_e4,s82_e4,ha,hX1,hG,hMm,hMu,hMv⟩;refine ab ?_;refine RL.p rfl rfl (cj.lss s82_e4 s81_e4) ?_;refine RL.nil ?_;refine WP.seq ?_;refine ae (((a:Nat):Int)<((r:Nat):Int)) rfl (fun c83=> ?_) (fun c83=> ?_)
 ·
  refine WP.skip ?_;refine pl.norm ?_;refine WP.seq ?_;refine WP.block ?_;refine ab ?_;refine RL.p rfl rfl (cj.index (j:=a) aK s80_e4 s82_e4 rfl (by omega) (by omega)) ?_;refine RL.x rfl rfl (aG (i:=a) bn rfl hMv (by omega)) ?_;rintro v2 _ ⟨rfl,q2⟩;refine RL.p rfl rfl (cj.assign rfl) ?_;refine RL.nil ?_;refine WP.region ?_;refine RL.p rfl rfl (cj.move rfl) ?_;refine RL.p rfl rfl (cj.move s1_e4) ?_;refine RL.p rfl rfl (cj.move rfl) ?_;refine RL.p rfl rfl (cj.move s1_e4) ?_;refine RL.p rfl rfl (aR (j:=i) bE (bL q2 w13) rfl rfl (by omega) (by omega)) ?_;refine RL.x rfl rfl (bN (j:=i) aq rfl (cY.row hMv (by omega)) (by omega)) ?_;rintro v3 _ ⟨rfl,q3⟩;refine RL.x rfl rfl (cQ.call ll (aL rfl) (lP _ _ _ _ q3)) ?_;rintro v4 w14 ⟨hx8,q4⟩;replace hG:=aY.ext hG hx8;replace hMm:=cY.ext hMm hx8;replace hMu:=cY.ext hMu hx8;replace hMv:=cY.ext hMv hx8;replace q2:=fg.ext q2 hx8;replace hX1:=bo hX1 hx8;refine RL.p rfl rfl (aR (j:=i) bE (bL q2 w14) rfl rfl (by omega) (by omega)) ?_;refine RL.x rfl rfl (cU (i:=a) (j:=i) bf rfl rfl q4 hMv (by omega) (by omega)) ?_;rintro _ w15 ⟨hk6,hN5⟩;have hR3:=cY.row (i:=a) hMv (by omega);replace hG:=bF hG hk6 hR3 (by decide);replace hMm:=cg hMm hk6 hR3 (fun ii hii=>dmv ii a hii (by omega));replace hMu:=cg hMu hk6 hR3 (fun ii hii=>duv ii a hii (by omega));replace hX1:=hX1.step hk6 (fun b e=>by subst e;exact (.inl (fh (i:=a) h0v (by omega))));replace hMv:=hN5;clear hR3;refine RL.nil ?_;refine iD.norm ?_;refine pl.norm ?_;refine WP.region ?_;refine RL.p rfl rfl (cj.add (c:=((a + 1:Nat):Int)) s82_e4 rfl (bT (by omega))) ?_;refine RL.p rfl rfl (cj.move rfl) ?_;refine RL.nil ?_;refine pl.norm ⟨_,(by omega),a + 1,rfl,s1_e4,s80_e4,s81_e4,rfl,(by omega),hX1,hG,hMm,hMu,bZ hMv (lL (by rw [ff];simp [fD]) (fun c hc=>by simp [fD,hc]))⟩
 ·
  refine WP.exit ?_;refine pl.exit ?_;refine pl.exit ?_;refine iD.same ?_;refine ⟨.tuple #[],Am.zero,_,rfl,hX1,?_⟩;dsimp only;exact ⟨hm,hu,hv,km,ku,kv,_,_,_,hBg,hG,(bZ hMm (pY M i)),(bZ hMu (pY U i)),(cY.congr hMv (fun a c ha hc=>kG V _ c (by omega))),nmu,nmv,nuv,dmu,dmv,duv⟩
end Go.TL
namespace Go.TL
set_option linter.unusedVariables false
structure WS where
  M:Nat→Nat→Int
  U:Nat→Nat→Int
  V:Nat→Nat→Int
def de (S:WS) (i j:Nat) (k:Int):WS:=⟨dw S.M i j k,dw S.U i j k,eb S.V i j k⟩
def bK (S:WS) (i j:Nat):WS:=⟨cE S.M i j,cE S.U i j,dk S.V i j⟩
def fE (S:WS) (i:Nat):WS:=⟨eA S.M i,eA S.U i,fD S.V i⟩
def sn (S:WS) (p top q:Nat):WS:=if (bK S p top).M top q<0 then fE (bK S p top) top else bK S p top
def el (S:WS) (top q:Nat):Nat→WS
  | 0=>S
  | n + 1=>de (el S top q n) (top + 1 + n) top (-((el S top q n).M (top + 1 + n) q/(el S top q n).M top q))
def ng (r c b:Nat) (S:WS):Prop:=(∀i j,i<r→j<c→(S.M i j).natAbs<2^b)∧(∀i j,i<r→j<r→(S.U i j).natAbs<2^b)∧∀i j,i<r→j<r→(S.V i j).natAbs<2^b
theorem kf (M:Nat→Nat→Int) (i:Nat):cE M i i=M:=by
  funext a;unfold cE
  split
  · subst_vars;rfl
  · rfl
theorem pj (M:Nat→Nat→Int) (i:Nat):dk M i i=M:=by
  funext a c;unfold dk
  split
  · subst_vars;rfl
  · rfl
theorem jM (S:WS) (i:Nat):bK S i i=S:=by unfold bK;rw [kf,kf,pj]
theorem iF {S:WS} {p top q:Nat} (h:(bK S p top).M top q<0):sn S p top q=fE (bK S p top) top:=by unfold sn;rw [if_pos h]
theorem iE {S:WS} {p top q:Nat} (h:¬(bK S p top).M top q<0):sn S p top q=bK S p top:=by unfold sn;rw [if_neg h]
theorem qe {x:Nat→Int} {top n:Nat} (h:x (top + n)=0):bp x top (n + 1)=bp x top n:=by simp only [bp];rw [if_pos h]
theorem qg {x:Nat→Int} {top n:Nat} (h:¬x (top + n)=0) (hc:(bp x top n).1<0∨(x (top + n)).natAbs<(x (bp x top n).1.toNat).natAbs):bp x top (n + 1)=(((top + n:Nat):Int),decide (0≤(bp x top n).1)):=by
  simp only [bp];rw [if_neg h,if_pos hc]
theorem qh {x:Nat→Int} {top n:Nat} (h:¬x (top + n)=0) (hc:¬((bp x top n).1<0∨(x (top + n)).natAbs<(x (bp x top n).1.toNat).natAbs)):bp x top (n + 1)=((bp x top n).1,decide (0≤(bp x top n).1)):=by
  simp only [bp];rw [if_neg h,if_neg hc]
theorem mK (a b:Int):bV a b<0↔a<b:=by unfold bV;split<;>(try split)<;>omega
theorem oe (a b:Nat):bV ((a:Nat):Int) ((b:Nat):Int)<0↔a<b:=by rw [mK];omega
theorem iq {x:Nat→Int} {top:Nat}:∀{n:Nat},(bp x top n).1<0→(bp x top n).2=false∧∀i,top≤i→i<top + n→x i=0
  | 0,_=>⟨rfl,fun i h1 h2=>by omega⟩
  | n + 1,h=>by
    by_cases hz:x (top + n)=0
    · rw [qe hz] at h⊢
      obtain ⟨h1,h2⟩:=iq h;refine ⟨h1,fun i h3 h4=> ?_⟩
      by_cases e:i=top + n
      · subst e;exact hz
      · exact h2 i h3 (by omega)
    · by_cases hc:(bp x top n).1<0∨(x (top + n)).natAbs<(x (bp x top n).1.toNat).natAbs
      · rw [qg hz hc] at h;simp only at h;omega
      · rw [qh hz hc] at h;simp only at h;omega
theorem eD {x:Nat→Int} {top:Nat}:∀{n:Nat},0≤(bp x top n).1→top≤(bp x top n).1.toNat∧(bp x top n).1.toNat<top + n∧x (bp x top n).1.toNat≠0∧
      (∀i,top≤i→i<top + n→x i≠0→(x (bp x top n).1.toNat).natAbs≤(x i).natAbs)∧((bp x top n).2=false→∀i,top≤i→i<top + n→i≠(bp x top n).1.toNat→x i=0)
  | 0,h=>by simp [bp] at h
  | n + 1,h=>by
    by_cases hz:x (top + n)=0
    · rw [qe hz] at h⊢
      obtain ⟨h1,h2,h3,h4,h5⟩:=eD h;refine ⟨h1,by omega,h3,fun i h6 h7 h8=> ?_,fun h6 i h7 h8 h9=> ?_⟩
      · by_cases e:i=top + n
        · subst e;exact absurd hz h8
        · exact h4 i h6 (by omega) h8
      · by_cases e:i=top + n
        · subst e;exact hz
        · exact h5 h6 i h7 (by omega) h9
    · have hr:=jC x top n
      by_cases hc:(bp x top n).1<0∨(x (top + n)).natAbs<(x (bp x top n).1.toNat).natAbs
      · rw [qg hz hc] at h⊢
        simp only [Int.toNat_natCast];refine ⟨by omega,by omega,hz,fun i h6 h7 h8=> ?_,fun h6 i h7 h8 h9=> ?_⟩
        · by_cases e:i=top + n
          · subst e;exact Nat.le_refl _
          · by_cases hn:(bp x top n).1<0
            · exact absurd ((iq hn).2 i h6 (by omega)) h8
            · have h3:=(eD (n:=n) (by omega)).2.2.2.1 i h6 (by omega) h8
              rcases hc with hc | hc
              · exact absurd hc hn
              · omega
        · have hn:(bp x top n).1<0:=by simpa using h6
          exact (iq hn).2 i h7 (by omega)
      · rw [qh hz hc] at h⊢
        have hn:0≤(bp x top n).1:=by simpa using h
        obtain ⟨h1,h2,h3,h4,h5⟩:=eD (n:=n) hn;simp only;refine ⟨h1,by omega,h3,fun i h6 h7 h8=> ?_,fun h6=> ?_⟩
        · by_cases e:i=top + n
          · subst e;omega
          · exact h4 i h6 (by omega) h8
        · simp at h6;omega
theorem uj (S:WS) (top q:Nat):∀n a,a≤top→(el S top q n).M a=S.M a
  | 0,a,_=>rfl
  | n + 1,a,h=>by
    have:=uj S top q n a h;simp only [el,de]
    funext c
    unfold dw
    rw [if_neg (by omega)];exact congrFun this c
theorem lC (M:Nat→Nat→Int) (p top:Nat):cE M p top top=M p:=by
  unfold cE;by_cases e:top=p
  · rw [if_pos e,e]
  · rw [if_neg e,if_pos rfl]
theorem jV (S:WS) (p top q:Nat):(sn S p top q).M top q=((S.M p q).natAbs:Int):=by
  have h0:(bK S p top).M top q=S.M p q:=congrFun (lC S.M p top) q
  by_cases h:(bK S p top).M top q<0
  · rw [iF h];simp only [fE,eA,if_true];rw [h0] at h⊢;omega
  · rw [iE h];rw [h0] at h⊢;omega
theorem xk {r c b i j:Nat} {k:Int} {S:WS} (h:ng r c b (de S i j k)) (hi:i<r):∀a,a<c→(S.M i a + k*S.M j a).natAbs<2^b:=fun a ha=>by
  have:=h.1 i a hi ha
  simpa [de,dw] using this
theorem xj {r c b i j:Nat} {k:Int} {S:WS} (h:ng r c b (de S i j k)) (hi:i<r):∀a,a<r→(S.U i a + k*S.U j a).natAbs<2^b:=fun a ha=>by
  have:=h.2.1 i a hi ha
  simpa [de,dw] using this
theorem xi {r c b i j:Nat} {k:Int} {S:WS} (h:ng r c b (de S i j k)) (hj:j<r):∀a,a<r→(S.V a j - k*S.V a i).natAbs<2^b:=fun a ha=>by
  have:=h.2.2 a j ha hj
  simpa [de,eb] using this
theorem dn (z:Int):z.sign<0↔z<0:=by
  rcases Int.lt_trichotomy z 0 with h | h | h
  · rw [Int.sign_eq_neg_one_of_neg h];omega
  · subst h;simp
  · rw [Int.sign_eq_one_of_pos h];omega
theorem ja {T:Nat} {w:World} {B gw r c b:Nat} {S S':WS} (h:cZ T w B gw r c S.M S.U S.V b) (e:S=S'):cZ T w B gw r c S'.M S'.U S'.V b:=e▸h
theorem cZ.bgw {T:Nat} {w:World} {B gw r c b:Nat} {M U V:Nat→Nat→Int} (h:cZ T w B gw r c M U V b):B≤gw∧r≤65536∧c≤65536∧b≤bj:=by
  obtain ⟨hm,hu,hv,km,ku,kv,ρm,ρu,ρv,h1,h2,h3,h4,h5,h6⟩:=h;exact ⟨h1,h3.dlim.2.2,h3.clim.1,h3.clim.2⟩
end Go.TL
