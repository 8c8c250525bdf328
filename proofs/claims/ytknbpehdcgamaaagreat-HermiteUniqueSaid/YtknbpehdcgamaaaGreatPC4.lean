/-
  Lemmas towards the theorem of this claim (part 4).
  Conditions: those that each theorem names.
-/
import Derived.Test.YtknbpehdcgamaaaGreatPC3
namespace Go.TL
open Go.RowKit Go.Proofs
set_option linter.unusedVariables false
set_option linter.unusedSimpArgs false
set_option maxRecDepth 10000 in
theorem jx (w:World) (r:Nat) (c:Nat) (fv:Value) (F:Nat→Nat→Int) (b:Nat) (hr:r≤65536) (hc:c≤65536) (hF:zC Tryz.prog w fv r c F b) (hb:b≤bo):Calls Tryz.prog 81 #[.int .i64 (r:Nat),.int .i64 (c:Nat),fv] w (cg w fun v w'=>ct w' v w.heap.size r c F b):=by
 have hLIM:bo=562949953421312:=rfl;refine ah (N:=43) (rs:= #[.cell 6 28]) Tryz.func81 rfl rfl rfl (Nat.le_of_ble_eq_true rfl) ?_;have hX:aC w w:=aC.refl w;refine ab ?_;refine RL.x rfl rfl (cZ.alloc [.int .i64 (0),.int .i64 (0),.slice (none) (0) (0)] cd rfl) ?_;rintro _ w1 ⟨g1,rfl,hge1,hx1,hA1⟩;have hbs1:w.heap.size≤g1:=Nat.le_trans hX.size hge1;replace hX:=aC.trans hX hx1;refine RL.nil ?_;refine ab ?_;refine RL.p rfl rfl (cD.move rfl) ?_;refine RL.p rfl rfl (cD.move rfl) ?_;refine RL.p rfl rfl (cD.move rfl) ?_;refine RL.x rfl rfl (df (r) [.slice (none) (0) (0)] az oX rfl rfl rfl (by omega) (by omega) (by omega) (by omega) (by decide)) ?_;rintro _ w2 ⟨g2,rfl,hge2,hx2,hA2⟩;have hbs2:w.heap.size≤g2:=Nat.le_trans hX.size hge2;replace hA1:=bj.ext hA1 hx2;replace hX:=aC.trans hX hx2;replace hA2:=cw.born (c:=c) (Nat.mul_one _▸hA2) hbs2 (by omega) (by omega) (cI F 0 0) (b) (by omega);refine RL.p rfl rfl (cD.build (vs:= [(0,.int .i64 ((r:Nat))),(1,.int .i64 ((c:Nat))),(2,.slice (some ⟨g2,0,none⟩) (r) (r))]) [(0,1),(1,1),(2,1)] jM cd (iP rfl rfl rfl) rfl) ?_;refine RL.x rfl rfl (cZ.alloc [.int .i64 (0),.int .i64 (0),.slice (none) (0) (0)] cd rfl) ?_;rintro _ w3 ⟨g3,rfl,hge3,hx3,hA3⟩;have ne2:g1≠g3:=Nat.ne_of_lt (Nat.lt_of_lt_of_le hA1.lt hge3);have hbs3:w.heap.size≤g3:=Nat.le_trans hX.size hge3;replace hA1:=bj.ext hA1 hx3;replace hA2:=cw.ext hA2 hx3;replace hX:=aC.trans hX hx3;refine RL.x rfl rfl (cZ.store [.int .i64 ((r:Nat)),.int .i64 ((c:Nat)),.slice (some ⟨g2,0,none⟩) (r) (r)] cG rfl rfl rfl hA3 (Nat.le_of_ble_eq_true rfl) (cJ rfl rfl rfl)) ?_;rintro _ w4 ⟨hk1,hnew⟩;replace hA2:=be hA2 hk1 hA3 (by decide);replace hA1:=hA1.keep hk1 ne2;replace hX:=hX.step hk1 (fun b e=>by subst e;exact hbs3);replace hA3:=hnew.lit [.int .i64 ((r:Nat)),.int .i64 ((c:Nat)),.slice (some ⟨g2,0,none⟩) (r) (r)] rfl;clear hnew;refine RL.nil ?_;refine WP.seq ?_;refine ab ?_;refine RL.p rfl rfl (cD.move rfl) ?_;refine RL.p rfl rfl (cD.move rfl) ?_;refine RL.nil ?_;refine WP.block ?_;refine WP.loop (fun mz ez uz=>∃i:Nat,∃ρ:Nat→Nat,(mz=r - i)∧(ez 1= .int .i64 ((c:Nat)))∧(ez 2=fv)∧(ez 6= .pointer (some ⟨g1,0,none⟩))∧(ez 7= .pointer (some ⟨g3,0,none⟩))∧(ez 15= .int .i64 ((r:Nat)))∧(ez 16= .int .i64 ((i:Nat)))∧(i≤r)∧(aC w uz)∧(bj uz g1 28 3 (bX [.int .i64 (0),.int .i64 (0),.slice (none) (0) (0)]))∧(bj uz g3 28 3 (bX [.int .i64 ((r:Nat)),.int .i64 ((c:Nat)),.slice (some ⟨g2,0,none⟩) (r) (r)]))∧(cw uz w.heap.size g2 r i c ρ (cI F i 0) b)) (r - 0) ?_ ?_
 · exact ⟨0,_,rfl,rfl,rfl,rfl,rfl,rfl,rfl,(by omega),hX,hA1,hA3,hA2⟩
 rintro m1 e1 w5 ⟨i,ρ,hm1,s1_e1,s2_e1,s6_e1,s7_e1,s15_e1,s16_e1,hi,hX1,hA1,hA3,hA2⟩;refine ab ?_;refine RL.p rfl rfl (cD.lss s16_e1 s15_e1) ?_;refine RL.nil ?_;refine WP.seq ?_;refine ae (((i:Nat):Int)<((r:Nat):Int)) rfl (fun c17=> ?_) (fun c17=> ?_)
 ·
  refine WP.skip ?_;refine oL.norm ?_;refine WP.seq ?_;refine WP.block ?_;refine ab ?_;refine RL.p rfl rfl (cD.move s16_e1) ?_;refine RL.p rfl rfl (cD.assign rfl) ?_;refine RL.nil ?_;have hro_g2:=fun ii (hi:ii<i)=>cw.rowlt hA2 hi
  have hgo_g2:=cw.ghlt hA2;have hXr:=hX1;refine aE ak 6 [_,_,_,_,fun v Aa=>dO Aa v w5.heap.size c b,_] rfl rfl (fun e_ w_ zZ zY=>⟨fun _=>aa (cD.fieldAddr an ((zY 7 rfl s7_e1))),fun zX=>aa (cD.load aF ((zX 0 rfl)) ((bj.ext hA3 zZ).at_ (i:=2) rfl rfl)),fun _=>aa (cD.move ((zY 8 rfl rfl))),fun _=>aa (cD.move ((zY 1 rfl s1_e1))),fun zX=>fT bg (by decide) bV (zX 3 rfl) (zX 3 rfl) rfl rfl (by omega) zZ.size (by omega),fun zX=>aa (cD.index (j:=i) az ((zX 1 rfl)) ((zX 2 rfl)) rfl (by omega) (by omega)),trivial⟩) ?_;intro e2 w6 hx4 ho1 hf1;replace hA1:=bj.ext hA1 hx4;replace hA3:=bj.ext hA3 hx4;replace hA2:=cw.ext hA2 hx4;replace hX1:=aC.trans hX1 hx4;have s1_e2:=ho1 1 rfl s1_e1;have s2_e2:=ho1 2 rfl s2_e1;have s6_e2:=ho1 6 rfl s6_e1;have s7_e2:=ho1 7 rfl s7_e1;have s15_e2:=ho1 15 rfl s15_e1;have s16_e2:=ho1 16 rfl s16_e1;have s8_e2:e2 8=_:=ho1 8 rfl rfl;have s23_e2:dO w6 (e2 23) w5.heap.size c b:=hf1 4 rfl;have s24_e2:e2 24=_:=hf1 5 rfl;obtain ⟨g4,hq1,hge4,hR1⟩:=s23_e2;have ne5:∀ii,ii<i→ρ ii≠g4:=fun ii hi=>Nat.ne_of_lt (Nat.lt_of_lt_of_le (hro_g2 ii hi) hge4)
  have hbs4:w.heap.size≤g4:=Nat.le_trans hXr.size hge4;refine RL.x rfl rfl (nK fF s24_e2 hq1 (zK _ _ _ _ (Nat.le_refl _) (by omega)) hR1 hA2 (by omega) (by omega) (fun j hj=>qC F i j) hbs4 (fun ii hi=>Ne.symm (ne5 ii hi))) ?_;rintro _ w7 ⟨hk2,hN1⟩;replace hA1:=jd hA1 hk2 hA2 (by decide);replace hA3:=jd hA3 hk2 hA2 (by decide);replace hX1:=hX1.step hk2 (fun b e=>by subst e;exact hbs2);replace hA2:=hN1;refine RL.nil ?_;refine ab ?_;refine RL.p rfl rfl (cD.move s1_e2) ?_;refine RL.p rfl rfl (cD.move rfl) ?_;refine RL.nil ?_;refine WP.block ?_;refine WP.loop (fun mz ez uz=>∃j:Nat,(mz=c - j)∧(ez 1= .int .i64 ((c:Nat)))∧(ez 2=fv)∧(ez 6= .pointer (some ⟨g1,0,none⟩))∧(ez 7= .pointer (some ⟨g3,0,none⟩))∧(ez 8= .int .i64 ((i:Nat)))∧(ez 15= .int .i64 ((r:Nat)))∧(ez 16= .int .i64 ((i:Nat)))∧(ez 25= .int .i64 ((c:Nat)))∧(ez 26= .int .i64 ((j:Nat)))∧(j≤c)∧(aC w uz)∧(bj uz g1 28 3 (bX [.int .i64 (0),.int .i64 (0),.slice (none) (0) (0)]))∧(bj uz g3 28 3 (bX [.int .i64 ((r:Nat)),.int .i64 ((c:Nat)),.slice (some ⟨g2,0,none⟩) (r) (r)]))∧(cw uz w.heap.size g2 r (i + 1) c (cm ρ i g4) (cI F i j) b)) (c - 0) ?_ ?_
  · exact ⟨0,rfl,s1_e2,s2_e2,s6_e2,s7_e2,s8_e2,s15_e2,s16_e2,rfl,rfl,(by omega),hX1,hA1,hA3,hA2⟩
  rintro m2 e3 w8 ⟨j,hm2,s1_e3,s2_e3,s6_e3,s7_e3,s8_e3,s15_e3,s16_e3,s25_e3,s26_e3,hj,hX2,hA1,hA3,hA2⟩;refine ab ?_;refine RL.p rfl rfl (cD.lss s26_e3 s25_e3) ?_;refine RL.nil ?_;refine WP.seq ?_;refine ae (((j:Nat):Int)<((c:Nat):Int)) rfl (fun c27=> ?_) (fun c27=> ?_)
  ·
   refine WP.skip ?_;refine oL.norm ?_;refine WP.seq ?_;refine WP.block ?_;refine ab ?_;refine RL.p rfl rfl (cD.move s26_e3) ?_;refine RL.p rfl rfl (cD.assign rfl) ?_;refine RL.nil ?_;refine WP.ds ak 11 [_,_,_,_,_,_,_,_,_,fun v Aa=>am Aa v (F i j) b,_] rfl rfl (fun e_ w_ zZ zY=>⟨fun _=>aa (cD.fieldAddr an ((zY 7 rfl s7_e3))),fun zX=>aa (cD.load aF ((zX 0 rfl)) ((bj.ext hA3 zZ).at_ (i:=2) rfl rfl)),fun _=>aa (cD.move ((zY 8 rfl s8_e3))),fun zX=>aa (cD.index (j:=i) az ((zX 1 rfl)) ((zX 2 rfl)) rfl (by omega) (by omega)),fun zX=>af (al (i:=i) aP (zX 3 rfl) (cw.ext hA2 zZ) (by omega)),fun _=>aa (cD.move ((zY 9 rfl rfl))),fun _=>aa (cD.move ((zY 2 rfl s2_e3))),fun _=>aa (cD.move ((zY 8 rfl s8_e3))),fun _=>aa (cD.move ((zY 9 rfl rfl))),fun zX=>nN (i:=i) (j:=j) (zX 6 rfl) (zC.ext (zC.ext hF hX2) zZ) (zX 7 rfl) (zX 8 rfl) rfl rfl (by omega) (by omega),fun zX=>aa (aq (j:=j) bg (zX 4 rfl) rfl (zX 5 rfl) (by omega) (by omega)),trivial⟩) ?_;intro e4 w9 hx5 ho2 hf2;replace hA1:=bj.ext hA1 hx5;replace hA3:=bj.ext hA3 hx5;replace hA2:=cw.ext hA2 hx5;replace hX2:=aC.trans hX2 hx5;have s1_e4:=ho2 1 rfl s1_e3;have s2_e4:=ho2 2 rfl s2_e3;have s6_e4:=ho2 6 rfl s6_e3;have s7_e4:=ho2 7 rfl s7_e3;have s8_e4:=ho2 8 rfl s8_e3;have s15_e4:=ho2 15 rfl s15_e3;have s16_e4:=ho2 16 rfl s16_e3;have s25_e4:=ho2 25 rfl s25_e3;have s26_e4:=ho2 26 rfl s26_e3;have s38_e4:am w9 (e4 38) (F i j) b:=hf2 9 rfl;have s39_e4:e4 39=_:=hf2 10 rfl;refine RL.x rfl rfl (bH (i:=i) (j:=j) bp s39_e4 rfl s38_e4 hA2 (by omega) (by omega)) ?_;rintro _ w10 ⟨hk3,hN2⟩;have hR2:=cw.row (i:=i) hA2 (by omega);replace hA1:=aU hA1 hk3 hR2 (by decide);replace hA3:=aU hA3 hk3 hR2 (by decide);replace hX2:=hX2.step hk3 (fun b e=>by subst e;exact (cw.rowB (i:=i) hA2 (by omega)));replace hA2:=hN2;clear hR2;refine RL.nil ?_;refine iF.norm ?_;refine oL.norm ?_;refine WP.region ?_;refine RL.p rfl rfl (cD.add (c:=((j + 1:Nat):Int)) s26_e4 rfl (bS (by omega))) ?_;refine RL.p rfl rfl (cD.move rfl) ?_;refine RL.nil ?_;refine oL.norm ⟨_,(by omega),j + 1,rfl,s1_e4,s2_e4,s6_e4,s7_e4,s8_e4,s15_e4,s16_e4,s25_e4,rfl,(by omega),hX2,hA1,hA3,bl hA2 (fh F i j)⟩
  ·
   refine WP.exit ?_;refine oL.exit ?_;refine oL.exit ?_;refine iF.same ?_;refine iF.norm ?_;refine oL.norm ?_;refine WP.region ?_;refine RL.p rfl rfl (cD.add (c:=((i + 1:Nat):Int)) s16_e3 rfl (bS (by omega))) ?_;refine RL.p rfl rfl (cD.move rfl) ?_;refine RL.nil ?_;refine oL.norm ⟨_,(by omega),i + 1,_,rfl,s1_e3,s2_e3,s6_e3,s7_e3,s15_e3,rfl,(by omega),hX2,hA1,hA3,cw.congr hA2 fun a c2 ha hc2=>iQ F i (by omega)⟩
 ·
  refine WP.exit ?_;refine oL.exit ?_;refine oL.exit ?_;refine iF.same ?_;refine oL.norm ?_;refine ab ?_;refine RL.p rfl rfl (ag [.int .i64 ((r:Nat)),.int .i64 ((c:Nat)),.slice (some ⟨g2,0,none⟩) (r) (r)] aL s7_e1 (hA3.cells 0 _ rfl rfl)) ?_;refine RL.x rfl rfl (cZ.store [.int .i64 ((r:Nat)),.int .i64 ((c:Nat)),.slice (some ⟨g2,0,none⟩) (r) (r)] cG s6_e1 rfl rfl hA1 (Nat.le_of_ble_eq_true rfl) (cJ rfl rfl rfl)) ?_;rintro _ w11 ⟨hk4,hnew⟩;replace hA2:=be hA2 hk4 hA1 (by decide);replace hX1:=hX1.step hk4 (fun b e=>by subst e;exact hbs1);replace hA1:=hnew.lit [.int .i64 ((r:Nat)),.int .i64 ((c:Nat)),.slice (some ⟨g2,0,none⟩) (r) (r)] rfl;clear hnew;refine RL.nil ?_;refine WP.ret ?_;refine ⟨.agg #[.int .i64 ((r:Nat)),.int .i64 ((c:Nat)),.slice (some ⟨g2,0,none⟩) (r) (r)],zw.one (aj [.int .i64 ((r:Nat)),.int .i64 ((c:Nat)),.slice (some ⟨g2,0,none⟩) (r) (r)] aL s6_e1 (hA1.cells 0 _ rfl rfl)),_,rfl,hX1,?_⟩;dsimp only;exact ⟨_,_,_,rfl,vV (cw.congr hA2 fun a c2 ha hc2=>eH F c2 ha) (by omega)⟩
set_option maxRecDepth 10000 in
theorem me (w:World) (i:Nat) (j:Nat) (gx:Nat) (sx:Value) (rx cx:Nat) (Mx:Nat→Nat→Int) (btx:Nat) (hAx:bj w gx 28 3 (bX [.int .i64 (rx:Nat),.int .i64 (cx:Nat),sx])) (hSx:ck w sx rx cx Mx btx) (hrx:rx≤65536) (hcx:cx≤65536) (hi:i<cx) (hj:j<rx):Calls Tryz.prog 119 #[.int .i64 (i:Nat),.int .i64 (j:Nat),.pointer (some ⟨gx,0,none⟩)] w (cg w fun v w'=>am w' v (Mx j i) btx):=by
 have hLIM:bo=562949953421312:=rfl;refine ah (N:=14) (rs:= #[.cell 5 49]) Tryz.func119 rfl rfl rfl (Nat.le_of_ble_eq_true rfl) ?_;have hX:aC w w:=aC.refl w;refine ab ?_;refine RL.x rfl rfl (cZ.alloc [.bool (false),.slice (none) (0) (0)] bV rfl) ?_;rintro _ w1 ⟨g1,rfl,hge1,hx1,hA1⟩;have hbs1:w.heap.size≤g1:=Nat.le_trans hX.size hge1;replace hX:=aC.trans hX hx1;refine RL.nil ?_;refine ab ?_;refine RL.p rfl rfl (cD.fieldAddr an rfl) ?_;refine RL.p rfl rfl (cD.load aF rfl ((bj.ext hAx hX).at_ (i:=2) rfl rfl)) ?_;refine RL.p rfl rfl (cD.move rfl) ?_;refine RL.x rfl rfl (aN (j:=j) az rfl (ck.ext hSx hX) rfl (by omega) (by omega)) ?_;rintro v1 _ ⟨rfl,q1⟩;refine RL.x rfl rfl (aW aP rfl q1) ?_;rintro v2 _ ⟨rfl,q2⟩;refine RL.p rfl rfl (cD.move rfl) ?_;refine RL.x rfl rfl (aR (j:=i) bg rfl q2 rfl (by omega) (by omega)) ?_;rintro v3 _ ⟨rfl,q3⟩;refine RL.x rfl rfl (aX au rfl q3) ?_;rintro v4 _ ⟨rfl,q4⟩;obtain ⟨ca1,cb1,hq1,ho1,ho2⟩:=am.cells q4;have qi1:am w1 (.agg #[ca1,cb1]) ((Mx j) i) btx:=hq1▸q4;refine RL.x rfl rfl (cZ.store [ca1,cb1] bp rfl hq1 rfl hA1 (Nat.le_of_ble_eq_true rfl) (bN ho1 ho2)) ?_;rintro _ w2 ⟨hk1,hnew⟩;replace qi1:=ai qi1 hk1 hA1 (by decide);replace hX:=hX.step hk1 (fun b e=>by subst e;exact hbs1);replace hA1:=hnew.lit [ca1,cb1] rfl;clear hnew;refine RL.nil ?_;refine WP.ret ?_;refine ⟨.agg #[ca1,cb1],zw.one (aj [ca1,cb1] au rfl (hA1.cells 0 _ rfl rfl)),_,rfl,hX,?_⟩;dsimp only;exact qi1
set_option maxRecDepth 10000 in
theorem nz (w:World) (x:Value) (rx cx:Nat) (Mx:Nat→Nat→Int) (btx:Nat) (hx:bU w x rx cx Mx btx):Calls Tryz.prog 97 #[x] w (cg w fun v w'=>ct w' v w.heap.size cx rx (fun i j=>Mx j i) btx):=by
 have hLIM:bo=562949953421312:=rfl;have hmatx:=hx;obtain ⟨sx,rfl,hrx,hcx,hSx⟩:=hx.form;refine ah (N:=9) (rs:= #[.cell 2 28]) Tryz.func97 rfl rfl rfl (Nat.le_of_ble_eq_true rfl) ?_;have hX:aC w w:=aC.refl w;refine ab ?_;refine RL.x rfl rfl (cZ.box [.int .i64 ((rx:Nat)),.int .i64 ((cx:Nat)),sx] rfl rfl) ?_;rintro _ w1 ⟨g1,rfl,hge1,hx1,hA1⟩;replace hX:=aC.trans hX hx1;refine RL.x rfl rfl (cZ.alloc [.int .i64 (0),.int .i64 (0),.slice (none) (0) (0)] cd rfl) ?_;rintro _ w2 ⟨g2,rfl,hge2,hx2,hA2⟩;have hbs2:w.heap.size≤g2:=Nat.le_trans hX.size hge2;replace hA1:=bj.ext hA1 hx2;replace hX:=aC.trans hX hx2;refine RL.nil ?_;refine ab ?_;refine RL.p rfl rfl (cD.fieldAddr bs rfl) ?_;refine RL.p rfl rfl (cD.load bt rfl (hA1.at_ (i:=1) rfl rfl)) ?_;refine RL.p rfl rfl (cD.fieldAddr aS rfl) ?_;refine RL.p rfl rfl (cD.load bt rfl (hA1.at_ (i:=0) rfl rfl)) ?_;refine RL.p rfl rfl (cD.makeFunc (lE) (aJ rfl)) ?_;have hBw1:w.heap.size≤w2.heap.size:=hX.size;refine RL.x rfl rfl (cZ.call pa (cN rfl rfl rfl) (jx _ cx rx _ (fun i j=>Mx j i) btx (by omega) (by omega) ⟨119,#[],#[.pointer (some ⟨g1,0,none⟩)],rfl,wY,fun w1 hw1 i j hi hj=>me _ _ _ _ _ _ _ _ _ (bj.ext hA1 hw1) (ck.ext (ck.ext hSx hX) hw1) (by omega) (by omega) (by omega) (by omega)⟩ (by omega))) ?_;rintro v1 w3 ⟨hx3,q1⟩;replace hA2:=bj.ext hA2 hx3;replace hX:=aC.trans hX hx3;obtain ⟨gh1,kh1,ρ1,hq1,hM1⟩:=q1;have hd1:=cw.dlim hM1;have hd2:=cw.clim hM1;refine RL.x rfl rfl (cZ.store [.int .i64 ((cx:Nat)),.int .i64 ((rx:Nat)),.slice (some ⟨gh1,0,none⟩) (cx) (kh1)] cG rfl hq1 rfl hA2 (Nat.le_of_ble_eq_true rfl) (cJ rfl rfl rfl)) ?_;rintro _ w4 ⟨hk1,hnew⟩;replace hM1:=be hM1 hk1 hA2 (by decide);replace hX:=hX.step hk1 (fun b e=>by subst e;exact hbs2);replace hA2:=hnew.lit [.int .i64 ((cx:Nat)),.int .i64 ((rx:Nat)),.slice (some ⟨gh1,0,none⟩) (cx) (kh1)] rfl;clear hnew;refine RL.nil ?_;refine WP.ret ?_;refine ⟨.agg #[.int .i64 ((cx:Nat)),.int .i64 ((rx:Nat)),.slice (some ⟨gh1,0,none⟩) (cx) (kh1)],zw.one (aj [.int .i64 ((cx:Nat)),.int .i64 ((rx:Nat)),.slice (some ⟨gh1,0,none⟩) (cx) (kh1)] aL rfl (hA2.cells 0 _ rfl rfl)),_,rfl,hX,?_⟩;dsimp only;exact ⟨_,_,_,rfl,cw.low hM1 (hBw1)⟩
set_option maxRecDepth 10000 in
theorem nA (w:World) (i:Nat) (j:Nat):Calls Tryz.prog 82 #[.int .i64 (i:Nat),.int .i64 (j:Nat)] w (cg w fun v w'=>am w' v (du i j) 1):=by
 have hLIM:bo=562949953421312:=rfl;refine ah (N:=10) (rs:= #[.cell 4 49]) Tryz.func82 rfl rfl rfl (Nat.le_of_ble_eq_true rfl) ?_;have hX:aC w w:=aC.refl w;refine ab ?_;refine RL.x rfl rfl (cZ.alloc [.bool (false),.slice (none) (0) (0)] bV rfl) ?_;rintro _ w1 ⟨g1,rfl,hge1,hx1,hA1⟩;have hbs1:w.heap.size≤g1:=Nat.le_trans hX.size hge1;replace hX:=aC.trans hX hx1;refine RL.nil ?_;refine WP.seq ?_;refine ab ?_;refine RL.p rfl rfl (cD.move rfl) ?_;refine RL.p rfl rfl (cD.move rfl) ?_;refine RL.p rfl rfl (cD.eql rfl rfl) ?_;refine RL.nil ?_;refine ae (((i:Nat):Int)=((j:Nat):Int)) rfl (fun c7=> ?_) (fun c7=> ?_)
 ·
  refine ab ?_;refine RL.x rfl rfl (cZ.call pb (aJ rfl) (vM (1) (1) _ (by decide) (by decide) (by decide))) ?_;rintro v1 w2 ⟨hx2,q1⟩;replace hA1:=bj.ext hA1 hx2;replace hX:=aC.trans hX hx2;obtain ⟨ca1,cb1,hq1,ho1,ho2⟩:=am.cells q1;have qi1:am w2 (.agg #[ca1,cb1]) 1 1:=hq1▸q1;refine RL.x rfl rfl (cZ.store [ca1,cb1] bp rfl hq1 rfl hA1 (Nat.le_of_ble_eq_true rfl) (bN ho1 ho2)) ?_;rintro _ w3 ⟨hk1,hnew⟩;replace qi1:=ai qi1 hk1 hA1 (by decide);replace hX:=hX.step hk1 (fun b e=>by subst e;exact hbs1);replace hA1:=hnew.lit [ca1,cb1] rfl;clear hnew;refine RL.nil ?_;refine WP.ret ?_;refine oL.ret ?_;refine ⟨.agg #[ca1,cb1],zw.one (aj [ca1,cb1] au rfl (hA1.cells 0 _ rfl rfl)),_,rfl,hX,?_⟩;dsimp only;have he:i=j:=by omega
  exact am.eq qi1 (by simp [du,he]) (by simp [du,he]) (by decide)
 ·
  refine WP.skip ?_;refine oL.norm ?_;refine ab ?_;refine RL.p rfl rfl (cD.build (vs:= []) [(0,1),(1,1)] lc bV (ma) rfl) ?_;refine RL.x rfl rfl (cZ.store [.bool (false),.slice (none) (0) (0)] bp rfl rfl rfl hA1 (Nat.le_of_ble_eq_true rfl) (bN rfl rfl)) ?_;rintro _ w4 ⟨hk2,hnew⟩;replace hX:=hX.step hk2 (fun b e=>by subst e;exact hbs1);replace hA1:=hnew.lit [.bool (false),.slice (none) (0) (0)] rfl;clear hnew;refine RL.nil ?_;refine WP.ret ?_;refine ⟨.agg #[.bool (false),.slice (none) (0) (0)],zw.one (aj [.bool (false),.slice (none) (0) (0)] au rfl (hA1.cells 0 _ rfl rfl)),_,rfl,hX,?_⟩;dsimp only;have he:¬i=j:=by omega
  exact am.eq ((am.zero w).ext hX) (by simp [du,he]) (by simp [du,he]) (by decide)
set_option maxRecDepth 10000 in
theorem gL (w:World) (n:Nat) (hn:n≤65536):Calls Tryz.prog 39 #[.int .i64 (n:Nat)] w (cg w fun v w'=>ct w' v w.heap.size n n du 1):=by
 have hLIM:bo=562949953421312:=rfl;refine ah (N:=6) (rs:= #[.cell 2 28]) Tryz.func39 rfl rfl rfl (Nat.le_of_ble_eq_true rfl) ?_;have hX:aC w w:=aC.refl w;refine ab ?_;refine RL.x rfl rfl (cZ.alloc [.int .i64 (0),.int .i64 (0),.slice (none) (0) (0)] cd rfl) ?_;rintro _ w1 ⟨g1,rfl,hge1,hx1,hA1⟩;have hbs1:w.heap.size≤g1:=Nat.le_trans hX.size hge1;replace hX:=aC.trans hX hx1;refine RL.nil ?_;refine ab ?_;refine RL.p rfl rfl (cD.move rfl) ?_;refine RL.p rfl rfl (cD.move rfl) ?_;have hBw1:w.heap.size≤w1.heap.size:=hX.size;refine RL.x rfl rfl (cZ.call pa (cN rfl rfl rfl) (jx _ n n _ du 1 (by omega) (by omega) ⟨82,#[],#[],rfl,yv,fun w1 hw1 i j hi hj=>nA _ i j⟩ (by omega))) ?_;rintro v1 w2 ⟨hx2,q1⟩;replace hA1:=bj.ext hA1 hx2;replace hX:=aC.trans hX hx2;obtain ⟨gh1,kh1,ρ1,hq1,hM1⟩:=q1;have hd1:=cw.dlim hM1;have hd2:=cw.clim hM1;refine RL.x rfl rfl (cZ.store [.int .i64 ((n:Nat)),.int .i64 ((n:Nat)),.slice (some ⟨gh1,0,none⟩) (n) (kh1)] cG rfl hq1 rfl hA1 (Nat.le_of_ble_eq_true rfl) (cJ rfl rfl rfl)) ?_;rintro _ w3 ⟨hk1,hnew⟩;replace hM1:=be hM1 hk1 hA1 (by decide);replace hX:=hX.step hk1 (fun b e=>by subst e;exact hbs1);replace hA1:=hnew.lit [.int .i64 ((n:Nat)),.int .i64 ((n:Nat)),.slice (some ⟨gh1,0,none⟩) (n) (kh1)] rfl;clear hnew;refine RL.nil ?_;refine WP.ret ?_;refine ⟨.agg #[.int .i64 ((n:Nat)),.int .i64 ((n:Nat)),.slice (some ⟨gh1,0,none⟩) (n) (kh1)],zw.one (aj [.int .i64 ((n:Nat)),.int .i64 ((n:Nat)),.slice (some ⟨gh1,0,none⟩) (n) (kh1)] aL rfl (hA1.cells 0 _ rfl rfl)),_,rfl,hX,?_⟩;dsimp only;exact ⟨_,_,_,rfl,cw.low hM1 (hBw1)⟩
set_option maxRecDepth 10000 in
theorem tf (w:World) (i:Nat) (j:Nat) (k:Value) (zk:Int) (btk:Nat) (gx:Nat) (sx:Value) (rx cx:Nat) (Mx:Nat→Nat→Int) (btx:Nat) (hk:mG w k zk btk) (hAx:bj w gx 28 3 (bX [.int .i64 (rx:Nat),.int .i64 (cx:Nat),sx])) (hSx:ck w sx rx cx Mx btx) (hrx:rx≤65536) (hcx:cx≤65536) (hi:i<rx) (hj:j<cx) (hb:btk + btx≤bo):Calls Tryz.prog 109 #[.int .i64 (i:Nat),.int .i64 (j:Nat),k,.pointer (some ⟨gx,0,none⟩)] w (cg w fun v w'=>am w' v (zk*Mx i j) (btk + btx)):=by
 have hLIM:bo=562949953421312:=rfl;refine ah (N:=17) (rs:= #[.cell 6 49]) Tryz.func109 rfl rfl rfl (Nat.le_of_ble_eq_true rfl) ?_;have hX:aC w w:=aC.refl w;refine ab ?_;refine RL.x rfl rfl (cZ.alloc [.bool (false),.slice (none) (0) (0)] bV rfl) ?_;rintro _ w1 ⟨g1,rfl,hge1,hx1,hA1⟩;have hbs1:w.heap.size≤g1:=Nat.le_trans hX.size hge1;replace hX:=aC.trans hX hx1;refine RL.nil ?_;refine aE ak 10 [_,_,_,_,_,_,_,_,_,_] rfl rfl (fun e_ w_ zZ zY=>⟨fun _=>af (aX au (zY 2 rfl rfl) (mG.ext (mG.ext hk hX) zZ)),fun _=>aa (cD.fieldAddr an ((zY 3 rfl rfl))),fun zX=>aa (cD.load aF ((zX 1 rfl)) ((bj.ext (bj.ext hAx hX) zZ).at_ (i:=2) rfl rfl)),fun _=>aa (cD.move ((zY 0 rfl rfl))),fun zX=>af (aN (j:=i) az (zX 2 rfl) (ck.ext (ck.ext hSx hX) zZ) (zX 3 rfl) (by omega) (by omega)),fun zX=>af (aW aP rfl (zX 4 rfl)),fun _=>aa (cD.move ((zY 1 rfl rfl))),fun zX=>af (aR (j:=j) bg rfl (zX 5 rfl) (zX 6 rfl) (by omega) (by omega)),fun zX=>af (aX au rfl (zX 7 rfl)),fun zX=>cZ.call oZ (aB rfl rfl) (pY _ _ _ _ _ _ _ ((btk) + (btx)) ((zX 0 rfl)) ((zX 8 rfl)) (by omega) (by omega)),trivial⟩) ?_;intro e1 w2 hx2 ho1 hf1;replace hA1:=bj.ext hA1 hx2;replace hX:=aC.trans hX hx2;have s6_e1:e1 6=_:=ho1 6 rfl rfl;have s16_e1:am w2 (e1 16) ((zk:Int)*((Mx i) j:Int)) ((btk) + (btx)):=hf1 9 rfl;obtain ⟨ca1,cb1,hq1,ho2,ho3⟩:=am.cells s16_e1;have qi1:am w2 (.agg #[ca1,cb1]) ((zk:Int)*((Mx i) j:Int)) ((btk) + (btx)):=hq1▸s16_e1;refine RL.x rfl rfl (cZ.store [ca1,cb1] bp s6_e1 hq1 rfl hA1 (Nat.le_of_ble_eq_true rfl) (bN ho2 ho3)) ?_;rintro _ w3 ⟨hk1,hnew⟩;replace qi1:=ai qi1 hk1 hA1 (by decide);replace hX:=hX.step hk1 (fun b e=>by subst e;exact hbs1);replace hA1:=hnew.lit [ca1,cb1] rfl;clear hnew;refine RL.nil ?_;refine WP.ret ?_;refine ⟨.agg #[ca1,cb1],zw.one (aj [ca1,cb1] au s6_e1 (hA1.cells 0 _ rfl rfl)),_,rfl,hX,?_⟩;dsimp only;exact qi1
set_option maxRecDepth 10000 in
theorem vc (w:World) (x:Value) (rx cx:Nat) (Mx:Nat→Nat→Int) (btx:Nat) (k:Value) (zk:Int) (btk:Nat) (hx:bU w x rx cx Mx btx) (hk:am w k zk btk) (hb:btk + btx≤bo):Calls Tryz.prog 79 #[x,k] w (cg w fun v w'=>ct w' v w.heap.size rx cx (fun i j=>zk*Mx i j) (btk + btx)):=by
 have hLIM:bo=562949953421312:=rfl;have hmatx:=hx;obtain ⟨sx,rfl,hrx,hcx,hSx⟩:=hx.form;refine ah (N:=11) (rs:= #[.cell 4 28]) Tryz.func79 rfl rfl rfl (Nat.le_of_ble_eq_true rfl) ?_;have hX:aC w w:=aC.refl w;refine ab ?_;refine RL.x rfl rfl (cZ.box [.int .i64 ((rx:Nat)),.int .i64 ((cx:Nat)),sx] rfl rfl) ?_;rintro _ w1 ⟨g1,rfl,hge1,hx1,hA1⟩;replace hX:=aC.trans hX hx1;obtain ⟨ca1,cb1,hq1,ho1,ho2⟩:=am.cells (am.ext hk hX);have qi1:am w1 (.agg #[ca1,cb1]) zk btk:=hq1▸(am.ext hk hX);refine RL.x rfl rfl (cZ.box [ca1,cb1] hq1 rfl) ?_;rintro _ w2 ⟨g2,rfl,hge2,hx2,hA2⟩;replace hA1:=bj.ext hA1 hx2;replace qi1:=am.ext qi1 hx2;replace hX:=aC.trans hX hx2;refine RL.x rfl rfl (cZ.alloc [.int .i64 (0),.int .i64 (0),.slice (none) (0) (0)] cd rfl) ?_;rintro _ w3 ⟨g3,rfl,hge3,hx3,hA3⟩;have hbs3:w.heap.size≤g3:=Nat.le_trans hX.size hge3;replace hA1:=bj.ext hA1 hx3;replace qi1:=am.ext qi1 hx3;replace hA2:=bj.ext hA2 hx3;replace hX:=aC.trans hX hx3;refine RL.nil ?_;refine ab ?_;refine RL.p rfl rfl (cD.fieldAddr aS rfl) ?_;refine RL.p rfl rfl (cD.load bt rfl (hA1.at_ (i:=0) rfl rfl)) ?_;refine RL.p rfl rfl (cD.fieldAddr bs rfl) ?_;refine RL.p rfl rfl (cD.load bt rfl (hA1.at_ (i:=1) rfl rfl)) ?_;refine RL.p rfl rfl (cD.makeFunc (lE) (aB rfl rfl)) ?_;have hBw1:w.heap.size≤w3.heap.size:=hX.size;have hlt1:g2<w3.heap.size:=hA2.lt;refine RL.x rfl rfl (cZ.call pa (cN rfl rfl rfl) (jx _ rx cx _ (fun i j=>zk*Mx i j) (btk + btx) (by omega) (by omega) ⟨109,#[],#[.pointer (some ⟨g2,0,none⟩),.pointer (some ⟨g1,0,none⟩)],rfl,xc,fun w1 hw1 i j hi hj=>tf _ _ _ _ _ _ _ _ _ _ _ _ (mG.ext (tq hA2 qi1) hw1) (bj.ext hA1 hw1) (ck.ext (ck.ext hSx hX) hw1) (by omega) (by omega) (by omega) (by omega) (by omega)⟩ (by omega))) ?_;rintro v1 w4 ⟨hx4,q1⟩;replace hA3:=bj.ext hA3 hx4;replace hX:=aC.trans hX hx4;obtain ⟨gh1,kh1,ρ1,hq2,hM1⟩:=q1;have hd1:=cw.dlim hM1;have hd2:=cw.clim hM1;refine RL.x rfl rfl (cZ.store [.int .i64 ((rx:Nat)),.int .i64 ((cx:Nat)),.slice (some ⟨gh1,0,none⟩) (rx) (kh1)] cG rfl hq2 rfl hA3 (Nat.le_of_ble_eq_true rfl) (cJ rfl rfl rfl)) ?_;rintro _ w5 ⟨hk1,hnew⟩;replace hM1:=be hM1 hk1 hA3 (by decide);replace hX:=hX.step hk1 (fun b e=>by subst e;exact hbs3);replace hA3:=hnew.lit [.int .i64 ((rx:Nat)),.int .i64 ((cx:Nat)),.slice (some ⟨gh1,0,none⟩) (rx) (kh1)] rfl;clear hnew;refine RL.nil ?_;refine WP.ret ?_;refine ⟨.agg #[.int .i64 ((rx:Nat)),.int .i64 ((cx:Nat)),.slice (some ⟨gh1,0,none⟩) (rx) (kh1)],zw.one (aj [.int .i64 ((rx:Nat)),.int .i64 ((cx:Nat)),.slice (some ⟨gh1,0,none⟩) (rx) (kh1)] aL rfl (hA3.cells 0 _ rfl rfl)),_,rfl,hX,?_⟩;dsimp only;exact ⟨_,_,_,rfl,cw.low hM1 (hBw1)⟩
set_option maxRecDepth 10000 in
theorem tv (w:World) (x:Value) (zx:Int) (btx:Nat) (hx:am w x zx btx):Calls Tryz.prog 93 #[x] w (cg w fun v w'=>v= .bool (decide (gY zx))):=by
 have hLIM:bo=562949953421312:=rfl;refine ah (N:=6) (rs:= #[.tmp 2]) Tryz.func93 rfl rfl rfl (Nat.le_of_ble_eq_true rfl) ?_;have hX:aC w w:=aC.refl w;refine ab ?_;obtain ⟨ca1,cb1,hq1,ho1,ho2⟩:=am.cells (am.ext hx hX);have qi1:am w (.agg #[ca1,cb1]) zx btx:=hq1▸(am.ext hx hX);refine RL.x rfl rfl (cZ.box [ca1,cb1] hq1 rfl) ?_;rintro _ w1 ⟨g1,rfl,hge1,hx1,hA1⟩;replace qi1:=am.ext qi1 hx1;replace hX:=aC.trans hX hx1;refine RL.p rfl rfl (cD.assign rfl) ?_;refine RL.nil ?_;refine ab ?_;refine RL.p rfl rfl (ag [ca1,cb1] au rfl (hA1.cells 0 _ rfl rfl)) ?_;refine RL.x rfl rfl (cZ.call ji (aJ rfl) (fQ _ _ _ _ qi1)) ?_;rintro _ w2 ⟨hx2,rfl⟩;replace hX:=aC.trans hX hx2;refine RL.p rfl rfl (cD.neq rfl rfl) ?_;refine RL.p rfl rfl (cD.assign rfl) ?_;refine RL.nil ?_;refine WP.ret ?_;refine ⟨.bool (decide (((zx:Int).sign:Int)≠(0:Int))),zw.one (fC.tmp rfl),_,rfl,hX,?_⟩;dsimp only;rw [tM]
set_option maxRecDepth 10000 in
theorem uI (w:World) (x:Value) (nx:Nat) (zx:Nat→Int) (btx:Nat) (fv:Value) (p:Int→Prop) [DecidablePred p] (hx:bE w x nx zx btx) (hF:xX Tryz.prog w fv btx p):Calls Tryz.prog 92 #[x,fv] w (cg w fun v w'=>v= .int .i64 (cT p zx nx)):=by
 have hLIM:bo=562949953421312:=rfl;have hlimx:=hx.lim;refine ah (N:=19) (rs:= #[.tmp 4]) Tryz.func92 rfl rfl rfl (Nat.le_of_ble_eq_true rfl) ?_;have hX:aC w w:=aC.refl w;refine ab ?_;refine RL.p rfl rfl (cD.assign rfl) ?_;refine RL.nil ?_;refine WP.seq ?_;refine ab ?_;refine RL.p rfl rfl (cD.move rfl) ?_;refine RL.p rfl rfl (cc da rfl (bE.ext hx hX)) ?_;refine RL.p rfl rfl (cD.move rfl) ?_;refine RL.nil ?_;refine WP.block ?_;refine WP.loop (fun mz ez uz=>∃i:Nat,(mz=nx - i)∧(ez 0=x)∧(ez 1=fv)∧(ez 7= .int .i64 ((nx:Nat)))∧(ez 8= .int .i64 ((i:Nat)))∧(i≤nx)∧(cT p zx i= -1)∧(aC w uz)) (nx - 0) ?_ ?_
 · exact ⟨0,rfl,rfl,rfl,rfl,rfl,(by omega),rfl,hX⟩
 rintro m1 e1 w1 ⟨i,hm1,s0_e1,s1_e1,s7_e1,s8_e1,hi,hnone,hX1⟩;refine ab ?_;refine RL.p rfl rfl (cD.lss s8_e1 s7_e1) ?_;refine RL.nil ?_;refine WP.seq ?_;refine ae (((i:Nat):Int)<((nx:Nat):Int)) rfl (fun c9=> ?_) (fun c9=> ?_)
 ·
  refine WP.skip ?_;refine oL.norm ?_;refine WP.seq ?_;refine WP.block ?_;refine ab ?_;refine RL.p rfl rfl (cD.move s8_e1) ?_;refine RL.p rfl rfl (cD.assign rfl) ?_;refine RL.nil ?_;refine ab ?_;refine RL.p rfl rfl (cD.move s1_e1) ?_;refine RL.p rfl rfl (cD.move s0_e1) ?_;refine RL.p rfl rfl (cD.move rfl) ?_;refine RL.x rfl rfl (aR (j:=i) da rfl (bE.ext hx hX1) rfl (by omega) (by omega)) ?_;rintro v1 _ ⟨rfl,q1⟩;refine RL.x rfl rfl (aX au rfl q1) ?_;rintro v2 _ ⟨rfl,q2⟩;refine RL.x rfl rfl (jm rfl (xX.ext hF hX1) rfl q2) ?_;rintro _ w2 ⟨hx1,rfl⟩;replace hX1:=aC.trans hX1 hx1;refine RL.nil ?_;refine ae (p (zx i)) rfl (fun c16=> ?_) (fun c16=> ?_)
  ·
   refine ab ?_;refine RL.p rfl rfl (cD.move rfl) ?_;refine RL.p rfl rfl (cD.assign rfl) ?_;refine RL.nil ?_;refine WP.ret ?_;refine iF.ret ?_;refine oL.ret ?_;refine oL.ret ?_;refine iF.ret ?_;refine oL.ret ?_;refine ⟨.int .i64 ((i:Nat)),zw.one (fC.tmp rfl),_,rfl,hX1,?_⟩;dsimp only;rw [dS hnone c16 (by omega)]
  ·
   refine WP.skip ?_;refine iF.norm ?_;refine oL.norm ?_;refine WP.region ?_;refine RL.p rfl rfl (cD.add (c:=((i + 1:Nat):Int)) s8_e1 rfl (bS (by omega))) ?_;refine RL.p rfl rfl (cD.move rfl) ?_;refine RL.nil ?_;refine oL.norm ⟨_,(by omega),i + 1,rfl,s0_e1,s1_e1,s7_e1,rfl,(by omega),(gk hnone c16),hX1⟩
 ·
  refine WP.exit ?_;refine oL.exit ?_;refine oL.exit ?_;refine iF.same ?_;refine oL.norm ?_;refine ab ?_;refine RL.p rfl rfl (cD.assign rfl) ?_;refine RL.nil ?_;refine WP.ret ?_;refine ⟨.int .i64 (-1),zw.one (fC.tmp rfl),_,rfl,hX1,?_⟩;dsimp only;rw [show nx=i by omega,hnone]
set_option maxRecDepth 10000 in
theorem jC (w:World) (x:Value) (nx:Nat) (zx:Nat→Int) (btx:Nat) (hx:bE w x nx zx btx):Calls Tryz.prog 56 #[x] w (cg w fun v w'=>v= .int .i64 (piv zx nx)):=by
 have hLIM:bo=562949953421312:=rfl;have hlimx:=hx.lim;refine ah (N:=5) (rs:= #[.tmp 2]) Tryz.func56 rfl rfl rfl (Nat.le_of_ble_eq_true rfl) ?_;have hX:aC w w:=aC.refl w;refine ab ?_;refine RL.p rfl rfl (cD.assign rfl) ?_;refine RL.nil ?_;refine ab ?_;refine RL.p rfl rfl (cD.move rfl) ?_;refine RL.x rfl rfl (cZ.call ym (aB rfl rfl) (uI _ _ _ _ _ _ gY (bE.ext hx hX) (⟨93,#[],#[],rfl,yl,fun w1 hw1 x z hI=>tv _ _ _ _ hI⟩))) ?_;rintro _ w1 ⟨hx1,rfl⟩;replace hX:=aC.trans hX hx1;refine RL.p rfl rfl (cD.assign rfl) ?_;refine RL.nil ?_;refine WP.ret ?_;refine ⟨.int .i64 (cT gY zx nx),zw.one (fC.tmp rfl),_,rfl,hX,?_⟩
 rfl
set_option maxRecDepth 10000 in
theorem xx (w:World) (x:Value) (zx:Int) (btx:Nat) (y:Value) (zy:Int) (bty:Nat) (hx:am w x zx btx) (hy:am w y zy bty):Calls Tryz.prog 104 #[x,y] w (cg w fun v w'=>v= .bool (decide (zx=zy))):=by
 have hLIM:bo=562949953421312:=rfl;refine ah (N:=9) (rs:= #[.tmp 4]) Tryz.func104 rfl rfl rfl (Nat.le_of_ble_eq_true rfl) ?_;have hX:aC w w:=aC.refl w;refine ab ?_;obtain ⟨ca1,cb1,hq1,ho1,ho2⟩:=am.cells (am.ext hx hX);have qi1:am w (.agg #[ca1,cb1]) zx btx:=hq1▸(am.ext hx hX);refine RL.x rfl rfl (cZ.box [ca1,cb1] hq1 rfl) ?_;rintro _ w1 ⟨g1,rfl,hge1,hx1,hA1⟩;replace qi1:=am.ext qi1 hx1;replace hX:=aC.trans hX hx1;obtain ⟨ca2,cb2,hq2,ho3,ho4⟩:=am.cells (am.ext hy hX);have qi2:am w1 (.agg #[ca2,cb2]) zy bty:=hq2▸(am.ext hy hX);refine RL.x rfl rfl (cZ.box [ca2,cb2] hq2 rfl) ?_;rintro _ w2 ⟨g2,rfl,hge2,hx2,hA2⟩;replace qi1:=am.ext qi1 hx2;replace hA1:=bj.ext hA1 hx2;replace qi2:=am.ext qi2 hx2;replace hX:=aC.trans hX hx2;refine RL.p rfl rfl (cD.assign rfl) ?_;refine RL.nil ?_;refine ab ?_;refine RL.p rfl rfl (ag [ca1,cb1] au rfl (hA1.cells 0 _ rfl rfl)) ?_;refine RL.p rfl rfl (ag [ca2,cb2] au rfl (hA2.cells 0 _ rfl rfl)) ?_;refine RL.x rfl rfl (cZ.call rH (aB rfl rfl) (tS _ _ _ _ _ _ _ qi1 qi2)) ?_;rintro _ w3 ⟨hx3,rfl⟩;replace hX:=aC.trans hX hx3;refine RL.p rfl rfl (cD.eql rfl rfl) ?_;refine RL.p rfl rfl (cD.assign rfl) ?_;refine RL.nil ?_;refine WP.ret ?_;refine ⟨.bool (decide ((cb (zx) (zy):Int)=(0:Int))),zw.one (fC.tmp rfl),_,rfl,hX,?_⟩;dsimp only;rw [pU (kR zx zy)]
set_option maxRecDepth 10000 in
theorem uJ (w:World) (x:Value) (nx:Nat) (zx:Nat→Int) (btx:Nat) (y:Value) (ny:Nat) (zy:Nat→Int) (bty:Nat) (fv:Value) (hx:bE w x nx zx btx) (hy:bE w y ny zy bty) (hF:vZ Tryz.prog w fv btx bty):Calls Tryz.prog 103 #[x,y,fv] w (cg w fun v w'=>v= .bool (decide (aA nx ny zx zy))):=by
 have hLIM:bo=562949953421312:=rfl;have hlimx:=hx.lim;have hlimy:=hy.lim;refine ah (N:=32) (rs:= #[.tmp 6]) Tryz.func103 rfl rfl rfl (Nat.le_of_ble_eq_true rfl) ?_;have hX:aC w w:=aC.refl w;refine ab ?_;refine RL.p rfl rfl (cD.assign rfl) ?_;refine RL.nil ?_;refine WP.seq ?_;refine ab ?_;refine RL.p rfl rfl (cD.move rfl) ?_;refine RL.p rfl rfl (cc bg rfl (bE.ext hx hX)) ?_;refine RL.p rfl rfl (cD.move rfl) ?_;refine RL.p rfl rfl (cc bg rfl (bE.ext hy hX)) ?_;refine RL.p rfl rfl (cD.neq rfl rfl) ?_;refine RL.nil ?_;refine ae (((nx:Nat):Int)≠((ny:Nat):Int)) rfl (fun c14=> ?_) (fun c14=> ?_)
 ·
  refine ab ?_;refine RL.p rfl rfl (cD.assign rfl) ?_;refine RL.nil ?_;refine WP.ret ?_;refine oL.ret ?_;refine ⟨.bool (false),zw.one (fC.tmp rfl),_,rfl,hX,?_⟩;dsimp only;rw [nd (by omega)]
 ·
  refine WP.skip ?_;refine oL.norm ?_;refine WP.seq ?_;refine ab ?_;refine RL.p rfl rfl (cD.move rfl) ?_;refine RL.p rfl rfl (cc bg rfl (bE.ext hx hX)) ?_;refine RL.p rfl rfl (cD.move rfl) ?_;refine RL.nil ?_;refine WP.block ?_;refine WP.loop (fun mz ez uz=>∃i:Nat,(mz=nx - i)∧(ez 1=y)∧(ez 2=fv)∧(ez 15=x)∧(ez 16= .int .i64 ((nx:Nat)))∧(ez 17= .int .i64 ((i:Nat)))∧(i≤nx)∧(∀j,j<i→zx j=zy j)∧(aC w uz)) (nx - 0) ?_ ?_
  · exact ⟨0,rfl,rfl,rfl,rfl,rfl,rfl,(by omega),(fun j hj=>by omega),hX⟩
  rintro m1 e1 w1 ⟨i,hm1,s1_e1,s2_e1,s15_e1,s16_e1,s17_e1,hi,heq,hX1⟩;refine ab ?_;refine RL.p rfl rfl (cD.lss s17_e1 s16_e1) ?_;refine RL.nil ?_;refine WP.seq ?_;refine ae (((i:Nat):Int)<((nx:Nat):Int)) rfl (fun c18=> ?_) (fun c18=> ?_)
  ·
   refine WP.skip ?_;refine oL.norm ?_;refine WP.seq ?_;refine WP.block ?_;refine ab ?_;refine RL.p rfl rfl (cD.move s17_e1) ?_;refine RL.x rfl rfl (aR (j:=i) bg s15_e1 (bE.ext hx hX1) s17_e1 (by omega) (by omega)) ?_;rintro v1 _ ⟨rfl,q1⟩;refine RL.x rfl rfl (aX au rfl q1) ?_;rintro v2 _ ⟨rfl,q2⟩;refine RL.x rfl rfl (cZ.alloc [.bool (false),.slice (none) (0) (0)] bV rfl) ?_;rintro _ w2 ⟨g1,rfl,hge1,hx1,hA1⟩;have hbs1:w.heap.size≤g1:=Nat.le_trans hX1.size hge1;replace q2:=am.ext q2 hx1;replace hX1:=aC.trans hX1 hx1;refine RL.p rfl rfl (cD.assign rfl) ?_;obtain ⟨ca1,cb1,hq1,ho1,ho2⟩:=am.cells q2;have qi1:am w2 (.agg #[ca1,cb1]) (zx i) btx:=hq1▸q2;refine RL.x rfl rfl (cZ.store [ca1,cb1] bp rfl hq1 rfl hA1 (Nat.le_of_ble_eq_true rfl) (bN ho1 ho2)) ?_;rintro _ w3 ⟨hk1,hnew⟩;replace qi1:=ai qi1 hk1 hA1 (by decide);replace hX1:=hX1.step hk1 (fun b e=>by subst e;exact hbs1);replace hA1:=hnew.lit [ca1,cb1] rfl;clear hnew;refine RL.nil ?_;refine ab ?_;refine RL.p rfl rfl (cD.move s1_e1) ?_;refine RL.p rfl rfl (cD.move rfl) ?_;refine RL.x rfl rfl (aR (j:=i) bg rfl (bE.ext hy hX1) rfl (by omega) (by omega)) ?_;rintro v3 _ ⟨rfl,q3⟩;refine RL.x rfl rfl (aX au rfl q3) ?_;rintro v4 _ ⟨rfl,q4⟩;refine RL.x rfl rfl (cZ.alloc [.bool (false),.slice (none) (0) (0)] bV rfl) ?_;rintro _ w4 ⟨g2,rfl,hge2,hx2,hA2⟩;have ne1:g1≠g2:=Nat.ne_of_lt (Nat.lt_of_lt_of_le hA1.lt hge2);have hbs2:w.heap.size≤g2:=Nat.le_trans hX1.size hge2;replace hA1:=bj.ext hA1 hx2;replace qi1:=am.ext qi1 hx2;replace q4:=am.ext q4 hx2;replace hX1:=aC.trans hX1 hx2;obtain ⟨ca2,cb2,hq2,ho3,ho4⟩:=am.cells q4;have qi2:am w4 (.agg #[ca2,cb2]) (zy i) bty:=hq2▸q4;refine RL.x rfl rfl (cZ.store [ca2,cb2] bp rfl hq2 rfl hA2 (Nat.le_of_ble_eq_true rfl) (bN ho3 ho4)) ?_;rintro _ w5 ⟨hk2,hnew⟩;replace hA1:=hA1.keep hk2 ne1;replace qi1:=ai qi1 hk2 hA2 (by decide);replace qi2:=ai qi2 hk2 hA2 (by decide);replace hX1:=hX1.step hk2 (fun b e=>by subst e;exact hbs2);replace hA2:=hnew.lit [ca2,cb2] rfl;clear hnew;refine RL.nil ?_;refine ab ?_;refine RL.p rfl rfl (cD.move s2_e1) ?_;refine RL.p rfl rfl (ag [ca1,cb1] au rfl (hA1.cells 0 _ rfl rfl)) ?_;refine RL.p rfl rfl (ag [ca2,cb2] au rfl (hA2.cells 0 _ rfl rfl)) ?_;refine RL.x rfl rfl (mC rfl (vZ.ext hF hX1) rfl rfl qi1 qi2) ?_;rintro _ w6 ⟨hx3,rfl⟩;replace hX1:=aC.trans hX1 hx3;refine RL.p rfl rfl (cD.not (p:=zx i=zy i) rfl) ?_;refine RL.nil ?_;refine ae (¬(zx i=zy i)) rfl (fun c30=> ?_) (fun c30=> ?_)
   ·
    refine ab ?_;refine RL.p rfl rfl (cD.assign rfl) ?_;refine RL.nil ?_;refine WP.ret ?_;refine iF.ret ?_;refine oL.ret ?_;refine oL.ret ?_;refine iF.ret ?_;refine oL.ret ?_;refine ⟨.bool (false),zw.one (fC.tmp rfl),_,rfl,hX1,?_⟩;dsimp only;rw [nf (i:=i) (by omega) (by simpa using c30)]
   ·
    refine WP.skip ?_;refine iF.norm ?_;refine oL.norm ?_;refine WP.region ?_;refine RL.p rfl rfl (cD.add (c:=((i + 1:Nat):Int)) s17_e1 rfl (bS (by omega))) ?_;refine RL.p rfl rfl (cD.move rfl) ?_;refine RL.nil ?_;refine oL.norm ⟨_,(by omega),i + 1,rfl,s1_e1,s2_e1,s15_e1,s16_e1,rfl,(by omega),(ei heq (by simpa using c30)),hX1⟩
  ·
   refine WP.exit ?_;refine oL.exit ?_;refine oL.exit ?_;refine iF.same ?_;refine oL.norm ?_;refine ab ?_;refine RL.p rfl rfl (cD.assign rfl) ?_;refine RL.nil ?_;refine WP.ret ?_;refine ⟨.bool (true),zw.one (fC.tmp rfl),_,rfl,hX1,?_⟩;dsimp only;rw [li (by omega) (fun j hj=>heq j (by omega))]
set_option maxRecDepth 10000 in
theorem th (w:World) (x:Value) (nx:Nat) (zx:Nat→Int) (btx:Nat) (y:Value) (ny:Nat) (zy:Nat→Int) (bty:Nat) (hx:bE w x nx zx btx) (hy:bE w y ny zy bty):Calls Tryz.prog 102 #[x,y] w (cg w fun v w'=>v= .bool (decide (aA nx ny zx zy))):=by
 have hLIM:bo=562949953421312:=rfl;have hlimx:=hx.lim;have hlimy:=hy.lim;refine ah (N:=8) (rs:= #[.tmp 4]) Tryz.func102 rfl rfl rfl (Nat.le_of_ble_eq_true rfl) ?_;have hX:aC w w:=aC.refl w;refine ab ?_;refine RL.p rfl rfl (cD.assign rfl) ?_;refine RL.nil ?_;refine ab ?_;refine RL.p rfl rfl (cD.move rfl) ?_;refine RL.p rfl rfl (cD.move rfl) ?_;refine RL.x rfl rfl (cZ.call xf (cN rfl rfl rfl) (uJ _ _ _ _ _ _ _ _ _ _ (bE.ext hx hX) (bE.ext hy hX) ⟨104,#[],#[],rfl,xe,fun w1 hw1 x z y u hI hJ=>xx _ _ _ _ _ _ _ hI hJ⟩)) ?_;rintro _ w1 ⟨hx1,rfl⟩;replace hX:=aC.trans hX hx1;refine RL.p rfl rfl (cD.assign rfl) ?_;refine RL.nil ?_;refine WP.ret ?_;refine ⟨.bool (decide (aA nx ny zx zy)),zw.one (fC.tmp rfl),_,rfl,hX,?_⟩
 rfl
set_option maxRecDepth 10000 in
theorem sk (w:World) (x:Value) (nx cx:Nat) (Mx:Nat→Nat→Int) (btx:Nat) (y:Value) (ny cy:Nat) (My:Nat→Nat→Int) (bty:Nat) (fv:Value) (hx:ck w x nx cx Mx btx) (hy:ck w y ny cy My bty) (hF:vY Tryz.prog w fv btx bty):Calls Tryz.prog 101 #[x,y,fv] w (cg w fun v w'=>v= .bool (decide (fY nx ny cx cy Mx My))):=by
 have hLIM:bo=562949953421312:=rfl;have hlimx:=hx.lim;have hlimy:=hy.lim;refine ah (N:=32) (rs:= #[.tmp 6]) Tryz.func101 rfl rfl rfl (Nat.le_of_ble_eq_true rfl) ?_;have hX:aC w w:=aC.refl w;refine ab ?_;refine RL.p rfl rfl (cD.assign rfl) ?_;refine RL.nil ?_;refine WP.seq ?_;refine ab ?_;refine RL.p rfl rfl (cD.move rfl) ?_;refine RL.p rfl rfl (cj az rfl (ck.ext hx hX)) ?_;refine RL.p rfl rfl (cD.move rfl) ?_;refine RL.p rfl rfl (cj az rfl (ck.ext hy hX)) ?_;refine RL.p rfl rfl (cD.neq rfl rfl) ?_;refine RL.nil ?_;refine ae (((nx:Nat):Int)≠((ny:Nat):Int)) rfl (fun c14=> ?_) (fun c14=> ?_)
 ·
  refine ab ?_;refine RL.p rfl rfl (cD.assign rfl) ?_;refine RL.nil ?_;refine WP.ret ?_;refine oL.ret ?_;refine ⟨.bool (false),zw.one (fC.tmp rfl),_,rfl,hX,?_⟩;dsimp only;rw [tt (by omega)]
 ·
  refine WP.skip ?_;refine oL.norm ?_;refine WP.seq ?_;refine ab ?_;refine RL.p rfl rfl (cD.move rfl) ?_;refine RL.p rfl rfl (cj az rfl (ck.ext hx hX)) ?_;refine RL.p rfl rfl (cD.move rfl) ?_;refine RL.nil ?_;refine WP.block ?_;refine WP.loop (fun mz ez uz=>∃i:Nat,(mz=nx - i)∧(ez 1=y)∧(ez 2=fv)∧(ez 15=x)∧(ez 16= .int .i64 ((nx:Nat)))∧(ez 17= .int .i64 ((i:Nat)))∧(i≤nx)∧(∀j,j<i→aA cx cy (Mx j) (My j))∧(aC w uz)) (nx - 0) ?_ ?_
  · exact ⟨0,rfl,rfl,rfl,rfl,rfl,rfl,(by omega),(fun j hj=>by omega),hX⟩
  rintro m1 e1 w1 ⟨i,hm1,s1_e1,s2_e1,s15_e1,s16_e1,s17_e1,hi,heq,hX1⟩;refine ab ?_;refine RL.p rfl rfl (cD.lss s17_e1 s16_e1) ?_;refine RL.nil ?_;refine WP.seq ?_;refine ae (((i:Nat):Int)<((nx:Nat):Int)) rfl (fun c18=> ?_) (fun c18=> ?_)
  ·
   refine WP.skip ?_;refine oL.norm ?_;refine WP.seq ?_;refine WP.block ?_;refine ab ?_;refine RL.p rfl rfl (cD.move s17_e1) ?_;refine RL.x rfl rfl (aN (j:=i) az s15_e1 (ck.ext hx hX1) s17_e1 (by omega) (by omega)) ?_;rintro v1 _ ⟨rfl,q1⟩;refine RL.x rfl rfl (aW aP rfl q1) ?_;rintro v2 _ ⟨rfl,q2⟩;refine RL.p rfl rfl (cD.assign rfl) ?_;refine RL.p rfl rfl (cD.assign rfl) ?_;refine RL.nil ?_;refine ab ?_;refine RL.p rfl rfl (cD.move s1_e1) ?_;refine RL.p rfl rfl (cD.move rfl) ?_;refine RL.x rfl rfl (aN (j:=i) az rfl (ck.ext hy hX1) rfl (by omega) (by omega)) ?_;rintro v3 _ ⟨rfl,q3⟩;refine RL.x rfl rfl (aW aP rfl q3) ?_;rintro v4 _ ⟨rfl,q4⟩;refine RL.p rfl rfl (cD.assign rfl) ?_;refine RL.nil ?_;refine ab ?_;refine RL.p rfl rfl (cD.move s2_e1) ?_;refine RL.p rfl rfl (cD.move rfl) ?_;refine RL.p rfl rfl (cD.move rfl) ?_;refine RL.x rfl rfl (mB rfl (vY.ext hF hX1) rfl rfl q2 q4) ?_;rintro _ w2 ⟨hx1,rfl⟩;replace hX1:=aC.trans hX1 hx1;refine RL.p rfl rfl (cD.not (p:=aA cx cy (Mx i) (My i)) rfl) ?_;refine RL.nil ?_;refine ae (¬(aA cx cy (Mx i) (My i))) rfl (fun c30=> ?_) (fun c30=> ?_)
   ·
    refine ab ?_;refine RL.p rfl rfl (cD.assign rfl) ?_;refine RL.nil ?_;refine WP.ret ?_;refine iF.ret ?_;refine oL.ret ?_;refine oL.ret ?_;refine iF.ret ?_;refine oL.ret ?_;refine ⟨.bool (false),zw.one (fC.tmp rfl),_,rfl,hX1,?_⟩;dsimp only;rw [tu (i:=i) (by omega) (by simpa using c30)]
   ·
    refine WP.skip ?_;refine iF.norm ?_;refine oL.norm ?_;refine WP.region ?_;refine RL.p rfl rfl (cD.add (c:=((i + 1:Nat):Int)) s17_e1 rfl (bS (by omega))) ?_;refine RL.p rfl rfl (cD.move rfl) ?_;refine RL.nil ?_;refine oL.norm ⟨_,(by omega),i + 1,rfl,s1_e1,s2_e1,s15_e1,s16_e1,rfl,(by omega),(ei heq (by simpa using c30)),hX1⟩
  ·
   refine WP.exit ?_;refine oL.exit ?_;refine oL.exit ?_;refine iF.same ?_;refine oL.norm ?_;refine ab ?_;refine RL.p rfl rfl (cD.assign rfl) ?_;refine RL.nil ?_;refine WP.ret ?_;refine ⟨.bool (true),zw.one (fC.tmp rfl),_,rfl,hX1,?_⟩;dsimp only;rw [qY (by omega) (fun j hj=>heq j (by omega))]
set_option maxRecDepth 10000 in
theorem tc (w:World) (x:Value) (rx cx:Nat) (Mx:Nat→Nat→Int) (btx:Nat) (hx:bU w x rx cx Mx btx):Calls Tryz.prog 100 #[x] w (cg w fun v w'=>v= .agg #[.int .i64 (rx:Nat),.int .i64 (cx:Nat)]):=by
 have hLIM:bo=562949953421312:=rfl;have hmatx:=hx;obtain ⟨sx,rfl,hrx,hcx,hSx⟩:=hx.form;refine ah (N:=8) (rs:= #[.cell 2 121]) Tryz.func100 rfl rfl rfl (Nat.le_of_ble_eq_true rfl) ?_;have hX:aC w w:=aC.refl w;refine ab ?_;refine RL.x rfl rfl (cZ.box [.int .i64 ((rx:Nat)),.int .i64 ((cx:Nat)),sx] rfl rfl) ?_;rintro _ w1 ⟨g1,rfl,hge1,hx1,hA1⟩;replace hX:=aC.trans hX hx1;refine RL.x rfl rfl (cZ.alloc [.int .i64 (0),.int .i64 (0)] rE rfl) ?_;rintro _ w2 ⟨g2,rfl,hge2,hx2,hA2⟩;have hbs2:w.heap.size≤g2:=Nat.le_trans hX.size hge2;replace hA1:=bj.ext hA1 hx2;replace hX:=aC.trans hX hx2;refine RL.nil ?_;refine ab ?_;refine RL.p rfl rfl (cD.fieldAddr aS rfl) ?_;refine RL.p rfl rfl (cD.load bt rfl (hA1.at_ (i:=0) rfl rfl)) ?_;refine RL.p rfl rfl (cD.fieldAddr bs rfl) ?_;refine RL.p rfl rfl (cD.load bt rfl (hA1.at_ (i:=1) rfl rfl)) ?_;refine RL.p rfl rfl (mF (vs:= [(0,.int .i64 ((rx:Nat))),(1,.int .i64 ((cx:Nat)))]) wI xY rE (eW rfl rfl) rfl) ?_;refine RL.x rfl rfl (cZ.store [.int .i64 ((rx:Nat)),.int .i64 ((cx:Nat))] wG rfl rfl rfl hA2 (Nat.le_of_ble_eq_true rfl) (bN rfl rfl)) ?_;rintro _ w3 ⟨hk1,hnew⟩;replace hX:=hX.step hk1 (fun b e=>by subst e;exact hbs2);replace hA2:=hnew.lit [.int .i64 ((rx:Nat)),.int .i64 ((cx:Nat))] rfl;clear hnew;refine RL.nil ?_;refine WP.ret ?_;refine ⟨.agg #[.int .i64 ((rx:Nat)),.int .i64 ((cx:Nat))],zw.one (aj [.int .i64 ((rx:Nat)),.int .i64 ((cx:Nat))] xj rfl (hA2.cells 0 _ rfl rfl)),_,rfl,hX,?_⟩
 rfl
set_option maxRecDepth 10000 in
theorem pB (w:World) (x:Value) (rx cx:Nat) (Mx:Nat→Nat→Int) (btx:Nat) (y:Value) (ry cy:Nat) (My:Nat→Nat→Int) (bty:Nat) (hx:bU w x rx cx Mx btx) (hy:bU w y ry cy My bty):Calls Tryz.prog 62 #[x,y] w (cg w fun v w'=>v= .bool (decide (ar rx cx ry cy Mx My))):=by
 have hLIM:bo=562949953421312:=rfl;have hmatx:=hx;obtain ⟨sx,rfl,hrx,hcx,hSx⟩:=hx.form;have hmaty:=hy;obtain ⟨sy,rfl,hry,hcy,hSy⟩:=hy.form;refine ah (N:=17) (rs:= #[.tmp 4]) Tryz.func62 rfl rfl rfl (Nat.le_of_ble_eq_true rfl) ?_;have hX:aC w w:=aC.refl w;refine ab ?_;refine RL.x rfl rfl (cZ.box [.int .i64 ((rx:Nat)),.int .i64 ((cx:Nat)),sx] rfl rfl) ?_;rintro _ w1 ⟨g1,rfl,hge1,hx1,hA1⟩;replace hX:=aC.trans hX hx1;refine RL.x rfl rfl (cZ.box [.int .i64 ((ry:Nat)),.int .i64 ((cy:Nat)),sy] rfl rfl) ?_;rintro _ w2 ⟨g2,rfl,hge2,hx2,hA2⟩;replace hA1:=bj.ext hA1 hx2;replace hX:=aC.trans hX hx2;refine RL.p rfl rfl (cD.assign rfl) ?_;refine RL.nil ?_;refine aE ak 12 [_,_,_,_,_,fun v Aa=>v= .bool (decide (((rx:Nat):Int)=((ry:Nat):Int)∧((cx:Nat):Int)=((cy:Nat):Int))),_,_,_,_,fun v Aa=>(((rx:Nat):Int)=((ry:Nat):Int)∧((cx:Nat):Int)=((cy:Nat):Int))→(v= .bool (decide (fY rx ry cx cy Mx My))),_] rfl rfl (fun e_ w_ zZ zY=>⟨fun _=>aa (ag [.int .i64 ((rx:Nat)),.int .i64 ((cx:Nat)),sx] aL ((zY 2 rfl rfl)) ((bj.ext hA1 zZ).cells 0 _ rfl rfl)),fun zX=>cZ.call rV (aJ ((zX 0 rfl))) (tc _ _ _ _ _ _ (bU.mk (ck.ext (ck.ext hSx hX) zZ) (by omega) (by omega))),fun _=>aa (ag [.int .i64 ((ry:Nat)),.int .i64 ((cy:Nat)),sy] aL ((zY 3 rfl rfl)) ((bj.ext hA2 zZ).cells 0 _ rfl rfl)),fun zX=>cZ.call rV (aJ ((zX 2 rfl))) (tc _ _ _ _ _ _ (bU.mk (ck.ext (ck.ext hSy hX) zZ) (by omega) (by omega))),fun zX=>aa (nT wL qs wJ (zX 1 rfl) (zX 3 rfl)),fun zX=>aa (cD.move ((zX 4 rfl))),fun zX=>gT (zX 5 rfl) fun hg=>aa (cD.fieldAddr an ((zY 2 rfl rfl))),fun zX=>gT (zX 5 rfl) fun hg=>aa (cD.load aF ((zX 6 rfl hg)) ((bj.ext hA1 zZ).at_ (i:=2) rfl rfl)),fun zX=>gT (zX 5 rfl) fun hg=>aa (cD.fieldAddr an ((zY 3 rfl rfl))),fun zX=>gT (zX 5 rfl) fun hg=>aa (cD.load aF ((zX 8 rfl hg)) ((bj.ext hA2 zZ).at_ (i:=2) rfl rfl)),fun zX=>gT (zX 5 rfl) fun hg=>cZ.call xh (cN ((zX 7 rfl hg)) ((zX 9 rfl hg)) rfl) (sk _ _ _ _ _ _ _ _ _ _ _ _ (ck.ext (ck.ext hSx hX) zZ) (ck.ext (ck.ext hSy hX) zZ) ⟨102,#[],#[],rfl,xg,fun w1 hw1 x n z y m u hI hJ=>th _ _ _ _ _ _ _ _ _ hI hJ⟩),fun zX=>aa (aw (p:=((rx:Nat):Int)=((ry:Nat):Int)∧((cx:Nat):Int)=((cy:Nat):Int)) (q:=fY rx ry cx cy Mx My) (zX 5 rfl) (fun hq=>(zX 10 rfl hq))),trivial⟩) ?_;intro e1 w3 hx3 ho1 hf1;replace hX:=aC.trans hX hx3;have s16_e1:e1 16=_:=hf1 11 rfl;refine RL.p rfl rfl (cD.assign s16_e1) ?_;refine RL.nil ?_;refine WP.ret ?_;refine ⟨.bool (decide ((((rx:Nat):Int)=((ry:Nat):Int)∧((cx:Nat):Int)=((cy:Nat):Int))∧(fY rx ry cx cy Mx My))),zw.one (fC.tmp rfl),_,rfl,hX,?_⟩;dsimp only;exact congrArg _ (pU qT)
end Go.TL
namespace Go.TL
open Go.RowKit
set_option linter.unusedVariables false
def xP (w:World) (b:Nat):Prop:=(∃m f,bj w b 49 m f)∨∃m f,bj w b 41 m f
def dl (B:Nat) (w:World) (b:Nat):Prop:=B≤b∧xP w b
def fp (ρ:Nat→Nat) (i j:Nat):Nat→Nat:=fun a=>if a=i then ρ j else if a=j then ρ i else ρ a
def cO (M:Nat→Nat→Int) (i j:Nat) (k:Int):Nat→Nat→Int:=fun a c=>if a=i then M i c + k*M j c else M a c
def dz (V:Nat→Nat→Int) (i j:Nat) (k:Int):Nat→Nat→Int:=fun a c=>if c=j then V a j - k*V a i else V a c
def cn (M:Nat→Nat→Int) (i j:Nat):Nat→Nat→Int:=fun a=>if a=i then M j else if a=j then M i else M a
def cQ (V:Nat→Nat→Int) (i j:Nat):Nat→Nat→Int:=fun a c=>if c=i then V a j else if c=j then V a i else V a c
def de (M:Nat→Nat→Int) (i:Nat):Nat→Nat→Int:=fun a c=>if a=i then -(M i c) else M a c
def ek (V:Nat→Nat→Int) (i:Nat):Nat→Nat→Int:=fun a c=>if c=i then -(V a i) else V a c
def dV (V V':Nat→Nat→Int) (n:Nat):Nat→Nat→Int:=fun a c=>if a<n then V' a c else V a c
theorem ew (V V':Nat→Nat→Int):dV V V' 0=V:=by funext a c;simp [dV]
theorem fo (V V':Nat→Nat→Int) {n a:Nat} (c:Nat) (h:a<n):dV V V' n a c=V' a c:=by simp [dV,h]
theorem di (V V':Nat→Nat→Int) (n c:Nat):dV V V' n n c=V n c:=by simp [dV]
theorem go {V V':Nat→Nat→Int} {n j:Nat} {q:Int} (hq:q=V' n j) (h:∀c,c≠j→V' n c=V n c):ec (dV V V' n) n j q=dV V V' (n + 1):=by
  funext a c
  simp only [ec,dV]
  by_cases e:a=n
  · subst e
    rw [if_pos (Nat.lt_succ_self a),if_neg (Nat.lt_irrefl a)]
    by_cases e2:c=j
    · subst e2;rw [if_pos ⟨rfl,rfl⟩,hq]
    · rw [if_neg (fun h=>e2 h.2),h c e2]
  · rw [if_neg (fun h=>e h.1)]
    by_cases e3:a<n
    · rw [if_pos e3,if_pos (by omega)]
    · rw [if_neg e3,if_neg (by omega)]
theorem kB {V V':Nat→Nat→Int} {n i j:Nat} {p q:Int} (hp:i≠j→p=V' n i) (hq:q=V' n j) (h:∀c,c≠i→c≠j→V' n c=V n c):ec (ec (dV V V' n) n i p) n j q=dV V V' (n + 1):=by
  funext a c
  simp only [ec,dV]
  by_cases e:a=n
  · subst e
    rw [if_pos (Nat.lt_succ_self a),if_neg (Nat.lt_irrefl a)]
    by_cases e2:c=j
    · subst e2;rw [if_pos ⟨rfl,rfl⟩,hq]
    · rw [if_neg (fun h=>e2 h.2)]
      by_cases e3:c=i
      · subst e3;rw [if_pos ⟨rfl,rfl⟩,hp e2]
      · rw [if_neg (fun h=>e3 h.2),h c e3 e2]
  · rw [if_neg (fun h=>e h.1),if_neg (fun h=>e h.1)]
    by_cases e3:a<n
    · rw [if_pos e3,if_pos (by omega)]
    · rw [if_neg e3,if_neg (by omega)]
theorem rg {x:Value} {b:Bool} (h:x= .bool b):x= .bool (decide (b=true)):=by subst h;cases b<;>rfl
theorem ge {ρ σ:Nat→Nat} {r i j:Nat} (h:∀a b,a<r→b<r→ρ a≠σ b) (hi:i<r) (hj:j<r):∀a b,a<r→b<r→fp ρ i j a≠σ b:=fun a b ha hb=>by
  unfold fp;split
  · exact h _ _ hj hb
  · split
    · exact h _ _ hi hb
    · exact h _ _ ha hb
theorem pg {ρ σ:Nat→Nat} {r i j:Nat} (h:∀a b,a<r→b<r→ρ a≠σ b) (hi:i<r) (hj:j<r):∀a b,a<r→b<r→ρ a≠fp σ i j b:=fun a b ha hb=>by
  unfold fp;split
  · exact h _ _ ha hj
  · split
    · exact h _ _ ha hi
    · exact h _ _ ha hb
theorem lL {ρ σ:Nat→Nat} {r i g:Nat} (h:∀a b,a<r→b<r→ρ a≠σ b) (hg:∀b,b<r→σ b≠g):∀a b,a<r→b<r→cm ρ i g a≠σ b:=fun a b ha hb=>by
  unfold cm;split
  · exact Ne.symm (hg b hb)
  · exact h _ _ ha hb
theorem uu {ρ σ:Nat→Nat} {r i g:Nat} (h:∀a b,a<r→b<r→ρ a≠σ b) (hg:∀a,a<r→ρ a≠g):∀a b,a<r→b<r→ρ a≠cm σ i g b:=fun a b ha hb=>by
  unfold cm;split
  · exact hg a ha
  · exact h _ _ ha hb
theorem mN {ρ:Nat→Nat} {r i g gn:Nat} (h:∀ii,ii<r→ρ ii≠g) (hg:gn≠g):∀ii,ii<r→cm ρ i gn ii≠g:=fun ii hii=>by
  unfold cm;split
  · exact hg
  · exact h ii hii
theorem jV (M:Nat→Nat→Int) (i j:Nat) (k:Int):setRow M i (fun c=>M i c + k*M j c)=cO M i j k:=by
  funext a c;unfold setRow cO;split
  · rfl
  · rfl
theorem ik (M:Nat→Nat→Int) (i j:Nat) {k:Int} (hk:k=0):cO M i j k=M:=by
  funext a c;subst hk;unfold cO;split
  · subst_vars;simp
  · rfl
theorem zr (V:Nat→Nat→Int) (i j:Nat) {k:Int} (hk:k=0):dz V i j k=V:=by
  funext a c;subst hk;unfold dz;split
  · subst_vars;simp
  · rfl
def kE (zx zy:Nat→Int) (k:Int) (i:Nat):Nat→Int:=fun j=>if j<i then zx j + k*zy j else zx j
theorem tZ (zx zy:Nat→Int) (k:Int) (i:Nat):jK (kE zx zy k i) i (zx i + k*zy i)=kE zx zy k (i + 1):=by
  funext j
  unfold jK kE
  by_cases e:j=i
  · subst e;rw [if_pos rfl,if_pos (by omega)]
  · rw [if_neg e]
    by_cases h:j<i
    · rw [if_pos h,if_pos (by omega)]
    · rw [if_neg h,if_neg (by omega)]
theorem tY {zx zy ζ:Nat→Int} {k:Int} {i n:Nat} (hal:∀j,i≤j→j<n→ζ j=zy j) (hi:i<n):(kE zx zy k i) i + k*ζ i=zx i + k*zy i:=by
  rw [hal i (Nat.le_refl _) hi];unfold kE;rw [if_neg (by omega)]
theorem xO {zx zy ζ ζ2:Nat→Int} {k q:Int} {i n gx gy:Nat} (hal:∀j,i≤j→j<n→ζ j=zy j) (h:(gx=gy∧ζ2=jK (kE zx zy k i) i q)∨(gx≠gy∧ζ2=ζ)) (hxy:gx=gy→∀j,j<n→zx j=zy j):
    ∀j,i + 1≤j→j<n→ζ2 j=zy j:=fun j h1 h2=>by
  rcases h with ⟨h3,h4⟩ | ⟨_,h4⟩
  · subst h4;unfold jK kE;rw [if_neg (by omega),if_neg (by omega)];exact hxy h3 j h2
  · subst h4;exact hal j (by omega) h2
def bD (x:Nat→Int) (top:Nat):Nat→Int×Bool
  | 0=>(-1,false)
  | n + 1=>if x (top + n)=0 then bD x top n else
      (if (bD x top n).1<0∨(x (top + n)).natAbs<(x (bD x top n).1.toNat).natAbs then ((top + n:Nat):Int) else (bD x top n).1,decide (0≤(bD x top n).1))
theorem jy (x:Nat→Int) (top:Nat):∀n, -1≤(bD x top n).1∧(bD x top n).1<((top + n:Nat):Int)∧(0≤(bD x top n).1→(top:Int)≤(bD x top n).1)
  | 0=>by simp only [bD];omega
  | n + 1=>by
    have:=jy x top n;simp only [bD]
    split
    · omega
    · split<;>simp only<;>omega
def dQ (w:World) (v:Value) (B n:Nat) (z:Nat→Int) (b:Nat):Prop:=∃g,eZ w v g n∧B≤g∧cB w g n z b
theorem dQ.ext {w w':World} {v:Value} {B n b:Nat} {z:Nat→Int} (h:dQ w v B n z b) (hx:aC w w'):dQ w' v B n z b:=by obtain ⟨g,h1,h2,h3⟩:=h;exact ⟨g,h1,h2,h3.ext hx⟩
theorem eO (B n:Nat) (z:Nat→Int) (b:Nat):bF (fun v w=>dQ w v B n z b):=fun _ _ _ h hx=>h.ext hx
instance (B n:Nat) (z:Nat→Int) (b:Nat):Nonempty (bF (fun v w=>dQ w v B n z b)):=⟨eO B n z b⟩
theorem eQ {w:World} {v:Value} {g n:Nat} (h:eZ w v g n):ef v=g:=by obtain ⟨k,h1,_⟩:=h;subst h1;rfl
theorem iV (B n:Nat) (z:Nat→Int) (b:Nat):fE (fun v _ b=>b=ef v) (fun v w=>dQ w v B n z b):=
  ⟨fun v w b h hb=>by obtain ⟨g,h1,h2,h3⟩:=h;rw [hb,eQ h1];exact h3.lt,fun _ _ _ _ _ _ h=>h⟩
theorem uW {z:Int} {b:Nat} (h:z.natAbs<2^b):(z + -2*z).natAbs<2^b:=by omega
theorem nn {M:Nat→Nat→Int} {i a b:Nat} (h:(M i a).natAbs<2^b):(setRow M i (M i) i a + -2*setRow M i (M i) i a).natAbs<2^b:=by
  have:setRow M i (M i) i a=M i a:=by simp [setRow]
  rw [this];exact uW h
theorem px (M:Nat→Nat→Int) (i:Nat):setRow (setRow M i (M i)) i (fun c=>setRow M i (M i) i c + -2*setRow M i (M i) i c)=de M i:=by
  funext a c
  unfold setRow de
  by_cases e:a=i
  · subst e;simp;omega
  · simp [e]
section
variable {w w' w0:World} {v u:Value} {g gh m d n c b B:Nat} {z:Nat→Int} {M:Nat→Nat→Int} {ρ:Nat→Nat}
theorem cw.inj (h:cw w B gh m d c ρ M b) {i j:Nat} (hi:i<d) (hj:j<d) (e:ρ i=ρ j):i=j:=h.2.2.2.2 i j hi hj e
theorem cV (h:cw w B gh m d c ρ M b) {i:Nat} (hi:i<d):dl B w (ρ i):=by
  obtain ⟨m',f',_,ha,_⟩:=h.row' hi;exact ⟨(h.2.2.2.1 i hi).1,.inl ⟨m',f',ha⟩⟩
theorem dA (h:cw w B gh m d c ρ M b):dl B w gh:=by
  obtain ⟨h1,_,⟨_,_,f,ha,_⟩,_⟩:=h;exact ⟨h1,.inr ⟨_,_,ha⟩⟩
theorem Keeps.own {w1 w2:World} (h:Keeps (dl B w) w w1) (k:Keeps (dl B w1) w1 w2):Keeps (dl B w) w w2:=
  h.step k fun b hb=>by
    by_cases hlt:b<w.heap.size
    · refine .inl ⟨hb.1,Classical.byContradiction fun hn=>hn ?_⟩
      have hk:=h.block b hlt (fun hS=>hn hS.2);rcases hb.2 with ⟨m,f,cs,hg,hr⟩ | ⟨m,f,cs,hg,hr⟩
      · exact .inl ⟨m,f,cs,hk▸hg,hr⟩
      · exact .inr ⟨m,f,cs,hk▸hg,hr⟩
    · exact .inr (by omega)
theorem dl.nu {b':Nat}:∀k m f,dl B w k→¬bj w k 101 m f:=fun k m f h ha=>by
  rcases h.2 with ⟨m',f',h'⟩ | ⟨m',f',h'⟩
  · exact h'.ne ha (by decide) rfl
  · exact h'.ne ha (by decide) rfl
theorem dY {T k:Nat} {f:Nat→Value} (h:bj w g T k f) (hk:Keeps (dl B w) w w') (ht:T≠49∧T≠41):bj w' g T k f:=
  h.keep hk fun hS=>by
    rcases hS.2 with ⟨m',f',h'⟩ | ⟨m',f',h'⟩
    · exact h.ne h' ht.1 rfl
    · exact h.ne h' ht.2 rfl
theorem eM {wb:World} (h:aC wb w) (k:Keeps (dl B w) w w') (hB:wb.heap.size≤B):aC wb w':=h.step k fun b hb=>Nat.le_trans hB hb.1
theorem eS {i j:Nat} {f:Nat→Value} (h:cw w B gh m d c ρ M b) (ha:bj w gh 41 m f) (hk:Keeps (fun b=>b=gh) w w') (ha':bj w' gh 41 m (dH (dH f (0 + i*1) [v]) (0 + j*1) [u]))
    (hv:eZ w v (ρ j) c) (hu:eZ w u (ρ i) c) (hi:i<d) (hj:j<d):cw w' B gh m d c (fp ρ i j) (cn M i j) b:=by
  have hne:=fun k (hk:k<d)=>h.ne hk
  have hnu:=h.nu;obtain ⟨h1,h2,⟨h3,h3b,f0,h6,h7⟩,h4,h5⟩:=h;obtain ⟨_,hff⟩:=ha.eq h6;refine ⟨h1,h2,⟨h3,h3b,_,ha',fun a hA=> ?_⟩,fun a hA=> ?_,fun a a2 hA hA2 e=> ?_⟩
  · simp only [dH,Nat.zero_add,Nat.mul_one,fp]
    by_cases e1:a=j
    · subst e1
      rw [bT]
      by_cases e2:a=i
      · subst e2;rw [if_pos rfl];exact hu
      · rw [if_neg e2,if_pos rfl];exact hu
    · rw [cA _ _ _ _ e1]
      by_cases e2:a=i
      · subst e2;rw [bT,if_pos rfl];exact hv
      · rw [cA _ _ _ _ e2,if_neg e2,if_neg e1,hff a (by omega)];exact h7 a hA
  · have key:∀k,k<d→B≤ρ k∧cB w' (ρ k) c (M k) b:=fun k hk'=>⟨(h4 k hk').1,(h4 k hk').2.keep hk (fun e=>hne k hk' e.symm) hnu⟩
    simp only [fp,cn]
    by_cases e1:a=i
    · rw [if_pos e1,if_pos e1];exact key j hj
    · rw [if_neg e1,if_neg e1]
      by_cases e2:a=j
      · rw [if_pos e2,if_pos e2];exact key i hi
      · rw [if_neg e2,if_neg e2];exact key a hA
  · simp only [fp] at e
    by_cases e1:a=i<;>by_cases e2:a2=i
    · omega
    · rw [if_pos e1,if_neg e2] at e
      by_cases e3:a2=j
      · rw [if_pos e3] at e;have:=h5 _ _ hj hi e;omega
      · rw [if_neg e3] at e;have:=h5 _ _ hj hA2 e;omega
    · rw [if_neg e1,if_pos e2] at e
      by_cases e3:a=j
      · rw [if_pos e3] at e;have:=h5 _ _ hi hj e;omega
      · rw [if_neg e3] at e;have:=h5 _ _ hA hj e;omega
    · rw [if_neg e1,if_neg e2] at e
      by_cases e3:a=j<;>by_cases e4:a2=j
      · omega
      · rw [if_pos e3,if_neg e4] at e;have:=h5 _ _ hi hA2 e;omega
      · rw [if_neg e3,if_pos e4] at e;have:=h5 _ _ hA hi e;omega
      · rw [if_neg e3,if_neg e4] at e;exact h5 _ _ hA hA2 e
theorem cw.split (h:cw w B gh m d c ρ M b):∃f,bj w gh 41 m f:=by obtain ⟨_,_,⟨_,_,f,ha,_⟩,_⟩:=h;exact ⟨f,ha⟩
theorem nU {i:Nat} {f:Nat→Value} (h:cw w B gh m d c ρ M b) (ha:bj w gh 41 m f) (hk:Keeps (fun b=>b=gh) w w') (ha':bj w' gh 41 m (dH f (0 + i*1) [v]))
    (hv:eZ w v g c) (hR:cB w g c z b) (hB:B≤g) (hnew:∀a,a<d→ρ a≠g) (hi:i<d):cw w' B gh m d c (cm ρ i g) (TL.setRow M i z) b:=by
  have hne:=fun k (hk:k<d)=>h.ne hk
  have hnu:=h.nu;obtain ⟨h1,h2,⟨h3,h3b,f0,h6,h7⟩,h4,h5⟩:=h;obtain ⟨_,hff⟩:=ha.eq h6;have hgne:g≠gh:=by
    obtain ⟨m',f',_,ha',_⟩:=hR;exact ha'.ne h6 (by decide)
  refine ⟨h1,h2,⟨h3,h3b,_,ha',fun a hA=> ?_⟩,fun a hA=> ?_,fun a a2 hA hA2 e=> ?_⟩
  · simp only [dH,Nat.zero_add,Nat.mul_one]
    by_cases e1:a=i
    · subst e1;rw [bT,bi];exact hv
    · rw [cA _ _ _ _ e1,bf _ _ _ _ e1,hff a (by omega)];exact h7 a hA
  · by_cases e1:a=i
    · subst e1;rw [bi];exact ⟨hB,(hR.keep hk hgne hnu).congr fun j _=>by simp [TL.setRow]⟩
    · rw [bf _ _ _ _ e1];exact ⟨(h4 a hA).1,((h4 a hA).2.keep hk (fun e=>hne a hA e.symm) hnu).congr fun j _=>by simp [TL.setRow,e1]⟩
  · by_cases e1:a=i<;>by_cases e2:a2=i
    · omega
    · rw [e1,bi,bf _ _ _ _ e2] at e;exact absurd e.symm (hnew a2 hA2)
    · rw [e2,bi,bf _ _ _ _ e1] at e;exact absurd e (hnew a hA)
    · rw [bf _ _ _ _ e1,bf _ _ _ _ e2] at e;exact h5 _ _ hA hA2 e
theorem bO {k gA:Nat} {f:Nat→Value} (h:cw w B gh m d c ρ M b) (hk:Keeps (fun b=>b=gA) w w') (hA:bj w gA 41 k f) (hne:gh≠gA):cw w' B gh m d c ρ M b:=
  h.keep hk hne (fun i hi e=>by subst e;obtain ⟨m',f',_,ha',_⟩:=h.row' hi;exact hA.ne ha' (by decide) rfl) fun k m2 f2 e ha2=>by subst e;exact hA.ne ha2 (by decide) rfl
theorem oe {k gA:Nat} {f:Nat→Value} (h:cB w g n z b) (hk:Keeps (fun b=>b=gA) w w') (hA:bj w gA 41 k f):cB w' g n z b:=
  h.keep hk (fun e=>by subst e;obtain ⟨m',f',_,ha',_⟩:=h;exact hA.ne ha' (by decide) rfl) fun k m2 f2 e ha2=>by subst e;exact hA.ne ha2 (by decide) rfl
theorem fS {z':Nat→Int} (h:cB w g n z b) (e:z=z'):cB w g n z' b:=e▸h
theorem rk (h:cB w g n z b):b≤bo:=by obtain ⟨m,f,h1,_⟩:=h;exact h1.2
theorem eZ.dim (h:eZ w v g n):n≤65536:=by obtain ⟨k,_,_,h3⟩:=h;exact h3.2
theorem cw.bd {i j:Nat} (h:cw w B gh m d c ρ M b) (hi:i<d) (hj:j<c):(M i j).natAbs<2^b:=by
  obtain ⟨m',f',_,_,hf⟩:=h.row' hi;exact (hf j hj).bd
theorem oN {gx gy:Nat} {zx zy:Nat→Int} (hY:cB w gy n zy b) (hX':cB w' gx n zx b) (hk:Keeps (fun b=>b=gx) w w') (hX:cB w gx n z b):
    ∃zy',cB w' gy n zy' b∧((gx=gy∧zy'=zx)∨(gx≠gy∧zy'=zy)):=by
  by_cases e:gx=gy
  · subst e;exact ⟨zx,hX',.inl ⟨rfl,rfl⟩⟩
  · exact ⟨zy,hY.keep hk (Ne.symm e) hX.nu,.inr ⟨e,rfl⟩⟩
end
theorem cz {P:Program} {e:cF} {w:World} {d:Option Tmp} {ty:TypeId} {pos:String} {after:Array Edge} {gd:Option (Nat×Bool)} {t gh m i n g:Nat} {x y:Operand} {v:Value} {f:Nat→Value} (ht:eG P t 1=true)
    (hx:ev e x= .pointer (some ⟨gh,0 + i*1,none⟩)) (hy:ev e y=v) (hS:eZ w v g n) (ha:bj w gh 41 m f) (hi:i<m):
    cZ P ⟨d,.store t x y,ty,pos,after,gd⟩ e w (fun _ w'=>Keeps (fun b=>b=gh) w w'∧bj w' gh 41 m (dH f (0 + i*1) [v])):=by
  obtain ⟨k,rfl,h2,h3⟩:=hS;exact cZ.store (n:=m) [.slice (some ⟨g,0,none⟩) n k] (by simpa using ht) hx hy rfl ha (by simp;omega) (dy rfl)
def ci (T:Nat) (w:World) (B gw r c:Nat) (M U V:Nat→Nat→Int) (b:Nat):Prop:=
  ∃hm hu hv km ku kv ρm ρu ρv,B≤gw∧bj w gw T 9 (bX [.int .i64 (r:Nat),.int .i64 (c:Nat),.slice (some ⟨hm,0,none⟩) r km,.int .i64 (r:Nat),.int .i64 (r:Nat),.slice (some ⟨hu,0,none⟩) r ku,.int .i64 (r:Nat),.int .i64 (r:Nat),.slice (some ⟨hv,0,none⟩) r kv])∧
    cw w B hm km r c ρm M b∧cw w B hu ku r r ρu U b∧cw w B hv kv r r ρv V b∧hm≠hu∧hm≠hv∧hu≠hv∧
    (∀i j,i<r→j<r→ρm i≠ρu j)∧(∀i j,i<r→j<r→ρm i≠ρv j)∧(∀i j,i<r→j<r→ρu i≠ρv j)
theorem ci.congr {T:Nat} {w:World} {B gw r c:Nat} {M U V M' U' V':Nat→Nat→Int} {b:Nat} (h:ci T w B gw r c M U V b) (hM:∀i j,i<r→j<c→M i j=M' i j) (hU:∀i j,i<r→j<r→U i j=U' i j)
    (hV:∀i j,i<r→j<r→V i j=V' i j):ci T w B gw r c M' U' V' b:=by
  obtain ⟨hm,hu,hv,km,ku,kv,ρm,ρu,ρv,h1,h2,h3,h4,h5,h6⟩:=h;exact ⟨hm,hu,hv,km,ku,kv,ρm,ρu,ρv,h1,h2,h3.congr hM,h4.congr hU,h5.congr hV,h6⟩
theorem ci.ext {T:Nat} {w w':World} {B gw r c:Nat} {M U V:Nat→Nat→Int} {b:Nat} (h:ci T w B gw r c M U V b) (hx:aC w w'):ci T w' B gw r c M U V b:=by
  obtain ⟨hm,hu,hv,km,ku,kv,ρm,ρu,ρv,h1,h2,h3,h4,h5,h6⟩:=h;exact ⟨hm,hu,hv,km,ku,kv,ρm,ρu,ρv,h1,h2.ext hx,h3.ext hx,h4.ext hx,h5.ext hx,h6⟩
section
variable {P:Program} {e:cF} {w:World} {d:Option Tmp} {ty:TypeId} {pos:String} {after:Array Edge} {gd:Option (Nat×Bool)}
theorem iD {t m g0 n b:Nat} {x y:Operand} {v:Value} {z:Nat→Int} (ht:sliceB P t 49 2 m=true) (hm:m≤32) (hz:(P.info? 49).bind (·.zero)=some (.agg #[.bool false,.slice none 0 0]))
    (hx:ev e x= .slice (some ⟨g0,0,none⟩) 0 0) (hA:bj w g0 49 0 (bX [])) (hy:ev e y=v) (hR:bE w v n z b) (hn:0<n):
    cZ P ⟨d,.call {callee:= .builtin .append,args:= #[x,y],argTypes:= #[t,t]},ty,pos,after,gd⟩ e w (fun v' w'=>aC w w'∧dQ w' v' w.heap.size n z b∧w.heap.size≤ef v'):=by
  obtain ⟨A,k,rfl,h2,h3,h4⟩:=hR;obtain ⟨g,rfl,m',f,hm',ha,hf⟩:=h4 hn;have hones:∀i,i<n*2→(f i).oneCell'=true:=fun i hi=>by
    have:=hf (i/2) (by omega);obtain ⟨c0,c1,h1,h2,h3⟩:=this.cells
    injection h1 with h1
    rcases (by omega:i=2*(i/2)∨i=2*(i/2) + 1) with e | e
    · rw [e];have h5:f (2*(i/2))=c0:=by have:=congrArg (fun a=>a[0]?) h1;simpa using this
      rw [h5];exact h2
    · rw [e];have h5:f (2*(i/2) + 1)=c1:=by have:=congrArg (fun a=>a[1]?) h1;simpa using this
      rw [h5];exact h3
  refine cZ.mono (jn (n:=0) (cap:=0) (kk:=n) (h:=f) [.bool false,.slice none 0 0] ht hm hz rfl rfl (by decide) hx hy hA (Nat.le_refl _) (by decide) (fun i hi=>by rw [Nat.zero_add];exact ha.cell (by omega)) hones (by omega)) ?_;rintro v' w' ⟨hk,g',cap',f',rfl,h5,h6,h7,h8,h9,h10⟩;rcases h7 with ⟨_,_,h7⟩ | ⟨h7,hx'⟩
  · omega
  · simp only [Nat.zero_add,Nat.zero_mul] at*
    refine ⟨hx',⟨g',⟨cap',rfl,h5,h6,h3.2.1⟩,h7,cap'*2,f',⟨by omega,h3.2.2⟩,h8,fun j hj=> ?_⟩,h7⟩;rw [h10 (2*j) (by omega),h10 (2*j + 1) (by omega)];exact (hf j hj).ext hx'
theorem kH {t m yt n b n' c':Nat} {x y:Operand} {v:Value} {z:Nat→Int} (ht:sliceB P t 49 2 m=true) (hx:ev e x=v) (hR:bE w v n z b) (hy:ev e y= .slice none n' c') (hn:0<n):
    cD P ⟨d,.binOp .eql t x y yt,ty,pos,after,gd⟩ e w (.bool false):=by
  obtain ⟨A,k,rfl,h2,h3,h4⟩:=hR;obtain ⟨g,rfl,_⟩:=h4 hn;have:=gV (P:=P) (e:=e) (w:=w) (d:=d) (ty:=ty) (pos:=pos) (after:=after) (gd:=gd) (yt:=yt) ht hx hy
  simpa using this
end
theorem oQ {P:Program} {e:cF} {w:World} {d:Option Tmp} {ty:TypeId} {pos:String} {after:Array Edge} {gd:Option (Nat×Bool)} {cal:Operand} {f:Nat} {xs:Array Operand} {ts:Array TypeId} {fst cap vs:Array Value} {S:Nat→Prop} {R:Value→World→Prop}
    (hcb:ay P f=true) (hf:ev e cal= .func (.func f) fst cap) (ha:fst ++ xs.map (ev e) ++ cap=vs) (h:Calls P f vs w (kW S w R)):
    cZ P ⟨d,.call {callee:= .value cal,args:=xs,argTypes:=ts},ty,pos,after,gd⟩ e w (fun v w'=>Keeps S w w'∧R v w'):=
  dw hcb hf ha h fun _ _ ⟨v,h1,h2,h3⟩=>⟨v,h1,h2,h3⟩
end Go.TL
namespace Go.TL
open Go.RowKit
set_option linter.unusedVariables false
def vp (l:List Oper):List Nat→Array Bool→Bool
  | [],_=>true
  | k::ks,listed=>Region.free .any l.toArray listed k&&(Region.ready .any l.toArray listed).contains k&&(match l[k]? with | some o=>o.guard.isNone&&o.after.toList.all (fun e=> !Region.binds .any e) | none=>false)&&
      vp l ks (listed.setIfInBounds k true)
def uj (P:Program) (l:List Oper) (n:Nat) (Φ:List cl) (A:Apart Φ) (e0:cF):List Nat→List Value→Prop
  | k::ks,v::vs=>(Nat.blt k n=true∧(∃o,l[k]? =some o∧∀w e,(∀t,eJ l n t=false→e t=e0 t)→cD P o e w v)∧(∀w,cS Φ k v w)∧∀j,A.ap k j=false)∧uj P l n Φ A e0 ks vs
  | [], []=>True
  | _,_=>False
section
variable {P:Program} {N:Nat} {Q:Exit→Act→World→Prop} {l:List Oper}
theorem ky {n:Nat} {tk:Nat→Bool} (G:Good N n l tk) {Φ:List cl} {A:Apart Φ} {e0:cF} {w0:World} (hs:Region.noSelect l.toArray=true) (hQ:∀c a w,¬Q (.panic c) a w):
    ∀(ks:List Nat) (vs:List Value) (fuel:Nat) (listed:Array Bool) (a:Act) (w:World),vp l ks listed=true→uj P l n Φ A e0 ks vs→Mid N n l (fun _=>false) Φ A e0 w0 listed a w→listed.toList.count false≤fuel→
      (∀listed' a' fuel',Mid N n l (fun _=>false) Φ A e0 w0 listed' a' w→(∀j,listed.getD j false=true∨j∈ks→listed'.getD j false=true)→listed'.toList.count false≤fuel'→wpAny P .any l.toArray Q fuel' listed' a' w)→
      wpAny P .any l.toArray Q fuel listed a w
  | [], [],fuel,listed,a,w,_,_,M,hc,hk=>hk listed a fuel M (fun j h=>h.elim id fun h=>by cases h) hc
  | [],_::_,_,_,_,_,_,h,_,_,_=>h.elim
  | _::_, [],_,_,_,_,_,h,_,_,_=>h.elim
  | k::ks,v::vs,fuel,listed,a,w,hf,⟨⟨hkn,⟨o,ho,hv⟩,hφ,hap⟩,hob⟩,M,hc,hk=>by
    simp only [vp,Bool.and_eq_true] at hf;obtain ⟨⟨⟨hfree,hready⟩,hgo⟩,hrest⟩:=hf;rw [ho] at hgo;simp only [Bool.and_eq_true,List.all_eq_true,Bool.not_eq_true'] at hgo;have hkn':k<n:=by simpa [Nat.blt_eq] using hkn
    have hkl:k<l.length:=Nat.lt_of_lt_of_le hkn' G.le;have hks:k<listed.size:=by rw [M.size];exact hkl
    obtain ⟨d,hd,hdN,hdist,_⟩:=G.dst k o hkn' ho;have hdk:bk l k=d:=by simp [bk,ho,hd]
    have hkf:listed.getD k true=false:=by
      have hr:=hready;rw [List.contains_iff_mem] at hr;exact (mem_ready.1 hr).1
    have hcnt:=eK hks hkf;obtain ⟨f,hff⟩:∃f,fuel=f + 1:=⟨fuel - 1,by omega⟩
    subst hff;obtain ⟨e',he,hother,hfct,hdj⟩:=M.env;have hne:∀j,j<n→j≠k→bk l j≠d:=by
      intro j hj hjk;rcases Nat.lt_trichotomy j k with h | h | h
      · exact hdist j h
      · exact absurd h hjk
      · intro heq
        have hjl:j<l.length:=Nat.lt_of_lt_of_le hj G.le;obtain ⟨d2,hd2,_,hdist2,_⟩:=G.dst j l[j] hj (List.getElem?_eq_getElem hjl);have:bk l j=d2:=by simp [bk,hjl,hd2]
        rw [heq] at this;exact hdist2 k h (by rw [hdk];exact this)
    have hval:∀j,j<n→j≠k→eV e' o.dst v (bk l j)=e' (bk l j):=fun j hj hjk=>by
      simp only [hd,eV];exact cA _ _ _ _ (hne j hj hjk)
    refine wpAny_take (by simpa using ho) hs hfree hready (fun c a w h=>absurd h (hQ c _ w)) (.inl ⟨by simp only [Region.wanted];cases hg:o.guard with | none=>rfl | some _=>rw [hg] at hgo;simp at hgo,fun w=>by have:=hv w e' hother;unfold cD at this;rw [he.eval];exact this⟩) ?_;refine ky G hs hQ ks vs f _ _ w hrest hob ?_ (by omega) (fun listed' a' fuel' M' hall hc'=>hk listed' a' fuel' M' (fun j hj=>hall j ?_) hc')
    · refine ⟨by simp [M.size],?_,?_,(fun _ h=>by cases h),M.ext,eV e' o.dst v,he.put (by simp [hd,iu,Nat.blt_eq,hdN]) v,?_,?_,?_⟩
      · intro i oi hoi h e hem hb
        by_cases hik:i=k
        · subst hik
          rw [ho] at hoi;injection hoi with hoi;subst hoi;rw [hgo.2 e (Array.mem_def.1 hem)] at hb;cases hb
        · rw [getD_set_ne false (Ne.symm hik)] at h
          have:=M.closed i oi hoi h e hem hb
          by_cases hek:e.on=k
          · rw [hek];simp [hks]
          · rw [getD_set_ne false (Ne.symm hek)];exact this
      · intro j hj hjl
        rw [getD_set_ne true (by omega)];exact M.late j hj hjl
      · intro t ht
        simp only [hd,eV];rw [cA _ _ _ _ (fM ht hkn' ho hd)];exact hother t ht
      · intro i hi h
        by_cases hik:i=k
        · subst hik;rw [hdk];simp only [hd,eV,bT];exact hφ _
        · rw [getD_set_ne false (Ne.symm hik)] at h
          rw [hval i hi hik];exact hfct i hi h
      · intro i j hi hj hij h1 h2 hA
        by_cases hik:i=k
        · rw [hik,hap] at hA;cases hA
        · by_cases hjk:j=k
          · have:=A.symm _ _ hA;rw [hjk,hap] at this;cases this
          · rw [getD_set_ne false (Ne.symm hik)] at h1
            rw [getD_set_ne false (Ne.symm hjk)] at h2;rw [hval i hi hik,hval j hj hjk];exact hdj i j hi hj hij h1 h2 hA
    · rcases hj with h | h
      · left
        by_cases hjk:j=k
        · rw [hjk];simp [hks]
        · rw [getD_set_ne false (Ne.symm hjk)];exact h
      · rcases List.mem_cons.1 h with h | h
        · left;rw [h];simp [hks]
        · exact .inr h
end
theorem vQ {P:Program} {N:Nat} {Q:db} {e:cF} {w:World} {id:Nat} {l:List Oper} (hm:P.follows .mixedOrders=true) (n:Nat) (Φ:List cl) (A:Apart Φ) (ks:List Nat) (vs:List Value)
    (hs:Region.noSelect l.toArray=true) (hfr:vp l ks (Array.replicate l.length false)=true) (hc:fk (fun j=>ks.contains j) N n l=true) (hlen:Φ.length=n) (hmono:eT Φ) (hob:fU P l n Φ A e w 0 l Φ) (hv:uj P l n Φ A e ks vs)
    (hkn:ks.all (fun k=>Nat.blt k n)=true)
    (htail:∀e' w',aC w w'→(∀t,eJ l n t=false→e' t=e t)→(∀j,Nat.blt j n=true→cS Φ j (e' (bk l j)) w')→
      (∀i j,Nat.blt i n=true→Nat.blt j n=true→Nat.beq i j=false→A.disj l i j e' w')→
      RL P N l.toArray (fun e w=>Q .normal e w) (l.drop n) e' w'):WP P N (.region id l.toArray true) Q e w:=by
  intro a ha;have htk:∀j,(fun j=>ks.contains j) j=true→j<n:=fun j h=>by
    have h':j∈ks:=List.contains_iff_mem.1 h;have:=List.all_eq_true.1 hkn j h'
    simpa [Nat.blt_eq] using this
  have G:=eY (tk:=fun j=>ks.contains j) hc htk;refine Code.wp_mono (Q:=fun x a' w'=>x=Exit.normal∧∃e',IsE N a' e'∧Q x e' w') (fun x a' w' h=>h.2) ?_;refine wp_region_any hm ?_;simp only [List.size_toArray];have hrep:∀i,(Array.replicate l.length false).getD i false=false:=fun i=>by by_cases hi:i<l.length<;>simp [hi]
  refine ky (Q:=fun x a' w'=>x=Exit.normal∧∃e',IsE N a' e'∧Q x e' w') G (Φ:=Φ) (A:=A) (e0:=e) (w0:=w) hs (fun c a w h=>by cases h.1) ks vs _ _ a _ hfr hv ?_ ?_ ?_
  · refine ⟨by simp,?_,?_,(fun _ h=>by cases h),⟨rfl,rfl,rfl,Nat.le_refl _,fun _ _=>rfl⟩,e,ha,fun _ _=>rfl,?_,?_⟩
    · intro i o _ h;rw [hrep] at h;cases h
    · intro j _ hj;simp [hj]
    · intro i _ h;rw [hrep] at h;cases h
    · intro i j _ _ _ h;rw [hrep] at h;cases h
  · simp
  · intro listed' a' fuel' M hall hcn
    refine mc G hlen hmono hob ?_ _ _ _ _ ⟨M.size,M.closed,M.late,fun j hj=>hall j (.inr (List.contains_iff_mem.1 hj)),M.ext,M.env⟩ hcn;intro a2 e' w' hae hext hoth hf hd;exact htail e' w' hext hoth (fun j hj=>hf j (by simpa [Nat.blt_eq] using hj)) (fun i j hi hj hij=>hd i j (by simpa [Nat.blt_eq] using hi) (by simpa [Nat.blt_eq] using hj) (ey hij)) a2 _ hae fun _ e'' _ h1 h2=>⟨rfl,e'',h1,h2⟩
end Go.TL
namespace Go.TL
open Go.RowKit Go.Proofs
set_option linter.unusedVariables false
set_option linter.unusedSimpArgs false
set_option maxRecDepth 10000 in
theorem tx (w:World) (x:Value) (rx cx:Nat) (Mx:Nat→Nat→Int) (btx:Nat) (hx:bU w x rx cx Mx btx) (hb:1 + btx≤bo):Calls Tryz.prog 38 #[x] w (cg w fun v w'=>ct w' v w.heap.size rx cx Mx (1 + btx)):=by
 have hLIM:bo=562949953421312:=rfl;have hmatx:=hx;obtain ⟨sx,rfl,hrx,hcx,hSx⟩:=hx.form;refine ah (N:=6) (rs:= #[.cell 2 28]) Tryz.func38 rfl rfl rfl (Nat.le_of_ble_eq_true rfl) ?_;have hX:aC w w:=aC.refl w;refine ab ?_;refine RL.x rfl rfl (cZ.box [.int .i64 ((rx:Nat)),.int .i64 ((cx:Nat)),sx] rfl rfl) ?_;rintro _ w1 ⟨g1,rfl,hge1,hx1,hA1⟩;replace hX:=aC.trans hX hx1;refine RL.x rfl rfl (cZ.alloc [.int .i64 (0),.int .i64 (0),.slice (none) (0) (0)] cd rfl) ?_;rintro _ w2 ⟨g2,rfl,hge2,hx2,hA2⟩;have hbs2:w.heap.size≤g2:=Nat.le_trans hX.size hge2;replace hA1:=bj.ext hA1 hx2;replace hX:=aC.trans hX hx2;refine RL.nil ?_;have hBw1:w.heap.size≤w2.heap.size:=hX.size;refine aE ak 3 [_,_,fun v Aa=>ct Aa v w2.heap.size rx cx ((fun i j=>1*Mx i j)) (1 + btx)] rfl rfl (fun e_ w_ zZ zY=>⟨fun _=>aa (ag [.int .i64 ((rx:Nat)),.int .i64 ((cx:Nat)),sx] aL ((zY 1 rfl rfl)) ((bj.ext hA1 zZ).cells 0 _ rfl rfl)),fun _=>cZ.call pb (aJ rfl) (vM (1) (1) _ (by decide) (by decide) (by decide)),fun zX=>cZ.mono (cZ.call yw (aB ((zX 0 rfl)) rfl) (vc _ _ _ _ _ _ _ _ _ (bU.mk (ck.ext (ck.ext hSx hX) zZ) (by omega) (by omega)) (zX 1 rfl) (by omega))) fun v Ab hv=>⟨hv.1,ct.low hv.2 zZ.size⟩,trivial⟩) ?_;intro e1 w3 hx3 ho1 hf1;replace hA2:=bj.ext hA2 hx3;replace hX:=aC.trans hX hx3;have s2_e1:e1 2=_:=ho1 2 rfl rfl;have s5_e1:ct w3 (e1 5) w2.heap.size rx cx ((fun i j=>1*Mx i j)) (1 + btx):=hf1 2 rfl;obtain ⟨gh1,kh1,ρ1,hq1,hM1⟩:=s5_e1;have hd1:=cw.dlim hM1;have hd2:=cw.clim hM1;refine RL.x rfl rfl (cZ.store [.int .i64 ((rx:Nat)),.int .i64 ((cx:Nat)),.slice (some ⟨gh1,0,none⟩) (rx) (kh1)] cG s2_e1 hq1 rfl hA2 (Nat.le_of_ble_eq_true rfl) (cJ rfl rfl rfl)) ?_;rintro _ w4 ⟨hk1,hnew⟩;replace hM1:=be hM1 hk1 hA2 (by decide);replace hX:=hX.step hk1 (fun b e=>by subst e;exact hbs2);replace hA2:=hnew.lit [.int .i64 ((rx:Nat)),.int .i64 ((cx:Nat)),.slice (some ⟨gh1,0,none⟩) (rx) (kh1)] rfl;clear hnew;refine RL.nil ?_;refine WP.ret ?_;refine ⟨.agg #[.int .i64 ((rx:Nat)),.int .i64 ((cx:Nat)),.slice (some ⟨gh1,0,none⟩) (rx) (kh1)],zw.one (aj [.int .i64 ((rx:Nat)),.int .i64 ((cx:Nat)),.slice (some ⟨gh1,0,none⟩) (rx) (kh1)] aL s2_e1 (hA2.cells 0 _ rfl rfl)),_,rfl,hX,?_⟩;dsimp only;exact ct.congr (⟨_,_,_,rfl,cw.low hM1 (hBw1)⟩) (fun i j _ _=>Int.one_mul _)
set_option maxRecDepth 10000 in
theorem gO (w:World) (x:Value) (zx:Int) (btx:Nat) (y:Value) (zy:Int) (bty:Nat) (hx:am w x zx btx) (hy:am w y zy bty) (hzy:zy≠0) (hl:btx + 1≤bo):Calls Tryz.prog 43 #[x,y] w (cg w fun v w'=>am w' v (zx/zy) btx):=by
 have hLIM:bo=562949953421312:=rfl;refine ah (N:=16) (rs:= #[.cell 4 49]) Tryz.func43 rfl rfl rfl (Nat.le_of_ble_eq_true rfl) ?_;have hX:aC w w:=aC.refl w;refine ab ?_;obtain ⟨ca1,cb1,hq1,ho1,ho2⟩:=am.cells (am.ext hx hX);have qi1:am w (.agg #[ca1,cb1]) zx btx:=hq1▸(am.ext hx hX);refine RL.x rfl rfl (cZ.box [ca1,cb1] hq1 rfl) ?_;rintro _ w1 ⟨g1,rfl,hge1,hx1,hA1⟩;replace qi1:=am.ext qi1 hx1;replace hX:=aC.trans hX hx1;obtain ⟨ca2,cb2,hq2,ho3,ho4⟩:=am.cells (am.ext hy hX);have qi2:am w1 (.agg #[ca2,cb2]) zy bty:=hq2▸(am.ext hy hX);refine RL.x rfl rfl (cZ.box [ca2,cb2] hq2 rfl) ?_;rintro _ w2 ⟨g2,rfl,hge2,hx2,hA2⟩;replace qi1:=am.ext qi1 hx2;replace hA1:=bj.ext hA1 hx2;replace qi2:=am.ext qi2 hx2;replace hX:=aC.trans hX hx2;refine RL.x rfl rfl (cZ.alloc [.bool (false),.slice (none) (0) (0)] bV rfl) ?_;rintro _ w3 ⟨g3,rfl,hge3,hx3,hA3⟩;have hbs3:w.heap.size≤g3:=Nat.le_trans hX.size hge3;replace qi1:=am.ext qi1 hx3;replace hA1:=bj.ext hA1 hx3;replace qi2:=am.ext qi2 hx3;replace hA2:=bj.ext hA2 hx3;replace hX:=aC.trans hX hx3;refine RL.nil ?_;refine ab ?_;refine RL.p rfl rfl (ag [ca1,cb1] au rfl (hA1.cells 0 _ rfl rfl)) ?_;refine RL.p rfl rfl (ag [ca2,cb2] au rfl (hA2.cells 0 _ rfl rfl)) ?_;refine RL.x rfl rfl (cZ.call yp (aB rfl rfl) (tR _ _ _ _ _ _ _ qi1 qi2 hzy hl)) ?_;rintro _ w4 ⟨hx4,v1,v2,rfl,q1,q2⟩;replace hA3:=bj.ext hA3 hx4;replace hX:=aC.trans hX hx4;refine RL.p rfl rfl (cD.move rfl) ?_;refine RL.p rfl rfl (cD.extract rfl rfl) ?_;refine RL.p rfl rfl (cD.extract rfl rfl) ?_;refine RL.p rfl rfl (cD.extract rfl rfl) ?_;refine RL.x rfl rfl (cZ.alloc [.bool (false),.slice (none) (0) (0)] bV rfl) ?_;rintro _ w5 ⟨g4,rfl,hge4,hx5,hA4⟩;have ne6:g3≠g4:=Nat.ne_of_lt (Nat.lt_of_lt_of_le hA3.lt hge4);have hbs4:w.heap.size≤g4:=Nat.le_trans hX.size hge4;replace hA3:=bj.ext hA3 hx5;replace q1:=am.ext q1 hx5;replace q2:=am.ext q2 hx5;replace hX:=aC.trans hX hx5;refine RL.x rfl rfl (cZ.alloc [.bool (false),.slice (none) (0) (0)] bV rfl) ?_;rintro _ w6 ⟨g5,rfl,hge5,hx6,hA5⟩;have ne9:g3≠g5:=Nat.ne_of_lt (Nat.lt_of_lt_of_le hA3.lt hge5);have ne10:g4≠g5:=Nat.ne_of_lt (Nat.lt_of_lt_of_le hA4.lt hge5);have hbs5:w.heap.size≤g5:=Nat.le_trans hX.size hge5;replace hA3:=bj.ext hA3 hx6;replace q1:=am.ext q1 hx6;replace q2:=am.ext q2 hx6;replace hA4:=bj.ext hA4 hx6;replace hX:=aC.trans hX hx6;obtain ⟨ca3,cb3,hq3,ho5,ho6⟩:=am.cells q1;have qi3:am w6 (.agg #[ca3,cb3]) ((zx)/(zy)) btx:=hq3▸q1;refine RL.x rfl rfl (cZ.store [ca3,cb3] bp rfl hq3 rfl hA4 (Nat.le_of_ble_eq_true rfl) (bN ho5 ho6)) ?_;rintro _ w7 ⟨hk1,hnew⟩;replace hA3:=hA3.keep hk1 ne6;replace q2:=ai q2 hk1 hA4 (by decide);replace hA5:=hA5.keep hk1 (Ne.symm ne10);replace qi3:=ai qi3 hk1 hA4 (by decide);replace hX:=hX.step hk1 (fun b e=>by subst e;exact hbs4);replace hA4:=hnew.lit [ca3,cb3] rfl;clear hnew;obtain ⟨ca4,cb4,hq4,ho7,ho8⟩:=am.cells q2;refine RL.x rfl rfl (cZ.store [ca4,cb4] bp rfl hq4 rfl hA5 (Nat.le_of_ble_eq_true rfl) (bN ho7 ho8)) ?_;rintro _ w8 ⟨hk2,hnew⟩;replace hA3:=hA3.keep hk2 ne9;replace hA4:=hA4.keep hk2 ne10;replace qi3:=ai qi3 hk2 hA5 (by decide);replace hX:=hX.step hk2 (fun b e=>by subst e;exact hbs5);clear hnew;refine RL.p rfl rfl (cD.assign rfl) ?_;refine RL.nil ?_;refine ab ?_;refine RL.p rfl rfl (ag [ca3,cb3] au rfl (hA4.cells 0 _ rfl rfl)) ?_;refine RL.x rfl rfl (cZ.store [ca3,cb3] bp rfl rfl rfl hA3 (Nat.le_of_ble_eq_true rfl) (bN ho5 ho6)) ?_;rintro _ w9 ⟨hk3,hnew⟩;replace qi3:=ai qi3 hk3 hA3 (by decide);replace hX:=hX.step hk3 (fun b e=>by subst e;exact hbs3);replace hA3:=hnew.lit [ca3,cb3] rfl;clear hnew;refine RL.nil ?_;refine WP.ret ?_;refine ⟨.agg #[ca3,cb3],zw.one (aj [ca3,cb3] au rfl (hA3.cells 0 _ rfl rfl)),_,rfl,hX,?_⟩;dsimp only;exact qi3
set_option maxRecDepth 10000 in
theorem pl (w:World) (x:Value) (nx:Nat) (zx:Nat→Int) (btx:Nat) (hx:bE w x nx zx btx) (hn:0<nx):Calls Tryz.prog 112 #[x] w (cg w fun v w'=>dQ w' v w.heap.size nx zx btx):=by
 have hLIM:bo=562949953421312:=rfl;have hlimx:=hx.lim;refine ah (N:=8) (rs:= #[.tmp 2]) Tryz.func112 rfl rfl rfl (Nat.le_of_ble_eq_true rfl) ?_;have hX:aC w w:=aC.refl w;refine ab ?_;refine RL.p rfl rfl (cD.assign rfl) ?_;refine RL.nil ?_;refine WP.seq ?_;refine ab ?_;refine RL.p rfl rfl (cD.move rfl) ?_;refine RL.p rfl rfl (kH bg rfl (bE.ext hx hX) rfl hn) ?_;refine RL.nil ?_;refine WP.cond _ rfl (fun hf=>absurd hf (by decide)) (fun _=> ?_);refine WP.skip ?_;refine oL.norm ?_;refine ab ?_;refine RL.x rfl rfl (dt bg) ?_;rintro _ w1 ⟨g1,rfl,hge1,hx1,hA1⟩;replace hX:=aC.trans hX hx1;refine RL.p rfl rfl (cD.move rfl) ?_;have hBw1:w.heap.size≤w1.heap.size:=hX.size;refine RL.x rfl rfl (iD bg (by decide) bV rfl hA1 rfl (bE.ext hx hX) hn) ?_;rintro v1 w2 ⟨hx2,q1,_⟩;replace hX:=aC.trans hX hx2;refine RL.p rfl rfl (cD.assign rfl) ?_;refine RL.nil ?_;refine WP.ret ?_;refine ⟨v1,zw.one (fC.tmp rfl),_,rfl,hX,?_⟩;dsimp only;obtain ⟨g,h1,h2,h3⟩:=q1;exact ⟨g,h1,Nat.le_trans hBw1 h2,h3⟩
set_option maxRecDepth 10000 in
theorem nB (w:World) (gx gy n:Nat) (zx zy:Nat→Int) (b:Nat) (x:Value) (y:Value) (k:Value) (zk:Int) (btk:Nat) (hx:eZ w x gx n) (hy:eZ w y gy n) (hk:am w k zk btk) (hX0:cB w gx n zx b) (hY0:cB w gy n zy b) (hxy:gx=gy→∀j,j<n→zx j=zy j) (hb:btk + b + 2≤bo) (hfit:∀j,j<n→(zx j + zk*zy j).natAbs<2^b):Calls Tryz.prog 66 #[x,y,k] w (kW (fun b=>b=gx) w fun v w'=>cB w' gx n (fun j=>zx j + zk*zy j) b):=by
 have hLIM:bo=562949953421312:=rfl;refine ah (N:=27) (rs:= #[]) Tryz.func66 rfl rfl rfl (Nat.le_of_ble_eq_true rfl) ?_;have hX:Keeps (fun b=>b=gx) w w:=Keeps.refl _ w;have hn16:=hx.dim;have hblim:=rk hX0;refine ab ?_;obtain ⟨ca1,cb1,hq1,ho1,ho2⟩:=am.cells hk;have qi1:am w (.agg #[ca1,cb1]) zk btk:=hq1▸hk;refine RL.x rfl rfl (cZ.box [ca1,cb1] hq1 rfl) ?_;rintro _ w1 ⟨g1,rfl,hge1,hx1,hA1⟩;have ne1:gx≠g1:=Nat.ne_of_lt (Nat.lt_of_lt_of_le (cB.lt hX0) hge1);replace hx:=eZ.ext hx hx1;replace hy:=eZ.ext hy hx1;replace hX0:=cB.ext hX0 hx1;replace hY0:=cB.ext hY0 hx1;replace qi1:=am.ext qi1 hx1;replace hX:=aH hX hx1;refine RL.nil ?_;refine ab ?_;refine RL.p rfl rfl (cD.move rfl) ?_;refine RL.p rfl rfl (rz da (bA hx w1) rfl) ?_;refine RL.p rfl rfl (cD.move rfl) ?_;refine RL.nil ?_;refine WP.block ?_;refine WP.loop (fun mz ez uz=>∃i:Nat,∃ζ:Nat→Int,(mz=n - i)∧(ez 0=x)∧(ez 1=y)∧(ez 5= .pointer (some ⟨g1,0,none⟩))∧(ez 8= .int .i64 ((n:Nat)))∧(ez 9= .int .i64 ((i:Nat)))∧(i≤n)∧(∀j,i≤j→j<n→ζ j=zy j)∧(Keeps (fun b=>b=gx) w uz)∧(eZ uz x gx n)∧(eZ uz y gy n)∧(cB uz gx n (kE zx zy zk i) b)∧(cB uz gy n ζ b)∧(am uz (.agg #[ca1,cb1]:Value) zk btk)∧(bj uz g1 49 2 (bX [ca1,cb1]))) (n - 0) ?_ ?_
 · exact ⟨0,zy,rfl,rfl,rfl,rfl,rfl,rfl,(by omega),(fun j _ _=>rfl),hX,hx,hy,cB.congr hX0 (fun j _=>by simp [kE]),hY0,qi1,hA1⟩
 rintro m1 e1 w2 ⟨i,ζ,hm1,s0_e1,s1_e1,s5_e1,s8_e1,s9_e1,hi,hal,hX1,hx,hy,hX0,hY0,qi1,hA1⟩;refine ab ?_;refine RL.p rfl rfl (cD.lss s9_e1 s8_e1) ?_;refine RL.nil ?_;refine WP.seq ?_;refine ae (((i:Nat):Int)<((n:Nat):Int)) rfl (fun c10=> ?_) (fun c10=> ?_)
 ·
  refine WP.skip ?_;refine oL.norm ?_;refine WP.seq ?_;refine WP.block ?_;refine ab ?_;refine RL.p rfl rfl (cD.move s9_e1) ?_;refine RL.p rfl rfl (cD.assign rfl) ?_;refine RL.nil ?_;refine WP.ds ak 14 [_,_,_,_,_,_,_,_,_,_,_,_,_,_] rfl rfl (fun e_ w_ zZ zY=>⟨fun _=>aa (cD.move ((zY 0 rfl s0_e1))),fun _=>aa (cD.move ((zY 6 rfl rfl))),fun _=>aa (cD.move ((zY 0 rfl s0_e1))),fun _=>aa (cD.move ((zY 6 rfl rfl))),fun zX=>aa (aq (j:=i) da (bA hx w_) (zX 2 rfl) (zX 3 rfl) (by omega) (by omega)),fun zX=>af (aY (j:=i) au (zX 4 rfl) (cB.ext hX0 zZ) (by omega)),fun _=>aa (ag [ca1,cb1] au ((zY 5 rfl s5_e1)) ((bj.ext hA1 zZ).cells 0 _ rfl rfl)),fun _=>aa (cD.move ((zY 1 rfl s1_e1))),fun _=>aa (cD.move ((zY 6 rfl rfl))),fun zX=>aa (aq (j:=i) da (bA hy w_) (zX 7 rfl) (zX 8 rfl) (by omega) (by omega)),fun zX=>af (aY (j:=i) au (zX 9 rfl) (cB.ext hY0 zZ) (by omega)),fun zX=>cZ.call oZ (aB ((zX 6 rfl)) rfl) (pY _ _ _ _ _ _ _ ((btk) + (b)) ((am.ext qi1 zZ)) ((zX 10 rfl)) (by omega) (by omega)),fun zX=>cZ.call lT (aB rfl rfl) (pZ _ _ _ _ _ _ _ (max (b) ((btk) + (b)) + 1) ((zX 5 rfl)) ((zX 11 rfl)) (by omega) (by omega) (by omega)),fun zX=>aa (aq (j:=i) da (bA hx w_) (zX 0 rfl) (zX 1 rfl) (by omega) (by omega)),trivial⟩) ?_;intro e2 w3 hx2 ho3 hf1;replace hx:=eZ.ext hx hx2;replace hy:=eZ.ext hy hx2;replace hX0:=cB.ext hX0 hx2;replace hY0:=cB.ext hY0 hx2;replace qi1:=am.ext qi1 hx2;replace hA1:=bj.ext hA1 hx2;replace hX1:=aH hX1 hx2;have s0_e2:=ho3 0 rfl s0_e1;have s1_e2:=ho3 1 rfl s1_e1;have s5_e2:=ho3 5 rfl s5_e1;have s8_e2:=ho3 8 rfl s8_e1;have s9_e2:=ho3 9 rfl s9_e1;have s24_e2:am w3 (e2 24) (((kE zx zy zk i) i:Int) + ((zk:Int)*(ζ i:Int):Int)) (max (b) ((btk) + (b)) + 1):=hf1 12 rfl;have s25_e2:e2 25=_:=hf1 13 rfl;refine RL.x rfl rfl (gS (j:=i) bp s25_e2 rfl (am.eq s24_e2 (tY hal (by omega)) (hfit i (by omega)) (by omega)) hX0 (by omega)) ?_;rintro _ w4 ⟨hk1,hN1⟩;replace qi1:=bQ qi1 hk1 hX0;replace hA1:=hA1.keep hk1 (Ne.symm ne1);replace hX1:=hX1.step hk1 (fun b e=>by subst e;exact .inl rfl);obtain ⟨ζ2,hY1,hal2⟩:=oN hY0 hN1 hk1 hX0;replace hY0:=hY1;replace hX0:=hN1;refine RL.nil ?_;refine iF.norm ?_;refine oL.norm ?_;refine WP.region ?_;refine RL.p rfl rfl (cD.add (c:=((i + 1:Nat):Int)) s9_e2 rfl (bS (by omega))) ?_;refine RL.p rfl rfl (cD.move rfl) ?_;refine RL.nil ?_;refine oL.norm ⟨_,(by omega),i + 1,ζ2,rfl,s0_e2,s1_e2,s5_e2,s8_e2,rfl,(by omega),(xO hal hal2 hxy),hX1,hx,hy,fS hX0 (tZ zx zy zk i),hY0,qi1,hA1⟩
 ·
  refine WP.exit ?_;refine oL.exit ?_;refine oL.exit ?_;refine iF.same ?_;refine ⟨.tuple #[],zw.zero,_,rfl,hX1,?_⟩;dsimp only;exact cB.congr hX0 (fun j hj=>by unfold kE;rw [if_pos (by omega)])
set_option maxRecDepth 10000 in
theorem pL (w:World) (B gw r c:Nat) (M U V:Nat→Nat→Int) (b:Nat) (i:Nat) (j:Nat) (k:Value) (zk:Int) (btk:Nat) (hW:ci 74 w B gw r c M U V b) (hi:i<r) (hj:j<r) (hk:am w k zk btk) (hij:i≠j) (hb:btk + b + 2≤bo) (hfM:∀a,a<c→(M i a + zk*M j a).natAbs<2^b) (hfU:∀a,a<r→(U i a + zk*U j a).natAbs<2^b) (hfV:∀a,a<r→(V a j - zk*V a i).natAbs<2^b):Calls Tryz.prog 41 #[.pointer (some ⟨gw,0,none⟩),.int .i64 (i:Nat),.int .i64 (j:Nat),k] w (kW (dl B w) w fun v w'=>ci 74 w' B gw r c (cO M i j zk) (cO U i j zk) (dz V i j zk) b):=by
 have hLIM:bo=562949953421312:=rfl;obtain ⟨hm,hu,hv,km,ku,kv,ρm,ρu,ρv,hBg,hG,hMm,hMu,hMv,nmu,nmv,nuv,dmu,dmv,duv⟩:=hW;have hdm:=cw.dlim hMm;have hcm:=cw.clim hMm;have hdu:=cw.dlim hMu;have hdv:=cw.dlim hMv;have h0m:=hMm;have h0u:=hMu;have h0v:=hMv;refine ah (N:=74) (rs:= #[]) Tryz.func41 rfl rfl rfl (Nat.le_of_ble_eq_true rfl) ?_;have hX:Keeps (dl B w) w w:=Keeps.refl _ w;refine ab ?_;obtain ⟨ca1,cb1,hq1,ho1,ho2⟩:=am.cells hk;have qi1:am w (.agg #[ca1,cb1]) zk btk:=hq1▸hk;refine RL.x rfl rfl (cZ.box [ca1,cb1] hq1 rfl) ?_;rintro _ w1 ⟨g1,rfl,hge1,hx1,hA1⟩;have ne2:∀ii,ii<r→ρm ii≠g1:=fun ii hi=>Nat.ne_of_lt (Nat.lt_of_lt_of_le (cw.rowlt hMm hi) hge1)
 have ne4:∀ii,ii<r→ρu ii≠g1:=fun ii hi=>Nat.ne_of_lt (Nat.lt_of_lt_of_le (cw.rowlt hMu hi) hge1)
 have ne6:∀ii,ii<r→ρv ii≠g1:=fun ii hi=>Nat.ne_of_lt (Nat.lt_of_lt_of_le (cw.rowlt hMv hi) hge1)
 replace hG:=bj.ext hG hx1;replace hMm:=cw.ext hMm hx1;replace hMu:=cw.ext hMu hx1;replace hMv:=cw.ext hMv hx1;replace hk:=am.ext hk hx1;replace qi1:=am.ext qi1 hx1;replace hX:=aH hX hx1;refine RL.nil ?_;refine WP.seq ?_;refine ab ?_;refine RL.p rfl rfl (ag [ca1,cb1] au rfl (hA1.cells 0 _ rfl rfl)) ?_;refine RL.x rfl rfl (cZ.call ji (aJ rfl) (fQ _ _ _ _ qi1)) ?_;rintro _ w2 ⟨hx2,rfl⟩;replace hG:=bj.ext hG hx2;replace hMm:=cw.ext hMm hx2;replace hMu:=cw.ext hMu hx2;replace hMv:=cw.ext hMv hx2;replace hk:=am.ext hk hx2;replace qi1:=am.ext qi1 hx2;replace hA1:=bj.ext hA1 hx2;replace hX:=aH hX hx2;refine RL.p rfl rfl (cD.eql rfl rfl) ?_;refine RL.nil ?_;refine ae (((zk:Int).sign:Int)=(0:Int)) rfl (fun c12=> ?_) (fun c12=> ?_)
 ·
  refine WP.ret ?_;refine oL.ret ?_;refine ⟨.tuple #[],zw.zero,_,rfl,hX,?_⟩;dsimp only;have hz0:zk=0:=by simpa [Int.sign_eq_zero_iff_zero] using c12
  exact ⟨hm,hu,hv,km,ku,kv,_,_,_,hBg,hG,bl hMm (ik M i j hz0).symm,bl hMu (ik U i j hz0).symm,bl hMv (zr V i j hz0).symm,nmu,nmv,nuv,dmu,dmv,duv⟩
 ·
  refine WP.skip ?_;refine oL.norm ?_;refine aE ak 17 [_,_,_,_,_,_,_,_,_,_,_,_,_,_,_,_,_] rfl rfl (fun e_ w_ zZ zY=>⟨fun _=>aa (cD.move ((zY 0 rfl rfl))),fun zX=>aa (cD.nilCheck ((zX 0 rfl))),fun zX=>aa (cD.fieldAddr cH ((zX 1 rfl))),fun zX=>aa (cD.fieldAddr an ((zX 2 rfl))),fun zX=>aa (cD.load aF ((zX 3 rfl)) ((bj.ext hG zZ).at_ (i:=2) rfl rfl)),fun _=>aa (cD.move ((zY 1 rfl rfl))),fun zX=>aa (cD.index (j:=i) az ((zX 4 rfl)) ((zX 5 rfl)) rfl (by omega) (by omega)),fun zX=>af (al (i:=i) aP (zX 6 rfl) (cw.ext hMm zZ) (by omega)),fun _=>aa (cD.move ((zY 0 rfl rfl))),fun zX=>aa (cD.nilCheck ((zX 8 rfl))),fun zX=>aa (cD.fieldAddr cH ((zX 9 rfl))),fun zX=>aa (cD.fieldAddr an ((zX 10 rfl))),fun zX=>aa (cD.load aF ((zX 11 rfl)) ((bj.ext hG zZ).at_ (i:=2) rfl rfl)),fun _=>aa (cD.move ((zY 2 rfl rfl))),fun zX=>aa (cD.index (j:=j) az ((zX 12 rfl)) ((zX 13 rfl)) rfl (by omega) (by omega)),fun zX=>af (al (i:=j) aP (zX 14 rfl) (cw.ext hMm zZ) (by omega)),fun _=>aa (ag [ca1,cb1] au ((zY 7 rfl rfl)) ((bj.ext hA1 zZ).cells 0 _ rfl rfl)),trivial⟩) ?_;intro e1 w3 hx3 ho3 hf1;replace hG:=bj.ext hG hx3;replace hMm:=cw.ext hMm hx3;replace hMu:=cw.ext hMu hx3;replace hMv:=cw.ext hMv hx3;replace hk:=am.ext hk hx3;replace qi1:=am.ext qi1 hx3;replace hA1:=bj.ext hA1 hx3;replace hX:=aH hX hx3;have s0_e1:e1 0=_:=ho3 0 rfl rfl;have s1_e1:e1 1=_:=ho3 1 rfl rfl;have s2_e1:e1 2=_:=ho3 2 rfl rfl;have s7_e1:e1 7=_:=ho3 7 rfl rfl;have s20_e1:eZ w3 (e1 20) (ρm i) c:=hf1 7 rfl;have s28_e1:eZ w3 (e1 28) (ρm j) c:=hf1 15 rfl;have s29_e1:e1 29=_:=hf1 16 rfl;refine RL.x rfl rfl (cU mU (cN rfl rfl s29_e1) (nB _ _ _ _ _ _ _ _ _ _ _ _ (bA s20_e1 w3) (bA s28_e1 w3) qi1 (cw.row (i:=i) hMm (by omega)) (cw.row (i:=j) hMm (by omega)) (fun e=>absurd (cw.inj hMm (by omega) (by omega) e) hij) (by omega) hfM)) ?_;rintro _ w5 ⟨hk1,hN1⟩;have hR1:=cw.row (i:=i) hMm (by omega);replace hG:=aU hG hk1 hR1 (by decide);replace hMu:=bc hMu hk1 hR1 (fun ii hii=>Ne.symm (dmu i ii (by omega) hii));replace hMv:=bc hMv hk1 hR1 (fun ii hii=>Ne.symm (dmv i ii (by omega) hii));replace hk:=bQ hk hk1 hR1;replace qi1:=bQ qi1 hk1 hR1;replace hA1:=hA1.keep hk1 (Ne.symm (ne2 i (by omega)));replace hX:=hX.step hk1 (fun b e=>by subst e;exact (.inl (cV (i:=i) h0m (by omega))));replace hMm:=cw.setRow (i:=i) hMm (by omega) hk1 hN1;refine RL.nil ?_;refine aE ak 17 [_,_,_,_,_,_,_,_,_,_,_,_,_,_,_,_,_] rfl rfl (fun e_ w_ zZ zY=>⟨fun _=>aa (cD.move ((zY 0 rfl s0_e1))),fun zX=>aa (cD.nilCheck ((zX 0 rfl))),fun zX=>aa (cD.fieldAddr dM ((zX 1 rfl))),fun zX=>aa (cD.fieldAddr an ((zX 2 rfl))),fun zX=>aa (cD.load aF ((zX 3 rfl)) ((bj.ext hG zZ).at_ (i:=5) rfl rfl)),fun _=>aa (cD.move ((zY 1 rfl s1_e1))),fun zX=>aa (cD.index (j:=i) az ((zX 4 rfl)) ((zX 5 rfl)) rfl (by omega) (by omega)),fun zX=>af (al (i:=i) aP (zX 6 rfl) (cw.ext hMu zZ) (by omega)),fun _=>aa (cD.move ((zY 0 rfl s0_e1))),fun zX=>aa (cD.nilCheck ((zX 8 rfl))),fun zX=>aa (cD.fieldAddr dM ((zX 9 rfl))),fun zX=>aa (cD.fieldAddr an ((zX 10 rfl))),fun zX=>aa (cD.load aF ((zX 11 rfl)) ((bj.ext hG zZ).at_ (i:=5) rfl rfl)),fun _=>aa (cD.move ((zY 2 rfl s2_e1))),fun zX=>aa (cD.index (j:=j) az ((zX 12 rfl)) ((zX 13 rfl)) rfl (by omega) (by omega)),fun zX=>af (al (i:=j) aP (zX 14 rfl) (cw.ext hMu zZ) (by omega)),fun _=>aa (ag [ca1,cb1] au ((zY 7 rfl s7_e1)) ((bj.ext hA1 zZ).cells 0 _ rfl rfl)),trivial⟩) ?_;intro e2 w6 hx5 ho4 hf2;replace hG:=bj.ext hG hx5;replace hMm:=cw.ext hMm hx5;replace hMu:=cw.ext hMu hx5;replace hMv:=cw.ext hMv hx5;replace hk:=am.ext hk hx5;replace qi1:=am.ext qi1 hx5;replace hA1:=bj.ext hA1 hx5;replace hX:=aH hX hx5;have s0_e2:=ho4 0 rfl s0_e1;have s1_e2:=ho4 1 rfl s1_e1;have s2_e2:=ho4 2 rfl s2_e1;have s7_e2:=ho4 7 rfl s7_e1;have s38_e2:eZ w6 (e2 38) (ρu i) r:=hf2 7 rfl;have s46_e2:eZ w6 (e2 46) (ρu j) r:=hf2 15 rfl;have s47_e2:e2 47=_:=hf2 16 rfl;refine RL.x rfl rfl (cU mU (cN rfl rfl s47_e2) (nB _ _ _ _ _ _ _ _ _ _ _ _ (bA s38_e2 w6) (bA s46_e2 w6) qi1 (cw.row (i:=i) hMu (by omega)) (cw.row (i:=j) hMu (by omega)) (fun e=>absurd (cw.inj hMu (by omega) (by omega) e) hij) (by omega) hfU)) ?_;rintro _ w8 ⟨hk2,hN2⟩;have hR2:=cw.row (i:=i) hMu (by omega);replace hG:=aU hG hk2 hR2 (by decide);replace hMm:=bc hMm hk2 hR2 (fun ii hii=>dmu ii i hii (by omega));replace hMv:=bc hMv hk2 hR2 (fun ii hii=>Ne.symm (duv i ii (by omega) hii));replace hk:=bQ hk hk2 hR2;replace qi1:=bQ qi1 hk2 hR2;replace hA1:=hA1.keep hk2 (Ne.symm (ne4 i (by omega)));replace hX:=hX.step hk2 (fun b e=>by subst e;exact (.inl (cV (i:=i) h0u (by omega))));replace hMu:=cw.setRow (i:=i) hMu (by omega) hk2 hN2;refine RL.nil ?_;refine ab ?_;refine RL.p rfl rfl (cD.move s0_e2) ?_;refine RL.p rfl rfl (cD.nilCheck rfl) ?_;refine RL.p rfl rfl (cD.fieldAddr jt rfl) ?_;refine RL.p rfl rfl (cD.fieldAddr an rfl) ?_;refine RL.p rfl rfl (cD.load aF rfl (hG.at_ (i:=8) rfl rfl)) ?_;refine RL.p rfl rfl (cD.len az rfl) ?_;refine RL.p rfl rfl (cD.move rfl) ?_;refine RL.nil ?_;refine WP.block ?_;refine WP.loop (fun mz ez uz=>∃a:Nat,(mz=r - a)∧(ez 1= .int .i64 ((i:Nat)))∧(ez 2= .int .i64 ((j:Nat)))∧(ez 7= .pointer (some ⟨g1,0,none⟩))∧(ez 53= .slice (some ⟨hv,0,none⟩) (r) (kv))∧(ez 54= .int .i64 ((r:Nat)))∧(ez 55= .int .i64 ((a:Nat)))∧(a≤r)∧(Keeps (dl B w) w uz)∧(bj uz gw 74 9 (bX [.int .i64 ((r:Nat)),.int .i64 ((c:Nat)),.slice (some ⟨hm,0,none⟩) (r) (km),.int .i64 ((r:Nat)),.int .i64 ((r:Nat)),.slice (some ⟨hu,0,none⟩) (r) (ku),.int .i64 ((r:Nat)),.int .i64 ((r:Nat)),.slice (some ⟨hv,0,none⟩) (r) (kv)]))∧(cw uz B hm km r c ρm (setRow M i (fun c=>M i c + zk*M j c)) b)∧(cw uz B hu ku r r ρu (setRow U i (fun c=>U i c + zk*U j c)) b)∧(cw uz B hv kv r r ρv (dV V (dz V i j zk) a) b)∧(am uz k zk btk)∧(am uz (.agg #[ca1,cb1]:Value) zk btk)∧(bj uz g1 49 2 (bX [ca1,cb1]))) (r - 0) ?_ ?_
  · exact ⟨0,rfl,s1_e2,s2_e2,s7_e2,rfl,rfl,rfl,(by omega),hX,hG,hMm,hMu,bl hMv (ew V (dz V i j zk)).symm,hk,qi1,hA1⟩
  rintro m1 e3 w9 ⟨a,hm1,s1_e3,s2_e3,s7_e3,s53_e3,s54_e3,s55_e3,ha,hX1,hG,hMm,hMu,hMv,hk,qi1,hA1⟩;refine ab ?_;refine RL.p rfl rfl (cD.lss s55_e3 s54_e3) ?_;refine RL.nil ?_;refine WP.seq ?_;refine ae (((a:Nat):Int)<((r:Nat):Int)) rfl (fun c56=> ?_) (fun c56=> ?_)
  ·
   refine WP.skip ?_;refine oL.norm ?_;refine WP.seq ?_;refine WP.block ?_;refine ab ?_;refine RL.p rfl rfl (cD.index (j:=a) az s53_e3 s55_e3 rfl (by omega) (by omega)) ?_;refine RL.x rfl rfl (al (i:=a) aP rfl hMv (by omega)) ?_;rintro v1 _ ⟨rfl,q1⟩;refine RL.p rfl rfl (cD.assign rfl) ?_;refine RL.nil ?_;refine WP.ds ak 14 [_,_,_,_,_,_,_,_,_,_,_,_,_,_] rfl rfl (fun e_ w_ zZ zY=>⟨fun _=>aa (cD.move ((zY 9 rfl rfl))),fun _=>aa (cD.move ((zY 2 rfl s2_e3))),fun _=>aa (cD.move ((zY 9 rfl rfl))),fun _=>aa (cD.move ((zY 2 rfl s2_e3))),fun zX=>aa (aq (j:=j) bg (bA q1 w_) (zX 2 rfl) (zX 3 rfl) (by omega) (by omega)),fun zX=>af (aY (j:=j) au (zX 4 rfl) (cw.row (cw.ext hMv zZ) (by omega)) (by omega)),fun _=>aa (ag [ca1,cb1] au ((zY 7 rfl s7_e3)) ((bj.ext hA1 zZ).cells 0 _ rfl rfl)),fun _=>aa (cD.move ((zY 9 rfl rfl))),fun _=>aa (cD.move ((zY 1 rfl s1_e3))),fun zX=>aa (aq (j:=i) bg (bA q1 w_) (zX 7 rfl) (zX 8 rfl) (by omega) (by omega)),fun zX=>af (aY (j:=i) au (zX 9 rfl) (cw.row (cw.ext hMv zZ) (by omega)) (by omega)),fun zX=>cZ.call oZ (aB ((zX 6 rfl)) rfl) (pY _ _ _ _ _ _ _ ((btk) + (b)) ((am.ext qi1 zZ)) ((zX 10 rfl)) (by omega) (by omega)),fun zX=>cZ.call yq (aB rfl rfl) (zq _ _ _ _ _ _ _ (max (b) ((btk) + (b)) + 1) ((zX 5 rfl)) ((zX 11 rfl)) (by omega) (by omega) (by omega)),fun zX=>aa (aq (j:=j) bg (bA q1 w_) (zX 0 rfl) (zX 1 rfl) (by omega) (by omega)),trivial⟩) ?_;intro e4 w10 hx7 ho5 hf3;replace hG:=bj.ext hG hx7;replace hMm:=cw.ext hMm hx7;replace hMu:=cw.ext hMu hx7;replace hMv:=cw.ext hMv hx7;replace hk:=am.ext hk hx7;replace qi1:=am.ext qi1 hx7;replace hA1:=bj.ext hA1 hx7;replace hX1:=aH hX1 hx7;have s1_e4:=ho5 1 rfl s1_e3;have s2_e4:=ho5 2 rfl s2_e3;have s7_e4:=ho5 7 rfl s7_e3;have s53_e4:=ho5 53 rfl s53_e3;have s54_e4:=ho5 54 rfl s54_e3;have s55_e4:=ho5 55 rfl s55_e3;have s71_e4:am w10 (e4 71) (((dV V (dz V i j zk) a) a j:Int) - ((zk:Int)*((dV V (dz V i j zk) a) a i:Int):Int)) (max (b) ((btk) + (b)) + 1):=hf3 12 rfl;have s72_e4:e4 72=_:=hf3 13 rfl;refine RL.x rfl rfl (bH (i:=a) (j:=j) bp s72_e4 rfl (am.eq s71_e4 (by rw [di,di]) (hfV a (by omega)) (by omega)) hMv (by omega) (by omega)) ?_;rintro _ w11 ⟨hk3,hN3⟩;have hR3:=cw.row (i:=a) hMv (by omega);replace hG:=aU hG hk3 hR3 (by decide);replace hMm:=bc hMm hk3 hR3 (fun ii hii=>dmv ii a hii (by omega));replace hMu:=bc hMu hk3 hR3 (fun ii hii=>duv ii a hii (by omega));replace hk:=bQ hk hk3 hR3;replace qi1:=bQ qi1 hk3 hR3;replace hA1:=hA1.keep hk3 (Ne.symm (ne6 a (by omega)));replace hX1:=hX1.step hk3 (fun b e=>by subst e;exact (.inl (cV (i:=a) h0v (by omega))));replace hMv:=hN3;clear hR3;refine RL.nil ?_;refine iF.norm ?_;refine oL.norm ?_;refine WP.region ?_;refine RL.p rfl rfl (cD.add (c:=((a + 1:Nat):Int)) s55_e4 rfl (bS (by omega))) ?_;refine RL.p rfl rfl (cD.move rfl) ?_;refine RL.nil ?_;refine oL.norm ⟨_,(by omega),a + 1,rfl,s1_e4,s2_e4,s7_e4,s53_e4,s54_e4,rfl,(by omega),hX1,hG,hMm,hMu,bl hMv (go (by simp [dz]) (fun c hc=>by simp [dz,hc])),hk,qi1,hA1⟩
  ·
   refine WP.exit ?_;refine oL.exit ?_;refine oL.exit ?_;refine iF.same ?_;refine ⟨.tuple #[],zw.zero,_,rfl,hX1,?_⟩;dsimp only;exact ⟨hm,hu,hv,km,ku,kv,_,_,_,hBg,hG,(bl hMm (jV M i j zk)),(bl hMu (jV U i j zk)),(cw.congr hMv (fun a c ha hc=>fo V _ c (by omega))),nmu,nmv,nuv,dmu,dmv,duv⟩
set_option maxRecDepth 10000 in
theorem xD (w:World) (B gw r c:Nat) (M U V:Nat→Nat→Int) (b:Nat) (i:Nat) (j:Nat) (hW:ci 74 w B gw r c M U V b) (hi:i<r) (hj:j<r):Calls Tryz.prog 84 #[.pointer (some ⟨gw,0,none⟩),.int .i64 (i:Nat),.int .i64 (j:Nat)] w (kW (dl B w) w fun v w'=>ci 74 w' B gw r c (cn M i j) (cn U i j) (cQ V i j) b):=by
 have hLIM:bo=562949953421312:=rfl;obtain ⟨hm,hu,hv,km,ku,kv,ρm,ρu,ρv,hBg,hG,hMm,hMu,hMv,nmu,nmv,nuv,dmu,dmv,duv⟩:=hW;have hdm:=cw.dlim hMm;have hcm:=cw.clim hMm;have hdu:=cw.dlim hMu;have hdv:=cw.dlim hMv;have h0m:=hMm;have h0u:=hMu;have h0v:=hMv;refine ah (N:=93) (rs:= #[]) Tryz.func84 rfl rfl rfl (Nat.le_of_ble_eq_true rfl) ?_;have hX:Keeps (dl B w) w w:=Keeps.refl _ w;refine gQ ak 29 [_,_,_,_,_,_,_,_,_,_,_,_,_,_,_,_,_,_,_,_,_,_,_,_,_,_,_,_,_] (Apart.of (fun _ _ _=>False) [] rfl ⟨(fun h=>by cases h),(fun h=>by cases h),(fun h=>by cases h),(fun h=>by cases h),(fun h=>by cases h),(fun h=>by cases h),(fun h=>by cases h),(fun h=>by cases h),(fun h=>by cases h),(fun h=>by cases h),(fun h=>by cases h),(fun h=>by cases h),(fun h=>by cases h),(fun h=>by cases h),(fun h=>by cases h),(fun h=>by cases h),(fun h=>by cases h),(fun h=>by cases h),(fun h=>by cases h),(fun h=>by cases h),(fun h=>by cases h),(fun h=>by cases h),(fun h=>by cases h),(fun h=>by cases h),(fun h=>by cases h),(fun h=>by cases h),(fun h=>by cases h),(fun h=>by cases h),(fun h=>by cases h),trivial⟩) 11 (vk:= .int .i64 ((j:Nat))) rfl rfl rfl (by kernel_rfl) (by kernel_rfl) (by kernel_rfl) (by kernel_rfl) rfl rfl ⟨ac _,ac _,ac _,ac _,ac _,ac _,ac _,ac _,ac _,ac _,ac _,ac _,ac _,ac _,ac _,ac _,ac _,ac _,ac _,co _ _,ac _,ac _,ac _,ac _,ac _,ac _,ac _,co _ _,ac _,trivial⟩ ⟨fun e_ w_ zZ zY zX=>aT rfl (aa (cD.move (((zY 0 rfl).trans rfl)))),fun e_ w_ zZ zY zX=>aT rfl (aa (cD.nilCheck ((zX 0 rfl)))),fun e_ w_ zZ zY zX=>aT rfl (aa (cD.fieldAddr cH ((zX 1 rfl)))),fun e_ w_ zZ zY zX=>aT rfl (aa (cD.fieldAddr an ((zX 2 rfl)))),fun e_ w_ zZ zY zX=>aT rfl (aa (cD.load aF ((zX 3 rfl)) ((bj.ext hG zZ).at_ (i:=2) rfl rfl))),fun e_ w_ zZ zY zX=>aT rfl (aa (cD.move (((zY 1 rfl).trans rfl)))),fun e_ w_ zZ zY zX=>aT rfl (aa (cD.move (((zY 0 rfl).trans rfl)))),fun e_ w_ zZ zY zX=>aT rfl (aa (cD.nilCheck ((zX 6 rfl)))),fun e_ w_ zZ zY zX=>aT rfl (aa (cD.fieldAddr cH ((zX 7 rfl)))),fun e_ w_ zZ zY zX=>aT rfl (aa (cD.fieldAddr an ((zX 8 rfl)))),fun e_ w_ zZ zY zX=>aT rfl (aa (cD.load aF ((zX 9 rfl)) ((bj.ext hG zZ).at_ (i:=2) rfl rfl))),fun e_ w_ zZ zY zX=>aT rfl (aa (cD.move (((zY 2 rfl).trans rfl)))),fun e_ w_ zZ zY zX=>aT rfl (aa (cD.move (((zY 0 rfl).trans rfl)))),fun e_ w_ zZ zY zX=>aT rfl (aa (cD.nilCheck ((zX 12 rfl)))),fun e_ w_ zZ zY zX=>aT rfl (aa (cD.fieldAddr cH ((zX 13 rfl)))),fun e_ w_ zZ zY zX=>aT rfl (aa (cD.fieldAddr an ((zX 14 rfl)))),fun e_ w_ zZ zY zX=>aT rfl (aa (cD.load aF ((zX 15 rfl)) ((bj.ext hG zZ).at_ (i:=2) rfl rfl))),fun e_ w_ zZ zY zX=>aT rfl (aa (cD.move (((zY 2 rfl).trans rfl)))),fun e_ w_ zZ zY zX=>aT rfl (aa (cD.index (j:=j) az ((zX 16 rfl)) ((zX 17 rfl)) rfl (by omega) (by omega))),fun e_ w_ zZ zY zX=>aT rfl (af (al (i:=j) aP (zX 18 rfl) (cw.ext hMm zZ) (by omega))),fun e_ w_ zZ zY zX=>aT rfl (aa (cD.move (((zY 0 rfl).trans rfl)))),fun e_ w_ zZ zY zX=>aT rfl (aa (cD.nilCheck ((zX 20 rfl)))),fun e_ w_ zZ zY zX=>aT rfl (aa (cD.fieldAddr cH ((zX 21 rfl)))),fun e_ w_ zZ zY zX=>aT rfl (aa (cD.fieldAddr an ((zX 22 rfl)))),fun e_ w_ zZ zY zX=>aT rfl (aa (cD.load aF ((zX 23 rfl)) ((bj.ext hG zZ).at_ (i:=2) rfl rfl))),fun e_ w_ zZ zY zX=>aT rfl (aa (cD.move (((zY 1 rfl).trans rfl)))),fun e_ w_ zZ zY zX=>aT rfl (aa (cD.index (j:=i) az ((zX 24 rfl)) ((zX 25 rfl)) rfl (by omega) (by omega))),fun e_ w_ zZ zY zX=>aT rfl (af (al (i:=i) aP (zX 26 rfl) (cw.ext hMm zZ) (by omega))),fun e_ w_ zZ zY zX=>aT rfl (aa (cD.index (j:=i) az ((zX 4 rfl)) ((zX 5 rfl)) rfl (by omega) (by omega))),trivial⟩ (fun _=>cD.move rfl) (fun _=>rfl) (iy rfl) ?_;intro e1 w1 hx1 ho1 hf1 hp1;replace hG:=bj.ext hG hx1;replace hMm:=cw.ext hMm hx1;replace hMu:=cw.ext hMu hx1;replace hMv:=cw.ext hMv hx1;replace hX:=aH hX hx1;have s0_e1:e1 0= .pointer (some ⟨gw,0,none⟩):=(ho1 0 rfl).trans rfl;have s1_e1:e1 1= .int .i64 ((i:Nat)):=(ho1 1 rfl).trans rfl;have s2_e1:e1 2= .int .i64 ((j:Nat)):=(ho1 2 rfl).trans rfl;have s18_e1:e1 18=_:=hf1 10 rfl;have s19_e1:e1 19=_:=hf1 11 rfl;have s27_e1:eZ w1 (e1 27) (ρm j) c:=hf1 19 rfl;have s35_e1:eZ w1 (e1 35) (ρm i) c:=hf1 27 rfl;have s36_e1:e1 36=_:=hf1 28 rfl;obtain ⟨fh1,hH1⟩:=cw.split hMm;refine RL.x rfl rfl (cz (i:=i) (g:=(ρm j)) (n:=c) (f:=fh1) fF s36_e1 rfl (bA s27_e1 w1) hH1 (by omega)) ?_;rintro _ w2 ⟨hk1,hN1⟩;have hMo1:=hMm;have hH01:=hH1;replace hG:=hG.keep hk1 (hG.ne hH01 (by decide));replace hMu:=bO hMu hk1 hH01 (Ne.symm nmu);replace hMv:=bO hMv hk1 hH01 (Ne.symm nmv);replace hX:=hX.step hk1 (fun b e=>by subst e;exact (.inl (dA h0m)));refine RL.p rfl rfl (cD.index (j:=j) az s18_e1 s19_e1 rfl (by omega) (by omega)) ?_;refine RL.x rfl rfl (cz (i:=j) (g:=(ρm i)) (n:=c) (f:=(dH fh1 (0 + i*1) [(e1 27)])) fF rfl rfl (bA s35_e1 w2) hN1 (by omega)) ?_;rintro _ w3 ⟨hk2,hN2⟩;have hH02:=hN1;replace hG:=hG.keep hk2 (hG.ne hH02 (by decide));replace hMu:=bO hMu hk2 hH02 (Ne.symm nmu);replace hMv:=bO hMv hk2 hH02 (Ne.symm nmv);replace hX:=hX.step hk2 (fun b e=>by subst e;exact (.inl (dA h0m)));have hk3:=hk1.step hk2 (fun b e=> .inl e);have hMm:=eS (i:=i) (j:=j) hMo1 hH1 hk3 hN2 (bA s27_e1 w1) (bA s35_e1 w2) (by omega) (by omega);replace dmu:=ge (i:=i) (j:=j) dmu (by omega) (by omega);replace dmv:=ge (i:=i) (j:=j) dmv (by omega) (by omega);refine RL.nil ?_;refine gQ ak 29 [_,_,_,_,_,_,_,_,_,_,_,_,_,_,_,_,_,_,_,_,_,_,_,_,_,_,_,_,_] (Apart.of (fun _ _ _=>False) [] rfl ⟨(fun h=>by cases h),(fun h=>by cases h),(fun h=>by cases h),(fun h=>by cases h),(fun h=>by cases h),(fun h=>by cases h),(fun h=>by cases h),(fun h=>by cases h),(fun h=>by cases h),(fun h=>by cases h),(fun h=>by cases h),(fun h=>by cases h),(fun h=>by cases h),(fun h=>by cases h),(fun h=>by cases h),(fun h=>by cases h),(fun h=>by cases h),(fun h=>by cases h),(fun h=>by cases h),(fun h=>by cases h),(fun h=>by cases h),(fun h=>by cases h),(fun h=>by cases h),(fun h=>by cases h),(fun h=>by cases h),(fun h=>by cases h),(fun h=>by cases h),(fun h=>by cases h),(fun h=>by cases h),trivial⟩) 11 (vk:= .int .i64 ((j:Nat))) rfl rfl rfl (by kernel_rfl) (by kernel_rfl) (by kernel_rfl) (by kernel_rfl) rfl rfl ⟨ac _,ac _,ac _,ac _,ac _,ac _,ac _,ac _,ac _,ac _,ac _,ac _,ac _,ac _,ac _,ac _,ac _,ac _,ac _,co _ _,ac _,ac _,ac _,ac _,ac _,ac _,ac _,co _ _,ac _,trivial⟩ ⟨fun e_ w_ zZ zY zX=>aT rfl (aa (cD.move (((zY 0 rfl).trans s0_e1)))),fun e_ w_ zZ zY zX=>aT rfl (aa (cD.nilCheck ((zX 0 rfl)))),fun e_ w_ zZ zY zX=>aT rfl (aa (cD.fieldAddr dM ((zX 1 rfl)))),fun e_ w_ zZ zY zX=>aT rfl (aa (cD.fieldAddr an ((zX 2 rfl)))),fun e_ w_ zZ zY zX=>aT rfl (aa (cD.load aF ((zX 3 rfl)) ((bj.ext hG zZ).at_ (i:=5) rfl rfl))),fun e_ w_ zZ zY zX=>aT rfl (aa (cD.move (((zY 1 rfl).trans s1_e1)))),fun e_ w_ zZ zY zX=>aT rfl (aa (cD.move (((zY 0 rfl).trans s0_e1)))),fun e_ w_ zZ zY zX=>aT rfl (aa (cD.nilCheck ((zX 6 rfl)))),fun e_ w_ zZ zY zX=>aT rfl (aa (cD.fieldAddr dM ((zX 7 rfl)))),fun e_ w_ zZ zY zX=>aT rfl (aa (cD.fieldAddr an ((zX 8 rfl)))),fun e_ w_ zZ zY zX=>aT rfl (aa (cD.load aF ((zX 9 rfl)) ((bj.ext hG zZ).at_ (i:=5) rfl rfl))),fun e_ w_ zZ zY zX=>aT rfl (aa (cD.move (((zY 2 rfl).trans s2_e1)))),fun e_ w_ zZ zY zX=>aT rfl (aa (cD.move (((zY 0 rfl).trans s0_e1)))),fun e_ w_ zZ zY zX=>aT rfl (aa (cD.nilCheck ((zX 12 rfl)))),fun e_ w_ zZ zY zX=>aT rfl (aa (cD.fieldAddr dM ((zX 13 rfl)))),fun e_ w_ zZ zY zX=>aT rfl (aa (cD.fieldAddr an ((zX 14 rfl)))),fun e_ w_ zZ zY zX=>aT rfl (aa (cD.load aF ((zX 15 rfl)) ((bj.ext hG zZ).at_ (i:=5) rfl rfl))),fun e_ w_ zZ zY zX=>aT rfl (aa (cD.move (((zY 2 rfl).trans s2_e1)))),fun e_ w_ zZ zY zX=>aT rfl (aa (cD.index (j:=j) az ((zX 16 rfl)) ((zX 17 rfl)) rfl (by omega) (by omega))),fun e_ w_ zZ zY zX=>aT rfl (af (al (i:=j) aP (zX 18 rfl) (cw.ext hMu zZ) (by omega))),fun e_ w_ zZ zY zX=>aT rfl (aa (cD.move (((zY 0 rfl).trans s0_e1)))),fun e_ w_ zZ zY zX=>aT rfl (aa (cD.nilCheck ((zX 20 rfl)))),fun e_ w_ zZ zY zX=>aT rfl (aa (cD.fieldAddr dM ((zX 21 rfl)))),fun e_ w_ zZ zY zX=>aT rfl (aa (cD.fieldAddr an ((zX 22 rfl)))),fun e_ w_ zZ zY zX=>aT rfl (aa (cD.load aF ((zX 23 rfl)) ((bj.ext hG zZ).at_ (i:=5) rfl rfl))),fun e_ w_ zZ zY zX=>aT rfl (aa (cD.move (((zY 1 rfl).trans s1_e1)))),fun e_ w_ zZ zY zX=>aT rfl (aa (cD.index (j:=i) az ((zX 24 rfl)) ((zX 25 rfl)) rfl (by omega) (by omega))),fun e_ w_ zZ zY zX=>aT rfl (af (al (i:=i) aP (zX 26 rfl) (cw.ext hMu zZ) (by omega))),fun e_ w_ zZ zY zX=>aT rfl (aa (cD.index (j:=i) az ((zX 4 rfl)) ((zX 5 rfl)) rfl (by omega) (by omega))),trivial⟩ (fun _=>cD.move s2_e1) (fun _=>rfl) (iy rfl) ?_;intro e2 w4 hx2 ho2 hf2 hp2;replace hG:=bj.ext hG hx2;replace hMm:=cw.ext hMm hx2;replace hMu:=cw.ext hMu hx2;replace hMv:=cw.ext hMv hx2;replace hX:=aH hX hx2;have s0_e2:e2 0= .pointer (some ⟨gw,0,none⟩):=(ho2 0 rfl).trans s0_e1;have s1_e2:e2 1= .int .i64 ((i:Nat)):=(ho2 1 rfl).trans s1_e1;have s2_e2:e2 2= .int .i64 ((j:Nat)):=(ho2 2 rfl).trans s2_e1;have s48_e2:e2 48=_:=hf2 10 rfl;have s49_e2:e2 49=_:=hf2 11 rfl;have s57_e2:eZ w4 (e2 57) (ρu j) r:=hf2 19 rfl;have s65_e2:eZ w4 (e2 65) (ρu i) r:=hf2 27 rfl;have s66_e2:e2 66=_:=hf2 28 rfl;obtain ⟨fh2,hH2⟩:=cw.split hMu;refine RL.x rfl rfl (cz (i:=i) (g:=(ρu j)) (n:=r) (f:=fh2) fF s66_e2 rfl (bA s57_e2 w4) hH2 (by omega)) ?_;rintro _ w5 ⟨hk4,hN3⟩;have hMo2:=hMu;have hH03:=hH2;replace hG:=hG.keep hk4 (hG.ne hH03 (by decide));replace hMm:=bO hMm hk4 hH03 nmu;replace hMv:=bO hMv hk4 hH03 (Ne.symm nuv);replace hX:=hX.step hk4 (fun b e=>by subst e;exact (.inl (dA h0u)));refine RL.p rfl rfl (cD.index (j:=j) az s48_e2 s49_e2 rfl (by omega) (by omega)) ?_;refine RL.x rfl rfl (cz (i:=j) (g:=(ρu i)) (n:=r) (f:=(dH fh2 (0 + i*1) [(e2 57)])) fF rfl rfl (bA s65_e2 w5) hN3 (by omega)) ?_;rintro _ w6 ⟨hk5,hN4⟩;have hH04:=hN3;replace hG:=hG.keep hk5 (hG.ne hH04 (by decide));replace hMm:=bO hMm hk5 hH04 nmu;replace hMv:=bO hMv hk5 hH04 (Ne.symm nuv);replace hX:=hX.step hk5 (fun b e=>by subst e;exact (.inl (dA h0u)));have hk6:=hk4.step hk5 (fun b e=> .inl e);have hMu:=eS (i:=i) (j:=j) hMo2 hH2 hk6 hN4 (bA s57_e2 w4) (bA s65_e2 w5) (by omega) (by omega);replace dmu:=pg (i:=i) (j:=j) dmu (by omega) (by omega);replace duv:=ge (i:=i) (j:=j) duv (by omega) (by omega);refine RL.nil ?_;refine ab ?_;refine RL.p rfl rfl (cD.move s0_e2) ?_;refine RL.p rfl rfl (cD.nilCheck rfl) ?_;refine RL.p rfl rfl (cD.fieldAddr jt rfl) ?_;refine RL.p rfl rfl (cD.fieldAddr an rfl) ?_;refine RL.p rfl rfl (cD.load aF rfl (hG.at_ (i:=8) rfl rfl)) ?_;refine RL.p rfl rfl (cD.len az rfl) ?_;refine RL.p rfl rfl (cD.move rfl) ?_;refine RL.nil ?_;refine WP.block ?_;refine WP.loop (fun mz ez uz=>∃a:Nat,(mz=r - a)∧(ez 1= .int .i64 ((i:Nat)))∧(ez 2= .int .i64 ((j:Nat)))∧(ez 72= .slice (some ⟨hv,0,none⟩) (r) (kv))∧(ez 73= .int .i64 ((r:Nat)))∧(ez 74= .int .i64 ((a:Nat)))∧(a≤r)∧(Keeps (dl B w) w uz)∧(bj uz gw 74 9 (bX [.int .i64 ((r:Nat)),.int .i64 ((c:Nat)),.slice (some ⟨hm,0,none⟩) (r) (km),.int .i64 ((r:Nat)),.int .i64 ((r:Nat)),.slice (some ⟨hu,0,none⟩) (r) (ku),.int .i64 ((r:Nat)),.int .i64 ((r:Nat)),.slice (some ⟨hv,0,none⟩) (r) (kv)]))∧(cw uz B hm km r c (fp ρm i j) (cn M i j) b)∧(cw uz B hu ku r r (fp ρu i j) (cn U i j) b)∧(cw uz B hv kv r r ρv (dV V (cQ V i j) a) b)) (r - 0) ?_ ?_
 · exact ⟨0,rfl,s1_e2,s2_e2,rfl,rfl,rfl,(by omega),hX,hG,hMm,hMu,bl hMv (ew V (cQ V i j)).symm⟩
 rintro m1 e3 w7 ⟨a,hm1,s1_e3,s2_e3,s72_e3,s73_e3,s74_e3,ha,hX1,hG,hMm,hMu,hMv⟩;refine ab ?_;refine RL.p rfl rfl (cD.lss s74_e3 s73_e3) ?_;refine RL.nil ?_;refine WP.seq ?_;refine ae (((a:Nat):Int)<((r:Nat):Int)) rfl (fun c75=> ?_) (fun c75=> ?_)
 ·
  refine WP.skip ?_;refine oL.norm ?_;refine WP.seq ?_;refine WP.block ?_;refine ab ?_;refine RL.p rfl rfl (cD.index (j:=a) az s72_e3 s74_e3 rfl (by omega) (by omega)) ?_;refine RL.x rfl rfl (al (i:=a) aP rfl hMv (by omega)) ?_;rintro v1 _ ⟨rfl,q1⟩;refine RL.p rfl rfl (cD.assign rfl) ?_;refine RL.nil ?_;refine vQ ak 13 [_,_,_,_,_,_,_,_,_,_,_,_,_] (Apart.of (fun _ _ _=>False) [] rfl ⟨(fun h=>by cases h),(fun h=>by cases h),(fun h=>by cases h),(fun h=>by cases h),(fun h=>by cases h),(fun h=>by cases h),(fun h=>by cases h),(fun h=>by cases h),(fun h=>by cases h),(fun h=>by cases h),(fun h=>by cases h),(fun h=>by cases h),(fun h=>by cases h),trivial⟩) [2,3] [v1,.int .i64 ((j:Nat))] (by kernel_rfl) (by kernel_rfl) (by kernel_rfl) rfl ⟨ac _,ac _,ac _,ac _,ac _,ac _,ac _,bP _ _,ac _,ac _,ac _,bP _ _,ac _,trivial⟩ ⟨fun e_ w_ zZ zY zX=>aT rfl (aa (cD.move (((zY 7 rfl).trans rfl)))),fun e_ w_ zZ zY zX=>aT rfl (aa (cD.move (((zY 1 rfl).trans s1_e3)))),fun e_ w_ zZ zY zX=>aT rfl (aa (cD.move (((zY 7 rfl).trans rfl)))),fun e_ w_ zZ zY zX=>aT rfl (aa (cD.move (((zY 2 rfl).trans s2_e3)))),fun e_ w_ zZ zY zX=>aT rfl (aa (cD.move (((zY 7 rfl).trans rfl)))),fun e_ w_ zZ zY zX=>aT rfl (aa (cD.move (((zY 2 rfl).trans s2_e3)))),fun e_ w_ zZ zY zX=>aT rfl (aa (aq (j:=j) bg (bA q1 w_) (zX 4 rfl) (zX 5 rfl) (by omega) (by omega))),fun e_ w_ zZ zY zX=>aT rfl (af (aY (j:=j) au (zX 6 rfl) (cw.row (cw.ext hMv zZ) (by omega)) (by omega))),fun e_ w_ zZ zY zX=>aT rfl (aa (cD.move (((zY 7 rfl).trans rfl)))),fun e_ w_ zZ zY zX=>aT rfl (aa (cD.move (((zY 1 rfl).trans s1_e3)))),fun e_ w_ zZ zY zX=>aT rfl (aa (aq (j:=i) bg (bA q1 w_) (zX 8 rfl) (zX 9 rfl) (by omega) (by omega))),fun e_ w_ zZ zY zX=>aT rfl (af (aY (j:=i) au (zX 10 rfl) (cw.row (cw.ext hMv zZ) (by omega)) (by omega))),fun e_ w_ zZ zY zX=>aT rfl (aa (aq (j:=i) bg (bA q1 w_) (zX 0 rfl) (zX 1 rfl) (by omega) (by omega))),trivial⟩ ⟨⟨rfl,⟨_,rfl,fun w_ e_ zY=>cD.move (((zY 7 rfl).trans rfl))⟩,fun _=>rfl,iy rfl⟩,⟨rfl,⟨_,rfl,fun w_ e_ zY=>cD.move (((zY 2 rfl).trans s2_e3))⟩,fun _=>rfl,iy rfl⟩,trivial⟩ rfl ?_;intro e4 w8 hx3 ho3 hf3 hp3;replace hG:=bj.ext hG hx3;replace hMm:=cw.ext hMm hx3;replace hMu:=cw.ext hMu hx3;replace hMv:=cw.ext hMv hx3;replace q1:=eZ.ext q1 hx3;replace hX1:=aH hX1 hx3;have s1_e4:e4 1= .int .i64 ((i:Nat)):=(ho3 1 rfl).trans s1_e3;have s2_e4:e4 2= .int .i64 ((j:Nat)):=(ho3 2 rfl).trans s2_e3;have s72_e4:e4 72= .slice (some ⟨hv,0,none⟩) (r) (kv):=(ho3 72 rfl).trans s72_e3;have s73_e4:e4 73= .int .i64 ((r:Nat)):=(ho3 73 rfl).trans s73_e3;have s74_e4:e4 74= .int .i64 ((a:Nat)):=(ho3 74 rfl).trans s74_e3;have s80_e4:e4 80=_:=hf3 2 rfl;have s81_e4:e4 81=_:=hf3 3 rfl;have s85_e4:am w8 (e4 85) ((dV V (cQ V i j) a) a j) b:=hf3 7 rfl;have s89_e4:am w8 (e4 89) ((dV V (cQ V i j) a) a i) b:=hf3 11 rfl;have s90_e4:e4 90=_:=hf3 12 rfl;refine RL.x rfl rfl (bH (i:=a) (j:=i) bp s90_e4 rfl s85_e4 hMv (by omega) (by omega)) ?_;rintro _ w9 ⟨hk7,hN5⟩;have hR1:=cw.row (i:=a) hMv (by omega);replace hG:=aU hG hk7 hR1 (by decide);replace hMm:=bc hMm hk7 hR1 (fun ii hii=>dmv ii a hii (by omega));replace hMu:=bc hMu hk7 hR1 (fun ii hii=>duv ii a hii (by omega));replace s89_e4:=bQ s89_e4 hk7 hR1;replace hX1:=hX1.step hk7 (fun b e=>by subst e;exact (.inl (cV (i:=a) h0v (by omega))));replace hMv:=hN5;clear hR1;refine RL.p rfl rfl (aq (j:=j) bg (bA q1 w9) s80_e4 s81_e4 (by omega) (by omega)) ?_;refine RL.x rfl rfl (bH (i:=a) (j:=j) bp rfl rfl s89_e4 hMv (by omega) (by omega)) ?_;rintro _ w10 ⟨hk8,hN6⟩;have hR2:=cw.row (i:=a) hMv (by omega);replace hG:=aU hG hk8 hR2 (by decide);replace hMm:=bc hMm hk8 hR2 (fun ii hii=>dmv ii a hii (by omega));replace hMu:=bc hMu hk8 hR2 (fun ii hii=>duv ii a hii (by omega));replace hX1:=hX1.step hk8 (fun b e=>by subst e;exact (.inl (cV (i:=a) h0v (by omega))));replace hMv:=hN6;clear hR2;refine RL.nil ?_;refine iF.norm ?_;refine oL.norm ?_;refine WP.region ?_;refine RL.p rfl rfl (cD.add (c:=((a + 1:Nat):Int)) s74_e4 rfl (bS (by omega))) ?_;refine RL.p rfl rfl (cD.move rfl) ?_;refine RL.nil ?_;refine oL.norm ⟨_,(by omega),a + 1,rfl,s1_e4,s2_e4,s72_e4,s73_e4,rfl,(by omega),hX1,hG,hMm,hMu,bl hMv (kB (fun h=>by rw [di];simp [cQ]) (by rw [di];by_cases e:j=i<;>simp [cQ,e]) (fun c h1 h2=>by simp [cQ,h1,h2]))⟩
 ·
  refine WP.exit ?_;refine oL.exit ?_;refine oL.exit ?_;refine iF.same ?_;refine ⟨.tuple #[],zw.zero,_,rfl,hX1,?_⟩;dsimp only;exact ⟨hm,hu,hv,km,ku,kv,_,_,_,hBg,hG,hMm,hMu,(cw.congr hMv (fun a c ha hc=>fo V _ c (by omega))),nmu,nmv,nuv,dmu,dmv,duv⟩
set_option maxRecDepth 10000 in
theorem tw (w:World) (B gw r c:Nat) (M U V:Nat→Nat→Int) (b:Nat) (i:Nat) (hW:ci 74 w B gw r c M U V b) (hi:i<r) (hc:0<c) (hb:b + 4≤bo):Calls Tryz.prog 85 #[.pointer (some ⟨gw,0,none⟩),.int .i64 (i:Nat)] w (kW (dl B w) w fun v w'=>ci 74 w' B gw r c (de M i) (de U i) (ek V i) b):=by
 have hLIM:bo=562949953421312:=rfl;obtain ⟨hm,hu,hv,km,ku,kv,ρm,ρu,ρv,hBg,hG,hMm,hMu,hMv,nmu,nmv,nuv,dmu,dmv,duv⟩:=hW;have hdm:=cw.dlim hMm;have hcm:=cw.clim hMm;have hdu:=cw.dlim hMu;have hdv:=cw.dlim hMv;have h0m:=hMm;have h0u:=hMu;have h0v:=hMv;have h0G:=hG;have hbM:=fun a (ha:a<c)=>cw.bd hMm hi ha
 have hbU:=fun a (ha:a<r)=>cw.bd hMu hi ha
 refine ah (N:=95) (rs:= #[]) Tryz.func85 rfl rfl rfl (Nat.le_of_ble_eq_true rfl) ?_;have hX:Keeps (dl B w) w w:=Keeps.refl _ w;refine ab ?_;refine RL.x rfl rfl (cZ.call pb (aJ rfl) (vM (-2) (2) _ (by decide) (by decide) (by decide))) ?_;rintro v1 w1 ⟨hx1,q1⟩;replace hG:=bj.ext hG hx1;replace hMm:=cw.ext hMm hx1;replace hMu:=cw.ext hMu hx1;replace hMv:=cw.ext hMv hx1;replace hX:=aH hX hx1;refine RL.x rfl rfl (cZ.alloc [.bool (false),.slice (none) (0) (0)] bV rfl) ?_;rintro _ w2 ⟨g1,rfl,hge1,hx2,hA1⟩;have ne1:gw≠g1:=Nat.ne_of_lt (Nat.lt_of_lt_of_le hG.lt hge1);have ne2:∀ii,ii<r→ρm ii≠g1:=fun ii hi=>Nat.ne_of_lt (Nat.lt_of_lt_of_le (cw.rowlt hMm hi) hge1)
 have ne4:∀ii,ii<r→ρu ii≠g1:=fun ii hi=>Nat.ne_of_lt (Nat.lt_of_lt_of_le (cw.rowlt hMu hi) hge1)
 have ne6:∀ii,ii<r→ρv ii≠g1:=fun ii hi=>Nat.ne_of_lt (Nat.lt_of_lt_of_le (cw.rowlt hMv hi) hge1)
 have hbs1:w.heap.size≤g1:=Nat.le_trans hX.size hge1;replace hG:=bj.ext hG hx2;replace hMm:=cw.ext hMm hx2;replace hMu:=cw.ext hMu hx2;replace hMv:=cw.ext hMv hx2;replace q1:=am.ext q1 hx2;replace hX:=aH hX hx2;obtain ⟨ca1,cb1,hq1,ho1,ho2⟩:=am.cells q1;have qi1:am w2 (.agg #[ca1,cb1]) (-2) 2:=hq1▸q1;refine RL.x rfl rfl (cZ.store [ca1,cb1] bp rfl hq1 rfl hA1 (Nat.le_of_ble_eq_true rfl) (bN ho1 ho2)) ?_;rintro _ w3 ⟨hk1,hnew⟩;replace hMm:=dU hMm hk1 hA1 ne2;replace hMu:=dU hMu hk1 hA1 ne4;replace hMv:=dU hMv hk1 hA1 ne6;replace hG:=hG.keep hk1 ne1;replace qi1:=ai qi1 hk1 hA1 (by decide);replace hX:=hX.step hk1 (fun b e=>by subst e;exact .inr hbs1);replace hA1:=hnew.lit [ca1,cb1] rfl;clear hnew;refine RL.nil ?_;have hXr:=hX;have hBw:B≤w.heap.size:=Nat.le_trans hBg (Nat.le_of_lt (h0G.lt));have hro_m:=fun ii (hi:ii<r)=>cw.rowlt hMm hi
 have hro_u:=fun ii (hi:ii<r)=>cw.rowlt hMu hi
 have hro_v:=fun ii (hi:ii<r)=>cw.rowlt hMv hi
 have hlt_g1:=hA1.lt;refine gQ ak 31 [_,_,_,_,_,_,_,_,_,_,_,_,_,_,_,_,_,_,_,_,fun v Aa=>dQ Aa v w3.heap.size c (M i) b,_,_,_,_,_,_,_,_,fun v Aa=>dQ Aa v w3.heap.size r (U i) b,_] (Apart.of (fun v _ b=>b=ef v) [(20,29)] rfl ⟨(fun h=>by cases h),(fun h=>by cases h),(fun h=>by cases h),(fun h=>by cases h),(fun h=>by cases h),(fun h=>by cases h),(fun h=>by cases h),(fun h=>by cases h),(fun h=>by cases h),(fun h=>by cases h),(fun h=>by cases h),(fun h=>by cases h),(fun h=>by cases h),(fun h=>by cases h),(fun h=>by cases h),(fun h=>by cases h),(fun h=>by cases h),(fun h=>by cases h),(fun h=>by cases h),(fun h=>by cases h),(fun _=>iV _ _ _ _),(fun h=>by cases h),(fun h=>by cases h),(fun h=>by cases h),(fun h=>by cases h),(fun h=>by cases h),(fun h=>by cases h),(fun h=>by cases h),(fun h=>by cases h),(fun _=>iV _ _ _ _),(fun h=>by cases h),trivial⟩) 11 (vk:= .int .i64 ((i:Nat))) rfl rfl rfl (by kernel_rfl) (by kernel_rfl) (by kernel_rfl) (by kernel_rfl) rfl rfl ⟨ac _,ac _,ac _,ac _,ac _,ac _,ac _,ac _,ac _,ac _,ac _,ac _,ac _,ac _,ac _,ac _,ac _,ac _,ac _,co _ _,eO _ _ _ _,ac _,ac _,ac _,ac _,ac _,ac _,ac _,co _ _,eO _ _ _ _,ac _,trivial⟩ ⟨fun e_ w_ zZ zY zX=>aT rfl (aa (cD.move (((zY 0 rfl).trans rfl)))),fun e_ w_ zZ zY zX=>aT rfl (aa (cD.nilCheck ((zX 0 rfl)))),fun e_ w_ zZ zY zX=>aT rfl (aa (cD.fieldAddr cH ((zX 1 rfl)))),fun e_ w_ zZ zY zX=>aT rfl (aa (cD.fieldAddr an ((zX 2 rfl)))),fun e_ w_ zZ zY zX=>aT rfl (aa (cD.load aF ((zX 3 rfl)) ((bj.ext hG zZ).at_ (i:=2) rfl rfl))),fun e_ w_ zZ zY zX=>aT rfl (aa (cD.move (((zY 1 rfl).trans rfl)))),fun e_ w_ zZ zY zX=>aT rfl (aa (cD.move (((zY 0 rfl).trans rfl)))),fun e_ w_ zZ zY zX=>aT rfl (aa (cD.nilCheck ((zX 6 rfl)))),fun e_ w_ zZ zY zX=>aT rfl (aa (cD.fieldAddr dM ((zX 7 rfl)))),fun e_ w_ zZ zY zX=>aT rfl (aa (cD.fieldAddr an ((zX 8 rfl)))),fun e_ w_ zZ zY zX=>aT rfl (aa (cD.load aF ((zX 9 rfl)) ((bj.ext hG zZ).at_ (i:=5) rfl rfl))),fun e_ w_ zZ zY zX=>aT rfl (aa (cD.move (((zY 1 rfl).trans rfl)))),fun e_ w_ zZ zY zX=>aT rfl (aa (cD.move (((zY 0 rfl).trans rfl)))),fun e_ w_ zZ zY zX=>aT rfl (aa (cD.nilCheck ((zX 12 rfl)))),fun e_ w_ zZ zY zX=>aT rfl (aa (cD.fieldAddr cH ((zX 13 rfl)))),fun e_ w_ zZ zY zX=>aT rfl (aa (cD.fieldAddr an ((zX 14 rfl)))),fun e_ w_ zZ zY zX=>aT rfl (aa (cD.load aF ((zX 15 rfl)) ((bj.ext hG zZ).at_ (i:=2) rfl rfl))),fun e_ w_ zZ zY zX=>aT rfl (aa (cD.move (((zY 1 rfl).trans rfl)))),fun e_ w_ zZ zY zX=>aT rfl (aa (cD.index (j:=i) az ((zX 16 rfl)) ((zX 17 rfl)) rfl (by omega) (by omega))),fun e_ w_ zZ zY zX=>aT rfl (af (al (i:=i) aP (zX 18 rfl) (cw.ext hMm zZ) (by omega))),fun e_ w_ zZ zY zX=>cZ.mono (cZ.call rT (aJ rfl) (pl _ _ _ _ _ (eZ.rowV (w':=w_) (zX 19 rfl) (cw.row (i:=i) (cw.ext hMm zZ) (by omega))) (by omega))) fun v Ab hv=>⟨hv.1,(by obtain ⟨g,h1,h2,h3⟩:=hv.2;exact ⟨g,h1,Nat.le_trans zZ.size h2,h3⟩),eg fun b hb=>hb▸(by obtain ⟨g,h1,h2,h3⟩:=hv.2;rw [eQ h1];exact h2)⟩,fun e_ w_ zZ zY zX=>aT rfl (aa (cD.move (((zY 0 rfl).trans rfl)))),fun e_ w_ zZ zY zX=>aT rfl (aa (cD.nilCheck ((zX 21 rfl)))),fun e_ w_ zZ zY zX=>aT rfl (aa (cD.fieldAddr dM ((zX 22 rfl)))),fun e_ w_ zZ zY zX=>aT rfl (aa (cD.fieldAddr an ((zX 23 rfl)))),fun e_ w_ zZ zY zX=>aT rfl (aa (cD.load aF ((zX 24 rfl)) ((bj.ext hG zZ).at_ (i:=5) rfl rfl))),fun e_ w_ zZ zY zX=>aT rfl (aa (cD.move (((zY 1 rfl).trans rfl)))),fun e_ w_ zZ zY zX=>aT rfl (aa (cD.index (j:=i) az ((zX 25 rfl)) ((zX 26 rfl)) rfl (by omega) (by omega))),fun e_ w_ zZ zY zX=>aT rfl (af (al (i:=i) aP (zX 27 rfl) (cw.ext hMu zZ) (by omega))),fun e_ w_ zZ zY zX=>cZ.mono (cZ.call rT (aJ rfl) (pl _ _ _ _ _ (eZ.rowV (w':=w_) (zX 28 rfl) (cw.row (i:=i) (cw.ext hMu zZ) (by omega))) (by omega))) fun v Ab hv=>⟨hv.1,(by obtain ⟨g,h1,h2,h3⟩:=hv.2;exact ⟨g,h1,Nat.le_trans zZ.size h2,h3⟩),eg fun b hb=>hb▸(by obtain ⟨g,h1,h2,h3⟩:=hv.2;rw [eQ h1];exact h2)⟩,fun e_ w_ zZ zY zX=>aT rfl (aa (cD.index (j:=i) az ((zX 4 rfl)) ((zX 5 rfl)) rfl (by omega) (by omega))),trivial⟩ (fun _=>cD.move rfl) (fun _=>rfl) (iy rfl) ?_;intro e1 w4 hx3 ho3 hf1 hp1;replace hG:=bj.ext hG hx3;replace hA1:=bj.ext hA1 hx3;replace qi1:=am.ext qi1 hx3;replace hMm:=cw.ext hMm hx3;replace hMu:=cw.ext hMu hx3;replace hMv:=cw.ext hMv hx3;replace hX:=aH hX hx3;have s0_e1:e1 0= .pointer (some ⟨gw,0,none⟩):=(ho3 0 rfl).trans rfl;have s1_e1:e1 1= .int .i64 ((i:Nat)):=(ho3 1 rfl).trans rfl;have s4_e1:e1 4= .pointer (some ⟨g1,0,none⟩):=(ho3 4 rfl).trans rfl;have s18_e1:e1 18=_:=hf1 10 rfl;have s19_e1:e1 19=_:=hf1 11 rfl;have s28_e1:dQ w4 (e1 28) w3.heap.size c (M i) b:=hf1 20 rfl;have s37_e1:dQ w4 (e1 37) w3.heap.size r (U i) b:=hf1 29 rfl;have s38_e1:e1 38=_:=hf1 30 rfl;obtain ⟨gc1,hSc1,hBc1,hRc1⟩:=s28_e1;obtain ⟨gc2,hSc2,hBc2,hRc2⟩:=s37_e1;have ne8:gc1≠gc2:=by
   have hd:=hp1 20 29 rfl rfl rfl rfl (ef (e1 28)) rfl;intro he
   apply hd
   show ef (e1 28)=ef (e1 37);rw [eQ hSc1,eQ hSc2];exact he
 have ne9:∀ii,ii<r→ρm ii≠gc1:=fun ii hi=>Nat.ne_of_lt (Nat.lt_of_lt_of_le (hro_m ii hi) hBc1)
 have ne10:∀ii,ii<r→ρu ii≠gc1:=fun ii hi=>Nat.ne_of_lt (Nat.lt_of_lt_of_le (hro_u ii hi) hBc1)
 have ne11:∀ii,ii<r→ρv ii≠gc1:=fun ii hi=>Nat.ne_of_lt (Nat.lt_of_lt_of_le (hro_v ii hi) hBc1)
 have hbs2:w.heap.size≤gc1:=Nat.le_trans hXr.size hBc1;have hbB1:B≤gc1:=Nat.le_trans hBw hbs2;have ne12:g1≠gc1:=Nat.ne_of_lt (Nat.lt_of_lt_of_le hlt_g1 hBc1);have ne13:∀ii,ii<r→ρm ii≠gc2:=fun ii hi=>Nat.ne_of_lt (Nat.lt_of_lt_of_le (hro_m ii hi) hBc2)
 have ne14:∀ii,ii<r→ρu ii≠gc2:=fun ii hi=>Nat.ne_of_lt (Nat.lt_of_lt_of_le (hro_u ii hi) hBc2)
 have ne15:∀ii,ii<r→ρv ii≠gc2:=fun ii hi=>Nat.ne_of_lt (Nat.lt_of_lt_of_le (hro_v ii hi) hBc2)
 have hbs3:w.heap.size≤gc2:=Nat.le_trans hXr.size hBc2;have hbB2:B≤gc2:=Nat.le_trans hBw hbs3;obtain ⟨fh1,hH1⟩:=cw.split hMm;refine RL.x rfl rfl (cz (i:=i) (g:=gc1) (n:=c) (f:=fh1) fF s38_e1 rfl (bA hSc1 w4) hH1 (by omega)) ?_;rintro _ w5 ⟨hk2,hN1⟩;have hMo1:=hMm;have hH01:=hH1;have hRo1:=hRc1;replace hG:=hG.keep hk2 (hG.ne hH01 (by decide));replace hA1:=hA1.keep hk2 (hA1.ne hH01 (by decide));replace qi1:=ai qi1 hk2 hH01 (by decide);replace hMu:=bO hMu hk2 hH01 (Ne.symm nmu);replace hMv:=bO hMv hk2 hH01 (Ne.symm nmv);replace hRc2:=oe hRc2 hk2 hH01;replace hX:=hX.step hk2 (fun b e=>by subst e;exact (.inl (dA h0m)));replace hMm:=nU hMo1 hH1 hk2 hN1 (bA hSc1 w4) hRo1 hbB1 ne9 (by omega);replace dmu:=lL (i:=i) dmu ne10;replace dmv:=lL (i:=i) dmv ne11;have ne17:=mN (i:=i) ne2 (Ne.symm ne12);have ne18:=mN (i:=i) ne13 ne8;refine RL.p rfl rfl (cD.index (j:=i) az s18_e1 s19_e1 rfl (by omega) (by omega)) ?_;obtain ⟨fh2,hH2⟩:=cw.split hMu;refine RL.x rfl rfl (cz (i:=i) (g:=gc2) (n:=r) (f:=fh2) fF rfl rfl (bA hSc2 w5) hH2 (by omega)) ?_;rintro _ w6 ⟨hk3,hN2⟩;have hMo2:=hMu;have hH02:=hH2;have hRo2:=hRc2;replace hG:=hG.keep hk3 (hG.ne hH02 (by decide));replace hA1:=hA1.keep hk3 (hA1.ne hH02 (by decide));replace qi1:=ai qi1 hk3 hH02 (by decide);replace hMm:=bO hMm hk3 hH02 nmu;replace hMv:=bO hMv hk3 hH02 (Ne.symm nuv);replace hX:=hX.step hk3 (fun b e=>by subst e;exact (.inl (dA h0u)));replace hMu:=nU hMo2 hH2 hk3 hN2 (bA hSc2 w5) hRo2 hbB2 ne14 (by omega);replace dmu:=uu (i:=i) dmu ne18;replace duv:=lL (i:=i) duv ne15;refine RL.nil ?_;refine aE ak 17 [_,_,_,_,_,_,_,_,_,_,_,_,_,_,_,_,_] rfl rfl (fun e_ w_ zZ zY=>⟨fun _=>aa (cD.move ((zY 0 rfl s0_e1))),fun zX=>aa (cD.nilCheck ((zX 0 rfl))),fun zX=>aa (cD.fieldAddr cH ((zX 1 rfl))),fun zX=>aa (cD.fieldAddr an ((zX 2 rfl))),fun zX=>aa (cD.load aF ((zX 3 rfl)) ((bj.ext hG zZ).at_ (i:=2) rfl rfl)),fun _=>aa (cD.move ((zY 1 rfl s1_e1))),fun zX=>aa (cD.index (j:=i) az ((zX 4 rfl)) ((zX 5 rfl)) rfl (by omega) (by omega)),fun zX=>af (al (i:=i) aP (zX 6 rfl) (cw.ext hMm zZ) (by omega)),fun _=>aa (cD.move ((zY 0 rfl s0_e1))),fun zX=>aa (cD.nilCheck ((zX 8 rfl))),fun zX=>aa (cD.fieldAddr cH ((zX 9 rfl))),fun zX=>aa (cD.fieldAddr an ((zX 10 rfl))),fun zX=>aa (cD.load aF ((zX 11 rfl)) ((bj.ext hG zZ).at_ (i:=2) rfl rfl)),fun _=>aa (cD.move ((zY 1 rfl s1_e1))),fun zX=>aa (cD.index (j:=i) az ((zX 12 rfl)) ((zX 13 rfl)) rfl (by omega) (by omega)),fun zX=>af (al (i:=i) aP (zX 14 rfl) (cw.ext hMm zZ) (by omega)),fun _=>aa (ag [ca1,cb1] au ((zY 4 rfl s4_e1)) ((bj.ext hA1 zZ).cells 0 _ rfl rfl)),trivial⟩) ?_;intro e2 w7 hx4 ho4 hf2;replace hG:=bj.ext hG hx4;replace hA1:=bj.ext hA1 hx4;replace qi1:=am.ext qi1 hx4;replace hMm:=cw.ext hMm hx4;replace hMu:=cw.ext hMu hx4;replace hMv:=cw.ext hMv hx4;replace hX:=aH hX hx4;have s0_e2:=ho4 0 rfl s0_e1;have s1_e2:=ho4 1 rfl s1_e1;have s4_e2:=ho4 4 rfl s4_e1;have s47_e2:eZ w7 (e2 47) ((cm ρm i gc1) i) c:=hf2 7 rfl;have s55_e2:eZ w7 (e2 55) ((cm ρm i gc1) i) c:=hf2 15 rfl;have s56_e2:e2 56=_:=hf2 16 rfl;refine RL.x rfl rfl (cU mU (cN rfl rfl s56_e2) (nB _ _ _ _ _ _ _ _ _ _ _ _ (bA s47_e2 w7) (bA s55_e2 w7) qi1 (cw.row (i:=i) hMm (by omega)) (cw.row (i:=i) hMm (by omega)) (fun _ _ _=>rfl) (by omega) (fun a ha=>nn (hbM a (by omega))))) ?_;rintro _ w9 ⟨hk4,hN3⟩;have hR1:=cw.row (i:=i) hMm (by omega);replace hG:=aU hG hk4 hR1 (by decide);replace hA1:=hA1.keep hk4 (Ne.symm (ne17 i (by omega)));replace qi1:=bQ qi1 hk4 hR1;replace hMu:=bc hMu hk4 hR1 (fun ii hii=>Ne.symm (dmu i ii (by omega) hii));replace hMv:=bc hMv hk4 hR1 (fun ii hii=>Ne.symm (dmv i ii (by omega) hii));replace hX:=hX.step hk4 (fun b e=>by subst e;exact (.inr (by rw [bi];exact hbs2)));replace hMm:=cw.setRow (i:=i) hMm (by omega) hk4 hN3;refine RL.nil ?_;refine aE ak 17 [_,_,_,_,_,_,_,_,_,_,_,_,_,_,_,_,_] rfl rfl (fun e_ w_ zZ zY=>⟨fun _=>aa (cD.move ((zY 0 rfl s0_e2))),fun zX=>aa (cD.nilCheck ((zX 0 rfl))),fun zX=>aa (cD.fieldAddr dM ((zX 1 rfl))),fun zX=>aa (cD.fieldAddr an ((zX 2 rfl))),fun zX=>aa (cD.load aF ((zX 3 rfl)) ((bj.ext hG zZ).at_ (i:=5) rfl rfl)),fun _=>aa (cD.move ((zY 1 rfl s1_e2))),fun zX=>aa (cD.index (j:=i) az ((zX 4 rfl)) ((zX 5 rfl)) rfl (by omega) (by omega)),fun zX=>af (al (i:=i) aP (zX 6 rfl) (cw.ext hMu zZ) (by omega)),fun _=>aa (cD.move ((zY 0 rfl s0_e2))),fun zX=>aa (cD.nilCheck ((zX 8 rfl))),fun zX=>aa (cD.fieldAddr dM ((zX 9 rfl))),fun zX=>aa (cD.fieldAddr an ((zX 10 rfl))),fun zX=>aa (cD.load aF ((zX 11 rfl)) ((bj.ext hG zZ).at_ (i:=5) rfl rfl)),fun _=>aa (cD.move ((zY 1 rfl s1_e2))),fun zX=>aa (cD.index (j:=i) az ((zX 12 rfl)) ((zX 13 rfl)) rfl (by omega) (by omega)),fun zX=>af (al (i:=i) aP (zX 14 rfl) (cw.ext hMu zZ) (by omega)),fun _=>aa (ag [ca1,cb1] au ((zY 4 rfl s4_e2)) ((bj.ext hA1 zZ).cells 0 _ rfl rfl)),trivial⟩) ?_;intro e3 w10 hx6 ho5 hf3;replace hG:=bj.ext hG hx6;replace qi1:=am.ext qi1 hx6;replace hMm:=cw.ext hMm hx6;replace hMu:=cw.ext hMu hx6;replace hMv:=cw.ext hMv hx6;replace hX:=aH hX hx6;have s0_e3:=ho5 0 rfl s0_e2;have s1_e3:=ho5 1 rfl s1_e2;have s65_e3:eZ w10 (e3 65) ((cm ρu i gc2) i) r:=hf3 7 rfl;have s73_e3:eZ w10 (e3 73) ((cm ρu i gc2) i) r:=hf3 15 rfl;have s74_e3:e3 74=_:=hf3 16 rfl;refine RL.x rfl rfl (cU mU (cN rfl rfl s74_e3) (nB _ _ _ _ _ _ _ _ _ _ _ _ (bA s65_e3 w10) (bA s73_e3 w10) qi1 (cw.row (i:=i) hMu (by omega)) (cw.row (i:=i) hMu (by omega)) (fun _ _ _=>rfl) (by omega) (fun a ha=>nn (hbU a (by omega))))) ?_;rintro _ w12 ⟨hk5,hN4⟩;have hR2:=cw.row (i:=i) hMu (by omega);replace hG:=aU hG hk5 hR2 (by decide);replace hMm:=bc hMm hk5 hR2 (fun ii hii=>dmu ii i hii (by omega));replace hMv:=bc hMv hk5 hR2 (fun ii hii=>Ne.symm (duv i ii (by omega) hii));replace hX:=hX.step hk5 (fun b e=>by subst e;exact (.inr (by rw [bi];exact hbs3)));replace hMu:=cw.setRow (i:=i) hMu (by omega) hk5 hN4;refine RL.nil ?_;refine ab ?_;refine RL.p rfl rfl (cD.move s0_e3) ?_;refine RL.p rfl rfl (cD.nilCheck rfl) ?_;refine RL.p rfl rfl (cD.fieldAddr jt rfl) ?_;refine RL.p rfl rfl (cD.fieldAddr an rfl) ?_;refine RL.p rfl rfl (cD.load aF rfl (hG.at_ (i:=8) rfl rfl)) ?_;refine RL.p rfl rfl (cD.len az rfl) ?_;refine RL.p rfl rfl (cD.move rfl) ?_;refine RL.nil ?_;refine WP.block ?_;refine WP.loop (fun mz ez uz=>∃a:Nat,(mz=r - a)∧(ez 1= .int .i64 ((i:Nat)))∧(ez 80= .slice (some ⟨hv,0,none⟩) (r) (kv))∧(ez 81= .int .i64 ((r:Nat)))∧(ez 82= .int .i64 ((a:Nat)))∧(a≤r)∧(Keeps (dl B w) w uz)∧(bj uz gw 74 9 (bX [.int .i64 ((r:Nat)),.int .i64 ((c:Nat)),.slice (some ⟨hm,0,none⟩) (r) (km),.int .i64 ((r:Nat)),.int .i64 ((r:Nat)),.slice (some ⟨hu,0,none⟩) (r) (ku),.int .i64 ((r:Nat)),.int .i64 ((r:Nat)),.slice (some ⟨hv,0,none⟩) (r) (kv)]))∧(cw uz B hm km r c (cm ρm i gc1) (setRow (setRow M i (M i)) i (fun c=>(setRow M i (M i)) i c + (-2)*(setRow M i (M i)) i c)) b)∧(cw uz B hu ku r r (cm ρu i gc2) (setRow (setRow U i (U i)) i (fun c=>(setRow U i (U i)) i c + (-2)*(setRow U i (U i)) i c)) b)∧(cw uz B hv kv r r ρv (dV V (ek V i) a) b)) (r - 0) ?_ ?_
 · exact ⟨0,rfl,s1_e3,rfl,rfl,rfl,(by omega),hX,hG,hMm,hMu,bl hMv (ew V (ek V i)).symm⟩
 rintro m1 e4 w13 ⟨a,hm1,s1_e4,s80_e4,s81_e4,s82_e4,ha,hX1,hG,hMm,hMu,hMv⟩;refine ab ?_;refine RL.p rfl rfl (cD.lss s82_e4 s81_e4) ?_;refine RL.nil ?_;refine WP.seq ?_;refine ae (((a:Nat):Int)<((r:Nat):Int)) rfl (fun c83=> ?_) (fun c83=> ?_)
 ·
  refine WP.skip ?_;refine oL.norm ?_;refine WP.seq ?_;refine WP.block ?_;refine ab ?_;refine RL.p rfl rfl (cD.index (j:=a) az s80_e4 s82_e4 rfl (by omega) (by omega)) ?_;refine RL.x rfl rfl (al (i:=a) aP rfl hMv (by omega)) ?_;rintro v2 _ ⟨rfl,q2⟩;refine RL.p rfl rfl (cD.assign rfl) ?_;refine RL.nil ?_;refine WP.region ?_;refine RL.p rfl rfl (cD.move rfl) ?_;refine RL.p rfl rfl (cD.move s1_e4) ?_;refine RL.p rfl rfl (cD.move rfl) ?_;refine RL.p rfl rfl (cD.move s1_e4) ?_;refine RL.p rfl rfl (aq (j:=i) bg (bA q2 w13) rfl rfl (by omega) (by omega)) ?_;refine RL.x rfl rfl (aY (j:=i) au rfl (cw.row hMv (by omega)) (by omega)) ?_;rintro v3 _ ⟨rfl,q3⟩;refine RL.x rfl rfl (cZ.call lf (aJ rfl) (lD _ _ _ _ q3)) ?_;rintro v4 w14 ⟨hx8,q4⟩;replace hG:=bj.ext hG hx8;replace hMm:=cw.ext hMm hx8;replace hMu:=cw.ext hMu hx8;replace hMv:=cw.ext hMv hx8;replace q2:=eZ.ext q2 hx8;replace hX1:=aH hX1 hx8;refine RL.p rfl rfl (aq (j:=i) bg (bA q2 w14) rfl rfl (by omega) (by omega)) ?_;refine RL.x rfl rfl (bH (i:=a) (j:=i) bp rfl rfl q4 hMv (by omega) (by omega)) ?_;rintro _ w15 ⟨hk6,hN5⟩;have hR3:=cw.row (i:=a) hMv (by omega);replace hG:=aU hG hk6 hR3 (by decide);replace hMm:=bc hMm hk6 hR3 (fun ii hii=>dmv ii a hii (by omega));replace hMu:=bc hMu hk6 hR3 (fun ii hii=>duv ii a hii (by omega));replace hX1:=hX1.step hk6 (fun b e=>by subst e;exact (.inl (cV (i:=a) h0v (by omega))));replace hMv:=hN5;clear hR3;refine RL.nil ?_;refine iF.norm ?_;refine oL.norm ?_;refine WP.region ?_;refine RL.p rfl rfl (cD.add (c:=((a + 1:Nat):Int)) s82_e4 rfl (bS (by omega))) ?_;refine RL.p rfl rfl (cD.move rfl) ?_;refine RL.nil ?_;refine oL.norm ⟨_,(by omega),a + 1,rfl,s1_e4,s80_e4,s81_e4,rfl,(by omega),hX1,hG,hMm,hMu,bl hMv (go (by rw [di];simp [ek]) (fun c hc=>by simp [ek,hc]))⟩
 ·
  refine WP.exit ?_;refine oL.exit ?_;refine oL.exit ?_;refine iF.same ?_;refine ⟨.tuple #[],zw.zero,_,rfl,hX1,?_⟩;dsimp only;exact ⟨hm,hu,hv,km,ku,kv,_,_,_,hBg,hG,(bl hMm (px M i)),(bl hMu (px U i)),(cw.congr hMv (fun a c ha hc=>fo V _ c (by omega))),nmu,nmv,nuv,dmu,dmv,duv⟩
end Go.TL
namespace Go.TL
set_option linter.unusedVariables false
structure WS where
  M:Nat→Nat→Int
  U:Nat→Nat→Int
  V:Nat→Nat→Int
def cX (S:WS) (i j:Nat) (k:Int):WS:=⟨cO S.M i j k,cO S.U i j k,dz S.V i j k⟩
def bK (S:WS) (i j:Nat):WS:=⟨cn S.M i j,cn S.U i j,cQ S.V i j⟩
def fc (S:WS) (i:Nat):WS:=⟨de S.M i,de S.U i,ek S.V i⟩
def sn (S:WS) (p top q:Nat):WS:=if (bK S p top).M top q<0 then fc (bK S p top) top else bK S p top
def el (S:WS) (top q:Nat):Nat→WS
  | 0=>S
  | n + 1=>cX (el S top q n) (top + 1 + n) top (-((el S top q n).M (top + 1 + n) q/(el S top q n).M top q))
def kN (r c b:Nat) (S:WS):Prop:=(∀i j,i<r→j<c→(S.M i j).natAbs<2^b)∧(∀i j,i<r→j<r→(S.U i j).natAbs<2^b)∧∀i j,i<r→j<r→(S.V i j).natAbs<2^b
theorem kd (M:Nat→Nat→Int) (i:Nat):cn M i i=M:=by
  funext a;unfold cn
  split
  · subst_vars;rfl
  · rfl
theorem oJ (M:Nat→Nat→Int) (i:Nat):cQ M i i=M:=by
  funext a c;unfold cQ
  split
  · subst_vars;rfl
  · rfl
theorem jH (S:WS) (i:Nat):bK S i i=S:=by unfold bK;rw [kd,kd,oJ]
theorem iJ {S:WS} {p top q:Nat} (h:(bK S p top).M top q<0):sn S p top q=fc (bK S p top) top:=by unfold sn;rw [if_pos h]
theorem iI {S:WS} {p top q:Nat} (h:¬(bK S p top).M top q<0):sn S p top q=bK S p top:=by unfold sn;rw [if_neg h]
theorem pD {x:Nat→Int} {top n:Nat} (h:x (top + n)=0):bD x top (n + 1)=bD x top n:=by simp only [bD];rw [if_pos h]
theorem pF {x:Nat→Int} {top n:Nat} (h:¬x (top + n)=0) (hc:(bD x top n).1<0∨(x (top + n)).natAbs<(x (bD x top n).1.toNat).natAbs):bD x top (n + 1)=(((top + n:Nat):Int),decide (0≤(bD x top n).1)):=by
  simp only [bD];rw [if_neg h,if_pos hc]
theorem pG {x:Nat→Int} {top n:Nat} (h:¬x (top + n)=0) (hc:¬((bD x top n).1<0∨(x (top + n)).natAbs<(x (bD x top n).1.toNat).natAbs)):bD x top (n + 1)=((bD x top n).1,decide (0≤(bD x top n).1)):=by
  simp only [bD];rw [if_neg h,if_neg hc]
theorem mn (a b:Int):cb a b<0↔a<b:=by unfold cb;split<;>(try split)<;>omega
theorem nG (a b:Nat):cb ((a:Nat):Int) ((b:Nat):Int)<0↔a<b:=by rw [mn];omega
theorem it {x:Nat→Int} {top:Nat}:∀{n:Nat},(bD x top n).1<0→(bD x top n).2=false∧∀i,top≤i→i<top + n→x i=0
  | 0,_=>⟨rfl,fun i h1 h2=>by omega⟩
  | n + 1,h=>by
    by_cases hz:x (top + n)=0
    · rw [pD hz] at h⊢
      obtain ⟨h1,h2⟩:=it h;refine ⟨h1,fun i h3 h4=> ?_⟩
      by_cases e:i=top + n
      · subst e;exact hz
      · exact h2 i h3 (by omega)
    · by_cases hc:(bD x top n).1<0∨(x (top + n)).natAbs<(x (bD x top n).1.toNat).natAbs
      · rw [pF hz hc] at h;simp only at h;omega
      · rw [pG hz hc] at h;simp only at h;omega
theorem eI {x:Nat→Int} {top:Nat}:∀{n:Nat},0≤(bD x top n).1→top≤(bD x top n).1.toNat∧(bD x top n).1.toNat<top + n∧x (bD x top n).1.toNat≠0∧
      (∀i,top≤i→i<top + n→x i≠0→(x (bD x top n).1.toNat).natAbs≤(x i).natAbs)∧((bD x top n).2=false→∀i,top≤i→i<top + n→i≠(bD x top n).1.toNat→x i=0)
  | 0,h=>by simp [bD] at h
  | n + 1,h=>by
    by_cases hz:x (top + n)=0
    · rw [pD hz] at h⊢
      obtain ⟨h1,h2,h3,h4,h5⟩:=eI h;refine ⟨h1,by omega,h3,fun i h6 h7 h8=> ?_,fun h6 i h7 h8 h9=> ?_⟩
      · by_cases e:i=top + n
        · subst e;exact absurd hz h8
        · exact h4 i h6 (by omega) h8
      · by_cases e:i=top + n
        · subst e;exact hz
        · exact h5 h6 i h7 (by omega) h9
    · have hr:=jy x top n
      by_cases hc:(bD x top n).1<0∨(x (top + n)).natAbs<(x (bD x top n).1.toNat).natAbs
      · rw [pF hz hc] at h⊢
        simp only [Int.toNat_natCast];refine ⟨by omega,by omega,hz,fun i h6 h7 h8=> ?_,fun h6 i h7 h8 h9=> ?_⟩
        · by_cases e:i=top + n
          · subst e;exact Nat.le_refl _
          · by_cases hn:(bD x top n).1<0
            · exact absurd ((it hn).2 i h6 (by omega)) h8
            · have h3:=(eI (n:=n) (by omega)).2.2.2.1 i h6 (by omega) h8
              rcases hc with hc | hc
              · exact absurd hc hn
              · omega
        · have hn:(bD x top n).1<0:=by simpa using h6
          exact (it hn).2 i h7 (by omega)
      · rw [pG hz hc] at h⊢
        have hn:0≤(bD x top n).1:=by simpa using h
        obtain ⟨h1,h2,h3,h4,h5⟩:=eI (n:=n) hn;simp only;refine ⟨h1,by omega,h3,fun i h6 h7 h8=> ?_,fun h6=> ?_⟩
        · by_cases e:i=top + n
          · subst e;omega
          · exact h4 i h6 (by omega) h8
        · simp at h6;omega
theorem tH (S:WS) (top q:Nat):∀n a,a≤top→(el S top q n).M a=S.M a
  | 0,a,_=>rfl
  | n + 1,a,h=>by
    have:=tH S top q n a h;simp only [el,cX]
    funext c
    unfold cO
    rw [if_neg (by omega)];exact congrFun this c
theorem ll (M:Nat→Nat→Int) (p top:Nat):cn M p top top=M p:=by
  unfold cn;by_cases e:top=p
  · rw [if_pos e,e]
  · rw [if_neg e,if_pos rfl]
theorem jT (S:WS) (p top q:Nat):(sn S p top q).M top q=((S.M p q).natAbs:Int):=by
  have h0:(bK S p top).M top q=S.M p q:=congrFun (ll S.M p top) q
  by_cases h:(bK S p top).M top q<0
  · rw [iJ h];simp only [fc,de,if_true];rw [h0] at h⊢;omega
  · rw [iI h];rw [h0] at h⊢;omega
theorem tE {r c b i j:Nat} {k:Int} {S:WS} (h:kN r c b (cX S i j k)) (hi:i<r):∀a,a<c→(S.M i a + k*S.M j a).natAbs<2^b:=fun a ha=>by
  have:=h.1 i a hi ha
  simpa [cX,cO] using this
theorem tD {r c b i j:Nat} {k:Int} {S:WS} (h:kN r c b (cX S i j k)) (hi:i<r):∀a,a<r→(S.U i a + k*S.U j a).natAbs<2^b:=fun a ha=>by
  have:=h.2.1 i a hi ha
  simpa [cX,cO] using this
theorem tC {r c b i j:Nat} {k:Int} {S:WS} (h:kN r c b (cX S i j k)) (hj:j<r):∀a,a<r→(S.V a j - k*S.V a i).natAbs<2^b:=fun a ha=>by
  have:=h.2.2 a j ha hj
  simpa [cX,dz] using this
theorem dp (z:Int):z.sign<0↔z<0:=by
  rcases Int.lt_trichotomy z 0 with h | h | h
  · rw [Int.sign_eq_neg_one_of_neg h];omega
  · subst h;simp
  · rw [Int.sign_eq_one_of_pos h];omega
theorem je {T:Nat} {w:World} {B gw r c b:Nat} {S S':WS} (h:ci T w B gw r c S.M S.U S.V b) (e:S=S'):ci T w B gw r c S'.M S'.U S'.V b:=e▸h
theorem ci.bgw {T:Nat} {w:World} {B gw r c b:Nat} {M U V:Nat→Nat→Int} (h:ci T w B gw r c M U V b):B≤gw∧r≤65536∧c≤65536∧b≤bo:=by
  obtain ⟨hm,hu,hv,km,ku,kv,ρm,ρu,ρv,h1,h2,h3,h4,h5,h6⟩:=h;exact ⟨h1,h3.dlim.2.2,h3.clim.1,h3.clim.2⟩
end Go.TL
