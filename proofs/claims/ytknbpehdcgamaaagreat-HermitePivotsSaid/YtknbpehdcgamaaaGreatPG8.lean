/-
  HermitePivots answers true for every input, and its arguments read afterwards as they read before
  Conditions: none.
-/
import Derived.ProofKit
import Derived.OpenShut
import Derived.ChangeOld
import Derived.Lib.SmallJoins
import Derived.Test.YtknbpehdcgamaaaGreatPG7
namespace Go.TL
open Go.RowKit Go.Proofs
set_option linter.unusedVariables false
set_option linter.unusedSimpArgs false
set_option maxRecDepth 10000 in
set_option maxHeartbeats 1600000 in
theorem pb (w:World):Calls Tryz.prog 9 #[] w (cc w fun v w'=>v= .bool true):=by
 have hLIM:bj=562949953421312:=rfl;refine ai (N:=126) (rs:= #[.tmp 0]) Tryz.func9 rfl rfl rfl (Nat.le_of_ble_eq_true rfl) ?_;have hX:aA w w:=aA.refl w;refine ab ?_;refine RL.p rfl rfl (cj.assign rfl) ?_;refine RL.nil ?_;refine ab ?_;refine RL.x rfl rfl (cQ.buildSlice (vs:= [(0,.int .i64 (2)),(1,.int .i64 (4)),(2,.int .i64 (3)),(3,.int .i64 (5))]) [.int .i64 (0)] [.int .i64 (2),.int .i64 (4),.int .i64 (3),.int .i64 (5)] fF me rfl (mr rfl rfl rfl rfl) rfl (by decide) mc rfl) ?_;rintro _ w1 ⟨g1,rfl,hge1,hx1,hA1⟩;replace hX:=aA.trans hX hx1;have hBw1:w.heap.size≤w1.heap.size:=hX.size;refine RL.x rfl rfl (cQ.call gW (cH rfl rfl rfl) (ik (pV hA1) (by decide) (by decide))) ?_;rintro v1 w2 ⟨hx2,q1⟩;replace hX:=aA.trans hX hx2;refine RL.x rfl rfl (cQ.alloc [.int .i64 (0),.int .i64 (0),.slice (none) (0) (0)] cn rfl) ?_;rintro _ w3 ⟨g2,rfl,hge2,hx3,hA2⟩;have hbs2:w.heap.size≤g2:=Nat.le_trans hX.size hge2;replace q1:=cO.ext q1 hx3;replace hX:=aA.trans hX hx3;obtain ⟨gh1,kh1,ρ1,hq1,hM1⟩:=q1;have hd1:=cY.dlim hM1;have hd2:=cY.clim hM1;refine RL.x rfl rfl (cQ.store [.int .i64 ((2:Nat)),.int .i64 ((2:Nat)),.slice (some ⟨gh1,0,none⟩) (2) (kh1)] cR rfl hq1 rfl hA2 (Nat.le_of_ble_eq_true rfl) (cS rfl rfl rfl)) ?_;rintro _ w4 ⟨hk1,hnew⟩;replace hM1:=bk hM1 hk1 hA2 (by decide);replace hX:=hX.step hk1 (fun b e=>by subst e;exact hbs2);replace hA2:=hnew.lit [.int .i64 ((2:Nat)),.int .i64 ((2:Nat)),.slice (some ⟨gh1,0,none⟩) (2) (kh1)] rfl;clear hnew;refine RL.nil ?_;refine ab ?_;refine RL.x rfl rfl (cQ.buildSlice (vs:= [(0,.int .i64 (1)),(1,.int .i64 (1)),(2,.int .i64 (0)),(3,.int .i64 (2))]) [.int .i64 (0)] [.int .i64 (1),.int .i64 (1),.int .i64 (0),.int .i64 (2)] fF me rfl (mr rfl rfl rfl rfl) rfl (by decide) mc rfl) ?_;rintro _ w5 ⟨g3,rfl,hge3,hx4,hA3⟩;replace hA2:=aY.ext hA2 hx4;replace hM1:=cY.ext hM1 hx4;replace hX:=aA.trans hX hx4;have hBw2:w.heap.size≤w5.heap.size:=hX.size;refine RL.x rfl rfl (cQ.call gW (cH rfl rfl rfl) (ik (pV hA3) (by decide) (by decide))) ?_;rintro v2 w6 ⟨hx5,q2⟩;replace hA2:=aY.ext hA2 hx5;replace hM1:=cY.ext hM1 hx5;replace hX:=aA.trans hX hx5;refine RL.x rfl rfl (cQ.alloc [.int .i64 (0),.int .i64 (0),.slice (none) (0) (0)] cn rfl) ?_;rintro _ w7 ⟨g4,rfl,hge4,hx6,hA4⟩;have ne5:g2≠g4:=Nat.ne_of_lt (Nat.lt_of_lt_of_le hA2.lt hge4);have hbs5:w.heap.size≤g4:=Nat.le_trans hX.size hge4;replace hA2:=aY.ext hA2 hx6;replace hM1:=cY.ext hM1 hx6;replace q2:=cO.ext q2 hx6;replace hX:=aA.trans hX hx6;obtain ⟨gh2,kh2,ρ2,hq2,hM2⟩:=q2;have hd3:=cY.dlim hM2;have hd4:=cY.clim hM2;refine RL.x rfl rfl (cQ.store [.int .i64 ((2:Nat)),.int .i64 ((2:Nat)),.slice (some ⟨gh2,0,none⟩) (2) (kh2)] cR rfl hq2 rfl hA4 (Nat.le_of_ble_eq_true rfl) (cS rfl rfl rfl)) ?_;rintro _ w8 ⟨hk2,hnew⟩;replace hM1:=bk hM1 hk2 hA4 (by decide);replace hM2:=bk hM2 hk2 hA4 (by decide);replace hA2:=hA2.keep hk2 ne5;replace hX:=hX.step hk2 (fun b e=>by subst e;exact hbs5);replace hA4:=hnew.lit [.int .i64 ((2:Nat)),.int .i64 ((2:Nat)),.slice (some ⟨gh2,0,none⟩) (2) (kh2)] rfl;clear hnew;refine RL.nil ?_;refine ab ?_;refine RL.p rfl rfl (af [.int .i64 ((2:Nat)),.int .i64 ((2:Nat)),.slice (some ⟨gh1,0,none⟩) (2) (kh1)] aV rfl (hA2.cells 0 _ rfl rfl)) ?_;refine RL.x rfl rfl (cQ.call nA (aL rfl) (ir _ _ 2 2 (aE (2) (4) (3) (5)) _ 4 20000 (cY.matV hM1 (by omega) (by omega)) (by decide) (fun i j _ _=>by simp only [aE];split<;>split<;>decide) (by decide) (by decide) (by decide))) ?_;rintro _ w9 ⟨hx7,kf_1,Sf_1,hHf_1,sa_1,sb_1,sc_1,rfl,hdr_1,hdc_1,hSa_1,hSb_1,hSc_1⟩;replace hA2:=aY.ext hA2 hx7;replace hA4:=aY.ext hA4 hx7;replace hM1:=cY.ext hM1 hx7;replace hM2:=cY.ext hM2 hx7;replace hX:=aA.trans hX hx7;refine RL.x rfl rfl (cQ.alloc [.int .i64 (0),.int .i64 (0),.slice (none) (0) (0),.int .i64 (0),.int .i64 (0),.slice (none) (0) (0),.int .i64 (0),.int .i64 (0),.slice (none) (0) (0)] no rfl) ?_;rintro _ w10 ⟨g5,rfl,hge5,hx8,hA5⟩;have ne9:g2≠g5:=Nat.ne_of_lt (Nat.lt_of_lt_of_le hA2.lt hge5);have ne10:g4≠g5:=Nat.ne_of_lt (Nat.lt_of_lt_of_le hA4.lt hge5);have hbs7:w.heap.size≤g5:=Nat.le_trans hX.size hge5;replace hA2:=aY.ext hA2 hx8;replace hA4:=aY.ext hA4 hx8;replace hM1:=cY.ext hM1 hx8;replace hM2:=cY.ext hM2 hx8;replace hSa_1:=ce.ext hSa_1 hx8;replace hSb_1:=ce.ext hSb_1 hx8;replace hSc_1:=ce.ext hSc_1 hx8;replace hX:=aA.trans hX hx8;refine RL.x rfl rfl (cQ.store [.int .i64 ((2:Nat)),.int .i64 ((2:Nat)),sa_1,.int .i64 ((2:Nat)),.int .i64 ((2:Nat)),sb_1,.int .i64 ((2:Nat)),.int .i64 ((2:Nat)),sc_1] si rfl rfl rfl hA5 (Nat.le_of_ble_eq_true rfl) (tx rfl rfl (hSa_1.one) rfl rfl (hSb_1.one) rfl rfl (hSc_1.one))) ?_;rintro _ w11 ⟨hk3,hnew⟩;replace hM1:=bk hM1 hk3 hA5 (by decide);replace hM2:=bk hM2 hk3 hA5 (by decide);replace hA2:=hA2.keep hk3 ne9;replace hA4:=hA4.keep hk3 ne10;replace hSa_1:=br hSa_1 hk3 hA5 (by decide);replace hSb_1:=br hSb_1 hk3 hA5 (by decide);replace hSc_1:=br hSc_1 hk3 hA5 (by decide);replace hX:=hX.step hk3 (fun b e=>by subst e;exact hbs7);replace hA5:=hnew.lit [.int .i64 ((2:Nat)),.int .i64 ((2:Nat)),sa_1,.int .i64 ((2:Nat)),.int .i64 ((2:Nat)),sb_1,.int .i64 ((2:Nat)),.int .i64 ((2:Nat)),sc_1] rfl;clear hnew;refine RL.nil ?_;refine ab ?_;refine RL.x rfl rfl (cQ.buildSlice (vs:= [(0,.int .i64 (0)),(1,.int .i64 (0)),(2,.int .i64 (0)),(3,.int .i64 (-3))]) [.int .i64 (0)] [.int .i64 (0),.int .i64 (0),.int .i64 (0),.int .i64 (-3)] fF me rfl (mr rfl rfl rfl rfl) rfl (by decide) mc rfl) ?_;rintro _ w12 ⟨g6,rfl,hge6,hx9,hA6⟩;replace hA2:=aY.ext hA2 hx9;replace hA4:=aY.ext hA4 hx9;replace hSa_1:=ce.ext hSa_1 hx9;replace hSb_1:=ce.ext hSb_1 hx9;replace hSc_1:=ce.ext hSc_1 hx9;replace hA5:=aY.ext hA5 hx9;replace hM1:=cY.ext hM1 hx9;replace hM2:=cY.ext hM2 hx9;replace hX:=aA.trans hX hx9;have hBw3:w.heap.size≤w12.heap.size:=hX.size;refine RL.x rfl rfl (cQ.call gW (cH rfl rfl rfl) (ik (pV hA6) (by decide) (by decide))) ?_;rintro v3 w13 ⟨hx10,q3⟩;replace hA2:=aY.ext hA2 hx10;replace hA4:=aY.ext hA4 hx10;replace hSa_1:=ce.ext hSa_1 hx10;replace hSb_1:=ce.ext hSb_1 hx10;replace hSc_1:=ce.ext hSc_1 hx10;replace hA5:=aY.ext hA5 hx10;replace hM1:=cY.ext hM1 hx10;replace hM2:=cY.ext hM2 hx10;replace hX:=aA.trans hX hx10;refine RL.x rfl rfl (cQ.call nA (aL rfl) (ir _ _ 2 2 (aE (0) (0) (0) (-3)) _ 4 20000 (cO.matV q3) (by decide) (fun i j _ _=>by simp only [aE];split<;>split<;>decide) (by decide) (by decide) (by decide))) ?_;rintro _ w14 ⟨hx11,kf_2,Sf_2,hHf_2,sa_2,sb_2,sc_2,rfl,hdr_2,hdc_2,hSa_2,hSb_2,hSc_2⟩;replace hA2:=aY.ext hA2 hx11;replace hA4:=aY.ext hA4 hx11;replace hSa_1:=ce.ext hSa_1 hx11;replace hSb_1:=ce.ext hSb_1 hx11;replace hSc_1:=ce.ext hSc_1 hx11;replace hA5:=aY.ext hA5 hx11;replace hM1:=cY.ext hM1 hx11;replace hM2:=cY.ext hM2 hx11;replace hX:=aA.trans hX hx11;refine RL.x rfl rfl (cQ.alloc [.int .i64 (0),.int .i64 (0),.slice (none) (0) (0),.int .i64 (0),.int .i64 (0),.slice (none) (0) (0),.int .i64 (0),.int .i64 (0),.slice (none) (0) (0)] no rfl) ?_;rintro _ w15 ⟨g7,rfl,hge7,hx12,hA7⟩;have ne22:g2≠g7:=Nat.ne_of_lt (Nat.lt_of_lt_of_le hA2.lt hge7);have ne23:g4≠g7:=Nat.ne_of_lt (Nat.lt_of_lt_of_le hA4.lt hge7);have ne24:g5≠g7:=Nat.ne_of_lt (Nat.lt_of_lt_of_le hA5.lt hge7);have hbs9:w.heap.size≤g7:=Nat.le_trans hX.size hge7;replace hA2:=aY.ext hA2 hx12;replace hA4:=aY.ext hA4 hx12;replace hSa_1:=ce.ext hSa_1 hx12;replace hSb_1:=ce.ext hSb_1 hx12;replace hSc_1:=ce.ext hSc_1 hx12;replace hA5:=aY.ext hA5 hx12;replace hM1:=cY.ext hM1 hx12;replace hM2:=cY.ext hM2 hx12;replace hSa_2:=ce.ext hSa_2 hx12;replace hSb_2:=ce.ext hSb_2 hx12;replace hSc_2:=ce.ext hSc_2 hx12;replace hX:=aA.trans hX hx12;refine RL.x rfl rfl (cQ.store [.int .i64 ((2:Nat)),.int .i64 ((2:Nat)),sa_2,.int .i64 ((2:Nat)),.int .i64 ((2:Nat)),sb_2,.int .i64 ((2:Nat)),.int .i64 ((2:Nat)),sc_2] si rfl rfl rfl hA7 (Nat.le_of_ble_eq_true rfl) (tx rfl rfl (hSa_2.one) rfl rfl (hSb_2.one) rfl rfl (hSc_2.one))) ?_;rintro _ w16 ⟨hk4,hnew⟩;replace hM1:=bk hM1 hk4 hA7 (by decide);replace hM2:=bk hM2 hk4 hA7 (by decide);replace hA2:=hA2.keep hk4 ne22;replace hA4:=hA4.keep hk4 ne23;replace hSa_1:=br hSa_1 hk4 hA7 (by decide);replace hSb_1:=br hSb_1 hk4 hA7 (by decide);replace hSc_1:=br hSc_1 hk4 hA7 (by decide);replace hA5:=hA5.keep hk4 ne24;replace hSa_2:=br hSa_2 hk4 hA7 (by decide);replace hX:=hX.step hk4 (fun b e=>by subst e;exact hbs9);replace hA7:=hnew.lit [.int .i64 ((2:Nat)),.int .i64 ((2:Nat)),sa_2,.int .i64 ((2:Nat)),.int .i64 ((2:Nat)),sb_2,.int .i64 ((2:Nat)),.int .i64 ((2:Nat)),sc_2] rfl;clear hnew;refine RL.nil ?_;refine ab ?_;refine RL.x rfl rfl (cQ.buildSlice (vs:= [(0,.int .i64 (4)),(1,.int .i64 (6))]) [.int .i64 (0)] [.int .i64 (4),.int .i64 (6)] fF me rfl (eQ rfl rfl) rfl (by decide) md rfl) ?_;rintro _ w17 ⟨g8,rfl,hge8,hx13,hA8⟩;replace hA2:=aY.ext hA2 hx13;replace hA4:=aY.ext hA4 hx13;replace hSa_1:=ce.ext hSa_1 hx13;replace hSb_1:=ce.ext hSb_1 hx13;replace hSc_1:=ce.ext hSc_1 hx13;replace hA5:=aY.ext hA5 hx13;replace hSa_2:=ce.ext hSa_2 hx13;replace hA7:=aY.ext hA7 hx13;replace hM1:=cY.ext hM1 hx13;replace hM2:=cY.ext hM2 hx13;replace hX:=aA.trans hX hx13;have hBw4:w.heap.size≤w17.heap.size:=hX.size;refine RL.x rfl rfl (cQ.call gW (cH rfl rfl rfl) (tl (pW hA8) (by decide) (by decide))) ?_;rintro v4 w18 ⟨hx14,q4⟩;replace hA2:=aY.ext hA2 hx14;replace hA4:=aY.ext hA4 hx14;replace hSa_1:=ce.ext hSa_1 hx14;replace hSb_1:=ce.ext hSb_1 hx14;replace hSc_1:=ce.ext hSc_1 hx14;replace hA5:=aY.ext hA5 hx14;replace hSa_2:=ce.ext hSa_2 hx14;replace hA7:=aY.ext hA7 hx14;replace hM1:=cY.ext hM1 hx14;replace hM2:=cY.ext hM2 hx14;replace hX:=aA.trans hX hx14;refine RL.x rfl rfl (cQ.call zG (aL rfl) (vT _ _ 2 1 (wn (4) (6)) _ 4 20000 (cO.matV q4) (by decide) (fun i j _ _=>by simp only [wn];split<;>decide) (by decide) (by decide) (by decide))) ?_;rintro v5 w19 ⟨hx15,kf_3,Sf_3,hHf_3,q5⟩;replace hA2:=aY.ext hA2 hx15;replace hA4:=aY.ext hA4 hx15;replace hSa_1:=ce.ext hSa_1 hx15;replace hSb_1:=ce.ext hSb_1 hx15;replace hSc_1:=ce.ext hSc_1 hx15;replace hA5:=aY.ext hA5 hx15;replace hSa_2:=ce.ext hSa_2 hx15;replace hA7:=aY.ext hA7 hx15;replace hM1:=cY.ext hM1 hx15;replace hM2:=cY.ext hM2 hx15;replace hX:=aA.trans hX hx15;refine RL.x rfl rfl (cQ.alloc [.int .i64 (0),.int .i64 (0),.slice (none) (0) (0)] cn rfl) ?_;rintro _ w20 ⟨g9,rfl,hge9,hx16,hA9⟩;have ne38:g2≠g9:=Nat.ne_of_lt (Nat.lt_of_lt_of_le hA2.lt hge9);have ne39:g4≠g9:=Nat.ne_of_lt (Nat.lt_of_lt_of_le hA4.lt hge9);have ne40:g5≠g9:=Nat.ne_of_lt (Nat.lt_of_lt_of_le hA5.lt hge9);have ne41:g7≠g9:=Nat.ne_of_lt (Nat.lt_of_lt_of_le hA7.lt hge9);have hbs11:w.heap.size≤g9:=Nat.le_trans hX.size hge9;replace hA2:=aY.ext hA2 hx16;replace hA4:=aY.ext hA4 hx16;replace hSa_1:=ce.ext hSa_1 hx16;replace hSb_1:=ce.ext hSb_1 hx16;replace hSc_1:=ce.ext hSc_1 hx16;replace hA5:=aY.ext hA5 hx16;replace hSa_2:=ce.ext hSa_2 hx16;replace hA7:=aY.ext hA7 hx16;replace hM1:=cY.ext hM1 hx16;replace hM2:=cY.ext hM2 hx16;replace q5:=bX.ext q5 hx16;replace hX:=aA.trans hX hx16;obtain ⟨sv1,hq3,hr1,hc1,hS1⟩:=q5.form;refine RL.x rfl rfl (cQ.store [.int .i64 ((kf_3:Nat)),.int .i64 ((1:Nat)),sv1] cR rfl hq3 rfl hA9 (Nat.le_of_ble_eq_true rfl) (cS rfl rfl hS1.one)) ?_;rintro _ w21 ⟨hk5,hnew⟩;replace hM1:=bk hM1 hk5 hA9 (by decide);replace hM2:=bk hM2 hk5 hA9 (by decide);replace hA2:=hA2.keep hk5 ne38;replace hA4:=hA4.keep hk5 ne39;replace hSa_1:=br hSa_1 hk5 hA9 (by decide);replace hSb_1:=br hSb_1 hk5 hA9 (by decide);replace hSc_1:=br hSc_1 hk5 hA9 (by decide);replace hA5:=hA5.keep hk5 ne40;replace hSa_2:=br hSa_2 hk5 hA9 (by decide);replace hA7:=hA7.keep hk5 ne41;replace hS1:=br hS1 hk5 hA9 (by decide);replace hX:=hX.step hk5 (fun b e=>by subst e;exact hbs11);replace hA9:=hnew.lit [.int .i64 ((kf_3:Nat)),.int .i64 ((1:Nat)),sv1] rfl;clear hnew;refine RL.nil ?_;have hBw5:w.heap.size≤w21.heap.size:=hX.size;refine aF am 14 [_,fun v AW=>eH .i64 2 AW v 2 (f2 (3) (6)),fun v AW=>cO AW v w21.heap.size 1 2 (an (3) (6)) 4,_,_,_,fun v AW=>mT AW v 2 2 (cb (aE (1) (1) (0) (2)) 2 ((an (3) (6)) 0)) (bS (aE (1) (1) (0) (2)) 2 ((an (3) (6)) 0) 2) 100,fun v AW=>mT AW v 2 2 (cb (aE (1) (1) (0) (2)) 2 ((an (3) (6)) 0)) (bS (aE (1) (1) (0) (2)) 2 ((an (3) (6)) 0) 2) 100,fun v AW=>bi AW v 2 (cb (aE (1) (1) (0) (2)) 2 ((an (3) (6)) 0)) 100,fun v AW=>bi AW v 2 (bS (aE (1) (1) (0) (2)) 2 ((an (3) (6)) 0) 2) 100,fun v AW=>yG AW v,fun v AW=>bi AW v 2 (cb (aE (1) (1) (0) (2)) 2 ((an (3) (6)) 0)) 100,fun v AW=>bi AW v 2 (bS (aE (1) (1) (0) (2)) 2 ((an (3) (6)) 0) 2) 100,fun v AW=>yG AW v] rfl rfl (fun e_ w_ AV AU=>⟨fun _=>aa (af [.int .i64 ((2:Nat)),.int .i64 ((2:Nat)),.slice (some ⟨gh2,0,none⟩) (2) (kh2)] aV ((AU 2 rfl rfl)) ((aY.ext hA4 AV).cells 0 _ rfl rfl)),fun _=>cQ.mono (cQ.buildSlice (vs:= [(0,.int .i64 (3)),(1,.int .i64 (6))]) [.int .i64 (0)] [.int .i64 (3),.int .i64 (6)] fF me rfl (eQ rfl rfl) rfl (by decide) md rfl) fun v AX ⟨g,hv,hge,hx,hA⟩=>⟨hx,hv▸pW hA⟩,fun AT=>cQ.mono (cQ.call gW (cH rfl rfl rfl) (ke (AT 1 rfl) (by decide) (by decide))) fun v AX hv=>⟨hv.1,cO.low hv.2 AV.size⟩,fun AT=>ag (eW mf aU rfl (AT 2 rfl)),fun AT=>ag (aJ (j:=0) aK rfl (wF.hdrV (AT 3 rfl)) rfl (by omega) (by omega)),fun AT=>ag (aI bn rfl (AT 4 rfl)),fun AT=>cQ.call wZ (aC (AT 0 rfl) rfl) (rP _ _ _ _ _ _ _ _ _ 100 (cY.matV (cY.ext hM2 AV) (by omega) (by omega)) (AT 5 rfl) (by decide) (by decide) (by decide)),fun AT=>sc ((AT 6 rfl)),fun AT=>ag (uW rfl (AT 7 rfl)),fun AT=>ag (uV rfl (AT 7 rfl)),fun AT=>ag (uU rfl (AT 7 rfl)),fun AT=>jd ((AT 8 rfl)),fun AT=>jd ((AT 9 rfl)),fun AT=>jd ((AT 10 rfl)),trivial⟩) ?_;intro e1 w22 hx17 ho1 hf1;replace hA2:=aY.ext hA2 hx17;replace hA4:=aY.ext hA4 hx17;replace hSa_1:=ce.ext hSa_1 hx17;replace hSb_1:=ce.ext hSb_1 hx17;replace hSc_1:=ce.ext hSc_1 hx17;replace hA5:=aY.ext hA5 hx17;replace hSa_2:=ce.ext hSa_2 hx17;replace hA7:=aY.ext hA7 hx17;replace hA9:=aY.ext hA9 hx17;replace hS1:=ce.ext hS1 hx17;replace hM1:=cY.ext hM1 hx17;replace hM2:=cY.ext hM2 hx17;replace hX:=aA.trans hX hx17;have s1_e1:e1 1=_:=ho1 1 rfl rfl;have s2_e1:e1 2=_:=ho1 2 rfl rfl;have s3_e1:e1 3=_:=ho1 3 rfl rfl;have s4_e1:e1 4=_:=ho1 4 rfl rfl;have s5_e1:e1 5=_:=ho1 5 rfl rfl;have s6_e1:bi w22 (e1 6) 2 (cb (aE (1) (1) (0) (2)) 2 ((an (3) (6)) 0)) 100:=hf1 11 rfl;have s7_e1:bi w22 (e1 7) 2 (bS (aE (1) (1) (0) (2)) 2 ((an (3) (6)) 0) 2) 100:=hf1 12 rfl;have s8_e1:yG w22 (e1 8):=hf1 13 rfl;have hz1:(e1 8)= .int .i64 0:=s8_e1;refine RL.nil ?_;refine ab ?_;refine RL.p rfl rfl (af [.int .i64 ((2:Nat)),.int .i64 ((2:Nat)),.slice (some ⟨gh2,0,none⟩) (2) (kh2)] aV s2_e1 (hA4.cells 0 _ rfl rfl)) ?_;refine RL.x rfl rfl (cQ.call wZ (aC rfl rfl) (rO _ _ _ _ _ _ _ 0 (fun _=>0) 1 (cY.matV hM2 (by omega) (by omega)) (vB _ _ 1 (by decide)) (by decide) (by decide))) ?_;rintro _ w23 ⟨hx18,rfl⟩;replace hA2:=aY.ext hA2 hx18;replace hA4:=aY.ext hA4 hx18;replace hSa_1:=ce.ext hSa_1 hx18;replace hSb_1:=ce.ext hSb_1 hx18;replace hSc_1:=ce.ext hSc_1 hx18;replace hA5:=aY.ext hA5 hx18;replace hSa_2:=ce.ext hSa_2 hx18;replace hA7:=aY.ext hA7 hx18;replace hA9:=aY.ext hA9 hx18;replace hS1:=ce.ext hS1 hx18;replace hM1:=cY.ext hM1 hx18;replace hM2:=cY.ext hM2 hx18;replace s6_e1:=bi.ext s6_e1 hx18;replace s7_e1:=bi.ext s7_e1 hx18;replace hX:=aA.trans hX hx18;refine RL.p rfl rfl (cj.move rfl) ?_;refine RL.p rfl rfl (cj.extract rfl rfl) ?_;refine RL.p rfl rfl (cj.extract rfl rfl) ?_;refine RL.p rfl rfl (cj.extract rfl rfl) ?_;refine RL.p rfl rfl (cj.assign rfl) ?_;refine RL.p rfl rfl (cj.assign rfl) ?_;refine RL.p rfl rfl (cj.assign rfl) ?_;refine RL.nil ?_;have hBw6:w.heap.size≤w23.heap.size:=hX.size;have hBw7:w.heap.size≤w23.heap.size:=hX.size;refine aF am 24 [_,_,fun v AW=>v= .bool (decide ((0:Int)=(0:Int))),_,_,_,fun v AW=>v= .bool (decide (((0:Int)=(0:Int))∧((50:Int)=(50:Int)))),_,fun v AW=>(((0:Int)=(0:Int))∧((50:Int)=(50:Int)))→(eH .i64 2 AW v 2 (f2 (3) (1))),fun v AW=>(((0:Int)=(0:Int))∧((50:Int)=(50:Int)))→(cO AW v w23.heap.size 1 2 (an (3) (1)) 4),_,_,_,fun v AW=>(((0:Int)=(0:Int))∧((50:Int)=(50:Int)))→(v= .bool (decide (ay 2 2 (cb (aE (1) (1) (0) (2)) 2 ((an (3) (6)) 0)) ((an (3) (1)) 0)))),_,fun v AW=>v= .bool (decide ((((0:Int)=(0:Int))∧((50:Int)=(50:Int)))∧(ay 2 2 (cb (aE (1) (1) (0) (2)) 2 ((an (3) (6)) 0)) ((an (3) (1)) 0)))),_,fun v AW=>((((0:Int)=(0:Int))∧((50:Int)=(50:Int)))∧(ay 2 2 (cb (aE (1) (1) (0) (2)) 2 ((an (3) (6)) 0)) ((an (3) (1)) 0)))→(eH .i64 2 AW v 2 (f2 (0) (1))),fun v AW=>((((0:Int)=(0:Int))∧((50:Int)=(50:Int)))∧(ay 2 2 (cb (aE (1) (1) (0) (2)) 2 ((an (3) (6)) 0)) ((an (3) (1)) 0)))→(cO AW v w23.heap.size 1 2 (an (0) (1)) 4),_,_,_,fun v AW=>((((0:Int)=(0:Int))∧((50:Int)=(50:Int)))∧(ay 2 2 (cb (aE (1) (1) (0) (2)) 2 ((an (3) (6)) 0)) ((an (3) (1)) 0)))→(v= .bool (decide (ay 2 2 (bS (aE (1) (1) (0) (2)) 2 ((an (3) (6)) 0) 2) ((an (0) (1)) 0)))),_] rfl rfl (fun e_ w_ AV AU=>⟨fun _=>aa (cj.move ((AU 8 rfl hz1))),fun AT=>aa (cj.eql ((AT 0 rfl)) rfl),fun AT=>aa (cj.move ((AT 1 rfl))),fun AT=>gT (AT 2 rfl) fun hg=>aa (cj.move ((AU 11 rfl rfl))),fun AT=>gT (AT 2 rfl) fun hg=>aa (cj.eql ((AT 3 rfl hg)) rfl),fun AT=>aa (au (p:=(0:Int)=(0:Int)) (q:=(50:Int)=(50:Int)) (AT 2 rfl) (fun hq=>(AT 4 rfl hq))),fun AT=>aa (cj.move ((AT 5 rfl))),fun AT=>gT (AT 6 rfl) fun hg=>aa (cj.move ((AU 6 rfl rfl))),fun AT=>gT (AT 6 rfl) fun hg=>cQ.mono (cQ.buildSlice (vs:= [(0,.int .i64 (3)),(1,.int .i64 (1))]) [.int .i64 (0)] [.int .i64 (3),.int .i64 (1)] fF me rfl (eQ rfl rfl) rfl (by decide) md rfl) fun v AX ⟨g,hv,hge,hx,hA⟩=>⟨hx,hv▸pW hA⟩,fun AT=>gT (AT 6 rfl) fun hg=>cQ.mono (cQ.call gW (cH rfl rfl rfl) (ke (AT 8 rfl hg) (by decide) (by decide))) fun v AX hv=>⟨hv.1,cO.low hv.2 AV.size⟩,fun AT=>gT (AT 6 rfl) fun hg=>ag (eW mf aU rfl (AT 9 rfl hg)),fun AT=>gT (AT 6 rfl) fun hg=>ag (aJ (j:=0) aK rfl (wF.hdrV (AT 10 rfl hg)) rfl (by omega) (by omega)),fun AT=>gT (AT 6 rfl) fun hg=>ag (aI bn rfl (AT 11 rfl hg)),fun AT=>gT (AT 6 rfl) fun hg=>cQ.call sC (aC ((AT 7 rfl hg)) rfl) (iI _ _ _ _ _ _ _ _ _ (bi.ext s6_e1 AV) (AT 12 rfl hg)),fun AT=>aa (au (p:=((0:Int)=(0:Int))∧((50:Int)=(50:Int))) (q:=ay 2 2 (cb (aE (1) (1) (0) (2)) 2 ((an (3) (6)) 0)) ((an (3) (1)) 0)) (AT 6 rfl) (fun hq=>(AT 13 rfl hq))),fun AT=>aa (cj.move ((AT 14 rfl))),fun AT=>gT (AT 15 rfl) fun hg=>aa (cj.move ((AU 7 rfl rfl))),fun AT=>gT (AT 15 rfl) fun hg=>cQ.mono (cQ.buildSlice (vs:= [(0,.int .i64 (0)),(1,.int .i64 (1))]) [.int .i64 (0)] [.int .i64 (0),.int .i64 (1)] fF me rfl (eQ rfl rfl) rfl (by decide) md rfl) fun v AX ⟨g,hv,hge,hx,hA⟩=>⟨hx,hv▸pW hA⟩,fun AT=>gT (AT 15 rfl) fun hg=>cQ.mono (cQ.call gW (cH rfl rfl rfl) (ke (AT 17 rfl hg) (by decide) (by decide))) fun v AX hv=>⟨hv.1,cO.low hv.2 AV.size⟩,fun AT=>gT (AT 15 rfl) fun hg=>ag (eW mf aU rfl (AT 18 rfl hg)),fun AT=>gT (AT 15 rfl) fun hg=>ag (aJ (j:=0) aK rfl (wF.hdrV (AT 19 rfl hg)) rfl (by omega) (by omega)),fun AT=>gT (AT 15 rfl) fun hg=>ag (aI bn rfl (AT 20 rfl hg)),fun AT=>gT (AT 15 rfl) fun hg=>cQ.call sC (aC ((AT 16 rfl hg)) rfl) (iI _ _ _ _ _ _ _ _ _ (bi.ext s7_e1 AV) (AT 21 rfl hg)),fun AT=>aa (au (p:=(((0:Int)=(0:Int))∧((50:Int)=(50:Int)))∧(ay 2 2 (cb (aE (1) (1) (0) (2)) 2 ((an (3) (6)) 0)) ((an (3) (1)) 0))) (q:=ay 2 2 (bS (aE (1) (1) (0) (2)) 2 ((an (3) (6)) 0) 2) ((an (0) (1)) 0)) (AT 15 rfl) (fun hq=>(AT 22 rfl hq))),trivial⟩) ?_;intro e2 w24 hx19 ho2 hf2;replace hA2:=aY.ext hA2 hx19;replace hA4:=aY.ext hA4 hx19;replace hSa_1:=ce.ext hSa_1 hx19;replace hSb_1:=ce.ext hSb_1 hx19;replace hSc_1:=ce.ext hSc_1 hx19;replace hA5:=aY.ext hA5 hx19;replace hSa_2:=ce.ext hSa_2 hx19;replace hA7:=aY.ext hA7 hx19;replace hA9:=aY.ext hA9 hx19;replace hS1:=ce.ext hS1 hx19;replace hM1:=cY.ext hM1 hx19;replace hM2:=cY.ext hM2 hx19;replace hX:=aA.trans hX hx19;have s1_e2:=ho2 1 rfl s1_e1;have s2_e2:=ho2 2 rfl s2_e1;have s3_e2:=ho2 3 rfl s3_e1;have s4_e2:=ho2 4 rfl s4_e1;have s5_e2:=ho2 5 rfl s5_e1;have s65_e2:e2 65=_:=hf2 23 rfl;refine RL.p rfl rfl (cj.assign s65_e2) ?_;refine RL.nil ?_;have hZa:ao 2 2 2 2 Sf_1.M (aE (1) (1) (0) (2)):=qp (C:=aE 2 1 3 1) (D:=aE (-1) 1 3 (-2)) hHf_1 (by decide) (by decide) (by decide);have hZb:ao 2 2 2 2 Sf_2.M (aE (0) (3) (0) (0)):=qp (C:=aE 0 0 (-1) 0) (D:=aE 0 (-1) 0 0) hHf_2 (by decide) (by decide) (by decide);have hZc:ao kf_3 1 1 1 Sf_3.M (fun _ _=>(2)):=yz (C:=fun i _=>if i=0 then 2 else 3) (D:=fun _ j=>if j=0 then -1 else 1) hHf_3 wc (by decide) (by decide);have hBw8:w.heap.size≤w24.heap.size:=hX.size;have hBw9:w.heap.size≤w24.heap.size:=hX.size;refine aF (hmono:=⟨⟨ac _,ac _,bq.imp (ac _),bq.imp (ac _),bq.imp (ac _),bq.imp (ac _),ac _,ac _,bq.imp (ac _),bq.imp (ac _),bq.imp (ac _),ac _,ac _,bq.imp (ac _),bq.imp (ac _),bq.imp (ac _),ac _,ac _,bq.imp (ac _),bq.imp (ac _),bq.imp ((fun _ _ _ h hx=>eH.ext h hx)),bq.imp (eo _ _ _ _ _),bq.imp (ac _),ac _,ac _,bq.imp (ac _),bq.imp ((fun _ _ _ h hx=>eH.ext h hx)),bq.imp (eo _ _ _ _ _),bq.imp (ac _),ac _,ac _,bq.imp (ac _),bq.imp (ac _),ac _,ac _,bq.imp (ac _),bq.imp (ac _),bq.imp (ac _),ac _,ac _,bq.imp (ac _),bq.imp (ac _),ac _,ac _,bq.imp (ac _),bq.imp (ac _),bq.imp (ac _),ac _,ac _,bq.imp (ac _),bq.imp (ac _),bq.imp (ac _),bq.imp (ac _),ac _,ac _,bq.imp (ac _),bq.imp (ac _),bq.imp (jn _ _ _ _ _),bq.imp (ac _),ac _,trivial⟩⟩) am 60 ((fun v AW=>v= .bool (decide (((((0:Int)=(0:Int))∧((50:Int)=(50:Int)))∧(ay 2 2 (cb (aE (1) (1) (0) (2)) 2 ((an (3) (6)) 0)) ((an (3) (1)) 0)))∧(ay 2 2 (bS (aE (1) (1) (0) (2)) 2 ((an (3) (6)) 0) 2) ((an (0) (1)) 0)))))::(fun v AW=>v= .bool (decide (((((0:Int)=(0:Int))∧((50:Int)=(50:Int)))∧(ay 2 2 (cb (aE (1) (1) (0) (2)) 2 ((an (3) (6)) 0)) ((an (3) (1)) 0)))∧(ay 2 2 (bS (aE (1) (1) (0) (2)) 2 ((an (3) (6)) 0) 2) ((an (0) (1)) 0)))))::_::_::_::(fun v AW=>(((((0:Int)=(0:Int))∧((50:Int)=(50:Int)))∧(ay 2 2 (cb (aE (1) (1) (0) (2)) 2 ((an (3) (6)) 0)) ((an (3) (1)) 0)))∧(ay 2 2 (bS (aE (1) (1) (0) (2)) 2 ((an (3) (6)) 0) 2) ((an (0) (1)) 0)))→(v= .bool (decide (ao 2 2 2 2 Sf_1.M (aE (1) (1) (0) (2))))))::_::(fun v AW=>v= .bool (decide ((((((0:Int)=(0:Int))∧((50:Int)=(50:Int)))∧(ay 2 2 (cb (aE (1) (1) (0) (2)) 2 ((an (3) (6)) 0)) ((an (3) (1)) 0)))∧(ay 2 2 (bS (aE (1) (1) (0) (2)) 2 ((an (3) (6)) 0) 2) ((an (0) (1)) 0)))∧(ao 2 2 2 2 Sf_1.M (aE (1) (1) (0) (2))))))::_::_::(fun v AW=>((((((0:Int)=(0:Int))∧((50:Int)=(50:Int)))∧(ay 2 2 (cb (aE (1) (1) (0) (2)) 2 ((an (3) (6)) 0)) ((an (3) (1)) 0)))∧(ay 2 2 (bS (aE (1) (1) (0) (2)) 2 ((an (3) (6)) 0) 2) ((an (0) (1)) 0)))∧(ao 2 2 2 2 Sf_1.M (aE (1) (1) (0) (2))))→(v= .bool (decide (bt 2 2 2 2 2 2 2 2 (aE (2) (4) (3) (5)) Sf_1.M Sf_1.U Sf_1.V))))::_::(fun v AW=>v= .bool (decide (((((((0:Int)=(0:Int))∧((50:Int)=(50:Int)))∧(ay 2 2 (cb (aE (1) (1) (0) (2)) 2 ((an (3) (6)) 0)) ((an (3) (1)) 0)))∧(ay 2 2 (bS (aE (1) (1) (0) (2)) 2 ((an (3) (6)) 0) 2) ((an (0) (1)) 0)))∧(ao 2 2 2 2 Sf_1.M (aE (1) (1) (0) (2))))∧(bt 2 2 2 2 2 2 2 2 (aE (2) (4) (3) (5)) Sf_1.M Sf_1.U Sf_1.V))))::_::_::(fun v AW=>(((((((0:Int)=(0:Int))∧((50:Int)=(50:Int)))∧(ay 2 2 (cb (aE (1) (1) (0) (2)) 2 ((an (3) (6)) 0)) ((an (3) (1)) 0)))∧(ay 2 2 (bS (aE (1) (1) (0) (2)) 2 ((an (3) (6)) 0) 2) ((an (0) (1)) 0)))∧(ao 2 2 2 2 Sf_1.M (aE (1) (1) (0) (2))))∧(bt 2 2 2 2 2 2 2 2 (aE (2) (4) (3) (5)) Sf_1.M Sf_1.U Sf_1.V))→(v= .bool (decide (bt 2 2 2 2 2 2 2 2 (aE (2) (4) (3) (5)) Sf_1.M Sf_1.U Sf_1.V))))::_::(fun v AW=>v= .bool (decide ((((((((0:Int)=(0:Int))∧((50:Int)=(50:Int)))∧(ay 2 2 (cb (aE (1) (1) (0) (2)) 2 ((an (3) (6)) 0)) ((an (3) (1)) 0)))∧(ay 2 2 (bS (aE (1) (1) (0) (2)) 2 ((an (3) (6)) 0) 2) ((an (0) (1)) 0)))∧(ao 2 2 2 2 Sf_1.M (aE (1) (1) (0) (2))))∧(bt 2 2 2 2 2 2 2 2 (aE (2) (4) (3) (5)) Sf_1.M Sf_1.U Sf_1.V))∧(bt 2 2 2 2 2 2 2 2 (aE (2) (4) (3) (5)) Sf_1.M Sf_1.U Sf_1.V))))::_::_::(fun v AW=>((((((((0:Int)=(0:Int))∧((50:Int)=(50:Int)))∧(ay 2 2 (cb (aE (1) (1) (0) (2)) 2 ((an (3) (6)) 0)) ((an (3) (1)) 0)))∧(ay 2 2 (bS (aE (1) (1) (0) (2)) 2 ((an (3) (6)) 0) 2) ((an (0) (1)) 0)))∧(ao 2 2 2 2 Sf_1.M (aE (1) (1) (0) (2))))∧(bt 2 2 2 2 2 2 2 2 (aE (2) (4) (3) (5)) Sf_1.M Sf_1.U Sf_1.V))∧(bt 2 2 2 2 2 2 2 2 (aE (2) (4) (3) (5)) Sf_1.M Sf_1.U Sf_1.V))→(eH .i64 2 AW v 4 (f4 (0) (3) (0) (0))))::(fun v AW=>((((((((0:Int)=(0:Int))∧((50:Int)=(50:Int)))∧(ay 2 2 (cb (aE (1) (1) (0) (2)) 2 ((an (3) (6)) 0)) ((an (3) (1)) 0)))∧(ay 2 2 (bS (aE (1) (1) (0) (2)) 2 ((an (3) (6)) 0) 2) ((an (0) (1)) 0)))∧(ao 2 2 2 2 Sf_1.M (aE (1) (1) (0) (2))))∧(bt 2 2 2 2 2 2 2 2 (aE (2) (4) (3) (5)) Sf_1.M Sf_1.U Sf_1.V))∧(bt 2 2 2 2 2 2 2 2 (aE (2) (4) (3) (5)) Sf_1.M Sf_1.U Sf_1.V))→(cO AW v w24.heap.size 2 2 (aE (0) (3) (0) (0)) 4))::(fun v AW=>((((((((0:Int)=(0:Int))∧((50:Int)=(50:Int)))∧(ay 2 2 (cb (aE (1) (1) (0) (2)) 2 ((an (3) (6)) 0)) ((an (3) (1)) 0)))∧(ay 2 2 (bS (aE (1) (1) (0) (2)) 2 ((an (3) (6)) 0) 2) ((an (0) (1)) 0)))∧(ao 2 2 2 2 Sf_1.M (aE (1) (1) (0) (2))))∧(bt 2 2 2 2 2 2 2 2 (aE (2) (4) (3) (5)) Sf_1.M Sf_1.U Sf_1.V))∧(bt 2 2 2 2 2 2 2 2 (aE (2) (4) (3) (5)) Sf_1.M Sf_1.U Sf_1.V))→(v= .bool (decide (ao 2 2 2 2 Sf_2.M (aE (0) (3) (0) (0))))))::_::(fun v AW=>v= .bool (decide (((((((((0:Int)=(0:Int))∧((50:Int)=(50:Int)))∧(ay 2 2 (cb (aE (1) (1) (0) (2)) 2 ((an (3) (6)) 0)) ((an (3) (1)) 0)))∧(ay 2 2 (bS (aE (1) (1) (0) (2)) 2 ((an (3) (6)) 0) 2) ((an (0) (1)) 0)))∧(ao 2 2 2 2 Sf_1.M (aE (1) (1) (0) (2))))∧(bt 2 2 2 2 2 2 2 2 (aE (2) (4) (3) (5)) Sf_1.M Sf_1.U Sf_1.V))∧(bt 2 2 2 2 2 2 2 2 (aE (2) (4) (3) (5)) Sf_1.M Sf_1.U Sf_1.V))∧(ao 2 2 2 2 Sf_2.M (aE (0) (3) (0) (0))))))::_::(fun v AW=>(((((((((0:Int)=(0:Int))∧((50:Int)=(50:Int)))∧(ay 2 2 (cb (aE (1) (1) (0) (2)) 2 ((an (3) (6)) 0)) ((an (3) (1)) 0)))∧(ay 2 2 (bS (aE (1) (1) (0) (2)) 2 ((an (3) (6)) 0) 2) ((an (0) (1)) 0)))∧(ao 2 2 2 2 Sf_1.M (aE (1) (1) (0) (2))))∧(bt 2 2 2 2 2 2 2 2 (aE (2) (4) (3) (5)) Sf_1.M Sf_1.U Sf_1.V))∧(bt 2 2 2 2 2 2 2 2 (aE (2) (4) (3) (5)) Sf_1.M Sf_1.U Sf_1.V))∧(ao 2 2 2 2 Sf_2.M (aE (0) (3) (0) (0))))→(eH .i64 2 AW v 1 (f1 (2))))::(fun v AW=>(((((((((0:Int)=(0:Int))∧((50:Int)=(50:Int)))∧(ay 2 2 (cb (aE (1) (1) (0) (2)) 2 ((an (3) (6)) 0)) ((an (3) (1)) 0)))∧(ay 2 2 (bS (aE (1) (1) (0) (2)) 2 ((an (3) (6)) 0) 2) ((an (0) (1)) 0)))∧(ao 2 2 2 2 Sf_1.M (aE (1) (1) (0) (2))))∧(bt 2 2 2 2 2 2 2 2 (aE (2) (4) (3) (5)) Sf_1.M Sf_1.U Sf_1.V))∧(bt 2 2 2 2 2 2 2 2 (aE (2) (4) (3) (5)) Sf_1.M Sf_1.U Sf_1.V))∧(ao 2 2 2 2 Sf_2.M (aE (0) (3) (0) (0))))→(cO AW v w24.heap.size 1 1 ((fun _ _=>(2))) 4))::(fun v AW=>(((((((((0:Int)=(0:Int))∧((50:Int)=(50:Int)))∧(ay 2 2 (cb (aE (1) (1) (0) (2)) 2 ((an (3) (6)) 0)) ((an (3) (1)) 0)))∧(ay 2 2 (bS (aE (1) (1) (0) (2)) 2 ((an (3) (6)) 0) 2) ((an (0) (1)) 0)))∧(ao 2 2 2 2 Sf_1.M (aE (1) (1) (0) (2))))∧(bt 2 2 2 2 2 2 2 2 (aE (2) (4) (3) (5)) Sf_1.M Sf_1.U Sf_1.V))∧(bt 2 2 2 2 2 2 2 2 (aE (2) (4) (3) (5)) Sf_1.M Sf_1.U Sf_1.V))∧(ao 2 2 2 2 Sf_2.M (aE (0) (3) (0) (0))))→(v= .bool (decide (ao kf_3 1 1 1 Sf_3.M (fun _ _=>(2))))))::_:: [fun v AW=>v= .bool (decide ((((((((((0:Int)=(0:Int))∧((50:Int)=(50:Int)))∧(ay 2 2 (cb (aE (1) (1) (0) (2)) 2 ((an (3) (6)) 0)) ((an (3) (1)) 0)))∧(ay 2 2 (bS (aE (1) (1) (0) (2)) 2 ((an (3) (6)) 0) 2) ((an (0) (1)) 0)))∧(ao 2 2 2 2 Sf_1.M (aE (1) (1) (0) (2))))∧(bt 2 2 2 2 2 2 2 2 (aE (2) (4) (3) (5)) Sf_1.M Sf_1.U Sf_1.V))∧(bt 2 2 2 2 2 2 2 2 (aE (2) (4) (3) (5)) Sf_1.M Sf_1.U Sf_1.V))∧(ao 2 2 2 2 Sf_2.M (aE (0) (3) (0) (0))))∧(ao kf_3 1 1 1 Sf_3.M (fun _ _=>(2))))),_,fun v AW=>((((((((((0:Int)=(0:Int))∧((50:Int)=(50:Int)))∧(ay 2 2 (cb (aE (1) (1) (0) (2)) 2 ((an (3) (6)) 0)) ((an (3) (1)) 0)))∧(ay 2 2 (bS (aE (1) (1) (0) (2)) 2 ((an (3) (6)) 0) 2) ((an (0) (1)) 0)))∧(ao 2 2 2 2 Sf_1.M (aE (1) (1) (0) (2))))∧(bt 2 2 2 2 2 2 2 2 (aE (2) (4) (3) (5)) Sf_1.M Sf_1.U Sf_1.V))∧(bt 2 2 2 2 2 2 2 2 (aE (2) (4) (3) (5)) Sf_1.M Sf_1.U Sf_1.V))∧(ao 2 2 2 2 Sf_2.M (aE (0) (3) (0) (0))))∧(ao kf_3 1 1 1 Sf_3.M (fun _ _=>(2))))→(v= .bool (decide (ck 2 2 (aE (1) (1) (0) (2))))),_,fun v AW=>v= .bool (decide (((((((((((0:Int)=(0:Int))∧((50:Int)=(50:Int)))∧(ay 2 2 (cb (aE (1) (1) (0) (2)) 2 ((an (3) (6)) 0)) ((an (3) (1)) 0)))∧(ay 2 2 (bS (aE (1) (1) (0) (2)) 2 ((an (3) (6)) 0) 2) ((an (0) (1)) 0)))∧(ao 2 2 2 2 Sf_1.M (aE (1) (1) (0) (2))))∧(bt 2 2 2 2 2 2 2 2 (aE (2) (4) (3) (5)) Sf_1.M Sf_1.U Sf_1.V))∧(bt 2 2 2 2 2 2 2 2 (aE (2) (4) (3) (5)) Sf_1.M Sf_1.U Sf_1.V))∧(ao 2 2 2 2 Sf_2.M (aE (0) (3) (0) (0))))∧(ao kf_3 1 1 1 Sf_3.M (fun _ _=>(2))))∧(ck 2 2 (aE (1) (1) (0) (2))))),_,fun v AW=>(((((((((((0:Int)=(0:Int))∧((50:Int)=(50:Int)))∧(ay 2 2 (cb (aE (1) (1) (0) (2)) 2 ((an (3) (6)) 0)) ((an (3) (1)) 0)))∧(ay 2 2 (bS (aE (1) (1) (0) (2)) 2 ((an (3) (6)) 0) 2) ((an (0) (1)) 0)))∧(ao 2 2 2 2 Sf_1.M (aE (1) (1) (0) (2))))∧(bt 2 2 2 2 2 2 2 2 (aE (2) (4) (3) (5)) Sf_1.M Sf_1.U Sf_1.V))∧(bt 2 2 2 2 2 2 2 2 (aE (2) (4) (3) (5)) Sf_1.M Sf_1.U Sf_1.V))∧(ao 2 2 2 2 Sf_2.M (aE (0) (3) (0) (0))))∧(ao kf_3 1 1 1 Sf_3.M (fun _ _=>(2))))∧(ck 2 2 (aE (1) (1) (0) (2))))→(v= .bool (decide (ck 2 2 (aE (2) (4) (3) (5))))),_,_,fun v AW=>v= .bool (decide ((((((((((((0:Int)=(0:Int))∧((50:Int)=(50:Int)))∧(ay 2 2 (cb (aE (1) (1) (0) (2)) 2 ((an (3) (6)) 0)) ((an (3) (1)) 0)))∧(ay 2 2 (bS (aE (1) (1) (0) (2)) 2 ((an (3) (6)) 0) 2) ((an (0) (1)) 0)))∧(ao 2 2 2 2 Sf_1.M (aE (1) (1) (0) (2))))∧(bt 2 2 2 2 2 2 2 2 (aE (2) (4) (3) (5)) Sf_1.M Sf_1.U Sf_1.V))∧(bt 2 2 2 2 2 2 2 2 (aE (2) (4) (3) (5)) Sf_1.M Sf_1.U Sf_1.V))∧(ao 2 2 2 2 Sf_2.M (aE (0) (3) (0) (0))))∧(ao kf_3 1 1 1 Sf_3.M (fun _ _=>(2))))∧(ck 2 2 (aE (1) (1) (0) (2))))∧(¬(ck 2 2 (aE (2) (4) (3) (5)))))),_,fun v AW=>((((((((((((0:Int)=(0:Int))∧((50:Int)=(50:Int)))∧(ay 2 2 (cb (aE (1) (1) (0) (2)) 2 ((an (3) (6)) 0)) ((an (3) (1)) 0)))∧(ay 2 2 (bS (aE (1) (1) (0) (2)) 2 ((an (3) (6)) 0) 2) ((an (0) (1)) 0)))∧(ao 2 2 2 2 Sf_1.M (aE (1) (1) (0) (2))))∧(bt 2 2 2 2 2 2 2 2 (aE (2) (4) (3) (5)) Sf_1.M Sf_1.U Sf_1.V))∧(bt 2 2 2 2 2 2 2 2 (aE (2) (4) (3) (5)) Sf_1.M Sf_1.U Sf_1.V))∧(ao 2 2 2 2 Sf_2.M (aE (0) (3) (0) (0))))∧(ao kf_3 1 1 1 Sf_3.M (fun _ _=>(2))))∧(ck 2 2 (aE (1) (1) (0) (2))))∧(¬(ck 2 2 (aE (2) (4) (3) (5)))))→(v= .bool (decide (ck 0 0 (fun _ _=>0)))),_,fun v AW=>v= .bool (decide (((((((((((((0:Int)=(0:Int))∧((50:Int)=(50:Int)))∧(ay 2 2 (cb (aE (1) (1) (0) (2)) 2 ((an (3) (6)) 0)) ((an (3) (1)) 0)))∧(ay 2 2 (bS (aE (1) (1) (0) (2)) 2 ((an (3) (6)) 0) 2) ((an (0) (1)) 0)))∧(ao 2 2 2 2 Sf_1.M (aE (1) (1) (0) (2))))∧(bt 2 2 2 2 2 2 2 2 (aE (2) (4) (3) (5)) Sf_1.M Sf_1.U Sf_1.V))∧(bt 2 2 2 2 2 2 2 2 (aE (2) (4) (3) (5)) Sf_1.M Sf_1.U Sf_1.V))∧(ao 2 2 2 2 Sf_2.M (aE (0) (3) (0) (0))))∧(ao kf_3 1 1 1 Sf_3.M (fun _ _=>(2))))∧(ck 2 2 (aE (1) (1) (0) (2))))∧(¬(ck 2 2 (aE (2) (4) (3) (5)))))∧(ck 0 0 (fun _ _=>0)))),_,fun v AW=>(((((((((((((0:Int)=(0:Int))∧((50:Int)=(50:Int)))∧(ay 2 2 (cb (aE (1) (1) (0) (2)) 2 ((an (3) (6)) 0)) ((an (3) (1)) 0)))∧(ay 2 2 (bS (aE (1) (1) (0) (2)) 2 ((an (3) (6)) 0) 2) ((an (0) (1)) 0)))∧(ao 2 2 2 2 Sf_1.M (aE (1) (1) (0) (2))))∧(bt 2 2 2 2 2 2 2 2 (aE (2) (4) (3) (5)) Sf_1.M Sf_1.U Sf_1.V))∧(bt 2 2 2 2 2 2 2 2 (aE (2) (4) (3) (5)) Sf_1.M Sf_1.U Sf_1.V))∧(ao 2 2 2 2 Sf_2.M (aE (0) (3) (0) (0))))∧(ao kf_3 1 1 1 Sf_3.M (fun _ _=>(2))))∧(ck 2 2 (aE (1) (1) (0) (2))))∧(¬(ck 2 2 (aE (2) (4) (3) (5)))))∧(ck 0 0 (fun _ _=>0)))→(v= .bool (decide (nd 1 0 0 0∧ck 1 0 (fun _ _=>0)))),_,_,fun v AW=>v= .bool (decide ((((((((((((((0:Int)=(0:Int))∧((50:Int)=(50:Int)))∧(ay 2 2 (cb (aE (1) (1) (0) (2)) 2 ((an (3) (6)) 0)) ((an (3) (1)) 0)))∧(ay 2 2 (bS (aE (1) (1) (0) (2)) 2 ((an (3) (6)) 0) 2) ((an (0) (1)) 0)))∧(ao 2 2 2 2 Sf_1.M (aE (1) (1) (0) (2))))∧(bt 2 2 2 2 2 2 2 2 (aE (2) (4) (3) (5)) Sf_1.M Sf_1.U Sf_1.V))∧(bt 2 2 2 2 2 2 2 2 (aE (2) (4) (3) (5)) Sf_1.M Sf_1.U Sf_1.V))∧(ao 2 2 2 2 Sf_2.M (aE (0) (3) (0) (0))))∧(ao kf_3 1 1 1 Sf_3.M (fun _ _=>(2))))∧(ck 2 2 (aE (1) (1) (0) (2))))∧(¬(ck 2 2 (aE (2) (4) (3) (5)))))∧(ck 0 0 (fun _ _=>0)))∧(¬(nd 1 0 0 0∧ck 1 0 (fun _ _=>0))))),_,_,fun v AW=>((((((((((((((0:Int)=(0:Int))∧((50:Int)=(50:Int)))∧(ay 2 2 (cb (aE (1) (1) (0) (2)) 2 ((an (3) (6)) 0)) ((an (3) (1)) 0)))∧(ay 2 2 (bS (aE (1) (1) (0) (2)) 2 ((an (3) (6)) 0) 2) ((an (0) (1)) 0)))∧(ao 2 2 2 2 Sf_1.M (aE (1) (1) (0) (2))))∧(bt 2 2 2 2 2 2 2 2 (aE (2) (4) (3) (5)) Sf_1.M Sf_1.U Sf_1.V))∧(bt 2 2 2 2 2 2 2 2 (aE (2) (4) (3) (5)) Sf_1.M Sf_1.U Sf_1.V))∧(ao 2 2 2 2 Sf_2.M (aE (0) (3) (0) (0))))∧(ao kf_3 1 1 1 Sf_3.M (fun _ _=>(2))))∧(ck 2 2 (aE (1) (1) (0) (2))))∧(¬(ck 2 2 (aE (2) (4) (3) (5)))))∧(ck 0 0 (fun _ _=>0)))∧(¬(nd 1 0 0 0∧ck 1 0 (fun _ _=>0))))→(v= .bool (decide (bt 2 2 0 0 0 0 0 0 (aE (2) (4) (3) (5)) (fun _ _=>0) (fun _ _=>0) (fun _ _=>0)))),_,_,fun v AW=>v= .bool (decide (((((((((((((((0:Int)=(0:Int))∧((50:Int)=(50:Int)))∧(ay 2 2 (cb (aE (1) (1) (0) (2)) 2 ((an (3) (6)) 0)) ((an (3) (1)) 0)))∧(ay 2 2 (bS (aE (1) (1) (0) (2)) 2 ((an (3) (6)) 0) 2) ((an (0) (1)) 0)))∧(ao 2 2 2 2 Sf_1.M (aE (1) (1) (0) (2))))∧(bt 2 2 2 2 2 2 2 2 (aE (2) (4) (3) (5)) Sf_1.M Sf_1.U Sf_1.V))∧(bt 2 2 2 2 2 2 2 2 (aE (2) (4) (3) (5)) Sf_1.M Sf_1.U Sf_1.V))∧(ao 2 2 2 2 Sf_2.M (aE (0) (3) (0) (0))))∧(ao kf_3 1 1 1 Sf_3.M (fun _ _=>(2))))∧(ck 2 2 (aE (1) (1) (0) (2))))∧(¬(ck 2 2 (aE (2) (4) (3) (5)))))∧(ck 0 0 (fun _ _=>0)))∧(¬(nd 1 0 0 0∧ck 1 0 (fun _ _=>0))))∧(¬(bt 2 2 0 0 0 0 0 0 (aE (2) (4) (3) (5)) (fun _ _=>0) (fun _ _=>0) (fun _ _=>0))))),_,_,fun v AW=>(((((((((((((((0:Int)=(0:Int))∧((50:Int)=(50:Int)))∧(ay 2 2 (cb (aE (1) (1) (0) (2)) 2 ((an (3) (6)) 0)) ((an (3) (1)) 0)))∧(ay 2 2 (bS (aE (1) (1) (0) (2)) 2 ((an (3) (6)) 0) 2) ((an (0) (1)) 0)))∧(ao 2 2 2 2 Sf_1.M (aE (1) (1) (0) (2))))∧(bt 2 2 2 2 2 2 2 2 (aE (2) (4) (3) (5)) Sf_1.M Sf_1.U Sf_1.V))∧(bt 2 2 2 2 2 2 2 2 (aE (2) (4) (3) (5)) Sf_1.M Sf_1.U Sf_1.V))∧(ao 2 2 2 2 Sf_2.M (aE (0) (3) (0) (0))))∧(ao kf_3 1 1 1 Sf_3.M (fun _ _=>(2))))∧(ck 2 2 (aE (1) (1) (0) (2))))∧(¬(ck 2 2 (aE (2) (4) (3) (5)))))∧(ck 0 0 (fun _ _=>0)))∧(¬(nd 1 0 0 0∧ck 1 0 (fun _ _=>0))))∧(¬(bt 2 2 0 0 0 0 0 0 (aE (2) (4) (3) (5)) (fun _ _=>0) (fun _ _=>0) (fun _ _=>0))))→(jg AW v 0 3 4 ((fun _ _=>0)) 20000),fun v AW=>(((((((((((((((0:Int)=(0:Int))∧((50:Int)=(50:Int)))∧(ay 2 2 (cb (aE (1) (1) (0) (2)) 2 ((an (3) (6)) 0)) ((an (3) (1)) 0)))∧(ay 2 2 (bS (aE (1) (1) (0) (2)) 2 ((an (3) (6)) 0) 2) ((an (0) (1)) 0)))∧(ao 2 2 2 2 Sf_1.M (aE (1) (1) (0) (2))))∧(bt 2 2 2 2 2 2 2 2 (aE (2) (4) (3) (5)) Sf_1.M Sf_1.U Sf_1.V))∧(bt 2 2 2 2 2 2 2 2 (aE (2) (4) (3) (5)) Sf_1.M Sf_1.U Sf_1.V))∧(ao 2 2 2 2 Sf_2.M (aE (0) (3) (0) (0))))∧(ao kf_3 1 1 1 Sf_3.M (fun _ _=>(2))))∧(ck 2 2 (aE (1) (1) (0) (2))))∧(¬(ck 2 2 (aE (2) (4) (3) (5)))))∧(ck 0 0 (fun _ _=>0)))∧(¬(nd 1 0 0 0∧ck 1 0 (fun _ _=>0))))∧(¬(bt 2 2 0 0 0 0 0 0 (aE (2) (4) (3) (5)) (fun _ _=>0) (fun _ _=>0) (fun _ _=>0))))→(v= .bool (decide (True))),_]) rfl rfl (fun e_ w_ AV AU=>⟨fun _=>aa (cj.move ((AU 12 rfl rfl))),fun AT=>aa (cj.move ((AT 0 rfl))),fun AT=>gT (AT 1 rfl) fun hg=>aa (cj.fieldAddr dS ((AU 3 rfl s3_e2))),fun AT=>gT (AT 1 rfl) fun hg=>aa (af [.int .i64 ((2:Nat)),.int .i64 ((2:Nat)),sa_1] aV ((AT 2 rfl hg)) ((aY.ext hA5 AV).cells 0 _ rfl rfl)),fun AT=>gT (AT 1 rfl) fun hg=>aa (af [.int .i64 ((2:Nat)),.int .i64 ((2:Nat)),.slice (some ⟨gh2,0,none⟩) (2) (kh2)] aV ((AU 2 rfl s2_e2)) ((aY.ext hA4 AV).cells 0 _ rfl rfl)),fun AT=>gT (AT 1 rfl) fun hg=>cQ.call nz (aC ((AT 3 rfl hg)) ((AT 4 rfl hg))) (ij _ _ _ _ _ _ _ _ _ _ _ (bX.mk (ce.ext hSa_1 AV) (by decide) (by decide)) (cY.matV (cY.ext hM2 AV) (by omega) (by omega))),fun AT=>aa (au (p:=((((0:Int)=(0:Int))∧((50:Int)=(50:Int)))∧(ay 2 2 (cb (aE (1) (1) (0) (2)) 2 ((an (3) (6)) 0)) ((an (3) (1)) 0)))∧(ay 2 2 (bS (aE (1) (1) (0) (2)) 2 ((an (3) (6)) 0) 2) ((an (0) (1)) 0))) (q:=ao 2 2 2 2 Sf_1.M (aE (1) (1) (0) (2))) (AT 1 rfl) (fun hq=>(AT 5 rfl hq))),fun AT=>aa (cj.move ((AT 6 rfl))),fun AT=>gT (AT 7 rfl) fun hg=>aa (af [.int .i64 ((2:Nat)),.int .i64 ((2:Nat)),.slice (some ⟨gh1,0,none⟩) (2) (kh1)] aV ((AU 1 rfl s1_e2)) ((aY.ext hA2 AV).cells 0 _ rfl rfl)),fun AT=>gT (AT 7 rfl) fun hg=>aa (af [.int .i64 ((2:Nat)),.int .i64 ((2:Nat)),sa_1,.int .i64 ((2:Nat)),.int .i64 ((2:Nat)),sb_1,.int .i64 ((2:Nat)),.int .i64 ((2:Nat)),sc_1] sK ((AU 3 rfl s3_e2)) ((aY.ext hA5 AV).cells 0 _ rfl rfl)),fun AT=>gT (AT 7 rfl) fun hg=>cQ.call zH (aC ((AT 8 rfl hg)) ((AT 9 rfl hg))) (vx _ _ _ _ _ _ _ _ _ _ _ _ _ _ _ _ _ _ _ _ _ 50000 (cY.matV (cY.ext hM1 AV) (by omega) (by omega)) (by decide) (ce.ext hSa_1 AV) (ce.ext hSb_1 AV) (ce.ext hSc_1 AV) (by decide) (by decide) (by decide) (by decide) (by decide)),fun AT=>aa (au (p:=(((((0:Int)=(0:Int))∧((50:Int)=(50:Int)))∧(ay 2 2 (cb (aE (1) (1) (0) (2)) 2 ((an (3) (6)) 0)) ((an (3) (1)) 0)))∧(ay 2 2 (bS (aE (1) (1) (0) (2)) 2 ((an (3) (6)) 0) 2) ((an (0) (1)) 0)))∧(ao 2 2 2 2 Sf_1.M (aE (1) (1) (0) (2)))) (q:=bt 2 2 2 2 2 2 2 2 (aE (2) (4) (3) (5)) Sf_1.M Sf_1.U Sf_1.V) (AT 7 rfl) (fun hq=>(AT 10 rfl hq))),fun AT=>aa (cj.move ((AT 11 rfl))),fun AT=>gT (AT 12 rfl) fun hg=>aa (af [.int .i64 ((2:Nat)),.int .i64 ((2:Nat)),.slice (some ⟨gh1,0,none⟩) (2) (kh1)] aV ((AU 1 rfl s1_e2)) ((aY.ext hA2 AV).cells 0 _ rfl rfl)),fun AT=>gT (AT 12 rfl) fun hg=>aa (af [.int .i64 ((2:Nat)),.int .i64 ((2:Nat)),sa_1,.int .i64 ((2:Nat)),.int .i64 ((2:Nat)),sb_1,.int .i64 ((2:Nat)),.int .i64 ((2:Nat)),sc_1] sK ((AU 3 rfl s3_e2)) ((aY.ext hA5 AV).cells 0 _ rfl rfl)),fun AT=>gT (AT 12 rfl) fun hg=>cQ.call sD (aC ((AT 13 rfl hg)) ((AT 14 rfl hg))) (mF _ _ _ _ _ _ _ _ _ _ _ _ _ _ _ _ _ _ _ _ _ 50000 (cY.matV (cY.ext hM1 AV) (by omega) (by omega)) (by decide) (ce.ext hSa_1 AV) (ce.ext hSb_1 AV) (ce.ext hSc_1 AV) (by decide) (by decide) (by decide) (by decide)),fun AT=>aa (au (p:=((((((0:Int)=(0:Int))∧((50:Int)=(50:Int)))∧(ay 2 2 (cb (aE (1) (1) (0) (2)) 2 ((an (3) (6)) 0)) ((an (3) (1)) 0)))∧(ay 2 2 (bS (aE (1) (1) (0) (2)) 2 ((an (3) (6)) 0) 2) ((an (0) (1)) 0)))∧(ao 2 2 2 2 Sf_1.M (aE (1) (1) (0) (2))))∧(bt 2 2 2 2 2 2 2 2 (aE (2) (4) (3) (5)) Sf_1.M Sf_1.U Sf_1.V)) (q:=bt 2 2 2 2 2 2 2 2 (aE (2) (4) (3) (5)) Sf_1.M Sf_1.U Sf_1.V) (AT 12 rfl) (fun hq=>(AT 15 rfl hq))),fun AT=>aa (cj.move ((AT 16 rfl))),fun AT=>gT (AT 17 rfl) fun hg=>aa (cj.fieldAddr dS ((AU 4 rfl s4_e2))),fun AT=>gT (AT 17 rfl) fun hg=>aa (af [.int .i64 ((2:Nat)),.int .i64 ((2:Nat)),sa_2] aV ((AT 18 rfl hg)) ((aY.ext hA7 AV).cells 0 _ rfl rfl)),fun AT=>gT (AT 17 rfl) fun hg=>cQ.mono (cQ.buildSlice (vs:= [(0,.int .i64 (0)),(1,.int .i64 (3)),(2,.int .i64 (0)),(3,.int .i64 (0))]) [.int .i64 (0)] [.int .i64 (0),.int .i64 (3),.int .i64 (0),.int .i64 (0)] fF me rfl (mr rfl rfl rfl rfl) rfl (by decide) mc rfl) fun v AX ⟨g,hv,hge,hx,hA⟩=>⟨hx,hv▸pV hA⟩,fun AT=>gT (AT 17 rfl) fun hg=>cQ.mono (cQ.call gW (cH rfl rfl rfl) (ik (AT 20 rfl hg) (by decide) (by decide))) fun v AX hv=>⟨hv.1,cO.low hv.2 AV.size⟩,fun AT=>gT (AT 17 rfl) fun hg=>cQ.call nz (aC ((AT 19 rfl hg)) rfl) (ij _ _ _ _ _ _ _ _ _ _ _ (bX.mk (ce.ext hSa_2 AV) (by decide) (by decide)) (cO.matV (AT 21 rfl hg))),fun AT=>aa (au (p:=(((((((0:Int)=(0:Int))∧((50:Int)=(50:Int)))∧(ay 2 2 (cb (aE (1) (1) (0) (2)) 2 ((an (3) (6)) 0)) ((an (3) (1)) 0)))∧(ay 2 2 (bS (aE (1) (1) (0) (2)) 2 ((an (3) (6)) 0) 2) ((an (0) (1)) 0)))∧(ao 2 2 2 2 Sf_1.M (aE (1) (1) (0) (2))))∧(bt 2 2 2 2 2 2 2 2 (aE (2) (4) (3) (5)) Sf_1.M Sf_1.U Sf_1.V))∧(bt 2 2 2 2 2 2 2 2 (aE (2) (4) (3) (5)) Sf_1.M Sf_1.U Sf_1.V)) (q:=ao 2 2 2 2 Sf_2.M (aE (0) (3) (0) (0))) (AT 17 rfl) (fun hq=>(AT 22 rfl hq))),fun AT=>aa (cj.move ((AT 23 rfl))),fun AT=>gT (AT 24 rfl) fun hg=>aa (af [.int .i64 ((kf_3:Nat)),.int .i64 ((1:Nat)),sv1] aV ((AU 5 rfl s5_e2)) ((aY.ext hA9 AV).cells 0 _ rfl rfl)),fun AT=>gT (AT 24 rfl) fun hg=>cQ.mono (cQ.buildSlice (vs:= [(0,.int .i64 (2))]) [.int .i64 (0)] [.int .i64 (2)] fF me rfl (eS rfl) rfl (by decide) xr rfl) fun v AX ⟨g,hv,hge,hx,hA⟩=>⟨hx,hv▸zS hA⟩,fun AT=>gT (AT 24 rfl) fun hg=>cQ.mono (cQ.call gW (cH rfl rfl rfl) (tm (AT 26 rfl hg) (by decide))) fun v AX hv=>⟨hv.1,cO.low hv.2 AV.size⟩,fun AT=>gT (AT 24 rfl) fun hg=>cQ.call nz (aC ((AT 25 rfl hg)) rfl) (ij _ _ _ _ _ _ _ _ _ _ _ (bX.mk (ce.ext hS1 AV) (by omega) (by decide)) (cO.matV (AT 27 rfl hg))),fun AT=>aa (au (p:=((((((((0:Int)=(0:Int))∧((50:Int)=(50:Int)))∧(ay 2 2 (cb (aE (1) (1) (0) (2)) 2 ((an (3) (6)) 0)) ((an (3) (1)) 0)))∧(ay 2 2 (bS (aE (1) (1) (0) (2)) 2 ((an (3) (6)) 0) 2) ((an (0) (1)) 0)))∧(ao 2 2 2 2 Sf_1.M (aE (1) (1) (0) (2))))∧(bt 2 2 2 2 2 2 2 2 (aE (2) (4) (3) (5)) Sf_1.M Sf_1.U Sf_1.V))∧(bt 2 2 2 2 2 2 2 2 (aE (2) (4) (3) (5)) Sf_1.M Sf_1.U Sf_1.V))∧(ao 2 2 2 2 Sf_2.M (aE (0) (3) (0) (0)))) (q:=ao kf_3 1 1 1 Sf_3.M (fun _ _=>(2))) (AT 24 rfl) (fun hq=>(AT 28 rfl hq))),fun AT=>aa (cj.move ((AT 29 rfl))),fun AT=>gT (AT 30 rfl) fun hg=>aa (af [.int .i64 ((2:Nat)),.int .i64 ((2:Nat)),.slice (some ⟨gh2,0,none⟩) (2) (kh2)] aV ((AU 2 rfl s2_e2)) ((aY.ext hA4 AV).cells 0 _ rfl rfl)),fun AT=>gT (AT 30 rfl) fun hg=>cQ.call nw (aL ((AT 31 rfl hg))) (qn _ _ _ _ _ _ (cY.matV (cY.ext hM2 AV) (by omega) (by omega))),fun AT=>aa (au (p:=(((((((((0:Int)=(0:Int))∧((50:Int)=(50:Int)))∧(ay 2 2 (cb (aE (1) (1) (0) (2)) 2 ((an (3) (6)) 0)) ((an (3) (1)) 0)))∧(ay 2 2 (bS (aE (1) (1) (0) (2)) 2 ((an (3) (6)) 0) 2) ((an (0) (1)) 0)))∧(ao 2 2 2 2 Sf_1.M (aE (1) (1) (0) (2))))∧(bt 2 2 2 2 2 2 2 2 (aE (2) (4) (3) (5)) Sf_1.M Sf_1.U Sf_1.V))∧(bt 2 2 2 2 2 2 2 2 (aE (2) (4) (3) (5)) Sf_1.M Sf_1.U Sf_1.V))∧(ao 2 2 2 2 Sf_2.M (aE (0) (3) (0) (0))))∧(ao kf_3 1 1 1 Sf_3.M (fun _ _=>(2)))) (q:=ck 2 2 (aE (1) (1) (0) (2))) (AT 30 rfl) (fun hq=>(AT 32 rfl hq))),fun AT=>aa (cj.move ((AT 33 rfl))),fun AT=>gT (AT 34 rfl) fun hg=>aa (af [.int .i64 ((2:Nat)),.int .i64 ((2:Nat)),.slice (some ⟨gh1,0,none⟩) (2) (kh1)] aV ((AU 1 rfl s1_e2)) ((aY.ext hA2 AV).cells 0 _ rfl rfl)),fun AT=>gT (AT 34 rfl) fun hg=>cQ.call nw (aL ((AT 35 rfl hg))) (qn _ _ _ _ _ _ (cY.matV (cY.ext hM1 AV) (by omega) (by omega))),fun AT=>gT (AT 34 rfl) fun hg=>aa (cj.not (p:=ck 2 2 (aE (2) (4) (3) (5))) (AT 36 rfl hg)),fun AT=>aa (au (p:=((((((((((0:Int)=(0:Int))∧((50:Int)=(50:Int)))∧(ay 2 2 (cb (aE (1) (1) (0) (2)) 2 ((an (3) (6)) 0)) ((an (3) (1)) 0)))∧(ay 2 2 (bS (aE (1) (1) (0) (2)) 2 ((an (3) (6)) 0) 2) ((an (0) (1)) 0)))∧(ao 2 2 2 2 Sf_1.M (aE (1) (1) (0) (2))))∧(bt 2 2 2 2 2 2 2 2 (aE (2) (4) (3) (5)) Sf_1.M Sf_1.U Sf_1.V))∧(bt 2 2 2 2 2 2 2 2 (aE (2) (4) (3) (5)) Sf_1.M Sf_1.U Sf_1.V))∧(ao 2 2 2 2 Sf_2.M (aE (0) (3) (0) (0))))∧(ao kf_3 1 1 1 Sf_3.M (fun _ _=>(2))))∧(ck 2 2 (aE (1) (1) (0) (2)))) (q:=¬(ck 2 2 (aE (2) (4) (3) (5)))) (AT 34 rfl) (fun hq=>(AT 37 rfl hq))),fun AT=>aa (cj.move ((AT 38 rfl))),fun AT=>gT (AT 39 rfl) fun hg=>aa (cj.build (vs:= []) [(0,1),(1,1),(2,1)] jR cn (ms) rfl),fun AT=>gT (AT 39 rfl) fun hg=>cQ.call nw (aL ((AT 40 rfl hg))) (qn _ _ _ _ _ _ (mu _ 0 (by decide))),fun AT=>aa (au (p:=(((((((((((0:Int)=(0:Int))∧((50:Int)=(50:Int)))∧(ay 2 2 (cb (aE (1) (1) (0) (2)) 2 ((an (3) (6)) 0)) ((an (3) (1)) 0)))∧(ay 2 2 (bS (aE (1) (1) (0) (2)) 2 ((an (3) (6)) 0) 2) ((an (0) (1)) 0)))∧(ao 2 2 2 2 Sf_1.M (aE (1) (1) (0) (2))))∧(bt 2 2 2 2 2 2 2 2 (aE (2) (4) (3) (5)) Sf_1.M Sf_1.U Sf_1.V))∧(bt 2 2 2 2 2 2 2 2 (aE (2) (4) (3) (5)) Sf_1.M Sf_1.U Sf_1.V))∧(ao 2 2 2 2 Sf_2.M (aE (0) (3) (0) (0))))∧(ao kf_3 1 1 1 Sf_3.M (fun _ _=>(2))))∧(ck 2 2 (aE (1) (1) (0) (2))))∧(¬(ck 2 2 (aE (2) (4) (3) (5))))) (q:=ck 0 0 (fun _ _=>0)) (AT 39 rfl) (fun hq=>(AT 41 rfl hq))),fun AT=>aa (cj.move ((AT 42 rfl))),fun AT=>gT (AT 43 rfl) fun hg=>aa (cj.build (vs:= [(0,.int .i64 (1))]) [(0,1),(1,1),(2,1)] jR cn (eS rfl) rfl),fun AT=>gT (AT 43 rfl) fun hg=>cQ.call nw (aL ((AT 44 rfl hg))) (zX _ _ 1 0 0 0 (fun _ _=>0) 1 (by decide) (by decide) (jz _ 0 0 _ 1 rfl (by decide))),fun AT=>gT (AT 43 rfl) fun hg=>aa (cj.not (p:=nd 1 0 0 0∧ck 1 0 (fun _ _=>0)) (AT 45 rfl hg)),fun AT=>aa (au (p:=((((((((((((0:Int)=(0:Int))∧((50:Int)=(50:Int)))∧(ay 2 2 (cb (aE (1) (1) (0) (2)) 2 ((an (3) (6)) 0)) ((an (3) (1)) 0)))∧(ay 2 2 (bS (aE (1) (1) (0) (2)) 2 ((an (3) (6)) 0) 2) ((an (0) (1)) 0)))∧(ao 2 2 2 2 Sf_1.M (aE (1) (1) (0) (2))))∧(bt 2 2 2 2 2 2 2 2 (aE (2) (4) (3) (5)) Sf_1.M Sf_1.U Sf_1.V))∧(bt 2 2 2 2 2 2 2 2 (aE (2) (4) (3) (5)) Sf_1.M Sf_1.U Sf_1.V))∧(ao 2 2 2 2 Sf_2.M (aE (0) (3) (0) (0))))∧(ao kf_3 1 1 1 Sf_3.M (fun _ _=>(2))))∧(ck 2 2 (aE (1) (1) (0) (2))))∧(¬(ck 2 2 (aE (2) (4) (3) (5)))))∧(ck 0 0 (fun _ _=>0))) (q:=¬(nd 1 0 0 0∧ck 1 0 (fun _ _=>0))) (AT 43 rfl) (fun hq=>(AT 46 rfl hq))),fun AT=>aa (cj.move ((AT 47 rfl))),fun AT=>gT (AT 48 rfl) fun hg=>aa (af [.int .i64 ((2:Nat)),.int .i64 ((2:Nat)),.slice (some ⟨gh1,0,none⟩) (2) (kh1)] aV ((AU 1 rfl s1_e2)) ((aY.ext hA2 AV).cells 0 _ rfl rfl)),fun AT=>gT (AT 48 rfl) fun hg=>aa (cj.build (vs:= []) [(0,3),(3,3),(6,3)] wM no (ms) rfl),fun AT=>gT (AT 48 rfl) fun hg=>cQ.call sD (aC ((AT 49 rfl hg)) ((AT 50 rfl hg))) (mF _ _ _ _ _ _ _ _ _ 0 0 0 0 0 0 (fun _ _=>0) (fun _ _=>0) (fun _ _=>0) 1 1 1 50000 (cY.matV (cY.ext hM1 AV) (by omega) (by omega)) (by decide) (jz _ 0 0 _ 1 rfl (by decide)) (jz _ 0 0 _ 1 rfl (by decide)) (jz _ 0 0 _ 1 rfl (by decide)) (by decide) (by decide) (by decide) (by decide)),fun AT=>gT (AT 48 rfl) fun hg=>aa (cj.not (p:=bt 2 2 0 0 0 0 0 0 (aE (2) (4) (3) (5)) (fun _ _=>0) (fun _ _=>0) (fun _ _=>0)) (AT 51 rfl hg)),fun AT=>aa (au (p:=(((((((((((((0:Int)=(0:Int))∧((50:Int)=(50:Int)))∧(ay 2 2 (cb (aE (1) (1) (0) (2)) 2 ((an (3) (6)) 0)) ((an (3) (1)) 0)))∧(ay 2 2 (bS (aE (1) (1) (0) (2)) 2 ((an (3) (6)) 0) 2) ((an (0) (1)) 0)))∧(ao 2 2 2 2 Sf_1.M (aE (1) (1) (0) (2))))∧(bt 2 2 2 2 2 2 2 2 (aE (2) (4) (3) (5)) Sf_1.M Sf_1.U Sf_1.V))∧(bt 2 2 2 2 2 2 2 2 (aE (2) (4) (3) (5)) Sf_1.M Sf_1.U Sf_1.V))∧(ao 2 2 2 2 Sf_2.M (aE (0) (3) (0) (0))))∧(ao kf_3 1 1 1 Sf_3.M (fun _ _=>(2))))∧(ck 2 2 (aE (1) (1) (0) (2))))∧(¬(ck 2 2 (aE (2) (4) (3) (5)))))∧(ck 0 0 (fun _ _=>0)))∧(¬(nd 1 0 0 0∧ck 1 0 (fun _ _=>0)))) (q:=¬(bt 2 2 0 0 0 0 0 0 (aE (2) (4) (3) (5)) (fun _ _=>0) (fun _ _=>0) (fun _ _=>0))) (AT 48 rfl) (fun hq=>(AT 52 rfl hq))),fun AT=>aa (cj.move ((AT 53 rfl))),fun AT=>gT (AT 54 rfl) fun hg=>aa (cj.build (vs:= [(1,.int .i64 (3))]) [(0,1),(1,1),(2,1)] jR cn (eS rfl) rfl),fun AT=>gT (AT 54 rfl) fun hg=>aa (cj.build (vs:= [(1,.int .i64 (3))]) [(0,1),(1,1),(2,1)] jR cn (eS rfl) rfl),fun AT=>gT (AT 54 rfl) fun hg=>cQ.call nA (aL (AT 56 rfl hg)) (ir _ _ _ _ _ _ 4 20000 (mu _ 3 (by decide)) (by decide) (fun i j hi _=>absurd hi (Nat.not_lt_zero _)) (by decide) (by decide) (by decide)),fun AT=>gT (AT 54 rfl) fun hg=>cQ.call sD (aC ((AT 55 rfl hg)) rfl) (uf (b:=50000) (mu _ 3 (by decide)) (AT 57 rfl hg) (by decide) (by decide) (by decide) (by decide)),fun AT=>aa (au (p:=((((((((((((((0:Int)=(0:Int))∧((50:Int)=(50:Int)))∧(ay 2 2 (cb (aE (1) (1) (0) (2)) 2 ((an (3) (6)) 0)) ((an (3) (1)) 0)))∧(ay 2 2 (bS (aE (1) (1) (0) (2)) 2 ((an (3) (6)) 0) 2) ((an (0) (1)) 0)))∧(ao 2 2 2 2 Sf_1.M (aE (1) (1) (0) (2))))∧(bt 2 2 2 2 2 2 2 2 (aE (2) (4) (3) (5)) Sf_1.M Sf_1.U Sf_1.V))∧(bt 2 2 2 2 2 2 2 2 (aE (2) (4) (3) (5)) Sf_1.M Sf_1.U Sf_1.V))∧(ao 2 2 2 2 Sf_2.M (aE (0) (3) (0) (0))))∧(ao kf_3 1 1 1 Sf_3.M (fun _ _=>(2))))∧(ck 2 2 (aE (1) (1) (0) (2))))∧(¬(ck 2 2 (aE (2) (4) (3) (5)))))∧(ck 0 0 (fun _ _=>0)))∧(¬(nd 1 0 0 0∧ck 1 0 (fun _ _=>0))))∧(¬(bt 2 2 0 0 0 0 0 0 (aE (2) (4) (3) (5)) (fun _ _=>0) (fun _ _=>0) (fun _ _=>0)))) (q:=True) (AT 54 rfl) (fun hq=>(AT 58 rfl hq))),trivial⟩) ?_;intro e3 w25 hx20 ho3 hf3;replace hX:=aA.trans hX hx20;have s125_e3:e3 125=_:=hf3 59 rfl;refine RL.p rfl rfl (cj.assign s125_e3) ?_;refine RL.nil ?_;refine WP.ret ?_;refine ⟨.bool (decide ((((((((((((((((0:Int)=(0:Int))∧((50:Int)=(50:Int)))∧(ay 2 2 (cb (aE (1) (1) (0) (2)) 2 ((an (3) (6)) 0)) ((an (3) (1)) 0)))∧(ay 2 2 (bS (aE (1) (1) (0) (2)) 2 ((an (3) (6)) 0) 2) ((an (0) (1)) 0)))∧(ao 2 2 2 2 Sf_1.M (aE (1) (1) (0) (2))))∧(bt 2 2 2 2 2 2 2 2 (aE (2) (4) (3) (5)) Sf_1.M Sf_1.U Sf_1.V))∧(bt 2 2 2 2 2 2 2 2 (aE (2) (4) (3) (5)) Sf_1.M Sf_1.U Sf_1.V))∧(ao 2 2 2 2 Sf_2.M (aE (0) (3) (0) (0))))∧(ao kf_3 1 1 1 Sf_3.M (fun _ _=>(2))))∧(ck 2 2 (aE (1) (1) (0) (2))))∧(¬(ck 2 2 (aE (2) (4) (3) (5)))))∧(ck 0 0 (fun _ _=>0)))∧(¬(nd 1 0 0 0∧ck 1 0 (fun _ _=>0))))∧(¬(bt 2 2 0 0 0 0 0 0 (aE (2) (4) (3) (5)) (fun _ _=>0) (fun _ _=>0) (fun _ _=>0))))∧(True))),Am.one (fw.tmp rfl),_,rfl,hX,?_⟩;dsimp only;exact congrArg _ (decide_eq_true ⟨⟨⟨⟨⟨⟨⟨⟨⟨⟨⟨⟨⟨⟨rfl,rfl⟩,(by decide)⟩,(by decide)⟩,hZa⟩,hHf_1.chk⟩,hHf_1.chk⟩,hZb⟩,hZc⟩,(by decide)⟩,(by decide)⟩,(by decide)⟩,(by decide)⟩,(fun h=>absurd h.1.2.1 (by decide))⟩,trivial⟩)
end Go.TL
namespace Go.TL
open Go.RowKit Go.Proofs
set_option linter.unusedVariables false
theorem zT:∀r,r<5→bB 4 r≤20000∧bR 4 r≤20000:=by decide
def qQ (w:World) (v:Value) (r c e0:Nat) (M0:Nat→Nat→Int) (b:Nat):Prop:=∃k S,Herm r c e0 M0 k S∧bX w v k c S.M b
theorem qQ.ext {w w':World} {v:Value} {r c e0 b:Nat} {M0:Nat→Nat→Int} (h:qQ w v r c e0 M0 b) (hx:aA w w'):qQ w' v r c e0 M0 b:=by obtain ⟨k,S,h1,h2⟩:=h;exact ⟨k,S,h1,h2.ext hx⟩
theorem oZ (r c e0:Nat) (M0:Nat→Nat→Int) (b:Nat):bq (fun v w=>qQ w v r c e0 M0 b):=fun _ _ _ h hx=>h.ext hx
instance (r c e0:Nat) (M0:Nat→Nat→Int) (b:Nat):Nonempty (bq (fun v w=>qQ w v r c e0 M0 b)):=⟨oZ r c e0 M0 b⟩
def qO (w:World) (v:Value) (r c e0:Nat) (M0:Nat→Nat→Int) (b:Nat):Prop:=∃k S,Herm r c e0 M0 k S∧bX w v r c S.M b
theorem qO.ext {w w':World} {v:Value} {r c e0 b:Nat} {M0:Nat→Nat→Int} (h:qO w v r c e0 M0 b) (hx:aA w w'):qO w' v r c e0 M0 b:=by obtain ⟨k,S,h1,h2⟩:=h;exact ⟨k,S,h1,h2.ext hx⟩
theorem oX (r c e0:Nat) (M0:Nat→Nat→Int) (b:Nat):bq (fun v w=>qO w v r c e0 M0 b):=fun _ _ _ h hx=>h.ext hx
instance (r c e0:Nat) (M0:Nat→Nat→Int) (b:Nat):Nonempty (bq (fun v w=>qO w v r c e0 M0 b)):=⟨oX r c e0 M0 b⟩
end Go.TL
namespace Go.TL
set_option linter.unusedVariables false
def nF (k:Nat):Int:=if k % 2=1 then -1 else 1
def cN (k j:Nat):Nat:=if j<k then j else j + 1
def bG (A:Nat→Nat→Int) (k:Nat):Nat→Nat→Int:=fun i j=>A (i + 1) (cN k j)
def bP:Nat→(Nat→Nat→Int)→Int
  | 0,_=>1
  | n + 1,A=>av (n + 1) (fun k=>nF k*(A 0 k*bP n (bG A k)))
theorem cm:∀{n:Nat} {A B:Nat→Nat→Int},(∀i j,i<n→j<n→A i j=B i j)→bP n A=bP n B
  | 0,_,_,_=>rfl
  | n + 1,A,B,h=>by
    simp only [bP];refine ar fun k hk=> ?_
    rw [h 0 k (by omega) hk,cm (n:=n) (A:=bG A k) (B:=bG B k) fun i j hi hj=>h (i + 1) _ (by omega) (by unfold cN;split<;>omega)]
theorem fH (f g:Nat→Int) (a:Int):∀n,av n (fun k=>f k + a*g k)=av n f + a*av n g
  | 0=>by simp [av]
  | n + 1=>by simp only [av];rw [fH f g a n,Int.mul_add];omega
theorem kF:∀{n:Nat} {A B C:Nat→Nat→Int} {i:Nat} (a:Int),i<n→(∀x j,x≠i→A x j=B x j∧A x j=C x j)→(∀j,A i j=B i j + a*C i j)→bP n A=bP n B + a*bP n C
  | 0,_,_,_,_,_,hi,_,_=>absurd hi (Nat.not_lt_zero _)
  | n + 1,A,B,C,0,a,hi,h,hA=>by
    simp only [bP];rw [←fH];refine ar fun k hk=> ?_
    have e1:bP n (bG A k)=bP n (bG B k):=cm fun x j _ _=>(h (x + 1) _ (by omega)).1
    have e2:bP n (bG A k)=bP n (bG C k):=cm fun x j _ _=>(h (x + 1) _ (by omega)).2
    rw [hA k,←e1,←e2,Int.add_mul,Int.mul_add,Int.mul_assoc a,Int.mul_left_comm (nF k) a]
  | n + 1,A,B,C,i + 1,a,hi,h,hA=>by
    simp only [bP];rw [←fH];refine ar fun k hk=> ?_
    have e:=kF (n:=n) (A:=bG A k) (B:=bG B k) (C:=bG C k) (i:=i) a (by omega) (fun x j hx=>h (x + 1) _ (by omega)) (fun j=>hA _);rw [e,←(h 0 k (by omega)).1,←(h 0 k (by omega)).2,Int.mul_add,Int.mul_add,Int.mul_left_comm (A 0 k) a,Int.mul_left_comm (nF k) a]
end Go.TL
namespace Go.TL
set_option linter.unusedVariables false
def gS (p i:Nat):Nat:=if i<p then i else i + 1
theorem ln {p:Nat} (f:Nat→Int):∀{n:Nat},p<n + 1→av (n + 1) f=f p + av n (fun i=>f (gS p i))
  | 0,h=>by
    obtain rfl:p=0:=by omega
    simp [av]
  | n + 1,h=>by
    by_cases e:p=n + 1
    · subst e
      have h1:av (n + 1) (fun i=>f (gS (n + 1) i))=av (n + 1) f:=ar fun i hi=>by unfold gS;rw [if_pos hi]
      rw [h1];simp only [av];omega
    · have ih:=ln f (n:=n) (p:=p) (by omega)
      have h2:gS p n=n + 1:=by unfold gS;rw [if_neg (by omega)]
      show av (n + 1) f + f (n + 1)=f p + (av n (fun i=>f (gS p i)) + f (gS p n));rw [ih,h2];omega
theorem xX (p i:Nat):gS p i≠p:=by unfold gS;split<;>omega
theorem xY {p i n:Nat} (hi:i<n):gS p i<n + 1:=by unfold gS;split<;>omega
theorem mE:∀(n k:Nat),n<k→∀A:Nat→Nat→Int,∃x:Nat→Int,(∃i,i<k∧x i≠0)∧∀a,a<n→av k (fun i=>A a i*x i)=0
  | 0,k,h,A=>⟨fun _=>1,⟨0,h,by decide⟩,fun a ha=>absurd ha (by omega)⟩
  | n + 1,k,h,A=>by
    by_cases hz:∀i,i<k→A n i=0
    · obtain ⟨x,hx,hs⟩:=mE n k (by omega) A
      refine ⟨x,hx,fun a ha=> ?_⟩
      by_cases e:a=n
      · subst e;exact cI fun i hi=>by rw [hz i hi,Int.zero_mul]
      · exact hs a (by omega)
    · have hp:∃p,p<k∧A n p≠0:=Classical.byContradiction fun hn=>hz fun i hi=>Classical.byContradiction fun e=>hn ⟨i,hi,e⟩
      obtain ⟨p,hp,hA⟩:=hp;obtain ⟨m,rfl⟩:∃m,k=m + 1:=⟨k - 1,by omega⟩
      obtain ⟨x,⟨i0,hi0,hx0⟩,hs⟩:=mE n m (by omega) (fun a i=>A n p*A a (gS p i) - A a p*A n (gS p i));have hch:∃y:Nat→Int,y p= -av m (fun i=>A n (gS p i)*x i)∧∀i,i<m→y (gS p i)=A n p*x i:=by
        refine ⟨fun c=>if c=p then -av m (fun i=>A n (gS p i)*x i) else A n p*x (if c<p then c else c - 1),by simp,fun i hi=> ?_⟩;have h2:(if gS p i<p then gS p i else gS p i - 1)=i:=by
          unfold gS
          by_cases h:i<p
          · rw [if_pos h,if_pos h]
          · rw [if_neg h,if_neg (by omega),Nat.add_sub_cancel]
        simp only [if_neg (xX p i),h2]
      obtain ⟨y,hy1,hy2⟩:=hch;have hsum:∀a,av (m + 1) (fun i=>A a i*y i)=av m (fun i=>(A n p*A a (gS p i) - A a p*A n (gS p i))*x i):=fun a=>by
        rw [ln (fun i=>A a i*y i) hp];rw [hy1,ar (f:=fun i=>A a (gS p i)*y (gS p i)) (g:=fun i=>A n p*(A a (gS p i)*x i)) fun i hi=>by rw [hy2 i hi,Int.mul_left_comm]];rw [ar (f:=fun i=>(A n p*A a (gS p i) - A a p*A n (gS p i))*x i) (g:=fun i=>A n p*(A a (gS p i)*x i) - A a p*(A n (gS p i)*x i)) fun i hi=>by rw [Int.sub_mul,Int.mul_assoc,Int.mul_assoc]];rw [gX,dX (A n p),dX (A a p),Int.mul_neg];omega
      refine ⟨y,⟨gS p i0,xY hi0,by rw [hy2 i0 hi0];exact Int.mul_ne_zero hA hx0⟩,fun a ha=> ?_⟩;rw [hsum a]
      by_cases e:a=n
      · subst e
        refine cI fun i hi=> ?_
        rw [Int.sub_self,Int.zero_mul]
      · exact hs a (by omega)
theorem eI.free {k c:Nat} {M:Nat→Nat→Int} {P:Nat→Nat} (h:eI k c M P) {x:Nat→Int} (hx:∀j,j<c→av k (fun i=>x i*M i j)=0):∀i,i<k→x i=0:=by
  rcases h.lead (a:=x) (v:=fun _=>0) (fun j hj=>(hx j hj).symm) with h1 | ⟨j,_,_,h2,_⟩
  · exact h1
  · exact absurd rfl h2
theorem eI.le {k k' c:Nat} {M M':Nat→Nat→Int} {P P':Nat→Nat} (h:eI k c M P) (h':eI k' c M' P') (hs:∀i,i<k'→fC k c M (M' i)):k'≤k:=by
  apply Classical.byContradiction;intro hn
  have hc:∃C:Nat→Nat→Int,∀i,i<k'→∀j,j<c→M' i j=av k (fun n=>C i n*M n j):=by
    have:∀i,∃a:Nat→Int,i<k'→∀j,j<c→M' i j=av k (fun n=>a n*M n j):=fun i=>by
      by_cases hi:i<k'
      · obtain ⟨a,ha⟩:=hs i hi;exact ⟨a,fun _=>ha⟩
      · exact ⟨fun _=>0,fun h=>absurd h hi⟩
    exact ⟨fun i=>(this i).choose,fun i hi=>(this i).choose_spec hi⟩
  obtain ⟨C,hC⟩:=hc;obtain ⟨x,⟨i,hi,hxi⟩,hx⟩:=mE k k' (by omega) (fun n i=>C i n);refine hxi (h'.free (x:=x) (fun j hj=> ?_) i hi);rw [ar (g:=fun i=>x i*bc k C M i j) fun i hi=>by rw [hC i hi j hj];rfl,dG];refine cI fun n hn=> ?_
  rw [ar (g:=fun i=>C i n*x i) fun i _=>Int.mul_comm _ _,hx n hn,Int.zero_mul]
theorem sT {r r' c:Nat} {A A':Nat→Nat→Int} (h:∀u:Nat→Int,(∀i,i<r→av c (fun j=>u j*A i j)=0)↔∀i,i<r'→av c (fun j=>u j*A' i j)=0) {v:Nat→Int}:yB r c A v↔yB r' c A' v:=
  ⟨fun hs u hu=>hs u ((h u).2 hu),fun hs u hu=>hs u ((h u).1 hu)⟩
section
variable {r c k e0:Nat} {A M:Nat→Nat→Int}
structure SatB (r c:Nat) (A:Nat→Nat→Int) (k:Nat) (M:Nat→Nat→Int):Prop where
  ech:∃P,eI k c M P
  lat:∀v,fC k c M v↔yB r c A v
theorem eI.kc {P:Nat→Nat} (h:eI k c M P):k≤c:=by
  have:∀n,n≤k→∀i,i<n→i≤P i:=by
    intro n
    induction n with
    | zero=>intro _ i hi;omega
    | succ n ih=>
      intro hn i hi
      by_cases e:i=n
      · subst e
        rcases Nat.eq_zero_or_pos i with h0 | h0
        · omega
        · have:=ih (by omega) (i - 1) (by omega)
          have:=((h i (by omega)).2.2.2 (i - 1) (by omega)).1;omega
      · exact ih (by omega) i (by omega)
  rcases Nat.eq_zero_or_pos k with h0 | h0
  · omega
  · have:=this k (Nat.le_refl _) (k - 1) (by omega)
    have:=(h (k - 1) (by omega)).1;omega
theorem SatB.kc (h:SatB r c A k M):k≤c:=by obtain ⟨P,hP⟩:=h.ech;exact hP.kc
theorem SatB.isH (h:SatB r c A k M):ck k c M:=by obtain ⟨P,hP⟩:=h.ech;exact hP.isH fun a h1 h2=>absurd h2 (by omega)
theorem SatB.some (h:SatB r c A k M) {i:Nat} (hi:i<k):0≤piv (M i) c:=by
  obtain ⟨P,hP⟩:=h.ech;obtain ⟨g1,g2,g3,_⟩:=hP i hi;rw [oO g1 (by omega) g3];omega
theorem SatB.row (h:SatB r c A k M) {i:Nat} (hi:i<r):fC k c M (A i):=(h.lat _).2 (vO (fC.row hi))
theorem SatB.same {r2 k2:Nat} {A2 M2:Nat→Nat→Int} (h:SatB r c A k M) (h2:SatB r2 c A2 k2 M2) (hp:∀u:Nat→Int,(∀i,i<r2→av c (fun j=>u j*A2 i j)=0)↔∀i,i<r→av c (fun j=>u j*A i j)=0):k2=k∧∀i j,i<k2→j<c→M2 i j=M i j:=by
  obtain ⟨P,hP⟩:=h.ech;obtain ⟨P2,hP2⟩:=h2.ech;exact hP2.unique hP fun v=>(h2.lat v).trans ((sT hp).trans (h.lat v).symm)
end
end Go.TL
namespace Go.TL
open Go.RowKit Go.Proofs
set_option linter.unusedVariables false
theorem SatB.free {r c k:Nat} {A M:Nat→Nat→Int} (h:SatB r c A k M):∀u:Nat→Int,(∀j,j<c→av k (fun i=>u i*M i j)=0)→∀i,i<k→u i=0:=by
  obtain ⟨P,hP⟩:=h.ech;exact fun u hu=>hP.free hu
theorem Al.bd {r c e0 e1 e2 k:Nat} {A M:Nat→Nat→Int} (h:Al r c e0 e1 A k M) (he:∀k,k≤c→eR (eR e1 c k) (c - k) (c - k)≤e2) {i j:Nat} (hi:i<k) (hj:j<c):(M i j).natAbs≤2^e2:=by
  obtain ⟨k1,K1,h1,h2⟩:=h;exact h2.bd he hi hj
end Go.TL
namespace Go.TL
set_option linter.unusedVariables false
def dW (k j:Nat):Nat:=if j<k then j else j - 1
theorem iG {k j:Nat} (h:j≠k):cN k (dW k j)=j:=by
  unfold cN dW
  by_cases e:j<k
  · rw [if_pos e,if_pos e]
  · rw [if_neg e,if_neg (by omega)];omega
theorem qW (k j:Nat):dW k (cN k j)=j:=by
  unfold cN dW
  by_cases e:j<k
  · rw [if_pos e,if_pos e]
  · rw [if_neg e,if_neg (by omega)];omega
theorem pN (k j:Nat):cN k j≠k:=by unfold cN;split<;>omega
theorem nE (k:Nat):nF (k + 1)= -nF k:=by unfold nF;split<;>split<;>omega
theorem lp {f:Nat→Int} {c:Nat}:∀{n:Nat},c + 1<n→(∀k,k<n→k≠c→k≠c + 1→f k=0)→f c + f (c + 1)=0→av n f=0
  | 0,h,_,_=>absurd h (Nat.not_lt_zero _)
  | n + 1,hc,h0,h1=>by
    by_cases e:c + 1=n
    · subst e
      simp only [av];rw [cI fun k hk=>h0 k (by omega) (by omega) (by omega)];omega
    · simp only [av]
      rw [lp (n:=n) (by omega) (fun k hk=>h0 k (by omega)) h1,h0 n (by omega) (by omega) (by omega)];rfl
theorem lK:∀{n:Nat} {A B C:Nat→Nat→Int} {c:Nat} (a:Int),c<n→(∀x j,j≠c→A x j=B x j∧A x j=C x j)→(∀x,A x c=B x c + a*C x c)→bP n A=bP n B + a*bP n C
  | 0,_,_,_,_,_,hi,_,_=>absurd hi (Nat.not_lt_zero _)
  | n + 1,A,B,C,c,a,hi,h,hA=>by
    simp only [bP];rw [←fH];refine ar fun k hk=> ?_
    by_cases e:k=c
    · subst e
      have e1:bP n (bG A k)=bP n (bG B k):=cm fun x j _ _=>(h (x + 1) _ (pN k j)).1
      have e2:bP n (bG A k)=bP n (bG C k):=cm fun x j _ _=>(h (x + 1) _ (pN k j)).2
      rw [hA 0,←e1,←e2,Int.add_mul,Int.mul_add,Int.mul_assoc a,Int.mul_left_comm (nF k) a]
    · have e0:bP n (bG A k)=bP n (bG B k) + a*bP n (bG C k):=by
        refine lK (c:=dW k c) a (by unfold dW;split<;>omega) (fun x j hj=>h (x + 1) _ fun e2=>hj ?_) (fun x=> ?_)
        · rw [←e2,qW]
        · show A (x + 1) (cN k (dW k c))=B (x + 1) (cN k (dW k c)) + a*C (x + 1) (cN k (dW k c))
          rw [iG (Ne.symm e)];exact hA _
      rw [e0,←(h 0 k e).1,←(h 0 k e).2,Int.mul_add,Int.mul_add,Int.mul_left_comm (A 0 k) a,Int.mul_left_comm (nF k) a]
theorem iU:∀{n:Nat} {A:Nat→Nat→Int} {c:Nat},c + 1<n→(∀x,x<n→A x c=A x (c + 1))→bP n A=0
  | 0,_,_,hc,_=>absurd hc (Nat.not_lt_zero _)
  | n + 1,A,c,hc,h=>by
    simp only [bP];refine lp hc (fun k hk h1 h2=> ?_) ?_
    · rw [iU (n:=n) (A:=bG A k) (c:=dW k c) (by unfold dW;split<;>omega) (fun x hx=> ?_),Int.mul_zero,Int.mul_zero]
      have e1:cN k (dW k c)=c:=iG (Ne.symm h1);have e2:cN k (dW k c + 1)=c + 1:=by unfold cN dW;split<;>split<;>omega
      show A (x + 1) (cN k (dW k c))=A (x + 1) (cN k (dW k c + 1));rw [e1,e2];exact h _ (by omega)
    · have e:bP n (bG A (c + 1))=bP n (bG A c):=cm fun x j hx _=>by
        show A (x + 1) (cN (c + 1) j)=A (x + 1) (cN c j)
        by_cases hj:j=c
        · subst hj
          rw [show cN (j + 1) j=j by unfold cN;split<;>omega,show cN j j=j + 1 by unfold cN;split<;>omega];exact h _ (by omega)
        · rw [show cN (c + 1) j=cN c j by unfold cN;split<;>split<;>omega]
      rw [e,nE,h 0 (by omega),Int.neg_mul];omega
structure Alt (n:Nat) (F:(Nat→Nat→Int)→Int):Prop where
  congr:∀{A B:Nat→Nat→Int},(∀i j,i<n→j<n→A i j=B i j)→F A=F B
  lin:∀{A B C:Nat→Nat→Int} {i:Nat} (a:Int),i<n→(∀x j,x≠i→A x j=B x j∧A x j=C x j)→(∀j,A i j=B i j + a*C i j)→F A=F B + a*F C
  alt:∀{A:Nat→Nat→Int} {i:Nat},i + 1<n→(∀j,j<n→A i j=A (i + 1) j)→F A=0
def eP (A:Nat→Nat→Int) (i:Nat) (u v:Nat→Int):Nat→Nat→Int:=fun x j=>if x=i then u j else if x=i + 1 then v j else A x j
section
variable {n:Nat} {F:(Nat→Nat→Int)→Int} {A B:Nat→Nat→Int}
theorem Alt.swap (h:Alt n F) {i:Nat} (hi:i + 1<n) (hB:∀x j,B x j=if x=i then A (i + 1) j else if x=i + 1 then A i j else A x j):F B= -F A:=by
  have l1:∀u v w,F (eP A i (fun j=>u j + v j) w)=F (eP A i u w) + F (eP A i v w):=fun u v w=>by
    have:=h.lin (A:=eP A i (fun j=>u j + v j) w) (B:=eP A i u w) (C:=eP A i v w) (i:=i) 1 (by omega) (fun x j hx=>by simp [eP,hx]) (fun j=>by simp [eP]);omega
  have l2:∀u v w,F (eP A i w (fun j=>u j + v j))=F (eP A i w u) + F (eP A i w v):=fun u v w=>by
    have:=h.lin (A:=eP A i w (fun j=>u j + v j)) (B:=eP A i w u) (C:=eP A i w v) (i:=i + 1) 1 (by omega) (fun x j hx=>by simp [eP,hx]) (fun j=>by simp [eP]);omega
  have z:∀u,F (eP A i u u)=0:=fun u=>h.alt (i:=i) hi fun j _=>by simp [eP]
  have a1:F (eP A i (A i) (A (i + 1)))=F A:=h.congr fun x j _ _=>by
    simp only [eP]
    split
    · rename_i e;rw [e]
    · split
      · rename_i e;rw [e]
      · rfl
  have a2:F (eP A i (A (i + 1)) (A i))=F B:=h.congr fun x j _ _=>(hB x j).symm
  have s:=z (fun j=>A i j + A (i + 1) j);rw [l1,l2,l2,z,z,a1,a2] at s;omega
theorem Alt.any (h:Alt n F):∀(d:Nat) {i:Nat} {A:Nat→Nat→Int},i + d + 1<n→(∀j,j<n→A i j=A (i + d + 1) j)→F A=0
  | 0,_,_,hi,he=>h.alt hi he
  | d + 1,i,A,hi,he=>by
    have s:=h.swap (A:=A) (i:=i + d + 1) (B:=fun x j=>if x=i + d + 1 then A (i + d + 1 + 1) j else if x=i + d + 1 + 1 then A (i + d + 1) j else A x j) hi (fun x j=>rfl);rw [Alt.any h d (i:=i) (by omega) (fun j hj=>by
      show (if i=i + d + 1 then A (i + d + 1 + 1) j else if i=i + d + 1 + 1 then A (i + d + 1) j else A i j)=(if i + d + 1=i + d + 1 then A (i + d + 1 + 1) j else if i + d + 1=i + d + 1 + 1 then A (i + d + 1) j else A (i + d + 1) j);rw [if_neg (by omega),if_neg (by omega),if_pos rfl];exact he j hj)] at s
    omega
theorem Alt.same (h:Alt n F) {x y:Nat} (hx:x<n) (hy:y<n) (hxy:x≠y) (he:∀j,j<n→A x j=A y j):F A=0:=by
  rcases Nat.lt_or_gt_of_ne hxy with e | e
  · exact h.any (y - x - 1) (i:=x) (by omega) (fun j hj=>by rw [show x + (y - x - 1) + 1=y by omega];exact he j hj)
  · exact h.any (x - y - 1) (i:=y) (by omega) (fun j hj=>by rw [show y + (x - y - 1) + 1=x by omega];exact (he j hj).symm)
theorem Alt.addm (h:Alt n F) {x y:Nat} (hx:x<n) (hy:y<n) (hxy:x≠y) (a:Int) (hB:∀u j,B u j=if u=x then A x j + a*A y j else A u j):F B=F A:=by
  have l:=h.lin (A:=B) (B:=A) (C:=fun u j=>if u=x then A y j else A u j) (i:=x) a hx (fun u j hu=>by rw [hB];simp [hu]) (fun j=>by rw [hB];simp);rw [h.same (A:=fun u j=>if u=x then A y j else A u j) hx hy hxy (fun j _=>by simp [Ne.symm hxy])] at l;omega
theorem Alt.zero (h:Alt n F) {i:Nat} (hi:i<n) (hz:∀j,A i j=0):F A=0:=by
  have:=h.lin (A:=A) (B:=A) (C:=A) (i:=i) 1 hi (fun _ _ _=>⟨rfl,rfl⟩) (fun j=>by rw [hz];rfl);omega
def il (A:Nat→Nat→Int) (i:Nat) (v:Nat→Int):Nat→Nat→Int:=fun x j=>if x=i then v j else A x j
theorem Alt.rowsum (h:Alt n F) {i:Nat} (hi:i<n) (c:Nat→Int) (V:Nat→Nat→Int):∀(m:Nat) {A:Nat→Nat→Int},(∀j,A i j=av m (fun k=>c k*V k j))→F A=av m (fun k=>c k*F (il A i (V k)))
  | 0,A,hA=>h.zero hi fun j=>by rw [hA];rfl
  | m + 1,A,hA=>by
    have l:=h.lin (A:=A) (B:=il A i (fun j=>av m (fun k=>c k*V k j))) (C:=il A i (V m)) (i:=i) (c m) hi (fun x j hx=>by simp [il,hx]) (fun j=>by rw [hA];simp [il,av]);rw [l,Alt.rowsum h hi c V m (A:=il A i (fun j=>av m (fun k=>c k*V k j))) (fun j=>by simp [il])];simp only [av]
    congr 1
    refine ar fun k _=> ?_
    congr 2
    funext x j
    simp only [il]
    split<;>rfl
def gD (k:Nat) (B:Nat→Nat→Int):Nat→Nat→Int:=fun x j=>if x=0 then ct k j else if j=k then 0 else B (x - 1) (dW k j)
def prm (k m:Nat):Nat→Nat→Int:=fun i j=>if i<m then ct i j else if i=m then ct k j else if i≤k then ct (i - 1) j else ct i j
theorem Alt.prm_at (h:Alt (n + 1) F) {k:Nat} (hk:k<n + 1):∀m,m≤k→F (prm k 0)=nF m*F (prm k m)
  | 0,_=>by simp [nF]
  | m + 1,hm=>by
    have s:=h.swap (A:=prm k m) (B:=prm k (m + 1)) (i:=m) (by omega) (fun x j=>by
      unfold prm
      by_cases e1:x=m
      · subst e1
        rw [if_pos (by omega),if_pos rfl,if_neg (by omega),if_neg (by omega),if_pos (by omega)];rfl
      · rw [if_neg e1]
        by_cases e2:x=m + 1
        · subst e2
          rw [if_neg (by omega),if_pos rfl,if_pos rfl,if_neg (by omega),if_pos rfl]
        · rw [if_neg e2]
          by_cases e3:x<m
          · rw [if_pos (by omega),if_neg e2,if_pos e3]
          · rw [if_neg (by omega),if_neg e2,if_neg e3,if_neg e1])
    rw [Alt.prm_at h hk m (by omega),nE,s,Int.neg_mul_neg]
theorem Alt.perm (h:Alt (n + 1) F) {k:Nat} (hk:k<n + 1):F (gD k ct)=nF k*F ct:=by
  have e1:F (gD k ct)=F (prm k 0):=h.congr fun x j _ _=>by
    show (if x=0 then ct k j else if j=k then 0 else ct (x - 1) (dW k j))=(if x<0 then ct x j else if x=0 then ct k j else if x≤k then ct (x - 1) j else ct x j)
    by_cases e:x=0
    · rw [if_pos e,if_neg (show ¬x<0 by omega),if_pos e]
    · rw [if_neg e,if_neg (show ¬x<0 by omega),if_neg e]
      unfold ct dW
      by_cases ej:j=k
      · rw [if_pos ej]
        by_cases b:x≤k
        · rw [if_pos b,if_neg (by omega)]
        · rw [if_neg b,if_neg (by omega)]
      · rw [if_neg ej]
        by_cases a:j<k
        · rw [if_pos a]
          by_cases b:x≤k
          · rw [if_pos b]
          · rw [if_neg b,if_neg (by omega),if_neg (by omega)]
        · rw [if_neg a]
          by_cases b:x≤k
          · rw [if_pos b,if_neg (by omega),if_neg (by omega)]
          · rw [if_neg b]
            by_cases c:x=j
            · rw [if_pos c,if_pos (by omega)]
            · rw [if_neg c,if_neg (by omega)]
  have e2:F (prm k k)=F ct:=h.congr fun x j _ _=>by
    unfold prm
    split
    · rfl
    · split
      · rename_i e;rw [e]
      · rw [if_neg (by omega)]
  rw [e1,h.prm_at hk k (Nat.le_refl _),e2]
def yu (A:Nat→Nat→Int) (k m:Nat):Nat→Nat→Int:=fun x j=>if x=0 then ct k j else if x≤m then (if j=k then 0 else A x j) else A x j
theorem Alt.clear (h:Alt (n + 1) F) {k:Nat} (hk:k<n + 1) (A:Nat→Nat→Int):∀m,m≤n→F (yu A k m)=F (yu A k 0)
  | 0,_=>rfl
  | m + 1,hm=>by
    rw [←Alt.clear h hk A m (by omega)];refine h.addm (x:=m + 1) (y:=0) (by omega) (by omega) (by omega) (-(A (m + 1) k)) fun u j=> ?_
    unfold yu
    by_cases e:u=m + 1
    · subst e
      have q1:¬(m + 1=0):=by omega
      have q2:¬(m + 1≤m):=by omega
      simp only [q1,q2,Nat.le_refl,↓reduceIte]
      unfold ct
      by_cases ej:j=k
      · subst ej;simp;omega
      · rw [if_neg ej,if_neg (Ne.symm ej)];simp
    · rw [if_neg e]
      by_cases e0:u=0
      · rw [if_pos e0,if_pos e0]
      · rw [if_neg e0,if_neg e0]
        by_cases e1:u≤m
        · rw [if_pos e1,if_pos (by omega)]
        · rw [if_neg e1,if_neg (by omega)]
theorem Alt.minor (h:Alt (n + 1) F) {k:Nat} (hk:k<n + 1):Alt n (fun B=>F (gD k B)) where
  congr:=fun {A B} hAB=>h.congr fun i j hi hj=>by
    unfold gD
    split
    · rfl
    · split
      · rfl
      · exact hAB _ _ (by omega) (by unfold dW;split<;>omega)
  lin:=fun {A B C i} a hi h1 h2=>h.lin (i:=i + 1) a (by omega) (fun x j hx=>by
    unfold gD
    split
    · exact ⟨rfl,rfl⟩
    · split
      · exact ⟨rfl,rfl⟩
      · exact h1 _ _ (by omega)) (fun j=>by
    show (if i + 1=0 then ct k j else if j=k then 0 else A i (dW k j))=(if i + 1=0 then ct k j else if j=k then 0 else B i (dW k j)) + a*(if i + 1=0 then ct k j else if j=k then 0 else C i (dW k j));have q:¬(i + 1=0):=by omega
    simp only [q,↓reduceIte]
    split
    · simp
    · exact h2 _)
  alt:=fun {A i} hi he=>h.alt (i:=i + 1) (by omega) fun j hj=>by
    show (if i + 1=0 then ct k j else if j=k then 0 else A i (dW k j))=(if i + 1 + 1=0 then ct k j else if j=k then 0 else A (i + 1) (dW k j));rw [if_neg (show ¬(i + 1=0) by omega),if_neg (show ¬(i + 1 + 1=0) by omega)]
    split
    · rfl
    · exact he _ (by unfold dW;split<;>omega)
end
theorem Alt.form:∀{n:Nat} {F:(Nat→Nat→Int)→Int},Alt n F→∀A,F A=bP n A*F ct
  | 0,F,h,A=>by rw [h.congr (A:=A) (B:=ct) fun i j hi _=>absurd hi (Nat.not_lt_zero _)];simp [bP]
  | n + 1,F,h,A=>by
    have e1:F A=F (il A 0 (fun j=>av (n + 1) (fun k=>A 0 k*ct k j))):=h.congr fun i j hi hj=>by
      unfold il
      split
      · rename_i e;subst e;exact (vE (n:=n + 1) A hj).symm
      · rfl
    rw [e1,h.rowsum (i:=0) (by omega) (fun k=>A 0 k) (fun k=>ct k) (n + 1) (fun j=>by simp [il])];simp only [bP];rw [←lr];refine ar fun k hk=> ?_
    have e2:F (il (il A 0 (fun j=>av (n + 1) (fun k=>A 0 k*ct k j))) 0 (ct k))=F (yu A k 0):=h.congr fun i j _ _=>by
      unfold il yu
      split
      · rfl
      · rw [if_neg (by omega)]
    have e3:F (yu A k n)=F (gD k (bG A k)):=h.congr fun i j hi _=>by
      unfold yu gD bG
      split
      · rfl
      · rw [if_pos (by omega)]
        split
        · rfl
        · rw [iG (by assumption),show i - 1 + 1=i by omega]
    rw [e2,←h.clear hk A n (Nat.le_refl _),e3,Alt.form (h.minor hk) (bG A k),h.perm hk];rw [Int.mul_left_comm (bP n (bG A k)),Int.mul_left_comm (A 0 k),Int.mul_assoc,Int.mul_assoc]
theorem mJ:∀n,bP n ct=1
  | 0=>rfl
  | n + 1=>by
    simp only [bP];rw [dO (i:=0) (by omega) fun x _ hx=>by unfold ct;rw [if_neg (Ne.symm hx)];simp];rw [cm (A:=bG ct 0) (B:=ct) fun i j _ _=>by unfold bG ct cN;simp,mJ n]
    rfl
theorem AK (n:Nat):Alt n (fun A=>bP n (se A)) where
  congr:=fun h=>cm fun i j hi hj=>h j i hj hi
  lin:=fun a hi h1 h2=>lK a hi (fun x j hj=>h1 j x hj) (fun x=>h2 x)
  alt:=fun hi h=>iU hi fun x hx=>h x hx
theorem xw:se ct=ct:=by funext i j;unfold se ct;by_cases h:i=j<;>simp [h,eq_comm]
theorem qv (n:Nat) (A:Nat→Nat→Int):bP n (se A)=bP n A:=by
  have:=(AK n).form A;simp only [xw,mJ,Int.mul_one] at this;exact this
theorem AN (n:Nat):Alt n (bP n) where
  congr:=cm
  lin:=fun a hi h1 h2=>kF a hi h1 h2
  alt:=fun {A i} hi h=>by rw [←qv];exact iU hi fun x hx=>h x hx
theorem AM (n:Nat) (B:Nat→Nat→Int):Alt n (fun A=>bP n (bc n A B)) where
  congr:=fun h=>cm fun i j hi hj=>eC (fun a ha=>h i a hi ha) fun _ _=>rfl
  lin:=fun {A1 B1 C1 i} a hi h1 h2=>kF a hi (fun x j hx=>⟨eC (fun b _=>(h1 x b hx).1) fun _ _=>rfl,eC (fun b _=>(h1 x b hx).2) fun _ _=>rfl⟩) (fun j=>by
    unfold bc
    rw [←fH];exact ar fun b _=>by rw [h2 b,Int.add_mul,Int.mul_assoc])
  alt:=fun hi h=>(AN n).alt hi fun j hj=>ar fun a ha=>by rw [h a ha]
theorem tE {n:Nat} (B:Nat→Nat→Int) {i j:Nat} (hi:i<n):bc n ct B i j=B i j:=by
  unfold bc
  rw [dO hi fun x _ hx=>by unfold ct;rw [if_neg (Ne.symm hx)];simp]
  unfold ct;simp
theorem oa (n:Nat) (A B:Nat→Nat→Int):bP n (bc n A B)=bP n A*bP n B:=by
  have:=(AM n B).form A;rw [this,cm (A:=bc n ct B) (B:=B) fun i j hi _=>tE B hi]
def dz:Nat→(Nat→Int)→Int
  | 0,_=>1
  | n + 1,f=>dz n f*f n
theorem jl (f:Nat→Int):∀n,dz (n + 1) f=f 0*dz n (fun i=>f (i + 1))
  | 0=>by simp [dz]
  | n + 1=>by
    have:=jl f n;simp only [dz] at this⊢;rw [this,Int.mul_assoc]
theorem ob:∀{n:Nat} {A:Nat→Nat→Int},(∀i j,i<j→j<n→A i j=0)→bP n A=dz n (fun i=>A i i)
  | 0,_,_=>rfl
  | n + 1,A,h=>by
    rw [jl];simp only [bP];rw [dO (i:=0) (by omega) fun x hx hx0=>by rw [h 0 x (by omega) hx];simp];rw [ob (n:=n) (A:=bG A 0) fun i j hi hj=>h (i + 1) _ (by unfold cN;split<;>omega) (by unfold cN;split<;>omega)];rw [show nF 0=1 from rfl,Int.one_mul]
    congr 1
theorem uw {n:Nat} {A:Nat→Nat→Int} (h:∀i j,j<i→i<n→A i j=0):bP n A=dz n (fun i=>A i i):=by
  rw [←qv,ob (A:=se A) fun i j hi hj=>h j i hi hj];rfl
theorem nV {a b:Int} (h:a*b=1):a.natAbs=1:=by
  have:=congrArg Int.natAbs h;rw [Int.natAbs_mul] at this;exact Nat.eq_one_of_mul_eq_one_right this
theorem ur {n:Nat} {U V:Nat→Nat→Int} (h:∀i j,i<n→j<n→bc n U V i j=ct i j):(bP n U).natAbs=1∧(bP n V).natAbs=1:=by
  have e:bP n U*bP n V=1:=by rw [←oa,cm h,mJ]
  exact ⟨nV e,nV (by rw [Int.mul_comm];exact e)⟩
theorem ut {n:Nat} {U V A H:Nat→Nat→Int} (h:∀i j,i<n→j<n→bc n U V i j=ct i j) (hH:∀i j,i<n→j<n→bc n U A i j=H i j):(bP n H).natAbs=(bP n A).natAbs:=by
  rw [←cm hH,oa,Int.natAbs_mul,(ur h).1,Nat.one_mul]
end Go.TL
namespace Go.TL
open Go.RowKit
set_option linter.unusedVariables false
def kK (w:World) (v:Value) (n c:Nat) (M:Nat→Nat→Int) (b:Nat):Prop:=
  ∃A k,v= .slice A n k∧n≤k∧(k<9223372036854775808∧n≤65536)∧(0<n→∃g m f,A=some ⟨g,0,none⟩∧n≤m∧aY w g 42 m f∧∀i,i<n→bi w (f i) c (M i) b)
def mR (w:World) (g cap n c:Nat) (M:Nat→Nat→Int) (b:Nat):Prop:=
  (n≤cap∧cap<9223372036854775808∧n≤65536)∧∃f,aY w g 42 (cap*1) f∧∀i,i<n→bi w (f i) c (M i) b
def qI (w:World) (v:Value) (c:Nat) (z:Nat→Int) (b:Nat):Prop:=∃g u,v= .slice (some ⟨g,0,none⟩) 1 1∧aY w g 42 1 (bU [u])∧bi w u c z b
def uS (w:World) (v:Value) (n:Nat) (z:Nat→Int) (b:Nat):Prop:=
  ∃A k,v= .slice A n k∧n≤65536∧(0<n→∃g o m f,A=some ⟨g,o,none⟩∧o + n*2≤m∧aY w g 49 m f∧∀j,j<n→ak w (.agg #[f (o + 2*j),f (o + 2*j + 1)]) (z j) b)
section
variable {w w':World} {v:Value} {n c b:Nat} {M:Nat→Nat→Int} {z:Nat→Int}
theorem kK.ext (h:kK w v n c M b) (hx:aA w w'):kK w' v n c M b:=by
  obtain ⟨A,k,h1,h2,h3,h4⟩:=h;exact ⟨A,k,h1,h2,h3,fun hn=>by obtain ⟨g,m,f,a1,a2,a3,a4⟩:=h4 hn;exact ⟨g,m,f,a1,a2,a3.ext hx,fun i hi=>(a4 i hi).ext hx⟩⟩
theorem mR.ext {g cap:Nat} (h:mR w g cap n c M b) (hx:aA w w'):mR w' g cap n c M b:=by
  obtain ⟨h1,f,h2,h3⟩:=h;exact ⟨h1,f,h2.ext hx,fun i hi=>(h3 i hi).ext hx⟩
theorem lS {g cap:Nat} (h:mR w g cap n c M b):kK w (.slice (some ⟨g,0,none⟩) n cap) n c M b:=by
  obtain ⟨h1,f,h2,h3⟩:=h;exact ⟨_,_,rfl,h1.1,h1.2,fun _=>⟨g,cap*1,f,rfl,by omega,h2,h3⟩⟩
theorem mR.lt {g cap:Nat} (h:mR w g cap n c M b):g<w.heap.size:=by obtain ⟨_,f,ha,_⟩:=h;exact ha.lt
theorem mR.born {g:Nat} {f:Nat→Value} (hA:aY w g 42 0 f) (c:Nat) (M:Nat→Nat→Int) (b:Nat):mR w g 0 0 c M b:=
  ⟨⟨Nat.le_refl _,by decide,by decide⟩,f,hA,fun i hi=>absurd hi (Nat.not_lt_zero _)⟩
theorem qI.ext (h:qI w v c z b) (hx:aA w w'):qI w' v c z b:=by obtain ⟨g,u,h1,h2,h3⟩:=h;exact ⟨g,u,h1,h2.ext hx,h3.ext hx⟩
theorem uS.ext (h:uS w v n z b) (hx:aA w w'):uS w' v n z b:=by
  obtain ⟨A,k,h1,h2,h3⟩:=h;exact ⟨A,k,h1,h2,fun hn=>by obtain ⟨g,o,m,f,a1,a2,a3,a4⟩:=h3 hn;exact ⟨g,o,m,f,a1,a2,a3.ext hx,fun j hj=>(a4 j hj).ext hx⟩⟩
theorem kK.bd (h:kK w v n c M b):∀i j,i<n→j<c→(M i j).natAbs<2^b:=by
  intro i j hi hj;obtain ⟨A,k,h1,h2,h3,h4⟩:=h;obtain ⟨g,m,f,a1,a2,a3,a4⟩:=h4 (by omega);exact (a4 i hi).bd j hj
theorem uR (h:kK w v n c M b):n≤65536:=by obtain ⟨A,k,h1,h2,h3,h4⟩:=h;exact h3.2
end
section
variable {P:Program} {e:cl} {w:World} {d:Option Tmp} {ty:TypeId} {pos:String} {after:Array Edge} {gd:Option (Nat×Bool)}
theorem gM {t n c m b:Nat} {x:Operand} {v:Value} {M:Nat→Nat→Int} (ht:sliceB P t 42 1 m=true) (hx:ev e x=v) (hR:kK w v n c M b):
    cj P ⟨d,.call {callee:= .builtin .len,args:= #[x],argTypes:= #[t]},ty,pos,after,gd⟩ e w (.int .i64 (n:Nat)):=by
  obtain ⟨A,kk,rfl,h2,h3,h4⟩:=hR;exact cj.len ht hx
theorem fx {t n c m j b:Nat} {x ix:Operand} {v:Value} {M:Nat→Nat→Int} {i:Int} {k:IntKind} (ht:sliceB P t 42 1 m=true) (hx:ev e x=v) (hH:kK w v n c M b)
    (hi:ev e ix= .int k i) (hij:i=(j:Int)) (hj:j<n):cQ P ⟨d,.indexAddr t x ix,ty,pos,after,gd⟩ e w (fun v w'=>w=w'∧mS w' v c (M j) b):=by
  obtain ⟨A,kk,rfl,h2,h3,h4⟩:=hH;obtain ⟨h,m',f,rfl,hm,ha,hf⟩:=h4 (by omega);refine cT (φ:=fun v w'=>mS w' v c (M j) b) (cj.index (j:=j) ht hx hi rfl hij hj) ⟨h,_,f j,rfl,?_,hf j hj⟩;rw [Nat.mul_one,Nat.zero_add];exact ha.cell (by omega)
theorem lg {t n m j b:Nat} {x hi:Operand} {v:Value} {z:Nat→Int} {i:Int} {k:IntKind} (ht:sliceB P t 49 2 m=true) (hx:ev e x=v) (hR:bi w v n z b) (hh:ev e hi= .int k i) (hij:i=(j:Int)) (hj:j≤n):
    cQ P ⟨d,.slice t x none (some hi) none,ty,pos,after,gd⟩ e w (fun v w'=>w=w'∧bi w' v j z b):=by
  obtain ⟨A,kk,rfl,h2,h3,h4⟩:=hR;refine cT (φ:=fun v w'=>bi w' v j z b) (fy (j:=j) ht hx hh hij (by omega)) ⟨A,kk,rfl,by omega,by omega,fun hj0=> ?_⟩;obtain ⟨g,hA,m',f,hm,ha,hf⟩:=h4 (by omega);exact ⟨g,hA,m',f,⟨by omega,hm.2⟩,ha,fun i hi=>hf i (by omega)⟩
theorem lf {t n m j b:Nat} {x lo:Operand} {v:Value} {z:Nat→Int} {i:Int} {k:IntKind} (ht:sliceB P t 49 2 m=true) (hx:ev e x=v) (hR:bi w v n z b) (hh:ev e lo= .int k i) (hij:i=(j:Int)) (hj:j≤n):
    cQ P ⟨d,.slice t x (some lo) none none,ty,pos,after,gd⟩ e w (fun v w'=>w=w'∧uS w' v (n - j) (fun a=>z (j + a)) b):=by
  obtain ⟨A,kk,rfl,h2,h3,h4⟩:=hR;refine cT (φ:=fun v w'=>uS w' v (n - j) (fun a=>z (j + a)) b) (pt (j:=j) ht hx hh hij hj) ⟨_,_,rfl,by omega,fun hj0=> ?_⟩;obtain ⟨g,hA,m',f,hm,ha,hf⟩:=h4 (by omega);subst hA;rw [if_neg (by omega)];exact ⟨g,j*2,m',f,by simp [Addr.add_lit],by omega,ha,fun i hi=>by
    rw [show j*2 + 2*i=2*(j + i) by omega];exact hf (j + i) (by omega)⟩
theorem ov {t T m b g n cap c1:Nat} {A:Option Addr} {x y:Operand} (ht:sliceB P t T m b=true) (hn:n≤cap)
    (hx:ev e x= .slice (some ⟨g,0,none⟩) n cap) (hy:ev e y= .slice A 0 c1):
    cj P ⟨d,.call {callee:= .builtin .append,args:= #[x,y],argTypes:= #[t,t]},ty,pos,after,gd⟩ e w (.slice (some ⟨g,0,none⟩) n cap):=by
  obtain ⟨hu,i0,hi0,hm,hbb⟩:=bJ ht;have hrun:(Builtin.append_ #[t,t] ty #[.slice (some ⟨g,0,none⟩) n cap,.slice A 0 c1]).run P w= .ok (.slice (some ⟨g,0,none⟩) n cap) w:=by
    cases A with
    | none=>simp [Builtin.append_,run_underlying hu,sizeOf,typeInfo,hi0,Builtin.lenOf,Builtin.firstCells,storeCells,hn]
    | some ad=>simp [Builtin.append_,run_underlying hu,sizeOf,typeInfo,hi0,Builtin.lenOf,Builtin.firstCells,storeCells,loadCells,loadCellsFrom,hn]
  simp [cj,execOp,resolve,invoke,builtin,hx,hy,hrun,Result.andThen]
theorem om {t bb g cap n m b B:Nat} {x y:Operand} {vy:Value} {z:Nat→Int} {zy:Nat→Int} (ht:sliceB P t 49 2 bb=true) (hb:bb≤32) (hz:(P.info? 49).bind (·.zero)=some (.agg #[.bool false,.slice none 0 0]))
    (hx:ev e x= .slice (some ⟨g,0,none⟩) n cap) (hy:ev e y=vy) (hQ:jc w g cap n z b) (hS:uS w vy m zy b) (hB:B≤g) (hBw:B≤w.heap.size) (hn:n + m≤65536):
    cQ P ⟨d,.call {callee:= .builtin .append,args:= #[x,y],argTypes:= #[t,t]},ty,pos,after,gd⟩ e w
      (fun v' w'=>Keeps (fun b=>b=g) w w'∧∃g' cap',v'= .slice (some ⟨g',0,none⟩) (n + m) cap'∧B≤g'∧jc w' g' cap' (n + m) (fun j=>if j<n then z j else zy (j - n)) b):=by
  have hnu:=hQ.rowB.nu;obtain ⟨⟨h1,h2,h3,h4⟩,f,ha,hf⟩:=hQ;obtain ⟨A,ky,rfl,hm1,hm2⟩:=hS;rcases Nat.eq_zero_or_pos m with h0 | h0
  · subst h0
    refine cQ.mono (ov ht h1 hx hy).opX ?_;rintro v' w' ⟨rfl,rfl⟩;exact ⟨(aA.refl _).keeps _,g,cap,rfl,hB,⟨h1,h2,h3,by omega⟩,f,ha,fun j hj=>by
      show ak w' _ (if j<n then z j else zy (j - n)) b;rw [if_pos (by omega)];exact hf j (by omega)⟩
  · obtain ⟨g1,o,m',f1,rfl,hm3,ha1,hf1⟩:=hm2 h0
    have hones:∀i,i<m*2→(f1 (o + i)).oneCell'=true:=fun i hi=>by
      have:=hf1 (i/2) (by omega);obtain ⟨c0,c1,e1,e2,e3⟩:=this.cells
      injection e1 with e1
      rcases (by omega:i=2*(i/2)∨i=2*(i/2) + 1) with e | e
      · rw [e];have h5:f1 (o + 2*(i/2))=c0:=by have:=congrArg (fun a=>a[0]?) e1;simpa using this
        rw [h5];exact e2
      · rw [e];have h5:f1 (o + (2*(i/2) + 1))=c1:=by have:=congrArg (fun a=>a[1]?) e1;simpa [Nat.add_assoc] using this
        rw [h5];exact e3
    refine cQ.mono (ea (n:=n) (cap:=cap) (kk:=m) (h:=fun i=>f1 (o + i)) (f:=f) [.bool false,.slice none 0 0] ht hb hz rfl rfl (by decide) hx hy ha h1 h2 (fun i hi=>ha1.cell (by omega)) hones (by omega)) ?_;rintro v' w' ⟨hk,g',cap',f',rfl,g5,g6,g7,g8,g9,g10⟩;refine ⟨hk,g',cap',rfl,?_,⟨g5,g6,h3,by omega⟩,f',g8,fun j hj=> ?_⟩
    · rcases g7 with g7 | g7<;>omega
    · show ak w' _ (if j<n then z j else zy (j - n)) b
      by_cases h:j<n
      · rw [if_pos h,g9 (2*j) (by omega),g9 (2*j + 1) (by omega)];exact (hf j (by omega)).keep hk hnu
      · rw [if_neg h]
        have q0:=g10 (2*(j - n)) (by omega);have q1:=g10 (2*(j - n) + 1) (by omega);rw [show 2*j=n*2 + 2*(j - n) by omega,q0,show n*2 + 2*(j - n) + 1=n*2 + (2*(j - n) + 1) by omega,q1,←Nat.add_assoc];exact (hf1 (j - n) (by omega)).keep hk hnu
theorem iB {t bb b c:Nat} {x:Operand} {v:Value} {z:Nat→Int} (ht:sliceB P t 42 1 bb=true) (hz:(P.info? 42).bind (·.zero)=some (.slice none 0 0))
    (hcz:(Array.range (1*1)).map (fun i=>([.slice none 0 0]:List Value).toArray[i % ([.slice none 0 0]:List Value).toArray.size]!)= #[.slice none 0 0])
    (hx:ev e x=v) (hR:bi w v c z b):
    cQ P ⟨d,.buildSlice t 1 #[(0,x)],ty,pos,after,gd⟩ e w (fun v' w'=>aA w w'∧qI w' v' c z b):=by
  refine cQ.mono (cQ.buildSlice (vs:= [(0,v)]) [.slice none 0 0] [v] ht hz rfl (eS hx) rfl (by decide) hcz (zZ hR)) ?_;rintro v' w' ⟨g,rfl,_,hx',hA⟩;exact ⟨hx',g,v,rfl,hA,hR.ext hx'⟩
theorem jo {t bb g cap n c b B:Nat} {x y:Operand} {vy:Value} {M:Nat→Nat→Int} {z:Nat→Int} (ht:sliceB P t 42 1 bb=true) (hb:bb≤32) (hz:(P.info? 42).bind (·.zero)=some (.slice none 0 0))
    (hx:ev e x= .slice (some ⟨g,0,none⟩) n cap) (hy:ev e y=vy) (hQ:mR w g cap n c M b) (hO:qI w vy c z b) (he:∀j,j<c→z j=M n j) (hB:B≤g) (hBw:B≤w.heap.size) (hn:n<65536):
    cQ P ⟨d,.call {callee:= .builtin .append,args:= #[x,y],argTypes:= #[t,t]},ty,pos,after,gd⟩ e w
      (fun v' w'=>Keeps (fun b=>b=g) w w'∧∃g' cap',v'= .slice (some ⟨g',0,none⟩) (n + 1) cap'∧B≤g'∧mR w' g' cap' (n + 1) c M b):=by
  obtain ⟨⟨h1,h2,h3⟩,f,ha,hf⟩:=hQ;obtain ⟨g1,u,rfl,hT,hR⟩:=hO;refine cQ.mono (ea (n:=n) (cap:=cap) (kk:=1) (h:=bU [u]) (f:=f) [.slice none 0 0] ht hb hz rfl rfl (by decide) hx hy ha h1 h2 (fun i hi=>by rw [Nat.zero_add];exact hT.cell (by omega)) (fun i hi=>by
    obtain rfl:i=0:=by omega
    exact hR.one) (by omega)) ?_
  rintro v' w' ⟨hk,g',cap',f',rfl,g5,g6,g7,g8,g9,g10⟩;refine ⟨hk,g',cap',rfl,?_,⟨g5,g6,by omega⟩,f',g8,fun i hi=> ?_⟩
  · rcases g7 with g7 | g7<;>omega
  · by_cases h:i=n
    · subst h
      have q:=g10 0 (by omega);rw [Nat.mul_one,Nat.add_zero] at q;rw [q];exact (ga (hR.congr he) hk ha (by decide))
    · rw [g9 i (by omega)];exact ga (hf i (by omega)) hk ha (by decide)
end
def dB (b:Nat):Nat→Nat
  | 0=>1
  | n + 1=>b + dB b n + n + 2
def gm (M:Nat→Nat→Int) (m k:Nat):Int:=nF k*(M 0 k*bP m (bG M k))
theorem li:∀n:Nat,n + 1≤2^n
  | 0=>Nat.le_refl _
  | n + 1=>by have:=li n;rw [Nat.pow_succ];omega
theorem vn (k:Nat) (x:Int):(nF k*x).natAbs=x.natAbs:=by unfold nF;split<;>simp
theorem qw:∀{n:Nat} {M:Nat→Nat→Int} {b:Nat},(∀i j,i<n→j<n→(M i j).natAbs<2^b)→(∀k,k≤n→(av k (gm M (n - 1))).natAbs<2^dB b n)∧(bP n M).natAbs<2^dB b n
  | 0,M,b,h=>by
    refine ⟨fun k hk=> ?_,show (1:Int).natAbs<2^1 by decide⟩;obtain rfl:k=0:=by omega
    exact Nat.two_pow_pos _
  | n + 1,M,b,h=>by
    have ih:∀k,k<n + 1→(bP n (bG M k)).natAbs<2^dB b n:=fun k hk=>(qw (n:=n) (M:=bG M k) (b:=b) fun i j hi hj=>h _ _ (by omega) (by unfold cN;split<;>omega)).2
    have ht:∀k,k<n + 1→(gm M n k).natAbs≤2^(b + dB b n):=fun k hk=>by
      unfold gm
      rw [vn,Int.natAbs_mul,Nat.pow_add];exact Nat.mul_le_mul (Nat.le_of_lt (h 0 k (by omega) hk)) (Nat.le_of_lt (ih k hk))
    have hs:∀k,k≤n + 1→(av k (gm M n)).natAbs<2^dB b (n + 1):=fun k hk=>by
      have h1:=gZ (n:=k) (f:=gm M n) fun i hi=>ht i (by omega)
      have h2:k*2^(b + dB b n)≤2^(n + 1)*2^(b + dB b n):=Nat.mul_le_mul_right _ (by have:=li (n + 1);omega);rw [←Nat.pow_add] at h2;have h3:2^(n + 1 + (b + dB b n))<2^dB b (n + 1):=Nat.pow_lt_pow_right (by decide) (by simp only [dB];omega);omega
    exact ⟨hs,hs (n + 1) (Nat.le_refl _)⟩
theorem rH (M:Nat→Nat→Int) (k i j:Nat):(if j<k then M (i + 1) j else M (i + 1) (k + 1 + (j - k)))=bG M k i j:=by
  unfold bG cN
  split
  · rfl
  · rw [show k + 1 + (j - k)=j + 1 by omega]
theorem uu {M:Nat→Nat→Int} {m k:Nat} (h:((k % 2:Nat):Int)=1): -(M 0 k*bP m (bG M k))=gm M m k:=by
  unfold gm nF;rw [if_pos (by omega)];omega
theorem rU {M:Nat→Nat→Int} {m k:Nat} (h:¬((k % 2:Nat):Int)=1):M 0 k*bP m (bG M k)=gm M m k:=by
  unfold gm nF;rw [if_neg (by omega)];omega
theorem uA (M:Nat→Nat→Int):∀{n:Nat},0<n→av n (gm M (n - 1))=bP n M
  | 0,h=>absurd h (Nat.lt_irrefl _)
  | _ + 1,_=>rfl
end Go.TL
namespace Go.TL
open Go.RowKit Go.Proofs
set_option linter.unusedVariables false
set_option linter.unusedSimpArgs false
section
set_option maxRecDepth 100000
theorem wY:ax Tryz.prog 32=true:=by kernel_rfl
theorem sk:oneB Tryz.prog 42=true:=by kernel_rfl
theorem fA:sliceB Tryz.prog 60 42 1 24=true:=by kernel_rfl
theorem pB:(Tryz.prog.info? 42).bind (·.zero)=some (.slice none 0 0):=by kernel_rfl
theorem pA:(Array.range (1*1)).map (fun i=>([.slice none 0 0]:List Value).toArray[i % ([.slice none 0 0]:List Value).toArray.size]!)= #[.slice none 0 0]:=by kernel_rfl
end
set_option maxRecDepth 10000 in
theorem oM (w:World) (R C:Nat) (l:Value) (n:Nat) (f:Nat→Int) (hl:eH .i8 57 w l n f) (hR:R<256) (hC:C<256):Calls Tryz.prog 30 #[.agg #[.int .u8 (R:Nat),.int .u8 (C:Nat),l]] w (cc w fun v w'=>bX w' v (R % 5) (R % 5) (ed f n (R % 5)) 4):=by
 have hLIM:bj=562949953421312:=rfl;have hln:n<9223372036854775808:=by obtain ⟨_,_,_,h2,h3,_⟩:=hl;omega
 refine ai (N:=14) (rs:= #[.cell 2 28]) Tryz.func30 rfl rfl rfl (Nat.le_of_ble_eq_true rfl) ?_;have hX:aA w w:=aA.refl w;refine ab ?_;refine RL.x rfl rfl (cQ.box [.int .u8 ((R:Nat)),.int .u8 ((C:Nat)),l] rfl rfl) ?_;rintro _ w1 ⟨g1,rfl,hge1,hx1,hA1⟩;replace hX:=aA.trans hX hx1;refine RL.x rfl rfl (cQ.alloc [.int .i64 (0),.int .i64 (0),.slice (none) (0) (0)] cn rfl) ?_;rintro _ w2 ⟨g2,rfl,hge2,hx2,hA2⟩;have hbs2:w.heap.size≤g2:=Nat.le_trans hX.size hge2;replace hA1:=aY.ext hA1 hx2;replace hX:=aA.trans hX hx2;refine RL.nil ?_;refine ab ?_;refine RL.p rfl rfl (cj.fieldAddr pE rfl) ?_;refine RL.p rfl rfl (cj.load yR rfl (hA1.at_ (i:=0) rfl rfl)) ?_;refine RL.p rfl rfl (cj.rem (c:=((R % 5:Nat):Int)) rfl rfl (by omega) rfl) ?_;refine RL.p rfl rfl (az (c:=((R % 5:Nat):Int)) vh vi rfl (bT ⟨by omega,by omega,rfl⟩)) ?_;refine RL.p rfl rfl (cj.fieldAddr pE rfl) ?_;refine RL.p rfl rfl (cj.load yR rfl (hA1.at_ (i:=0) rfl rfl)) ?_;refine RL.p rfl rfl (cj.rem (c:=((R % 5:Nat):Int)) rfl rfl (by omega) rfl) ?_;refine RL.p rfl rfl (az (c:=((R % 5:Nat):Int)) vh vi rfl (bT ⟨by omega,by omega,rfl⟩)) ?_;refine RL.p rfl rfl (cj.fieldAddr vj rfl) ?_;refine RL.p rfl rfl (cj.load yS rfl (hA1.at_ (i:=2) rfl rfl)) ?_;have hBw1:w.heap.size≤w2.heap.size:=hX.size;refine RL.x rfl rfl (cQ.call zC (cH rfl rfl rfl) (tn _ (R % 5) (R % 5) l n f (by omega) (by omega) (eH.ext hl hX))) ?_;rintro v1 w3 ⟨hx3,q1⟩;replace hA2:=aY.ext hA2 hx3;replace hX:=aA.trans hX hx3;obtain ⟨gh1,kh1,ρ1,hq1,hM1⟩:=q1;have hd1:=cY.dlim hM1;have hd2:=cY.clim hM1;refine RL.x rfl rfl (cQ.store [.int .i64 ((R % 5:Nat)),.int .i64 ((R % 5:Nat)),.slice (some ⟨gh1,0,none⟩) (R % 5) (kh1)] cR rfl hq1 rfl hA2 (Nat.le_of_ble_eq_true rfl) (cS rfl rfl rfl)) ?_;rintro _ w4 ⟨hk1,hnew⟩;replace hM1:=bk hM1 hk1 hA2 (by decide);replace hX:=hX.step hk1 (fun b e=>by subst e;exact hbs2);replace hA2:=hnew.lit [.int .i64 ((R % 5:Nat)),.int .i64 ((R % 5:Nat)),.slice (some ⟨gh1,0,none⟩) (R % 5) (kh1)] rfl;clear hnew;refine RL.nil ?_;refine WP.ret ?_;refine ⟨.agg #[.int .i64 ((R % 5:Nat)),.int .i64 ((R % 5:Nat)),.slice (some ⟨gh1,0,none⟩) (R % 5) (kh1)],Am.one (aj [.int .i64 ((R % 5:Nat)),.int .i64 ((R % 5:Nat)),.slice (some ⟨gh1,0,none⟩) (R % 5) (kh1)] aV rfl (hA2.cells 0 _ rfl rfl)),_,rfl,hX,?_⟩;dsimp only;exact (cY.matV hM1 (by omega) (by omega))
set_option maxRecDepth 10000 in
theorem zQ (w:World) (x:Value) (zx:Int) (btx:Nat) (hx:ak w x zx btx):Calls Tryz.prog 35 #[x] w (cc w fun v w'=>ak w' v (zx.natAbs:Int) btx):=by
 have hLIM:bj=562949953421312:=rfl;obtain ⟨Ax,nx,cx,lx,rfl,hLx,hvx,htx,hnx,hbx⟩:=hx.form;have hbdx:=hx.bd;have hlimx:=hLx.lim;have hlex:=hLx.le;have holdx:=hLx.old;refine ai (N:=6) (rs:= #[.cell 2 49]) Tryz.func35 rfl rfl rfl (Nat.le_of_ble_eq_true rfl) ?_;have hX:aA w w:=aA.refl w;refine ab ?_;refine RL.x rfl rfl (cQ.box [.bool (decide (zx<0)),.slice (Ax) (nx) (cx)] rfl rfl) ?_;rintro _ w1 ⟨g1,rfl,hge1,hx1,hA1⟩;replace hLx:=aB.ext hLx hx1;replace hX:=aA.trans hX hx1;refine RL.x rfl rfl (cQ.alloc [.bool (false),.slice (none) (0) (0)] bH rfl) ?_;rintro _ w2 ⟨g2,rfl,hge2,hx2,hA2⟩;have hbs2:w.heap.size≤g2:=Nat.le_trans hX.size hge2;replace hLx:=aB.ext hLx hx2;replace hA1:=aY.ext hA1 hx2;replace hX:=aA.trans hX hx2;refine RL.nil ?_;refine ab ?_;refine RL.p rfl rfl (cj.fieldAddr aH rfl) ?_;refine RL.p rfl rfl (cj.load bA rfl (hA1.at_ (i:=1) rfl rfl)) ?_;refine RL.x rfl rfl (cQ.call jS (aC rfl rfl) (gG _ _ _ (False) (btx) (limV hLx hvx) hbdx hbx)) ?_;rintro v1 w3 ⟨hx3,q1⟩;replace hA2:=aY.ext hA2 hx3;replace hX:=aA.trans hX hx3;obtain ⟨iA1,in1,ic1,il1,hq1,hiL1,hiv1,hit1,hin1,hib1⟩:=q1.form;have qi1:ak w3 (.agg #[.bool (decide (aD (False) (zx.natAbs)<0)),.slice (iA1) (in1) (ic1)]) (aD (False) (zx.natAbs)) btx:=hq1▸q1;refine RL.x rfl rfl (cQ.store [.bool (decide (aD (False) (zx.natAbs)<0)),.slice (iA1) (in1) (ic1)] bf rfl hq1 rfl hA2 (Nat.le_of_ble_eq_true rfl) (bs rfl rfl)) ?_;rintro _ w4 ⟨hk1,hnew⟩;replace qi1:=ah qi1 hk1 hA2 (by decide);replace hX:=hX.step hk1 (fun b e=>by subst e;exact hbs2);replace hA2:=hnew.lit [.bool (decide (aD (False) (zx.natAbs)<0)),.slice (iA1) (in1) (ic1)] rfl;clear hnew;refine RL.nil ?_;refine WP.ret ?_;refine ⟨.agg #[.bool (decide (aD (False) (zx.natAbs)<0)),.slice (iA1) (in1) (ic1)],Am.one (aj [.bool (decide (aD (False) (zx.natAbs)<0)),.slice (iA1) (in1) (ic1)] aq rfl (hA2.cells 0 _ rfl rfl)),_,rfl,hX,?_⟩;dsimp only;exact ak.eq qi1 (by simp [aD]) (by simpa using hbdx) hbx
set_option maxRecDepth 10000 in
theorem yd (w:World) (x:Value) (rx cx:Nat) (Mx:Nat→Nat→Int) (btx:Nat) (hx:bX w x rx cx Mx btx):Calls Tryz.prog 33 #[x] w (cc w fun v w'=>kK w' v rx cx Mx btx):=by
 have hLIM:bj=562949953421312:=rfl;have hmatx:=hx;obtain ⟨sx,rfl,hrx,hcx,hSx⟩:=hx.form;refine ai (N:=21) (rs:= #[.tmp 2]) Tryz.func33 rfl rfl rfl (Nat.le_of_ble_eq_true rfl) ?_;have hX:aA w w:=aA.refl w;refine ab ?_;refine RL.x rfl rfl (cQ.box [.int .i64 ((rx:Nat)),.int .i64 ((cx:Nat)),sx] rfl rfl) ?_;rintro _ w1 ⟨g1,rfl,hge1,hx1,hA1⟩;replace hX:=aA.trans hX hx1;refine RL.p rfl rfl (cj.assign rfl) ?_;refine RL.nil ?_;refine ab ?_;refine RL.x rfl rfl (cL fA) ?_;rintro _ w2 ⟨g2,rfl,hge2,hx2,hA2⟩;have hbs2:w.heap.size≤g2:=Nat.le_trans hX.size hge2;replace hA1:=aY.ext hA1 hx2;replace hX:=aA.trans hX hx2;refine RL.p rfl rfl (cj.assign rfl) ?_;refine RL.nil ?_;refine WP.seq ?_;have hL:=mR.born hA2 cx Mx btx;refine ab ?_;refine RL.p rfl rfl (cj.assign rfl) ?_;refine RL.nil ?_;refine WP.block ?_;refine WP.loop (fun mz ez uz=>∃i:Nat,∃gl:Nat,∃kl:Nat,(mz=rx - i)∧(ez 1= .pointer (some ⟨g1,0,none⟩))∧(ez 2= .slice (none) (0) (0))∧(ez 3= .slice (some ⟨gl,0,none⟩) (i) (kl))∧(ez 4= .int .i64 ((i:Nat)))∧(i≤rx)∧(w.heap.size≤gl)∧(aA w uz)∧(aY uz g1 28 3 (bU [.int .i64 ((rx:Nat)),.int .i64 ((cx:Nat)),sx]))∧(mR uz gl kl i cx Mx btx)) (rx - 0) ?_ ?_
 · exact ⟨0,_,_,rfl,rfl,rfl,rfl,rfl,(by omega),hbs2,hX,hA1,hL⟩
 rintro m1 e1 w3 ⟨i,gl,kl,hm1,s1_e1,s2_e1,s3_e1,s4_e1,hi,hbl,hX1,hA1,hL⟩;refine WP.seq ?_;refine ab ?_;refine RL.p rfl rfl (cj.move s4_e1) ?_;refine RL.p rfl rfl (cj.fieldAddr aX s1_e1) ?_;refine RL.p rfl rfl (cj.load bD rfl (hA1.at_ (i:=0) rfl rfl)) ?_;refine RL.p rfl rfl (cj.lss rfl rfl) ?_;refine RL.nil ?_;refine ae (((i:Nat):Int)<((rx:Nat):Int)) rfl (fun c9=> ?_) (fun c9=> ?_)
 ·
  refine WP.skip ?_;refine pl.norm ?_;refine WP.seq ?_;refine WP.block ?_;refine WP.region ?_;refine RL.p rfl rfl (cj.move s3_e1) ?_;refine RL.p rfl rfl (cj.fieldAddr aw s1_e1) ?_;refine RL.p rfl rfl (cj.load aU rfl (hA1.at_ (i:=2) rfl rfl)) ?_;refine RL.p rfl rfl (cj.move s4_e1) ?_;refine RL.x rfl rfl (aJ (j:=i) aK rfl (ce.ext hSx hX1) rfl (by omega) (by omega)) ?_;rintro v1 _ ⟨rfl,q1⟩;refine RL.x rfl rfl (aI bn rfl q1) ?_;rintro v2 _ ⟨rfl,q2⟩;refine RL.x rfl rfl (iB fA pB pA rfl q2) ?_;rintro v3 w4 ⟨hx3,q3⟩;replace hA1:=aY.ext hA1 hx3;replace hL:=mR.ext hL hx3;replace hX1:=aA.trans hX1 hx3;have hVn:=hL;refine RL.x rfl rfl (jo (B:=w.heap.size) fA (by decide) pB rfl rfl hVn q3 (fun j hj=>rfl) hbl hX1.size (by omega)) ?_;rintro _ w5 ⟨hk1,gv1,cv1,rfl,hbs3,hN1⟩;obtain ⟨hVa,fVa,hVb,hVc⟩:=hVn;replace hA1:=hA1.keep hk1 (hA1.ne hVb (by decide));replace hX1:=hX1.step hk1 (fun b e=>by subst e;exact hbl);refine RL.p rfl rfl (cj.assign rfl) ?_;refine RL.nil ?_;refine iD.norm ?_;refine pl.norm ?_;refine WP.region ?_;refine RL.p rfl rfl (cj.move s4_e1) ?_;refine RL.p rfl rfl (cj.add (c:=((i + 1:Nat):Int)) rfl rfl (bT (by omega))) ?_;refine RL.p rfl rfl (cj.assign rfl) ?_;refine RL.nil ?_;refine pl.norm ⟨_,(by omega),i + 1,_,_,rfl,s1_e1,s2_e1,rfl,rfl,(by omega),hbs3,hX1,hA1,hN1⟩
 ·
  refine WP.exit ?_;refine pl.exit ?_;refine pl.exit ?_;refine iD.same ?_;refine pl.norm ?_;refine ab ?_;refine RL.p rfl rfl (cj.move s3_e1) ?_;refine RL.p rfl rfl (cj.assign rfl) ?_;refine RL.nil ?_;refine WP.ret ?_;refine ⟨.slice (some ⟨gl,0,none⟩) (i) (kl),Am.one (fw.tmp rfl),_,rfl,hX1,?_⟩;dsimp only;have e:i=rx:=by omega
  have h:=lS hL;rw [e] at h⊢;exact h
set_option maxRecDepth 10000 in
set_option maxHeartbeats 800000 in
theorem tp (w:World) (x:Value) (nx:Nat) (Mx:Nat→Nat→Int) (btx:Nat) (hx:kK w x nx nx Mx btx) (ih:∀(m c:Nat),m + 1=nx→c=m→∀(w:World) (v:Value) (M:Nat→Nat→Int) (b:Nat),kK w v m c M b→dB b m + 1≤bj→Calls Tryz.prog 32 #[v] w (cc w fun v w'=>ak w' v (bP m M) (dB b m))) (hl:dB btx nx + 1≤bj):Calls Tryz.prog 32 #[x] w (cc w fun v w'=>ak w' v (bP nx Mx) (dB btx nx)):=by
 have hLIM:bj=562949953421312:=rfl;refine ai (N:=66) (rs:= #[.cell 2 49]) Tryz.func32 rfl rfl rfl (Nat.le_of_ble_eq_true rfl) ?_;have hX:aA w w:=aA.refl w;have hfit:=qw (n:=nx) (M:=Mx) (b:=btx) (kK.bd hx);have hn16:=uR hx;refine ab ?_;refine RL.x rfl rfl (cQ.alloc [.bool (false),.slice (none) (0) (0)] bH rfl) ?_;rintro _ w1 ⟨g1,rfl,hge1,hx1,hA1⟩;have hbs1:w.heap.size≤g1:=Nat.le_trans hX.size hge1;replace hX:=aA.trans hX hx1;refine RL.nil ?_;refine WP.seq ?_;refine ab ?_;refine RL.p rfl rfl (cj.move rfl) ?_;refine RL.p rfl rfl (gM fA rfl (kK.ext hx hX)) ?_;refine RL.p rfl rfl (cj.eql rfl rfl) ?_;refine RL.nil ?_;refine ae (((nx:Nat):Int)=(0:Int)) rfl (fun c11=> ?_) (fun c11=> ?_)
 ·
  refine ab ?_;refine RL.x rfl rfl (cQ.call lm (aL rfl) (rg (1) (1) _ (by decide) (by decide) (by decide))) ?_;rintro v1 w2 ⟨hx2,q1⟩;replace hA1:=aY.ext hA1 hx2;replace hX:=aA.trans hX hx2;obtain ⟨ca1,cb1,hq1,ho1,ho2⟩:=ak.cells q1;have qi1:ak w2 (.agg #[ca1,cb1]) 1 1:=hq1▸q1;refine RL.x rfl rfl (cQ.store [ca1,cb1] bf rfl hq1 rfl hA1 (Nat.le_of_ble_eq_true rfl) (bs ho1 ho2)) ?_;rintro _ w3 ⟨hk1,hnew⟩;replace qi1:=ah qi1 hk1 hA1 (by decide);replace hX:=hX.step hk1 (fun b e=>by subst e;exact hbs1);replace hA1:=hnew.lit [ca1,cb1] rfl;clear hnew;refine RL.nil ?_;refine WP.ret ?_;refine pl.ret ?_;refine ⟨.agg #[ca1,cb1],Am.one (aj [ca1,cb1] aq rfl (hA1.cells 0 _ rfl rfl)),_,rfl,hX,?_⟩;dsimp only;obtain rfl:nx=0:=by omega
  exact ak.eq qi1 rfl (show (1:Int).natAbs<2^1 by decide) (by omega)
 ·
  refine WP.skip ?_;refine pl.norm ?_;refine ab ?_;refine RL.x rfl rfl (cQ.call lm (aL rfl) (rg (0) (1) _ (by decide) (by decide) (by decide))) ?_;rintro v2 w4 ⟨hx3,q2⟩;replace hA1:=aY.ext hA1 hx3;replace hX:=aA.trans hX hx3;refine RL.x rfl rfl (cQ.alloc [.bool (false),.slice (none) (0) (0)] bH rfl) ?_;rintro _ w5 ⟨g2,rfl,hge2,hx4,hA2⟩;have ne1:g1≠g2:=Nat.ne_of_lt (Nat.lt_of_lt_of_le hA1.lt hge2);have hbs2:w.heap.size≤g2:=Nat.le_trans hX.size hge2;replace hA1:=aY.ext hA1 hx4;replace q2:=ak.ext q2 hx4;replace hX:=aA.trans hX hx4;obtain ⟨ca2,cb2,hq2,ho3,ho4⟩:=ak.cells q2;have qi2:ak w5 (.agg #[ca2,cb2]) 0 1:=hq2▸q2;refine RL.x rfl rfl (cQ.store [ca2,cb2] bf rfl hq2 rfl hA2 (Nat.le_of_ble_eq_true rfl) (bs ho3 ho4)) ?_;rintro _ w6 ⟨hk2,hnew⟩;replace hA1:=hA1.keep hk2 ne1;replace qi2:=ah qi2 hk2 hA2 (by decide);replace hX:=hX.step hk2 (fun b e=>by subst e;exact hbs2);replace hA2:=hnew.lit [ca2,cb2] rfl;clear hnew;refine RL.nil ?_;refine WP.seq ?_;refine ab ?_;refine RL.p rfl rfl (cj.assign rfl) ?_;refine RL.nil ?_;refine WP.block ?_;refine WP.loop (fun mz ez uz=>∃k:Nat,∃ka:Value,∃kb:Value,(mz=nx - k)∧(ez 0=x)∧(ez 2= .pointer (some ⟨g1,0,none⟩))∧(ez 3= .pointer (some ⟨g2,0,none⟩))∧(ez 4= .int .i64 ((k:Nat)))∧(k≤nx)∧(ak uz (.agg #[ka,kb]) (av k (gm Mx (nx - 1))) (dB btx nx))∧(aA w uz)∧(aY uz g1 49 2 (bU [.bool (false),.slice (none) (0) (0)]))∧(aY uz g2 49 2 (bU [ka,kb]))) (nx - 0) ?_ ?_
  · exact ⟨0,ca2,cb2,rfl,rfl,rfl,rfl,rfl,(by omega),(ak.eq qi2 rfl (hfit.1 0 (by omega)) (by omega)),hX,hA1,hA2⟩
  rintro m1 e1 w7 ⟨k,ka,kb,hm1,s0_e1,s2_e1,s3_e1,s4_e1,hk0,hIa,hX1,hA1,hA2⟩
  skip
  refine WP.seq ?_;refine ab ?_;refine RL.p rfl rfl (cj.move s4_e1) ?_;refine RL.p rfl rfl (cj.move s0_e1) ?_;refine RL.p rfl rfl (gM fA rfl (kK.ext hx hX1)) ?_;refine RL.p rfl rfl (cj.lss rfl rfl) ?_;refine RL.nil ?_;refine ae (((k:Nat):Int)<((nx:Nat):Int)) rfl (fun c17=> ?_) (fun c17=> ?_)
  ·
   refine WP.skip ?_;refine pl.norm ?_;refine WP.seq ?_;refine WP.block ?_;refine ab ?_;refine RL.x rfl rfl (cL fA) ?_;rintro _ w8 ⟨g3,rfl,hge3,hx5,hA3⟩;have hbs3:w.heap.size≤g3:=Nat.le_trans hX1.size hge3;replace hA1:=aY.ext hA1 hx5;replace hA2:=aY.ext hA2 hx5;replace hIa:=ak.ext hIa hx5;replace hX1:=aA.trans hX1 hx5;refine RL.p rfl rfl (cj.assign rfl) ?_;refine RL.nil ?_;refine WP.seq ?_;have hL:=mR.born hA3 (nx - 1) (bG Mx k) btx;refine ab ?_;refine RL.p rfl rfl (cj.assign rfl) ?_;refine RL.nil ?_;refine WP.block ?_;refine WP.loop (fun mz ez uz=>∃i:Nat,∃gl:Nat,∃kl:Nat,(mz=nx - i)∧(ez 0=x)∧(ez 2= .pointer (some ⟨g1,0,none⟩))∧(ez 3= .pointer (some ⟨g2,0,none⟩))∧(ez 4= .int .i64 ((k:Nat)))∧(ez 5= .slice (some ⟨gl,0,none⟩) (i) (kl))∧(ez 6= .int .i64 ((i + 1:Nat)))∧(i + 1≤nx)∧(w.heap.size≤gl)∧(aA w uz)∧(aY uz g1 49 2 (bU [.bool (false),.slice (none) (0) (0)]))∧(aY uz g2 49 2 (bU [ka,kb]))∧(ak uz (.agg #[ka,kb]:Value) (av k (gm Mx (nx - 1))) (dB btx nx))∧(mR uz gl kl i (nx - 1) (bG Mx k) btx)) (nx - 0) ?_ ?_
   · exact ⟨0,_,_,rfl,s0_e1,s2_e1,s3_e1,s4_e1,rfl,rfl,(by omega),hbs3,hX1,hA1,hA2,hIa,hL⟩
   rintro m2 e2 w9 ⟨i,gl,kl,hm2,s0_e2,s2_e2,s3_e2,s4_e2,s5_e2,s6_e2,hi,hbl,hX2,hA1,hA2,hIa,hL⟩;have hXa1:=aA.refl w9;have hlt1:g1<w9.heap.size:=hA1.lt;have hlt2:g2<w9.heap.size:=hA2.lt;have hLa1:w.heap.size≤w9.heap.size:=hX2.size
   skip
   refine WP.seq ?_;refine ab ?_;refine RL.p rfl rfl (cj.move s6_e2) ?_;refine RL.p rfl rfl (cj.move s0_e2) ?_;refine RL.p rfl rfl (gM fA rfl (kK.ext hx hX2)) ?_;refine RL.p rfl rfl (cj.lss rfl rfl) ?_;refine RL.nil ?_;refine ae (((i + 1:Nat):Int)<((nx:Nat):Int)) rfl (fun c24=> ?_) (fun c24=> ?_)
   ·
    refine WP.skip ?_;refine pl.norm ?_;refine WP.seq ?_;refine WP.block ?_;refine ab ?_;refine RL.x rfl rfl (cL cA) ?_;rintro _ w10 ⟨g4,rfl,hge4,hx6,hA4⟩;have hba1:w9.heap.size≤g4:=Nat.le_trans hXa1.size hge4;replace hA1:=aY.ext hA1 hx6;replace hA2:=aY.ext hA2 hx6;replace hIa:=ak.ext hIa hx6;replace hXa1:=aA.trans hXa1 hx6;replace hX2:=aA.trans hX2 hx6;refine RL.p rfl rfl (cj.move s0_e2) ?_;refine RL.p rfl rfl (cj.move s6_e2) ?_;refine RL.x rfl rfl (fx (j:=i + 1) fA rfl (kK.ext hx hX2) rfl (by omega) (by omega)) ?_;rintro v3 _ ⟨rfl,q3⟩;refine RL.x rfl rfl (aI sk rfl q3) ?_;rintro v4 _ ⟨rfl,q4⟩;refine RL.p rfl rfl (cj.move s4_e2) ?_;refine RL.x rfl rfl (lg (j:=k) cA rfl q4 rfl (by omega) (by omega)) ?_;rintro v5 _ ⟨rfl,q5⟩;refine RL.x rfl rfl (mU (B:=w9.heap.size) cA (by decide) bH rfl hA4 rfl q5 hba1 hXa1.size) ?_;rintro _ w11 ⟨hx7,gr1,cr1,rfl,hbs5,hN1⟩;replace hA1:=aY.ext hA1 hx7;replace hA2:=aY.ext hA2 hx7;replace hIa:=ak.ext hIa hx7;replace hXa1:=aA.trans hXa1 hx7;replace hX2:=aA.trans hX2 hx7;have ne6:g1≠gr1:=Nat.ne_of_lt (Nat.lt_of_lt_of_le hlt1 hbs5);have ne7:g2≠gr1:=Nat.ne_of_lt (Nat.lt_of_lt_of_le hlt2 hbs5);refine RL.p rfl rfl (cj.assign rfl) ?_;refine RL.nil ?_;refine ab ?_;refine RL.p rfl rfl (cj.move rfl) ?_;refine RL.p rfl rfl (cj.move s0_e2) ?_;refine RL.p rfl rfl (cj.move s6_e2) ?_;refine RL.x rfl rfl (fx (j:=i + 1) fA rfl (kK.ext hx hX2) rfl (by omega) (by omega)) ?_;rintro v6 _ ⟨rfl,q6⟩;refine RL.x rfl rfl (aI sk rfl q6) ?_;rintro v7 _ ⟨rfl,q7⟩;refine RL.p rfl rfl (cj.move s4_e2) ?_;refine RL.p rfl rfl (cj.add (c:=((k + 1:Nat):Int)) rfl rfl (bT (by omega))) ?_;refine RL.x rfl rfl (lf (j:=k + 1) cA rfl q7 rfl (by omega) (by omega)) ?_;rintro v8 _ ⟨rfl,q8⟩;refine RL.x rfl rfl (om (B:=w9.heap.size) cA (by decide) bH rfl rfl hN1 q8 hbs5 hXa1.size (by omega)) ?_;rintro v_ w12 ⟨hk3,gq1,cq1,hve1,hbs7,hN2⟩;rw [show k + (nx - (k + 1))=nx - 1 by omega] at hve1 hN2;subst hve1;have hR1:=jc.rowB hN1;replace hA1:=hA1.keep hk3 ne6;replace hA2:=hA2.keep hk3 ne7;replace hIa:=cW hIa hk3 hR1;replace hXa1:=hXa1.step hk3 (fun b e=>by subst e;exact hbs5);replace hX2:=hX2.step hk3 (fun b e=>by subst e;exact Nat.le_trans hLa1 hbs5);refine RL.p rfl rfl (cj.assign rfl) ?_;refine RL.nil ?_;refine WP.region ?_;refine RL.p rfl rfl (cj.move s5_e2) ?_;refine RL.p rfl rfl (cj.move rfl) ?_;refine RL.x rfl rfl (iB fA pB pA rfl (jc.rowV hN2)) ?_;rintro v9 w13 ⟨hx8,q9⟩;replace hA1:=aY.ext hA1 hx8;replace hA2:=aY.ext hA2 hx8;replace hIa:=ak.ext hIa hx8;replace hXa1:=aA.trans hXa1 hx8;replace hX2:=aA.trans hX2 hx8;have hVn:=(mR.ext hL hXa1)
    refine RL.x rfl rfl (jo (B:=w.heap.size) fA (by decide) pB rfl rfl hVn q9 (fun j hj=>rH Mx k i j) hbl hX2.size (by omega)) ?_;rintro _ w14 ⟨hk4,gv1,cv1,rfl,hbs8,hN3⟩;obtain ⟨hVa,fVa,hVb,hVc⟩:=hVn;replace hA1:=hA1.keep hk4 (hA1.ne hVb (by decide));replace hA2:=hA2.keep hk4 (hA2.ne hVb (by decide));replace hIa:=ah hIa hk4 hVb (by decide);replace hX2:=hX2.step hk4 (fun b e=>by subst e;exact hbl);refine RL.p rfl rfl (cj.assign rfl) ?_;refine RL.nil ?_;refine iD.norm ?_;refine pl.norm ?_;refine WP.region ?_;refine RL.p rfl rfl (cj.move s6_e2) ?_;refine RL.p rfl rfl (cj.add (c:=(((i + 1) + 1:Nat):Int)) rfl rfl (bT (by omega))) ?_;refine RL.p rfl rfl (cj.assign rfl) ?_;refine RL.nil ?_;refine pl.norm ⟨_,(by omega),i + 1,_,_,rfl,s0_e2,s2_e2,s3_e2,s4_e2,rfl,rfl,(by omega),hbs8,hX2,hA1,hA2,hIa,hN3⟩
   ·
    refine WP.exit ?_;refine pl.exit ?_;refine pl.exit ?_;refine iD.same ?_;refine pl.norm ?_;replace hL:=mR.ext hL hXa1;obtain rfl:i=nx - 1:=by omega
    have hdB:dB btx nx=btx + dB btx (nx - 1) + (nx - 1) + 2:=by
      obtain ⟨m,rfl⟩:∃m,nx=m + 1:=⟨nx - 1,by omega⟩
      rfl
    have hXf:=hX2;have hlt_g1:=hA1.lt;have hlt_g2:=hA2.lt;refine aF am 10 [_,_,_,_,_,_,_,_,_,fun v AW=>pv AW v w9.heap.size 49 ([.bool (false),.slice (none) (0) (0)])] rfl rfl (fun e_ w_ AV AU=>⟨fun _=>aa (cj.move ((AU 0 rfl s0_e2))),fun AT=>ag (fx (j:=0) fA (AT 0 rfl) (kK.ext (kK.ext hx hX2) AV) rfl (by omega) (by omega)),fun AT=>ag (aI sk rfl (AT 1 rfl)),fun _=>aa (cj.move ((AU 4 rfl s4_e2))),fun AT=>ag (aM (j:=k) cA rfl (AT 2 rfl) (AT 3 rfl) (by omega) (by omega)),fun AT=>ag (aO aq rfl (AT 4 rfl)),fun _=>aa (cj.move ((AU 5 rfl s5_e2))),fun AT=>cQ.call wY (aL ((AT 6 rfl))) (ih _ _ (by omega) rfl _ _ _ _ (lS (mR.ext hL AV)) (by omega)),fun AT=>cQ.call sA (aC rfl rfl) (tj _ _ _ _ _ _ _ ((btx) + (dB btx (nx - 1))) ((AT 5 rfl)) ((AT 7 rfl)) (by omega) (by omega)),fun _=>cQ.mono (pr [.bool (false),.slice (none) (0) (0)] bH rfl AV.size) fun v AX hv=>⟨hv.1,hv.2.1⟩,trivial⟩) ?_;intro e3 w15 hx9 ho5 hf1;replace hA1:=aY.ext hA1 hx9;replace hA2:=aY.ext hA2 hx9;replace hIa:=ak.ext hIa hx9;replace hX2:=aA.trans hX2 hx9;have s0_e3:=ho5 0 rfl s0_e2;have s2_e3:=ho5 2 rfl s2_e2;have s3_e3:=ho5 3 rfl s3_e2;have s4_e3:=ho5 4 rfl s4_e2;have s56_e3:ak w15 (e3 56) (((Mx 0) k:Int)*(bP (nx - 1) (bG Mx k):Int)) ((btx) + (dB btx (nx - 1))):=hf1 8 rfl;have s8_e3:pv w15 (e3 8) w9.heap.size 49 ([.bool (false),.slice (none) (0) (0)]):=hf1 9 rfl;obtain ⟨gd8,hvd8,hBd8,hAd8⟩:=s8_e3;have hneo_g1_gd8:g1≠gd8:=Nat.ne_of_lt (Nat.lt_of_lt_of_le hlt_g1 hBd8);have hneo_g2_gd8:g2≠gd8:=Nat.ne_of_lt (Nat.lt_of_lt_of_le hlt_g2 hBd8);have hbd8:w.heap.size≤gd8:=Nat.le_trans hXf.size hBd8;obtain ⟨ca3,cb3,hq3,ho6,ho7⟩:=ak.cells s56_e3;have qi3:ak w15 (.agg #[ca3,cb3]) (((Mx 0) k:Int)*(bP (nx - 1) (bG Mx k):Int)) ((btx) + (dB btx (nx - 1))):=hq3▸s56_e3;refine RL.x rfl rfl (cQ.store [ca3,cb3] bf hvd8 hq3 rfl hAd8 (Nat.le_of_ble_eq_true rfl) (bs ho6 ho7)) ?_;rintro _ w16 ⟨hk5,hnew⟩;replace hA1:=hA1.keep hk5 hneo_g1_gd8;replace hA2:=hA2.keep hk5 hneo_g2_gd8;replace hIa:=ah hIa hk5 hAd8 (by decide);replace qi3:=ah qi3 hk5 hAd8 (by decide);replace hX2:=hX2.step hk5 (fun b e=>by subst e;exact hbd8);replace hAd8:=hnew.lit [ca3,cb3] rfl;clear hnew;refine RL.nil ?_;refine WP.cut (fun ez uz=>∃kc:Value,∃kd:Value,(ez 0=x)∧(ez 2= .pointer (some ⟨g1,0,none⟩))∧(ez 3= .pointer (some ⟨g2,0,none⟩))∧(ez 4= .int .i64 ((k:Nat)))∧(ez 8= .pointer (some ⟨gd8,0,none⟩))∧(ak uz (.agg #[kc,kd]) (gm Mx (nx - 1) k) (btx + dB btx (nx - 1)))∧(aA w uz)∧(aY uz g1 49 2 (bU [.bool (false),.slice (none) (0) (0)]))∧(aY uz g2 49 2 (bU [ka,kb]))∧(ak uz (.agg #[ka,kb]:Value) (av k (gm Mx (nx - 1))) (dB btx nx))∧(aY uz gd8 49 2 (bU [kc,kd]))) ?_ ?_
    ·
     refine ab ?_;refine RL.p rfl rfl (cj.move s4_e3) ?_;refine RL.p rfl rfl (cj.rem (c:=((k % 2:Nat):Int)) rfl rfl (by omega) (tmN k 2)) ?_;refine RL.p rfl rfl (cj.eql rfl rfl) ?_;refine RL.nil ?_;refine ae ((((k % 2:Nat):Int):Int)=(1:Int)) rfl (fun c59=> ?_) (fun c59=> ?_)
     ·
      refine WP.region ?_;refine RL.p rfl rfl (af [ca3,cb3] aq hvd8 (hAd8.cells 0 _ rfl rfl)) ?_;refine RL.x rfl rfl (cQ.call wT (aL rfl) (xd _ _ _ _ qi3)) ?_;rintro v10 w17 ⟨hx10,q10⟩;replace hA1:=aY.ext hA1 hx10;replace hA2:=aY.ext hA2 hx10;replace hIa:=ak.ext hIa hx10;replace hAd8:=aY.ext hAd8 hx10;replace hX2:=aA.trans hX2 hx10;obtain ⟨ca4,cb4,hq4,ho8,ho9⟩:=ak.cells q10;have qi4:ak w17 (.agg #[ca4,cb4]) (-(((Mx 0) k:Int)*(bP (nx - 1) (bG Mx k):Int))) ((btx) + (dB btx (nx - 1))):=hq4▸q10;refine RL.x rfl rfl (cQ.store [ca4,cb4] bf hvd8 hq4 rfl hAd8 (Nat.le_of_ble_eq_true rfl) (bs ho8 ho9)) ?_;rintro _ w18 ⟨hk6,hnew⟩;replace hA1:=hA1.keep hk6 hneo_g1_gd8;replace hA2:=hA2.keep hk6 hneo_g2_gd8;replace hIa:=ah hIa hk6 hAd8 (by decide);replace qi4:=ah qi4 hk6 hAd8 (by decide);replace hX2:=hX2.step hk6 (fun b e=>by subst e;exact hbd8);replace hAd8:=hnew.lit [ca4,cb4] rfl;clear hnew;refine RL.nil ?_;refine pl.norm ⟨ca4,cb4,s0_e3,s2_e3,s3_e3,s4_e3,hvd8,(dc qi4 (uu c59)),hX2,hA1,hA2,hIa,hAd8⟩
     ·
      refine WP.skip ?_;refine pl.norm ⟨ca3,cb3,s0_e3,s2_e3,s3_e3,s4_e3,hvd8,(dc qi3 (rU c59)),hX2,hA1,hA2,hIa,hAd8⟩
    rintro e4 w19 ⟨kc,kd,s0_e4,s2_e4,s3_e4,s4_e4,s8_e4,hIx,hX3,hA1,hA2,hIa,hAd8⟩
    skip
    refine WP.region ?_;refine RL.p rfl rfl (af [ka,kb] aq s3_e4 (hA2.cells 0 _ rfl rfl)) ?_;refine RL.p rfl rfl (af [kc,kd] aq s8_e4 (hAd8.cells 0 _ rfl rfl)) ?_;refine RL.x rfl rfl (cQ.call sB (aC rfl rfl) (tq _ _ _ _ _ _ _ (max (dB btx nx) (btx + dB btx (nx - 1)) + 1) hIa hIx (by omega) (by omega) (by omega))) ?_;rintro v11 w20 ⟨hx11,q11⟩;replace hA1:=aY.ext hA1 hx11;replace hA2:=aY.ext hA2 hx11;replace hX3:=aA.trans hX3 hx11;obtain ⟨ca5,cb5,hq5,ho10,ho11⟩:=ak.cells q11;have qi5:ak w20 (.agg #[ca5,cb5]) ((av k (gm Mx (nx - 1)):Int) + (gm Mx (nx - 1) k:Int)) (max (dB btx nx) (btx + dB btx (nx - 1)) + 1):=hq5▸q11;refine RL.x rfl rfl (cQ.store [ca5,cb5] bf s3_e4 hq5 rfl hA2 (Nat.le_of_ble_eq_true rfl) (bs ho10 ho11)) ?_;rintro _ w21 ⟨hk7,hnew⟩;replace hA1:=hA1.keep hk7 ne1;replace qi5:=ah qi5 hk7 hA2 (by decide);replace hX3:=hX3.step hk7 (fun b e=>by subst e;exact hbs2);replace hA2:=hnew.lit [ca5,cb5] rfl;clear hnew;refine RL.nil ?_;refine iD.norm ?_;refine pl.norm ?_;refine WP.region ?_;refine RL.p rfl rfl (cj.move s4_e4) ?_;refine RL.p rfl rfl (cj.add (c:=((k + 1:Nat):Int)) rfl rfl (bT (by omega))) ?_;refine RL.p rfl rfl (cj.assign rfl) ?_;refine RL.nil ?_;refine pl.norm ⟨_,(by omega),k + 1,ca5,cb5,rfl,s0_e4,s2_e4,s3_e4,rfl,(by omega),(ak.eq qi5 rfl (hfit.1 (k + 1) (by omega)) (by omega)),hX3,hA1,hA2⟩
  ·
   refine WP.exit ?_;refine pl.exit ?_;refine pl.exit ?_;refine iD.same ?_;refine pl.norm ?_;refine ab ?_;refine RL.p rfl rfl (af [ka,kb] aq s3_e1 (hA2.cells 0 _ rfl rfl)) ?_;refine RL.x rfl rfl (cQ.store [ka,kb] bf s2_e1 rfl rfl hA1 (Nat.le_of_ble_eq_true rfl) (bs (lV hIa) (ak.oneB hIa))) ?_;rintro _ w22 ⟨hk8,hnew⟩;replace hIa:=ah hIa hk8 hA1 (by decide);replace hX1:=hX1.step hk8 (fun b e=>by subst e;exact hbs1);replace hA1:=hnew.lit [ka,kb] rfl;clear hnew;refine RL.nil ?_;refine WP.ret ?_;refine ⟨.agg #[ka,kb],Am.one (aj [ka,kb] aq s2_e1 (hA1.cells 0 _ rfl rfl)),_,rfl,hX1,?_⟩;dsimp only;have e:k=nx:=by omega
   subst e;exact ak.eq hIa (uA Mx (by omega)) hfit.2 (by omega)
end Go.TL
namespace Go.TL
open Go.RowKit Go.Proofs
set_option linter.unusedVariables false
theorem xe:∀(n c:Nat) (w:World) (v:Value) (M:Nat→Nat→Int) (b:Nat),kK w v n c M b→c=n→dB b n + 1≤bj→Calls Tryz.prog 32 #[v] w (cc w fun v w'=>ak w' v (bP n M) (dB b n))
  | 0,c,w,v,M,b,hx,hc,hl=>by subst hc;exact tp w v 0 M b hx (fun m _ h=>absurd h (Nat.succ_ne_zero m)) hl
  | n + 1,c,w,v,M,b,hx,hc,hl=>by
    subst hc;refine tp w v (n + 1) M b hx (fun m c h hc w v M b hv hl2=> ?_) hl;obtain rfl:m=n:=by omega
    exact xe m c w v M b hv hc hl2
theorem vN {n:Nat} {H:Nat→Nat→Int} (h:ck n n H):(∀i j,j<i→i<n→H i j=0)∧∀i,i<n→0≤H i i:=by
  obtain ⟨k,P,hk,hE,hz,_⟩:=h.ech;have hP:∀i,i<k→i≤P i:=by
    intro i
    induction i with
    | zero=>intro _;omega
    | succ i ih=>intro hi;have h1:=ih (by omega);have h2:=((hE (i + 1) hi).2.2.2 i (by omega)).1;omega
  refine ⟨fun i j hj hi=> ?_,fun i hi=> ?_⟩
  · by_cases e:i<k
    · exact (hE i e).2.2.1 j (by have:=hP i e;omega)
    · exact hz i (by omega) hi j (by omega)
  · by_cases e:i<k
    · obtain ⟨_,h2,h3,_⟩:=hE i e
      by_cases e2:P i=i
      · rw [e2] at h2;omega
      · rw [h3 i (by have:=hP i e;omega)];exact Int.le_refl 0
    · rw [hz i (by omega) hi i hi];exact Int.le_refl 0
theorem io {f:Nat→Int}:∀{n:Nat},(∀i,i<n→0≤f i)→0≤dz n f
  | 0,_=>show (0:Int)≤1 by decide
  | n + 1,h=>Int.mul_nonneg (io fun i hi=>h i (by omega)) (h n (by omega))
theorem nL {f:Nat→Int} {b:Nat}:∀{n:Nat},(∀i,i<n→(f i).natAbs<2^b)→(dz n f).natAbs≤2^(b*n)
  | 0,_=>by simp [dz]
  | n + 1,h=>by
    simp only [dz];rw [Int.natAbs_mul,Nat.mul_succ,Nat.pow_add];exact Nat.mul_le_mul (nL fun i hi=>h i (by omega)) (Nat.le_of_lt (h n (by omega)))
theorem ri {f:Nat→Int} {b B n:Nat} (h:∀i,i<n→(f i).natAbs<2^b) (hB:b*n<B):(dz n f).natAbs<2^B:=
  Nat.lt_of_le_of_lt (nL h) (Nat.pow_lt_pow_right (by decide) hB)
theorem tZ {n:Nat} {M0:Nat→Nat→Int} {S:WS} (hl:Lin n n M0 S) (hi:ck n n S.M):dz n (fun i=>S.M i i)=((bP n M0).natAbs:Int):=by
  obtain ⟨h1,h2⟩:=vN hi;have e:=ut hl.uv (A:=M0) (H:=S.M) fun i j hi hj=>(hl.eq i j hi hj).symm
  rw [←e,uw h1,Int.natAbs_of_nonneg (io h2)]
def yM:Nat:=100000
theorem dB4:∀n,n<5→dB 4 n≤100:=by decide
end Go.TL
namespace Go.TL
open Go.RowKit Go.Proofs
set_option linter.unusedVariables false
set_option linter.unusedSimpArgs false
section
set_option maxRecDepth 100000
theorem zF:ax Tryz.prog 30=true:=by kernel_rfl
theorem zE:ax Tryz.prog 33=true:=by kernel_rfl
theorem zD:ax Tryz.prog 35=true:=by kernel_rfl
end
set_option maxRecDepth 10000 in
set_option maxHeartbeats 1600000 in
theorem tU (w:World) (R C:Nat) (l:Value) (n:Nat) (f:Nat→Int) (hl:eH .i8 57 w l n f) (hR:R<256) (hC:C<256) (hsan:∀w,Calls Tryz.prog 9 #[] w (cc w fun v _=>v= .bool true)):Calls Tryz.prog 7 #[.agg #[.int .u8 (R:Nat),.int .u8 (C:Nat),l]] w (cc w fun v w'=>v= .bool true):=by
 have hLIM:bj=562949953421312:=rfl;have hln:n<9223372036854775808:=by obtain ⟨_,_,_,h2,h3,_⟩:=hl;omega
 have hnB:=zT (R % 5) (by omega);refine ai (N:=59) (rs:= #[.tmp 2]) Tryz.func7 rfl rfl rfl (Nat.le_of_ble_eq_true rfl) ?_;have hX:aA w w:=aA.refl w;refine ab ?_;refine RL.x rfl rfl (cQ.box [.int .u8 ((R:Nat)),.int .u8 ((C:Nat)),l] rfl rfl) ?_;rintro _ w1 ⟨g1,rfl,hge1,hx1,hA1⟩;replace hX:=aA.trans hX hx1;refine RL.p rfl rfl (cj.assign rfl) ?_;refine RL.nil ?_;refine ab ?_;refine RL.x rfl rfl (cQ.call AD (lQ) (hsan _)) ?_;rintro _ w2 ⟨hx2,rfl⟩;replace hA1:=aY.ext hA1 hx2;replace hX:=aA.trans hX hx2;refine RL.p rfl rfl (cj.assign rfl) ?_;refine RL.nil ?_;refine ab ?_;refine RL.p rfl rfl (af [.int .u8 ((R:Nat)),.int .u8 ((C:Nat)),l] zI rfl (hA1.cells 0 _ rfl rfl)) ?_;refine RL.x rfl rfl (cQ.call zF (aL rfl) (oM _ R C l n f (eH.ext hl hX) (by omega) (by omega))) ?_;rintro v1 w3 ⟨hx3,q1⟩;replace hX:=aA.trans hX hx3;refine RL.x rfl rfl (cQ.alloc [.int .i64 (0),.int .i64 (0),.slice (none) (0) (0)] cn rfl) ?_;rintro _ w4 ⟨g2,rfl,hge2,hx4,hA2⟩;have hbs2:w.heap.size≤g2:=Nat.le_trans hX.size hge2;replace q1:=bX.ext q1 hx4;replace hX:=aA.trans hX hx4;obtain ⟨sv1,hq1,hr1,hc1,hS1⟩:=q1.form;refine RL.x rfl rfl (cQ.store [.int .i64 ((R % 5:Nat)),.int .i64 ((R % 5:Nat)),sv1] cR rfl hq1 rfl hA2 (Nat.le_of_ble_eq_true rfl) (cS rfl rfl hS1.one)) ?_;rintro _ w5 ⟨hk1,hnew⟩;replace hS1:=br hS1 hk1 hA2 (by decide);replace hX:=hX.step hk1 (fun b e=>by subst e;exact hbs2);replace hA2:=hnew.lit [.int .i64 ((R % 5:Nat)),.int .i64 ((R % 5:Nat)),sv1] rfl;clear hnew;refine RL.nil ?_;refine ab ?_;refine RL.p rfl rfl (af [.int .i64 ((R % 5:Nat)),.int .i64 ((R % 5:Nat)),sv1] aV rfl (hA2.cells 0 _ rfl rfl)) ?_;refine RL.x rfl rfl (cQ.call nA (aL rfl) (ir _ _ (R % 5) (R % 5) (ed f n (R % 5)) _ 4 20000 (bX.mk hS1 (by omega) (by omega)) (by omega) (fun i j _ _=>Nat.le_of_lt (nY f n _ i j)) hnB.1 (by decide) (by decide))) ?_;rintro _ w6 ⟨hx5,kf_1,Sf_1,hHf_1,sa_1,sb_1,sc_1,rfl,hdr_1,hdc_1,hSa_1,hSb_1,hSc_1⟩;replace hA2:=aY.ext hA2 hx5;replace hS1:=ce.ext hS1 hx5;replace hX:=aA.trans hX hx5;refine RL.p rfl rfl (kQ pD aV rfl (by rfl)) ?_;refine RL.x rfl rfl (cQ.alloc [.int .i64 (0),.int .i64 (0),.slice (none) (0) (0)] cn rfl) ?_;rintro _ w7 ⟨g3,rfl,hge3,hx6,hA3⟩;have ne2:g2≠g3:=Nat.ne_of_lt (Nat.lt_of_lt_of_le hA2.lt hge3);have hbs3:w.heap.size≤g3:=Nat.le_trans hX.size hge3;replace hA2:=aY.ext hA2 hx6;replace hS1:=ce.ext hS1 hx6;replace hSa_1:=ce.ext hSa_1 hx6;replace hX:=aA.trans hX hx6;refine RL.x rfl rfl (cQ.store [.int .i64 ((R % 5:Nat)),.int .i64 ((R % 5:Nat)),sa_1] cR rfl rfl rfl hA3 (Nat.le_of_ble_eq_true rfl) (cS rfl rfl (hSa_1.one))) ?_;rintro _ w8 ⟨hk2,hnew⟩;replace hA2:=hA2.keep hk2 ne2;replace hS1:=br hS1 hk2 hA3 (by decide);replace hSa_1:=br hSa_1 hk2 hA3 (by decide);replace hX:=hX.step hk2 (fun b e=>by subst e;exact hbs3);replace hA3:=hnew.lit [.int .i64 ((R % 5:Nat)),.int .i64 ((R % 5:Nat)),sa_1] rfl;clear hnew;refine RL.nil ?_;refine WP.seq ?_;refine aF am 17 [_,fun v AW=>v= .bool (decide (ck (R % 5) (R % 5) Sf_1.M)),_,fun v AW=>v= .bool (decide (¬(ck (R % 5) (R % 5) Sf_1.M))),_,_,_,_,_,_,fun v AW=>v= .bool (decide ((¬(ck (R % 5) (R % 5) Sf_1.M))∨(((R % 5:Nat):Int)≠((R % 5:Nat):Int)))),_,_,_,_,_,_] rfl rfl (fun e_ w_ AV AU=>⟨fun _=>aa (af [.int .i64 ((R % 5:Nat)),.int .i64 ((R % 5:Nat)),sa_1] aV ((AU 5 rfl rfl)) ((aY.ext hA3 AV).cells 0 _ rfl rfl)),fun AT=>cQ.call xa (aL ((AT 0 rfl))) (zO _ _ _ _ _ _ (bX.mk (ce.ext hSa_1 AV) (by omega) (by omega)) (by omega)),fun AT=>aa (cj.not (p:=ck (R % 5) (R % 5) Sf_1.M) (AT 1 rfl)),fun AT=>aa (cj.move ((AT 2 rfl))),fun AT=>gF (AT 3 rfl) fun hg=>aa (cj.fieldAddr aX ((AU 5 rfl rfl))),fun AT=>gF (AT 3 rfl) fun hg=>aa (cj.load bD ((AT 4 rfl hg)) ((aY.ext hA3 AV).at_ (i:=0) rfl rfl)),fun AT=>gF (AT 3 rfl) fun hg=>aa (cj.fieldAddr aX ((AU 4 rfl rfl))),fun AT=>gF (AT 3 rfl) fun hg=>aa (cj.load bD ((AT 6 rfl hg)) ((aY.ext hA2 AV).at_ (i:=0) rfl rfl)),fun AT=>gF (AT 3 rfl) fun hg=>aa (cj.neq ((AT 5 rfl hg)) ((AT 7 rfl hg))),fun AT=>aa (aP (p:=¬(ck (R % 5) (R % 5) Sf_1.M)) (q:=((R % 5:Nat):Int)≠((R % 5:Nat):Int)) (AT 3 rfl) (fun hq=>(AT 8 rfl hq))),fun AT=>aa (cj.move ((AT 9 rfl))),fun AT=>gF (AT 10 rfl) fun hg=>aa (cj.fieldAddr bC ((AU 5 rfl rfl))),fun AT=>gF (AT 10 rfl) fun hg=>aa (cj.load bD ((AT 11 rfl hg)) ((aY.ext hA3 AV).at_ (i:=1) rfl rfl)),fun AT=>gF (AT 10 rfl) fun hg=>aa (cj.fieldAddr bC ((AU 4 rfl rfl))),fun AT=>gF (AT 10 rfl) fun hg=>aa (cj.load bD ((AT 13 rfl hg)) ((aY.ext hA2 AV).at_ (i:=1) rfl rfl)),fun AT=>gF (AT 10 rfl) fun hg=>aa (cj.neq ((AT 12 rfl hg)) ((AT 14 rfl hg))),fun AT=>aa (aP (p:=(¬(ck (R % 5) (R % 5) Sf_1.M))∨(((R % 5:Nat):Int)≠((R % 5:Nat):Int))) (q:=((R % 5:Nat):Int)≠((R % 5:Nat):Int)) (AT 10 rfl) (fun hq=>(AT 15 rfl hq))),trivial⟩) ?_;intro e1 w9 hx7 ho1 hf1;replace hA2:=aY.ext hA2 hx7;replace hS1:=ce.ext hS1 hx7;replace hSa_1:=ce.ext hSa_1 hx7;replace hA3:=aY.ext hA3 hx7;replace hX:=aA.trans hX hx7;have s2_e1:e1 2=_:=ho1 2 rfl rfl;have s3_e1:e1 3=_:=ho1 3 rfl rfl;have s4_e1:e1 4=_:=ho1 4 rfl rfl;have s5_e1:e1 5=_:=ho1 5 rfl rfl;have s31_e1:e1 31=_:=hf1 16 rfl;refine RL.nil ?_;refine ae (((¬(ck (R % 5) (R % 5) Sf_1.M))∨(((R % 5:Nat):Int)≠((R % 5:Nat):Int)))∨(((R % 5:Nat):Int)≠((R % 5:Nat):Int))) s31_e1 (fun c31=> ?_) (fun c31=> ?_)
 ·
  refine ab ?_;refine RL.p rfl rfl (cj.assign rfl) ?_;refine RL.nil ?_;refine WP.ret ?_;refine pl.ret ?_;refine ⟨.bool (false),Am.one (fw.tmp rfl),_,rfl,hX,?_⟩;dsimp only;exfalso;rcases c31 with (h | h) | h
  · exact h hHf_1.ech.isH
  · exact h rfl
  · exact h rfl
 ·
  refine WP.skip ?_;refine pl.norm ?_;have hXa1:=aA.refl w9
  skip
  refine ab ?_;refine RL.x rfl rfl (cQ.call lm (aL rfl) (rg (1) (1) _ (by decide) (by decide) (by decide))) ?_;rintro v2 w10 ⟨hx8,q2⟩;replace hA2:=aY.ext hA2 hx8;replace hA3:=aY.ext hA3 hx8;replace hXa1:=aA.trans hXa1 hx8;replace hX:=aA.trans hX hx8;refine RL.x rfl rfl (cQ.alloc [.bool (false),.slice (none) (0) (0)] bH rfl) ?_;rintro _ w11 ⟨g4,rfl,hge4,hx9,hA4⟩;have ne3:g2≠g4:=Nat.ne_of_lt (Nat.lt_of_lt_of_le hA2.lt hge4);have ne4:g3≠g4:=Nat.ne_of_lt (Nat.lt_of_lt_of_le hA3.lt hge4);have hbs4:w.heap.size≤g4:=Nat.le_trans hX.size hge4;have hba1:w9.heap.size≤g4:=Nat.le_trans hXa1.size hge4;replace hA2:=aY.ext hA2 hx9;replace hA3:=aY.ext hA3 hx9;replace hXa1:=aA.trans hXa1 hx9;replace q2:=ak.ext q2 hx9;replace hX:=aA.trans hX hx9;obtain ⟨ca1,cb1,hq2,ho2,ho3⟩:=ak.cells q2;have qi1:ak w11 (.agg #[ca1,cb1]) 1 1:=hq2▸q2;refine RL.x rfl rfl (cQ.store [ca1,cb1] bf rfl hq2 rfl hA4 (Nat.le_of_ble_eq_true rfl) (bs ho2 ho3)) ?_;rintro _ w12 ⟨hk3,hnew⟩;replace hA2:=hA2.keep hk3 ne3;replace hA3:=hA3.keep hk3 ne4;replace hXa1:=hXa1.step hk3 (fun b e=>by subst e;exact hba1);replace qi1:=ah qi1 hk3 hA4 (by decide);replace hX:=hX.step hk3 (fun b e=>by subst e;exact hbs4);replace hA4:=hnew.lit [ca1,cb1] rfl;clear hnew;refine RL.nil ?_;refine WP.seq ?_;have hBP:yM=100000:=rfl;have hpf:∀i,i≤R % 5→(dz i (fun a=>Sf_1.M a a)).natAbs<2^yM:=fun i hi=>ri (b:=20000) (fun a ha=>ce.bd (ce.ext hSa_1 hXa1) a a (by omega) (by omega)) (by omega)
  refine ab ?_;refine RL.p rfl rfl (cj.assign rfl) ?_;refine RL.nil ?_;refine WP.block ?_;refine WP.loop (fun mz ez uz=>∃i:Nat,∃ka:Value,∃kb:Value,(mz=R % 5 - i)∧(ez 2= .bool (false))∧(ez 3= .bool (decide (True)))∧(ez 4= .pointer (some ⟨g2,0,none⟩))∧(ez 5= .pointer (some ⟨g3,0,none⟩))∧(ez 6= .pointer (some ⟨g4,0,none⟩))∧(ez 7= .int .i64 ((i:Nat)))∧(i≤R % 5)∧(ak uz (.agg #[ka,kb]) (dz i (fun a=>Sf_1.M a a)) yM)∧(aA w uz)∧(aY uz g2 28 3 (bU [.int .i64 ((R % 5:Nat)),.int .i64 ((R % 5:Nat)),sv1]))∧(aY uz g3 28 3 (bU [.int .i64 ((R % 5:Nat)),.int .i64 ((R % 5:Nat)),sa_1]))∧(aA w9 uz)∧(aY uz g4 49 2 (bU [ka,kb]))) (R % 5 - 0) ?_ ?_
  · exact ⟨0,ca1,cb1,rfl,s2_e1,s3_e1,s4_e1,s5_e1,rfl,rfl,(by omega),(ak.eq qi1 rfl (hpf 0 (by omega)) (by decide)),hX,hA2,hA3,hXa1,hA4⟩
  rintro m1 e2 w13 ⟨i,ka,kb,hm1,s2_e2,s3_e2,s4_e2,s5_e2,s6_e2,s7_e2,hi,hIa,hX1,hA2,hA3,hXa1,hA4⟩
  skip
  refine WP.seq ?_;refine ab ?_;refine RL.p rfl rfl (cj.move s7_e2) ?_;refine RL.p rfl rfl (cj.fieldAddr aX s5_e2) ?_;refine RL.p rfl rfl (cj.load bD rfl (hA3.at_ (i:=0) rfl rfl)) ?_;refine RL.p rfl rfl (cj.lss rfl rfl) ?_;refine RL.nil ?_;refine ae (((i:Nat):Int)<((R % 5:Nat):Int)) rfl (fun c36=> ?_) (fun c36=> ?_)
  ·
   refine WP.skip ?_;refine pl.norm ?_;refine WP.seq ?_;refine WP.block ?_;refine WP.ds am 10 [_,_,_,_,_,_,_,_,_,_] rfl rfl (fun e_ w_ AV AU=>⟨fun _=>aa (af [ka,kb] aq ((AU 6 rfl s6_e2)) ((aY.ext hA4 AV).cells 0 _ rfl rfl)),fun _=>aa (cj.fieldAddr aw ((AU 5 rfl s5_e2))),fun AT=>aa (cj.load aU ((AT 1 rfl)) ((aY.ext hA3 AV).at_ (i:=2) rfl rfl)),fun _=>aa (cj.move ((AU 7 rfl s7_e2))),fun AT=>ag (aJ (j:=i) aK (AT 2 rfl) (ce.ext (ce.ext hSa_1 hXa1) AV) (AT 3 rfl) (by omega) (by omega)),fun AT=>ag (aI bn rfl (AT 4 rfl)),fun _=>aa (cj.move ((AU 7 rfl s7_e2))),fun AT=>ag (aM (j:=i) bE rfl (AT 5 rfl) (AT 6 rfl) (by omega) (by omega)),fun AT=>ag (aO aq rfl (AT 7 rfl)),fun AT=>cQ.call sA (aC ((AT 0 rfl)) rfl) (tj _ _ _ _ _ _ _ ((yM) + (20000)) ((ak.ext hIa AV)) ((AT 8 rfl)) (by omega) (by omega)),trivial⟩) ?_;intro e3 w14 hx10 ho4 hf2;replace hA2:=aY.ext hA2 hx10;replace hA3:=aY.ext hA3 hx10;replace hXa1:=aA.trans hXa1 hx10;replace hA4:=aY.ext hA4 hx10;replace hX1:=aA.trans hX1 hx10;have s2_e3:=ho4 2 rfl s2_e2;have s3_e3:=ho4 3 rfl s3_e2;have s4_e3:=ho4 4 rfl s4_e2;have s5_e3:=ho4 5 rfl s5_e2;have s6_e3:=ho4 6 rfl s6_e2;have s7_e3:=ho4 7 rfl s7_e2;have s48_e3:ak w14 (e3 48) ((dz i (fun a=>Sf_1.M a a):Int)*((Sf_1.M i) i:Int)) ((yM) + (20000)):=hf2 9 rfl;obtain ⟨ca2,cb2,hq3,ho5,ho6⟩:=ak.cells s48_e3;have qi2:ak w14 (.agg #[ca2,cb2]) ((dz i (fun a=>Sf_1.M a a):Int)*((Sf_1.M i) i:Int)) ((yM) + (20000)):=hq3▸s48_e3;refine RL.x rfl rfl (cQ.store [ca2,cb2] bf s6_e3 hq3 rfl hA4 (Nat.le_of_ble_eq_true rfl) (bs ho5 ho6)) ?_;rintro _ w15 ⟨hk4,hnew⟩;replace hA2:=hA2.keep hk4 ne3;replace hA3:=hA3.keep hk4 ne4;replace hXa1:=hXa1.step hk4 (fun b e=>by subst e;exact hba1);replace qi2:=ah qi2 hk4 hA4 (by decide);replace hX1:=hX1.step hk4 (fun b e=>by subst e;exact hbs4);replace hA4:=hnew.lit [ca2,cb2] rfl;clear hnew;refine RL.nil ?_;refine iD.norm ?_;refine pl.norm ?_;refine WP.region ?_;refine RL.p rfl rfl (cj.move s7_e3) ?_;refine RL.p rfl rfl (cj.add (c:=((i + 1:Nat):Int)) rfl rfl (bT (by omega))) ?_;refine RL.p rfl rfl (cj.assign rfl) ?_;refine RL.nil ?_;refine pl.norm ⟨_,(by omega),i + 1,ca2,cb2,rfl,s2_e3,s3_e3,s4_e3,s5_e3,s6_e3,rfl,(by omega),(ak.eq qi2 rfl (hpf (i + 1) (by omega)) (by decide)),hX1,hA2,hA3,hXa1,hA4⟩
  ·
   refine WP.exit ?_;refine pl.exit ?_;refine pl.exit ?_;refine iD.same ?_;refine pl.norm ?_;have hiR:i=R % 5:=by omega
   have hdb:=dB4 (R % 5) (by omega);refine ab ?_;refine RL.p rfl rfl (af [.int .i64 ((R % 5:Nat)),.int .i64 ((R % 5:Nat)),sv1] aV s4_e2 (hA2.cells 0 _ rfl rfl)) ?_;refine RL.x rfl rfl (cQ.call zE (aL rfl) (yd _ _ _ _ _ _ (bX.mk (ce.ext hS1 hXa1) (by omega) (by omega)))) ?_;rintro v3 w16 ⟨hx11,q3⟩;replace hXa1:=aA.trans hXa1 hx11;replace hA4:=aY.ext hA4 hx11;replace hIa:=ak.ext hIa hx11;replace hX1:=aA.trans hX1 hx11;refine RL.x rfl rfl (cQ.call wY (aL rfl) (xe (R % 5) (R % 5) _ _ _ _ q3 rfl (by omega))) ?_;rintro v4 w17 ⟨hx12,q4⟩;replace hXa1:=aA.trans hXa1 hx12;replace hA4:=aY.ext hA4 hx12;replace hIa:=ak.ext hIa hx12;replace hX1:=aA.trans hX1 hx12;refine RL.x rfl rfl (cQ.alloc [.bool (false),.slice (none) (0) (0)] bH rfl) ?_;rintro _ w18 ⟨g5,rfl,hge5,hx13,hA5⟩;have ne6:g4≠g5:=Nat.ne_of_lt (Nat.lt_of_lt_of_le hA4.lt hge5);have hbs5:w.heap.size≤g5:=Nat.le_trans hX1.size hge5;have hba2:w9.heap.size≤g5:=Nat.le_trans hXa1.size hge5;replace hA4:=aY.ext hA4 hx13;replace hIa:=ak.ext hIa hx13;replace q4:=ak.ext q4 hx13;replace hX1:=aA.trans hX1 hx13;obtain ⟨ca3,cb3,hq4,ho7,ho8⟩:=ak.cells q4;have qi3:ak w18 (.agg #[ca3,cb3]) (bP (R % 5) (ed f n (R % 5))) (dB 4 (R % 5)):=hq4▸q4;refine RL.x rfl rfl (cQ.store [ca3,cb3] bf rfl hq4 rfl hA5 (Nat.le_of_ble_eq_true rfl) (bs ho7 ho8)) ?_;rintro _ w19 ⟨hk5,hnew⟩;replace hA4:=hA4.keep hk5 ne6;replace hIa:=ah hIa hk5 hA5 (by decide);replace qi3:=ah qi3 hk5 hA5 (by decide);replace hX1:=hX1.step hk5 (fun b e=>by subst e;exact hbs5);replace hA5:=hnew.lit [ca3,cb3] rfl;clear hnew;refine RL.nil ?_;refine aF am 7 [fun v AW=>v= .bool (decide (True)),fun v AW=>v= .bool (decide (True)),_,_,_,fun v AW=>(True)→(v= .bool (decide ((dz i (fun a=>Sf_1.M a a):Int)=(((bP (R % 5) (ed f n (R % 5))).natAbs:Int):Int)))),_] rfl rfl (fun e_ w_ AV AU=>⟨fun _=>aa (cj.move ((AU 3 rfl s3_e2))),fun AT=>aa (cj.move ((AT 0 rfl))),fun AT=>gT (AT 1 rfl) fun hg=>aa (af [ka,kb] aq ((AU 6 rfl s6_e2)) ((aY.ext hA4 AV).cells 0 _ rfl rfl)),fun AT=>gT (AT 1 rfl) fun hg=>aa (af [ca3,cb3] aq ((AU 8 rfl rfl)) ((aY.ext hA5 AV).cells 0 _ rfl rfl)),fun AT=>gT (AT 1 rfl) fun hg=>cQ.call zD (aL ((AT 3 rfl hg))) (zQ _ _ _ _ (ak.ext qi3 AV)),fun AT=>gT (AT 1 rfl) fun hg=>cQ.call wX (aC ((AT 2 rfl hg)) rfl) (ti _ _ _ _ _ _ _ ((ak.ext hIa AV)) ((AT 4 rfl hg))),fun AT=>aa (au (p:=True) (q:=(dz i (fun a=>Sf_1.M a a):Int)=(((bP (R % 5) (ed f n (R % 5))).natAbs:Int):Int)) (AT 1 rfl) (fun hq=>(AT 5 rfl hq))),trivial⟩) ?_;intro e4 w20 hx14 ho9 hf3;replace hX1:=aA.trans hX1 hx14;have s58_e4:e4 58=_:=hf3 6 rfl;refine RL.p rfl rfl (cj.assign s58_e4) ?_;refine RL.nil ?_;refine WP.ret ?_;refine ⟨.bool (decide ((True)∧((dz i (fun a=>Sf_1.M a a):Int)=(((bP (R % 5) (ed f n (R % 5))).natAbs:Int):Int)))),Am.one (fw.tmp rfl),_,rfl,hX1,?_⟩;dsimp only;exact congrArg _ (decide_eq_true ⟨trivial,by rw [hiR];exact tZ hHf_1.lin hHf_1.ech.isH⟩)
end Go.TL
namespace Go.Proofs.YtknbpehdcgamaaaGreat
open Go.TL Go.ChangeShapes Go.WideShapes Go.ChangeAt Go.RowKit Go.Joins
set_option linter.unusedVariables false
theorem own:ownKnob Tryz.prog.godebug=none:=by kernel_rfl
theorem vK:laidOutB Tryz.prog=true:=by kernel_rfl
section
variable {H:Type} {enc:TypeId×Value→H} {P:Program}
theorem go (hl:laidOutB P=true) {W W':World} (hb:Below W.heap.size W W') {sp:Nat→Bool}:
    ∀{ts:List TypeId} {vs:List Value} {ds:List (DataW H)} {ps:List MemPlace},ts.all (fun t=>P.readableRec t&&decide (t<P.types.size))=true→
      DataW.TrodAll enc P W 0 (fun _=>true) true ts vs ds ps→(∀x∈ps,x.block<W.heap.size)→(∀x∈ps,sp x.block=true)→DataW.TrodAll enc P W' 0 sp true ts vs ds ps
  | [], [], [],_,_,h,_,_=>h
  | [], [],_::_,_,_,h,_,_=>h.elim
  | [],_::_,_,_,_,h,_,_=>h.elim
  | _::_, [],_,_,_,h,_,_=>h.elim
  | _::_,_::_, [],_,_,h,_,_=>h.elim
  | t::ts,v::vs,d::ds,ps,ha,h,hlt,hs=>by
    obtain ⟨p,q,h1,h2,rfl⟩:=h;simp only [List.all_cons,Bool.and_eq_true,decide_eq_true_eq] at ha;exact ⟨p,q,WideElems.Trod_stays hl ha.1.1 ha.1.2 h1 (fun x hx=>hb.same (hlt x (by simp [hx]))) (fun x hx=>hs x (by simp [hx])),go hl hb ha.2 h2 (fun x hx=>hlt x (by simp [hx])) (fun x hx=>hs x (by simp [hx])),rfl⟩
theorem tT {f:Func} {s:ChangeSpec} {tb:TypeId} {W W':World} {args:Array Value} {ds gs:List (DataW H)} {before:List MemPlace}
    (hl:laidOutB P=true) (ha:f.params.toList.all (fun t=>P.readableRec t&&decide (t<P.types.size))=true) (hv:s.vars= []) (hr:f.resultTypes= #[tb]) (htb:P.underlying tb=some .bool)
    (hfn:s.fn H ds={results:= [.lit (.bool true)],args:=ds})
    (hW:DataW.Whole enc P f.params.toList s.vars false W args.toList ds gs before) (hb:Below W.heap.size W W'):
    s.post enc P f false true false false W args (.bool true) W':=by
  have hlt:=hW.lt;have hW0:=hW;obtain ⟨p,q,hA,hV,rfl,_,_⟩:=hW;rw [hv] at hV;obtain ⟨rfl,rfl⟩:=trodVars_none hV;have hp:∀x∈p,x.block<W.heap.size:=fun x hx=>by simpa using hlt x (by simp [hx])
  have hz:f.resultTypes.toList= [tb]:=by rw [hr]
  have hz2:(Value.bool true).resultList f.resultTypes.size= [.bool true]:=by rw [hr];rfl
  refine ⟨ds, [],p ++ [], [],p, [],hW0,?_,?_,?_,hb.frame _,fun h=>by cases h⟩
  · rw [List.append_nil,hfn,hz,hz2];exact trodAll_mk1 (shut_bool htb true)
  · rw [List.append_nil,hfn];exact go hl hb ha hA hp (fun x hx=>by simpa using hp x hx)
  · rw [List.append_nil,hfn,hv];rfl
theorem tA {t te fuel T:Nat} {k:IntKind} {w:World} {v:Value} {y:DataW H×List MemPlace} (ht:P.underlying t=some (.slice te)) (he:P.underlying te=some (.int k)) (hc:P.cellsOf te=1)
    (h:DataW.trod enc P w 0 (fun _=>true) true fuel t [v]=some y):∃(n:Nat) (f:Nat→Int),eH k T w v n f∧∀i,i<n→(Lit.int k (f i)).wf=true:=by
  rcases open_ints ht he hc h with ⟨h1,_⟩ | ⟨a,n,c,zs,h1,_,h3,h4,h5,_,h7,h8⟩
  · obtain rfl:v= .slice none 0 0:=by simpa using h1
    exact ⟨0,fun _=>0,⟨none,0,rfl,Nat.le_refl _,by decide,fun h=>absurd h (by decide)⟩,fun i hi=>absurd hi (by omega)⟩
  · obtain rfl:v= .slice (some a) n c:=by simpa using h1
    rw [if_pos rfl] at h5;refine ⟨n,fun i=>zs.getD i 0,⟨some a,c,rfl,h3,by unfold maxLen at h4;omega,fun hn=> ?_⟩,fun i hi=> ?_⟩
    · obtain ⟨b,o,rfl,hz⟩:=ints_at h7 (by omega)
      exact ⟨b,o,rfl,fun i hi=>hz i (by omega)⟩
    · have:i<zs.length:=by omega
      show (Lit.int k (zs.getD i 0)).wf=true;rw [List.getD_eq_getElem?_getD,List.getElem?_eq_getElem this];exact h8 _ (List.getElem_mem this)
end
section
variable {H:Type} {enc:TypeId×Value→H}
set_option maxRecDepth 100000 in
theorem tg {w:World} {b0:Nat} {v:Value} {d:DataW H} {p:List MemPlace} (hv:Value.okWide Tryz.prog w .any b0 24 v) (h:DataW.Trod enc Tryz.prog w 0 (fun _=>true) true 24 v d p):
    ∃(R C n:Nat) (l:Value) (f:Nat→Int),v= .agg #[.int .u8 (R:Nat),.int .u8 (C:Nat),l]∧R<256∧C<256∧eH .i8 57 w l n f∧∀i,i<n→(Lit.int .i8 (f i)).wf=true:=by
  obtain ⟨c0,c1,c2,y0,y1,y2,m,rfl,rfl,rfl,h0,h1,h2⟩:=open_agg3 Tryz.underlying24 (by kernel_rfl) (by kernel_rfl) hv h;obtain ⟨a,e0,_,wa⟩:=DataW.trod_int Tryz.underlying5 h0;obtain ⟨b,e1,_,wb⟩:=DataW.trod_int Tryz.underlying5 h1;obtain rfl:c0= .int .u8 a:=by simpa using e0
  obtain rfl:c1= .int .u8 b:=by simpa using e1
  obtain ⟨n,f,hn,hf⟩:=tA (T:=57) Tryz.underlying22 Tryz.underlying57 (by kernel_rfl) h2;have ba:=bounds_u8 wa;have bb:=bounds_u8 wb;exact ⟨a.toNat,b.toNat,n,c2,f,by rw [Int.toNat_of_nonneg ba.1,Int.toNat_of_nonneg bb.1],by omega,by omega,hn,hf⟩
end
end Go.Proofs.YtknbpehdcgamaaaGreat
namespace Go.Proofs.YtknbpehdcgamaaaGreat
open Go.TL Go.ChangeShapes Go.WideShapes Go.ChangeAt Go.RowKit
set_option linter.unusedVariables false
set_option maxRecDepth 100000 in
theorem kC (os:Os) (started:os.Started) (H:Type) (enc:TypeId×Value→H):
    ReturnsInHanded {} Tryz.checked os 7 .any (Rows.hermitePivotsSpec.pre6 enc Tryz.prog Tryz.f7 Rows.hermitePivotsRow.domain false) (Rows.hermitePivotsSpec.post enc Tryz.prog Tryz.f7 false true false false):=by
  refine returnsInHanded_of_change (C:=Tryz.checked) own started (by kernel_rfl) Tryz.func7
    (ChangeSpec.witness6 (enc:=enc) (C:=Tryz.checked) false ⟨#[],#[.agg #[.int .u8 0,.int .u8 0,.slice none 0 0]], []⟩ 8 (by kernel_rfl) (by kernel_rfl) (by kernel_rfl) (by kernel_rfl)) ?_
  intro W base args ds gs before hval0 hW _ _;have hval:∀(j:Nat) t v,Tryz.f7.params[j]? =some t→args[j]? =some v→Value.okWide Tryz.prog W .any base t v:=hval0;have hW':=hW;obtain ⟨p,q,hA0,_,_,_,_⟩:=hW;have hA:DataW.TrodAll enc Tryz.prog W 0 (fun _=>true) true Tryz.f7.params.toList args.toList ds p:=hA0;rw [Tryz.params7] at hA hval;obtain ⟨v0,d0,rfl,rfl,h0⟩:=trodAll_one hA;obtain ⟨Ra,Ca,na,la,fa,rfl,hRa,hCa,hna,hfa⟩:=tg (hval 0 24 v0 rfl rfl) h0;refine (tU W Ra Ca la na fa hna hRa hCa (fun w=>pb w)).mono fun e W' hh=> ?_
  obtain ⟨v,rfl,hx,rfl⟩:=hh;exact ⟨_,rfl,tT vK (by kernel_rfl) rfl (by kernel_rfl) Tryz.underlying4 rfl hW' hx⟩
theorem hpivots_holds:Rows.HermitePivotsSaid:=
  OpenClaim.holds_of_wide 7 Tryz.f7 rfl rfl rfl rfl rfl rfl rfl ⟨rfl,rfl,rfl,rfl,rfl⟩ rfl rfl rfl rfl rfl (by kernel_rfl) Tryz.func7 (by kernel_rfl)
    (of_decide_eq_true (by kernel_rfl)) (by unfold Func.isWrapper;first | (rw [if_pos (by decide +kernel)];kernel_rfl) | (rw [if_neg (by decide +kernel)];exact ⟨rfl,rfl⟩))
    (fun os started H enc _=>kC os started H enc)
end Go.Proofs.YtknbpehdcgamaaaGreat
