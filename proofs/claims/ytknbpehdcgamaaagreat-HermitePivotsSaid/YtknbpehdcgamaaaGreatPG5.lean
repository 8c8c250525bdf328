/-
  Lemmas towards the theorem of this claim (part 5).
  Conditions: those that each theorem names.
-/
import Derived.OrdersHeld
import Derived.Test.YtknbpehdcgamaaaGreatPG4
namespace Go.TL
open Go.RowKit Go.Proofs
set_option linter.unusedVariables false
set_option linter.unusedSimpArgs false
set_option maxRecDepth 10000 in
theorem vR (w:World) (B gw r c:Nat) (M U V:Nat→Nat→Int) (b:Nat) (top:Nat) (q:Nat) (hW:cZ 74 w B gw r c M U V b) (htop:top<r) (hq:q<c):Calls Tryz.prog 83 #[.pointer (some ⟨gw,0,none⟩),.int .i64 (top:Nat),.int .i64 (q:Nat)] w (cc w fun v w'=>v= .tuple #[.int .i64 (bp (fun a=>M a q) top (r - top)).1,.bool (bp (fun a=>M a q) top (r - top)).2]):=by
 have hLIM:bj=562949953421312:=rfl;obtain ⟨hm,hu,hv,km,ku,kv,ρm,ρu,ρv,hBg,hG,hMm,hMu,hMv,nmu,nmv,nuv,dmu,dmv,duv⟩:=hW;have hdm:=cY.dlim hMm;have hcm:=cY.clim hMm;have hdu:=cY.dlim hMu;have hdv:=cY.dlim hMv;have h0m:=hMm;have h0u:=hMu;have h0v:=hMv;refine ai (N:=61) (rs:= #[.tmp 6,.tmp 7]) Tryz.func83 rfl rfl rfl (Nat.le_of_ble_eq_true rfl) ?_;have hX:aA w w:=aA.refl w;refine ab ?_;refine RL.p rfl rfl (cj.assign rfl) ?_;refine RL.p rfl rfl (cj.assign rfl) ?_;refine RL.nil ?_;refine ab ?_;refine RL.p rfl rfl (cj.assign rfl) ?_;refine RL.p rfl rfl (cj.assign rfl) ?_;refine RL.nil ?_;refine WP.seq ?_;refine ab ?_;refine RL.p rfl rfl (cj.move rfl) ?_;refine RL.p rfl rfl (cj.assign rfl) ?_;refine RL.nil ?_;refine WP.block ?_;refine WP.loop (fun mz ez uz=>∃n:Nat,(mz=r - (top + n))∧(ez 0= .pointer (some ⟨gw,0,none⟩))∧(ez 2= .int .i64 ((q:Nat)))∧(ez 6= .int .i64 (0))∧(ez 7= .bool (false))∧(ez 8= .int .i64 ((bp (fun a=>M a q) top n).1))∧(ez 9= .bool ((bp (fun a=>M a q) top n).2))∧(ez 10= .int .i64 ((top + n:Nat)))∧(top + n≤r)∧(aA w uz)) (r - (top + 0)) ?_ ?_
 · exact ⟨0,rfl,rfl,rfl,rfl,rfl,rfl,rfl,rfl,(by omega),hX⟩
 rintro m1 e1 w1 ⟨n,hm1,s0_e1,s2_e1,s6_e1,s7_e1,s8_e1,s9_e1,s10_e1,hn,hX1⟩;have hrng:=jC (fun a=>M a q) top n;refine WP.seq ?_;refine ab ?_;refine RL.p rfl rfl (cj.move s10_e1) ?_;refine RL.p rfl rfl (cj.move s0_e1) ?_;refine RL.p rfl rfl (cj.nilCheck rfl) ?_;refine RL.p rfl rfl (cj.fieldAddr cB rfl) ?_;refine RL.p rfl rfl (cj.fieldAddr aX rfl) ?_;refine RL.p rfl rfl (cj.load bD rfl ((aY.ext hG hX1).at_ (i:=0) rfl rfl)) ?_;refine RL.p rfl rfl (cj.lss rfl rfl) ?_;refine RL.nil ?_;refine ae (((top + n:Nat):Int)<((r:Nat):Int)) rfl (fun c19=> ?_) (fun c19=> ?_)
 ·
  refine WP.skip ?_;refine pl.norm ?_;refine WP.seq ?_;refine WP.block ?_;refine ab ?_;refine RL.p rfl rfl (cj.move s0_e1) ?_;refine RL.p rfl rfl (cj.nilCheck rfl) ?_;refine RL.p rfl rfl (cj.fieldAddr cB rfl) ?_;refine RL.p rfl rfl (cj.fieldAddr aw rfl) ?_;refine RL.p rfl rfl (cj.load aU rfl ((aY.ext hG hX1).at_ (i:=2) rfl rfl)) ?_;refine RL.p rfl rfl (cj.move s10_e1) ?_;refine RL.p rfl rfl (cj.index (j:=top + n) aK rfl rfl rfl (by omega) (by omega)) ?_;refine RL.x rfl rfl (aG (i:=top + n) bn rfl (cY.ext hMm hX1) (by omega)) ?_;rintro v1 _ ⟨rfl,q1⟩;refine RL.p rfl rfl (cj.move s2_e1) ?_;refine RL.p rfl rfl (aR (j:=q) bE (bL q1 w1) rfl rfl (by omega) (by omega)) ?_;refine RL.x rfl rfl (bN (j:=q) aq rfl (cY.row (cY.ext hMm hX1) (by omega)) (by omega)) ?_;rintro v2 _ ⟨rfl,q2⟩;refine RL.x rfl rfl (cQ.alloc [.bool (false),.slice (none) (0) (0)] bH rfl) ?_;rintro _ w2 ⟨g1,rfl,hge1,hx1,hA1⟩;have hbs1:w.heap.size≤g1:=Nat.le_trans hX1.size hge1;replace q2:=ak.ext q2 hx1;replace hX1:=aA.trans hX1 hx1;obtain ⟨ca1,cb1,hq1,ho1,ho2⟩:=ak.cells q2;have qi1:ak w2 (.agg #[ca1,cb1]) (M (top + n) q) b:=hq1▸q2;refine RL.x rfl rfl (cQ.store [ca1,cb1] bf rfl hq1 rfl hA1 (Nat.le_of_ble_eq_true rfl) (bs ho1 ho2)) ?_;rintro _ w3 ⟨hk1,hnew⟩;replace qi1:=ah qi1 hk1 hA1 (by decide);replace hX1:=hX1.step hk1 (fun b e=>by subst e;exact hbs1);replace hA1:=hnew.lit [ca1,cb1] rfl;clear hnew;refine RL.nil ?_;refine WP.seq ?_;refine ab ?_;refine RL.p rfl rfl (af [ca1,cb1] aq rfl (hA1.cells 0 _ rfl rfl)) ?_;refine RL.x rfl rfl (cQ.call jj (aL rfl) (fO _ _ _ _ qi1)) ?_;rintro _ w4 ⟨hx2,rfl⟩;replace hA1:=aY.ext hA1 hx2;replace qi1:=ak.ext qi1 hx2;replace hX1:=aA.trans hX1 hx2;refine RL.p rfl rfl (cj.eql rfl rfl) ?_;refine RL.nil ?_;refine ae (((M (top + n) q:Int).sign:Int)=(0:Int)) rfl (fun c35=> ?_) (fun c35=> ?_)
  ·
   refine WP.exit ?_;refine pl.exit ?_;refine iD.same ?_;refine pl.norm ?_;refine WP.region ?_;refine RL.p rfl rfl (cj.move s10_e1) ?_;refine RL.p rfl rfl (cj.add (c:=(((top + n) + 1:Nat):Int)) rfl rfl (bT (by omega))) ?_;refine RL.p rfl rfl (cj.assign rfl) ?_;refine RL.nil ?_;have hst:=qe (x:=(fun a=>M a q)) (top:=top) (n:=n) (Int.sign_eq_zero_iff_zero.1 c35);refine pl.norm ⟨_,(by omega),n + 1,rfl,s0_e1,s2_e1,s6_e1,s7_e1,(Eq.trans (b:=(.int .i64 ((bp (fun a=>M a q) top n).1):Value)) s8_e1 (by rw [hst])),(Eq.trans (b:=(.bool ((bp (fun a=>M a q) top n).2):Value)) s9_e1 (by rw [hst])),(kV rfl (by omega)),(by omega),hX1⟩
  ·
   refine WP.skip ?_;refine pl.norm ?_;refine ab ?_;refine RL.p rfl rfl (cj.move s8_e1) ?_;refine RL.p rfl rfl (cj.geq rfl rfl) ?_;refine RL.p rfl rfl (cj.assign rfl) ?_;refine RL.nil ?_;refine aF am 20 [_,_,fun v AW=>v= .bool (decide (((bp (fun a=>M a q) top n).1:Int)<(0:Int))),_,_,_,_,_,_,_,_,_,_,_,_,_,_,_,_,_] rfl rfl (fun e_ w_ AV AU=>⟨fun _=>aa (cj.move ((AU 8 rfl s8_e1))),fun AT=>aa (cj.lss ((AT 0 rfl)) rfl),fun AT=>aa (cj.move ((AT 1 rfl))),fun AT=>gF (AT 2 rfl) fun hg=>aa (af [ca1,cb1] aq ((AU 11 rfl rfl)) ((aY.ext hA1 AV).cells 0 _ rfl rfl)),fun AT=>gF (AT 2 rfl) fun hg=>cQ.call sI (aL ((AT 3 rfl hg))) (xn _ _ _ _ ((ak.ext qi1 AV))),fun AT=>gF (AT 2 rfl) fun hg=>aa (cj.move ((AU 0 rfl s0_e1))),fun AT=>gF (AT 2 rfl) fun hg=>aa (cj.nilCheck ((AT 5 rfl hg))),fun AT=>gF (AT 2 rfl) fun hg=>aa (cj.fieldAddr cB ((AT 6 rfl hg))),fun AT=>gF (AT 2 rfl) fun hg=>aa (cj.fieldAddr aw ((AT 7 rfl hg))),fun AT=>gF (AT 2 rfl) fun hg=>aa (cj.load aU ((AT 8 rfl hg)) ((aY.ext (aY.ext hG hX1) AV).at_ (i:=2) rfl rfl)),fun AT=>gF (AT 2 rfl) fun hg=>aa (cj.move ((AU 8 rfl s8_e1))),fun AT=>gF (AT 2 rfl) fun hg=>aa (cj.index (j:=((bp (fun a=>M a q) top n).1).toNat) aK ((AT 9 rfl hg)) ((AT 10 rfl hg)) rfl (by omega) (by omega)),fun AT=>gF (AT 2 rfl) fun hg=>ag (aG (i:=((bp (fun a=>M a q) top n).1).toNat) bn (AT 11 rfl hg) (cY.ext (cY.ext hMm hX1) AV) (by omega)),fun AT=>gF (AT 2 rfl) fun hg=>aa (cj.move ((AU 2 rfl s2_e1))),fun AT=>gF (AT 2 rfl) fun hg=>aa (aR (j:=q) bE (AT 12 rfl hg) rfl (AT 13 rfl hg) (by omega) (by omega)),fun AT=>gF (AT 2 rfl) fun hg=>ag (bN (j:=q) aq (AT 14 rfl hg) (cY.row (cY.ext (cY.ext hMm hX1) AV) (by omega)) (by omega)),fun AT=>gF (AT 2 rfl) fun hg=>cQ.call sI (aL rfl) (xn _ _ _ _ ((AT 15 rfl hg))),fun AT=>gF (AT 2 rfl) fun hg=>cQ.call so (aC rfl rfl) (uH _ _ _ _ _ _ _ ((AT 4 rfl hg)) ((AT 16 rfl hg))),fun AT=>gF (AT 2 rfl) fun hg=>aa (cj.lss ((AT 17 rfl hg)) rfl),fun AT=>aa (aP (p:=((bp (fun a=>M a q) top n).1:Int)<(0:Int)) (q:=(bV (((M (top + n) q:Int).natAbs:Int)) (((M (((bp (fun a=>M a q) top n).1).toNat) q:Int).natAbs:Int)):Int)<(0:Int)) (AT 2 rfl) (fun hq=>(AT 18 rfl hq))),trivial⟩) ?_;intro e2 w5 hx3 ho3 hf1;replace hX1:=aA.trans hX1 hx3;have s0_e2:=ho3 0 rfl s0_e1;have s2_e2:=ho3 2 rfl s2_e1;have s6_e2:=ho3 6 rfl s6_e1;have s7_e2:=ho3 7 rfl s7_e1;have s8_e2:=ho3 8 rfl s8_e1;have s9_e2:e2 9=_:=ho3 9 rfl rfl;have s10_e2:=ho3 10 rfl s10_e1;have s57_e2:e2 57=_:=hf1 19 rfl;refine RL.nil ?_;refine ae ((((bp (fun a=>M a q) top n).1:Int)<(0:Int))∨((bV (((M (top + n) q:Int).natAbs:Int)) (((M (((bp (fun a=>M a q) top n).1).toNat) q:Int).natAbs:Int)):Int)<(0:Int))) s57_e2 (fun c57=> ?_) (fun c57=> ?_)
   ·
    refine WP.region ?_;refine RL.p rfl rfl (cj.move s10_e2) ?_;refine RL.p rfl rfl (cj.assign rfl) ?_;refine RL.nil ?_;refine iD.norm ?_;refine pl.norm ?_;refine WP.region ?_;refine RL.p rfl rfl (cj.move s10_e2) ?_;refine RL.p rfl rfl (cj.add (c:=(((top + n) + 1:Nat):Int)) rfl rfl (bT (by omega))) ?_;refine RL.p rfl rfl (cj.assign rfl) ?_;refine RL.nil ?_;have hst:=qg (x:=(fun a=>M a q)) (top:=top) (n:=n) (fun h=>c35 (Int.sign_eq_zero_iff_zero.2 h)) (c57.imp id (oe _ _).1);refine pl.norm ⟨_,(by omega),n + 1,rfl,s0_e2,s2_e2,s6_e2,s7_e2,(Eq.trans (b:=(.int .i64 ((top + n:Nat)):Value)) rfl (by rw [hst])),(Eq.trans (b:=(.bool (decide ((0:Int)≤((bp (fun a=>M a q) top n).1:Int))):Value)) s9_e2 (by rw [hst])),(kV rfl (by omega)),(by omega),hX1⟩
   ·
    refine WP.skip ?_;refine iD.norm ?_;refine pl.norm ?_;refine WP.region ?_;refine RL.p rfl rfl (cj.move s10_e2) ?_;refine RL.p rfl rfl (cj.add (c:=(((top + n) + 1:Nat):Int)) rfl rfl (bT (by omega))) ?_;refine RL.p rfl rfl (cj.assign rfl) ?_;refine RL.nil ?_;have hst:=qh (x:=(fun a=>M a q)) (top:=top) (n:=n) (fun h=>c35 (Int.sign_eq_zero_iff_zero.2 h)) (fun h=>c57 (h.imp id (oe _ _).2));refine pl.norm ⟨_,(by omega),n + 1,rfl,s0_e2,s2_e2,s6_e2,s7_e2,(Eq.trans (b:=(.int .i64 ((bp (fun a=>M a q) top n).1):Value)) s8_e2 (by rw [hst])),(Eq.trans (b:=(.bool (decide ((0:Int)≤((bp (fun a=>M a q) top n).1:Int))):Value)) s9_e2 (by rw [hst])),(kV rfl (by omega)),(by omega),hX1⟩
 ·
  refine WP.exit ?_;refine pl.exit ?_;refine pl.exit ?_;refine iD.same ?_;refine pl.norm ?_;refine ab ?_;refine RL.p rfl rfl (cj.move s8_e1) ?_;refine RL.p rfl rfl (cj.move s9_e1) ?_;refine RL.p rfl rfl (cj.assign rfl) ?_;refine RL.p rfl rfl (cj.assign rfl) ?_;refine RL.nil ?_;refine WP.ret ?_;refine ⟨.tuple #[.int .i64 ((bp (fun a=>M a q) top n).1),.bool ((bp (fun a=>M a q) top n).2)],dT (fw.tmp rfl) (fw.tmp rfl),_,rfl,hX1,?_⟩;dsimp only;rw [show r - top=n by omega]
set_option maxRecDepth 10000 in
set_option maxHeartbeats 800000 in
theorem vS (w:World) (B gw r c:Nat) (S0:WS) (b:Nat) (top:Nat) (q:Nat) (J:Nat→WS→Prop) (m0:Nat) (hW:cZ 74 w B gw r c S0.M S0.U S0.V b) (htop:top<r) (hq:q<c) (hb:2*b + 4≤bj) (hJ0:J m0 S0) (hfit:∀m S,J m S→0≤(bp (fun a=>S.M a q) top (r - top)).1→(bp (fun a=>S.M a q) top (r - top)).2=true→∀n,top + 1 + n<r→ng r c b (el (sn S ((bp (fun a=>S.M a q) top (r - top)).1.toNat) top q) top q (n + 1))) (hnext:∀m S,J m S→0≤(bp (fun a=>S.M a q) top (r - top)).1→(bp (fun a=>S.M a q) top (r - top)).2=true→∃m2,m2<m∧J m2 (el (sn S ((bp (fun a=>S.M a q) top (r - top)).1.toNat) top q) top q (r - top - 1))):Calls Tryz.prog 40 #[.pointer (some ⟨gw,0,none⟩),.int .i64 (top:Nat),.int .i64 (q:Nat)] w (pn (eG B w) w fun v w'=>∃m S S',J m S∧cZ 74 w' B gw r c S'.M S'.U S'.V b∧v= .bool (decide (0≤(bp (fun a=>S.M a q) top (r - top)).1))∧(((bp (fun a=>S.M a q) top (r - top)).1<0∧S'=S)∨(0≤(bp (fun a=>S.M a q) top (r - top)).1∧(bp (fun a=>S.M a q) top (r - top)).2=false∧S'=sn S ((bp (fun a=>S.M a q) top (r - top)).1.toNat) top q))):=by
 have hLIM:bj=562949953421312:=rfl;have hdims:=hW.bgw;refine ai (N:=86) (rs:= #[.tmp 6]) Tryz.func40 rfl rfl rfl (Nat.le_of_ble_eq_true rfl) ?_;have hX:Keeps (eG B w) w w:=Keeps.refl _ w;refine ab ?_;refine RL.p rfl rfl (cj.assign rfl) ?_;refine RL.nil ?_;refine lR ?_;refine ab ?_;refine RL.p rfl rfl (cj.move rfl) ?_;refine RL.p rfl rfl (cj.makeFunc (aL rfl) (lQ)) ?_;refine RL.p rfl rfl (cj.assign rfl) ?_;refine RL.nil ?_;refine WP.seq ?_;refine WP.label ?_;refine pl.norm ?_;refine WP.seq ?_;refine WP.block ?_;refine WP.loop (fun mz ez uz=>∃S:WS,∃m:Nat,(mz=m)∧(ez 0= .pointer (some ⟨gw,0,none⟩))∧(ez 1= .int .i64 ((top:Nat)))∧(ez 2= .int .i64 ((q:Nat)))∧(ez 7= .func (.func 41) #[.pointer (some ⟨gw,0,none⟩)] #[])∧(J m S)∧(Keeps (eG B w) w uz)∧(cZ 74 uz B gw r c (S).M (S).U (S).V b)) (m0) ?_ ?_
 · exact ⟨S0,m0,rfl,rfl,rfl,rfl,rfl,hJ0,hX,hW⟩
 rintro m1 e1 w1 ⟨S,m,hm1,s0_e1,s1_e1,s2_e1,s7_e1,hJ,hX1,hW⟩;have hrng:=jC (fun a=>S.M a q) top (r - top);refine WP.block ?_;refine ab ?_;refine RL.p rfl rfl (cj.move s0_e1) ?_;refine RL.p rfl rfl (cj.move s1_e1) ?_;refine RL.p rfl rfl (cj.move s2_e1) ?_;refine RL.x rfl rfl (cQ.call zi (cH rfl rfl rfl) (vR _ _ _ _ _ _ _ _ _ top q hW (by omega) (by omega))) ?_;rintro _ w2 ⟨hx1,rfl⟩;replace hW:=cZ.ext hW hx1;replace hX1:=bo hX1 hx1;refine RL.p rfl rfl (cj.move rfl) ?_;refine RL.p rfl rfl (cj.extract rfl rfl) ?_;refine RL.p rfl rfl (cj.extract rfl rfl) ?_;refine RL.p rfl rfl (cj.assign rfl) ?_;refine RL.p rfl rfl (cj.assign rfl) ?_;refine RL.nil ?_;refine WP.seq ?_;refine ab ?_;refine RL.p rfl rfl (cj.move rfl) ?_;refine RL.p rfl rfl (cj.lss rfl rfl) ?_;refine RL.nil ?_;refine ae (((bp (fun a=>S.M a q) top (r - top)).1:Int)<(0:Int)) rfl (fun c21=> ?_) (fun c21=> ?_)
 ·
  refine ab ?_;refine RL.p rfl rfl (cj.assign rfl) ?_;refine RL.nil ?_;refine WP.ret ?_;refine pl.ret ?_;refine iD.ret ?_;refine pl.ret ?_;refine iD.ret ?_;refine pl.ret ?_;refine jK.ret ?_;refine ⟨.bool (false),Am.one (fw.tmp rfl),_,rfl,hX1,?_⟩;dsimp only;exact ⟨m,S,S,hJ,hW,by simp;omega,.inl ⟨by omega,rfl⟩⟩
 ·
  refine WP.skip ?_;refine pl.norm ?_;refine WP.cut (fun ez uz=>(ez 0= .pointer (some ⟨gw,0,none⟩))∧(ez 1= .int .i64 ((top:Nat)))∧(ez 2= .int .i64 ((q:Nat)))∧(ez 7= .func (.func 41) #[.pointer (some ⟨gw,0,none⟩)] #[])∧(ez 9= .bool ((bp (fun a=>S.M a q) top (r - top)).2))∧(Keeps (eG B w) w uz)∧(cZ 74 uz B gw r c (bK S ((bp (fun a=>S.M a q) top (r - top)).1.toNat) top).M (bK S ((bp (fun a=>S.M a q) top (r - top)).1.toNat) top).U (bK S ((bp (fun a=>S.M a q) top (r - top)).1.toNat) top).V b)) ?_ ?_
  ·
   refine ab ?_;refine RL.p rfl rfl (cj.move rfl) ?_;refine RL.p rfl rfl (cj.move s1_e1) ?_;refine RL.p rfl rfl (cj.neq rfl rfl) ?_;refine RL.nil ?_;refine ae (((bp (fun a=>S.M a q) top (r - top)).1:Int)≠((top:Nat):Int)) rfl (fun c24=> ?_) (fun c24=> ?_)
   ·
    refine WP.region ?_;refine RL.p rfl rfl (cj.move s0_e1) ?_;refine RL.p rfl rfl (cj.move rfl) ?_;refine RL.p rfl rfl (cj.move s1_e1) ?_;refine RL.x rfl rfl (du zh (cH rfl ((nh (a:=(((bp (fun a=>S.M a q) top (r - top)).1.toNat:Nat):Int)) (b:=(bp (fun a=>S.M a q) top (r - top)).1) rfl (by omega))) rfl) (yn _ _ _ _ _ _ _ _ _ ((bp (fun a=>S.M a q) top (r - top)).1.toNat) top hW (by omega) (by omega))) ?_;rintro _ w4 ⟨hk1,hN1⟩;replace hX1:=Keeps.own hX1 hk1;replace hW:cZ 74 w4 B gw r c (bK S ((bp (fun a=>S.M a q) top (r - top)).1.toNat) top).M (bK S ((bp (fun a=>S.M a q) top (r - top)).1.toNat) top).U (bK S ((bp (fun a=>S.M a q) top (r - top)).1.toNat) top).V b:=hN1;refine RL.nil ?_;refine pl.norm ⟨s0_e1,s1_e1,s2_e1,s7_e1,rfl,hX1,hW⟩
   ·
    refine WP.skip ?_;have hpt:(bp (fun a=>S.M a q) top (r - top)).1.toNat=top:=by omega
    refine pl.norm ⟨s0_e1,s1_e1,s2_e1,s7_e1,rfl,hX1,ja hW (by rw [hpt,jM])⟩
  rintro e2 w5 ⟨s0_e2,s1_e2,s2_e2,s7_e2,s9_e2,hX2,hW⟩;refine WP.cut (fun ez uz=>(ez 0= .pointer (some ⟨gw,0,none⟩))∧(ez 1= .int .i64 ((top:Nat)))∧(ez 2= .int .i64 ((q:Nat)))∧(ez 7= .func (.func 41) #[.pointer (some ⟨gw,0,none⟩)] #[])∧(ez 9= .bool ((bp (fun a=>S.M a q) top (r - top)).2))∧(Keeps (eG B w) w uz)∧(cZ 74 uz B gw r c (sn S ((bp (fun a=>S.M a q) top (r - top)).1.toNat) top q).M (sn S ((bp (fun a=>S.M a q) top (r - top)).1.toNat) top q).U (sn S ((bp (fun a=>S.M a q) top (r - top)).1.toNat) top q).V b)) ?_ ?_
  ·
   have hWc:=hW;obtain ⟨hm_1,hu_1,hv_1,km_1,ku_1,kv_1,ρm_1,ρu_1,ρv_1,_,hG_1,hMm_1,hMu_1,hMv_1,_⟩:=hWc;have hdm_1:=cY.dlim hMm_1;have hcm_1:=cY.clim hMm_1
   skip
   refine ab ?_;refine RL.p rfl rfl (cj.move s0_e2) ?_;refine RL.p rfl rfl (cj.nilCheck rfl) ?_;refine RL.p rfl rfl (cj.fieldAddr cB rfl) ?_;refine RL.p rfl rfl (cj.fieldAddr aw rfl) ?_;refine RL.p rfl rfl (cj.load aU rfl (hG_1.at_ (i:=2) rfl rfl)) ?_;refine RL.p rfl rfl (cj.move s1_e2) ?_;refine RL.p rfl rfl (cj.index (j:=top) aK rfl rfl rfl (by omega) (by omega)) ?_;refine RL.x rfl rfl (aG (i:=top) bn rfl hMm_1 (by omega)) ?_;rintro v1 _ ⟨rfl,q1⟩;refine RL.p rfl rfl (cj.move s2_e2) ?_;refine RL.p rfl rfl (aR (j:=q) bE (bL q1 w5) rfl rfl (by omega) (by omega)) ?_;refine RL.x rfl rfl (bN (j:=q) aq rfl (cY.row hMm_1 (by omega)) (by omega)) ?_;rintro v2 _ ⟨rfl,q2⟩;refine RL.x rfl rfl (cQ.call jj (aL rfl) (fO _ _ _ _ q2)) ?_;rintro _ w6 ⟨hx3,rfl⟩;replace hW:=cZ.ext hW hx3;replace hX2:=bo hX2 hx3;refine RL.p rfl rfl (cj.lss rfl rfl) ?_;refine RL.nil ?_;refine ae (((((bK S ((bp (fun a=>S.M a q) top (r - top)).1.toNat) top).M) top q:Int).sign:Int)<(0:Int)) rfl (fun c41=> ?_) (fun c41=> ?_)
   ·
    refine WP.region ?_;refine RL.p rfl rfl (cj.move s0_e2) ?_;refine RL.p rfl rfl (cj.move s1_e2) ?_;refine RL.x rfl rfl (du zg (aC rfl rfl) (ud _ _ _ _ _ _ _ _ _ top hW (by omega) (by omega) (by omega))) ?_;rintro _ w8 ⟨hk2,hN2⟩;replace hX2:=Keeps.own hX2 hk2;replace hW:cZ 74 w8 B gw r c (fE (bK S ((bp (fun a=>S.M a q) top (r - top)).1.toNat) top) top).M (fE (bK S ((bp (fun a=>S.M a q) top (r - top)).1.toNat) top) top).U (fE (bK S ((bp (fun a=>S.M a q) top (r - top)).1.toNat) top) top).V b:=hN2;refine RL.nil ?_;refine pl.norm ⟨s0_e2,s1_e2,s2_e2,s7_e2,s9_e2,hX2,ja hW (iF ((dn _).1 c41)).symm⟩
   ·
    refine WP.skip ?_;refine pl.norm ⟨s0_e2,s1_e2,s2_e2,s7_e2,s9_e2,hX2,ja hW (iE (fun h=>c41 ((dn _).2 h))).symm⟩
  rintro e3 w9 ⟨s0_e3,s1_e3,s2_e3,s7_e3,s9_e3,hX3,hW⟩;refine WP.seq ?_;refine ab ?_;refine RL.p rfl rfl (cj.move s9_e3) ?_;refine RL.p rfl rfl (cj.not (p:=(bp (fun a=>S.M a q) top (r - top)).2=true) (rV rfl)) ?_;refine RL.nil ?_;refine ae (¬((bp (fun a=>S.M a q) top (r - top)).2=true)) rfl (fun c46=> ?_) (fun c46=> ?_)
  ·
   refine WP.exit ?_;refine pl.exit ?_;refine fV rfl ?_;refine pl.exit ?_;refine iD.same ?_;refine pl.norm ?_;refine ab ?_;refine RL.p rfl rfl (cj.assign rfl) ?_;refine RL.nil ?_;refine WP.ret ?_;refine jK.ret ?_;refine ⟨.bool (true),Am.one (fw.tmp rfl),_,rfl,hX3,?_⟩;dsimp only;exact ⟨m,S,sn S ((bp (fun a=>S.M a q) top (r - top)).1.toNat) top q,hJ,hW,by simp;omega,.inr ⟨by omega,by simpa using c46,rfl⟩⟩
  ·
   refine WP.skip ?_;refine pl.norm ?_;have hp0:S.M ((bp (fun a=>S.M a q) top (r - top)).1.toNat) q≠0:=(eD (x:=fun a=>S.M a q) (top:=top) (n:=r - top) (by omega)).2.2.1;have hq0:(sn S ((bp (fun a=>S.M a q) top (r - top)).1.toNat) top q).M top q≠0:=by rw [jV];omega
   refine ab ?_;refine RL.p rfl rfl (cj.move s1_e3) ?_;refine RL.p rfl rfl (cj.add (c:=((top + 1:Nat):Int)) rfl rfl (bT (by omega))) ?_;refine RL.p rfl rfl (cj.assign rfl) ?_;refine RL.nil ?_;refine WP.block ?_;refine WP.loop (fun mz ez uz=>∃n:Nat,(mz=r - (top + 1 + n))∧(ez 0= .pointer (some ⟨gw,0,none⟩))∧(ez 1= .int .i64 ((top:Nat)))∧(ez 2= .int .i64 ((q:Nat)))∧(ez 7= .func (.func 41) #[.pointer (some ⟨gw,0,none⟩)] #[])∧(ez 10= .int .i64 ((top + 1 + n:Nat)))∧(top + 1 + n≤r)∧(Keeps (eG B w) w uz)∧(cZ 74 uz B gw r c (el (sn S ((bp (fun a=>S.M a q) top (r - top)).1.toNat) top q) top q n).M (el (sn S ((bp (fun a=>S.M a q) top (r - top)).1.toNat) top q) top q n).U (el (sn S ((bp (fun a=>S.M a q) top (r - top)).1.toNat) top q) top q n).V b)) (r - (top + 1 + 0)) ?_ ?_
   · exact ⟨0,rfl,s0_e3,s1_e3,s2_e3,s7_e3,rfl,(by omega),hX3,hW⟩
   rintro m2 e4 w10 ⟨n,hm2,s0_e4,s1_e4,s2_e4,s7_e4,s10_e4,hn,hX4,hW⟩;have hqz:(el (sn S ((bp (fun a=>S.M a q) top (r - top)).1.toNat) top q) top q n).M top q≠0:=by rw [uj _ _ _ _ _ (Nat.le_refl _)];exact hq0
   refine WP.seq ?_;have hWc:=hW;obtain ⟨hm_2,hu_2,hv_2,km_2,ku_2,kv_2,ρm_2,ρu_2,ρv_2,_,hG_2,hMm_2,hMu_2,hMv_2,_⟩:=hWc;have hdm_2:=cY.dlim hMm_2;have hcm_2:=cY.clim hMm_2
   skip
   refine ab ?_;refine RL.p rfl rfl (cj.move s10_e4) ?_;refine RL.p rfl rfl (cj.move s0_e4) ?_;refine RL.p rfl rfl (cj.nilCheck rfl) ?_;refine RL.p rfl rfl (cj.fieldAddr cB rfl) ?_;refine RL.p rfl rfl (cj.fieldAddr aX rfl) ?_;refine RL.p rfl rfl (cj.load bD rfl (hG_2.at_ (i:=0) rfl rfl)) ?_;refine RL.p rfl rfl (cj.lss rfl rfl) ?_;refine RL.nil ?_;refine ae (((top + 1 + n:Nat):Int)<((r:Nat):Int)) rfl (fun c55=> ?_) (fun c55=> ?_)
   ·
    refine WP.skip ?_;refine pl.norm ?_;refine WP.seq ?_;refine WP.block ?_;have hfitn:ng r c b (de (el (sn S ((bp (fun a=>S.M a q) top (r - top)).1.toNat) top q) top q n) (top + 1 + n) top (-((el (sn S ((bp (fun a=>S.M a q) top (r - top)).1.toNat) top q) top q n).M (top + 1 + n) q/(el (sn S ((bp (fun a=>S.M a q) top (r - top)).1.toNat) top q) top q n).M top q))):=hfit m S hJ (by omega) (by simpa using c46) n (by omega);refine WP.ds am 27 [_,_,_,_,_,_,_,_,_,_,_,_,_,_,_,_,_,_,_,_,_,_,_,_,_,_,_] rfl rfl (fun e_ w_ AV AU=>⟨fun _=>aa (cj.move ((AU 7 rfl s7_e4))),fun _=>aa (cj.move ((AU 10 rfl s10_e4))),fun _=>aa (cj.move ((AU 1 rfl s1_e4))),fun _=>aa (cj.move ((AU 0 rfl s0_e4))),fun AT=>aa (cj.nilCheck ((AT 3 rfl))),fun AT=>aa (cj.fieldAddr cB ((AT 4 rfl))),fun AT=>aa (cj.fieldAddr aw ((AT 5 rfl))),fun AT=>aa (cj.load aU ((AT 6 rfl)) ((aY.ext hG_2 AV).at_ (i:=2) rfl rfl)),fun _=>aa (cj.move ((AU 10 rfl s10_e4))),fun AT=>aa (cj.index (j:=top + 1 + n) aK ((AT 7 rfl)) ((AT 8 rfl)) rfl (by omega) (by omega)),fun AT=>ag (aG (i:=top + 1 + n) bn (AT 9 rfl) (cY.ext hMm_2 AV) (by omega)),fun _=>aa (cj.move ((AU 2 rfl s2_e4))),fun AT=>aa (aR (j:=q) bE (AT 10 rfl) rfl (AT 11 rfl) (by omega) (by omega)),fun AT=>ag (bN (j:=q) aq (AT 12 rfl) (cY.row (cY.ext hMm_2 AV) (by omega)) (by omega)),fun _=>aa (cj.move ((AU 0 rfl s0_e4))),fun AT=>aa (cj.nilCheck ((AT 14 rfl))),fun AT=>aa (cj.fieldAddr cB ((AT 15 rfl))),fun AT=>aa (cj.fieldAddr aw ((AT 16 rfl))),fun AT=>aa (cj.load aU ((AT 17 rfl)) ((aY.ext hG_2 AV).at_ (i:=2) rfl rfl)),fun _=>aa (cj.move ((AU 1 rfl s1_e4))),fun AT=>aa (cj.index (j:=top) aK ((AT 18 rfl)) ((AT 19 rfl)) rfl (by omega) (by omega)),fun AT=>ag (aG (i:=top) bn (AT 20 rfl) (cY.ext hMm_2 AV) (by omega)),fun _=>aa (cj.move ((AU 2 rfl s2_e4))),fun AT=>aa (aR (j:=q) bE (AT 21 rfl) rfl (AT 22 rfl) (by omega) (by omega)),fun AT=>ag (bN (j:=q) aq (AT 23 rfl) (cY.row (cY.ext hMm_2 AV) (by omega)) (by omega)),fun AT=>cQ.call sv (aC rfl rfl) (gJ _ _ _ _ _ _ _ (AT 13 rfl) (AT 24 rfl) hqz (by omega)),fun AT=>cQ.call ll (aL rfl) (lP _ _ _ _ ((AT 25 rfl))),trivial⟩) ?_;intro e5 w11 hx5 ho1 hf1;replace hW:=cZ.ext hW hx5;replace hX4:=bo hX4 hx5;have s0_e5:=ho1 0 rfl s0_e4;have s1_e5:=ho1 1 rfl s1_e4;have s2_e5:=ho1 2 rfl s2_e4;have s7_e5:=ho1 7 rfl s7_e4;have s10_e5:=ho1 10 rfl s10_e4;have s58_e5:e5 58=_:=hf1 0 rfl;have s59_e5:e5 59=_:=hf1 1 rfl;have s60_e5:e5 60=_:=hf1 2 rfl;have s84_e5:ak w11 (e5 84) (-((((el (sn S ((bp (fun a=>S.M a q) top (r - top)).1.toNat) top q) top q n).M) (top + 1 + n) q)/(((el (sn S ((bp (fun a=>S.M a q) top (r - top)).1.toNat) top q) top q n).M) top q))) b:=hf1 26 rfl;refine RL.x rfl rfl (pq wW s58_e5 (Eq.trans (congrArg (fun z=>(#[.pointer (some ⟨gw,0,none⟩)]:Array Value) ++ z ++ (#[]:Array Value)) (cH s59_e5 s60_e5 rfl)) rfl) (qm _ _ _ _ _ _ _ _ _ (top + 1 + n) top _ _ _ hW (by omega) (by omega) s84_e5 (by omega) (by omega) (xk hfitn (by omega)) (xj hfitn (by omega)) (xi hfitn (by omega)))) ?_;rintro _ w13 ⟨hk3,hN3⟩;replace hX4:=Keeps.own hX4 hk3;replace hW:cZ 74 w13 B gw r c (de (el (sn S ((bp (fun a=>S.M a q) top (r - top)).1.toNat) top q) top q n) (top + 1 + n) top (-((((el (sn S ((bp (fun a=>S.M a q) top (r - top)).1.toNat) top q) top q n).M) (top + 1 + n) q)/(((el (sn S ((bp (fun a=>S.M a q) top (r - top)).1.toNat) top q) top q n).M) top q)))).M (de (el (sn S ((bp (fun a=>S.M a q) top (r - top)).1.toNat) top q) top q n) (top + 1 + n) top (-((((el (sn S ((bp (fun a=>S.M a q) top (r - top)).1.toNat) top q) top q n).M) (top + 1 + n) q)/(((el (sn S ((bp (fun a=>S.M a q) top (r - top)).1.toNat) top q) top q n).M) top q)))).U (de (el (sn S ((bp (fun a=>S.M a q) top (r - top)).1.toNat) top q) top q n) (top + 1 + n) top (-((((el (sn S ((bp (fun a=>S.M a q) top (r - top)).1.toNat) top q) top q n).M) (top + 1 + n) q)/(((el (sn S ((bp (fun a=>S.M a q) top (r - top)).1.toNat) top q) top q n).M) top q)))).V b:=hN3;refine RL.nil ?_;refine iD.norm ?_;refine pl.norm ?_;refine WP.region ?_;refine RL.p rfl rfl (cj.move s10_e5) ?_;refine RL.p rfl rfl (cj.add (c:=(((top + 1 + n) + 1:Nat):Int)) rfl rfl (bT (by omega))) ?_;refine RL.p rfl rfl (cj.assign rfl) ?_;refine RL.nil ?_;refine pl.norm ⟨_,(by omega),n + 1,rfl,s0_e5,s1_e5,s2_e5,s7_e5,(kV rfl (by omega)),(by omega),hX4,hW⟩
   ·
    refine WP.exit ?_;refine pl.exit ?_;refine pl.exit ?_;refine iD.same ?_;refine iD.norm ?_;rw [show n=r - top - 1 by omega] at hW;obtain ⟨m2,hm2,hJ2⟩:=hnext m S hJ (by omega) (by simpa using c46);refine pl.norm ⟨_,(by omega),_,m2,rfl,s0_e4,s1_e4,s2_e4,s7_e4,hJ2,hX4,hW⟩
end Go.TL
namespace Go.TL
open Go.RowKit
set_option linter.unusedVariables false
def kz (v:Value) (w:World) (b:Nat):Prop:=
  ∃x y gh n k,v= .agg #[x,y,.slice (some ⟨gh,0,none⟩) n k]∧(b=gh∨∃i u,i<n∧w.cell? ⟨gh,i,none⟩=some u∧b=dQ u)
section
variable {w w':World} {v:Value} {B r c b:Nat} {M:Nat→Nat→Int}
theorem cY.cellAt {gh m d:Nat} {ρ:Nat→Nat} (h:cY w B gh m d c ρ M b) {i:Nat} (hi:i<d):∃u,w.cell? ⟨gh,i,none⟩=some u∧dQ u=ρ i:=by
  obtain ⟨_,_,⟨h3,_,f,ha,hf⟩,_⟩:=h;exact ⟨f i,ha.cell (by omega),eM (hf i hi)⟩
theorem mB (B r c:Nat) (M:Nat→Nat→Int) (b:Nat):fz kz (fun v w=>cO w v B r c M b):=by
  refine ⟨fun v w x h hb=> ?_,fun v w w' x h hx hb=> ?_⟩
  · obtain ⟨gh,k,ρ,rfl,hM⟩:=h
    obtain ⟨_,_,gh',n,k',he,hb⟩:=hb;simp only [Value.agg.injEq,Array.mk.injEq,List.cons.injEq,Value.slice.injEq,Option.some.injEq,Addr.mk.injEq,and_true] at he;obtain ⟨_,_,h1,h2,h3⟩:=he;subst h1;subst h2;rcases hb with hb | ⟨i,u,hi,hu,hb⟩
    · subst hb;exact hM.ghlt
    · obtain ⟨u',hu',hbu⟩:=hM.cellAt hi
      rw [hu] at hu';injection hu' with hu';subst hu';rw [hb,hbu];exact hM.rowlt hi
  · obtain ⟨gh,k,ρ,rfl,hM⟩:=h
    obtain ⟨x1,x2,gh',n,k',he,hb⟩:=hb;refine ⟨x1,x2,gh',n,k',he,?_⟩;simp only [Value.agg.injEq,Array.mk.injEq,List.cons.injEq,Value.slice.injEq,Option.some.injEq,Addr.mk.injEq,and_true] at he;obtain ⟨_,_,h1,h2,h3⟩:=he;subst h1;subst h2;rcases hb with hb | ⟨i,u,hi,hu,hb⟩
    · exact .inl hb
    · obtain ⟨u',hu',hbu⟩:=hM.cellAt hi
      have:=aA.cell hu' hx;rw [hu] at this;injection this with this;subst this;exact .inr ⟨i,u,hi,hu',hb⟩
theorem jf {x:Nat} (h:cO w v B r c M b) (hb:kz v w x):B≤x:=by
  obtain ⟨gh,k,ρ,rfl,hM⟩:=h;obtain ⟨_,_,gh',n,k',he,hb⟩:=hb;simp only [Value.agg.injEq,Array.mk.injEq,List.cons.injEq,Value.slice.injEq,Option.some.injEq,Addr.mk.injEq,and_true] at he;obtain ⟨_,_,h1,h2,h3⟩:=he;subst h1;subst h2;rcases hb with hb | ⟨i,u,hi,hu,hb⟩
  · subst hb;exact hM.1
  · obtain ⟨u',hu',hbu⟩:=hM.cellAt hi
    rw [hu] at hu';injection hu' with hu';subst hu';rw [hb,hbu];exact hM.rowB hi
theorem iO {gh gh' k k' r' c' b' B':Nat} {x y x' y':Value} {ρ ρ':Nat→Nat} {M':Nat→Nat→Int} (h:cY w B gh k r c ρ M b) (h':cY w B' gh' k' r' c' ρ' M' b')
    (hd:∀b,kz (.agg #[x,y,.slice (some ⟨gh,0,none⟩) r k]) w b→¬kz (.agg #[x',y',.slice (some ⟨gh',0,none⟩) r' k']) w b):gh≠gh'∧∀i j,i<r→j<r'→ρ i≠ρ' j:=by
  refine ⟨fun e=>hd gh ⟨_,_,_,_,_,rfl,.inl rfl⟩ ⟨_,_,_,_,_,rfl,.inl e⟩,fun i j hi hj e=> ?_⟩;obtain ⟨u,hu,hbu⟩:=h.cellAt hi;obtain ⟨u',hu',hbu'⟩:=h'.cellAt hj;exact hd (ρ i) ⟨_,_,_,_,_,rfl,.inr ⟨i,u,hi,hu,hbu.symm⟩⟩ ⟨_,_,_,_,_,rfl,.inr ⟨j,u',hj,hu',by rw [hbu',e]⟩⟩
theorem cY.up {gh m d b':Nat} {ρ:Nat→Nat} (h:cY w B gh m d c ρ M b) (hb:b≤b') (hl:b'≤bj):cY w B gh m d c ρ M b':=by
  refine h.more (fun i j hi hj=> ?_) hl;exact Nat.lt_of_lt_of_le (h.bd hi hj) (Nat.pow_le_pow_right (by omega) hb)
theorem ce.more {n b':Nat} (h:ce w v n c M b) (hb:∀i j,i<n→j<c→(M i j).natAbs<2^b') (hl:b'≤bj):ce w v n c M b':=by
  obtain ⟨A,k,h1,h2,h3,h4⟩:=h;refine ⟨A,k,h1,h2,⟨h3.1,h3.2.1,hl⟩,fun hn=> ?_⟩;obtain ⟨h,o,m,f,hA,hm,ha,hf⟩:=h4 hn;refine ⟨h,o,m,f,hA,hm,ha,fun i hi=> ?_⟩;obtain ⟨A2,k2,g1,g2,g3,g4⟩:=hf i hi;refine ⟨A2,k2,g1,g2,⟨g3.1,g3.2.1,hl⟩,fun hc=> ?_⟩;obtain ⟨g,e1,m2,f2,e2,e3,e4⟩:=g4 hc;exact ⟨g,e1,m2,f2,⟨e2.1,hl⟩,e3,fun j hj=>(e4 j hj).more (hb i j hi hj) hl⟩
theorem bX.more {b':Nat} (h:bX w v r c M b) (hb:∀i j,i<r→j<c→(M i j).natAbs<2^b') (hl:b'≤bj):bX w v r c M b':=by
  obtain ⟨s,h1,h2,h3,h4⟩:=h;exact ⟨s,h1,h2,h3,h4.more hb hl⟩
theorem bi.more {n b':Nat} {z:Nat→Int} (h:bi w v n z b) (hb:∀j,j<n→(z j).natAbs<2^b') (hl:b'≤bj):bi w v n z b':=by
  obtain ⟨A2,k2,g1,g2,g3,g4⟩:=h;refine ⟨A2,k2,g1,g2,⟨g3.1,g3.2.1,hl⟩,fun hc=> ?_⟩;obtain ⟨g,e1,m2,f2,e2,e3,e4⟩:=g4 hc;exact ⟨g,e1,m2,f2,⟨e2.1,hl⟩,e3,fun j hj=>(e4 j hj).more (hb j hj) hl⟩
end
theorem Aa {w:World} {v:Value} {n c b:Nat} {M:Nat→Nat→Int} {i j:Int} (h:ce w v n c M b):
    Instr.fill (([(0,1),(1,1),(2,1)]:List (Nat×Nat))[·]?) (Value.agg #[.int .i64 0,.int .i64 0,.slice none 0 0]).cells [(0,.int .i64 i),(1,.int .i64 j),(2,v)]=some #[.int .i64 i,.int .i64 j,v]:=by
  obtain ⟨A,k,rfl,_⟩:=h;simp [Instr.fill,Value.cells]
theorem tx {a b c d e f g h i:Value} (ha:a.oneCell'=true) (hb:b.oneCell'=true) (hc:c.oneCell'=true) (hd:d.oneCell'=true) (he:e.oneCell'=true) (hf:f.oneCell'=true) (hg:g.oneCell'=true) (hh:h.oneCell'=true) (hi:i.oneCell'=true):
    ∀u∈ [a,b,c,d,e,f,g,h,i],u.oneCell'=true:=by simp [ha,hb,hc,hd,he,hf,hg,hh,hi]
theorem xl {a b c d e f g h i:Value} {zs:Array Value} (hz:zs.size=9):
    Instr.fill (([(0,3),(3,3),(6,3)]:List (Nat×Nat))[·]?) zs [(0,.agg #[a,b,c]),(1,.agg #[d,e,f]),(2,.agg #[g,h,i])]=some #[a,b,c,d,e,f,g,h,i]:=by
  obtain ⟨l⟩:=zs;simp only [List.size_toArray] at hz
  match l,hz with
  | [x0,x1,x2,x3,x4,x5,x6,x7,x8],_=>simp [Instr.fill,Value.cells]
def ra (S:WS) (top q:Nat):Nat→WS
  | 0=>S
  | n + 1=>de (ra S top q n) n top (-((ra S top q n).M n q/(ra S top q n).M top q))
theorem th (S:WS) (top q:Nat):∀n a,n≤a→(ra S top q n).M a=S.M a
  | 0,a,_=>rfl
  | n + 1,a,h=>by
    have:=th S top q n a (by omega);simp only [ra,de]
    funext c
    unfold dw
    rw [if_neg (by omega)];exact congrFun this c
def kU (w:World) (v:Value) (r c:Nat) (S:WS) (b:Nat):Prop:=∃s1 s2 s3,v= .agg #[.int .i64 (r:Nat),.int .i64 (c:Nat),s1,.int .i64 (r:Nat),.int .i64 (r:Nat),s2,.int .i64 (r:Nat),.int .i64 (r:Nat),s3]∧
  (r≤65536∧b≤bj)∧c≤65536∧ce w s1 r c S.M b∧ce w s2 r r S.U b∧ce w s3 r r S.V b
theorem kU.ext {w w':World} {v:Value} {r c b:Nat} {S:WS} (h:kU w v r c S b) (hx:aA w w'):kU w' v r c S b:=by
  obtain ⟨s1,s2,s3,h1,h2,h3,h4,h5,h6⟩:=h;exact ⟨s1,s2,s3,h1,h2,h3,h4.ext hx,h5.ext hx,h6.ext hx⟩
end Go.TL
namespace Go.TL
open Go.RowKit Go.Proofs
set_option linter.unusedVariables false
set_option linter.unusedSimpArgs false
set_option maxRecDepth 10000 in
set_option maxHeartbeats 800000 in
theorem yo (w:World) (x:Value) (r c:Nat) (M:Nat→Nat→Int) (b0 b:Nat) (F:Nat→Nat→WS→Prop) (J:Nat→Nat→Nat→WS→Prop) (hx:bX w x r c M b0) (hb0:1 + b0≤b) (hb:2*b + 4≤bj) (hF0:F 0 0 ⟨M,ct,ct⟩) (hstart:∀top q S,top<r→q<c→F top q S→∃m,J top q m S) (hfit:∀top q m S,top<r→q<c→J top q m S→0≤(bp (fun a=>S.M a q) top (r - top)).1→(bp (fun a=>S.M a q) top (r - top)).2=true→∀n,top + 1 + n<r→ng r c b (el (sn S ((bp (fun a=>S.M a q) top (r - top)).1.toNat) top q) top q (n + 1))) (hnext:∀top q m S,top<r→q<c→J top q m S→0≤(bp (fun a=>S.M a q) top (r - top)).1→(bp (fun a=>S.M a q) top (r - top)).2=true→∃m2,m2<m∧J top q m2 (el (sn S ((bp (fun a=>S.M a q) top (r - top)).1.toNat) top q) top q (r - top - 1))) (hno:∀top q m S,top<r→q<c→J top q m S→(bp (fun a=>S.M a q) top (r - top)).1<0→F top (q + 1) S) (hra:∀top q m S,top<r→q<c→J top q m S→0≤(bp (fun a=>S.M a q) top (r - top)).1→(bp (fun a=>S.M a q) top (r - top)).2=false→(∀n,n<top→ng r c b (ra (sn S ((bp (fun a=>S.M a q) top (r - top)).1.toNat) top q) top q (n + 1)))∧F (top + 1) (q + 1) (ra (sn S ((bp (fun a=>S.M a q) top (r - top)).1.toNat) top q) top q top)):Calls Tryz.prog 11 #[x] w (cc w fun v w'=>∃top q S,F top q S∧(c≤q∨r≤top)∧top≤r∧q≤c∧kU w' v r c S b):=by
 have hLIM:bj=562949953421312:=rfl;obtain ⟨sx,rfl,hr,hc,hSx⟩:=hx.form;obtain ⟨B,hBe⟩:∃B:Nat,B=w.heap.size:=⟨_,rfl⟩
 have hBle:w.heap.size≤B:=by omega
 refine ai (N:=82) (rs:= #[.cell 2 31]) Tryz.func11 rfl rfl rfl (Nat.le_of_ble_eq_true rfl) ?_;have hX:aA w w:=aA.refl w;refine ab ?_;refine RL.x rfl rfl (cQ.box [.int .i64 ((r:Nat)),.int .i64 ((c:Nat)),sx] rfl rfl) ?_;rintro _ w1 ⟨g1,rfl,hge1,hx1,hA1⟩;replace hX:=aA.trans hX hx1;refine RL.x rfl rfl (cQ.alloc [.int .i64 (0),.int .i64 (0),.slice (none) (0) (0),.int .i64 (0),.int .i64 (0),.slice (none) (0) (0),.int .i64 (0),.int .i64 (0),.slice (none) (0) (0)] no rfl) ?_;rintro _ w2 ⟨g2,rfl,hge2,hx2,hA2⟩;have hbs2:w.heap.size≤g2:=Nat.le_trans hX.size hge2;replace hA1:=aY.ext hA1 hx2;replace hX:=aA.trans hX hx2;refine RL.nil ?_;have hX1s:B≤w2.heap.size:=by rw [hBe];exact hX.size
 have hBw1:w.heap.size≤w2.heap.size:=hX.size;have hBw2:w.heap.size≤w2.heap.size:=hX.size;have hBw3:w.heap.size≤w2.heap.size:=hX.size;refine jb am 8 [_,fun v AW=>cO AW v w2.heap.size r c M (1 + b0),_,_,fun v AW=>cO AW v w2.heap.size r r ct 1,_,_,fun v AW=>cO AW v w2.heap.size r r ct 1] (Apart.of (kz) [(1,4),(1,7),(4,7)] rfl ⟨(fun h=>by cases h),(fun _=>mB _ _ _ _ _),(fun h=>by cases h),(fun h=>by cases h),(fun _=>mB _ _ _ _ _),(fun h=>by cases h),(fun h=>by cases h),(fun _=>mB _ _ _ _ _),trivial⟩) rfl rfl ⟨ac _,eo _ _ _ _ _,ac _,ac _,eo _ _ _ _ _,ac _,ac _,eo _ _ _ _ _,trivial⟩ ⟨fun e_ w_ AV AU AT=>aS rfl (aa (af [.int .i64 ((r:Nat)),.int .i64 ((c:Nat)),sx] aV (((AU 1 rfl).trans rfl)) ((aY.ext hA1 AV).cells 0 _ rfl rfl))),fun e_ w_ AV AU AT=>cQ.mono (cQ.call zB (aL ((AT 0 rfl))) (ue _ _ _ _ _ _ (bX.mk (ce.ext (ce.ext hSx hX) AV) (by omega) (by omega)) (by omega))) fun v AX hv=>⟨hv.1,cO.low hv.2 AV.size,fo fun b hb=>jf hv.2 hb⟩,fun e_ w_ AV AU AT=>aS rfl (aa (cj.fieldAddr aX (((AU 1 rfl).trans rfl)))),fun e_ w_ AV AU AT=>aS rfl (aa (cj.load bD ((AT 2 rfl)) ((aY.ext hA1 AV).at_ (i:=0) rfl rfl))),fun e_ w_ AV AU AT=>cQ.mono (cQ.call sw (aL ((AT 3 rfl))) (gI _ r (by omega))) fun v AX hv=>⟨hv.1,cO.low hv.2 AV.size,fo fun b hb=>jf hv.2 hb⟩,fun e_ w_ AV AU AT=>aS rfl (aa (cj.fieldAddr aX (((AU 1 rfl).trans rfl)))),fun e_ w_ AV AU AT=>aS rfl (aa (cj.load bD ((AT 5 rfl)) ((aY.ext hA1 AV).at_ (i:=0) rfl rfl))),fun e_ w_ AV AU AT=>cQ.mono (cQ.call sw (aL ((AT 6 rfl))) (gI _ r (by omega))) fun v AX hv=>⟨hv.1,cO.low hv.2 AV.size,fo fun b hb=>jf hv.2 hb⟩,trivial⟩ ?_;intro e1 w3 hx3 ho1 hf1 hp1;replace hA1:=aY.ext hA1 hx3;replace hA2:=aY.ext hA2 hx3;replace hX:=aA.trans hX hx3;have s1_e1:e1 1= .pointer (some ⟨g1,0,none⟩):=(ho1 1 rfl).trans rfl;have s2_e1:e1 2= .pointer (some ⟨g2,0,none⟩):=(ho1 2 rfl).trans rfl;have s8_e1:cO w3 (e1 8) w2.heap.size r c M (1 + b0):=hf1 1 rfl;have s11_e1:cO w3 (e1 11) w2.heap.size r r ct 1:=hf1 4 rfl;have s14_e1:cO w3 (e1 14) w2.heap.size r r ct 1:=hf1 7 rfl;obtain ⟨hm,km,ρm,hqm,hMm⟩:=s8_e1;have hdm:=cY.dlim hMm;obtain ⟨hu,ku,ρu,hqu,hMu⟩:=s11_e1;have hdu:=cY.dlim hMu;obtain ⟨hv,kv,ρv,hqv,hMv⟩:=s14_e1;have hdv:=cY.dlim hMv;obtain ⟨nmu,dmu⟩:=iO hMm hMu (by rw [←hqm,←hqu];exact hp1 1 4 rfl rfl rfl rfl);obtain ⟨nmv,dmv⟩:=iO hMm hMv (by rw [←hqm,←hqv];exact hp1 1 7 rfl rfl rfl rfl);obtain ⟨nuv,duv⟩:=iO hMu hMv (by rw [←hqu,←hqv];exact hp1 4 7 rfl rfl rfl rfl);refine RL.p rfl rfl (cj.build (vs:= [(0,.agg #[.int .i64 ((r:Nat)),.int .i64 ((c:Nat)),.slice (some ⟨hm,0,none⟩) (r) (km)]),(1,.agg #[.int .i64 ((r:Nat)),.int .i64 ((r:Nat)),.slice (some ⟨hu,0,none⟩) (r) (ku)]),(2,.agg #[.int .i64 ((r:Nat)),.int .i64 ((r:Nat)),.slice (some ⟨hv,0,none⟩) (r) (kv)])]) [(0,3),(3,3),(6,3)] yP yO (ko hqm hqu hqv) (xl rfl)) ?_;refine RL.x rfl rfl (cQ.box [.int .i64 ((r:Nat)),.int .i64 ((c:Nat)),.slice (some ⟨hm,0,none⟩) (r) (km),.int .i64 ((r:Nat)),.int .i64 ((r:Nat)),.slice (some ⟨hu,0,none⟩) (r) (ku),.int .i64 ((r:Nat)),.int .i64 ((r:Nat)),.slice (some ⟨hv,0,none⟩) (r) (kv)] rfl rfl) ?_;rintro _ w4 ⟨gw,rfl,hge3,hx4,hA3⟩;have hbs3:w.heap.size≤gw:=Nat.le_trans hX.size hge3;replace hA1:=aY.ext hA1 hx4;replace hA2:=aY.ext hA2 hx4;replace hMm:=cY.ext hMm hx4;replace hMu:=cY.ext hMu hx4;replace hMv:=cY.ext hMv hx4;replace hX:=aA.trans hX hx4;refine RL.p rfl rfl (cj.assign rfl) ?_;refine RL.nil ?_;have hW:cZ 74 w4 B gw r c M ct ct b:=⟨hm,hu,hv,km,ku,kv,ρm,ρu,ρv,(by rw [hBe];exact hbs3),hA3,cY.up (cY.low hMm hX1s) (by omega) (by omega),cY.up (cY.low hMu hX1s) (by omega) (by omega),cY.up (cY.low hMv hX1s) (by omega) (by omega),nmu,nmv,nuv,dmu,dmv,duv⟩
 skip
 refine ab ?_;refine RL.p rfl rfl (cj.assign rfl) ?_;refine RL.nil ?_;refine WP.seq ?_;refine ab ?_;refine RL.p rfl rfl (cj.assign rfl) ?_;refine RL.nil ?_;refine WP.block ?_;refine WP.loop (fun mz ez uz=>∃top:Nat,∃q:Nat,∃S:WS,(mz=c - q)∧(ez 1= .pointer (some ⟨g1,0,none⟩))∧(ez 2= .pointer (some ⟨g2,0,none⟩))∧(ez 3= .pointer (some ⟨gw,0,none⟩))∧(ez 4= .int .i64 ((top:Nat)))∧(ez 5= .int .i64 ((q:Nat)))∧(top≤r)∧(q≤c)∧(F top q S)∧(aA w uz)∧(aY uz g1 28 3 (bU [.int .i64 ((r:Nat)),.int .i64 ((c:Nat)),sx]))∧(aY uz g2 31 9 (bU [.int .i64 (0),.int .i64 (0),.slice (none) (0) (0),.int .i64 (0),.int .i64 (0),.slice (none) (0) (0),.int .i64 (0),.int .i64 (0),.slice (none) (0) (0)]))∧(cZ 74 uz B gw r c (S).M (S).U (S).V b)) (c - 0) ?_ ?_
 · exact ⟨0,0,⟨M,ct,ct⟩,rfl,s1_e1,s2_e1,rfl,rfl,rfl,(by omega),(by omega),hF0,hX,hA1,hA2,hW⟩
 rintro m1 e2 w5 ⟨top,q,S,hm1,s1_e2,s2_e2,s3_e2,s4_e2,s5_e2,htop,hq,hF,hX1,hA1,hA2,hW⟩;refine WP.seq ?_;refine aF am 10 [_,_,_,_,fun v AW=>v= .bool (decide (((q:Nat):Int)<((c:Nat):Int))),_,_,_,_,_] rfl rfl (fun e_ w_ AV AU=>⟨fun _=>aa (cj.move ((AU 5 rfl s5_e2))),fun _=>aa (cj.fieldAddr bC ((AU 1 rfl s1_e2))),fun AT=>aa (cj.load bD ((AT 1 rfl)) ((aY.ext hA1 AV).at_ (i:=1) rfl rfl)),fun AT=>aa (cj.lss ((AT 0 rfl)) ((AT 2 rfl))),fun AT=>aa (cj.move ((AT 3 rfl))),fun AT=>gT (AT 4 rfl) fun hg=>aa (cj.move ((AU 4 rfl s4_e2))),fun AT=>gT (AT 4 rfl) fun hg=>aa (cj.fieldAddr aX ((AU 1 rfl s1_e2))),fun AT=>gT (AT 4 rfl) fun hg=>aa (cj.load bD ((AT 6 rfl hg)) ((aY.ext hA1 AV).at_ (i:=0) rfl rfl)),fun AT=>gT (AT 4 rfl) fun hg=>aa (cj.lss ((AT 5 rfl hg)) ((AT 7 rfl hg))),fun AT=>aa (au (p:=((q:Nat):Int)<((c:Nat):Int)) (q:=((top:Nat):Int)<((r:Nat):Int)) (AT 4 rfl) (fun hq=>(AT 8 rfl hq))),trivial⟩) ?_;intro e3 w6 hx5 ho2 hf2;replace hA1:=aY.ext hA1 hx5;replace hA2:=aY.ext hA2 hx5;replace hW:=cZ.ext hW hx5;replace hX1:=aA.trans hX1 hx5;have s1_e3:=ho2 1 rfl s1_e2;have s2_e3:=ho2 2 rfl s2_e2;have s3_e3:=ho2 3 rfl s3_e2;have s4_e3:=ho2 4 rfl s4_e2;have s5_e3:=ho2 5 rfl s5_e2;have s26_e3:e3 26=_:=hf2 9 rfl;refine RL.nil ?_;refine ae ((((q:Nat):Int)<((c:Nat):Int))∧(((top:Nat):Int)<((r:Nat):Int))) s26_e3 (fun c26=> ?_) (fun c26=> ?_)
 ·
  refine WP.skip ?_;refine pl.norm ?_;refine WP.seq ?_;refine WP.block ?_;refine WP.seq ?_;obtain ⟨m0,hJ0⟩:=hstart top q S (by omega) (by omega) hF;refine ab ?_;refine RL.p rfl rfl (cj.move s3_e3) ?_;refine RL.p rfl rfl (cj.move s4_e3) ?_;refine RL.p rfl rfl (cj.move s5_e3) ?_;refine RL.x rfl rfl (du zA (cH rfl rfl rfl) (vS _ _ _ _ _ _ _ top q (J top q) m0 hW (by omega) (by omega) (by omega) hJ0 (fun m S hJ h0 ho n hn=>hfit top q m S (by omega) (by omega) hJ h0 ho n hn) (fun m S hJ h0 ho=>hnext top q m S (by omega) (by omega) hJ h0 ho))) ?_;rintro _ w8 ⟨hk1,m1,S1,S2,hJ1,hN,rfl,hcase⟩;replace hA1:=jJ hA1 hk1 (by decide);replace hA2:=jJ hA2 hk1 (by decide);replace hX1:=kT hX1 hk1 hBle;replace hW:cZ 74 w8 B gw r c (S2).M (S2).U (S2).V b:=hN;refine RL.p rfl rfl (cj.not (p:=0≤(bp (fun a=>S1.M a q) top (r - top)).1) rfl) ?_;refine RL.nil ?_;refine ae (¬(0≤(bp (fun a=>S1.M a q) top (r - top)).1)) rfl (fun c33=> ?_) (fun c33=> ?_)
  ·
   refine WP.exit ?_;refine pl.exit ?_;refine iD.same ?_;refine pl.norm ?_;refine WP.region ?_;refine RL.p rfl rfl (cj.move s5_e3) ?_;refine RL.p rfl rfl (cj.add (c:=((q + 1:Nat):Int)) rfl rfl (bT (by omega))) ?_;refine RL.p rfl rfl (cj.assign rfl) ?_;refine RL.nil ?_;have hS:S2=S1:=by
     rcases hcase with h | h
     · exact h.2
     · omega
   refine pl.norm ⟨_,(by omega),_,_,S2,rfl,s1_e3,s2_e3,s3_e3,s4_e3,rfl,(by omega),(by omega),(hS▸hno top q m1 S1 (by omega) (by omega) hJ1 (by omega)),hX1,hA1,hA2,hW⟩
  ·
   refine WP.skip ?_;refine pl.norm ?_;refine WP.seq ?_;obtain ⟨hp0,ho,hS⟩:0≤(bp (fun a=>S1.M a q) top (r - top)).1∧(bp (fun a=>S1.M a q) top (r - top)).2=false∧S2=sn S1 ((bp (fun a=>S1.M a q) top (r - top)).1.toNat) top q:=by
     rcases hcase with h | h
     · omega
     · exact h
   subst hS;have hpz:S1.M ((bp (fun a=>S1.M a q) top (r - top)).1.toNat) q≠0:=(eD (x:=fun a=>S1.M a q) (top:=top) (n:=r - top) (by omega)).2.2.1;have hq0:(sn S1 ((bp (fun a=>S1.M a q) top (r - top)).1.toNat) top q).M top q≠0:=by rw [jV];omega
   obtain ⟨hfr,hF2⟩:=hra top q m1 S1 (by omega) (by omega) hJ1 hp0 ho;refine ab ?_;refine RL.p rfl rfl (cj.move s4_e3) ?_;refine RL.p rfl rfl (cj.move rfl) ?_;refine RL.nil ?_;refine WP.block ?_;refine WP.loop (fun mz ez uz=>∃n:Nat,(mz=top - n)∧(ez 1= .pointer (some ⟨g1,0,none⟩))∧(ez 2= .pointer (some ⟨g2,0,none⟩))∧(ez 3= .pointer (some ⟨gw,0,none⟩))∧(ez 4= .int .i64 ((top:Nat)))∧(ez 5= .int .i64 ((q:Nat)))∧(ez 34= .int .i64 ((top:Nat)))∧(ez 35= .int .i64 ((n:Nat)))∧(n≤top)∧(aA w uz)∧(aY uz g1 28 3 (bU [.int .i64 ((r:Nat)),.int .i64 ((c:Nat)),sx]))∧(aY uz g2 31 9 (bU [.int .i64 (0),.int .i64 (0),.slice (none) (0) (0),.int .i64 (0),.int .i64 (0),.slice (none) (0) (0),.int .i64 (0),.int .i64 (0),.slice (none) (0) (0)]))∧(cZ 74 uz B gw r c (ra (sn S1 ((bp (fun a=>S1.M a q) top (r - top)).1.toNat) top q) top q n).M (ra (sn S1 ((bp (fun a=>S1.M a q) top (r - top)).1.toNat) top q) top q n).U (ra (sn S1 ((bp (fun a=>S1.M a q) top (r - top)).1.toNat) top q) top q n).V b)) (top - 0) ?_ ?_
   · exact ⟨0,rfl,s1_e3,s2_e3,s3_e3,s4_e3,s5_e3,rfl,rfl,(by omega),hX1,hA1,hA2,hW⟩
   rintro m2 e4 w9 ⟨n,hm2,s1_e4,s2_e4,s3_e4,s4_e4,s5_e4,s34_e4,s35_e4,hn,hX2,hA1,hA2,hW⟩;have hqz:(ra (sn S1 ((bp (fun a=>S1.M a q) top (r - top)).1.toNat) top q) top q n).M top q≠0:=by rw [th _ _ _ _ _ (by omega)];exact hq0
   refine ab ?_;refine RL.p rfl rfl (cj.lss s35_e4 s34_e4) ?_;refine RL.nil ?_;refine WP.seq ?_;refine ae (((n:Nat):Int)<((top:Nat):Int)) rfl (fun c36=> ?_) (fun c36=> ?_)
   ·
    refine WP.skip ?_;refine pl.norm ?_;refine WP.seq ?_;refine WP.block ?_;refine ab ?_;refine RL.p rfl rfl (cj.move s35_e4) ?_;refine RL.p rfl rfl (cj.assign rfl) ?_;refine RL.nil ?_;have hWc:=hW;obtain ⟨hm_1,hu_1,hv_1,km_1,ku_1,kv_1,ρm_1,ρu_1,ρv_1,_,hG_1,hMm_1,hMu_1,hMv_1,_⟩:=hWc;have hdm_1:=cY.dlim hMm_1;have hcm_1:=cY.clim hMm_1;have hfitn:ng r c b (de (ra (sn S1 ((bp (fun a=>S1.M a q) top (r - top)).1.toNat) top q) top q n) n top (-((ra (sn S1 ((bp (fun a=>S1.M a q) top (r - top)).1.toNat) top q) top q n).M n q/(ra (sn S1 ((bp (fun a=>S1.M a q) top (r - top)).1.toNat) top q) top q n).M top q))):=hfr n (by omega);have hij:n≠top:=by omega
    refine WP.ds am 27 [_,_,_,_,_,_,_,_,_,_,_,_,_,_,_,_,_,_,_,_,_,_,_,_,_,_,_] rfl rfl (fun e_ w_ AV AU=>⟨fun _=>aa (cj.move ((AU 3 rfl s3_e4))),fun _=>aa (cj.move ((AU 6 rfl rfl))),fun _=>aa (cj.move ((AU 4 rfl s4_e4))),fun _=>aa (cj.move ((AU 3 rfl s3_e4))),fun AT=>aa (cj.nilCheck ((AT 3 rfl))),fun AT=>aa (cj.fieldAddr cB ((AT 4 rfl))),fun AT=>aa (cj.fieldAddr aw ((AT 5 rfl))),fun AT=>aa (cj.load aU ((AT 6 rfl)) ((aY.ext hG_1 AV).at_ (i:=2) rfl rfl)),fun _=>aa (cj.move ((AU 6 rfl rfl))),fun AT=>aa (cj.index (j:=n) aK ((AT 7 rfl)) ((AT 8 rfl)) rfl (by omega) (by omega)),fun AT=>ag (aG (i:=n) bn (AT 9 rfl) (cY.ext hMm_1 AV) (by omega)),fun _=>aa (cj.move ((AU 5 rfl s5_e4))),fun AT=>aa (aR (j:=q) bE (AT 10 rfl) rfl (AT 11 rfl) (by omega) (by omega)),fun AT=>ag (bN (j:=q) aq (AT 12 rfl) (cY.row (cY.ext hMm_1 AV) (by omega)) (by omega)),fun _=>aa (cj.move ((AU 3 rfl s3_e4))),fun AT=>aa (cj.nilCheck ((AT 14 rfl))),fun AT=>aa (cj.fieldAddr cB ((AT 15 rfl))),fun AT=>aa (cj.fieldAddr aw ((AT 16 rfl))),fun AT=>aa (cj.load aU ((AT 17 rfl)) ((aY.ext hG_1 AV).at_ (i:=2) rfl rfl)),fun _=>aa (cj.move ((AU 4 rfl s4_e4))),fun AT=>aa (cj.index (j:=top) aK ((AT 18 rfl)) ((AT 19 rfl)) rfl (by omega) (by omega)),fun AT=>ag (aG (i:=top) bn (AT 20 rfl) (cY.ext hMm_1 AV) (by omega)),fun _=>aa (cj.move ((AU 5 rfl s5_e4))),fun AT=>aa (aR (j:=q) bE (AT 21 rfl) rfl (AT 22 rfl) (by omega) (by omega)),fun AT=>ag (bN (j:=q) aq (AT 23 rfl) (cY.row (cY.ext hMm_1 AV) (by omega)) (by omega)),fun AT=>cQ.call sv (aC rfl rfl) (gJ _ _ _ _ _ _ _ (AT 13 rfl) (AT 24 rfl) hqz (by omega)),fun AT=>cQ.call ll (aL rfl) (lP _ _ _ _ ((AT 25 rfl))),trivial⟩) ?_;intro e5 w10 hx7 ho3 hf3;replace hA1:=aY.ext hA1 hx7;replace hA2:=aY.ext hA2 hx7;replace hW:=cZ.ext hW hx7;replace hX2:=aA.trans hX2 hx7;have s1_e5:=ho3 1 rfl s1_e4;have s2_e5:=ho3 2 rfl s2_e4;have s3_e5:=ho3 3 rfl s3_e4;have s4_e5:=ho3 4 rfl s4_e4;have s5_e5:=ho3 5 rfl s5_e4;have s34_e5:=ho3 34 rfl s34_e4;have s35_e5:=ho3 35 rfl s35_e4;have s38_e5:e5 38=_:=hf3 0 rfl;have s39_e5:e5 39=_:=hf3 1 rfl;have s40_e5:e5 40=_:=hf3 2 rfl;have s64_e5:ak w10 (e5 64) (-((((ra (sn S1 ((bp (fun a=>S1.M a q) top (r - top)).1.toNat) top q) top q n).M) n q)/(((ra (sn S1 ((bp (fun a=>S1.M a q) top (r - top)).1.toNat) top q) top q n).M) top q))) b:=hf3 26 rfl;refine RL.x rfl rfl (du wW (xo s38_e5 s39_e5 s40_e5 rfl) (qm _ _ _ _ _ _ _ _ _ n top _ _ _ hW (by omega) (by omega) s64_e5 (by omega) (by omega) (xk hfitn (by omega)) (xj hfitn (by omega)) (xi hfitn (by omega)))) ?_;rintro _ w12 ⟨hk2,hN1⟩;replace hA1:=jJ hA1 hk2 (by decide);replace hA2:=jJ hA2 hk2 (by decide);replace hX2:=kT hX2 hk2 hBle;replace hW:cZ 74 w12 B gw r c (de (ra (sn S1 ((bp (fun a=>S1.M a q) top (r - top)).1.toNat) top q) top q n) n top (-((((ra (sn S1 ((bp (fun a=>S1.M a q) top (r - top)).1.toNat) top q) top q n).M) n q)/(((ra (sn S1 ((bp (fun a=>S1.M a q) top (r - top)).1.toNat) top q) top q n).M) top q)))).M (de (ra (sn S1 ((bp (fun a=>S1.M a q) top (r - top)).1.toNat) top q) top q n) n top (-((((ra (sn S1 ((bp (fun a=>S1.M a q) top (r - top)).1.toNat) top q) top q n).M) n q)/(((ra (sn S1 ((bp (fun a=>S1.M a q) top (r - top)).1.toNat) top q) top q n).M) top q)))).U (de (ra (sn S1 ((bp (fun a=>S1.M a q) top (r - top)).1.toNat) top q) top q n) n top (-((((ra (sn S1 ((bp (fun a=>S1.M a q) top (r - top)).1.toNat) top q) top q n).M) n q)/(((ra (sn S1 ((bp (fun a=>S1.M a q) top (r - top)).1.toNat) top q) top q n).M) top q)))).V b:=hN1;refine RL.nil ?_;refine iD.norm ?_;refine pl.norm ?_;refine WP.region ?_;refine RL.p rfl rfl (cj.add (c:=((n + 1:Nat):Int)) s35_e5 rfl (bT (by omega))) ?_;refine RL.p rfl rfl (cj.move rfl) ?_;refine RL.nil ?_;refine pl.norm ⟨_,(by omega),n + 1,rfl,s1_e5,s2_e5,s3_e5,s4_e5,s5_e5,s34_e5,rfl,(by omega),hX2,hA1,hA2,hW⟩
   ·
    refine WP.exit ?_;refine pl.exit ?_;refine pl.exit ?_;refine iD.same ?_;refine pl.norm ?_;refine WP.region ?_;refine RL.p rfl rfl (cj.move s4_e4) ?_;refine RL.p rfl rfl (cj.add (c:=((top + 1:Nat):Int)) rfl rfl (bT (by omega))) ?_;refine RL.p rfl rfl (cj.assign rfl) ?_;refine RL.nil ?_;refine iD.norm ?_;refine pl.norm ?_;refine WP.region ?_;refine RL.p rfl rfl (cj.move s5_e4) ?_;refine RL.p rfl rfl (cj.add (c:=((q + 1:Nat):Int)) rfl rfl (bT (by omega))) ?_;refine RL.p rfl rfl (cj.assign rfl) ?_;refine RL.nil ?_;have hnt:n=top:=by omega
    rw [hnt] at hW;refine pl.norm ⟨_,(by omega),_,_,_,rfl,s1_e4,s2_e4,s3_e4,rfl,rfl,(by omega),(by omega),hF2,hX2,hA1,hA2,hW⟩
 ·
  refine WP.exit ?_;refine pl.exit ?_;refine pl.exit ?_;refine iD.same ?_;refine pl.norm ?_;have hWc:=hW;obtain ⟨hm_2,hu_2,hv_2,km_2,ku_2,kv_2,ρm_2,ρu_2,ρv_2,_,hG_2,hMm_2,hMu_2,hMv_2,_⟩:=hWc;have hdm_2:=cY.dlim hMm_2;have hcm_2:=cY.clim hMm_2;have hdu_2:=cY.dlim hMu_2;have hdv_2:=cY.dlim hMv_2
  skip
  refine aF am 12 [_,_,_,_,_,_,_,_,_,_,_,_] rfl rfl (fun e_ w_ AV AU=>⟨fun _=>aa (cj.move ((AU 3 rfl s3_e3))),fun AT=>aa (cj.nilCheck ((AT 0 rfl))),fun AT=>aa (cj.fieldAddr cB ((AT 1 rfl))),fun AT=>aa (af [.int .i64 ((r:Nat)),.int .i64 ((c:Nat)),.slice (some ⟨hm_2,0,none⟩) (r) (km_2)] aV ((AT 2 rfl)) ((aY.ext hG_2 AV).cells 0 _ rfl rfl)),fun _=>aa (cj.move ((AU 3 rfl s3_e3))),fun AT=>aa (cj.nilCheck ((AT 4 rfl))),fun AT=>aa (cj.fieldAddr dF ((AT 5 rfl))),fun AT=>aa (af [.int .i64 ((r:Nat)),.int .i64 ((r:Nat)),.slice (some ⟨hu_2,0,none⟩) (r) (ku_2)] aV ((AT 6 rfl)) ((aY.ext hG_2 AV).cells 3 _ rfl rfl)),fun _=>aa (cj.move ((AU 3 rfl s3_e3))),fun AT=>aa (cj.nilCheck ((AT 8 rfl))),fun AT=>aa (cj.fieldAddr jx ((AT 9 rfl))),fun AT=>aa (af [.int .i64 ((r:Nat)),.int .i64 ((r:Nat)),.slice (some ⟨hv_2,0,none⟩) (r) (kv_2)] aV ((AT 10 rfl)) ((aY.ext hG_2 AV).cells 6 _ rfl rfl)),trivial⟩) ?_;intro e6 w13 hx9 ho4 hf4;replace hA2:=aY.ext hA2 hx9;replace hMm_2:=cY.ext hMm_2 hx9;replace hMu_2:=cY.ext hMu_2 hx9;replace hMv_2:=cY.ext hMv_2 hx9;replace hX1:=aA.trans hX1 hx9;have s2_e6:=ho4 2 rfl s2_e3;have s72_e6:e6 72=_:=hf4 3 rfl;have s76_e6:e6 76=_:=hf4 7 rfl;have s80_e6:e6 80=_:=hf4 11 rfl;refine RL.p rfl rfl (cj.build (vs:= [(0,.agg #[.int .i64 ((r:Nat)),.int .i64 ((c:Nat)),.slice (some ⟨hm_2,0,none⟩) (r) (km_2)]),(1,.agg #[.int .i64 ((r:Nat)),.int .i64 ((r:Nat)),.slice (some ⟨hu_2,0,none⟩) (r) (ku_2)]),(2,.agg #[.int .i64 ((r:Nat)),.int .i64 ((r:Nat)),.slice (some ⟨hv_2,0,none⟩) (r) (kv_2)])]) [(0,3),(3,3),(6,3)] wM no (ko s72_e6 s76_e6 s80_e6) (xl rfl)) ?_;refine RL.x rfl rfl (cQ.store [.int .i64 ((r:Nat)),.int .i64 ((c:Nat)),.slice (some ⟨hm_2,0,none⟩) (r) (km_2),.int .i64 ((r:Nat)),.int .i64 ((r:Nat)),.slice (some ⟨hu_2,0,none⟩) (r) (ku_2),.int .i64 ((r:Nat)),.int .i64 ((r:Nat)),.slice (some ⟨hv_2,0,none⟩) (r) (kv_2)] si s2_e6 rfl rfl hA2 (Nat.le_of_ble_eq_true rfl) (tx rfl rfl rfl rfl rfl rfl rfl rfl rfl)) ?_;rintro _ w14 ⟨hk3,hnew⟩;replace hMm_2:=bk hMm_2 hk3 hA2 (by decide);replace hMu_2:=bk hMu_2 hk3 hA2 (by decide);replace hMv_2:=bk hMv_2 hk3 hA2 (by decide);replace hX1:=hX1.step hk3 (fun b e=>by subst e;exact hbs2);replace hA2:=hnew.lit [.int .i64 ((r:Nat)),.int .i64 ((c:Nat)),.slice (some ⟨hm_2,0,none⟩) (r) (km_2),.int .i64 ((r:Nat)),.int .i64 ((r:Nat)),.slice (some ⟨hu_2,0,none⟩) (r) (ku_2),.int .i64 ((r:Nat)),.int .i64 ((r:Nat)),.slice (some ⟨hv_2,0,none⟩) (r) (kv_2)] rfl;clear hnew;refine RL.nil ?_;refine WP.ret ?_;refine ⟨.agg #[.int .i64 ((r:Nat)),.int .i64 ((c:Nat)),.slice (some ⟨hm_2,0,none⟩) (r) (km_2),.int .i64 ((r:Nat)),.int .i64 ((r:Nat)),.slice (some ⟨hu_2,0,none⟩) (r) (ku_2),.int .i64 ((r:Nat)),.int .i64 ((r:Nat)),.slice (some ⟨hv_2,0,none⟩) (r) (kv_2)],Am.one (aj [.int .i64 ((r:Nat)),.int .i64 ((c:Nat)),.slice (some ⟨hm_2,0,none⟩) (r) (km_2),.int .i64 ((r:Nat)),.int .i64 ((r:Nat)),.slice (some ⟨hu_2,0,none⟩) (r) (ku_2),.int .i64 ((r:Nat)),.int .i64 ((r:Nat)),.slice (some ⟨hv_2,0,none⟩) (r) (kv_2)] sK s2_e6 (hA2.cells 0 _ rfl rfl)),_,rfl,hX1,?_⟩;dsimp only;exact ⟨top,q,S,hF,by omega,htop,hq,_,_,_,rfl,⟨by omega,by omega⟩,by omega,cY.hdrV hMm_2 (by omega) (by omega),cY.hdrV hMu_2 (by omega) (by omega),cY.hdrV hMv_2 (by omega) (by omega)⟩
end Go.TL
namespace Go.TL
set_option linter.unusedVariables false
def av:Nat→(Nat→Int)→Int
  | 0,_=>0
  | n + 1,f=>av n f + f n
section
variable {f g:Nat→Int} {n:Nat}
theorem ar:∀{n:Nat},(∀i,i<n→f i=g i)→av n f=av n g
  | 0,_=>rfl
  | n + 1,h=>by simp only [av];rw [ar (n:=n) fun i hi=>h i (by omega),h n (by omega)]
theorem cI:∀{n:Nat},(∀i,i<n→f i=0)→av n f=0
  | 0,_=>rfl
  | n + 1,h=>by simp only [av];rw [cI (n:=n) fun i hi=>h i (by omega),h n (by omega)];rfl
theorem ew (f g:Nat→Int):∀n,av n (fun i=>f i + g i)=av n f + av n g
  | 0=>rfl
  | n + 1=>by simp only [av];rw [ew f g n];omega
theorem gX (f g:Nat→Int):∀n,av n (fun i=>f i - g i)=av n f - av n g
  | 0=>rfl
  | n + 1=>by simp only [av];rw [gX f g n];omega
theorem dX (k:Int) (f:Nat→Int):∀n,av n (fun i=>k*f i)=k*av n f
  | 0=>by simp [av]
  | n + 1=>by simp only [av];rw [dX k f n,Int.mul_add]
theorem lr (k:Int) (f:Nat→Int) (n:Nat):av n (fun i=>f i*k)=av n f*k:=by
  rw [Int.mul_comm,←dX];exact ar fun i _=>Int.mul_comm _ _
theorem nC (f:Nat→Int) (n:Nat):av n (fun i=> -f i)= -av n f:=by
  have:=dX (-1) f n;rw [show (-1:Int)*av n f= -av n f by omega] at this;rw [←this];exact ar fun i _=>by omega
theorem eu {i:Nat}:∀{n:Nat},i<n→av n (fun x=>if x=i then f x else 0)=f i
  | 0,h=>by omega
  | n + 1,h=>by
    simp only [av]
    by_cases e:i=n
    · subst e
      rw [cI fun x hx=>by rw [if_neg (by omega)],if_pos rfl];omega
    · rw [eu (n:=n) (by omega),if_neg (by omega)];omega
theorem dO {i:Nat} (hi:i<n) (h:∀x,x<n→x≠i→f x=0):av n f=f i:=by
  rw [←eu (f:=f) hi];exact ar fun x hx=>by
    by_cases e:x=i
    · rw [if_pos e]
    · rw [if_neg e,h x hx e]
theorem ls (F:Nat→Nat→Int) (m:Nat):∀n,av n (fun i=>av m (fun j=>F i j))=av m (fun j=>av n (fun i=>F i j))
  | 0=>by simp only [av];rw [cI fun _ _=>rfl]
  | n + 1=>by simp only [av];rw [ls F m n,←ew]
theorem rb {i j:Nat} (hi:i<n) (hj:j<n):av n (fun x=>f (gC id i j x))=av n f:=by
  by_cases e:i=j
  · subst e
    refine ar fun x _=> ?_
    unfold gC
    split
    · rename_i h;rw [h];rfl
    · rfl
  · have h1:av n (fun x=>f (gC id i j x))=av n (fun x=>f x + ((if x=i then (fun _=>f j - f i) x else 0) + (if x=j then (fun _=>f i - f j) x else 0))):=by
      refine ar fun x _=> ?_
      unfold gC
      by_cases e1:x=i
      · subst e1;rw [if_pos rfl,if_pos rfl,if_neg e];simp only [id];omega
      · rw [if_neg e1,if_neg e1]
        by_cases e2:x=j
        · subst e2;rw [if_pos rfl,if_pos rfl];simp only [id];omega
        · rw [if_neg e2,if_neg e2];simp only [id];omega
    rw [h1,ew,ew,eu hi,eu hj];omega
theorem gZ {B:Nat}:∀{n:Nat},(∀i,i<n→(f i).natAbs≤B)→(av n f).natAbs≤n*B
  | 0,_=>by simp [av]
  | n + 1,h=>by
    have h1:=gZ (n:=n) (B:=B) fun i hi=>h i (by omega)
    have h2:=h n (by omega);simp only [av];rw [Nat.add_mul];omega
end
def bc (n:Nat) (A B:Nat→Nat→Int):Nat→Nat→Int:=fun i j=>av n fun a=>A i a*B a j
theorem eC {n:Nat} {A A' B B':Nat→Nat→Int} {i j:Nat} (hA:∀a,a<n→A i a=A' i a) (hB:∀a,a<n→B a j=B' a j):bc n A B i j=bc n A' B' i j:=
  ar fun a ha=>by rw [hA a ha,hB a ha]
theorem kw (n m:Nat) (A B C:Nat→Nat→Int) (i j:Nat):bc m (bc n A B) C i j=bc n A (bc m B C) i j:=by
  unfold bc
  have h1:av m (fun a=>av n (fun b=>A i b*B b a)*C a j)=av m (fun a=>av n (fun b=>A i b*B b a*C a j)):=ar fun a _=>(lr _ _ _).symm
  have h2:av n (fun b=>A i b*av m (fun a=>B b a*C a j))=av n (fun b=>av m (fun a=>A i b*B b a*C a j)):=
    ar fun b _=>by rw [←dX];exact ar fun a _=>by rw [Int.mul_assoc]
  rw [h1,h2,ls]
theorem vE {n:Nat} (A:Nat→Nat→Int) {i j:Nat} (hj:j<n):bc n A ct i j=A i j:=by
  unfold bc ct
  rw [dO hj fun x hx e=>by rw [if_neg e];omega,if_pos rfl];omega
theorem jF {n:Nat} (A:Nat→Nat→Int) {i j:Nat} (hi:i<n):bc n ct A i j=A i j:=by
  unfold bc ct
  rw [dO hi fun x hx e=>by rw [if_neg (fun h=>e h.symm)];omega,if_pos rfl];omega
theorem lH {n:Nat} (U B:Nat→Nat→Int) (i j:Nat) (k:Int) (a b:Nat):bc n (dw U i j k) B a b=dw (bc n U B) i j k a b:=by
  unfold bc dw
  by_cases e:a=i
  · simp only [if_pos e]
    rw [←dX,←ew];exact ar fun x _=>by rw [Int.add_mul,Int.mul_assoc]
  · simp only [if_neg e]
theorem rm {n:Nat} (A V:Nat→Nat→Int) (i j:Nat) (k:Int) (a b:Nat):bc n A (eb V i j k) a b=eb (bc n A V) i j k a b:=by
  unfold bc eb
  by_cases e:b=j
  · simp only [if_pos e]
    rw [←dX,←gX];exact ar fun x _=>by rw [Int.mul_sub,Int.mul_left_comm]
  · simp only [if_neg e]
theorem kt {n:Nat} (U B:Nat→Nat→Int) (i j a b:Nat):bc n (cE U i j) B a b=cE (bc n U B) i j a b:=by
  unfold bc cE
  by_cases e:a=i
  · simp only [if_pos e]
  · simp only [if_neg e]
    by_cases e2:a=j
    · simp only [if_pos e2]
    · simp only [if_neg e2]
theorem oS {n:Nat} (A V:Nat→Nat→Int) (i j a b:Nat):bc n A (dk V i j) a b=dk (bc n A V) i j a b:=by
  unfold bc dk
  by_cases e:b=i
  · simp only [if_pos e]
  · simp only [if_neg e]
    by_cases e2:b=j
    · simp only [if_pos e2]
    · simp only [if_neg e2]
theorem lG {n:Nat} (U B:Nat→Nat→Int) (i a b:Nat):bc n (eA U i) B a b=eA (bc n U B) i a b:=by
  unfold bc eA
  by_cases e:a=i
  · simp only [if_pos e]
    rw [←nC];exact ar fun x _=>by rw [Int.neg_mul]
  · simp only [if_neg e]
theorem rn {n:Nat} (A V:Nat→Nat→Int) (i a b:Nat):bc n A (fD V i) a b=fD (bc n A V) i a b:=by
  unfold bc fD
  by_cases e:b=i
  · simp only [if_pos e]
    rw [←nC];exact ar fun x _=>by rw [Int.mul_neg]
  · simp only [if_neg e]
structure Lin (r c:Nat) (M0:Nat→Nat→Int) (S:WS):Prop where
  eq:∀i j,i<r→j<c→S.M i j=bc r S.U M0 i j
  uv:∀i j,i<r→j<r→bc r S.U S.V i j=ct i j
  vu:∀i j,i<r→j<r→bc r S.V S.U i j=ct i j
section
variable {r c:Nat} {M0:Nat→Nat→Int} {S:WS}
theorem Lin.start (M0:Nat→Nat→Int):Lin r c M0 ⟨M0,ct,ct⟩:=
  ⟨fun i j hi _=>(jF M0 hi).symm,fun i j hi _=>jF ct hi,fun i j hi _=>jF ct hi⟩
theorem Lin.add (h:Lin r c M0 S) {i j:Nat} (k:Int) (hi:i<r) (hj:j<r) (hij:i≠j):Lin r c M0 (de S i j k):=by
  refine ⟨fun a b ha hb=> ?_,fun a b ha hb=> ?_,fun a b ha hb=> ?_⟩
  · show dw S.M i j k a b=bc r (dw S.U i j k) M0 a b
    rw [lH];unfold dw;rw [h.eq i b hi hb,h.eq j b hj hb,h.eq a b ha hb]
  · show bc r (dw S.U i j k) (eb S.V i j k) a b=_
    rw [lH];unfold dw;have e1:∀x,x<r→bc r S.U (eb S.V i j k) x b=eb ct i j k x b:=fun x hx=>by
      rw [rm];unfold eb;rw [h.uv x j hx hj,h.uv x i hx hi,h.uv x b hx hb]
    rw [e1 i hi,e1 j hj,e1 a ha]
    unfold eb ct
    by_cases c1:a=i
    · subst c1
      by_cases c2:b=j
      · subst c2;simp [hij];split<;>(simp_all<;>omega)
      · simp [c2];rw [if_neg (fun h=>c2 h.symm:¬j=b)];omega
    · by_cases c2:b=j
      · subst c2;simp [c1]
      · simp [c1,c2]
  · show bc r (eb S.V i j k) (dw S.U i j k) a b=_
    rw [←h.vu a b ha hb];have e1:bc r (eb S.V i j k) (dw S.U i j k) a b=av r (fun x=>S.V a x*S.U x b + ((if x=i then (fun _=>k*(S.V a i*S.U j b)) x else 0) + (if x=j then (fun _=> -(k*(S.V a i*S.U j b))) x else 0))):=by
      refine ar fun x _=> ?_
      unfold eb dw
      by_cases c1:x=i
      · subst c1
        simp [hij,Int.mul_add,Int.mul_left_comm]
      · by_cases c2:x=j
        · subst c2
          simp [c1,Int.sub_mul,Int.mul_assoc];omega
        · simp [c1,c2]
    rw [e1,ew,ew,eu hi,eu hj]
    unfold bc;omega
theorem vP {i j a b:Nat}:cE (dk ct i j) i j a b=ct a b:=by
  unfold cE dk ct
  by_cases h1:a=i<;>by_cases h2:a=j<;>by_cases h3:b=i<;>by_cases h4:b=j<;>simp_all
  all_goals (try split)<;>(try split)<;>simp_all<;>omega
theorem Lin.swap (h:Lin r c M0 S) {i j:Nat} (hi:i<r) (hj:j<r):Lin r c M0 (bK S i j):=by
  refine ⟨fun a b ha hb=> ?_,fun a b ha hb=> ?_,fun a b ha hb=> ?_⟩
  · show cE S.M i j a b=bc r (cE S.U i j) M0 a b
    rw [kt];unfold cE
    split
    · exact h.eq j b hj hb
    · split
      · exact h.eq i b hi hb
      · exact h.eq a b ha hb
  · show bc r (cE S.U i j) (dk S.V i j) a b=_
    rw [kt,←vP (i:=i) (j:=j)];have e1:∀x,x<r→bc r S.U (dk S.V i j) x b=dk ct i j x b:=fun x hx=>by
      rw [oS];unfold dk;rw [h.uv x j hx hj,h.uv x i hx hi,h.uv x b hx hb]
    unfold cE
    split
    · exact e1 j hj
    · split
      · exact e1 i hi
      · exact e1 a ha
  · show bc r (dk S.V i j) (cE S.U i j) a b=_
    rw [←h.vu a b ha hb]
    unfold bc
    rw [←rb (f:=fun x=>S.V a x*S.U x b) hi hj];refine ar fun x _=> ?_
    unfold dk cE gC
    by_cases e1:x=i
    · simp [e1]
    · simp only [if_neg e1]
      by_cases e2:x=j
      · simp [e2]
      · simp [e2]
theorem Lin.neg (h:Lin r c M0 S) {i:Nat} (hi:i<r):Lin r c M0 (fE S i):=by
  refine ⟨fun a b ha hb=> ?_,fun a b ha hb=> ?_,fun a b ha hb=> ?_⟩
  · show eA S.M i a b=bc r (eA S.U i) M0 a b
    rw [lG];unfold eA;rw [h.eq i b hi hb,h.eq a b ha hb]
  · show bc r (eA S.U i) (fD S.V i) a b=_
    rw [lG];unfold eA;have e1:∀x,x<r→bc r S.U (fD S.V i) x b=fD ct i x b:=fun x hx=>by
      rw [rn];unfold fD;rw [h.uv x i hx hi,h.uv x b hx hb]
    rw [e1 i hi,e1 a ha]
    unfold fD ct
    by_cases c1:a=i<;>by_cases c2:b=i<;>simp_all
    rw [if_neg (fun h=>c2 h.symm:¬i=b)];rfl
  · show bc r (fD S.V i) (eA S.U i) a b=_
    rw [←h.vu a b ha hb];refine ar fun x _=> ?_
    unfold fD eA
    by_cases e:x=i
    · simp [e,Int.neg_mul_neg]
    · simp [e]
theorem Lin.back (h:Lin r c M0 S) {i j:Nat} (hi:i<r) (hj:j<c):M0 i j=bc r S.V S.M i j:=by
  have h1:bc r S.V S.M i j=bc r S.V (bc r S.U M0) i j:=eC (fun _ _=>rfl) fun a ha=>h.eq a j ha hj
  rw [h1,←kw,eC (A':=ct) (B':=M0) (fun a ha=>h.vu i a hi ha) (fun _ _=>rfl),jF M0 hi]
end
end Go.TL
namespace Go.TL
open Go.RowKit Go.Proofs
set_option linter.unusedVariables false
def nd (R C n c:Nat):Prop:=R=n∧(n=0∨C=c)
instance (R C n c:Nat):Decidable (nd R C n c):=inferInstanceAs (Decidable (R=n∧(n=0∨C=c)))
theorem nd.same {n c:Nat}:nd n c n c:=⟨rfl,.inr rfl⟩
theorem pw {w:World} {s:Value} {n c C b:Nat} {M:Nat→Nat→Int} (h:ce w s n c M b) (he:n=0∨C=c):ce w s n C M b:=by
  rcases he with he | he
  · subst he
    obtain ⟨A,k,h1,h2,h3,_⟩:=h;exact ⟨A,k,h1,h2,h3,fun h0=>absurd h0 (by omega)⟩
  · subst he;exact h
def ig (p:(Nat→Int)→Prop) [DecidablePred p] (M:Nat→Nat→Int) (n:Nat):Int:=cM (fun b=>b=1) (fun i=>if p (M i) then 1 else 0) n
section
variable {p:(Nat→Int)→Prop} [DecidablePred p] {M:Nat→Nat→Int}
theorem rf {n:Nat} (h:ig p M n= -1) (hp:¬p (M n)):ig p M (n + 1)= -1:=gf h (by simp [hp])
theorem oH {i n:Nat} (h:ig p M i= -1) (hp:p (M i)) (hi:i<n):ig p M n=(i:Int):=dP h (by simp [hp]) hi
theorem vt {n:Nat} (h:¬0≤ig p M n) {i:Nat} (hi:i<n):¬p (M i):=fun hp=>by
  have h1:=(eg (p:=fun b=>b=1) (z:=fun i=>if p (M i) then (1:Int) else 0) n).2;have h2:cM (fun b=>b=1) (fun i=>if p (M i) then (1:Int) else 0) n= -1:=by unfold ig at h;omega
  exact em h2 i hi (by simp [hp])
theorem ta {n:Nat} (h:0≤ig p M n):∃i,i<n∧p (M i):=by
  obtain ⟨i,h1,_,h3,_⟩:=ge h;refine ⟨i,h1,?_⟩
  by_cases hp:p (M i)
  · exact hp
  · simp [hp] at h3
end
def uZ (P:Program) (w:World) (fv:Value) (n B:Nat) (p:(Nat→Int)→Prop) [DecidablePred p]:Prop:=∃fid vs us,fv= .func (.func fid) vs us∧ax P fid=true∧
  ∀w',aA w w'→∀x z,bi w' x n z B→Calls P fid (vs ++ #[x] ++ us) w' (cc w' fun v _=>v= .bool (decide (p z)))
def Av (P:Program) (w:World) (fv:Value) (bx bz b:Nat):Prop:=∃fid vs us,fv= .func (.func fid) vs us∧ax P fid=true∧
  ∀w',aA w w'→∀o x y zo zx zy,ak w' o zo b→ak w' x zx bx→ak w' y zy bz→(zo + zx*zy).natAbs<2^b→Calls P fid (vs ++ #[o,x,y] ++ us) w' (cc w' fun v w''=>ak w'' v (zo + zx*zy) b)
section
variable {P:Program} {w w':World} {fv:Value} {n B b bx bz:Nat} {p:(Nat→Int)→Prop} [DecidablePred p]
theorem uZ.ext (h:uZ P w fv n B p) (hx:aA w w'):uZ P w' fv n B p:=by
  obtain ⟨fid,vs,us,h1,h2,h3⟩:=h;exact ⟨fid,vs,us,h1,h2,fun w1 hw=>h3 w1 (hx.trans hw)⟩
theorem Av.ext (h:Av P w fv bx bz b) (hx:aA w w'):Av P w' fv bx bz b:=by
  obtain ⟨fid,vs,us,h1,h2,h3⟩:=h;exact ⟨fid,vs,us,h1,h2,fun w1 hw=>h3 w1 (hx.trans hw)⟩
variable {e:cl} {d:Option Tmp} {ty:TypeId} {pos:String} {after:Array Edge} {gd:Option (Nat×Bool)}
theorem mV {cal x:Operand} {ts:Array TypeId} {u:Value} {z:Nat→Int} (hf:ev e cal=fv) (hF:uZ P w fv n B p) (hx:ev e x=u) (hI:bi w u n z B):
    cQ P ⟨d,.call {callee:= .value cal,args:= #[x],argTypes:=ts},ty,pos,after,gd⟩ e w (fun v w'=>aA w w'∧v= .bool (decide (p z))):=by
  obtain ⟨fid,vs,us,rfl,hc,hF⟩:=hF;exact dt hc hf (by rw [aL hx]) (hF w (aA.refl w) u z hI) fun _ _ ⟨v,h1,h2,h3⟩=>⟨v,h1,h2,h3⟩
theorem ou {cal o x y:Operand} {ts:Array TypeId} {uo ux uy:Value} {zo zx zy:Int} (hf:ev e cal=fv) (hF:Av P w fv bx bz b) (ho:ev e o=uo) (hx:ev e x=ux) (hy:ev e y=uy)
    (hO:ak w uo zo b) (hX:ak w ux zx bx) (hY:ak w uy zy bz) (hb:(zo + zx*zy).natAbs<2^b):
    cQ P ⟨d,.call {callee:= .value cal,args:= #[o,x,y],argTypes:=ts},ty,pos,after,gd⟩ e w (fun v w'=>aA w w'∧ak w' v (zo + zx*zy) b):=by
  obtain ⟨fid,vs,us,rfl,hc,hF⟩:=hF;exact dt hc hf (by rw [cH ho hx hy]) (hF w (aA.refl w) uo ux uy zo zx zy hO hX hY hb) fun _ _ ⟨v,h1,h2,h3⟩=>⟨v,h1,h2,h3⟩
end
def vA (z:Int):Prop:=¬True
instance:DecidablePred vA:=fun z=>inferInstanceAs (Decidable (¬True))
theorem vz (z:Nat→Int) (n:Nat):¬0≤cM vA z n:=fun h=>by obtain ⟨i,_,_,h3,_⟩:=ge h;exact h3 trivial
theorem vU {C c n:Nat} {z:Nat→Int} (h:¬(((c:Nat):Int)≠((C:Nat):Int)∨0≤cM vA z n)):C=c:=by
  by_cases e:C=c
  · exact e
  · exact absurd (.inl (by omega)) h
theorem vV {R C n c m i:Nat} {z:Nat→Int} (h:nd R C n c) (hi:i<n) (hc:((c:Nat):Int)≠((C:Nat):Int)∨0≤cM vA z m):False:=by
  rcases hc with e | e
  · rcases h.2 with h2 | h2
    · omega
    · exact e (by rw [h2])
  · exact vz z m e
theorem uq {o x y:Int} (h:x.sign=0∨y.sign=0):o=o + x*y:=by
  rcases h with h | h
  · rw [Int.sign_eq_zero_iff_zero.1 h,Int.zero_mul,Int.add_zero]
  · rw [Int.sign_eq_zero_iff_zero.1 h,Int.mul_zero,Int.add_zero]
theorem mw (w:World) (x:Value) (rx cx:Nat) (Mx:Nat→Nat→Int) (btx:Nat) (hx:bX w x rx cx Mx btx):
    Calls Tryz.prog 97 #[x] w (cc w fun v w'=>bX w' v cx rx (fun i j=>Mx j i) btx):=by
  refine (nT w x rx cx Mx btx hx).mono ?_;rintro e w' ⟨v,rfl,hx',h⟩;exact ⟨v,rfl,hx',cO.matV h⟩
theorem lV {w:World} {a b:Value} {z:Int} {n:Nat} (h:ak w (.agg #[a,b]) z n):a.oneCell'=true:=by
  obtain ⟨c0,c1,h1,h2,h3⟩:=ak.cells h
  injection h1 with h1
  have:=congrArg (fun x:Array Value=>x[0]?) h1;simp at this;rw [this];exact h2
theorem ak.oneB {w:World} {a b:Value} {z:Int} {n:Nat} (h:ak w (.agg #[a,b]) z n):b.oneCell'=true:=by
  obtain ⟨c0,c1,h1,h2,h3⟩:=ak.cells h
  injection h1 with h1
  have:=congrArg (fun x:Array Value=>x[1]?) h1;simp at this;rw [this];exact h3
end Go.TL
namespace Go.TL
set_option linter.unusedVariables false
def kq (S:WS) (top q a:Nat):Int:= -(S.M a q/S.M top q)
theorem mI (S:WS) (top q:Nat):∀n a c,(el S top q n).M a c=if top<a∧a≤top + n then S.M a c + kq S top q a*S.M top c else S.M a c
  | 0,a,c=>by rw [if_neg (by omega)];rfl
  | n + 1,a,c=>by
    have ih:=mI S top q n;simp only [el,de,dw]
    by_cases e:a=top + 1 + n
    · subst e
      rw [if_pos rfl,if_pos (by omega),ih,ih,ih,ih,if_neg (by omega),if_neg (by omega),if_neg (by omega),if_neg (by omega)];rfl
    · rw [if_neg e,ih]
      by_cases e2:top<a∧a≤top + n
      · rw [if_pos e2,if_pos (by omega)]
      · rw [if_neg e2,if_neg (by omega)]
theorem Ae (S:WS) (top q:Nat):∀n a c,(el S top q n).U a c=if top<a∧a≤top + n then S.U a c + kq S top q a*S.U top c else S.U a c
  | 0,a,c=>by rw [if_neg (by omega)];rfl
  | n + 1,a,c=>by
    have ih:=Ae S top q n;have im:=mI S top q n;simp only [el,de,dw]
    by_cases e:a=top + 1 + n
    · subst e
      rw [if_pos rfl,if_pos (by omega),ih,ih,im,im,if_neg (by omega),if_neg (by omega),if_neg (by omega),if_neg (by omega)];rfl
    · rw [if_neg e,ih]
      by_cases e2:top<a∧a≤top + n
      · rw [if_pos e2,if_pos (by omega)]
      · rw [if_neg e2,if_neg (by omega)]
theorem Ad (S:WS) (top q:Nat):∀n a c,(el S top q n).V a c=if c=top then S.V a top - av n (fun x=>kq S top q (top + 1 + x)*S.V a (top + 1 + x)) else S.V a c
  | 0,a,c=>by by_cases e:c=top<;>simp [el,av,e]
  | n + 1,a,c=>by
    have ih:=Ad S top q n;have im:=mI S top q n;simp only [el,de,eb]
    by_cases e:c=top
    · subst e
      rw [if_pos rfl,if_pos rfl,ih,ih,im,im,if_pos rfl,if_neg (by omega),if_neg (by omega),if_neg (by omega)];simp only [av,kq];omega
    · rw [if_neg e,if_neg e,ih,if_neg e]
theorem kW (S:WS) (top q:Nat):∀n a c,n≤top→(ra S top q n).M a c=if a<n then S.M a c + kq S top q a*S.M top c else S.M a c
  | 0,a,c,_=>by rw [if_neg (by omega)];rfl
  | n + 1,a,c,hn=>by
    have ih:=fun a c=>kW S top q n a c (by omega)
    simp only [ra,de,dw]
    by_cases e:a=n
    · subst e
      rw [if_pos rfl,if_pos (by omega),ih,ih,ih,ih,if_neg (by omega),if_neg (by omega),if_neg (by omega),if_neg (by omega)];rfl
    · rw [if_neg e,ih]
      by_cases e2:a<n
      · rw [if_pos e2,if_pos (by omega)]
      · rw [if_neg e2,if_neg (by omega)]
theorem zM (S:WS) (top q:Nat):∀n a c,n≤top→(ra S top q n).U a c=if a<n then S.U a c + kq S top q a*S.U top c else S.U a c
  | 0,a,c,_=>by rw [if_neg (by omega)];rfl
  | n + 1,a,c,hn=>by
    have ih:=fun a c=>zM S top q n a c (by omega)
    have im:=fun a c=>kW S top q n a c (by omega)
    simp only [ra,de,dw]
    by_cases e:a=n
    · subst e
      rw [if_pos rfl,if_pos (by omega),ih,ih,im,im,if_neg (by omega),if_neg (by omega),if_neg (by omega),if_neg (by omega)];rfl
    · rw [if_neg e,ih]
      by_cases e2:a<n
      · rw [if_pos e2,if_pos (by omega)]
      · rw [if_neg e2,if_neg (by omega)]
theorem zL (S:WS) (top q:Nat):∀n a c,n≤top→(ra S top q n).V a c=if c=top then S.V a top - av n (fun x=>kq S top q x*S.V a x) else S.V a c
  | 0,a,c,_=>by by_cases e:c=top<;>simp [ra,av,e]
  | n + 1,a,c,hn=>by
    have ih:=fun a c=>zL S top q n a c (by omega)
    have im:=fun a c=>kW S top q n a c (by omega)
    simp only [ra,de,eb]
    by_cases e:c=top
    · subst e
      rw [if_pos rfl,if_pos rfl,ih,ih,im,im,if_pos rfl,if_neg (by omega),if_neg (by omega),if_neg (by omega)];simp only [av,kq];omega
    · rw [if_neg e,if_neg e,ih,if_neg e]
theorem rd (S:WS) (p top q a c:Nat):(a≠top→(sn S p top q).M a c=if a=p then S.M top c else S.M a c)∧((sn S p top q).M top c).natAbs=(S.M p c).natAbs:=by
  have h0:∀c,(bK S p top).M top c=S.M p c:=fun c=>congrFun (lC S.M p top) c
  constructor
  · intro ha
    have h1:(bK S p top).M a c=if a=p then S.M top c else S.M a c:=by
      simp only [bK,cE]
      by_cases e:a=p
      · rw [if_pos e,if_pos e]
      · rw [if_neg e,if_neg ha,if_neg e]
    by_cases h:(bK S p top).M top q<0
    · rw [iF h,←h1];simp only [fE,eA];rw [if_neg ha]
    · rw [iE h,←h1]
  · by_cases h:(bK S p top).M top q<0
    · rw [iF h];simp only [fE,eA,if_true];rw [h0];omega
    · rw [iE h,h0]
theorem sM {r c:Nat} {S:WS} {p top q EM EU EV:Nat} (hp:p<r) (ht:top<r) (hM:∀i j,i<r→j<c→(S.M i j).natAbs≤EM) (hU:∀i j,i<r→j<r→(S.U i j).natAbs≤EU) (hV:∀i j,i<r→j<r→(S.V i j).natAbs≤EV):
    (∀i j,i<r→j<c→((sn S p top q).M i j).natAbs≤EM)∧(∀i j,i<r→j<r→((sn S p top q).U i j).natAbs≤EU)∧∀i j,i<r→j<r→((sn S p top q).V i j).natAbs≤EV:=by
  have h1:∀i j,i<r→j<c→((bK S p top).M i j).natAbs≤EM:=fun i j hi hj=>by
    simp only [bK,cE];split
    · exact hM _ _ ht hj
    · split
      · exact hM _ _ hp hj
      · exact hM _ _ hi hj
  have h2:∀i j,i<r→j<r→((bK S p top).U i j).natAbs≤EU:=fun i j hi hj=>by
    simp only [bK,cE];split
    · exact hU _ _ ht hj
    · split
      · exact hU _ _ hp hj
      · exact hU _ _ hi hj
  have h3:∀i j,i<r→j<r→((bK S p top).V i j).natAbs≤EV:=fun i j hi hj=>by
    simp only [bK,dk];split
    · exact hV _ _ hi ht
    · split
      · exact hV _ _ hi hp
      · exact hV _ _ hi hj
  by_cases h:(bK S p top).M top q<0
  · rw [iF h]
    refine ⟨fun i j hi hj=> ?_,fun i j hi hj=> ?_,fun i j hi hj=> ?_⟩
    · simp only [fE,eA];split
      · rename_i e;subst e;rw [Int.natAbs_neg];exact h1 _ _ hi hj
      · exact h1 _ _ hi hj
    · simp only [fE,eA];split
      · rename_i e;subst e;rw [Int.natAbs_neg];exact h2 _ _ hi hj
      · exact h2 _ _ hi hj
    · simp only [fE,fD];split
      · rename_i e;subst e;rw [Int.natAbs_neg];exact h3 _ _ hi hj
      · exact h3 _ _ hi hj
  · rw [iE h];exact ⟨h1,h2,h3⟩
theorem fu {x y k:Int} {E K:Nat} (hx:x.natAbs≤E) (hy:y.natAbs≤E) (hk:k.natAbs≤K):(x + k*y).natAbs≤E*(1 + K):=by
  have h1:=Int.natAbs_add_le x (k*y);rw [Int.natAbs_mul] at h1;have h2:=Nat.mul_le_mul hk hy;rw [Nat.mul_add,Nat.mul_one,Nat.mul_comm E K];omega
theorem pM {x:Int} {f:Nat→Int} {E K n R:Nat} (hx:x.natAbs≤E) (hf:∀i,i<n→(f i).natAbs≤K*E) (hn:n≤R):(x - av n f).natAbs≤E*(1 + R*K):=by
  have h1:=gZ hf;have h2:n*(K*E)≤R*(K*E):=Nat.mul_le_mul_right _ hn;have h3:E*(1 + R*K)=E + R*(K*E):=by rw [Nat.mul_add,Nat.mul_one,Nat.mul_left_comm,Nat.mul_comm E K]
  omega
theorem Ac {r c:Nat} {S:WS} {top q n EM EU EV K:Nat} (ht:top<r) (hn:top + n<r) (h7:n≤7) (hK:∀a,top<a→a<r→(kq S top q a).natAbs≤K) (hM:∀i j,i<r→j<c→(S.M i j).natAbs≤EM) (hU:∀i j,i<r→j<r→(S.U i j).natAbs≤EU) (hV:∀i j,i<r→j<r→(S.V i j).natAbs≤EV):
    (∀i j,i<r→j<c→((el S top q n).M i j).natAbs≤EM*(1 + K))∧(∀i j,i<r→j<r→((el S top q n).U i j).natAbs≤EU*(1 + K))∧∀i j,i<r→j<r→((el S top q n).V i j).natAbs≤EV*(1 + 7*K):=by
  have hle:∀E L:Nat,E≤E*(1 + L):=fun E L=>by rw [Nat.mul_add,Nat.mul_one];omega
  refine ⟨fun i j hi hj=> ?_,fun i j hi hj=> ?_,fun i j hi hj=> ?_⟩
  · rw [mI];split
    · rename_i h;exact fu (hM _ _ hi hj) (hM _ _ ht hj) (hK i h.1 hi)
    · exact Nat.le_trans (hM _ _ hi hj) (hle _ _)
  · rw [Ae];split
    · rename_i h;exact fu (hU _ _ hi hj) (hU _ _ ht hj) (hK i h.1 hi)
    · exact Nat.le_trans (hU _ _ hi hj) (hle _ _)
  · rw [Ad];split
    · exact pM (hV _ _ hi ht) (fun x hx=>by rw [Int.natAbs_mul];exact Nat.mul_le_mul (hK _ (by omega) (by omega)) (hV _ _ hi (by omega))) h7
    · exact Nat.le_trans (hV _ _ hi hj) (hle _ _)
theorem xc {r c:Nat} {S:WS} {top q n EM EU EV K:Nat} (ht:top<r) (hn:n≤top) (h7:n≤7) (hK:∀a,a<top→(kq S top q a).natAbs≤K) (hM:∀i j,i<r→j<c→(S.M i j).natAbs≤EM) (hU:∀i j,i<r→j<r→(S.U i j).natAbs≤EU) (hV:∀i j,i<r→j<r→(S.V i j).natAbs≤EV):
    (∀i j,i<r→j<c→((ra S top q n).M i j).natAbs≤EM*(1 + K))∧(∀i j,i<r→j<r→((ra S top q n).U i j).natAbs≤EU*(1 + K))∧∀i j,i<r→j<r→((ra S top q n).V i j).natAbs≤EV*(1 + 7*K):=by
  have hle:∀E L:Nat,E≤E*(1 + L):=fun E L=>by rw [Nat.mul_add,Nat.mul_one];omega
  refine ⟨fun i j hi hj=> ?_,fun i j hi hj=> ?_,fun i j hi hj=> ?_⟩
  · rw [kW _ _ _ _ _ _ hn];split
    · rename_i h;exact fu (hM _ _ hi hj) (hM _ _ ht hj) (hK i (by omega))
    · exact Nat.le_trans (hM _ _ hi hj) (hle _ _)
  · rw [zM _ _ _ _ _ _ hn];split
    · rename_i h;exact fu (hU _ _ hi hj) (hU _ _ ht hj) (hK i (by omega))
    · exact Nat.le_trans (hU _ _ hi hj) (hle _ _)
  · rw [zL _ _ _ _ _ _ hn];split
    · exact pM (hV _ _ hi ht) (fun x hx=>by rw [Int.natAbs_mul];exact Nat.mul_le_mul (hK _ (by omega)) (hV _ _ hi (by omega))) h7
    · exact Nat.le_trans (hV _ _ hi hj) (hle _ _)
section
variable {r c:Nat} {M0:Nat→Nat→Int} {S:WS}
theorem Lin.sn (h:Lin r c M0 S) {p top:Nat} (q:Nat) (hp:p<r) (ht:top<r):Lin r c M0 (sn S p top q):=by
  by_cases hn:(bK S p top).M top q<0
  · rw [iF hn];exact (h.swap hp ht).neg ht
  · rw [iE hn];exact h.swap hp ht
theorem Lin.el (h:Lin r c M0 S) {top:Nat} (q:Nat) (ht:top<r):∀n,top + n<r→Lin r c M0 (el S top q n)
  | 0,_=>h
  | n + 1,hn=>(Lin.el h q ht n (by omega)).add _ (by omega) ht (by omega)
theorem Lin.ra (h:Lin r c M0 S) {top:Nat} (q:Nat) (ht:top<r):∀n,n≤top→Lin r c M0 (ra S top q n)
  | 0,_=>h
  | n + 1,hn=>(Lin.ra h q ht n (by omega)).add _ (by omega) ht (by omega)
end
theorem AH {k x y u:Nat} (hk:1≤k) (hky:k*y≤x) (hu:u≤y) (hx:u + y≤x):(1 + k)*y*u≤x*x:=by
  by_cases h1:k=1
  · subst h1
    have h2:(u + y)*(u + y)≤x*x:=Nat.mul_le_mul hx hx;have h3:(u + y)*(u + y)=u*u + u*y + (y*u + y*y):=by rw [Nat.add_mul,Nat.mul_add,Nat.mul_add]
    have h4:(1 + 1)*y*u=y*u + y*u:=by rw [Nat.mul_assoc];omega
    have h5:u*y=y*u:=Nat.mul_comm _ _;omega
  · have h2:(1 + k)*y*u≤(1 + k)*y*y:=Nat.mul_le_mul_left _ hu
    have h3:k*y*(k*y)≤x*x:=Nat.mul_le_mul hky hky;have h4:1 + k≤k*k:=by
      have:2*k≤k*k:=Nat.mul_le_mul_right _ (by omega);omega
    have h5:(1 + k)*(y*y)≤k*k*(y*y):=Nat.mul_le_mul_right _ h4;have h6:(1 + k)*y*y=(1 + k)*(y*y):=Nat.mul_assoc _ _ _;have h7:k*y*(k*y)=k*k*(y*y):=by ac_rfl
    omega
theorem Ak (y u:Nat):∀n,y^n*(y + (n + 1)*u)≤(y + u)^(n + 1)
  | 0=>by simp
  | n + 1=>by
    have h1:=Nat.mul_le_mul_right (y + u) (Ak y u n);rw [Nat.pow_succ (y + u) (n + 1)];refine Nat.le_trans ?_ h1;rw [Nat.pow_succ,Nat.mul_assoc,Nat.mul_assoc];refine Nat.mul_le_mul_left _ ?_;have e1:(y + (n + 1)*u)*(y + u)=y*y + (n + 1 + 1)*(y*u) + (n + 1)*(u*u):=by
      rw [Nat.add_mul,Nat.mul_add,Nat.mul_add,Nat.add_mul (n + 1) 1 (y*u),Nat.one_mul,Nat.mul_assoc,Nat.mul_assoc,Nat.mul_comm u y];omega
    have e2:y*(y + (n + 1 + 1)*u)=y*y + (n + 1 + 1)*(y*u):=by
      rw [Nat.mul_add,Nat.mul_left_comm]
    omega
theorem AG {k x y u:Nat} (hk:1≤k) (hky:k*y≤x) (hu:u≤y) (hx:u + y≤x):(1 + 7*k)*y^6*u≤x^7:=by
  by_cases h1:k=1
  · subst h1
    have h2:y^6*(y + (6 + 1)*u)≤(y + u)^7:=Ak y u 6;have h3:(y + u)^7≤x^7:=Nat.pow_le_pow_left (by omega) 7;have h4:(1 + 7*1)*y^6*u=y^6*(u + 7*u):=by rw [Nat.mul_assoc,Nat.mul_left_comm];congr 1;omega
    have h5:y^6*(u + 7*u)≤y^6*(y + (6 + 1)*u):=Nat.mul_le_mul_left _ (by omega);omega
  · have h2:(1 + 7*k)*y^6*u≤(1 + 7*k)*y^6*y:=Nat.mul_le_mul_left _ hu
    have h3:(k*y)^7≤x^7:=Nat.pow_le_pow_left hky 7;rw [Nat.mul_pow] at h3;have h4:1 + 7*k≤k^7:=by
      have h5:2^6≤k^6:=Nat.pow_le_pow_left (by omega) 6;have h6:2^6*k≤k^6*k:=Nat.mul_le_mul_right _ h5;have h7:k^7=k^6*k:=Nat.pow_succ k 6;have h8:(2:Nat)^6=64:=by decide
      omega
    have h5:(1 + 7*k)*y^7≤k^7*y^7:=Nat.mul_le_mul_right _ h4;have h6:(1 + 7*k)*y^6*y=(1 + 7*k)*y^7:=by rw [Nat.mul_assoc,←Nat.pow_succ]
    omega
theorem mH {x y:Int} (hy:0<y):(-(x/y)).natAbs≤x.natAbs:=by
  rw [Int.natAbs_neg];have h1:=Int.ediv_mul_le x (show y≠0 by omega);have h2:=Int.lt_ediv_add_one_mul_self x hy
  by_cases h:0≤x
  · have h3:0≤x/y:=Int.ediv_nonneg h (by omega)
    have h4:x/y*1≤x/y*y:=Int.mul_le_mul_of_nonneg_left (by omega) h3;omega
  · have h3:x/y<0:=Int.ediv_neg_of_neg_of_pos (by omega) hy
    by_cases h5:x/y<x
    · have h6:(x/y + 1)*y≤(x/y + 1)*1:=by
        have h7:x/y + 1≤0:=by omega
        have:=Int.mul_le_mul_of_nonpos_left (a:=x/y + 1) (b:=y) (c:=1) h7 (by omega);exact this
      omega
    · omega
theorem qf {x:Nat→Int} {top:Nat}:∀{n:Nat},(bp x top n).2=true→∃i j,i≠j∧top≤i∧i<top + n∧top≤j∧j<top + n∧x i≠0∧x j≠0
  | 0,h=>by simp [bp] at h
  | n + 1,h=>by
    by_cases hz:x (top + n)=0
    · rw [qe hz] at h
      obtain ⟨i,j,h1,h2,h3,h4,h5,h6⟩:=qf h;exact ⟨i,j,h1,h2,by omega,h4,by omega,h6⟩
    · have hb:0≤(bp x top n).1:=by
        by_cases hc:(bp x top n).1<0∨(x (top + n)).natAbs<(x (bp x top n).1.toNat).natAbs
        · rw [qg hz hc] at h;simpa using h
        · rw [qh hz hc] at h;simpa using h
      obtain ⟨h1,h2,h3,_⟩:=eD hb;exact ⟨_,top + n,by omega,h1,by omega,by omega,by omega,h3,hz⟩
end Go.TL
namespace Go.TL
set_option linter.unusedVariables false
def lW (r top q:Nat) (M:Nat→Nat→Int):Prop:=∃P:Nat→Nat,(∀i,i<top→P i<q∧0<M i (P i)∧(∀j,j<P i→M i j=0)∧∀k,k<i→P k<P i∧0≤M k (P i)∧M k (P i)<M i (P i))∧
  ∀a,top≤a→a<r→∀j,j<q→M a j=0
def eB (e0:Nat):Nat→Nat
  | 0=>e0
  | t + 1=>6*eB e0 t + 2
def gB (e0:Nat):Nat→Nat
  | 0=>0
  | t + 1=>gB e0 t + 10*eB e0 t + 6
structure FI (r c e0:Nat) (M0:Nat→Nat→Int) (top q:Nat) (S:WS):Prop where
  lin:Lin r c M0 S
  ech:lW r top q S.M
  bm:∀i j,i<r→j<c→(S.M i j).natAbs≤2^eB e0 top
  bu:∀i j,i<r→j<r→(S.U i j).natAbs≤2^eB e0 top
  bv:∀i j,i<r→j<r→(S.V i j).natAbs≤2^gB e0 top
structure JI (r c e0:Nat) (M0:Nat→Nat→Int) (top q m:Nat) (S:WS):Prop where
  lin:Lin r c M0 S
  ech:lW r top q S.M
  above:∀i,i<top→(S.M i q).natAbs≤2^eB e0 top
  run:∃a b u:Nat,(∀i j,i<r→j<c→(S.M i j).natAbs≤2^eB e0 top*a)∧(∀i j,i<r→j<r→(S.U i j).natAbs≤2^eB e0 top*a)∧(∀i j,i<r→j<r→(S.V i j).natAbs≤2^gB e0 top*b)∧
    ((a=1∧b=1∧m=2^eB e0 top + 2∧∀i,top≤i→i<r→(S.M i q).natAbs≤2^eB e0 top)∨
     (0<m∧S.M top q=(m:Int)∧m≤2^eB e0 top∧(∀i,top<i→i<r→0≤S.M i q∧S.M i q<(m:Int)∧S.M i q≤(u:Int))∧1≤u∧
      a*(m*m)*u≤(1 + 2^eB e0 top)*(2^eB e0 top)^3∧b*m^7*u≤(1 + 7*2^eB e0 top)*(2^eB e0 top)^8))
section
variable {r c e0:Nat} {M0:Nat→Nat→Int} {top q m:Nat} {S:WS}
theorem jH (e0:Nat):∀{s t:Nat},s≤t→eB e0 s≤eB e0 t
  | s,0,h=>by rw [show s=0 by omega];exact Nat.le_refl _
  | s,t + 1,h=>by
    by_cases e:s=t + 1
    · rw [e];exact Nat.le_refl _
    · have:=jH e0 (s:=s) (t:=t) (by omega);simp only [eB];omega
theorem qo (e0:Nat):∀{s t:Nat},s≤t→gB e0 s≤gB e0 t
  | s,0,h=>by rw [show s=0 by omega];exact Nat.le_refl _
  | s,t + 1,h=>by
    by_cases e:s=t + 1
    · rw [e];exact Nat.le_refl _
    · have:=qo e0 (s:=s) (t:=t) (by omega);simp only [gB];omega
theorem pX (e:Nat):2^e*((1 + 2^e)*(2^e)^3)*(1 + 2^e)≤2^(6*e + 2):=by
  have h0:0<2^e:=Nat.two_pow_pos e;have h1:1 + 2^e≤2*2^e:=by omega
  have h2:2^(6*e + 2)=2^e*(2*2^e*(2^e)^3)*(2*2^e):=by
    have:2^(6*e + 2)=(2^e)^6*4:=by rw [Nat.pow_add,Nat.mul_comm 6 e,Nat.pow_mul]
    rw [this]
    generalize 2^e=x
    simp only [Nat.pow_succ,Nat.pow_zero,Nat.one_mul];rw [show (4:Nat)=2*2 by decide]
    ac_rfl
  rw [h2];exact Nat.mul_le_mul (Nat.mul_le_mul_left _ (Nat.mul_le_mul_right _ h1)) h1
theorem xg (g e:Nat):2^g*((1 + 7*2^e)*(2^e)^8)*(1 + 7*2^e)≤2^(g + 10*e + 6):=by
  have h0:0<2^e:=Nat.two_pow_pos e;have h1:1 + 7*2^e≤8*2^e:=by omega
  have h2:2^(g + 10*e + 6)=2^g*(8*2^e*(2^e)^8)*(8*2^e):=by
    have:2^(g + 10*e + 6)=2^g*(2^e)^10*64:=by rw [Nat.pow_add,Nat.pow_add,Nat.mul_comm 10 e,Nat.pow_mul]
    rw [this]
    generalize 2^e=x
    simp only [Nat.pow_succ,Nat.pow_zero,Nat.one_mul];rw [show (64:Nat)=8*8 by decide]
    ac_rfl
  rw [h2];exact Nat.mul_le_mul (Nat.mul_le_mul_left _ (Nat.mul_le_mul_right _ h1)) h1
theorem FI.start (hM:∀i j,i<r→j<c→(M0 i j).natAbs≤2^e0):FI r c e0 M0 0 0 ⟨M0,ct,ct⟩:=by
  have hid:∀(e i j:Nat),(ct i j).natAbs≤2^e:=fun e i j=>by
    have:=Nat.two_pow_pos e
    unfold ct;split<;>simp<;>omega
  exact ⟨Lin.start M0,⟨fun _=>0,fun i hi=>by omega,fun a _ _ j hj=>by omega⟩,hM,fun i j _ _=>hid _ i j,fun i j _ _=>hid _ i j⟩
theorem JI.of (h:FI r c e0 M0 top q S) (ht:top<r) (hq:q<c):JI r c e0 M0 top q (2^eB e0 top + 2) S:=
  ⟨h.lin,h.ech,fun i hi=>h.bm i q (by omega) hq,1,1,0,fun i j hi hj=>by rw [Nat.mul_one];exact h.bm i j hi hj,fun i j hi hj=>by rw [Nat.mul_one];exact h.bu i j hi hj,fun i j hi hj=>by rw [Nat.mul_one];exact h.bv i j hi hj,.inl ⟨rfl,rfl,rfl,fun i _ hi=>h.bm i q hi hq⟩⟩
theorem lW.sn (h:lW r top q S.M) {p:Nat} (hp:p<r) (hpt:top≤p) (ht:top<r):lW r top q (TL.sn S p top q).M:=by
  obtain ⟨P,h1,h2⟩:=h;have hlow:∀i,i<top→∀j,(TL.sn S p top q).M i j=S.M i j:=fun i hi j=>by
    rw [(rd S p top q i j).1 (by omega),if_neg (by omega)]
  refine ⟨P,fun i hi=> ?_,fun a ha har j hj=> ?_⟩
  · obtain ⟨g1,g2,g3,g4⟩:=h1 i hi
    refine ⟨g1,by rw [hlow i hi];exact g2,fun j hj=>by rw [hlow i hi];exact g3 j hj,fun k hk=> ?_⟩;rw [hlow i hi,hlow k (by omega)];exact g4 k hk
  · by_cases e:a=top
    · subst e
      have:=(rd S p a q a j).2;rw [h2 p hpt hp j hj] at this;omega
    · rw [(rd S p top q a j).1 e];split
      · exact h2 top (Nat.le_refl _) ht j hj
      · exact h2 a ha har j hj
theorem lW.el (h:lW r top q S.M) (ht:top<r) {n:Nat}:lW r top q (TL.el S top q n).M:=by
  obtain ⟨P,h1,h2⟩:=h;have hlow:∀i,i<top→∀j,(TL.el S top q n).M i j=S.M i j:=fun i hi j=>by rw [mI,if_neg (by omega)]
  refine ⟨P,fun i hi=> ?_,fun a ha har j hj=> ?_⟩
  · obtain ⟨g1,g2,g3,g4⟩:=h1 i hi
    refine ⟨g1,by rw [hlow i hi];exact g2,fun j hj=>by rw [hlow i hi];exact g3 j hj,fun k hk=> ?_⟩;rw [hlow i hi,hlow k (by omega)];exact g4 k hk
  · rw [mI,h2 a ha har j hj,h2 top (Nat.le_refl _) ht j hj];simp
theorem lead (hp:0≤(bp (fun a=>S.M a q) top (r - top)).1) (ht:top<r):top≤(bp (fun a=>S.M a q) top (r - top)).1.toNat∧(bp (fun a=>S.M a q) top (r - top)).1.toNat<r∧S.M (bp (fun a=>S.M a q) top (r - top)).1.toNat q≠0∧
    (∀i,top≤i→i<r→S.M i q≠0→(S.M (bp (fun a=>S.M a q) top (r - top)).1.toNat q).natAbs≤(S.M i q).natAbs)∧((bp (fun a=>S.M a q) top (r - top)).2=false→∀i,top≤i→i<r→i≠(bp (fun a=>S.M a q) top (r - top)).1.toNat→S.M i q=0):=by
  obtain ⟨h1,h2,h3,h4,h5⟩:=eD (x:=fun a=>S.M a q) (top:=top) (n:=r - top) hp;exact ⟨h1,by omega,h3,fun i hi hr hz=>h4 i hi (by omega) hz,fun ho i hi hr hne=>h5 ho i hi (by omega) hne⟩
theorem JI.round (h:JI r c e0 M0 top q m S) (ht:top<r) (hq:q<c) (h8:r≤8) (hp:0≤(bp (fun a=>S.M a q) top (r - top)).1) (ho:(bp (fun a=>S.M a q) top (r - top)).2=true):
    ∃m2,m2<m∧JI r c e0 M0 top q m2 (el (sn S (bp (fun a=>S.M a q) top (r - top)).1.toNat top q) top q (r - top - 1))∧
      ∀n,top + 1 + n<r→(∀i j,i<r→j<c→((el (sn S (bp (fun a=>S.M a q) top (r - top)).1.toNat top q) top q (n + 1)).M i j).natAbs≤2^eB e0 (top + 1))∧
        (∀i j,i<r→j<r→((el (sn S (bp (fun a=>S.M a q) top (r - top)).1.toNat top q) top q (n + 1)).U i j).natAbs≤2^eB e0 (top + 1))∧
        ∀i j,i<r→j<r→((el (sn S (bp (fun a=>S.M a q) top (r - top)).1.toNat top q) top q (n + 1)).V i j).natAbs≤2^gB e0 (top + 1):=by
  obtain ⟨hl1,hl2,hl3,hl4,_⟩:=lead hp ht;obtain ⟨i1,i2,hi12,hi1,hi1r,hi2,hi2r,hz1,hz2⟩:=qf (x:=fun a=>S.M a q) (top:=top) (n:=r - top) ho
  generalize hpe:(bp (fun a=>S.M a q) top (r - top)).1.toNat=p at*
  have hE0:0<2^eB e0 top:=Nat.two_pow_pos _;obtain ⟨a,b,u,hM,hU,hV,hc⟩:=h.run;have htop:=jV S p top q;obtain ⟨hM2,hU2,hV2⟩:=sM (q:=q) hl2 ht hM hU hV;have hlin:=h.lin.sn q hl2 ht;have hech:=h.ech.sn (q:=q) hl2 hl1 ht;have hcol:∀i,i≠top→(sn S p top q).M i q=if i=p then S.M top q else S.M i q:=fun i hi=>(rd S p top q i q).1 hi
  have hab:∀i,i<top→((sn S p top q).M i q).natAbs≤2^eB e0 top:=fun i hi=>by rw [hcol i (by omega),if_neg (by omega)];exact h.above i hi
  generalize sn S p top q=S2 at*
  generalize hy:(S.M p q).natAbs=y at*
  have hy0:0<y:=by omega
  have key:∃K a' b' u':Nat,(∀i,top<i→i<r→(kq S2 top q i).natAbs≤K)∧y<m∧y≤2^eB e0 top∧(∀i,top<i→i<r→S2.M i q % (y:Int)≤(u':Int))∧1≤u'∧a'=a*(1 + K)∧b'=b*(1 + 7*K)∧
      a'*(y*y)*u'≤(1 + 2^eB e0 top)*(2^eB e0 top)^3∧b'*y^7*u'≤(1 + 7*2^eB e0 top)*(2^eB e0 top)^8:=by
    rcases hc with ⟨ha1,hb1,hm,hcE⟩ | ⟨hm0,hmt,hmE,hoth,hu1,hpa,hpb⟩
    · have hyE:y≤2^eB e0 top:=by rw [←hy];exact hcE p hl1 hl2
      refine ⟨2^eB e0 top,_,_,y,fun i hi hir=> ?_,by omega,hyE,fun i hi hir=> ?_,by omega,rfl,rfl,?_,?_⟩
      · unfold kq
        rw [htop];refine Nat.le_trans (mH (by omega)) ?_;rw [hcol i (by omega)];split
        · exact hcE top (Nat.le_refl _) ht
        · exact hcE i (by omega) hir
      · have:=Int.emod_lt_of_pos (S2.M i q) (show (0:Int)<y by omega);omega
      · subst ha1
        rw [Nat.one_mul,Nat.mul_assoc];refine Nat.mul_le_mul_left _ ?_;have:y*y*y≤2^eB e0 top*2^eB e0 top*2^eB e0 top:=Nat.mul_le_mul (Nat.mul_le_mul hyE hyE) hyE;simp only [Nat.pow_succ,Nat.pow_zero,Nat.one_mul];exact this
      · subst hb1
        rw [Nat.one_mul,Nat.mul_assoc];refine Nat.mul_le_mul_left _ ?_;rw [←Nat.pow_succ];exact Nat.pow_le_pow_left hyE 8
    ·
      have hex:∃i,top<i∧i<r∧S.M i q≠0:=by
        by_cases e:i1=top
        · exact ⟨i2,by omega,by omega,hz2⟩
        · exact ⟨i1,by omega,by omega,hz1⟩
      obtain ⟨i,hi,hir,hiz⟩:=hex;have hio:=hoth i hi hir;have hyi:y≤(S.M i q).natAbs:=hl4 i (by omega) hir hiz;have hym:y<m:=by omega
      have hyu:y≤u:=by omega
      have hpt:p≠top:=by intro e;subst e;omega
      have hrange:∀i,top<i→i<r→0≤S2.M i q∧S2.M i q≤(m:Int)∧(S2.M i q≠0→(y:Int)≤S2.M i q):=fun i hi hir=>by
        rw [hcol i (by omega)];split
        · exact ⟨by omega,by omega,fun _=>by omega⟩
        · have h1:=hoth i hi hir
          exact ⟨h1.1,by omega,fun hz=>by have:=hl4 i (by omega) hir hz;omega⟩
      have hk1:1≤m/y:=Nat.div_pos (by omega) hy0;have hky:m/y*y≤m:=Nat.div_mul_le_self _ _;refine ⟨m/y,_,_,min y (m - y),fun i hi hir=> ?_,hym,by omega,fun i hi hir=> ?_,by omega,rfl,rfl,?_,?_⟩
      · obtain ⟨g1,g2,_⟩:=hrange i hi hir
        unfold kq
        rw [htop,Int.natAbs_neg];have e1:S2.M i q=((S2.M i q).toNat:Int):=by omega
        rw [e1,←Int.natCast_ediv,Int.natAbs_natCast];exact Nat.div_le_div_right (by omega)
      · obtain ⟨g1,g2,g3⟩:=hrange i hi hir
        have h1:=Int.emod_lt_of_pos (S2.M i q) (show (0:Int)<y by omega)
        by_cases hz:S2.M i q=0
        · rw [hz,Int.zero_emod];omega
        · have h2:=g3 hz
          have h3:S2.M i q % (y:Int)≤S2.M i q - y:=by
            have h4:=Int.mul_ediv_add_emod (S2.M i q) (y:Int);have h5:1≤S2.M i q/(y:Int):=by
              rw [Int.le_ediv_iff_mul_le (by omega)];omega
            have h6:(y:Int)*1≤(y:Int)*(S2.M i q/(y:Int)):=Int.mul_le_mul_of_nonneg_left h5 (by omega);omega
          omega
      · have h1:=AH hk1 hky (Nat.min_le_left y (m - y)) (by have:=Nat.min_le_right y (m - y);omega)
        have h2:a*(1 + m/y)*(y*y)*min y (m - y)=a*((1 + m/y)*y*min y (m - y))*y:=by ac_rfl
        rw [h2];refine Nat.le_trans ?_ hpa;exact Nat.mul_le_mul (Nat.mul_le_mul_left _ h1) hyu
      · have h1:=AG hk1 hky (Nat.min_le_left y (m - y)) (by have:=Nat.min_le_right y (m - y);omega)
        have h2:b*(1 + 7*(m/y))*y^7*min y (m - y)=b*((1 + 7*(m/y))*y^6*min y (m - y))*y:=by
          rw [Nat.pow_succ y 6];ac_rfl
        rw [h2];refine Nat.le_trans ?_ hpb;exact Nat.mul_le_mul (Nat.mul_le_mul_left _ h1) hyu
  obtain ⟨K,a',b',u',hK,hym,hyE,hres,hu',ha',hb',hpa,hpb⟩:=key;have hbd:=fun n (hn:top + n<r)=>Ac (n:=n) ht hn (by omega) hK hM2 hU2 hV2
  have ha1:a'≤(1 + 2^eB e0 top)*(2^eB e0 top)^3:=by
    refine Nat.le_trans ?_ hpa;rw [Nat.mul_assoc];exact Nat.le_mul_of_pos_right _ (Nat.mul_pos (Nat.mul_pos hy0 hy0) hu')
  have hb1:b'≤(1 + 7*2^eB e0 top)*(2^eB e0 top)^8:=by
    refine Nat.le_trans ?_ hpb;rw [Nat.mul_assoc];exact Nat.le_mul_of_pos_right _ (Nat.mul_pos (Nat.pow_pos hy0) hu')
  have hmul:∀E:Nat,E*a*(1 + K)=E*a':=fun E=>by rw [ha',Nat.mul_assoc]
  have hmulb:∀E:Nat,E*b*(1 + 7*K)=E*b':=fun E=>by rw [hb',Nat.mul_assoc]
  have hone:∀x:Nat,x≤x*(1 + 2^eB e0 top):=fun x=>Nat.le_mul_of_pos_right _ (by omega)
  have honeg:∀x:Nat,x≤x*(1 + 7*2^eB e0 top):=fun x=>Nat.le_mul_of_pos_right _ (by omega)
  refine ⟨y,hym,⟨hlin.el q ht _ (by omega),hech.el ht,fun i hi=>by rw [mI,if_neg (by omega)];exact hab i hi,a',b',u',?_,?_,?_,.inr ⟨hy0,by rw [mI,if_neg (by omega)];exact htop,hyE,fun i hi hir=> ?_,hu',hpa,hpb⟩⟩,fun n hn=>⟨?_,?_,?_⟩⟩
  · intro i j hi hj;rw [←hmul];exact (hbd _ (by omega)).1 i j hi hj
  · intro i j hi hj;rw [←hmul];exact (hbd _ (by omega)).2.1 i j hi hj
  · intro i j hi hj;rw [←hmulb];exact (hbd _ (by omega)).2.2 i j hi hj
  · have e1:(el S2 top q (r - top - 1)).M i q=S2.M i q % (y:Int):=by
      rw [mI,if_pos (by omega)]
      unfold kq
      rw [htop];have:=Int.mul_ediv_add_emod (S2.M i q) (y:Int);rw [Int.neg_mul,Int.mul_comm (S2.M i q/(y:Int))];omega
    rw [e1];exact ⟨Int.emod_nonneg _ (by omega),Int.emod_lt_of_pos _ (by omega),hres i hi hir⟩
  · intro i j hi hj
    refine Nat.le_trans ((hbd (n + 1) (by omega)).1 i j hi hj) ?_;rw [hmul];refine Nat.le_trans (Nat.mul_le_mul_left _ ha1) (Nat.le_trans (hone _) ?_);exact pX (eB e0 top)
  · intro i j hi hj
    refine Nat.le_trans ((hbd (n + 1) (by omega)).2.1 i j hi hj) ?_;rw [hmul];refine Nat.le_trans (Nat.mul_le_mul_left _ ha1) (Nat.le_trans (hone _) ?_);exact pX (eB e0 top)
  · intro i j hi hj
    refine Nat.le_trans ((hbd (n + 1) (by omega)).2.2 i j hi hj) ?_;rw [hmulb];refine Nat.le_trans (Nat.mul_le_mul_left _ hb1) (Nat.le_trans (honeg _) ?_);exact xg (gB e0 top) (eB e0 top)
theorem JI.none (h:JI r c e0 M0 top q m S) (ht:top<r) (hn:(bp (fun a=>S.M a q) top (r - top)).1<0):FI r c e0 M0 top (q + 1) S:=by
  have hz:=(iq (x:=fun a=>S.M a q) hn).2;obtain ⟨a,b,u,hM,hU,hV,hc⟩:=h.run;rcases hc with ⟨ha1,hb1,_,_⟩ | ⟨hm0,hmt,_⟩
  · subst ha1;subst hb1
    simp only [Nat.mul_one] at hM hU hV;refine ⟨h.lin,?_,hM,hU,hV⟩;obtain ⟨P,h1,h2⟩:=h.ech;refine ⟨P,fun i hi=> ?_,fun a ha har j hj=> ?_⟩
    · obtain ⟨g1,g2⟩:=h1 i hi;exact ⟨by omega,g2⟩
    · by_cases e:j=q
      · subst e;exact hz a ha (by omega)
      · exact h2 a ha har j (by omega)
  · have:S.M top q=0:=hz top (Nat.le_refl _) (by omega)
    omega
theorem JI.pivot (h:JI r c e0 M0 top q m S) (ht:top<r) (hq:q<c) (h8:r≤8) (hp:0≤(bp (fun a=>S.M a q) top (r - top)).1) (ho:(bp (fun a=>S.M a q) top (r - top)).2=false):
    (∀n,n≤top→(∀i j,i<r→j<c→((ra (sn S (bp (fun a=>S.M a q) top (r - top)).1.toNat top q) top q n).M i j).natAbs≤2^eB e0 (top + 1))∧
        (∀i j,i<r→j<r→((ra (sn S (bp (fun a=>S.M a q) top (r - top)).1.toNat top q) top q n).U i j).natAbs≤2^eB e0 (top + 1))∧
        ∀i j,i<r→j<r→((ra (sn S (bp (fun a=>S.M a q) top (r - top)).1.toNat top q) top q n).V i j).natAbs≤2^gB e0 (top + 1))∧
      FI r c e0 M0 (top + 1) (q + 1) (ra (sn S (bp (fun a=>S.M a q) top (r - top)).1.toNat top q) top q top):=by
  obtain ⟨hl1,hl2,hl3,hl4,hl5⟩:=lead hp ht;replace hl5:=hl5 ho
  generalize hpe:(bp (fun a=>S.M a q) top (r - top)).1.toNat=p at*
  have hE0:0<2^eB e0 top:=Nat.two_pow_pos _;obtain ⟨a,b,u,hM,hU,hV,hc⟩:=h.run;have hab1:a≤(1 + 2^eB e0 top)*(2^eB e0 top)^3∧b≤(1 + 7*2^eB e0 top)*(2^eB e0 top)^8:=by
    rcases hc with ⟨ha1,hb1,_⟩ | ⟨hm0,_,_,_,hu1,hpa,hpb⟩
    · subst ha1;subst hb1
      exact ⟨Nat.mul_pos (by omega) (Nat.pow_pos hE0),Nat.mul_pos (by omega) (Nat.pow_pos hE0)⟩
    · refine ⟨Nat.le_trans ?_ hpa,Nat.le_trans ?_ hpb⟩
      · rw [Nat.mul_assoc];exact Nat.le_mul_of_pos_right _ (Nat.mul_pos (Nat.mul_pos hm0 hm0) hu1)
      · rw [Nat.mul_assoc];exact Nat.le_mul_of_pos_right _ (Nat.mul_pos (Nat.pow_pos hm0) hu1)
  have htop:=jV S p top q;obtain ⟨hM2,hU2,hV2⟩:=sM (q:=q) hl2 ht hM hU hV;have hlin:=h.lin.sn q hl2 ht;have hech:=h.ech.sn (q:=q) hl2 hl1 ht;have hcol:∀i,i≠top→(sn S p top q).M i q=if i=p then S.M top q else S.M i q:=fun i hi=>(rd S p top q i q).1 hi
  have hab:∀i,i<top→((sn S p top q).M i q).natAbs≤2^eB e0 top:=fun i hi=>by rw [hcol i (by omega),if_neg (by omega)];exact h.above i hi
  have hbelow:∀i,top<i→i<r→(sn S p top q).M i q=0:=fun i hi hir=>by
    rw [hcol i (by omega)];split
    · rename_i e;subst e;exact hl5 top (Nat.le_refl _) ht (by omega)
    · rename_i e;exact hl5 i (by omega) hir e
  generalize sn S p top q=S2 at*
  generalize hy:(S.M p q).natAbs=y at*
  have hy0:0<y:=by omega
  have hK:∀i,i<top→(kq S2 top q i).natAbs≤2^eB e0 top:=fun i hi=>by
    unfold kq;rw [htop]
    exact Nat.le_trans (mH (by omega)) (hab i hi)
  have hbd:=fun n (hn:n≤top)=>xc (n:=n) ht hn (by omega) hK hM2 hU2 hV2
  have hfin:∀n,n≤top→(∀i j,i<r→j<c→((ra S2 top q n).M i j).natAbs≤2^eB e0 (top + 1))∧(∀i j,i<r→j<r→((ra S2 top q n).U i j).natAbs≤2^eB e0 (top + 1))∧
      ∀i j,i<r→j<r→((ra S2 top q n).V i j).natAbs≤2^gB e0 (top + 1):=fun n hn=>by
    refine ⟨fun i j hi hj=> ?_,fun i j hi hj=> ?_,fun i j hi hj=> ?_⟩
    · exact Nat.le_trans ((hbd n hn).1 i j hi hj) (Nat.le_trans (Nat.mul_le_mul_right _ (Nat.mul_le_mul_left _ hab1.1)) (pX _))
    · exact Nat.le_trans ((hbd n hn).2.1 i j hi hj) (Nat.le_trans (Nat.mul_le_mul_right _ (Nat.mul_le_mul_left _ hab1.1)) (pX _))
    · exact Nat.le_trans ((hbd n hn).2.2 i j hi hj) (Nat.le_trans (Nat.mul_le_mul_right _ (Nat.mul_le_mul_left _ hab1.2)) (xg _ _))
  refine ⟨hfin,hlin.ra q ht top (Nat.le_refl _),?_,(hfin top (Nat.le_refl _)).1,(hfin top (Nat.le_refl _)).2.1,(hfin top (Nat.le_refl _)).2.2⟩;obtain ⟨P,h1,h2⟩:=hech;have hrow:∀i,i<top→∀j,j<q→(ra S2 top q top).M i j=S2.M i j:=fun i hi j hj=>by
    rw [kW _ _ _ _ _ _ (Nat.le_refl _),if_pos hi,h2 top (Nat.le_refl _) ht j hj,Int.mul_zero,Int.add_zero]
  have hrest:∀i,top≤i→∀j,(ra S2 top q top).M i j=S2.M i j:=fun i hi j=>by rw [kW _ _ _ _ _ _ (Nat.le_refl _),if_neg (by omega)]
  refine ⟨ci P top q,fun i hi=> ?_,fun a ha har j hj=> ?_⟩
  · by_cases e:i=top
    · subst e
      rw [aW];refine ⟨by omega,by rw [hrest i (Nat.le_refl _),htop];omega,fun j hj=>by rw [hrest i (Nat.le_refl _)];exact h2 i (Nat.le_refl _) ht j hj,fun k hk=> ?_⟩;rw [aT _ _ _ _ (by omega),hrest i (Nat.le_refl _),htop,kW _ _ _ _ _ _ (Nat.le_refl _),if_pos hk]
      unfold kq
      rw [htop];have e1:S2.M k q + -(S2.M k q/(y:Int))*(y:Int)=S2.M k q % (y:Int):=by
        have:=Int.mul_ediv_add_emod (S2.M k q) (y:Int);rw [Int.neg_mul,Int.mul_comm (S2.M k q/(y:Int))];omega
      rw [e1];exact ⟨(h1 k hk).1,Int.emod_nonneg _ (by omega),Int.emod_lt_of_pos _ (by omega)⟩
    · rw [aT _ _ _ _ e]
      obtain ⟨g1,g2,g3,g4⟩:=h1 i (by omega);refine ⟨by omega,by rw [hrow i (by omega) _ g1];exact g2,fun j hj=>by rw [hrow i (by omega) _ (by omega)];exact g3 j hj,fun k hk=> ?_⟩;rw [aT _ _ _ _ (by omega),hrow k (by omega) _ g1,hrow i (by omega) _ g1];exact g4 k hk
  · rw [hrest a (by omega)]
    by_cases e:j=q
    · subst e;exact hbelow a (by omega) har
    · exact h2 a (by omega) har j (by omega)
end
end Go.TL
namespace Go.TL
open Go.RowKit Go.Proofs
set_option linter.unusedVariables false
def bB (e0 r:Nat):Nat:=eB e0 r + gB e0 r + 2
theorem mb {z:Int} {e b:Nat} (h:z.natAbs≤2^e) (hb:e<b):z.natAbs<2^b:=Nat.lt_of_le_of_lt h (Nat.pow_lt_pow_right (by omega) hb)
structure Herm (r c e0:Nat) (M0:Nat→Nat→Int) (k:Nat) (S:WS):Prop where
  lin:Lin r c M0 S
  kr:k≤r
  kc:k≤c
  ech:lW r k c S.M
  bm:∀i j,i<r→j<c→(S.M i j).natAbs≤2^eB e0 k
  bu:∀i j,i<r→j<r→(S.U i j).natAbs≤2^eB e0 k
  bv:∀i j,i<r→j<r→(S.V i j).natAbs≤2^gB e0 k
theorem lW.kc {r k c q:Nat} {M:Nat→Nat→Int} (h:lW r k q M) (hq:q≤c):k≤q:=by
  obtain ⟨P,h1,_⟩:=h;have:∀n,n≤k→∀i,i<n→i≤P i:=by
    intro n
    induction n with
    | zero=>intro _ i hi;omega
    | succ n ih=>
      intro hn i hi
      by_cases e:i=n
      · subst e
        rcases Nat.eq_zero_or_pos i with h0 | h0
        · omega
        · have:=ih (by omega) (i - 1) (by omega)
          have:=((h1 i (by omega)).2.2.2 (i - 1) (by omega)).1;omega
      · exact ih (by omega) i (by omega)
  rcases Nat.eq_zero_or_pos k with h0 | h0
  · omega
  · have:=this k (Nat.le_refl _) (k - 1) (by omega)
    have:=(h1 (k - 1) (by omega)).1;omega
theorem ir (w:World) (x:Value) (r c:Nat) (M:Nat→Nat→Int) (b0 e0 b:Nat) (hx:bX w x r c M b0) (h8:r≤8) (hM:∀i j,i<r→j<c→(M i j).natAbs≤2^e0) (hb:bB e0 r≤b) (hb1:1 + e0≤b) (hl:2*b + 4≤bj):
    Calls Tryz.prog 11 #[x] w (cc w fun v w'=>∃k S,Herm r c e0 M k S∧kU w' v r c S b):=by
  have hfit:∀{top:Nat} {S:WS},top<r→(∀i j,i<r→j<c→(S.M i j).natAbs≤2^eB e0 (top + 1))→(∀i j,i<r→j<r→(S.U i j).natAbs≤2^eB e0 (top + 1))→(∀i j,i<r→j<r→(S.V i j).natAbs≤2^gB e0 (top + 1))→ng r c b S:=by
    intro top S ht h1 h2 h3;have e1:=jH e0 (s:=top + 1) (t:=r) (by omega);have e2:=qo e0 (s:=top + 1) (t:=r) (by omega)
    unfold bB at hb
    exact ⟨fun i j hi hj=>mb (h1 i j hi hj) (by omega),fun i j hi hj=>mb (h2 i j hi hj) (by omega),fun i j hi hj=>mb (h3 i j hi hj) (by omega)⟩
  have e0r:=jH e0 (s:=0) (t:=r) (by omega);have hbb:=hb
  unfold bB at hbb
  simp only [eB] at e0r;have hx0:bX w x r c M (e0 + 1):=hx.more (fun i j hi hj=>mb (hM i j hi hj) (by omega)) (by omega);refine (yo w x r c M (e0 + 1) b (FI r c e0 M) (JI r c e0 M) hx0 (by omega) hl (FI.start hM) (fun top q S ht hq h=>⟨_,JI.of h ht hq⟩) ?_ ?_ ?_ ?_).mono ?_
  · intro top q m S ht hq hJ hp ho n hn
    obtain ⟨_,_,_,h3⟩:=hJ.round ht hq h8 hp ho;obtain ⟨g1,g2,g3⟩:=h3 n hn;exact hfit ht g1 g2 g3
  · intro top q m S ht hq hJ hp ho
    obtain ⟨m2,hm,hJ2,_⟩:=hJ.round ht hq h8 hp ho;exact ⟨m2,hm,hJ2⟩
  · intro top q m S ht hq hJ hp
    exact hJ.none ht hp
  · intro top q m S ht hq hJ hp ho
    obtain ⟨h1,h2⟩:=hJ.pivot ht hq h8 hp ho;exact ⟨fun n hn=>by obtain ⟨g1,g2,g3⟩:=h1 (n + 1) (by omega);exact hfit ht g1 g2 g3,h2⟩
  · rintro e w' ⟨v,rfl,hx',top,q,S,hF,hex,ht,hq,hH⟩
    have hech:lW r top c S.M:=by
      obtain ⟨P,h1,h2⟩:=hF.ech;refine ⟨P,fun i hi=> ?_,fun a ha har j hj=> ?_⟩
      · obtain ⟨g1,g2⟩:=h1 i hi;exact ⟨by omega,g2⟩
      · rcases hex with h | h
        · exact h2 a ha har j (by omega)
        · omega
    exact ⟨v,rfl,hx',top,S,⟨hF.lin,ht,hech.kc (Nat.le_refl _),hech,hF.bm,hF.bu,hF.bv⟩,hH⟩
end Go.TL
namespace Go.TL
set_option linter.unusedVariables false
theorem Herm.some {r c e0 k:Nat} {M0:Nat→Nat→Int} {S:WS} (h:Herm r c e0 M0 k S) {i:Nat} (hi:i<k):0≤piv (S.M i) c:=by
  obtain ⟨P,h1,_⟩:=h.ech;obtain ⟨g1,g2,_⟩:=h1 i hi
  by_cases hn:0≤piv (S.M i) c
  · exact hn
  · have h3:cM gU (S.M i) c= -1:=by have:=(eg (p:=gU) (z:=S.M i) c).2;unfold piv at hn;omega
    have:=em h3 (P i) g1
    unfold gU at this
    omega
theorem Herm.none {r c e0 k:Nat} {M0:Nat→Nat→Int} {S:WS} (h:Herm r c e0 M0 k S) {i:Nat} (hi:k≤i) (hr:i<r):¬0≤piv (S.M i) c:=by
  obtain ⟨P,_,h2⟩:=h.ech
  unfold piv
  rw [ip fun j hj=>by unfold gU;exact fun hne=>hne (h2 i hi hr j hj)];omega
theorem uk (e0 s:Nat):∀t,eB (eB e0 s) t=eB e0 (s + t)
  | 0=>rfl
  | t + 1=>by rw [show s + (t + 1)=s + t + 1 by omega];simp only [eB];rw [uk e0 s t]
end Go.TL
namespace Go.TL
open Go.RowKit Go.Proofs
set_option linter.unusedVariables false
set_option linter.unusedSimpArgs false
set_option maxRecDepth 10000 in
theorem vT (w:World) (x:Value) (rx cx:Nat) (Mx:Nat→Nat→Int) (btx:Nat) (e0 b:Nat) (hx:bX w x rx cx Mx btx) (h8:rx≤8) (hM:∀i j,i<rx→j<cx→(Mx i j).natAbs≤2^e0) (hb:bB e0 rx≤b) (hb1:1 + e0≤b) (hl:2*b + 4≤bj):Calls Tryz.prog 15 #[x] w (cc w fun v w'=>∃k S,Herm rx cx e0 Mx k S∧bX w' v k cx S.M b):=by
 have hLIM:bj=562949953421312:=rfl;have hmatx:=hx;obtain ⟨sx,rfl,hrx,hcx,hSx⟩:=hx.form;refine ai (N:=31) (rs:= #[.cell 2 28]) Tryz.func15 rfl rfl rfl (Nat.le_of_ble_eq_true rfl) ?_;have hX:aA w w:=aA.refl w;refine ab ?_;refine RL.x rfl rfl (cQ.box [.int .i64 ((rx:Nat)),.int .i64 ((cx:Nat)),sx] rfl rfl) ?_;rintro _ w1 ⟨g1,rfl,hge1,hx1,hA1⟩;replace hX:=aA.trans hX hx1;refine RL.x rfl rfl (cQ.alloc [.int .i64 (0),.int .i64 (0),.slice (none) (0) (0)] cn rfl) ?_;rintro _ w2 ⟨g2,rfl,hge2,hx2,hA2⟩;have hbs2:w.heap.size≤g2:=Nat.le_trans hX.size hge2;replace hA1:=aY.ext hA1 hx2;replace hX:=aA.trans hX hx2;refine RL.nil ?_;refine ab ?_;refine RL.p rfl rfl (af [.int .i64 ((rx:Nat)),.int .i64 ((cx:Nat)),sx] aV rfl (hA1.cells 0 _ rfl rfl)) ?_;refine RL.x rfl rfl (cQ.call nA (aL rfl) (ir _ _ rx cx Mx _ e0 b (bX.mk (ce.ext hSx hX) (by omega) (by omega)) h8 hM hb hb1 hl)) ?_;rintro _ w3 ⟨hx3,kf_1,Sf_1,hHf_1,sa_1,sb_1,sc_1,rfl,hdr_1,hdc_1,hSa_1,hSb_1,hSc_1⟩;replace hA2:=aY.ext hA2 hx3;replace hX:=aA.trans hX hx3;refine RL.p rfl rfl (kQ pD aV rfl (by rfl)) ?_;refine RL.x rfl rfl (cQ.alloc [.int .i64 (0),.int .i64 (0),.slice (none) (0) (0)] cn rfl) ?_;rintro _ w4 ⟨g3,rfl,hge3,hx4,hA3⟩;have ne3:g2≠g3:=Nat.ne_of_lt (Nat.lt_of_lt_of_le hA2.lt hge3);have hbs3:w.heap.size≤g3:=Nat.le_trans hX.size hge3;replace hA2:=aY.ext hA2 hx4;replace hSa_1:=ce.ext hSa_1 hx4;replace hX:=aA.trans hX hx4;refine RL.x rfl rfl (cQ.store [.int .i64 ((rx:Nat)),.int .i64 ((cx:Nat)),sa_1] cR rfl rfl rfl hA3 (Nat.le_of_ble_eq_true rfl) (cS rfl rfl (hSa_1.one))) ?_;rintro _ w5 ⟨hk1,hnew⟩;replace hA2:=hA2.keep hk1 ne3;replace hSa_1:=br hSa_1 hk1 hA3 (by decide);replace hX:=hX.step hk1 (fun b e=>by subst e;exact hbs3);replace hA3:=hnew.lit [.int .i64 ((rx:Nat)),.int .i64 ((cx:Nat)),sa_1] rfl;clear hnew;refine RL.nil ?_;have hkr:=hHf_1.kr;refine ab ?_;refine RL.p rfl rfl (cj.assign rfl) ?_;refine RL.nil ?_;refine WP.seq ?_;refine WP.block ?_;refine WP.loop (fun mz ez uz=>∃n:Nat,(mz=kf_1 - n)∧(ez 2= .pointer (some ⟨g2,0,none⟩))∧(ez 3= .pointer (some ⟨g3,0,none⟩))∧(ez 4= .int .i64 ((n:Nat)))∧(n≤kf_1)∧(aA w uz)∧(aY uz g2 28 3 (bU [.int .i64 (0),.int .i64 (0),.slice (none) (0) (0)]))∧(ce uz sa_1 rx cx Sf_1.M b)∧(aY uz g3 28 3 (bU [.int .i64 ((rx:Nat)),.int .i64 ((cx:Nat)),sa_1]))) (kf_1 - 0) ?_ ?_
 · exact ⟨0,rfl,rfl,rfl,rfl,(by omega),hX,hA2,hSa_1,hA3⟩
 rintro m1 e1 w6 ⟨n,hm1,s2_e1,s3_e1,s4_e1,hn,hX1,hA2,hSa_1,hA3⟩;refine WP.seq ?_;refine aF am 13 [_,_,_,_,fun v AW=>v= .bool (decide (((n:Nat):Int)<((rx:Nat):Int))),_,_,_,_,_,_,_,_] rfl rfl (fun e_ w_ AV AU=>⟨fun _=>aa (cj.move ((AU 4 rfl s4_e1))),fun _=>aa (cj.fieldAddr aX ((AU 3 rfl s3_e1))),fun AT=>aa (cj.load bD ((AT 1 rfl)) ((aY.ext hA3 AV).at_ (i:=0) rfl rfl)),fun AT=>aa (cj.lss ((AT 0 rfl)) ((AT 2 rfl))),fun AT=>aa (cj.move ((AT 3 rfl))),fun AT=>gT (AT 4 rfl) fun hg=>aa (cj.fieldAddr aw ((AU 3 rfl s3_e1))),fun AT=>gT (AT 4 rfl) fun hg=>aa (cj.load aU ((AT 5 rfl hg)) ((aY.ext hA3 AV).at_ (i:=2) rfl rfl)),fun AT=>gT (AT 4 rfl) fun hg=>aa (cj.move ((AU 4 rfl s4_e1))),fun AT=>gT (AT 4 rfl) fun hg=>ag (aJ (j:=n) aK (AT 6 rfl hg) (ce.ext hSa_1 AV) (AT 7 rfl hg) (by omega) (by omega)),fun AT=>gT (AT 4 rfl) fun hg=>ag (aI bn rfl (AT 8 rfl hg)),fun AT=>gT (AT 4 rfl) fun hg=>cQ.call pJ (aL rfl) (jG _ _ _ _ _ (AT 9 rfl hg)),fun AT=>gT (AT 4 rfl) fun hg=>aa (cj.geq ((AT 10 rfl hg)) rfl),fun AT=>aa (au (p:=((n:Nat):Int)<((rx:Nat):Int)) (q:=(0:Int)≤(piv (Sf_1.M n) cx:Int)) (AT 4 rfl) (fun hq=>(AT 11 rfl hq))),trivial⟩) ?_;intro e2 w7 hx5 ho1 hf1;replace hA2:=aY.ext hA2 hx5;replace hSa_1:=ce.ext hSa_1 hx5;replace hA3:=aY.ext hA3 hx5;replace hX1:=aA.trans hX1 hx5;have s2_e2:=ho1 2 rfl s2_e1;have s3_e2:=ho1 3 rfl s3_e1;have s4_e2:=ho1 4 rfl s4_e1;have s20_e2:e2 20=_:=hf1 12 rfl;refine RL.nil ?_;refine ae ((((n:Nat):Int)<((rx:Nat):Int))∧((0:Int)≤(piv (Sf_1.M n) cx:Int))) s20_e2 (fun c20=> ?_) (fun c20=> ?_)
 ·
  refine WP.skip ?_;refine pl.norm ?_;refine WP.block ?_;refine WP.region ?_;refine RL.p rfl rfl (cj.move s4_e2) ?_;refine RL.p rfl rfl (cj.add (c:=((n + 1:Nat):Int)) rfl rfl (bT (by omega))) ?_;refine RL.p rfl rfl (cj.assign rfl) ?_;refine RL.nil ?_;refine iD.norm ?_;have hnk:n<kf_1:=by
    rcases Nat.lt_or_ge n kf_1 with h | h
    · exact h
    · exact absurd c20.2 (hHf_1.none h (by omega))
  refine pl.norm ⟨_,(by omega),n + 1,rfl,s2_e2,s3_e2,rfl,(by omega),hX1,hA2,hSa_1,hA3⟩
 ·
  refine WP.exit ?_;refine pl.exit ?_;refine pl.exit ?_;refine iD.same ?_;refine pl.norm ?_;refine aF am 7 [_,_,_,_,_,_,_] rfl rfl (fun e_ w_ AV AU=>⟨fun _=>aa (cj.move ((AU 4 rfl s4_e2))),fun _=>aa (cj.fieldAddr bC ((AU 3 rfl s3_e2))),fun AT=>aa (cj.load bD ((AT 1 rfl)) ((aY.ext hA3 AV).at_ (i:=1) rfl rfl)),fun _=>aa (cj.fieldAddr aw ((AU 3 rfl s3_e2))),fun AT=>aa (cj.load aU ((AT 3 rfl)) ((aY.ext hA3 AV).at_ (i:=2) rfl rfl)),fun _=>aa (cj.move ((AU 4 rfl s4_e2))),fun AT=>ag (gt (j:=n) aK (AT 4 rfl) (ce.ext hSa_1 AV) (AT 5 rfl) (by omega) (by omega)),trivial⟩) ?_;intro e3 w8 hx6 ho2 hf2;replace hA2:=aY.ext hA2 hx6;replace hX1:=aA.trans hX1 hx6;have s2_e3:=ho2 2 rfl s2_e2;have s23_e3:e3 23=_:=hf2 0 rfl;have s25_e3:e3 25=_:=hf2 2 rfl;have s29_e3:ce w8 (e3 29) n cx Sf_1.M b:=hf2 6 rfl;refine RL.p rfl rfl (cj.build (vs:= [(0,.int .i64 ((n:Nat))),(1,.int .i64 ((cx:Nat))),(2,(e3 29))]) [(0,1),(1,1),(2,1)] jR cn (ko s23_e3 s25_e3 rfl) (Aa s29_e3)) ?_;refine RL.x rfl rfl (cQ.store [.int .i64 ((n:Nat)),.int .i64 ((cx:Nat)),(e3 29)] cR s2_e3 rfl rfl hA2 (Nat.le_of_ble_eq_true rfl) (cS rfl rfl (s29_e3.one))) ?_;rintro _ w9 ⟨hk2,hnew⟩;replace s29_e3:=br s29_e3 hk2 hA2 (by decide);replace hX1:=hX1.step hk2 (fun b e=>by subst e;exact hbs2);replace hA2:=hnew.lit [.int .i64 ((n:Nat)),.int .i64 ((cx:Nat)),(e3 29)] rfl;clear hnew;refine RL.nil ?_;refine WP.ret ?_;refine ⟨.agg #[.int .i64 ((n:Nat)),.int .i64 ((cx:Nat)),(e3 29)],Am.one (aj [.int .i64 ((n:Nat)),.int .i64 ((cx:Nat)),(e3 29)] aV s2_e3 (hA2.cells 0 _ rfl rfl)),_,rfl,hX1,?_⟩;dsimp only;have hnk:n=kf_1:=by
    rcases Nat.lt_or_ge n kf_1 with h | h
    · exact absurd ⟨by omega,hHf_1.some h⟩ c20
    · omega
  exact ⟨kf_1,Sf_1,hHf_1,hnk▸(bX.mk s29_e3 (by omega) (by omega))⟩
end Go.TL
namespace Go.TL
open Go.RowKit Go.Proofs
set_option linter.unusedVariables false
def se (M:Nat→Nat→Int):Nat→Nat→Int:=fun i j=>M j i
def fU (r c e0:Nat) (M0:Nat→Nat→Int) (k:Nat) (M:Nat→Nat→Int):Prop:=
  ∃k1 S1 S2,Herm r c e0 M0 k1 S1∧Herm (r - k1) r (eB e0 k1) (fun i=>S1.U (k1 + i)) k S2∧M=S2.M
theorem fU.bd {r c e0 k:Nat} {M0 M:Nat→Nat→Int} (h:fU r c e0 M0 k M) {i j:Nat} (hi:i<k) (hj:j<r):(M i j).natAbs≤2^eB e0 r:=by
  obtain ⟨k1,S1,S2,h1,h2,rfl⟩:=h;have g1:=h2.kr;have g2:=h1.kr;refine Nat.le_trans (h2.bm i j (by omega) hj) (Nat.pow_le_pow_right (by omega) ?_);rw [uk];exact jH e0 (by omega)
theorem fU.kr {r c e0 k:Nat} {M0 M:Nat→Nat→Int} (h:fU r c e0 M0 k M):k≤r:=by
  obtain ⟨k1,S1,S2,h1,h2,rfl⟩:=h;have g1:=h2.kr;omega
def qH (r c e0:Nat) (M0:Nat→Nat→Int) (k:Nat) (M:Nat→Nat→Int):Prop:=∃k1 K1,fU c r e0 (se M0) k1 K1∧fU c k1 (eB e0 c) (se K1) k M
theorem qH.bd {r c e0 k:Nat} {M0 M:Nat→Nat→Int} (h:qH r c e0 M0 k M) {i j:Nat} (hi:i<k) (hj:j<c):(M i j).natAbs≤2^eB (eB e0 c) c:=by
  obtain ⟨k1,K1,h1,h2⟩:=h;exact h2.bd hi hj
end Go.TL
namespace Go.TL
open Go.RowKit Go.Proofs
set_option linter.unusedVariables false
def wI (w:World) (v:Value) (r c e0:Nat) (M0:Nat→Nat→Int) (b:Nat):Prop:=∃k S,Herm r c e0 M0 k S∧bX w v k c S.M b
def wA (w:World) (v:Value) (r c e0:Nat) (M0:Nat→Nat→Int) (b:Nat):Prop:=∃k M,qH r c e0 M0 k M∧bX w v k c M b
def qG (w:World) (v:Value) (r c e0:Nat) (M0:Nat→Nat→Int):Prop:=∃k S k2 M2,Herm r c e0 M0 k S∧qH r c e0 M0 k2 M2∧v= .bool (decide (ao k c k2 c S.M M2))
theorem wI.ext {w w':World} {v:Value} {r c e0 b:Nat} {M0:Nat→Nat→Int} (h:wI w v r c e0 M0 b) (hx:aA w w'):wI w' v r c e0 M0 b:=by obtain ⟨k,S,h1,h2⟩:=h;exact ⟨k,S,h1,h2.ext hx⟩
theorem wA.ext {w w':World} {v:Value} {r c e0 b:Nat} {M0:Nat→Nat→Int} (h:wA w v r c e0 M0 b) (hx:aA w w'):wA w' v r c e0 M0 b:=by obtain ⟨k,S,h1,h2⟩:=h;exact ⟨k,S,h1,h2.ext hx⟩
theorem qG.ext {w w':World} {v:Value} {r c e0:Nat} {M0:Nat→Nat→Int} (h:qG w v r c e0 M0) (hx:aA w w'):qG w' v r c e0 M0:=h
theorem rG (r c e0:Nat) (M0:Nat→Nat→Int) (b:Nat):bq (fun v w=>wI w v r c e0 M0 b):=fun _ _ _ h hx=>h.ext hx
instance (r c e0:Nat) (M0:Nat→Nat→Int) (b:Nat):Nonempty (bq (fun v w=>wI w v r c e0 M0 b)):=⟨rG r c e0 M0 b⟩
theorem ro (r c e0:Nat) (M0:Nat→Nat→Int) (b:Nat):bq (fun v w=>wA w v r c e0 M0 b):=fun _ _ _ h hx=>h.ext hx
instance (r c e0:Nat) (M0:Nat→Nat→Int) (b:Nat):Nonempty (bq (fun v w=>wA w v r c e0 M0 b)):=⟨ro r c e0 M0 b⟩
theorem oT (r c e0:Nat) (M0:Nat→Nat→Int):bq (fun v w=>qG w v r c e0 M0):=fun _ _ _ h _=>h
instance (r c e0:Nat) (M0:Nat→Nat→Int):Nonempty (bq (fun v w=>qG w v r c e0 M0)):=⟨oT r c e0 M0⟩
def qM (w:World) (g r c:Nat) (S:WS) (b:Nat):Prop:=∃s1 s2 s3,aY w g 31 9 (bU [.int .i64 (r:Nat),.int .i64 (c:Nat),s1,.int .i64 (r:Nat),.int .i64 (r:Nat),s2,.int .i64 (r:Nat),.int .i64 (r:Nat),s3])∧
  (r≤65536∧b≤bj)∧c≤65536∧ce w s1 r c S.M b∧ce w s2 r r S.U b∧ce w s3 r r S.V b
end Go.TL
namespace Go.TL
open Go.RowKit Go.Proofs
set_option linter.unusedVariables false
theorem qM.keep {w w':World} {g r c b g2 m:Nat} {f:Nat→Value} {S:WS} (h:qM w g r c S b) (hk:Keeps (fun k=>k=g2) w w') (hA:aY w g2 28 m f):qM w' g r c S b:=by
  obtain ⟨s1,s2,s3,h1,h2,h3,h4,h5,h6⟩:=h;exact ⟨s1,s2,s3,h1.keep hk (h1.ne hA (by decide)),h2,h3,br h4 hk hA (by decide),br h5 hk hA (by decide),br h6 hk hA (by decide)⟩
theorem qM.ext {w w':World} {g r c b:Nat} {S:WS} (h:qM w g r c S b) (hx:aA w w'):qM w' g r c S b:=by
  obtain ⟨s1,s2,s3,h1,h2,h3,h4,h5,h6⟩:=h;exact ⟨s1,s2,s3,h1.ext hx,h2,h3,h4.ext hx,h5.ext hx,h6.ext hx⟩
end Go.TL
namespace Go.TL
open Go.RowKit
set_option linter.unusedVariables false
section
variable {P:Program} {e:cl} {w:World} {d:Option Tmp} {ty:TypeId} {pos:String} {after:Array Edge} {gd:Option (Nat×Bool)}
theorem oo {t bb g1 c1 g gh m dd c b B:Nat} {x y:Operand} {v:Value} {z:Nat→Int} {M:Nat→Nat→Int} {ρ:Nat→Nat} (ht:sliceB P t 41 1 bb=true) (hb:bb≤32) (hz:(P.info? 41).bind (·.zero)=some (.slice none 0 0))
    (hx:ev e x= .slice (some ⟨gh,0,none⟩) dd m) (hy:ev e y= .slice (some ⟨g1,0,none⟩) 1 c1) (hM:cY w B gh m dd c ρ M b) (hT:aY w g1 41 1 (bU [v])) (hS:fg w v g c) (hR:cw w g c z b) (hzz:∀j,j<c→M dd j=z j) (hB:B≤g)
    (hBw:B≤w.heap.size) (hnew:∀i,i<dd→ρ i≠g) (hd:dd<65536):
    cQ P ⟨d,.call {callee:= .builtin .append,args:= #[x,y],argTypes:= #[t,t]},ty,pos,after,gd⟩ e w
      (fun v' w'=>Keeps (fun b=>b=gh) w w'∧∃gh' m',v'= .slice (some ⟨gh',0,none⟩) (dd + 1) m'∧cY w' B gh' m' (dd + 1) c (ci ρ dd g) M b):=by
  have hne:=fun k (hk:k<dd)=>hM.ne hk
  have hnu:=hM.nu;obtain ⟨h1,h2,⟨h3,h3b,f,h6,h7⟩,h4,h5⟩:=hM;have hgne:g≠gh:=by
    obtain ⟨m',f',_,ha',_⟩:=hR;exact ha'.ne h6 (by decide)
  obtain ⟨kk,hvk,_,_⟩:=id hS;refine cQ.mono (ea (n:=dd) (cap:=m) (kk:=1) (h:=fun _=>v) (f:=f) [.slice none 0 0] ht hb hz rfl rfl (by decide) hx hy (by rw [Nat.mul_one];exact h6) h3 h3b.1 (fun i hi=> ?_) (fun i hi=>hS.one) (by omega)) ?_
  · have:i=0:=by omega
    subst this;exact hT.cell (i:=0) (by decide)
  · rintro v' w' ⟨hk,gh',m',f',rfl,g5,g6,g7,g8,g9,g10⟩
    simp only [Nat.mul_one] at g8 g9 g10;refine ⟨hk,gh',m',rfl,?_,h2,⟨g5,⟨g6,by omega⟩,f',g8,fun i hi=> ?_⟩,fun i hi=> ?_,fun i j hi hj e=> ?_⟩
    · rcases g7 with g7 | g7
      · rw [g7.1];exact h1
      · omega
    · by_cases e:i=dd
      · subst e;rw [aW]
        have:=g10 0 (by decide);rw [Nat.add_zero] at this;rw [this];exact hS
      · rw [aT _ _ _ _ e,g9 i (by omega)];exact h7 i (by omega)
    · by_cases e:i=dd
      · subst e;rw [aW];exact ⟨hB,(hR.keep hk hgne hnu).congr fun j hj=>(hzz j hj).symm⟩
      · rw [aT _ _ _ _ e];exact ⟨(h4 i (by omega)).1,(h4 i (by omega)).2.keep hk (fun e2=>hne i (by omega) e2.symm) hnu⟩
    · by_cases e1:i=dd<;>by_cases e2:j=dd
      · omega
      · rw [e1,aW,aT _ _ _ _ e2] at e;exact absurd e.symm (hnew j (by omega))
      · rw [e2,aW,aT _ _ _ _ e1] at e;exact absurd e (hnew i (by omega))
      · rw [aT _ _ _ _ e1,aT _ _ _ _ e2] at e;exact h5 i j (by omega) (by omega) e
def wF (w:World) (v:Value) (B r c:Nat) (M:Nat→Nat→Int) (b:Nat):Prop:=∃gh k ρ,v= .slice (some ⟨gh,0,none⟩) r k∧cY w B gh k r c ρ M b
theorem wF.ext {w w':World} {v:Value} {B r c b:Nat} {M:Nat→Nat→Int} (h:wF w v B r c M b) (hx:aA w w'):wF w' v B r c M b:=by obtain ⟨gh,k,ρ,h1,h2⟩:=h;exact ⟨gh,k,ρ,h1,h2.ext hx⟩
theorem tH (B r c:Nat) (M:Nat→Nat→Int) (b:Nat):bq (fun v w=>wF w v B r c M b):=fun _ _ _ h hx=>h.ext hx
instance (B r c:Nat) (M:Nat→Nat→Int) (b:Nat):Nonempty (bq (fun v w=>wF w v B r c M b)):=⟨tH B r c M b⟩
theorem wF.hdrV {v:Value} {B r c b:Nat} {M:Nat→Nat→Int} (h:wF w v B r c M b):ce w v r c M b:=by obtain ⟨gh,k,ρ,rfl,h2⟩:=h;exact h2.hdrV h2.dlim.1 h2.dlim.2.1
theorem eW {t i ft B r c b:Nat} {x:Operand} {v:Value} {M:Nat→Nat→Int} (hf:iS P t i ft 2=true) (ho:oneB P ft=true) (hx:ev e x=v) (hM:cO w v B r c M b):
    cQ P ⟨d,.field t x i,ty,pos,after,gd⟩ e w (fun v' w'=>w=w'∧wF w' v' B r c M b):=by
  obtain ⟨gh,k',ρ,rfl,hMx⟩:=hM;refine cT (φ:=fun v' w'=>wF w' v' B r c M b) (v:= .slice (some ⟨gh,0,none⟩) r k') ?_ ⟨gh,k',ρ,rfl,hMx⟩
  unfold iS at hf
  split at hf
  · rename_i fs hs
    split at hf
    · rename_i fd hfd
      simp only [Bool.and_eq_true] at hf;have e1:=Nat.eq_of_beq_eq_true hf.1;have e2:=Nat.eq_of_beq_eq_true hf.2;subst e2;have hn:(isAgg fd.type).run P w= .ok false w:=by
        unfold oneB at ho
        cases hu:P.underlying fd.type with
        | none=>rw [hu] at ho;cases ho
        | some dsc=>
          rw [hu] at ho;cases dsc<;>first | (simp at ho;done) | simp [isAgg,run_underlying hu]
      simp only [cj,execOp,hx,Instr.field,Sem.run_bind,run_underlying hs,Result.andThen_ok,hfd,asAgg,Sem.run_pure,part,hn,Bool.false_eq_true,if_false,e1]
      rfl
    · cases hf
  · cases hf
theorem zZ {w0:World} {v:Value} {n b:Nat} {z:Nat→Int} (h:bi w0 v n z b):Instr.fill (fun i=>some (i*1,1)) #[Value.slice none 0 0] [(0,v)]=some #[v]:=by
  obtain ⟨A,k,rfl,_⟩:=h;simp [Instr.fill,Value.cells]
theorem ce.cells1 {v:Value} {n c b:Nat} {M:Nat→Nat→Int} (h:ce w v n c M b):v.cells= [v].toArray:=by obtain ⟨A,k,rfl,_⟩:=h;rfl
theorem bi.cells1 {v:Value} {n b:Nat} {z:Nat→Int} (h:bi w v n z b):v.cells= [v].toArray:=by obtain ⟨A,k,rfl,_⟩:=h;rfl
end
theorem qT (M:Nat→Nat→Int) (i j:Nat) (x y:Int):ee (ee M i j x) i j y=ee M i j y:=by
  funext a c;unfold ee;split<;>rfl
theorem qV (M:Nat→Nat→Int) (i j:Nat) (x:Int):ee M i j x i j=x:=by unfold ee;rw [if_pos ⟨rfl,rfl⟩]
theorem qU (M:Nat→Nat→Int) (i j:Nat):ee M i j (M i j)=M:=by
  funext a c;unfold ee;split
  · rename_i h;rw [h.1,h.2]
  · rfl
theorem iK (F:Nat→Nat→Int):(fun _ _=>0)=cG F 0 0:=by funext a c;rw [oR]
theorem tt (F:Nat→Nat→Int) (i j:Nat):cG F i j i j=0:=by unfold cG;rw [if_neg (by omega)]
def xm (n:Nat):Nat→Nat→Int:=fun a c=>if a<n∧a=c then 1 else 0
theorem wl:(fun _ _=>0)=xm 0:=by funext a c;unfold xm;rw [if_neg (by omega)]
theorem wk (i:Nat):ee (xm i) i i 1=xm (i + 1):=by
  funext a c;unfold ee xm
  by_cases h:a=i∧c=i
  · rw [if_pos h,if_pos (by omega)]
  · rw [if_neg h]
    by_cases h2:a<i∧a=c
    · rw [if_pos h2,if_pos (by omega)]
    · rw [if_neg h2,if_neg (by omega)]
theorem wm {n a:Nat} (c:Nat) (h:a<n):xm n a c=ct a c:=by unfold xm ct;by_cases e:a=c<;>simp [e,h];omega
theorem mul_zero (F:Nat→Nat→Int) (i j:Nat):cG F i j=ee (cG F i j) i j 0:=by
  have:=qU (cG F i j) i j;rw [tt] at this;exact this.symm
theorem wF.up {w:World} {v:Value} {B r c b b':Nat} {M:Nat→Nat→Int} (h:wF w v B r c M b) (hb:b≤b') (hl:b'≤bj):wF w v B r c M b':=by
  obtain ⟨gh,k,ρ,h1,h2⟩:=h;exact ⟨gh,k,ρ,h1,h2.up hb hl⟩
def ed (f:Nat→Int) (n c:Nat):Nat→Nat→Int:=fun i j=>if i*c + j<n then (f (i*c + j)).tmod 10 else 0
def eL (f:Nat→Int) (n c:Nat):Nat→Nat→Int:=fun i j=>if i*c + j<n then f (i*c + j) else 0
theorem sm (x:Int):(x.tmod 10).natAbs<10:=by rw [Int.natAbs_tmod];exact Nat.mod_lt _ (by decide)
theorem oC (x:Int): -9223372036854775808≤x.tmod 10∧x.tmod 10<9223372036854775808:=by have:=sm x;omega
theorem wN (x:Int):(x.tmod 10).natAbs<2^4:=by have:=sm x;omega
theorem nY (f:Nat→Int) (n c i j:Nat):(ed f n c i j).natAbs<2^4:=by
  unfold ed;split
  · exact wN _
  · decide
theorem ui {f:Nat→Int} {n c i j:Nat} (h:i*c + j<n):(f (i*c + j)).tmod 10=ed f n c i j:=by unfold ed;rw [if_pos h]
theorem tV {f:Nat→Int} {n c i j:Nat} (h:i*c + j<n):f (i*c + j)=eL f n c i j:=by unfold eL;rw [if_pos h]
theorem tK {r c r' c':Nat} {M M':Nat→Nat→Int} (h:¬(r=r'∧c=c')):decide (ao r c r' c' M M')=false:=decide_eq_false fun e=>h ⟨e.1,e.2.1⟩
theorem tL {r c r' c' i:Nat} {M M':Nat→Nat→Int} (hi:i<r) (h:¬ay c c' (M i) (M' i)):decide (ao r c r' c' M M')=false:=
  decide_eq_false fun e=>h ⟨e.2.1,fun j hj=>e.2.2 i hi j hj⟩
theorem rJ {r c r' c':Nat} {M M':Nat→Nat→Int} (h:r=r'∧c=c') (he:∀i,i<r→ay c c' (M i) (M' i)):decide (ao r c r' c' M M')=true:=
  decide_eq_true ⟨h.1,h.2,fun i hi j hj=>(he i hi).2 j hj⟩
theorem tW {f:Nat→Int} {n b:Nat} (h:∀i,i<n→(f i).natAbs<2^b) (c i j:Nat):(eL f n c i j).natAbs<2^b:=by
  unfold eL;split
  · rename_i h1;exact h _ h1
  · exact Nat.pow_pos (by decide)
theorem tmN (x k:Nat):((x:Nat):Int).tmod ((k:Nat):Int)=((x % k:Nat):Int):=rfl
theorem lD {F:Nat→Nat→Int} {i j n:Nat} (h:∀c,j≤c→c<n→F i c=0) {a c:Nat} (hc:c<n):cG F i j a c=cG F (i + 1) 0 a c:=by
  unfold cG
  by_cases h1:a<i
  · rw [if_pos (by omega),if_pos (by omega)]
  · by_cases h2:a=i
    · subst h2
      by_cases h3:c<j
      · rw [if_pos (by omega),if_pos (by omega)]
      · rw [if_neg (by omega),if_pos (by omega),h c (by omega) hc]
    · rw [if_neg (by omega),if_neg (by omega)]
def eH (k:IntKind) (T:Nat) (w:World) (v:Value) (n:Nat) (f:Nat→Int):Prop:=∃A c,v= .slice A n c∧n≤c∧c<9223372036854775808∧(0<n→∃g o,A=some ⟨g,o,none⟩∧∀i,i<n→w.cell? ⟨g,o + i,none⟩=some (.int k (f i)))
theorem eH.ext {k:IntKind} {T:Nat} {w w':World} {v:Value} {n:Nat} {f:Nat→Int} (h:eH k T w v n f) (hx:aA w w'):eH k T w' v n f:=by
  obtain ⟨A,c,h1,h2,h3,h4⟩:=h;exact ⟨A,c,h1,h2,h3,fun hn=>by obtain ⟨g,o,hA,hc⟩:=h4 hn;exact ⟨g,o,hA,fun i hi=>aA.cell (hc i hi) hx⟩⟩
instance (k:IntKind) (T n:Nat) (f:Nat→Int):Nonempty (bq (fun v w=>eH k T w v n f)):=⟨fun _ _ _ h hx=>eH.ext h hx⟩
def oA (k:IntKind) (w:World) (v:Value) (x:Int):Prop:=∃g o,v= .pointer (some ⟨g,o,none⟩)∧w.cell? ⟨g,o,none⟩=some (.int k x)
theorem oA.ext {k:IntKind} {w w':World} {v:Value} {x:Int} (h:oA k w v x) (hx:aA w w'):oA k w' v x:=by obtain ⟨g,o,h1,h2⟩:=h;exact ⟨g,o,h1,aA.cell h2 hx⟩
theorem rr (k:IntKind) (x:Int):bq (fun v w=>oA k w v x):=fun _ _ _ h hx=>h.ext hx
instance (k:IntKind) (x:Int):Nonempty (bq (fun v w=>oA k w v x)):=⟨rr k x⟩
section
variable {P:Program} {e:cl} {w:World} {d:Option Tmp} {ty:TypeId} {pos:String} {after:Array Edge} {gd:Option (Nat×Bool)}
theorem iz {k:IntKind} {T t n j m:Nat} {x ix:Operand} {v:Value} {f:Nat→Int} {i:Int} {k2:IntKind} (ht:sliceB P t T 1 m=true) (hx:ev e x=v) (hN:eH k T w v n f) (hi:ev e ix= .int k2 i) (hij:i=(j:Int)) (hj:j<n):
    cQ P ⟨d,.indexAddr t x ix,ty,pos,after,gd⟩ e w (fun v' w'=>w=w'∧oA k w' v' (f j)):=by
  obtain ⟨A,c,rfl,h2,h3,h4⟩:=hN;obtain ⟨g,o,rfl,hc⟩:=h4 (by omega);refine cT (φ:=fun v' w'=>oA k w' v' (f j)) (cj.index (j:=j) ht hx hi rfl hij hj) ⟨g,_,rfl,?_⟩;rw [Nat.mul_one];exact hc j hj
theorem jp {k:IntKind} {t:Nat} {x:Operand} {v:Value} {q:Int} (ht:oneB P t=true) (hx:ev e x=v) (hP:oA k w v q):cj P ⟨d,.load t x,ty,pos,after,gd⟩ e w (.int k q):=by
  obtain ⟨g,o,rfl,hc⟩:=hP;exact cj.load ht hx hc
theorem kP {k:IntKind} {T t n m:Nat} {x:Operand} {v:Value} {f:Nat→Int} (ht:sliceB P t T 1 m=true) (hx:ev e x=v) (hN:eH k T w v n f):
    cj P ⟨d,.call {callee:= .builtin .len,args:= #[x],argTypes:= #[t]},ty,pos,after,gd⟩ e w (.int .i64 (n:Nat)):=by
  obtain ⟨A,c,rfl,h2,h3,h4⟩:=hN;exact cj.len ht hx
end
end Go.TL
namespace Go.TL
open Go.RowKit
set_option linter.unusedVariables false
def jc (w:World) (g cap n:Nat) (z:Nat→Int) (b:Nat):Prop:=
  (n≤cap∧cap<9223372036854775808∧b≤bj∧n≤65536)∧∃f,aY w g 49 (cap*2) f∧∀j,j<n→ak w (.agg #[f (2*j),f (2*j + 1)]) (z j) b
section
variable {w w':World} {g cap n b:Nat} {z:Nat→Int}
theorem jc.lt (h:jc w g cap n z b):g<w.heap.size:=by obtain ⟨_,f,ha,_⟩:=h;exact ha.lt
theorem jc.keep {S:Nat→Prop} (h:jc w g cap n z b) (hk:Keeps S w w') (hg:¬S g) (hs:∀k m f,S k→¬aY w k 101 m f):jc w' g cap n z b:=by
  obtain ⟨h1,f,ha,hf⟩:=h;exact ⟨h1,f,ha.keep hk hg,fun j hj=>(hf j hj).keep hk hs⟩
theorem jc.ext (h:jc w g cap n z b) (hx:aA w w'):jc w' g cap n z b:=h.keep (hx.keeps (fun _=>False)) id fun _ _ _ hf=>hf.elim
theorem jc.rowB (h:jc w g cap n z b):cw w g n z b:=by
  obtain ⟨h1,f,ha,hf⟩:=h;exact ⟨cap*2,f,⟨by omega,h1.2.2.1⟩,ha,hf⟩
theorem jc.rowV (h:jc w g cap n z b):bi w (.slice (some ⟨g,0,none⟩) n cap) n z b:=h.rowB.rowV h.1.1 ⟨h.1.2.1,h.1.2.2.2⟩
theorem jc.congr {z':Nat→Int} (h:jc w g cap n z b) (he:∀j,j<n→z j=z' j):jc w g cap n z' b:=by
  obtain ⟨h1,f,ha,hf⟩:=h;exact ⟨h1,f,ha,fun j hj=>he j hj▸hf j hj⟩
theorem jc.born {f:Nat→Value} (ha:aY w g 49 0 f) (z:Nat→Int) (hb:b≤bj):jc w g 0 0 z b:=
  ⟨⟨Nat.le_refl _,by decide,hb,by decide⟩,f,ha,fun j hj=>absurd hj (by omega)⟩
end
theorem cw.up {w:World} {g n b b':Nat} {z:Nat→Int} (h:cw w g n z b) (hb:b≤b') (hl:b'≤bj):cw w g n z b':=by
  obtain ⟨m,f,h1,h2,h3⟩:=h;exact ⟨m,f,⟨h1.1,hl⟩,h2,fun j hj=>(h3 j hj).up hb hl⟩
theorem bi.bd {w:World} {v:Value} {n b:Nat} {z:Nat→Int} (h:bi w v n z b):∀j,j<n→(z j).natAbs<2^b:=by
  intro j hj;obtain ⟨A,k,h1,h2,h3,h4⟩:=h;obtain ⟨g,_,m,f,_,_,hf⟩:=h4 (by omega);exact (hf j hj).2.1
theorem ce.bd {w:World} {v:Value} {n c b:Nat} {M:Nat→Nat→Int} (h:ce w v n c M b):∀i j,i<n→j<c→(M i j).natAbs<2^b:=by
  intro i j hi hj;obtain ⟨A,k,h1,h2,h3,h4⟩:=h;obtain ⟨g,o,m,f,_,_,_,hf⟩:=h4 (by omega);exact (hf i hi).bd j hj
section
variable {P:Program} {e:cl} {w:World} {d:Option Tmp} {ty:TypeId} {pos:String} {after:Array Edge} {gd:Option (Nat×Bool)}
theorem jr {t T m b g cap c1:Nat} {A:Option Addr} {x y:Operand} (ht:sliceB P t T m b=true)
    (hx:ev e x= .slice (some ⟨g,0,none⟩) 0 cap) (hy:ev e y= .slice A 0 c1):
    cj P ⟨d,.call {callee:= .builtin .append,args:= #[x,y],argTypes:= #[t,t]},ty,pos,after,gd⟩ e w (.slice (some ⟨g,0,none⟩) 0 cap):=by
  obtain ⟨hu,i0,hi0,hm,hbb⟩:=bJ ht;have hrun:(Builtin.append_ #[t,t] ty #[.slice (some ⟨g,0,none⟩) 0 cap,.slice A 0 c1]).run P w= .ok (.slice (some ⟨g,0,none⟩) 0 cap) w:=by
    cases A with
    | none=>simp [Builtin.append_,run_underlying hu,sizeOf,typeInfo,hi0,Builtin.lenOf,Builtin.firstCells,storeCells]
    | some ad=>simp [Builtin.append_,run_underlying hu,sizeOf,typeInfo,hi0,Builtin.lenOf,Builtin.firstCells,storeCells,loadCells,loadCellsFrom]
  simp [cj,execOp,resolve,invoke,builtin,hx,hy,hrun,Result.andThen]
end
end Go.TL
namespace Go.TL
open Go.RowKit
set_option linter.unusedVariables false
def HL (P:Program) (N:Nat) (l:List Oper) (S:World→Prop) (K:cl→World→Prop) (fuel:Nat) (listed:Array Bool) (e:cl) (w:World):Prop:=
  S w∧∀a Q,IsE N a e→(∀a' e' w',IsE N a' e'→K e' w'→Q .normal a' w')→(∀c a' w',¬Q (.panic c) a' w')→wpAnyH P .any l.toArray Q S fuel listed a w
section
variable {P:Program} {N:Nat} {l:List Oper} {S:World→Prop} {K:cl→World→Prop} {fuel:Nat} {listed:Array Bool} {e:cl} {w:World} {o:Oper}
theorem HL.nil (hS:S w) (hr:Region.ready .any l.toArray listed= []) (h:K e w):HL P N l S K fuel listed e w:=
  ⟨hS,fun _ _ ha hk _=>wpAnyH_done hr (hk _ _ _ ha h) _⟩
theorem HL.x {R:Value→World→Prop} (i:Nat) (hS:S w) (hr:Region.ready .any l.toArray listed= [i]) (ho:l[i]? =some o) (hd:fK N o.dst=true) (hg:o.guard=none) (h:cQ P o e w R)
    (k:∀v w',R v w'→HL P N l S K fuel (listed.setIfInBounds i true) (et e o.dst v) w'):HL P N l S K (fuel + 1) listed e w:=by
  refine ⟨hS,fun a Q ha hk hq=>wpAnyH_all hr (by simp) fun j hj=> ?_⟩;rw [List.mem_singleton] at hj;subst hj;have ho':l.toArray[j]? =some o:=by simpa using ho
  unfold wpOp
  rw [ho'];simp only;rw [if_pos (by simp [Region.wanted,hg])];exact .inl (h a ha.eval _ _ fun v w' hv=>⟨(k v w' hv).1,(k v w' hv).2 _ Q (ha.put hd v) hk hq⟩)
theorem HL.t {v:Value} (i:Nat) (hS:S w) (hf:Region.free .any l.toArray listed i=true) (hr:(Region.ready .any l.toArray listed).contains i=true) (hs:Region.noSelect l.toArray=true) (ho:l[i]? =some o) (hd:fK N o.dst=true) (hg:o.guard=none)
    (h:∀w',S w'→cj P o e w' v) (k:HL P N l S K fuel (listed.setIfInBounds i true) (et e o.dst v) w):HL P N l S K (fuel + 1) listed e w:=by
  refine ⟨hS,fun a Q ha hk hq=> ?_⟩;refine wpAnyH_take (oi:=o) (by simpa using ho) hs hf hr (fun c a w h=>absurd h (hq c _ w)) (.inl ⟨by simp [Region.wanted,hg],fun w' hw'=> ?_⟩) hS (k.2 _ Q (ha.put hd v) hk hq);have:=h w' hw'
  unfold cj at this
  rw [ha.eval];exact this
end
def An (w:World) (v:Value) (z:Int) (b:Nat):Prop:=∃g c0 c1,v= .slice (some ⟨g,0,none⟩) 1 1∧aY w g 49 2 (bU [c0,c1])∧ak w (.agg #[c0,c1]) z b
theorem An.ext {w w':World} {v:Value} {z:Int} {b:Nat} (h:An w v z b) (hx:aA w w'):An w' v z b:=by
  obtain ⟨g,c0,c1,h1,h2,h3⟩:=h;exact ⟨g,c0,c1,h1,h2.ext hx,h3.ext hx⟩
section
variable {P:Program} {e:cl} {w:World} {d:Option Tmp} {ty:TypeId} {pos:String} {after:Array Edge} {gd:Option (Nat×Bool)}
theorem mU {t m g0 n b B:Nat} {x y:Operand} {v:Value} {z:Nat→Int} (ht:sliceB P t 49 2 m=true) (hm:m≤32) (hz:(P.info? 49).bind (·.zero)=some (.agg #[.bool false,.slice none 0 0]))
    (hx:ev e x= .slice (some ⟨g0,0,none⟩) 0 0) (hA:aY w g0 49 0 (bU [])) (hy:ev e y=v) (hR:bi w v n z b) (hB:B≤g0) (hBw:B≤w.heap.size):
    cQ P ⟨d,.call {callee:= .builtin .append,args:= #[x,y],argTypes:= #[t,t]},ty,pos,after,gd⟩ e w
      (fun v' w'=>aA w w'∧∃g' cap',v'= .slice (some ⟨g',0,none⟩) n cap'∧B≤g'∧jc w' g' cap' n z b):=by
  rcases Nat.eq_zero_or_pos n with h0 | h0
  · subst h0
    obtain ⟨A,k,rfl,h2,h3,h4⟩:=hR;refine cQ.mono (jr ht hx hy).opX ?_;rintro v' w' ⟨rfl,rfl⟩;exact ⟨aA.refl _,g0,0,rfl,hB,jc.born hA z h3.2.2⟩
  · obtain ⟨A,k,rfl,h2,h3,h4⟩:=hR
    obtain ⟨g,rfl,m',f,hm',ha,hf⟩:=h4 h0;have hones:∀i,i<n*2→(f i).oneCell'=true:=fun i hi=>by
      have:=hf (i/2) (by omega);obtain ⟨c0,c1,h1,h2,h3⟩:=this.cells
      injection h1 with h1
      rcases (by omega:i=2*(i/2)∨i=2*(i/2) + 1) with e | e
      · rw [e];have h5:f (2*(i/2))=c0:=by have:=congrArg (fun a=>a[0]?) h1;simpa using this
        rw [h5];exact h2
      · rw [e];have h5:f (2*(i/2) + 1)=c1:=by have:=congrArg (fun a=>a[1]?) h1;simpa using this
        rw [h5];exact h3
    refine cQ.mono (ea (n:=0) (cap:=0) (kk:=n) (h:=f) [.bool false,.slice none 0 0] ht hm hz rfl rfl (by decide) hx hy hA (Nat.le_refl _) (by decide) (fun i hi=>by rw [Nat.zero_add];exact ha.cell (by omega)) hones (by omega)) ?_;rintro v' w' ⟨hk,g',cap',f',rfl,h5,h6,h7,h8,h9,h10⟩;rcases h7 with ⟨_,_,h7⟩ | ⟨h7,hx'⟩
    · omega
    · simp only [Nat.zero_add,Nat.zero_mul] at*
      refine ⟨hx',g',cap',rfl,Nat.le_trans hBw h7,⟨h5,h6,h3.2.2,by omega⟩,f',h8,fun j hj=> ?_⟩;rw [h10 (2*j) (by omega),h10 (2*j + 1) (by omega)];exact (hf j hj).ext hx'
end
end Go.TL
namespace Go.TL
open Go.RowKit Go.Proofs
set_option linter.unusedVariables false
set_option linter.unusedSimpArgs false
set_option maxRecDepth 10000 in
theorem pU (w:World) (r:Nat) (c:Nat) (b:Nat) (hr:r≤65536) (hc:c≤65536) (hb:b≤bj):Calls Tryz.prog 78 #[.int .i64 (r:Nat),.int .i64 (c:Nat)] w (cc w fun v w'=>cO w' v w.heap.size r c (fun _ _=>0) b):=by
 have hLIM:bj=562949953421312:=rfl;refine ai (N:=22) (rs:= #[.cell 4 28]) Tryz.func78 rfl rfl rfl (Nat.le_of_ble_eq_true rfl) ?_;have hX:aA w w:=aA.refl w;refine ab ?_;refine RL.x rfl rfl (cQ.alloc [.int .i64 (0),.int .i64 (0),.slice (none) (0) (0)] cn rfl) ?_;rintro _ w1 ⟨g1,rfl,hge1,hx1,hA1⟩;have hbs1:w.heap.size≤g1:=Nat.le_trans hX.size hge1;replace hX:=aA.trans hX hx1;refine RL.nil ?_;refine ab ?_;refine RL.x rfl rfl (cL aK) ?_;rintro _ w2 ⟨g2,rfl,hge2,hx2,hA2⟩;have hbs2:w.heap.size≤g2:=Nat.le_trans hX.size hge2;replace hA1:=aY.ext hA1 hx2;replace hX:=aA.trans hX hx2;replace hA2:=cY.born (c:=c) hA2 hbs2 (by decide) (by omega) (fun _ _=>0) (b) (by omega);refine RL.p rfl rfl (cj.assign rfl) ?_;refine RL.nil ?_;refine WP.seq ?_;refine ab ?_;refine RL.p rfl rfl (cj.assign rfl) ?_;refine RL.nil ?_;refine WP.block ?_;refine WP.loop (fun mz ez uz=>∃i:Nat,∃gh:Nat,∃kh:Nat,∃ρ:Nat→Nat,(mz=r - i)∧(ez 0= .int .i64 ((r:Nat)))∧(ez 1= .int .i64 ((c:Nat)))∧(ez 4= .pointer (some ⟨g1,0,none⟩))∧(ez 5= .slice (some ⟨gh,0,none⟩) (i) (kh))∧(ez 6= .int .i64 ((i:Nat)))∧(i≤r)∧(w.heap.size≤gh)∧(aA w uz)∧(aY uz g1 28 3 (bU [.int .i64 (0),.int .i64 (0),.slice (none) (0) (0)]))∧(cY uz w.heap.size gh kh i c ρ (fun _ _=>0) b)) (r - 0) ?_ ?_
 · exact ⟨0,_,_,_,rfl,rfl,rfl,rfl,rfl,rfl,(by omega),hbs2,hX,hA1,hA2⟩
 rintro m1 e1 w3 ⟨i,gh,kh,ρ,hm1,s0_e1,s1_e1,s4_e1,s5_e1,s6_e1,hi,hgh,hX1,hA1,hA2⟩;have hdl:=cY.dlim hA2;refine WP.seq ?_;refine ab ?_;refine RL.p rfl rfl (cj.move s6_e1) ?_;refine RL.p rfl rfl (cj.move s0_e1) ?_;refine RL.p rfl rfl (cj.lss rfl rfl) ?_;refine RL.nil ?_;refine ae (((i:Nat):Int)<((r:Nat):Int)) rfl (fun c10=> ?_) (fun c10=> ?_)
 ·
  refine WP.skip ?_;refine pl.norm ?_;refine WP.seq ?_;refine WP.block ?_;refine WP.region ?_;refine RL.p rfl rfl (cj.move s5_e1) ?_;refine RL.p rfl rfl (cj.move s1_e1) ?_;refine RL.x rfl rfl (df (c) [.bool (false),.slice (none) (0) (0)] bE bH rfl rfl rfl (by omega) (by omega) (by omega) (by omega) (by decide)) ?_;rintro _ w4 ⟨g3,rfl,hge3,hx3,hA3⟩;have ne3:∀ii,ii<i→ρ ii≠g3:=fun ii hi=>Nat.ne_of_lt (Nat.lt_of_lt_of_le (cY.rowlt hA2 hi) hge3)
  have hbs3:w.heap.size≤g3:=Nat.le_trans hX1.size hge3;replace hA1:=aY.ext hA1 hx3;replace hA2:=cY.ext hA2 hx3;replace hX1:=aA.trans hX1 hx3;replace hA3:=kL hA3 (b) (by omega);refine RL.x rfl rfl (cQ.buildSlice (vs:= [(0,.slice (some ⟨g3,0,none⟩) (c) (c))]) [.slice (none) (0) (0)] [.slice (some ⟨g3,0,none⟩) (c) (c)] aK pC rfl (eS rfl) rfl (by decide) vg rfl) ?_;rintro _ w5 ⟨g4,rfl,hge4,hx4,hA4⟩;replace hA1:=aY.ext hA1 hx4;replace hA2:=cY.ext hA2 hx4;replace hA3:=cw.ext hA3 hx4;replace hX1:=aA.trans hX1 hx4;refine RL.x rfl rfl (oo aK (by decide) pC rfl rfl hA2 hA4 (AE _ _ _ _ (Nat.le_refl _) (by omega)) hA3 (fun j hj=>rfl) hbs3 hX1.size ne3 (by omega)) ?_;rintro _ w6 ⟨hk1,gh1,km1,rfl,hN1⟩;replace hA1:=iY hA1 hk1 hA2 (by decide);replace hX1:=hX1.step hk1 (fun b e=>by subst e;exact hgh);have hbs5:w.heap.size≤gh1:=hN1.1;refine RL.p rfl rfl (cj.assign rfl) ?_;refine RL.nil ?_;refine iD.norm ?_;refine pl.norm ?_;refine WP.region ?_;refine RL.p rfl rfl (cj.move s6_e1) ?_;refine RL.p rfl rfl (cj.add (c:=((i + 1:Nat):Int)) rfl rfl (bT (by omega))) ?_;refine RL.p rfl rfl (cj.assign rfl) ?_;refine RL.nil ?_;refine pl.norm ⟨_,(by omega),i + 1,_,_,_,rfl,s0_e1,s1_e1,s4_e1,rfl,rfl,(by omega),hbs5,hX1,hA1,hN1⟩
 ·
  refine WP.exit ?_;refine pl.exit ?_;refine pl.exit ?_;refine iD.same ?_;refine pl.norm ?_;refine ab ?_;refine RL.p rfl rfl (cj.move s0_e1) ?_;refine RL.p rfl rfl (cj.move s1_e1) ?_;refine RL.p rfl rfl (cj.move s5_e1) ?_;refine RL.p rfl rfl (cj.build (vs:= [(0,.int .i64 ((r:Nat))),(1,.int .i64 ((c:Nat))),(2,.slice (some ⟨gh,0,none⟩) (i) (kh))]) [(0,1),(1,1),(2,1)] jR cn (ko rfl rfl rfl) rfl) ?_;refine RL.x rfl rfl (cQ.store [.int .i64 ((r:Nat)),.int .i64 ((c:Nat)),.slice (some ⟨gh,0,none⟩) (i) (kh)] cR s4_e1 rfl rfl hA1 (Nat.le_of_ble_eq_true rfl) (cS rfl rfl rfl)) ?_;rintro _ w7 ⟨hk2,hnew⟩;replace hA2:=bk hA2 hk2 hA1 (by decide);replace hX1:=hX1.step hk2 (fun b e=>by subst e;exact hbs1);replace hA1:=hnew.lit [.int .i64 ((r:Nat)),.int .i64 ((c:Nat)),.slice (some ⟨gh,0,none⟩) (i) (kh)] rfl;clear hnew;refine RL.nil ?_;refine WP.ret ?_;refine ⟨.agg #[.int .i64 ((r:Nat)),.int .i64 ((c:Nat)),.slice (some ⟨gh,0,none⟩) (i) (kh)],Am.one (aj [.int .i64 ((r:Nat)),.int .i64 ((c:Nat)),.slice (some ⟨gh,0,none⟩) (i) (kh)] aV s4_e1 (hA1.cells 0 _ rfl rfl)),_,rfl,hX1,?_⟩;dsimp only;have hir:i=r:=by omega
  subst hir;exact ⟨_,_,_,rfl,hA2⟩
end Go.TL
