/-
  Lemmas towards the theorem of this claim (part 7).
  Conditions: those that each theorem names.
-/
import Derived.Test.YtknbpehdcgamaaaGreatPE6
namespace Go.TL
open Go.RowKit Go.Proofs
set_option linter.unusedVariables false
set_option linter.unusedSimpArgs false
set_option maxRecDepth 10000 in
theorem ni (w:World) (r:Nat) (c:Nat) (l:Value) (n:Nat) (f:Nat→Int) (b:Nat) (hr:r≤16) (hc:c≤16) (hl:eg .i64 2 w l n f) (hb:b + 1≤bp) (hfr:∀i,i<n→ -9223372036854775808≤f i∧f i<9223372036854775808) (hfb:∀i,i<n→(f i).natAbs<2^b):Calls Tryz.prog 36 #[.int .i64 (r:Nat),.int .i64 (c:Nat),l] w (cj w fun v w'=>cJ w' v w.heap.size r c (fp f n c) b):=by
 have hLIM:bp=562949953421312:=rfl;have hln:n<9223372036854775808:=by obtain ⟨_,_,_,h2,h3,_⟩:=hl;omega
 refine aj (N:=50) (rs:= #[.cell 6 28]) Tryz.func36 rfl rfl rfl (Nat.le_of_ble_eq_true rfl) ?_;have hX:aF w w:=aF.refl w;refine ab ?_;refine RL.x rfl rfl (df.alloc [.int .i64 (0),.int .i64 (0),.slice (none) (0) (0)] co rfl) ?_;rintro _ w1 ⟨g1,rfl,hge1,hx1,hA1⟩;have hbs1:w.heap.size≤g1:=Nat.le_trans hX.size hge1;replace hX:=aF.trans hX hx1;refine RL.nil ?_;refine ab ?_;refine RL.p rfl rfl (cK.move rfl) ?_;refine RL.p rfl rfl (cK.move rfl) ?_;have hBw1:w.heap.size≤w1.heap.size:=hX.size;refine RL.x rfl rfl (df.call oe (aw rfl rfl) (oF _ r c b (by omega) (by omega) (by omega))) ?_;rintro v1 w2 ⟨hx2,q1⟩;replace hA1:=bc.ext hA1 hx2;replace hX:=aF.trans hX hx2;refine RL.x rfl rfl (df.alloc [.int .i64 (0),.int .i64 (0),.slice (none) (0) (0)] co rfl) ?_;rintro _ w3 ⟨g2,rfl,hge2,hx3,hA2⟩;have ne1:g1≠g2:=Nat.ne_of_lt (Nat.lt_of_lt_of_le hA1.lt hge2);have hbs2:w.heap.size≤g2:=Nat.le_trans hX.size hge2;replace hA1:=bc.ext hA1 hx3;replace q1:=cJ.ext q1 hx3;replace hX:=aF.trans hX hx3;obtain ⟨gh1,kh1,ρ1,hq1,hM1⟩:=q1;have hd1:=cM.dlim hM1;have hd2:=cM.clim hM1;refine RL.x rfl rfl (df.store [.int .i64 ((r:Nat)),.int .i64 ((c:Nat)),.slice (some ⟨gh1,0,none⟩) (r) (kh1)] cX rfl hq1 rfl hA2 (Nat.le_of_ble_eq_true rfl) (cY rfl rfl rfl)) ?_;rintro _ w4 ⟨hk1,hnew⟩;replace hM1:=br hM1 hk1 hA2 (by decide);replace hA1:=hA1.keep hk1 ne1;replace hX:=hX.step hk1 (fun b e=>by subst e;exact hbs2);replace hA2:=hnew.lit [.int .i64 ((r:Nat)),.int .i64 ((c:Nat)),.slice (some ⟨gh1,0,none⟩) (r) (kh1)] rfl;clear hnew;refine RL.nil ?_;refine WP.seq ?_;refine ab ?_;refine RL.p rfl rfl (cK.assign rfl) ?_;refine RL.nil ?_;refine WP.block ?_;refine WP.loop (fun mz ez uz=>∃i:Nat,(mz=r - i)∧(ez 0= .int .i64 ((r:Nat)))∧(ez 1= .int .i64 ((c:Nat)))∧(ez 2=l)∧(ez 6= .pointer (some ⟨g1,0,none⟩))∧(ez 7= .pointer (some ⟨g2,0,none⟩))∧(ez 8= .int .i64 ((i:Nat)))∧(i≤r)∧(aF w uz)∧(bc uz g1 28 3 (bP [.int .i64 (0),.int .i64 (0),.slice (none) (0) (0)]))∧(bc uz g2 28 3 (bP [.int .i64 ((r:Nat)),.int .i64 ((c:Nat)),.slice (some ⟨gh1,0,none⟩) (r) (kh1)]))∧(cM uz w1.heap.size gh1 kh1 r c ρ1 (cT (fp f n c) i 0) b)) (r - 0) ?_ ?_
 · exact ⟨0,rfl,rfl,rfl,rfl,rfl,rfl,rfl,(by omega),hX,hA1,hA2,bH hM1 (gZ (fp f n c))⟩
 rintro m1 e1 w5 ⟨i,hm1,s0_e1,s1_e1,s2_e1,s6_e1,s7_e1,s8_e1,hi,hX1,hA1,hA2,hM1⟩;refine WP.seq ?_;refine ab ?_;refine RL.p rfl rfl (cK.move s8_e1) ?_;refine RL.p rfl rfl (cK.move s0_e1) ?_;refine RL.p rfl rfl (cK.lss rfl rfl) ?_;refine RL.nil ?_;refine af (((i:Nat):Int)<((r:Nat):Int)) rfl (fun c15=> ?_) (fun c15=> ?_)
 ·
  refine WP.skip ?_;refine qf.norm ?_;refine WP.seq ?_;refine WP.block ?_;refine ab ?_;refine RL.p rfl rfl (cK.assign rfl) ?_;refine RL.nil ?_;refine WP.block ?_;refine WP.loop (fun mz ez uz=>∃j:Nat,(mz=c - j)∧(ez 0= .int .i64 ((r:Nat)))∧(ez 1= .int .i64 ((c:Nat)))∧(ez 2=l)∧(ez 6= .pointer (some ⟨g1,0,none⟩))∧(ez 7= .pointer (some ⟨g2,0,none⟩))∧(ez 8= .int .i64 ((i:Nat)))∧(ez 9= .int .i64 ((j:Nat)))∧(j≤c)∧(aF w uz)∧(bc uz g1 28 3 (bP [.int .i64 (0),.int .i64 (0),.slice (none) (0) (0)]))∧(bc uz g2 28 3 (bP [.int .i64 ((r:Nat)),.int .i64 ((c:Nat)),.slice (some ⟨gh1,0,none⟩) (r) (kh1)]))∧(cM uz w1.heap.size gh1 kh1 r c ρ1 (cT (fp f n c) i j) b)) (c - 0) ?_ ?_
  · exact ⟨0,rfl,s0_e1,s1_e1,s2_e1,s6_e1,s7_e1,s8_e1,rfl,(by omega),hX1,hA1,hA2,hM1⟩
  rintro m2 e2 w6 ⟨j,hm2,s0_e2,s1_e2,s2_e2,s6_e2,s7_e2,s8_e2,s9_e2,hj,hX2,hA1,hA2,hM1⟩;have hic:i*c≤16*16:=Nat.mul_le_mul (by omega) (by omega);refine WP.seq ?_;refine aI am 13 [_,_,_,fun v BZ=>v= .bool (decide (((j:Nat):Int)<((c:Nat):Int))),_,_,_,_,_,_,_,_,_] rfl rfl (fun e_ w_ BY BX=>⟨fun _=>aa (cK.move ((BX 9 rfl s9_e2))),fun _=>aa (cK.move ((BX 1 rfl s1_e2))),fun BW=>aa (cK.lss ((BW 0 rfl)) ((BW 1 rfl))),fun BW=>aa (cK.move ((BW 2 rfl))),fun BW=>gT (BW 3 rfl) fun hg=>aa (cK.move ((BX 8 rfl s8_e2))),fun BW=>gT (BW 3 rfl) fun hg=>aa (cK.move ((BX 1 rfl s1_e2))),fun BW=>gT (BW 3 rfl) fun hg=>aa (cK.mul (c:=((i*c:Nat):Int)) ((BW 4 rfl hg)) ((BW 5 rfl hg)) (bY (by omega))),fun BW=>gT (BW 3 rfl) fun hg=>aa (cK.move ((BX 9 rfl s9_e2))),fun BW=>gT (BW 3 rfl) fun hg=>aa (cK.add (c:=(((i*c) + j:Nat):Int)) ((BW 6 rfl hg)) ((BW 7 rfl hg)) (bY (by omega))),fun BW=>gT (BW 3 rfl) fun hg=>aa (cK.move ((BX 2 rfl s2_e2))),fun BW=>gT (BW 3 rfl) fun hg=>aa (lY gk (BW 9 rfl hg) (eg.ext (eg.ext hl hX2) BY)),fun BW=>gT (BW 3 rfl) fun hg=>aa (cK.lss ((BW 8 rfl hg)) ((BW 10 rfl hg))),fun BW=>aa (ay (p:=((j:Nat):Int)<((c:Nat):Int)) (q:=((((i*c) + j:Nat):Int):Int)<((n:Nat):Int)) (BW 3 rfl) (fun hq=>(BW 11 rfl hq))),trivial⟩) ?_;intro e3 w7 hx4 ho1 hf1;replace hA1:=bc.ext hA1 hx4;replace hA2:=bc.ext hA2 hx4;replace hM1:=cM.ext hM1 hx4;replace hX2:=aF.trans hX2 hx4;have s0_e3:=ho1 0 rfl s0_e2;have s1_e3:=ho1 1 rfl s1_e2;have s2_e3:=ho1 2 rfl s2_e2;have s6_e3:=ho1 6 rfl s6_e2;have s7_e3:=ho1 7 rfl s7_e2;have s8_e3:=ho1 8 rfl s8_e2;have s9_e3:=ho1 9 rfl s9_e2;have s30_e3:e3 30=_:=hf1 12 rfl;refine RL.nil ?_;refine af ((((j:Nat):Int)<((c:Nat):Int))∧(((((i*c) + j:Nat):Int):Int)<((n:Nat):Int))) s30_e3 (fun c30=> ?_) (fun c30=> ?_)
  ·
   refine WP.skip ?_;refine qf.norm ?_;refine WP.seq ?_;refine WP.block ?_;refine WP.ds am 16 [_,_,_,_,_,_,_,_,_,_,_,_,_,_,_,_] rfl rfl (fun e_ w_ BY BX=>⟨fun _=>aa (cK.fieldAddr aq ((BX 7 rfl s7_e3))),fun BW=>aa (cK.load aG ((BW 0 rfl)) ((bc.ext hA2 BY).at_ (i:=2) rfl rfl)),fun _=>aa (cK.move ((BX 8 rfl s8_e3))),fun BW=>aa (cK.index (j:=i) az ((BW 1 rfl)) ((BW 2 rfl)) rfl (by omega) (by omega)),fun BW=>ag (ao (i:=i) aR (BW 3 rfl) (cM.ext hM1 BY) (by omega)),fun _=>aa (cK.move ((BX 9 rfl s9_e3))),fun _=>aa (cK.move ((BX 2 rfl s2_e3))),fun _=>aa (cK.move ((BX 8 rfl s8_e3))),fun _=>aa (cK.move ((BX 1 rfl s1_e3))),fun BW=>aa (cK.mul (c:=((i*c:Nat):Int)) ((BW 7 rfl)) ((BW 8 rfl)) (bY (by omega))),fun _=>aa (cK.move ((BX 9 rfl s9_e3))),fun BW=>aa (cK.add (c:=(((i*c) + j:Nat):Int)) ((BW 9 rfl)) ((BW 10 rfl)) (bY (by omega))),fun BW=>ag (jl (j:=(i*c) + j) gk (BW 6 rfl) (eg.ext (eg.ext hl hX2) BY) (BW 11 rfl) (by omega) (by omega)),fun BW=>aa (ko BD rfl (BW 12 rfl)),fun BW=>df.call jZ (aN ((BW 13 rfl))) (oE (f ((i*c) + j)) (b) _ (hfr _ (by omega)) (hfb _ (by omega)) (by omega)),fun BW=>aa (av (j:=j) bl (BW 4 rfl) rfl (BW 5 rfl) (by omega) (by omega)),trivial⟩) ?_;intro e4 w8 hx5 ho2 hf2;replace hA1:=bc.ext hA1 hx5;replace hA2:=bc.ext hA2 hx5;replace hM1:=cM.ext hM1 hx5;replace hX2:=aF.trans hX2 hx5;have s0_e4:=ho2 0 rfl s0_e3;have s1_e4:=ho2 1 rfl s1_e3;have s2_e4:=ho2 2 rfl s2_e3;have s6_e4:=ho2 6 rfl s6_e3;have s7_e4:=ho2 7 rfl s7_e3;have s8_e4:=ho2 8 rfl s8_e3;have s9_e4:=ho2 9 rfl s9_e3;have s47_e4:al w8 (e4 47) (f ((i*c) + j)) b:=hf2 14 rfl;have s48_e4:e4 48=_:=hf2 15 rfl;refine RL.x rfl rfl (bT (i:=i) (j:=j) aL s48_e4 rfl (al.eq s47_e4 (uQ (n:=n) (by omega)) (uR hfb _ _ _) (by omega)) hM1 (by omega) (by omega)) ?_;rintro _ w9 ⟨hk2,hN1⟩;have hR1:=cM.row (i:=i) hM1 (by omega);replace hA1:=aU hA1 hk2 hR1 (by decide);replace hA2:=aU hA2 hk2 hR1 (by decide);replace hX2:=hX2.step hk2 (fun b e=>by subst e;exact (Nat.le_trans hBw1 (cM.rowB (i:=i) hM1 (by omega))));replace hM1:=hN1;clear hR1;refine RL.nil ?_;refine jp.norm ?_;refine qf.norm ?_;refine WP.region ?_;refine RL.p rfl rfl (cK.move s9_e4) ?_;refine RL.p rfl rfl (cK.add (c:=((j + 1:Nat):Int)) rfl rfl (bY (by omega))) ?_;refine RL.p rfl rfl (cK.assign rfl) ?_;refine RL.nil ?_;refine qf.norm ⟨_,(by omega),j + 1,rfl,s0_e4,s1_e4,s2_e4,s6_e4,s7_e4,s8_e4,rfl,(by omega),hX2,hA1,hA2,bH hM1 (fF (fp f n c) i j)⟩
  ·
   refine WP.exit ?_;refine qf.exit ?_;refine qf.exit ?_;refine jp.same ?_;refine jp.norm ?_;refine qf.norm ?_;refine WP.region ?_;refine RL.p rfl rfl (cK.move s8_e3) ?_;refine RL.p rfl rfl (cK.add (c:=((i + 1:Nat):Int)) rfl rfl (bY (by omega))) ?_;refine RL.p rfl rfl (cK.assign rfl) ?_;refine RL.nil ?_;refine qf.norm ⟨_,(by omega),i + 1,rfl,s0_e3,s1_e3,s2_e3,s6_e3,s7_e3,rfl,(by omega),hX2,hA1,hA2,cM.congr hM1 fun a c2 ha hc2=>mD (fun e he hec=>by unfold fp;rw [if_neg (by omega)]) hc2⟩
 ·
  refine WP.exit ?_;refine qf.exit ?_;refine qf.exit ?_;refine jp.same ?_;refine qf.norm ?_;refine ab ?_;refine RL.p rfl rfl (ah [.int .i64 ((r:Nat)),.int .i64 ((c:Nat)),.slice (some ⟨gh1,0,none⟩) (r) (kh1)] aZ s7_e1 (hA2.cells 0 _ rfl rfl)) ?_;refine RL.x rfl rfl (df.store [.int .i64 ((r:Nat)),.int .i64 ((c:Nat)),.slice (some ⟨gh1,0,none⟩) (r) (kh1)] cX s6_e1 rfl rfl hA1 (Nat.le_of_ble_eq_true rfl) (cY rfl rfl rfl)) ?_;rintro _ w10 ⟨hk3,hnew⟩;replace hM1:=br hM1 hk3 hA1 (by decide);replace hX1:=hX1.step hk3 (fun b e=>by subst e;exact hbs1);replace hA1:=hnew.lit [.int .i64 ((r:Nat)),.int .i64 ((c:Nat)),.slice (some ⟨gh1,0,none⟩) (r) (kh1)] rfl;clear hnew;refine RL.nil ?_;refine WP.ret ?_;refine ⟨.agg #[.int .i64 ((r:Nat)),.int .i64 ((c:Nat)),.slice (some ⟨gh1,0,none⟩) (r) (kh1)],Bu.one (ak [.int .i64 ((r:Nat)),.int .i64 ((c:Nat)),.slice (some ⟨gh1,0,none⟩) (r) (kh1)] aZ s6_e1 (hA1.cells 0 _ rfl rfl)),_,rfl,hX1,?_⟩;dsimp only;exact ⟨_,_,_,rfl,cM.congr (cM.low hM1 hBw1) fun a c2 ha hc2=>by rw [show i=r by omega];exact fg _ c2 ha⟩
set_option maxRecDepth 10000 in
theorem oC (w:World) (l:Value) (n:Nat) (f:Nat→Int) (c:Nat) (hl:eg .i8 57 w l n f) (hc:c≤16):Calls Tryz.prog 20 #[l,.int .i64 (c:Nat)] w (cj w fun v w'=>bD w' v c (bn f n c 0) 4):=by
 have hLIM:bp=562949953421312:=rfl;have hln:n<9223372036854775808:=by obtain ⟨_,_,_,h2,h3,_⟩:=hl;omega
 refine aj (N:=11) (rs:= #[.tmp 4]) Tryz.func20 rfl rfl rfl (Nat.le_of_ble_eq_true rfl) ?_;have hX:aF w w:=aF.refl w;refine ab ?_;refine RL.p rfl rfl (cK.assign rfl) ?_;refine RL.nil ?_;refine ab ?_;refine RL.p rfl rfl (cK.move rfl) ?_;refine RL.p rfl rfl (cK.move rfl) ?_;have hBw1:w.heap.size≤w.heap.size:=hX.size;refine RL.x rfl rfl (df.call xV (cO rfl rfl rfl) (oG _ 1 c l n f (by omega) (by omega) (eg.ext hl hX))) ?_;rintro v1 w1 ⟨hx1,q1⟩;replace hX:=aF.trans hX hx1;refine RL.x rfl rfl (dR iI aG rfl q1) ?_;rintro v2 _ ⟨rfl,q2⟩;refine RL.x rfl rfl (aP (j:=0) az rfl (xC.hdrV q2) rfl (by omega) (by decide)) ?_;rintro v3 _ ⟨rfl,q3⟩;refine RL.x rfl rfl (aV aR rfl q3) ?_;rintro v4 _ ⟨rfl,q4⟩;refine RL.p rfl rfl (cK.assign rfl) ?_;refine RL.nil ?_;refine WP.ret ?_;refine ⟨v4,Bu.one (fZ.tmp rfl),_,rfl,hX,?_⟩;dsimp only;exact q4
end Go.TL
namespace Go.TL
set_option linter.unusedVariables false
def rowP (M F:Nat→Nat→Int) (i n:Nat):Nat→Nat→Int:=fun a c=>if a=i∧c<n then F a c else M a c
theorem gU (M F:Nat→Nat→Int) (i:Nat):M=rowP M F i 0:=by funext a c;unfold rowP;rw [if_neg (by omega)]
theorem gV (M F:Nat→Nat→Int) (i n:Nat):rowP M F i n i n=M i n:=by unfold rowP;rw [if_neg (by omega)]
theorem lm (M F:Nat→Nat→Int) {i a:Nat} (n c:Nat) (h:i≠a):rowP M F i n a c=M a c:=by unfold rowP;rw [if_neg (by omega)]
theorem gW {M F:Nat→Nat→Int} {i n:Nat} {q:Int} (h:q=F i n):eA (rowP M F i n) i n q=rowP M F i (n + 1):=by
  funext a c;unfold eA rowP
  by_cases e:a=i∧c=n
  · rw [if_pos e,if_pos (by omega),h,e.1,e.2]
  · rw [if_neg e]
    by_cases e2:a=i∧c<n
    · rw [if_pos e2,if_pos (by omega)]
    · rw [if_neg e2,if_neg (by omega)]
theorem iT {M F:Nat→Nat→Int} {i n:Nat} (h:∀a c,a≠i→F a c=M a c) {a c:Nat} (hc:c<n):rowP M F i n a c=F a c:=by
  unfold rowP
  by_cases e:a=i
  · rw [if_pos ⟨e,hc⟩]
  · rw [if_neg (by omega),h a c e]
theorem oJ {M:Nat→Nat→Int} {i j:Nat} {k:Int} (a c:Nat) (h:a≠i):da M i j k a c=M a c:=by unfold da;rw [if_neg h]
theorem oI {M:Nat→Nat→Int} {i:Nat} (a c:Nat) (h:a≠i):dv M i a c=M a c:=by unfold dv;rw [if_neg h]
theorem qQ {M:Nat→Nat→Int} {i j:Nat} {k:Int} (c:Nat):M i c + k*M j c=da M i j k i c:=by unfold da;rw [if_pos rfl]
theorem qP {M:Nat→Nat→Int} {i:Nat} (c:Nat): -(M i c)=dv M i i c:=by unfold dv;rw [if_pos rfl]
theorem Bw {z:Int}:z.sign≠0↔iG z:=by unfold iG;simp [Int.sign_eq_zero_iff_zero]
theorem pL {z:Int} {b:Nat} (h:z.natAbs<2^b):(-z).natAbs<2^b:=by rw [Int.natAbs_neg];exact h
end Go.TL
namespace Go.TL
open Go.RowKit Go.Proofs
set_option linter.unusedVariables false
set_option linter.unusedSimpArgs false
set_option maxRecDepth 10000 in
theorem qN (w:World) (x:Value) (zx:Int) (btx:Nat) (y:Value) (zy:Int) (bty:Nat) (hx:al w x zx btx) (hy:al w y zy bty) (hzy:zy≠0) (hl:btx + bty + 300≤bp):Calls Tryz.prog 55 #[x,y] w (cj w fun v w'=>al w' v (zx/zy) btx):=by
 have hLIM:bp=562949953421312:=rfl;refine aj (N:=16) (rs:= #[.cell 4 49]) Tryz.func55 rfl rfl rfl (Nat.le_of_ble_eq_true rfl) ?_;have hX:aF w w:=aF.refl w;refine ab ?_;obtain ⟨ca1,cb1,hq1,ho1,ho2⟩:=al.cells (al.ext hx hX);have qi1:al w (.agg #[ca1,cb1]) zx btx:=hq1▸(al.ext hx hX);refine RL.x rfl rfl (df.box [ca1,cb1] hq1 rfl) ?_;rintro _ w1 ⟨g1,rfl,hge1,hx1,hA1⟩;replace qi1:=al.ext qi1 hx1;replace hX:=aF.trans hX hx1;obtain ⟨ca2,cb2,hq2,ho3,ho4⟩:=al.cells (al.ext hy hX);have qi2:al w1 (.agg #[ca2,cb2]) zy bty:=hq2▸(al.ext hy hX);refine RL.x rfl rfl (df.box [ca2,cb2] hq2 rfl) ?_;rintro _ w2 ⟨g2,rfl,hge2,hx2,hA2⟩;replace qi1:=al.ext qi1 hx2;replace hA1:=bc.ext hA1 hx2;replace qi2:=al.ext qi2 hx2;replace hX:=aF.trans hX hx2;refine RL.x rfl rfl (df.alloc [.bool (false),.slice (none) (0) (0)] bC rfl) ?_;rintro _ w3 ⟨g3,rfl,hge3,hx3,hA3⟩;have hbs3:w.heap.size≤g3:=Nat.le_trans hX.size hge3;replace qi1:=al.ext qi1 hx3;replace hA1:=bc.ext hA1 hx3;replace qi2:=al.ext qi2 hx3;replace hA2:=bc.ext hA2 hx3;replace hX:=aF.trans hX hx3;refine RL.nil ?_;refine ab ?_;refine RL.p rfl rfl (ah [ca1,cb1] an rfl (hA1.cells 0 _ rfl rfl)) ?_;refine RL.p rfl rfl (ah [ca2,cb2] an rfl (hA2.cells 0 _ rfl rfl)) ?_;refine RL.x rfl rfl (df.call xS (aw rfl rfl) (oH _ _ _ _ _ _ _ qi1 qi2 hzy hl)) ?_;rintro _ w4 ⟨hx4,v1,v2,rfl,q1,q2⟩;replace hA3:=bc.ext hA3 hx4;replace hX:=aF.trans hX hx4;refine RL.p rfl rfl (cK.move rfl) ?_;refine RL.p rfl rfl (cK.extract rfl rfl) ?_;refine RL.p rfl rfl (cK.extract rfl rfl) ?_;refine RL.p rfl rfl (cK.extract rfl rfl) ?_;refine RL.x rfl rfl (df.alloc [.bool (false),.slice (none) (0) (0)] bC rfl) ?_;rintro _ w5 ⟨g4,rfl,hge4,hx5,hA4⟩;have ne6:g3≠g4:=Nat.ne_of_lt (Nat.lt_of_lt_of_le hA3.lt hge4);have hbs4:w.heap.size≤g4:=Nat.le_trans hX.size hge4;replace hA3:=bc.ext hA3 hx5;replace q1:=al.ext q1 hx5;replace q2:=al.ext q2 hx5;replace hX:=aF.trans hX hx5;refine RL.x rfl rfl (df.alloc [.bool (false),.slice (none) (0) (0)] bC rfl) ?_;rintro _ w6 ⟨g5,rfl,hge5,hx6,hA5⟩;have ne9:g3≠g5:=Nat.ne_of_lt (Nat.lt_of_lt_of_le hA3.lt hge5);have ne10:g4≠g5:=Nat.ne_of_lt (Nat.lt_of_lt_of_le hA4.lt hge5);have hbs5:w.heap.size≤g5:=Nat.le_trans hX.size hge5;replace hA3:=bc.ext hA3 hx6;replace q1:=al.ext q1 hx6;replace q2:=al.ext q2 hx6;replace hA4:=bc.ext hA4 hx6;replace hX:=aF.trans hX hx6;obtain ⟨ca3,cb3,hq3,ho5,ho6⟩:=al.cells q1;have qi3:al w6 (.agg #[ca3,cb3]) ((zx)/(zy)) btx:=hq3▸q1;refine RL.x rfl rfl (df.store [ca3,cb3] aL rfl hq3 rfl hA4 (Nat.le_of_ble_eq_true rfl) (bf ho5 ho6)) ?_;rintro _ w7 ⟨hk1,hnew⟩;replace hA3:=hA3.keep hk1 ne6;replace q2:=ae q2 hk1 hA4 (by decide);replace hA5:=hA5.keep hk1 (Ne.symm ne10);replace qi3:=ae qi3 hk1 hA4 (by decide);replace hX:=hX.step hk1 (fun b e=>by subst e;exact hbs4);replace hA4:=hnew.lit [ca3,cb3] rfl;clear hnew;obtain ⟨ca4,cb4,hq4,ho7,ho8⟩:=al.cells q2;refine RL.x rfl rfl (df.store [ca4,cb4] aL rfl hq4 rfl hA5 (Nat.le_of_ble_eq_true rfl) (bf ho7 ho8)) ?_;rintro _ w8 ⟨hk2,hnew⟩;replace hA3:=hA3.keep hk2 ne9;replace hA4:=hA4.keep hk2 ne10;replace qi3:=ae qi3 hk2 hA5 (by decide);replace hX:=hX.step hk2 (fun b e=>by subst e;exact hbs5);clear hnew;refine RL.p rfl rfl (cK.assign rfl) ?_;refine RL.nil ?_;refine ab ?_;refine RL.p rfl rfl (ah [ca3,cb3] an rfl (hA4.cells 0 _ rfl rfl)) ?_;refine RL.x rfl rfl (df.store [ca3,cb3] aL rfl rfl rfl hA3 (Nat.le_of_ble_eq_true rfl) (bf ho5 ho6)) ?_;rintro _ w9 ⟨hk3,hnew⟩;replace qi3:=ae qi3 hk3 hA3 (by decide);replace hX:=hX.step hk3 (fun b e=>by subst e;exact hbs3);replace hA3:=hnew.lit [ca3,cb3] rfl;clear hnew;refine RL.nil ?_;refine WP.ret ?_;refine ⟨.agg #[ca3,cb3],Bu.one (ak [ca3,cb3] an rfl (hA3.cells 0 _ rfl rfl)),_,rfl,hX,?_⟩;dsimp only;exact qi3
set_option maxRecDepth 10000 in
theorem qL (w:World) (x:Value) (nx:Nat) (zx:Nat→Int) (btx:Nat) (hx:bD w x nx zx btx):Calls Tryz.prog 63 #[x] w (cj w fun v w'=>v= .int .i64 (de iG zx nx)):=by
 have hLIM:bp=562949953421312:=rfl;have hlimx:=hx.lim;refine aj (N:=17) (rs:= #[.tmp 2]) Tryz.func63 rfl rfl rfl (Nat.le_of_ble_eq_true rfl) ?_;have hX:aF w w:=aF.refl w;refine ab ?_;refine RL.p rfl rfl (cK.assign rfl) ?_;refine RL.nil ?_;refine WP.seq ?_;refine ab ?_;refine RL.p rfl rfl (cK.assign rfl) ?_;refine RL.nil ?_;refine WP.block ?_;refine WP.loop (fun mz ez uz=>∃i:Nat,(mz=nx - i)∧(ez 0=x)∧(ez 3= .int .i64 ((i:Nat)))∧(i≤nx)∧(de iG zx i= -1)∧(aF w uz)) (nx - 0) ?_ ?_
 · exact ⟨0,rfl,rfl,rfl,(by omega),rfl,hX⟩
 rintro m1 e1 w1 ⟨i,hm1,s0_e1,s3_e1,hi,hnone,hX1⟩;refine WP.seq ?_;refine ab ?_;refine RL.p rfl rfl (cK.move s3_e1) ?_;refine RL.p rfl rfl (cK.move s0_e1) ?_;refine RL.p rfl rfl (bW bX rfl (bD.ext hx hX1)) ?_;refine RL.p rfl rfl (cK.lss rfl rfl) ?_;refine RL.nil ?_;refine af (((i:Nat):Int)<((nx:Nat):Int)) rfl (fun c7=> ?_) (fun c7=> ?_)
 ·
  refine WP.skip ?_;refine qf.norm ?_;refine WP.seq ?_;refine WP.block ?_;refine ab ?_;refine RL.p rfl rfl (cK.move s0_e1) ?_;refine RL.p rfl rfl (cK.move s3_e1) ?_;refine RL.x rfl rfl (aQ (j:=i) bX rfl (bD.ext hx hX1) rfl (by omega) (by omega)) ?_;rintro v1 _ ⟨rfl,q1⟩;refine RL.x rfl rfl (aW an rfl q1) ?_;rintro v2 _ ⟨rfl,q2⟩;refine RL.x rfl rfl (df.call gl (aN rfl) (fe _ _ _ _ q2)) ?_;rintro _ w2 ⟨hx1,rfl⟩;replace hX1:=aF.trans hX1 hx1;refine RL.p rfl rfl (cK.neq rfl rfl) ?_;refine RL.nil ?_;refine af (((zx i:Int).sign:Int)≠(0:Int)) rfl (fun c15=> ?_) (fun c15=> ?_)
  ·
   refine ab ?_;refine RL.p rfl rfl (cK.move s3_e1) ?_;refine RL.p rfl rfl (cK.assign rfl) ?_;refine RL.nil ?_;refine WP.ret ?_;refine jp.ret ?_;refine qf.ret ?_;refine qf.ret ?_;refine jp.ret ?_;refine qf.ret ?_;refine ⟨.int .i64 ((i:Nat)),Bu.one (fZ.tmp rfl),_,rfl,hX1,?_⟩;dsimp only;rw [em hnone (Bw.mp c15) (by omega)]
  ·
   refine WP.skip ?_;refine jp.norm ?_;refine qf.norm ?_;refine WP.region ?_;refine RL.p rfl rfl (cK.move s3_e1) ?_;refine RL.p rfl rfl (cK.add (c:=((i + 1:Nat):Int)) rfl rfl (bY (by omega))) ?_;refine RL.p rfl rfl (cK.assign rfl) ?_;refine RL.nil ?_;refine qf.norm ⟨_,(by omega),i + 1,rfl,s0_e1,rfl,(by omega),(gY hnone (fun h=>c15 (Bw.mpr h))),hX1⟩
 ·
  refine WP.exit ?_;refine qf.exit ?_;refine qf.exit ?_;refine jp.same ?_;refine qf.norm ?_;refine ab ?_;refine RL.p rfl rfl (cK.assign rfl) ?_;refine RL.nil ?_;refine WP.ret ?_;refine ⟨.int .i64 (-1),Bu.one (fZ.tmp rfl),_,rfl,hX1,?_⟩;dsimp only;rw [show nx=i by omega,hnone]
set_option maxRecDepth 10000 in
theorem qO (w:World) (B gw r c:Nat) (M U V:Nat→Nat→Int) (b:Nat) (i:Nat) (j:Nat) (k:Value) (zk:Int) (btk:Nat) (hW:ci 83 w B gw r c M U V b) (hi:i<r) (hj:j<r) (hk:al w k zk btk) (hij:i≠j) (hb:btk + b + 2≤bp) (hfM:∀a,a<c→(M i a + zk*M j a).natAbs<2^b) (hfU:∀a,a<r→(U i a + zk*U j a).natAbs<2^b) (hfV:∀a,a<r→(V a j - zk*V a i).natAbs<2^b):Calls Tryz.prog 51 #[.pointer (some ⟨gw,0,none⟩),.int .i64 (i:Nat),.int .i64 (j:Nat),k] w (mj (dz B w) w fun v w'=>ci 83 w' B gw r c (da M i j zk) (da U i j zk) (dQ V i j zk) b):=by
 have hLIM:bp=562949953421312:=rfl;obtain ⟨hm,hu,hv,km,ku,kv,ρm,ρu,ρv,hBg,hG,hMm,hMu,hMv,nmu,nmv,nuv,dmu,dmv,duv⟩:=hW;have hdm:=cM.dlim hMm;have hcm:=cM.clim hMm;have hdu:=cM.dlim hMu;have hdv:=cM.dlim hMv;have h0m:=hMm;have h0u:=hMu;have h0v:=hMv;refine aj (N:=143) (rs:= #[]) Tryz.func51 rfl rfl rfl (Nat.le_of_ble_eq_true rfl) ?_;have hX:Keeps (dz B w) w w:=Keeps.refl _ w;refine ab ?_;obtain ⟨ca1,cb1,hq1,ho1,ho2⟩:=al.cells hk;have qi1:al w (.agg #[ca1,cb1]) zk btk:=hq1▸hk;refine RL.x rfl rfl (df.box [ca1,cb1] hq1 rfl) ?_;rintro _ w1 ⟨g1,rfl,hge1,hx1,hA1⟩;have ne2:∀ii,ii<r→ρm ii≠g1:=fun ii hi=>Nat.ne_of_lt (Nat.lt_of_lt_of_le (cM.rowlt hMm hi) hge1)
 have ne4:∀ii,ii<r→ρu ii≠g1:=fun ii hi=>Nat.ne_of_lt (Nat.lt_of_lt_of_le (cM.rowlt hMu hi) hge1)
 have ne6:∀ii,ii<r→ρv ii≠g1:=fun ii hi=>Nat.ne_of_lt (Nat.lt_of_lt_of_le (cM.rowlt hMv hi) hge1)
 replace hG:=bc.ext hG hx1;replace hMm:=cM.ext hMm hx1;replace hMu:=cM.ext hMu hx1;replace hMv:=cM.ext hMv hx1;replace hk:=al.ext hk hx1;replace qi1:=al.ext qi1 hx1;replace hX:=aT hX hx1;refine RL.nil ?_;refine WP.seq ?_;refine ab ?_;refine RL.p rfl rfl (cK.assign rfl) ?_;refine RL.nil ?_;refine WP.block ?_;refine WP.loop (fun mz ez uz=>∃ja:Nat,(mz=c - ja)∧(ez 0= .pointer (some ⟨gw,0,none⟩))∧(ez 1= .int .i64 ((i:Nat)))∧(ez 2= .int .i64 ((j:Nat)))∧(ez 7= .pointer (some ⟨g1,0,none⟩))∧(ez 8= .int .i64 ((ja:Nat)))∧(ja≤c)∧(Keeps (dz B w) w uz)∧(bc uz gw 83 9 (bP [.int .i64 ((r:Nat)),.int .i64 ((c:Nat)),.slice (some ⟨hm,0,none⟩) (r) (km),.int .i64 ((r:Nat)),.int .i64 ((r:Nat)),.slice (some ⟨hu,0,none⟩) (r) (ku),.int .i64 ((r:Nat)),.int .i64 ((r:Nat)),.slice (some ⟨hv,0,none⟩) (r) (kv)]))∧(cM uz B hm km r c ρm (rowP M (da M i j zk) i ja) b)∧(cM uz B hu ku r r ρu U b)∧(cM uz B hv kv r r ρv V b)∧(al uz k zk btk)∧(al uz (.agg #[ca1,cb1]:Value) zk btk)∧(bc uz g1 49 2 (bP [ca1,cb1]))) (c - 0) ?_ ?_
 · exact ⟨0,rfl,rfl,rfl,rfl,rfl,rfl,(by omega),hX,hG,bH hMm (gU M (da M i j zk) i),hMu,hMv,hk,qi1,hA1⟩
 rintro m1 e1 w2 ⟨ja,hm1,s0_e1,s1_e1,s2_e1,s7_e1,s8_e1,hja,hX1,hG,hMm,hMu,hMv,hk,qi1,hA1⟩;refine WP.seq ?_;refine ab ?_;refine RL.p rfl rfl (cK.move s8_e1) ?_;refine RL.p rfl rfl (cK.move s0_e1) ?_;refine RL.p rfl rfl (cK.nilCheck rfl) ?_;refine RL.p rfl rfl (cK.fieldAddr cR rfl) ?_;refine RL.p rfl rfl (cK.fieldAddr bG rfl) ?_;refine RL.p rfl rfl (cK.load bI rfl (hG.at_ (i:=1) rfl rfl)) ?_;refine RL.p rfl rfl (cK.lss rfl rfl) ?_;refine RL.nil ?_;refine af (((ja:Nat):Int)<((c:Nat):Int)) rfl (fun c17=> ?_) (fun c17=> ?_)
 ·
  refine WP.skip ?_;refine qf.norm ?_;refine WP.seq ?_;refine WP.block ?_;refine WP.ds (hmono:=⟨⟨ac _,ac _,ac _,ac _,ac _,ac _,ac _,ct _ _,ac _,ac _,ac _,ac _,ac _,ac _,ac _,ac _,ct _ _,ac _,ac _,bA _ _,ac _,ac _,ac _,ac _,ac _,ac _,ac _,ac _,ct _ _,ac _,ac _,bA _ _,bA _ _,bA _ _,ac _,trivial⟩⟩) am 35 (_::_::_::_::_:: [_,_,_,_,_,_,_,_,_,_,_,_,_,_,_,_,_,_,_,_,_,_,_,_,_,_,_,_,_,_]) rfl rfl (fun e_ w_ BY BX=>⟨fun _=>aa (cK.move ((BX 0 rfl s0_e1))),fun BW=>aa (cK.nilCheck ((BW 0 rfl))),fun BW=>aa (cK.fieldAddr cR ((BW 1 rfl))),fun BW=>aa (cK.fieldAddr aq ((BW 2 rfl))),fun BW=>aa (cK.load aG ((BW 3 rfl)) ((bc.ext hG BY).at_ (i:=2) rfl rfl)),fun _=>aa (cK.move ((BX 1 rfl s1_e1))),fun BW=>aa (cK.index (j:=i) az ((BW 4 rfl)) ((BW 5 rfl)) rfl (by omega) (by omega)),fun BW=>ag (ao (i:=i) aR (BW 6 rfl) (cM.ext hMm BY) (by omega)),fun _=>aa (cK.move ((BX 8 rfl s8_e1))),fun _=>aa (cK.move ((BX 0 rfl s0_e1))),fun BW=>aa (cK.nilCheck ((BW 9 rfl))),fun BW=>aa (cK.fieldAddr cR ((BW 10 rfl))),fun BW=>aa (cK.fieldAddr aq ((BW 11 rfl))),fun BW=>aa (cK.load aG ((BW 12 rfl)) ((bc.ext hG BY).at_ (i:=2) rfl rfl)),fun _=>aa (cK.move ((BX 1 rfl s1_e1))),fun BW=>aa (cK.index (j:=i) az ((BW 13 rfl)) ((BW 14 rfl)) rfl (by omega) (by omega)),fun BW=>ag (ao (i:=i) aR (BW 15 rfl) (cM.ext hMm BY) (by omega)),fun _=>aa (cK.move ((BX 8 rfl s8_e1))),fun BW=>aa (av (j:=ja) bl (BW 16 rfl) rfl (BW 17 rfl) (by omega) (by omega)),fun BW=>ag (aO (j:=ja) an (BW 18 rfl) (cM.row (cM.ext hMm BY) (by omega)) (by omega)),fun _=>aa (ah [ca1,cb1] an ((BX 7 rfl s7_e1)) ((bc.ext hA1 BY).cells 0 _ rfl rfl)),fun _=>aa (cK.move ((BX 0 rfl s0_e1))),fun BW=>aa (cK.nilCheck ((BW 21 rfl))),fun BW=>aa (cK.fieldAddr cR ((BW 22 rfl))),fun BW=>aa (cK.fieldAddr aq ((BW 23 rfl))),fun BW=>aa (cK.load aG ((BW 24 rfl)) ((bc.ext hG BY).at_ (i:=2) rfl rfl)),fun _=>aa (cK.move ((BX 2 rfl s2_e1))),fun BW=>aa (cK.index (j:=j) az ((BW 25 rfl)) ((BW 26 rfl)) rfl (by omega) (by omega)),fun BW=>ag (ao (i:=j) aR (BW 27 rfl) (cM.ext hMm BY) (by omega)),fun _=>aa (cK.move ((BX 8 rfl s8_e1))),fun BW=>aa (av (j:=ja) bl (BW 28 rfl) rfl (BW 29 rfl) (by omega) (by omega)),fun BW=>ag (aO (j:=ja) an (BW 30 rfl) (cM.row (cM.ext hMm BY) (by omega)) (by omega)),fun BW=>df.call iK (aw ((BW 20 rfl)) rfl) (iW _ _ _ _ _ _ _ ((btk) + (b)) ((al.ext qi1 BY)) ((BW 31 rfl)) (by omega) (by omega)),fun BW=>df.call lf (aw rfl rfl) (lE _ _ _ _ _ _ _ (max (b) ((btk) + (b)) + 1) ((BW 19 rfl)) ((BW 32 rfl)) (by omega) (by omega) (by omega)),fun BW=>aa (av (j:=ja) bl (BW 7 rfl) rfl (BW 8 rfl) (by omega) (by omega)),trivial⟩) ?_;intro e2 w3 hx2 ho3 hf1;replace hG:=bc.ext hG hx2;replace hMm:=cM.ext hMm hx2;replace hMu:=cM.ext hMu hx2;replace hMv:=cM.ext hMv hx2;replace hk:=al.ext hk hx2;replace qi1:=al.ext qi1 hx2;replace hA1:=bc.ext hA1 hx2;replace hX1:=aT hX1 hx2;have s0_e2:=ho3 0 rfl s0_e1;have s1_e2:=ho3 1 rfl s1_e1;have s2_e2:=ho3 2 rfl s2_e1;have s7_e2:=ho3 7 rfl s7_e1;have s8_e2:=ho3 8 rfl s8_e1;have s53_e2:al w3 (e2 53) (((rowP M (da M i j zk) i ja) i ja:Int) + ((zk:Int)*((rowP M (da M i j zk) i ja) j ja:Int):Int)) (max (b) ((btk) + (b)) + 1):=hf1 33 rfl;have s54_e2:e2 54=_:=hf1 34 rfl;refine RL.x rfl rfl (bT (i:=i) (j:=ja) aL s54_e2 rfl (al.eq s53_e2 (by rw [gV,lm _ _ _ _ hij]) (hfM ja (by omega)) (by omega)) hMm (by omega) (by omega)) ?_;rintro _ w4 ⟨hk1,hN1⟩;have hR1:=cM.row (i:=i) hMm (by omega);replace hG:=aU hG hk1 hR1 (by decide);replace hMu:=bq hMu hk1 hR1 (fun ii hii=>Ne.symm (dmu i ii (by omega) hii));replace hMv:=bq hMv hk1 hR1 (fun ii hii=>Ne.symm (dmv i ii (by omega) hii));replace hk:=bZ hk hk1 hR1;replace qi1:=bZ qi1 hk1 hR1;replace hA1:=hA1.keep hk1 (Ne.symm (ne2 i (by omega)));replace hX1:=hX1.step hk1 (fun b e=>by subst e;exact (.inl (dm (i:=i) h0m (by omega))));replace hMm:=hN1;clear hR1;refine RL.nil ?_;refine jp.norm ?_;refine qf.norm ?_;refine WP.region ?_;refine RL.p rfl rfl (cK.move s8_e2) ?_;refine RL.p rfl rfl (cK.add (c:=((ja + 1:Nat):Int)) rfl rfl (bY (by omega))) ?_;refine RL.p rfl rfl (cK.assign rfl) ?_;refine RL.nil ?_;refine qf.norm ⟨_,(by omega),ja + 1,rfl,s0_e2,s1_e2,s2_e2,s7_e2,rfl,(by omega),hX1,hG,bH hMm (gW (qQ _)),hMu,hMv,hk,qi1,hA1⟩
 ·
  refine WP.exit ?_;refine qf.exit ?_;refine qf.exit ?_;refine jp.same ?_;refine qf.norm ?_;refine WP.seq ?_;refine ab ?_;refine RL.p rfl rfl (cK.assign rfl) ?_;refine RL.nil ?_;refine WP.block ?_;refine WP.loop (fun mz ez uz=>∃jb:Nat,(mz=r - jb)∧(ez 0= .pointer (some ⟨gw,0,none⟩))∧(ez 1= .int .i64 ((i:Nat)))∧(ez 2= .int .i64 ((j:Nat)))∧(ez 7= .pointer (some ⟨g1,0,none⟩))∧(ez 9= .int .i64 ((jb:Nat)))∧(jb≤r)∧(Keeps (dz B w) w uz)∧(bc uz gw 83 9 (bP [.int .i64 ((r:Nat)),.int .i64 ((c:Nat)),.slice (some ⟨hm,0,none⟩) (r) (km),.int .i64 ((r:Nat)),.int .i64 ((r:Nat)),.slice (some ⟨hu,0,none⟩) (r) (ku),.int .i64 ((r:Nat)),.int .i64 ((r:Nat)),.slice (some ⟨hv,0,none⟩) (r) (kv)]))∧(cM uz B hm km r c ρm (rowP M (da M i j zk) i ja) b)∧(cM uz B hu ku r r ρu (rowP U (da U i j zk) i jb) b)∧(cM uz B hv kv r r ρv V b)∧(al uz k zk btk)∧(al uz (.agg #[ca1,cb1]:Value) zk btk)∧(bc uz g1 49 2 (bP [ca1,cb1]))) (r - 0) ?_ ?_
  · exact ⟨0,rfl,s0_e1,s1_e1,s2_e1,s7_e1,rfl,(by omega),hX1,hG,hMm,bH hMu (gU U (da U i j zk) i),hMv,hk,qi1,hA1⟩
  rintro m2 e3 w5 ⟨jb,hm2,s0_e3,s1_e3,s2_e3,s7_e3,s9_e3,hjb,hX2,hG,hMm,hMu,hMv,hk,qi1,hA1⟩;refine WP.seq ?_;refine ab ?_;refine RL.p rfl rfl (cK.move s9_e3) ?_;refine RL.p rfl rfl (cK.move s0_e3) ?_;refine RL.p rfl rfl (cK.nilCheck rfl) ?_;refine RL.p rfl rfl (cK.fieldAddr dU rfl) ?_;refine RL.p rfl rfl (cK.fieldAddr bG rfl) ?_;refine RL.p rfl rfl (cK.load bI rfl (hG.at_ (i:=4) rfl rfl)) ?_;refine RL.p rfl rfl (cK.lss rfl rfl) ?_;refine RL.nil ?_;refine af (((jb:Nat):Int)<((r:Nat):Int)) rfl (fun c61=> ?_) (fun c61=> ?_)
  ·
   refine WP.skip ?_;refine qf.norm ?_;refine WP.seq ?_;refine WP.block ?_;refine WP.ds (hmono:=⟨⟨ac _,ac _,ac _,ac _,ac _,ac _,ac _,ct _ _,ac _,ac _,ac _,ac _,ac _,ac _,ac _,ac _,ct _ _,ac _,ac _,bA _ _,ac _,ac _,ac _,ac _,ac _,ac _,ac _,ac _,ct _ _,ac _,ac _,bA _ _,bA _ _,bA _ _,ac _,trivial⟩⟩) am 35 (_::_::_::_::_:: [_,_,_,_,_,_,_,_,_,_,_,_,_,_,_,_,_,_,_,_,_,_,_,_,_,_,_,_,_,_]) rfl rfl (fun e_ w_ BY BX=>⟨fun _=>aa (cK.move ((BX 0 rfl s0_e3))),fun BW=>aa (cK.nilCheck ((BW 0 rfl))),fun BW=>aa (cK.fieldAddr dU ((BW 1 rfl))),fun BW=>aa (cK.fieldAddr aq ((BW 2 rfl))),fun BW=>aa (cK.load aG ((BW 3 rfl)) ((bc.ext hG BY).at_ (i:=5) rfl rfl)),fun _=>aa (cK.move ((BX 1 rfl s1_e3))),fun BW=>aa (cK.index (j:=i) az ((BW 4 rfl)) ((BW 5 rfl)) rfl (by omega) (by omega)),fun BW=>ag (ao (i:=i) aR (BW 6 rfl) (cM.ext hMu BY) (by omega)),fun _=>aa (cK.move ((BX 9 rfl s9_e3))),fun _=>aa (cK.move ((BX 0 rfl s0_e3))),fun BW=>aa (cK.nilCheck ((BW 9 rfl))),fun BW=>aa (cK.fieldAddr dU ((BW 10 rfl))),fun BW=>aa (cK.fieldAddr aq ((BW 11 rfl))),fun BW=>aa (cK.load aG ((BW 12 rfl)) ((bc.ext hG BY).at_ (i:=5) rfl rfl)),fun _=>aa (cK.move ((BX 1 rfl s1_e3))),fun BW=>aa (cK.index (j:=i) az ((BW 13 rfl)) ((BW 14 rfl)) rfl (by omega) (by omega)),fun BW=>ag (ao (i:=i) aR (BW 15 rfl) (cM.ext hMu BY) (by omega)),fun _=>aa (cK.move ((BX 9 rfl s9_e3))),fun BW=>aa (av (j:=jb) bl (BW 16 rfl) rfl (BW 17 rfl) (by omega) (by omega)),fun BW=>ag (aO (j:=jb) an (BW 18 rfl) (cM.row (cM.ext hMu BY) (by omega)) (by omega)),fun _=>aa (ah [ca1,cb1] an ((BX 7 rfl s7_e3)) ((bc.ext hA1 BY).cells 0 _ rfl rfl)),fun _=>aa (cK.move ((BX 0 rfl s0_e3))),fun BW=>aa (cK.nilCheck ((BW 21 rfl))),fun BW=>aa (cK.fieldAddr dU ((BW 22 rfl))),fun BW=>aa (cK.fieldAddr aq ((BW 23 rfl))),fun BW=>aa (cK.load aG ((BW 24 rfl)) ((bc.ext hG BY).at_ (i:=5) rfl rfl)),fun _=>aa (cK.move ((BX 2 rfl s2_e3))),fun BW=>aa (cK.index (j:=j) az ((BW 25 rfl)) ((BW 26 rfl)) rfl (by omega) (by omega)),fun BW=>ag (ao (i:=j) aR (BW 27 rfl) (cM.ext hMu BY) (by omega)),fun _=>aa (cK.move ((BX 9 rfl s9_e3))),fun BW=>aa (av (j:=jb) bl (BW 28 rfl) rfl (BW 29 rfl) (by omega) (by omega)),fun BW=>ag (aO (j:=jb) an (BW 30 rfl) (cM.row (cM.ext hMu BY) (by omega)) (by omega)),fun BW=>df.call iK (aw ((BW 20 rfl)) rfl) (iW _ _ _ _ _ _ _ ((btk) + (b)) ((al.ext qi1 BY)) ((BW 31 rfl)) (by omega) (by omega)),fun BW=>df.call lf (aw rfl rfl) (lE _ _ _ _ _ _ _ (max (b) ((btk) + (b)) + 1) ((BW 19 rfl)) ((BW 32 rfl)) (by omega) (by omega) (by omega)),fun BW=>aa (av (j:=jb) bl (BW 7 rfl) rfl (BW 8 rfl) (by omega) (by omega)),trivial⟩) ?_;intro e4 w6 hx3 ho4 hf2;replace hG:=bc.ext hG hx3;replace hMm:=cM.ext hMm hx3;replace hMu:=cM.ext hMu hx3;replace hMv:=cM.ext hMv hx3;replace hk:=al.ext hk hx3;replace qi1:=al.ext qi1 hx3;replace hA1:=bc.ext hA1 hx3;replace hX2:=aT hX2 hx3;have s0_e4:=ho4 0 rfl s0_e3;have s1_e4:=ho4 1 rfl s1_e3;have s2_e4:=ho4 2 rfl s2_e3;have s7_e4:=ho4 7 rfl s7_e3;have s9_e4:=ho4 9 rfl s9_e3;have s97_e4:al w6 (e4 97) (((rowP U (da U i j zk) i jb) i jb:Int) + ((zk:Int)*((rowP U (da U i j zk) i jb) j jb:Int):Int)) (max (b) ((btk) + (b)) + 1):=hf2 33 rfl;have s98_e4:e4 98=_:=hf2 34 rfl;refine RL.x rfl rfl (bT (i:=i) (j:=jb) aL s98_e4 rfl (al.eq s97_e4 (by rw [gV,lm _ _ _ _ hij]) (hfU jb (by omega)) (by omega)) hMu (by omega) (by omega)) ?_;rintro _ w7 ⟨hk2,hN2⟩;have hR2:=cM.row (i:=i) hMu (by omega);replace hG:=aU hG hk2 hR2 (by decide);replace hMm:=bq hMm hk2 hR2 (fun ii hii=>dmu ii i hii (by omega));replace hMv:=bq hMv hk2 hR2 (fun ii hii=>Ne.symm (duv i ii (by omega) hii));replace hk:=bZ hk hk2 hR2;replace qi1:=bZ qi1 hk2 hR2;replace hA1:=hA1.keep hk2 (Ne.symm (ne4 i (by omega)));replace hX2:=hX2.step hk2 (fun b e=>by subst e;exact (.inl (dm (i:=i) h0u (by omega))));replace hMu:=hN2;clear hR2;refine RL.nil ?_;refine jp.norm ?_;refine qf.norm ?_;refine WP.region ?_;refine RL.p rfl rfl (cK.move s9_e4) ?_;refine RL.p rfl rfl (cK.add (c:=((jb + 1:Nat):Int)) rfl rfl (bY (by omega))) ?_;refine RL.p rfl rfl (cK.assign rfl) ?_;refine RL.nil ?_;refine qf.norm ⟨_,(by omega),jb + 1,rfl,s0_e4,s1_e4,s2_e4,s7_e4,rfl,(by omega),hX2,hG,hMm,bH hMu (gW (qQ _)),hMv,hk,qi1,hA1⟩
  ·
   refine WP.exit ?_;refine qf.exit ?_;refine qf.exit ?_;refine jp.same ?_;refine qf.norm ?_;refine ab ?_;refine RL.p rfl rfl (cK.assign rfl) ?_;refine RL.nil ?_;refine WP.block ?_;refine WP.loop (fun mz ez uz=>∃a:Nat,(mz=r - a)∧(ez 0= .pointer (some ⟨gw,0,none⟩))∧(ez 1= .int .i64 ((i:Nat)))∧(ez 2= .int .i64 ((j:Nat)))∧(ez 7= .pointer (some ⟨g1,0,none⟩))∧(ez 10= .int .i64 ((a:Nat)))∧(a≤r)∧(Keeps (dz B w) w uz)∧(bc uz gw 83 9 (bP [.int .i64 ((r:Nat)),.int .i64 ((c:Nat)),.slice (some ⟨hm,0,none⟩) (r) (km),.int .i64 ((r:Nat)),.int .i64 ((r:Nat)),.slice (some ⟨hu,0,none⟩) (r) (ku),.int .i64 ((r:Nat)),.int .i64 ((r:Nat)),.slice (some ⟨hv,0,none⟩) (r) (kv)]))∧(cM uz B hm km r c ρm (rowP M (da M i j zk) i ja) b)∧(cM uz B hu ku r r ρu (rowP U (da U i j zk) i jb) b)∧(cM uz B hv kv r r ρv (eo V (dQ V i j zk) a) b)∧(al uz k zk btk)∧(al uz (.agg #[ca1,cb1]:Value) zk btk)∧(bc uz g1 49 2 (bP [ca1,cb1]))) (r - 0) ?_ ?_
   · exact ⟨0,rfl,s0_e3,s1_e3,s2_e3,s7_e3,rfl,(by omega),hX2,hG,hMm,hMu,bH hMv (eU V (dQ V i j zk)).symm,hk,qi1,hA1⟩
   rintro m3 e5 w8 ⟨a,hm3,s0_e5,s1_e5,s2_e5,s7_e5,s10_e5,ha,hX3,hG,hMm,hMu,hMv,hk,qi1,hA1⟩;refine WP.seq ?_;refine ab ?_;refine RL.p rfl rfl (cK.move s10_e5) ?_;refine RL.p rfl rfl (cK.move s0_e5) ?_;refine RL.p rfl rfl (cK.nilCheck rfl) ?_;refine RL.p rfl rfl (cK.fieldAddr dJ rfl) ?_;refine RL.p rfl rfl (cK.fieldAddr bk rfl) ?_;refine RL.p rfl rfl (cK.load bI rfl (hG.at_ (i:=6) rfl rfl)) ?_;refine RL.p rfl rfl (cK.lss rfl rfl) ?_;refine RL.nil ?_;refine af (((a:Nat):Int)<((r:Nat):Int)) rfl (fun c105=> ?_) (fun c105=> ?_)
   ·
    refine WP.skip ?_;refine qf.norm ?_;refine WP.seq ?_;refine WP.block ?_;refine WP.ds (hmono:=⟨⟨ac _,ac _,ac _,ac _,ac _,ac _,ac _,ct _ _,ac _,ac _,ac _,ac _,ac _,ac _,ac _,ac _,ct _ _,ac _,ac _,bA _ _,ac _,ac _,ac _,ac _,ac _,ac _,ac _,ac _,ct _ _,ac _,ac _,bA _ _,bA _ _,bA _ _,ac _,trivial⟩⟩) am 35 (_::_::_::_::_:: [_,_,_,_,_,_,_,_,_,_,_,_,_,_,_,_,_,_,_,_,_,_,_,_,_,_,_,_,_,_]) rfl rfl (fun e_ w_ BY BX=>⟨fun _=>aa (cK.move ((BX 0 rfl s0_e5))),fun BW=>aa (cK.nilCheck ((BW 0 rfl))),fun BW=>aa (cK.fieldAddr dJ ((BW 1 rfl))),fun BW=>aa (cK.fieldAddr aq ((BW 2 rfl))),fun BW=>aa (cK.load aG ((BW 3 rfl)) ((bc.ext hG BY).at_ (i:=8) rfl rfl)),fun _=>aa (cK.move ((BX 10 rfl s10_e5))),fun BW=>aa (cK.index (j:=a) az ((BW 4 rfl)) ((BW 5 rfl)) rfl (by omega) (by omega)),fun BW=>ag (ao (i:=a) aR (BW 6 rfl) (cM.ext hMv BY) (by omega)),fun _=>aa (cK.move ((BX 2 rfl s2_e5))),fun _=>aa (cK.move ((BX 0 rfl s0_e5))),fun BW=>aa (cK.nilCheck ((BW 9 rfl))),fun BW=>aa (cK.fieldAddr dJ ((BW 10 rfl))),fun BW=>aa (cK.fieldAddr aq ((BW 11 rfl))),fun BW=>aa (cK.load aG ((BW 12 rfl)) ((bc.ext hG BY).at_ (i:=8) rfl rfl)),fun _=>aa (cK.move ((BX 10 rfl s10_e5))),fun BW=>aa (cK.index (j:=a) az ((BW 13 rfl)) ((BW 14 rfl)) rfl (by omega) (by omega)),fun BW=>ag (ao (i:=a) aR (BW 15 rfl) (cM.ext hMv BY) (by omega)),fun _=>aa (cK.move ((BX 2 rfl s2_e5))),fun BW=>aa (av (j:=j) bl (BW 16 rfl) rfl (BW 17 rfl) (by omega) (by omega)),fun BW=>ag (aO (j:=j) an (BW 18 rfl) (cM.row (cM.ext hMv BY) (by omega)) (by omega)),fun _=>aa (ah [ca1,cb1] an ((BX 7 rfl s7_e5)) ((bc.ext hA1 BY).cells 0 _ rfl rfl)),fun _=>aa (cK.move ((BX 0 rfl s0_e5))),fun BW=>aa (cK.nilCheck ((BW 21 rfl))),fun BW=>aa (cK.fieldAddr dJ ((BW 22 rfl))),fun BW=>aa (cK.fieldAddr aq ((BW 23 rfl))),fun BW=>aa (cK.load aG ((BW 24 rfl)) ((bc.ext hG BY).at_ (i:=8) rfl rfl)),fun _=>aa (cK.move ((BX 10 rfl s10_e5))),fun BW=>aa (cK.index (j:=a) az ((BW 25 rfl)) ((BW 26 rfl)) rfl (by omega) (by omega)),fun BW=>ag (ao (i:=a) aR (BW 27 rfl) (cM.ext hMv BY) (by omega)),fun _=>aa (cK.move ((BX 1 rfl s1_e5))),fun BW=>aa (av (j:=i) bl (BW 28 rfl) rfl (BW 29 rfl) (by omega) (by omega)),fun BW=>ag (aO (j:=i) an (BW 30 rfl) (cM.row (cM.ext hMv BY) (by omega)) (by omega)),fun BW=>df.call iK (aw ((BW 20 rfl)) rfl) (iW _ _ _ _ _ _ _ ((btk) + (b)) ((al.ext qi1 BY)) ((BW 31 rfl)) (by omega) (by omega)),fun BW=>df.call og (aw rfl rfl) (oD _ _ _ _ _ _ _ (max (b) ((btk) + (b)) + 1) ((BW 19 rfl)) ((BW 32 rfl)) (by omega) (by omega) (by omega)),fun BW=>aa (av (j:=j) bl (BW 7 rfl) rfl (BW 8 rfl) (by omega) (by omega)),trivial⟩) ?_;intro e6 w9 hx4 ho5 hf3;replace hG:=bc.ext hG hx4;replace hMm:=cM.ext hMm hx4;replace hMu:=cM.ext hMu hx4;replace hMv:=cM.ext hMv hx4;replace hk:=al.ext hk hx4;replace qi1:=al.ext qi1 hx4;replace hA1:=bc.ext hA1 hx4;replace hX3:=aT hX3 hx4;have s0_e6:=ho5 0 rfl s0_e5;have s1_e6:=ho5 1 rfl s1_e5;have s2_e6:=ho5 2 rfl s2_e5;have s7_e6:=ho5 7 rfl s7_e5;have s10_e6:=ho5 10 rfl s10_e5;have s141_e6:al w9 (e6 141) (((eo V (dQ V i j zk) a) a j:Int) - ((zk:Int)*((eo V (dQ V i j zk) a) a i:Int):Int)) (max (b) ((btk) + (b)) + 1):=hf3 33 rfl;have s142_e6:e6 142=_:=hf3 34 rfl;refine RL.x rfl rfl (bT (i:=a) (j:=j) aL s142_e6 rfl (al.eq s141_e6 (by rw [dw,dw]) (hfV a (by omega)) (by omega)) hMv (by omega) (by omega)) ?_;rintro _ w10 ⟨hk3,hN3⟩;have hR3:=cM.row (i:=a) hMv (by omega);replace hG:=aU hG hk3 hR3 (by decide);replace hMm:=bq hMm hk3 hR3 (fun ii hii=>dmv ii a hii (by omega));replace hMu:=bq hMu hk3 hR3 (fun ii hii=>duv ii a hii (by omega));replace hk:=bZ hk hk3 hR3;replace qi1:=bZ qi1 hk3 hR3;replace hA1:=hA1.keep hk3 (Ne.symm (ne6 a (by omega)));replace hX3:=hX3.step hk3 (fun b e=>by subst e;exact (.inl (dm (i:=a) h0v (by omega))));replace hMv:=hN3;clear hR3;refine RL.nil ?_;refine jp.norm ?_;refine qf.norm ?_;refine WP.region ?_;refine RL.p rfl rfl (cK.move s10_e6) ?_;refine RL.p rfl rfl (cK.add (c:=((a + 1:Nat):Int)) rfl rfl (bY (by omega))) ?_;refine RL.p rfl rfl (cK.assign rfl) ?_;refine RL.nil ?_;refine qf.norm ⟨_,(by omega),a + 1,rfl,s0_e6,s1_e6,s2_e6,s7_e6,rfl,(by omega),hX3,hG,hMm,hMu,bH hMv (ig (by simp [dQ]) (fun c hc=>by simp [dQ,hc])),hk,qi1,hA1⟩
   ·
    refine WP.exit ?_;refine qf.exit ?_;refine qf.exit ?_;refine jp.same ?_;refine ⟨.tuple #[],Bu.zero,_,rfl,hX3,?_⟩;dsimp only;exact ⟨hm,hu,hv,km,ku,kv,_,_,_,hBg,hG,(cM.congr hMm (fun a2 c2 _ hc=>iT oJ (by omega))),(cM.congr hMu (fun a2 c2 _ hc=>iT oJ (by omega))),(cM.congr hMv (fun a c ha hc=>fJ V _ c (by omega))),nmu,nmv,nuv,dmu,dmv,duv⟩
set_option maxRecDepth 10000 in
theorem uf (w:World) (B gw r c:Nat) (M U V:Nat→Nat→Int) (b:Nat) (i:Nat) (hW:ci 83 w B gw r c M U V b) (hi:i<r):Calls Tryz.prog 54 #[.pointer (some ⟨gw,0,none⟩),.int .i64 (i:Nat)] w (mj (dz B w) w fun v w'=>ci 83 w' B gw r c (dv M i) (dv U i) (eH V i) b):=by
 have hLIM:bp=562949953421312:=rfl;obtain ⟨hm,hu,hv,km,ku,kv,ρm,ρu,ρv,hBg,hG,hMm,hMu,hMv,nmu,nmv,nuv,dmu,dmv,duv⟩:=hW;have hdm:=cM.dlim hMm;have hcm:=cM.clim hMm;have hdu:=cM.dlim hMu;have hdv:=cM.dlim hMv;have h0m:=hMm;have h0u:=hMu;have h0v:=hMv;have hbM:=fun a (ha:a<c)=>cM.bd hMm hi ha
 have hbU:=fun a (ha:a<r)=>cM.bd hMu hi ha
 have hbV:=fun a (ha:a<r)=>cM.bd hMv ha hi
 refine aj (N:=100) (rs:= #[]) Tryz.func54 rfl rfl rfl (Nat.le_of_ble_eq_true rfl) ?_;have hX:Keeps (dz B w) w w:=Keeps.refl _ w;refine WP.seq ?_;refine ab ?_;refine RL.p rfl rfl (cK.assign rfl) ?_;refine RL.nil ?_;refine WP.block ?_;refine WP.loop (fun mz ez uz=>∃ja:Nat,(mz=c - ja)∧(ez 0= .pointer (some ⟨gw,0,none⟩))∧(ez 1= .int .i64 ((i:Nat)))∧(ez 4= .int .i64 ((ja:Nat)))∧(ja≤c)∧(Keeps (dz B w) w uz)∧(bc uz gw 83 9 (bP [.int .i64 ((r:Nat)),.int .i64 ((c:Nat)),.slice (some ⟨hm,0,none⟩) (r) (km),.int .i64 ((r:Nat)),.int .i64 ((r:Nat)),.slice (some ⟨hu,0,none⟩) (r) (ku),.int .i64 ((r:Nat)),.int .i64 ((r:Nat)),.slice (some ⟨hv,0,none⟩) (r) (kv)]))∧(cM uz B hm km r c ρm (rowP M (dv M i) i ja) b)∧(cM uz B hu ku r r ρu U b)∧(cM uz B hv kv r r ρv V b)) (c - 0) ?_ ?_
 · exact ⟨0,rfl,rfl,rfl,rfl,(by omega),hX,hG,bH hMm (gU M (dv M i) i),hMu,hMv⟩
 rintro m1 e1 w1 ⟨ja,hm1,s0_e1,s1_e1,s4_e1,hja,hX1,hG,hMm,hMu,hMv⟩;refine WP.seq ?_;refine ab ?_;refine RL.p rfl rfl (cK.move s4_e1) ?_;refine RL.p rfl rfl (cK.move s0_e1) ?_;refine RL.p rfl rfl (cK.nilCheck rfl) ?_;refine RL.p rfl rfl (cK.fieldAddr cR rfl) ?_;refine RL.p rfl rfl (cK.fieldAddr bG rfl) ?_;refine RL.p rfl rfl (cK.load bI rfl (hG.at_ (i:=1) rfl rfl)) ?_;refine RL.p rfl rfl (cK.lss rfl rfl) ?_;refine RL.nil ?_;refine af (((ja:Nat):Int)<((c:Nat):Int)) rfl (fun c13=> ?_) (fun c13=> ?_)
 ·
  refine WP.skip ?_;refine qf.norm ?_;refine WP.seq ?_;refine WP.block ?_;refine WP.ds am 22 [_,_,_,_,_,_,_,_,_,_,_,_,_,_,_,_,_,_,_,_,_,_] rfl rfl (fun e_ w_ BY BX=>⟨fun _=>aa (cK.move ((BX 0 rfl s0_e1))),fun BW=>aa (cK.nilCheck ((BW 0 rfl))),fun BW=>aa (cK.fieldAddr cR ((BW 1 rfl))),fun BW=>aa (cK.fieldAddr aq ((BW 2 rfl))),fun BW=>aa (cK.load aG ((BW 3 rfl)) ((bc.ext hG BY).at_ (i:=2) rfl rfl)),fun _=>aa (cK.move ((BX 1 rfl s1_e1))),fun BW=>aa (cK.index (j:=i) az ((BW 4 rfl)) ((BW 5 rfl)) rfl (by omega) (by omega)),fun BW=>ag (ao (i:=i) aR (BW 6 rfl) (cM.ext hMm BY) (by omega)),fun _=>aa (cK.move ((BX 4 rfl s4_e1))),fun _=>aa (cK.move ((BX 0 rfl s0_e1))),fun BW=>aa (cK.nilCheck ((BW 9 rfl))),fun BW=>aa (cK.fieldAddr cR ((BW 10 rfl))),fun BW=>aa (cK.fieldAddr aq ((BW 11 rfl))),fun BW=>aa (cK.load aG ((BW 12 rfl)) ((bc.ext hG BY).at_ (i:=2) rfl rfl)),fun _=>aa (cK.move ((BX 1 rfl s1_e1))),fun BW=>aa (cK.index (j:=i) az ((BW 13 rfl)) ((BW 14 rfl)) rfl (by omega) (by omega)),fun BW=>ag (ao (i:=i) aR (BW 15 rfl) (cM.ext hMm BY) (by omega)),fun _=>aa (cK.move ((BX 4 rfl s4_e1))),fun BW=>aa (av (j:=ja) bl (BW 16 rfl) rfl (BW 17 rfl) (by omega) (by omega)),fun BW=>ag (aO (j:=ja) an (BW 18 rfl) (cM.row (cM.ext hMm BY) (by omega)) (by omega)),fun BW=>df.call lc (aN rfl) (lB _ _ _ _ ((BW 19 rfl))),fun BW=>aa (av (j:=ja) bl (BW 7 rfl) rfl (BW 8 rfl) (by omega) (by omega)),trivial⟩) ?_;intro e2 w2 hx1 ho1 hf1;replace hG:=bc.ext hG hx1;replace hMm:=cM.ext hMm hx1;replace hMu:=cM.ext hMu hx1;replace hMv:=cM.ext hMv hx1;replace hX1:=aT hX1 hx1;have s0_e2:=ho1 0 rfl s0_e1;have s1_e2:=ho1 1 rfl s1_e1;have s4_e2:=ho1 4 rfl s4_e1;have s36_e2:al w2 (e2 36) (-((rowP M (dv M i) i ja) i ja)) b:=hf1 20 rfl;have s37_e2:e2 37=_:=hf1 21 rfl;refine RL.x rfl rfl (bT (i:=i) (j:=ja) aL s37_e2 rfl (al.eq s36_e2 (by rw [gV]) (pL (hbM ja (by omega))) (by omega)) hMm (by omega) (by omega)) ?_;rintro _ w3 ⟨hk1,hN1⟩;have hR1:=cM.row (i:=i) hMm (by omega);replace hG:=aU hG hk1 hR1 (by decide);replace hMu:=bq hMu hk1 hR1 (fun ii hii=>Ne.symm (dmu i ii (by omega) hii));replace hMv:=bq hMv hk1 hR1 (fun ii hii=>Ne.symm (dmv i ii (by omega) hii));replace hX1:=hX1.step hk1 (fun b e=>by subst e;exact (.inl (dm (i:=i) h0m (by omega))));replace hMm:=hN1;clear hR1;refine RL.nil ?_;refine jp.norm ?_;refine qf.norm ?_;refine WP.region ?_;refine RL.p rfl rfl (cK.move s4_e2) ?_;refine RL.p rfl rfl (cK.add (c:=((ja + 1:Nat):Int)) rfl rfl (bY (by omega))) ?_;refine RL.p rfl rfl (cK.assign rfl) ?_;refine RL.nil ?_;refine qf.norm ⟨_,(by omega),ja + 1,rfl,s0_e2,s1_e2,rfl,(by omega),hX1,hG,bH hMm (gW (qP _)),hMu,hMv⟩
 ·
  refine WP.exit ?_;refine qf.exit ?_;refine qf.exit ?_;refine jp.same ?_;refine qf.norm ?_;refine WP.seq ?_;refine ab ?_;refine RL.p rfl rfl (cK.assign rfl) ?_;refine RL.nil ?_;refine WP.block ?_;refine WP.loop (fun mz ez uz=>∃jb:Nat,(mz=r - jb)∧(ez 0= .pointer (some ⟨gw,0,none⟩))∧(ez 1= .int .i64 ((i:Nat)))∧(ez 5= .int .i64 ((jb:Nat)))∧(jb≤r)∧(Keeps (dz B w) w uz)∧(bc uz gw 83 9 (bP [.int .i64 ((r:Nat)),.int .i64 ((c:Nat)),.slice (some ⟨hm,0,none⟩) (r) (km),.int .i64 ((r:Nat)),.int .i64 ((r:Nat)),.slice (some ⟨hu,0,none⟩) (r) (ku),.int .i64 ((r:Nat)),.int .i64 ((r:Nat)),.slice (some ⟨hv,0,none⟩) (r) (kv)]))∧(cM uz B hm km r c ρm (rowP M (dv M i) i ja) b)∧(cM uz B hu ku r r ρu (rowP U (dv U i) i jb) b)∧(cM uz B hv kv r r ρv V b)) (r - 0) ?_ ?_
  · exact ⟨0,rfl,s0_e1,s1_e1,rfl,(by omega),hX1,hG,hMm,bH hMu (gU U (dv U i) i),hMv⟩
  rintro m2 e3 w4 ⟨jb,hm2,s0_e3,s1_e3,s5_e3,hjb,hX2,hG,hMm,hMu,hMv⟩;refine WP.seq ?_;refine ab ?_;refine RL.p rfl rfl (cK.move s5_e3) ?_;refine RL.p rfl rfl (cK.move s0_e3) ?_;refine RL.p rfl rfl (cK.nilCheck rfl) ?_;refine RL.p rfl rfl (cK.fieldAddr dU rfl) ?_;refine RL.p rfl rfl (cK.fieldAddr bG rfl) ?_;refine RL.p rfl rfl (cK.load bI rfl (hG.at_ (i:=4) rfl rfl)) ?_;refine RL.p rfl rfl (cK.lss rfl rfl) ?_;refine RL.nil ?_;refine af (((jb:Nat):Int)<((r:Nat):Int)) rfl (fun c44=> ?_) (fun c44=> ?_)
  ·
   refine WP.skip ?_;refine qf.norm ?_;refine WP.seq ?_;refine WP.block ?_;refine WP.ds am 22 [_,_,_,_,_,_,_,_,_,_,_,_,_,_,_,_,_,_,_,_,_,_] rfl rfl (fun e_ w_ BY BX=>⟨fun _=>aa (cK.move ((BX 0 rfl s0_e3))),fun BW=>aa (cK.nilCheck ((BW 0 rfl))),fun BW=>aa (cK.fieldAddr dU ((BW 1 rfl))),fun BW=>aa (cK.fieldAddr aq ((BW 2 rfl))),fun BW=>aa (cK.load aG ((BW 3 rfl)) ((bc.ext hG BY).at_ (i:=5) rfl rfl)),fun _=>aa (cK.move ((BX 1 rfl s1_e3))),fun BW=>aa (cK.index (j:=i) az ((BW 4 rfl)) ((BW 5 rfl)) rfl (by omega) (by omega)),fun BW=>ag (ao (i:=i) aR (BW 6 rfl) (cM.ext hMu BY) (by omega)),fun _=>aa (cK.move ((BX 5 rfl s5_e3))),fun _=>aa (cK.move ((BX 0 rfl s0_e3))),fun BW=>aa (cK.nilCheck ((BW 9 rfl))),fun BW=>aa (cK.fieldAddr dU ((BW 10 rfl))),fun BW=>aa (cK.fieldAddr aq ((BW 11 rfl))),fun BW=>aa (cK.load aG ((BW 12 rfl)) ((bc.ext hG BY).at_ (i:=5) rfl rfl)),fun _=>aa (cK.move ((BX 1 rfl s1_e3))),fun BW=>aa (cK.index (j:=i) az ((BW 13 rfl)) ((BW 14 rfl)) rfl (by omega) (by omega)),fun BW=>ag (ao (i:=i) aR (BW 15 rfl) (cM.ext hMu BY) (by omega)),fun _=>aa (cK.move ((BX 5 rfl s5_e3))),fun BW=>aa (av (j:=jb) bl (BW 16 rfl) rfl (BW 17 rfl) (by omega) (by omega)),fun BW=>ag (aO (j:=jb) an (BW 18 rfl) (cM.row (cM.ext hMu BY) (by omega)) (by omega)),fun BW=>df.call lc (aN rfl) (lB _ _ _ _ ((BW 19 rfl))),fun BW=>aa (av (j:=jb) bl (BW 7 rfl) rfl (BW 8 rfl) (by omega) (by omega)),trivial⟩) ?_;intro e4 w5 hx2 ho2 hf2;replace hG:=bc.ext hG hx2;replace hMm:=cM.ext hMm hx2;replace hMu:=cM.ext hMu hx2;replace hMv:=cM.ext hMv hx2;replace hX2:=aT hX2 hx2;have s0_e4:=ho2 0 rfl s0_e3;have s1_e4:=ho2 1 rfl s1_e3;have s5_e4:=ho2 5 rfl s5_e3;have s67_e4:al w5 (e4 67) (-((rowP U (dv U i) i jb) i jb)) b:=hf2 20 rfl;have s68_e4:e4 68=_:=hf2 21 rfl;refine RL.x rfl rfl (bT (i:=i) (j:=jb) aL s68_e4 rfl (al.eq s67_e4 (by rw [gV]) (pL (hbU jb (by omega))) (by omega)) hMu (by omega) (by omega)) ?_;rintro _ w6 ⟨hk2,hN2⟩;have hR2:=cM.row (i:=i) hMu (by omega);replace hG:=aU hG hk2 hR2 (by decide);replace hMm:=bq hMm hk2 hR2 (fun ii hii=>dmu ii i hii (by omega));replace hMv:=bq hMv hk2 hR2 (fun ii hii=>Ne.symm (duv i ii (by omega) hii));replace hX2:=hX2.step hk2 (fun b e=>by subst e;exact (.inl (dm (i:=i) h0u (by omega))));replace hMu:=hN2;clear hR2;refine RL.nil ?_;refine jp.norm ?_;refine qf.norm ?_;refine WP.region ?_;refine RL.p rfl rfl (cK.move s5_e4) ?_;refine RL.p rfl rfl (cK.add (c:=((jb + 1:Nat):Int)) rfl rfl (bY (by omega))) ?_;refine RL.p rfl rfl (cK.assign rfl) ?_;refine RL.nil ?_;refine qf.norm ⟨_,(by omega),jb + 1,rfl,s0_e4,s1_e4,rfl,(by omega),hX2,hG,hMm,bH hMu (gW (qP _)),hMv⟩
  ·
   refine WP.exit ?_;refine qf.exit ?_;refine qf.exit ?_;refine jp.same ?_;refine qf.norm ?_;refine ab ?_;refine RL.p rfl rfl (cK.assign rfl) ?_;refine RL.nil ?_;refine WP.block ?_;refine WP.loop (fun mz ez uz=>∃a:Nat,(mz=r - a)∧(ez 0= .pointer (some ⟨gw,0,none⟩))∧(ez 1= .int .i64 ((i:Nat)))∧(ez 6= .int .i64 ((a:Nat)))∧(a≤r)∧(Keeps (dz B w) w uz)∧(bc uz gw 83 9 (bP [.int .i64 ((r:Nat)),.int .i64 ((c:Nat)),.slice (some ⟨hm,0,none⟩) (r) (km),.int .i64 ((r:Nat)),.int .i64 ((r:Nat)),.slice (some ⟨hu,0,none⟩) (r) (ku),.int .i64 ((r:Nat)),.int .i64 ((r:Nat)),.slice (some ⟨hv,0,none⟩) (r) (kv)]))∧(cM uz B hm km r c ρm (rowP M (dv M i) i ja) b)∧(cM uz B hu ku r r ρu (rowP U (dv U i) i jb) b)∧(cM uz B hv kv r r ρv (eo V (eH V i) a) b)) (r - 0) ?_ ?_
   · exact ⟨0,rfl,s0_e3,s1_e3,rfl,(by omega),hX2,hG,hMm,hMu,bH hMv (eU V (eH V i)).symm⟩
   rintro m3 e5 w7 ⟨a,hm3,s0_e5,s1_e5,s6_e5,ha,hX3,hG,hMm,hMu,hMv⟩;refine WP.seq ?_;refine ab ?_;refine RL.p rfl rfl (cK.move s6_e5) ?_;refine RL.p rfl rfl (cK.move s0_e5) ?_;refine RL.p rfl rfl (cK.nilCheck rfl) ?_;refine RL.p rfl rfl (cK.fieldAddr dJ rfl) ?_;refine RL.p rfl rfl (cK.fieldAddr bk rfl) ?_;refine RL.p rfl rfl (cK.load bI rfl (hG.at_ (i:=6) rfl rfl)) ?_;refine RL.p rfl rfl (cK.lss rfl rfl) ?_;refine RL.nil ?_;refine af (((a:Nat):Int)<((r:Nat):Int)) rfl (fun c75=> ?_) (fun c75=> ?_)
   ·
    refine WP.skip ?_;refine qf.norm ?_;refine WP.seq ?_;refine WP.block ?_;refine WP.ds am 22 [_,_,_,_,_,_,_,_,_,_,_,_,_,_,_,_,_,_,_,_,_,_] rfl rfl (fun e_ w_ BY BX=>⟨fun _=>aa (cK.move ((BX 0 rfl s0_e5))),fun BW=>aa (cK.nilCheck ((BW 0 rfl))),fun BW=>aa (cK.fieldAddr dJ ((BW 1 rfl))),fun BW=>aa (cK.fieldAddr aq ((BW 2 rfl))),fun BW=>aa (cK.load aG ((BW 3 rfl)) ((bc.ext hG BY).at_ (i:=8) rfl rfl)),fun _=>aa (cK.move ((BX 6 rfl s6_e5))),fun BW=>aa (cK.index (j:=a) az ((BW 4 rfl)) ((BW 5 rfl)) rfl (by omega) (by omega)),fun BW=>ag (ao (i:=a) aR (BW 6 rfl) (cM.ext hMv BY) (by omega)),fun _=>aa (cK.move ((BX 1 rfl s1_e5))),fun _=>aa (cK.move ((BX 0 rfl s0_e5))),fun BW=>aa (cK.nilCheck ((BW 9 rfl))),fun BW=>aa (cK.fieldAddr dJ ((BW 10 rfl))),fun BW=>aa (cK.fieldAddr aq ((BW 11 rfl))),fun BW=>aa (cK.load aG ((BW 12 rfl)) ((bc.ext hG BY).at_ (i:=8) rfl rfl)),fun _=>aa (cK.move ((BX 6 rfl s6_e5))),fun BW=>aa (cK.index (j:=a) az ((BW 13 rfl)) ((BW 14 rfl)) rfl (by omega) (by omega)),fun BW=>ag (ao (i:=a) aR (BW 15 rfl) (cM.ext hMv BY) (by omega)),fun _=>aa (cK.move ((BX 1 rfl s1_e5))),fun BW=>aa (av (j:=i) bl (BW 16 rfl) rfl (BW 17 rfl) (by omega) (by omega)),fun BW=>ag (aO (j:=i) an (BW 18 rfl) (cM.row (cM.ext hMv BY) (by omega)) (by omega)),fun BW=>df.call lc (aN rfl) (lB _ _ _ _ ((BW 19 rfl))),fun BW=>aa (av (j:=i) bl (BW 7 rfl) rfl (BW 8 rfl) (by omega) (by omega)),trivial⟩) ?_;intro e6 w8 hx3 ho3 hf3;replace hG:=bc.ext hG hx3;replace hMm:=cM.ext hMm hx3;replace hMu:=cM.ext hMu hx3;replace hMv:=cM.ext hMv hx3;replace hX3:=aT hX3 hx3;have s0_e6:=ho3 0 rfl s0_e5;have s1_e6:=ho3 1 rfl s1_e5;have s6_e6:=ho3 6 rfl s6_e5;have s98_e6:al w8 (e6 98) (-((eo V (eH V i) a) a i)) b:=hf3 20 rfl;have s99_e6:e6 99=_:=hf3 21 rfl;refine RL.x rfl rfl (bT (i:=a) (j:=i) aL s99_e6 rfl (al.eq s98_e6 (by rw [dw]) (pL (hbV a (by omega))) (by omega)) hMv (by omega) (by omega)) ?_;rintro _ w9 ⟨hk3,hN3⟩;have hR3:=cM.row (i:=a) hMv (by omega);replace hG:=aU hG hk3 hR3 (by decide);replace hMm:=bq hMm hk3 hR3 (fun ii hii=>dmv ii a hii (by omega));replace hMu:=bq hMu hk3 hR3 (fun ii hii=>duv ii a hii (by omega));replace hX3:=hX3.step hk3 (fun b e=>by subst e;exact (.inl (dm (i:=a) h0v (by omega))));replace hMv:=hN3;clear hR3;refine RL.nil ?_;refine jp.norm ?_;refine qf.norm ?_;refine WP.region ?_;refine RL.p rfl rfl (cK.move s6_e6) ?_;refine RL.p rfl rfl (cK.add (c:=((a + 1:Nat):Int)) rfl rfl (bY (by omega))) ?_;refine RL.p rfl rfl (cK.assign rfl) ?_;refine RL.nil ?_;refine qf.norm ⟨_,(by omega),a + 1,rfl,s0_e6,s1_e6,rfl,(by omega),hX3,hG,hMm,hMu,bH hMv (ig (by simp [eH]) (fun c hc=>by simp [eH,hc]))⟩
   ·
    refine WP.exit ?_;refine qf.exit ?_;refine qf.exit ?_;refine jp.same ?_;refine ⟨.tuple #[],Bu.zero,_,rfl,hX3,?_⟩;dsimp only;exact ⟨hm,hu,hv,km,ku,kv,_,_,_,hBg,hG,(cM.congr hMm (fun a2 c2 _ hc=>iT oI (by omega))),(cM.congr hMu (fun a2 c2 _ hc=>iT oI (by omega))),(cM.congr hMv (fun a c ha hc=>fJ V _ c (by omega))),nmu,nmv,nuv,dmu,dmv,duv⟩
set_option maxRecDepth 10000 in
theorem ud (w:World) (B gw r c:Nat) (M U V:Nat→Nat→Int) (b:Nat) (i:Nat) (j:Nat) (hW:ci 83 w B gw r c M U V b) (hi:i<r) (hj:j<r):Calls Tryz.prog 53 #[.pointer (some ⟨gw,0,none⟩),.int .i64 (i:Nat),.int .i64 (j:Nat)] w (mj (dz B w) w fun v w'=>ci 83 w' B gw r c (cG M i j) (cG U i j) (db V i j) b):=by
 have hLIM:bp=562949953421312:=rfl;obtain ⟨hm,hu,hv,km,ku,kv,ρm,ρu,ρv,hBg,hG,hMm,hMu,hMv,nmu,nmv,nuv,dmu,dmv,duv⟩:=hW;have hdm:=cM.dlim hMm;have hcm:=cM.clim hMm;have hdu:=cM.dlim hMu;have hdv:=cM.dlim hMv;have h0m:=hMm;have h0u:=hMu;have h0v:=hMv;refine aj (N:=123) (rs:= #[]) Tryz.func53 rfl rfl rfl (Nat.le_of_ble_eq_true rfl) ?_;have hX:Keeps (dz B w) w w:=Keeps.refl _ w;refine ab ?_;refine RL.p rfl rfl (cK.move rfl) ?_;refine RL.p rfl rfl (cK.nilCheck rfl) ?_;refine RL.p rfl rfl (cK.fieldAddr cR rfl) ?_;refine RL.p rfl rfl (cK.fieldAddr aq rfl) ?_;refine RL.p rfl rfl (cK.load aG rfl (hG.at_ (i:=2) rfl rfl)) ?_;refine RL.p rfl rfl (cK.move rfl) ?_;refine RL.p rfl rfl (cK.index (j:=i) az rfl rfl rfl (by omega) (by omega)) ?_;refine RL.x rfl rfl (ao (i:=i) aR rfl hMm (by omega)) ?_;rintro v1 _ ⟨rfl,q1⟩;refine RL.p rfl rfl (cK.assign rfl) ?_;refine RL.nil ?_;refine aI am 15 [_,_,_,_,_,_,_,_,_,_,_,_,_,_,_] rfl rfl (fun e_ w_ BY BX=>⟨fun _=>aa (cK.move ((BX 0 rfl rfl))),fun BW=>aa (cK.nilCheck ((BW 0 rfl))),fun BW=>aa (cK.fieldAddr cR ((BW 1 rfl))),fun BW=>aa (cK.fieldAddr aq ((BW 2 rfl))),fun BW=>aa (cK.load aG ((BW 3 rfl)) ((bc.ext hG BY).at_ (i:=2) rfl rfl)),fun _=>aa (cK.move ((BX 1 rfl rfl))),fun _=>aa (cK.move ((BX 0 rfl rfl))),fun BW=>aa (cK.nilCheck ((BW 6 rfl))),fun BW=>aa (cK.fieldAddr cR ((BW 7 rfl))),fun BW=>aa (cK.fieldAddr aq ((BW 8 rfl))),fun BW=>aa (cK.load aG ((BW 9 rfl)) ((bc.ext hG BY).at_ (i:=2) rfl rfl)),fun _=>aa (cK.move ((BX 2 rfl rfl))),fun BW=>aa (cK.index (j:=j) az ((BW 10 rfl)) ((BW 11 rfl)) rfl (by omega) (by omega)),fun BW=>ag (ao (i:=j) aR (BW 12 rfl) (cM.ext hMm BY) (by omega)),fun BW=>aa (cK.index (j:=i) az ((BW 4 rfl)) ((BW 5 rfl)) rfl (by omega) (by omega)),trivial⟩) ?_;intro e1 w1 hx1 ho1 hf1;replace hG:=bc.ext hG hx1;replace hMm:=cM.ext hMm hx1;replace hMu:=cM.ext hMu hx1;replace hMv:=cM.ext hMv hx1;replace q1:=fr.ext q1 hx1;replace hX:=aT hX hx1;have s0_e1:e1 0=_:=ho1 0 rfl rfl;have s1_e1:e1 1=_:=ho1 1 rfl rfl;have s2_e1:e1 2=_:=ho1 2 rfl rfl;have s6_e1:e1 6=_:=ho1 6 rfl rfl;have s30_e1:fr w1 (e1 30) (ρm j) c:=hf1 13 rfl;have s31_e1:e1 31=_:=hf1 14 rfl;obtain ⟨fh1,hH1⟩:=cM.split hMm;refine RL.x rfl rfl (cN (i:=i) (g:=(ρm j)) (n:=c) (f:=fh1) gf s31_e1 rfl (bJ s30_e1 w1) hH1 (by omega)) ?_;rintro _ w2 ⟨hk1,hN1⟩;have hMo1:=hMm;have hH01:=hH1;replace hG:=hG.keep hk1 (hG.ne hH01 (by decide));replace hMu:=cd hMu hk1 hH01 (Ne.symm nmu);replace hMv:=cd hMv hk1 hH01 (Ne.symm nmv);replace hX:=hX.step hk1 (fun b e=>by subst e;exact (.inl (dS h0m)));refine RL.nil ?_;refine ab ?_;refine RL.p rfl rfl (cK.move s0_e1) ?_;refine RL.p rfl rfl (cK.nilCheck rfl) ?_;refine RL.p rfl rfl (cK.fieldAddr cR rfl) ?_;refine RL.p rfl rfl (cK.fieldAddr aq rfl) ?_;refine RL.p rfl rfl (cK.load aG rfl (hG.at_ (i:=2) rfl rfl)) ?_;refine RL.p rfl rfl (cK.move s2_e1) ?_;refine RL.p rfl rfl (cK.move s6_e1) ?_;refine RL.p rfl rfl (cK.index (j:=j) az rfl rfl rfl (by omega) (by omega)) ?_;refine RL.x rfl rfl (cN (i:=j) (g:=(ρm i)) (n:=c) (f:=(dZ fh1 (0 + i*1) [(e1 30)])) gf rfl rfl (bJ q1 w2) hN1 (by omega)) ?_;rintro _ w3 ⟨hk2,hN2⟩;have hH02:=hN1;replace hG:=hG.keep hk2 (hG.ne hH02 (by decide));replace hMu:=cd hMu hk2 hH02 (Ne.symm nmu);replace hMv:=cd hMv hk2 hH02 (Ne.symm nmv);replace hX:=hX.step hk2 (fun b e=>by subst e;exact (.inl (dS h0m)));have hk3:=hk1.step hk2 (fun b e=> .inl e);have hMm:=fx (i:=i) (j:=j) hMo1 hH1 hk3 hN2 (bJ s30_e1 w1) (bJ q1 w2) (by omega) (by omega);replace dmu:=gS (i:=i) (j:=j) dmu (by omega) (by omega);replace dmv:=gS (i:=i) (j:=j) dmv (by omega) (by omega);refine RL.nil ?_;refine ab ?_;refine RL.p rfl rfl (cK.move s0_e1) ?_;refine RL.p rfl rfl (cK.nilCheck rfl) ?_;refine RL.p rfl rfl (cK.fieldAddr dU rfl) ?_;refine RL.p rfl rfl (cK.fieldAddr aq rfl) ?_;refine RL.p rfl rfl (cK.load aG rfl (hG.at_ (i:=5) rfl rfl)) ?_;refine RL.p rfl rfl (cK.move s1_e1) ?_;refine RL.p rfl rfl (cK.index (j:=i) az rfl rfl rfl (by omega) (by omega)) ?_;refine RL.x rfl rfl (ao (i:=i) aR rfl hMu (by omega)) ?_;rintro v2 _ ⟨rfl,q2⟩;refine RL.p rfl rfl (cK.assign rfl) ?_;refine RL.nil ?_;refine aI am 15 [_,_,_,_,_,_,_,_,_,_,_,_,_,_,_] rfl rfl (fun e_ w_ BY BX=>⟨fun _=>aa (cK.move ((BX 0 rfl s0_e1))),fun BW=>aa (cK.nilCheck ((BW 0 rfl))),fun BW=>aa (cK.fieldAddr dU ((BW 1 rfl))),fun BW=>aa (cK.fieldAddr aq ((BW 2 rfl))),fun BW=>aa (cK.load aG ((BW 3 rfl)) ((bc.ext hG BY).at_ (i:=5) rfl rfl)),fun _=>aa (cK.move ((BX 1 rfl s1_e1))),fun _=>aa (cK.move ((BX 0 rfl s0_e1))),fun BW=>aa (cK.nilCheck ((BW 6 rfl))),fun BW=>aa (cK.fieldAddr dU ((BW 7 rfl))),fun BW=>aa (cK.fieldAddr aq ((BW 8 rfl))),fun BW=>aa (cK.load aG ((BW 9 rfl)) ((bc.ext hG BY).at_ (i:=5) rfl rfl)),fun _=>aa (cK.move ((BX 2 rfl s2_e1))),fun BW=>aa (cK.index (j:=j) az ((BW 10 rfl)) ((BW 11 rfl)) rfl (by omega) (by omega)),fun BW=>ag (ao (i:=j) aR (BW 12 rfl) (cM.ext hMu BY) (by omega)),fun BW=>aa (cK.index (j:=i) az ((BW 4 rfl)) ((BW 5 rfl)) rfl (by omega) (by omega)),trivial⟩) ?_;intro e2 w4 hx2 ho2 hf2;replace hG:=bc.ext hG hx2;replace hMm:=cM.ext hMm hx2;replace hMu:=cM.ext hMu hx2;replace hMv:=cM.ext hMv hx2;replace q2:=fr.ext q2 hx2;replace hX:=aT hX hx2;have s0_e2:=ho2 0 rfl s0_e1;have s1_e2:=ho2 1 rfl s1_e1;have s2_e2:=ho2 2 rfl s2_e1;have s6_e2:e2 6=_:=ho2 6 rfl rfl;have s61_e2:fr w4 (e2 61) (ρu j) r:=hf2 13 rfl;have s62_e2:e2 62=_:=hf2 14 rfl;obtain ⟨fh2,hH2⟩:=cM.split hMu;refine RL.x rfl rfl (cN (i:=i) (g:=(ρu j)) (n:=r) (f:=fh2) gf s62_e2 rfl (bJ s61_e2 w4) hH2 (by omega)) ?_;rintro _ w5 ⟨hk4,hN3⟩;have hMo2:=hMu;have hH03:=hH2;replace hG:=hG.keep hk4 (hG.ne hH03 (by decide));replace hMm:=cd hMm hk4 hH03 nmu;replace hMv:=cd hMv hk4 hH03 (Ne.symm nuv);replace hX:=hX.step hk4 (fun b e=>by subst e;exact (.inl (dS h0u)));refine RL.nil ?_;refine ab ?_;refine RL.p rfl rfl (cK.move s0_e2) ?_;refine RL.p rfl rfl (cK.nilCheck rfl) ?_;refine RL.p rfl rfl (cK.fieldAddr dU rfl) ?_;refine RL.p rfl rfl (cK.fieldAddr aq rfl) ?_;refine RL.p rfl rfl (cK.load aG rfl (hG.at_ (i:=5) rfl rfl)) ?_;refine RL.p rfl rfl (cK.move s2_e2) ?_;refine RL.p rfl rfl (cK.move s6_e2) ?_;refine RL.p rfl rfl (cK.index (j:=j) az rfl rfl rfl (by omega) (by omega)) ?_;refine RL.x rfl rfl (cN (i:=j) (g:=(ρu i)) (n:=r) (f:=(dZ fh2 (0 + i*1) [(e2 61)])) gf rfl rfl (bJ q2 w5) hN3 (by omega)) ?_;rintro _ w6 ⟨hk5,hN4⟩;have hH04:=hN3;replace hG:=hG.keep hk5 (hG.ne hH04 (by decide));replace hMm:=cd hMm hk5 hH04 nmu;replace hMv:=cd hMv hk5 hH04 (Ne.symm nuv);replace hX:=hX.step hk5 (fun b e=>by subst e;exact (.inl (dS h0u)));have hk6:=hk4.step hk5 (fun b e=> .inl e);have hMu:=fx (i:=i) (j:=j) hMo2 hH2 hk6 hN4 (bJ s61_e2 w4) (bJ q2 w5) (by omega) (by omega);replace dmu:=qC (i:=i) (j:=j) dmu (by omega) (by omega);replace duv:=gS (i:=i) (j:=j) duv (by omega) (by omega);refine RL.nil ?_;refine ab ?_;refine RL.p rfl rfl (cK.assign rfl) ?_;refine RL.nil ?_;refine WP.block ?_;refine WP.loop (fun mz ez uz=>∃a:Nat,(mz=r - a)∧(ez 0= .pointer (some ⟨gw,0,none⟩))∧(ez 1= .int .i64 ((i:Nat)))∧(ez 2= .int .i64 ((j:Nat)))∧(ez 7= .int .i64 ((a:Nat)))∧(a≤r)∧(Keeps (dz B w) w uz)∧(bc uz gw 83 9 (bP [.int .i64 ((r:Nat)),.int .i64 ((c:Nat)),.slice (some ⟨hm,0,none⟩) (r) (km),.int .i64 ((r:Nat)),.int .i64 ((r:Nat)),.slice (some ⟨hu,0,none⟩) (r) (ku),.int .i64 ((r:Nat)),.int .i64 ((r:Nat)),.slice (some ⟨hv,0,none⟩) (r) (kv)]))∧(cM uz B hm km r c (fN ρm i j) (cG M i j) b)∧(cM uz B hu ku r r (fN ρu i j) (cG U i j) b)∧(cM uz B hv kv r r ρv (eo V (db V i j) a) b)) (r - 0) ?_ ?_
 · exact ⟨0,rfl,s0_e2,s1_e2,s2_e2,rfl,(by omega),hX,hG,hMm,hMu,bH hMv (eU V (db V i j)).symm⟩
 rintro m1 e3 w7 ⟨a,hm1,s0_e3,s1_e3,s2_e3,s7_e3,ha,hX1,hG,hMm,hMu,hMv⟩;refine WP.seq ?_;refine ab ?_;refine RL.p rfl rfl (cK.move s7_e3) ?_;refine RL.p rfl rfl (cK.move s0_e3) ?_;refine RL.p rfl rfl (cK.nilCheck rfl) ?_;refine RL.p rfl rfl (cK.fieldAddr dJ rfl) ?_;refine RL.p rfl rfl (cK.fieldAddr bk rfl) ?_;refine RL.p rfl rfl (cK.load bI rfl (hG.at_ (i:=6) rfl rfl)) ?_;refine RL.p rfl rfl (cK.lss rfl rfl) ?_;refine RL.nil ?_;refine af (((a:Nat):Int)<((r:Nat):Int)) rfl (fun c77=> ?_) (fun c77=> ?_)
 ·
  refine WP.skip ?_;refine qf.norm ?_;refine WP.seq ?_;refine WP.block ?_;refine ab ?_;refine RL.p rfl rfl (cK.move s0_e3) ?_;refine RL.p rfl rfl (cK.nilCheck rfl) ?_;refine RL.p rfl rfl (cK.fieldAddr dJ rfl) ?_;refine RL.p rfl rfl (cK.fieldAddr aq rfl) ?_;refine RL.p rfl rfl (cK.load aG rfl (hG.at_ (i:=8) rfl rfl)) ?_;refine RL.p rfl rfl (cK.move s7_e3) ?_;refine RL.p rfl rfl (cK.index (j:=a) az rfl rfl rfl (by omega) (by omega)) ?_;refine RL.x rfl rfl (ao (i:=a) aR rfl hMv (by omega)) ?_;rintro v3 _ ⟨rfl,q3⟩;refine RL.p rfl rfl (cK.move s1_e3) ?_;refine RL.p rfl rfl (av (j:=i) bl (bJ q3 w7) rfl rfl (by omega) (by omega)) ?_;refine RL.x rfl rfl (aO (j:=i) an rfl (cM.row hMv (by omega)) (by omega)) ?_;rintro v4 _ ⟨rfl,q4⟩;refine RL.x rfl rfl (df.alloc [.bool (false),.slice (none) (0) (0)] bC rfl) ?_;rintro _ w8 ⟨g1,rfl,hge1,hx3,hA1⟩;have ne1:gw≠g1:=Nat.ne_of_lt (Nat.lt_of_lt_of_le hG.lt hge1);have ne2:∀ii,ii<r→(fN ρm i j) ii≠g1:=fun ii hi=>Nat.ne_of_lt (Nat.lt_of_lt_of_le (cM.rowlt hMm hi) hge1)
  have ne4:∀ii,ii<r→(fN ρu i j) ii≠g1:=fun ii hi=>Nat.ne_of_lt (Nat.lt_of_lt_of_le (cM.rowlt hMu hi) hge1)
  have ne6:∀ii,ii<r→ρv ii≠g1:=fun ii hi=>Nat.ne_of_lt (Nat.lt_of_lt_of_le (cM.rowlt hMv hi) hge1)
  have hbs1:w.heap.size≤g1:=Nat.le_trans hX1.size hge1;replace hG:=bc.ext hG hx3;replace hMm:=cM.ext hMm hx3;replace hMu:=cM.ext hMu hx3;replace hMv:=cM.ext hMv hx3;replace q4:=al.ext q4 hx3;replace hX1:=aT hX1 hx3;obtain ⟨ca1,cb1,hq1,ho3,ho4⟩:=al.cells q4;have qi1:al w8 (.agg #[ca1,cb1]) ((eo V (db V i j) a) a i) b:=hq1▸q4;refine RL.x rfl rfl (df.store [ca1,cb1] aL rfl hq1 rfl hA1 (Nat.le_of_ble_eq_true rfl) (bf ho3 ho4)) ?_;rintro _ w9 ⟨hk7,hnew⟩;replace hMm:=en hMm hk7 hA1 ne2;replace hMu:=en hMu hk7 hA1 ne4;replace hMv:=en hMv hk7 hA1 ne6;replace hG:=hG.keep hk7 ne1;replace qi1:=ae qi1 hk7 hA1 (by decide);replace hX1:=hX1.step hk7 (fun b e=>by subst e;exact .inr hbs1);replace hA1:=hnew.lit [ca1,cb1] rfl;clear hnew;refine RL.nil ?_;refine aI am 21 [_,_,_,_,_,_,_,_,_,_,_,_,_,_,_,_,_,_,_,_,_] rfl rfl (fun e_ w_ BY BX=>⟨fun _=>aa (cK.move ((BX 0 rfl s0_e3))),fun BW=>aa (cK.nilCheck ((BW 0 rfl))),fun BW=>aa (cK.fieldAddr dJ ((BW 1 rfl))),fun BW=>aa (cK.fieldAddr aq ((BW 2 rfl))),fun BW=>aa (cK.load aG ((BW 3 rfl)) ((bc.ext hG BY).at_ (i:=8) rfl rfl)),fun _=>aa (cK.move ((BX 7 rfl s7_e3))),fun BW=>aa (cK.index (j:=a) az ((BW 4 rfl)) ((BW 5 rfl)) rfl (by omega) (by omega)),fun BW=>ag (ao (i:=a) aR (BW 6 rfl) (cM.ext hMv BY) (by omega)),fun _=>aa (cK.move ((BX 1 rfl s1_e3))),fun _=>aa (cK.move ((BX 0 rfl s0_e3))),fun BW=>aa (cK.nilCheck ((BW 9 rfl))),fun BW=>aa (cK.fieldAddr dJ ((BW 10 rfl))),fun BW=>aa (cK.fieldAddr aq ((BW 11 rfl))),fun BW=>aa (cK.load aG ((BW 12 rfl)) ((bc.ext hG BY).at_ (i:=8) rfl rfl)),fun _=>aa (cK.move ((BX 7 rfl s7_e3))),fun BW=>aa (cK.index (j:=a) az ((BW 13 rfl)) ((BW 14 rfl)) rfl (by omega) (by omega)),fun BW=>ag (ao (i:=a) aR (BW 15 rfl) (cM.ext hMv BY) (by omega)),fun _=>aa (cK.move ((BX 2 rfl s2_e3))),fun BW=>aa (av (j:=j) bl (BW 16 rfl) rfl (BW 17 rfl) (by omega) (by omega)),fun BW=>ag (aO (j:=j) an (BW 18 rfl) (cM.row (cM.ext hMv BY) (by omega)) (by omega)),fun BW=>aa (av (j:=i) bl (BW 7 rfl) rfl (BW 8 rfl) (by omega) (by omega)),trivial⟩) ?_;intro e4 w10 hx4 ho5 hf3;replace hG:=bc.ext hG hx4;replace hA1:=bc.ext hA1 hx4;replace qi1:=al.ext qi1 hx4;replace hMm:=cM.ext hMm hx4;replace hMu:=cM.ext hMu hx4;replace hMv:=cM.ext hMv hx4;replace hX1:=aT hX1 hx4;have s0_e4:=ho5 0 rfl s0_e3;have s1_e4:=ho5 1 rfl s1_e3;have s2_e4:=ho5 2 rfl s2_e3;have s7_e4:=ho5 7 rfl s7_e3;have s8_e4:e4 8=_:=ho5 8 rfl rfl;have s110_e4:al w10 (e4 110) ((eo V (db V i j) a) a j) b:=hf3 19 rfl;have s111_e4:e4 111=_:=hf3 20 rfl;refine RL.x rfl rfl (bT (i:=a) (j:=i) aL s111_e4 rfl s110_e4 hMv (by omega) (by omega)) ?_;rintro _ w11 ⟨hk8,hN5⟩;have hR1:=cM.row (i:=a) hMv (by omega);replace hG:=aU hG hk8 hR1 (by decide);replace hA1:=hA1.keep hk8 (Ne.symm (ne6 a (by omega)));replace qi1:=bZ qi1 hk8 hR1;replace hMm:=bq hMm hk8 hR1 (fun ii hii=>dmv ii a hii (by omega));replace hMu:=bq hMu hk8 hR1 (fun ii hii=>duv ii a hii (by omega));replace hX1:=hX1.step hk8 (fun b e=>by subst e;exact (.inl (dm (i:=a) h0v (by omega))));replace hMv:=hN5;clear hR1;refine RL.nil ?_;refine WP.ds am 11 [_,_,_,_,_,_,_,_,_,_,_] rfl rfl (fun e_ w_ BY BX=>⟨fun _=>aa (cK.move ((BX 0 rfl s0_e4))),fun BW=>aa (cK.nilCheck ((BW 0 rfl))),fun BW=>aa (cK.fieldAddr dJ ((BW 1 rfl))),fun BW=>aa (cK.fieldAddr aq ((BW 2 rfl))),fun BW=>aa (cK.load aG ((BW 3 rfl)) ((bc.ext hG BY).at_ (i:=8) rfl rfl)),fun _=>aa (cK.move ((BX 7 rfl s7_e4))),fun BW=>aa (cK.index (j:=a) az ((BW 4 rfl)) ((BW 5 rfl)) rfl (by omega) (by omega)),fun BW=>ag (ao (i:=a) aR (BW 6 rfl) (cM.ext hMv BY) (by omega)),fun _=>aa (cK.move ((BX 2 rfl s2_e4))),fun _=>aa (ah [ca1,cb1] an ((BX 8 rfl s8_e4)) ((bc.ext hA1 BY).cells 0 _ rfl rfl)),fun BW=>aa (av (j:=j) bl (BW 7 rfl) rfl (BW 8 rfl) (by omega) (by omega)),trivial⟩) ?_;intro e5 w12 hx5 ho6 hf4;replace hG:=bc.ext hG hx5;replace qi1:=al.ext qi1 hx5;replace hMm:=cM.ext hMm hx5;replace hMu:=cM.ext hMu hx5;replace hMv:=cM.ext hMv hx5;replace hX1:=aT hX1 hx5;have s0_e5:=ho6 0 rfl s0_e4;have s1_e5:=ho6 1 rfl s1_e4;have s2_e5:=ho6 2 rfl s2_e4;have s7_e5:=ho6 7 rfl s7_e4;have s121_e5:e5 121=_:=hf4 9 rfl;have s122_e5:e5 122=_:=hf4 10 rfl;refine RL.x rfl rfl (bT (i:=a) (j:=j) aL s122_e5 s121_e5 qi1 hMv (by omega) (by omega)) ?_;rintro _ w13 ⟨hk9,hN6⟩;have hR2:=cM.row (i:=a) hMv (by omega);replace hG:=aU hG hk9 hR2 (by decide);replace hMm:=bq hMm hk9 hR2 (fun ii hii=>dmv ii a hii (by omega));replace hMu:=bq hMu hk9 hR2 (fun ii hii=>duv ii a hii (by omega));replace hX1:=hX1.step hk9 (fun b e=>by subst e;exact (.inl (dm (i:=a) h0v (by omega))));replace hMv:=hN6;clear hR2;refine RL.nil ?_;refine jp.norm ?_;refine qf.norm ?_;refine WP.region ?_;refine RL.p rfl rfl (cK.move s7_e5) ?_;refine RL.p rfl rfl (cK.add (c:=((a + 1:Nat):Int)) rfl rfl (bY (by omega))) ?_;refine RL.p rfl rfl (cK.assign rfl) ?_;refine RL.nil ?_;refine qf.norm ⟨_,(by omega),a + 1,rfl,s0_e5,s1_e5,s2_e5,rfl,(by omega),hX1,hG,hMm,hMu,bH hMv (lS (fun h=>by rw [dw];simp [db]) (by rw [dw];by_cases e:j=i<;>simp [db,e]) (fun c h1 h2=>by simp [db,h1,h2]))⟩
 ·
  refine WP.exit ?_;refine qf.exit ?_;refine qf.exit ?_;refine jp.same ?_;refine ⟨.tuple #[],Bu.zero,_,rfl,hX1,?_⟩;dsimp only;exact ⟨hm,hu,hv,km,ku,kv,_,_,_,hBg,hG,hMm,hMu,(cM.congr hMv (fun a c ha hc=>fJ V _ c (by omega))),nmu,nmv,nuv,dmu,dmv,duv⟩
end Go.TL
namespace Go.TL
set_option linter.unusedVariables false
def sg (S:WS) (top q:Nat):WS:=if S.M top q<0 then fB S top else S
theorem xY (S:WS) (top q:Nat):sn S top top q=sg S top q:=by unfold sn sg;rw [kT]
theorem yY {S:WS} {top q:Nat} (h:S.M top q<0):sg S top q=fB S top:=by unfold sg;rw [if_pos h]
theorem yX {S:WS} {top q:Nat} (h:¬S.M top q<0):sg S top q=S:=by unfold sg;rw [if_neg h]
theorem yW (S:WS) (top q:Nat):(sg S top q).M top q=((S.M top q).natAbs:Int):=by rw [←xY,ju]
def lR (S:WS) (top i q:Nat):WS:=bS (cV S top i (-(S.M top q/S.M i q))) top i
theorem yf {S:WS} {top i q:Nat} (h:top≠i):(lR S top i q).M i q=S.M top q % S.M i q:=by
  unfold lR bS cV cG da
  simp only [if_neg (Ne.symm h),if_true];rw [Int.emod_def,Int.neg_mul,Int.mul_comm];omega
theorem wR {S:WS} {top i q:Nat} (h:top≠i):(lR S top i q).M top q=S.M i q:=by
  unfold lR bS cV cG da
  simp only [if_neg (Ne.symm h),if_true]
theorem ve {S:WS} {top i q:Nat} (h:top≠i) (hz:S.M i q≠0):((lR S top i q).M i q).natAbs<(S.M i q).natAbs:=by
  rw [yf h];have h1:=Int.emod_nonneg (S.M top q) hz;have h2:=Int.emod_lt (S.M top q) hz;omega
theorem vf {S:WS} {top i q:Nat} (h:top≠i) (hz:S.M i q≠0) (h0:S.M top q=0):((bS S top i).M i q).natAbs<(S.M i q).natAbs:=by
  unfold bS cG
  simp only [if_neg (Ne.symm h),if_true];rw [h0];omega
end Go.TL
namespace Go.TL
open Go.RowKit Go.Proofs
set_option linter.unusedVariables false
set_option linter.unusedSimpArgs false
set_option maxRecDepth 10000 in
theorem wj (w:World) (x:Value) (r c:Nat) (M:Nat→Nat→Int) (b0 b:Nat) (hx:cc w x r c M b0) (hb0:b0 + 1≤b) (hb:b≤bp):Calls Tryz.prog 48 #[x] w (cj w fun v w'=>∃gw,v= .pointer (some ⟨gw,0,none⟩)∧ci 83 w' w.heap.size gw r c M dC dC b):=by
 have hLIM:bp=562949953421312:=rfl;obtain ⟨sx,rfl,hr,hc,hSx⟩:=hx.form;obtain ⟨B,hBe⟩:∃B:Nat,B=w.heap.size:=⟨_,rfl⟩
 have hBle:w.heap.size≤B:=by omega
 refine aj (N:=13) (rs:= #[.tmp 2]) Tryz.func48 rfl rfl rfl (Nat.le_of_ble_eq_true rfl) ?_;have hX:aF w w:=aF.refl w;refine ab ?_;refine RL.x rfl rfl (df.box [.int .i64 ((r:Nat)),.int .i64 ((c:Nat)),sx] rfl rfl) ?_;rintro _ w1 ⟨g1,rfl,hge1,hx1,hA1⟩;replace hX:=aF.trans hX hx1;refine RL.p rfl rfl (cK.assign rfl) ?_;refine RL.nil ?_;have hX1s:B≤w1.heap.size:=by rw [hBe];exact hX.size
 have hBw1:w.heap.size≤w1.heap.size:=hX.size;have hBw2:w.heap.size≤w1.heap.size:=hX.size;have hBw3:w.heap.size≤w1.heap.size:=hX.size;refine il am 8 [_,fun v BZ=>cJ BZ v w1.heap.size r c M (b0 + 1),_,_,fun v BZ=>cJ BZ v w1.heap.size r r dC 1,_,_,fun v BZ=>cJ BZ v w1.heap.size r r dC 1] (Apart.of (jI) [(1,4),(1,7),(4,7)] rfl ⟨(fun h=>by cases h),(fun _=>ia _ _ _ _ _),(fun h=>by cases h),(fun h=>by cases h),(fun _=>ia _ _ _ _ _),(fun h=>by cases h),(fun h=>by cases h),(fun _=>ia _ _ _ _ _),trivial⟩) rfl rfl ⟨ac _,dK _ _ _ _ _,ac _,ac _,dK _ _ _ _ _,ac _,ac _,dK _ _ _ _ _,trivial⟩ ⟨fun e_ w_ BY BX BW=>aH rfl (aa (ah [.int .i64 ((r:Nat)),.int .i64 ((c:Nat)),sx] aZ (((BX 1 rfl).trans rfl)) ((bc.ext hA1 BY).cells 0 _ rfl rfl))),fun e_ w_ BY BX BW=>df.mono (df.call AK (aN ((BW 0 rfl))) (uj _ _ _ _ _ _ (cc.mk (cA.ext (cA.ext hSx hX) BY) (by omega) (by omega)) (by omega))) fun v B0 hv=>⟨hv.1,cJ.low hv.2 BY.size,dF fun b hb=>eV hv.2 hb⟩,fun e_ w_ BY BX BW=>aH rfl (aa (cK.fieldAddr bk (((BX 1 rfl).trans rfl)))),fun e_ w_ BY BX BW=>aH rfl (aa (cK.load bI ((BW 2 rfl)) ((bc.ext hA1 BY).at_ (i:=0) rfl rfl))),fun e_ w_ BY BX BW=>df.mono (df.call tx (aN ((BW 3 rfl))) (iv _ r (by omega))) fun v B0 hv=>⟨hv.1,cJ.low hv.2 BY.size,dF fun b hb=>eV hv.2 hb⟩,fun e_ w_ BY BX BW=>aH rfl (aa (cK.fieldAddr bk (((BX 1 rfl).trans rfl)))),fun e_ w_ BY BX BW=>aH rfl (aa (cK.load bI ((BW 5 rfl)) ((bc.ext hA1 BY).at_ (i:=0) rfl rfl))),fun e_ w_ BY BX BW=>df.mono (df.call tx (aN ((BW 6 rfl))) (iv _ r (by omega))) fun v B0 hv=>⟨hv.1,cJ.low hv.2 BY.size,dF fun b hb=>eV hv.2 hb⟩,trivial⟩ ?_;intro e1 w2 hx2 ho1 hf1 hp1;replace hX:=aF.trans hX hx2;have s4_e1:cJ w2 (e1 4) w1.heap.size r c M (b0 + 1):=hf1 1 rfl;have s7_e1:cJ w2 (e1 7) w1.heap.size r r dC 1:=hf1 4 rfl;have s10_e1:cJ w2 (e1 10) w1.heap.size r r dC 1:=hf1 7 rfl;obtain ⟨hm,km,ρm,hqm,hMm⟩:=s4_e1;have hdm:=cM.dlim hMm;obtain ⟨hu,ku,ρu,hqu,hMu⟩:=s7_e1;have hdu:=cM.dlim hMu;obtain ⟨hv,kv,ρv,hqv,hMv⟩:=s10_e1;have hdv:=cM.dlim hMv;obtain ⟨nmu,dmu⟩:=eS hMm hMu (by rw [←hqm,←hqu];exact hp1 1 4 rfl rfl rfl rfl);obtain ⟨nmv,dmv⟩:=eS hMm hMv (by rw [←hqm,←hqv];exact hp1 1 7 rfl rfl rfl rfl);obtain ⟨nuv,duv⟩:=eS hMu hMv (by rw [←hqu,←hqv];exact hp1 4 7 rfl rfl rfl rfl);refine RL.p rfl rfl (cK.build (vs:= [(0,.agg #[.int .i64 ((r:Nat)),.int .i64 ((c:Nat)),.slice (some ⟨hm,0,none⟩) (r) (km)]),(1,.agg #[.int .i64 ((r:Nat)),.int .i64 ((r:Nat)),.slice (some ⟨hu,0,none⟩) (r) (ku)]),(2,.agg #[.int .i64 ((r:Nat)),.int .i64 ((r:Nat)),.slice (some ⟨hv,0,none⟩) (r) (kv)])]) [(0,3),(3,3),(6,3)] zW zU (gp hqm hqu hqv) (rr rfl)) ?_;refine RL.x rfl rfl (df.box [.int .i64 ((r:Nat)),.int .i64 ((c:Nat)),.slice (some ⟨hm,0,none⟩) (r) (km),.int .i64 ((r:Nat)),.int .i64 ((r:Nat)),.slice (some ⟨hu,0,none⟩) (r) (ku),.int .i64 ((r:Nat)),.int .i64 ((r:Nat)),.slice (some ⟨hv,0,none⟩) (r) (kv)] rfl rfl) ?_;rintro _ w3 ⟨gw,rfl,hge2,hx3,hA2⟩;have hbs2:w.heap.size≤gw:=Nat.le_trans hX.size hge2;replace hMm:=cM.ext hMm hx3;replace hMu:=cM.ext hMu hx3;replace hMv:=cM.ext hMv hx3;replace hX:=aF.trans hX hx3;refine RL.p rfl rfl (cK.assign rfl) ?_;refine RL.nil ?_;refine WP.ret ?_;refine ⟨.pointer (some ⟨gw,0,none⟩),Bu.one (fZ.tmp rfl),_,rfl,hX,?_⟩;dsimp only;rw [←hBe];exact ⟨gw,rfl,hm,hu,hv,km,ku,kv,ρm,ρu,ρv,(by rw [hBe];exact hbs2),hA2,cM.up (cM.low hMm hX1s) (by omega) (by omega),cM.up (cM.low hMu hX1s) (by omega) (by omega),cM.up (cM.low hMv hX1s) (by omega) (by omega),nmu,nmv,nuv,dmu,dmv,duv⟩
end Go.TL
namespace Go.TL
open Go.RowKit
set_option linter.unusedVariables false
def qb (l:List Oper) (i:Nat):Bool:=match l[i]? with
  | none=>false
  | some oi=>(List.range l.length).all fun j=>Nat.ble j i || match l[j]? with
      | some oj=>oj.after.any (fun e=>Region.binds .any e&&e.on==i) || oi.apart l.toArray oj
      | none=>true
theorem sX {l:List Oper} {i:Nat} {o:Oper} {listed:Array Bool} (h:qb l i=true) (hl:∀k,k<i→listed.getD k false=true) (ho:l[i]? =some o):Region.free .any l.toArray listed i=true:=by
  simp only [qb,ho,List.all_eq_true,List.mem_range] at h;have ho2:l.toArray[i]? =some o:=by simpa using ho
  simp only [Region.free,ho2,List.all_eq_true,List.mem_range,List.size_toArray];intro j hj;have h1:=h j hj
  by_cases hji:j=i
  · subst hji;simp
  · by_cases hlt:j<i
    · have:=hl j hlt
      have h2:=nt this;rw [getD_eq h2 true false,this];simp
    · simp only [Bool.or_eq_true] at h1⊢
      rcases h1 with h1 | h1
      · have:=Nat.le_of_ble_eq_true h1;omega
      · right
        have hoj:l.toArray[j]? =l[j]? :=by simp
        rw [hoj];exact h1
def qn (P:Program) (l:List Oper) (n:Nat) (Φ:List cn) (A:Apart Φ) (e0:cE) (w0:World) (j:Nat):Prop:=
  ∃o,l[j]? =some o∧o.guard=none∧qb l j=true∧(∀k,A.ap j k=false)∧
    ∀e' w',aF w0 w'→(∀t,dX l n t=false→e' t=e0 t)→(∀k,fT o k=true→cg Φ k (e' (aX l k)) w')→∃v,(∀w2,cK P o e' w2 v)∧cg Φ j v w'
section
variable {P:Program} {N:Nat} {Q:Exit→Act→World→Prop} {l:List Oper}
theorem oR {n:Nat} {tk:Nat→Bool} (G:Good N n l tk) {Φ:List cn} {A:Apart Φ} {e0:cE} {w0 w w':World} (hmono:ej Φ) {listed:Array Bool} {a:Act} {e':cE} {i:Nat} {o:Oper} {v:Value}
    (M:Mid N n l (fun _=>false) Φ A e0 w0 listed a w) (hin:i<n) (ho':l[i]? =some o) (hafter:∀e∈o.after,Region.binds .any e=true→listed.getD e.on false=true)
    (he:IsE N a e') (hother:∀t,dX l n t=false→e' t=e0 t) (hf:∀i,i<n→listed.getD i false=true→cg Φ i (e' (aX l i)) w)
    (happ:∀i j,i<n→j<n→i≠j→listed.getD i false=true→listed.getD j false=true→A.disj l i j e' w)
    (hext:aF w w') (hφv:cg Φ i v w') (hfresh:A.fresh l o i e' w v w'):Mid N n l (fun _=>false) Φ A e0 w0 (listed.setIfInBounds i true) (a.put o.dst v) w':=by
  obtain ⟨d,hd,hdN,hdist,hguard⟩:=G.dst i o hin ho';have hdi:aX l i=d:=by simp [aX,ho',hd]
  have hedge:∀j,fT o j=true→listed.getD j false=true∧j<n:=by
    intro j hj;simp only [fT,List.any_eq_true,Bool.and_eq_true] at hj;obtain ⟨x,hx,hxj,hxb⟩:=hj;have hx':x∈o.after:=Array.mem_def.2 hx;have hxe:x.on=j:=Nat.eq_of_beq_eq_true hxj;subst hxe;exact ⟨hafter x hx' hxb,Nat.lt_trans (G.back i o ho' x hx' hxb) hin⟩
  have hkd:∀k,k<n→k≠i→aX l k≠d:=by
    intro k hk hki;rcases Nat.lt_trichotomy k i with h | h | h
    · exact hdist k h
    · exact absurd h hki
    · intro heq
      have hkl:k<l.length:=Nat.lt_of_lt_of_le hk G.le;obtain ⟨d2,hd2,_,hdist2,_⟩:=G.dst k l[k] hk (List.getElem?_eq_getElem hkl);have:aX l k=d2:=by simp [aX,hkl,hd2]
      rw [heq] at this;exact hdist2 i h (by rw [hdi];exact this)
  have hval:∀k,k<n→k≠i→dY e' o.dst v (aX l k)=e' (aX l k):=by
    intro k hk hki;simp only [hd,dY];exact cI _ _ _ _ (hkd k hk hki)
  have hvi:dY e' o.dst v (aX l i)=v:=by rw [hdi];simp only [hd,dY,cb]
  refine ⟨by simp [M.size],?_,?_,(fun j hj=>by cases hj),aF.trans M.ext hext,dY e' o.dst v,he.put (by simp [hd,gi,Nat.blt_eq,hdN]) v,?_,?_,?_⟩
  · intro k ok hk hlk e hke hb
    by_cases hki:k=i
    · subst hki
      rw [ho'] at hk;injection hk with hk;subst hk;exact getD_set_true (hafter e hke hb)
    · rw [getD_set_ne false (Ne.symm hki)] at hlk
      exact getD_set_true (M.closed k ok hk hlk e hke hb)
  · intro j hj hjl
    rw [getD_set_ne true (by omega)];exact M.late j hj hjl
  · intro t ht
    simp only [hd,dY];rw [cI _ _ _ _ (fo ht hin ho' hd)];exact hother t ht
  · intro k hk hlk
    by_cases hki:k=i
    · subst hki
      rw [hdi];simp only [hd,dY,cb];exact hφv
    · rw [getD_set_ne false (Ne.symm hki)] at hlk
      rw [hval k hk hki];have:=hf k hk hlk
      unfold cg at this⊢
      split
      · rename_i φk hφk
        rw [hφk] at this;exact ej.at_ hmono k φk hφk _ _ _ this hext
      · trivial
  · have old:∀k k',k<n→k≠i→listed.getD k false=true→A.ap k k'=true→∀b,A.own k (e' (aX l k)) w' b→A.own k (e' (aX l k)) w b∧b<w.heap.size:=fun k k' hk _ hlk hfk b hb=>
      ⟨A.keep k k' _ _ _ b hfk (hf k hk hlk) hext hb,A.low k k' _ _ b hfk (hf k hk hlk) (A.keep k k' _ _ _ b hfk (hf k hk hlk) hext hb)⟩
    have key:∀j,j<n→j≠i→listed.getD j false=true→A.ap i j=true→∀b,A.own i v w' b→¬A.own j (e' (aX l j)) w' b:=by
      intro j hj hji hlj hap b h1 h2;have h3:=old j i hj hji hlj (A.symm i j hap) b h2;rcases hfresh with h4 | h4 | ⟨k,hk1,hk2,hk3⟩
      · rw [h4 j] at hap;cases hap
      · have:=h4 b h1;omega
      · obtain ⟨h5,h6⟩:=hk2 j hap
        obtain ⟨h7,h8⟩:=hedge k hk1;exact happ k j h8 hj (Ne.symm h6) h7 hlj h5 b (hk3 b h1) h3.1
    intro k j hk hj hkj hlk hlj hap b
    by_cases hki:k=i
    · have hji:j≠i:=fun h=>hkj (hki.trans h.symm)
      rw [getD_set_ne false (Ne.symm hji)] at hlj;rw [hval j hj hji];subst hki;rw [hvi];exact key j hj hji hlj hap b
    · rw [getD_set_ne false (Ne.symm hki)] at hlk
      rw [hval k hk hki]
      by_cases hji:j=i
      · subst hji
        rw [hvi];intro h1 h2;exact key k hk hki hlk (A.symm k j hap) b h2 h1
      · rw [getD_set_ne false (Ne.symm hji)] at hlj
        rw [hval j hj hji];intro h1 h2;exact happ k j hk hj hkj hlk hlj hap b (old k j hk hki hlk hap b h1).1 (old j k hj hji hlj (A.symm k j hap) b h2).1
theorem uE {n:Nat} {tk:Nat→Bool} (G:Good N n l tk) {Φ:List cn} {A:Apart Φ} {e0:cE} {w0:World} (hlen:Φ.length=n) (hmono:ej Φ) (hob:fw P l n Φ A e0 w0 0 l Φ) (hs:Region.noSelect l.toArray=true) (hQ:∀c a w,¬Q (.panic c) a w) (hlt:∀j,tk j=true→qn P l n Φ A e0 w0 j)
    (htail:∀a e' w',IsE N a e'→aF w0 w'→(∀t,dX l n t=false→e' t=e0 t)→(∀i,i<n→cg Φ i (e' (aX l i)) w')→
      (∀i j,i<n→j<n→i≠j→A.disj l i j e' w')→wpList P l.toArray Q (l.drop n) a w'):
    ∀(fuel:Nat) (listed:Array Bool) (a:Act) (w:World),Mid N n l (fun _=>false) Φ A e0 w0 listed a w→listed.toList.count false≤fuel→wpAny P .any l.toArray Q fuel listed a w:=by
  intro fuel
  induction fuel with
  | zero=>
    intro listed a w M hc;have hall:∀j,j<l.length→listed.getD j false=true:=by
      intro j hj;have hj':j<listed.size:=by rw [M.size];exact hj
      cases hb:listed.getD j false with
      | true=>rfl
      | false=>
        have:(false:Bool)∈listed.toList:=by
          have hx:listed.toList[j]'(by simpa using hj')=false:=by simpa [hj'] using hb
          exact hx▸List.getElem_mem _
        have:=List.count_pos_iff.2 this;omega
    have hnl:n=l.length:=by
      rcases Nat.lt_or_ge n l.length with h | h
      · have h1:=M.late n (Nat.le_refl _) h
        rw [getD_eq (by rw [M.size];exact h) true false,hall n h] at h1;cases h1
      · have:=G.le;omega
    obtain ⟨e',he,hother,hf,hd⟩:=M.env;have h1:=htail a e' w he M.ext hother (fun i hi=>hf i hi (hall i (by omega))) (fun i j hi hj hne=>hd i j hi hj hne (hall i (by omega)) (hall j (by omega)));exact iL G 0 n listed a w (Nat.le_refl _) G.le M.size (fun j hj=>hall j (by omega)) M.late (by omega) h1
  | succ fuel ih=>
    intro listed a w M hc
    by_cases hall:∀j,j<n→listed.getD j false=true
    · obtain ⟨e',he,hother,hf,hd⟩:=M.env
      have h1:=htail a e' w he M.ext hother (fun i hi=>hf i hi (hall i hi)) (fun i j hi hj hne=>hd i j hi hj hne (hall i hi) (hall j hj));refine iL G (fuel + 1) n listed a w (Nat.le_refl _) G.le M.size hall M.late ?_ h1;have key:∀m,m≤l.length→n≤m→(listed.toList.drop n).take (m - n)=List.replicate (m - n) false:=by
        intro m hm hnm
        apply List.ext_getElem?
        intro k
        by_cases hk:k<m - n
        · have hkl:n + k<listed.size:=by rw [M.size];omega
          rw [List.getElem?_take,if_pos hk,List.getElem?_drop,List.getElem?_replicate,if_pos hk];have:=M.late (n + k) (by omega) (by omega);simp only [Array.getD_eq_getD_getElem?] at this;rw [Array.getElem?_eq_getElem hkl] at this;simp only [Option.getD_some] at this;rw [Array.getElem?_toList,Array.getElem?_eq_getElem hkl,this]
        · rw [List.getElem?_eq_none (by simp;omega),List.getElem?_eq_none (by simp;omega)]
      have h2:=key l.length (Nat.le_refl _) G.le;have h3:(listed.toList.drop n).take (l.length - n)=listed.toList.drop n:=List.take_of_length_le (by simp [M.size]);have h4:listed.toList.count false=(listed.toList.take n).count false + (listed.toList.drop n).count false:=by
        rw [←List.count_append,List.take_append_drop]
      rw [h3] at h2;rw [h2,List.count_replicate_self] at h4;omega
    · have hex:∃j,j<n∧listed.getD j false=false:=by
        apply Classical.byContradiction
        intro hno
        apply hall
        intro j hj;cases hb:listed.getD j false with
        | true=>rfl
        | false=>exact absurd ⟨j,hj,hb⟩ hno
      have hmin:∃j,j<n∧listed.getD j false=false∧∀k,k<j→listed.getD k false=true:=by
        obtain ⟨j,hj,hb⟩:=hex
        induction j using Nat.strongRecOn with
        | _ j ihj=>
          by_cases hk:∃k,k<j∧listed.getD k false=false
          · obtain ⟨k,hkj,hkb⟩:=hk
            exact ihj k hkj (by omega) hkb
          · refine ⟨j,hj,hb,fun k hkj=> ?_⟩
            cases hbk:listed.getD k false with
            | true=>rfl
            | false=>exact absurd ⟨k,hkj,hbk⟩ hk
      obtain ⟨j0,hj0,hj0b,hj0k⟩:=hmin;have hj0l:j0<l.length:=Nat.lt_of_lt_of_le hj0 G.le;have hready0:j0∈Region.ready .any l.toArray listed:=by
        refine mem_ready.2 ⟨by rw [getD_eq (by rw [M.size];exact hj0l) true false];exact hj0b,l[j0],by simp [hj0l],fun e he hbe=>hj0k _ ?_⟩;exact G.back j0 _ (List.getElem?_eq_getElem hj0l) e he hbe
      by_cases htk:tk j0=true
      · obtain ⟨o,ho',hg0,hfr,hap0,hlo⟩:=hlt j0 htk
        obtain ⟨e',he,hother,hf,happ⟩:=M.env;have hpre:∀k,fT o k=true→cg Φ k (e' (aX l k)) w:=fun k hk=>by
          simp only [fT,List.any_eq_true,Bool.and_eq_true] at hk;obtain ⟨x,hx,hxj,hxb⟩:=hk;have hxe:x.on=k:=Nat.eq_of_beq_eq_true hxj;subst hxe;have hlt0:=G.back j0 o ho' x (Array.mem_def.2 hx) hxb;exact hf _ (Nat.lt_trans hlt0 hj0) (hj0k _ hlt0)
        obtain ⟨v,hv,hφ⟩:=hlo e' w M.ext hother hpre;have hj0s:j0<listed.size:=by rw [M.size];exact hj0l
        have hcnt:=dG hj0s (by rw [getD_eq hj0s true false];exact hj0b);refine wpAny_take (by simpa using ho') hs (sX hfr hj0k ho') (by rw [List.contains_iff_mem];exact hready0) (fun c a w h=>absurd h (hQ c _ w)) (.inl ⟨by simp only [Region.wanted];rw [hg0],fun w2=>by have:=hv w2;unfold cK at this;rw [he.eval];exact this⟩) ?_;exact ih _ _ _ (oR G hmono M hj0 ho' (fun e hm hb=>hj0k _ (G.back j0 o ho' e hm hb)) he hother hf happ (aF.refl w) hφ (.inl hap0)) (by omega)
      refine ⟨fun hnil=>(by rw [hnil] at hready0;cases hready0),fun i hi=> ?_⟩;obtain ⟨hi0,o,ho,hafter⟩:=mem_ready.1 hi;have ho':l[i]? =some o:=by simpa using ho
      have hil:i<l.length:=(List.getElem?_eq_some_iff.1 ho').1;have hisz:i<listed.size:=by rw [M.size];exact hil
      have hin:i<n:=by
        rcases Nat.lt_or_ge i n with h | h
        · exact h
        · have ha:Anc l i j0:=(G.tail i h hil j0 (by omega)).elim id fun h=>absurd h htk
          have:=iz M.closed ha (fun o2 ho2 e he hb=>by rw [ho'] at ho2;injection ho2 with ho2;subst ho2;exact hafter e he hb);rw [hj0b] at this;cases this
      obtain ⟨e',he,hother,hf,happ⟩:=M.env;obtain ⟨d,hd,hdN,hdist,hguard⟩:=G.dst i o hin ho';obtain ⟨φ,hφ⟩:∃φ,Φ[i]? =some φ:=⟨Φ[i]'(by omega),List.getElem?_eq_getElem (by omega)⟩
      have hdi:aX l i=d:=by simp [aX,ho',hd]
      have hedge:∀j,fT o j=true→listed.getD j false=true∧j<n:=by
        intro j hj;simp only [fT,List.any_eq_true,Bool.and_eq_true] at hj;obtain ⟨x,hx,hxj,hxb⟩:=hj;have hx':x∈o.after:=Array.mem_def.2 hx;have hxe:x.on=j:=Nat.eq_of_beq_eq_true hxj;subst hxe;exact ⟨hafter x hx' hxb,Nat.lt_trans (G.back i o ho' x hx' hxb) hin⟩
      have hob':=fw.at_ hob i o φ ho' hφ;rw [Nat.zero_add] at hob';have H:=hob' e' w M.ext hother (fun j hj=>hf j (hedge j hj).2 (hedge j hj).1);have hφa:∀v w',φ v w'→cg Φ i v w':=fun v w' h=>by simp only [cg,hφ];exact h
      have next:∀v w',aF w w'→φ v w'→A.fresh l o i e' w v w'→Mid N n l (fun _=>false) Φ A e0 w0 (listed.setIfInBounds i true) (a.put o.dst v) w':=fun v w' h1 h2 h3=>
        oR G hmono M hin ho' hafter he hother hf happ h1 (hφa v w' h2) h3
      have hcnt:=dG hisz hi0
      unfold wpOp
      rw [ho];simp only;cases hg:o.guard with
      | none=>
        rw [hg] at H;simp only at H;rw [if_pos (by simp [Region.wanted,hg])];exact .inl (H a he.eval _ _ fun v w' hv=>ih _ _ _ (next v w' hv.1 hv.2.1 hv.2.2) (by omega))
      | some gw=>
        obtain ⟨g,want⟩:=gw;rw [hg] at H;simp only at H;obtain ⟨hnf,H⟩:=H;have nofr:∀v w',A.fresh l o i e' w v w':=fun v w'=> .inl hnf
        obtain ⟨hge,hgn⟩:=hguard g want hg;have hgl:g<l.length:=Nat.lt_of_lt_of_le hgn G.le;obtain ⟨dg,hdg,hdgN,_,_⟩:=G.dst g l[g] hgn (List.getElem?_eq_getElem hgl);have hdgat:aX l g=dg:=by simp [aX,hgl,hdg]
        have hsz:dg<a.tmps.size:=by rw [he.size];exact hdgN
        rcases H with ⟨b,hb,hyes,hno⟩ | ⟨hu,hno⟩
        · have hy:yielded l.toArray a.tmps g=some b:=by
            have hgv:=he.get dg;rw [←hdgat,hb,hdgat] at hgv;have hgv':a.tmps[dg]? =some (.bool b):=by
              simp only [Array.getD_eq_getD_getElem?,Array.getElem?_eq_getElem hsz,Option.getD_some] at hgv;rw [Array.getElem?_eq_getElem hsz,hgv]
            unfold yielded
            simp [hgl,hdg,hgv']
          by_cases hbw:b=want
          · rw [if_pos (by simp [Region.wanted,hg,hy,hbw])]
            exact .inl (hyes hbw a he.eval _ _ fun v w' hv=>ih _ _ _ (next v w' hv.1 hv.2 (nofr v w')) (by omega))
          · rw [if_neg (by simp [Region.wanted,hg,hy,hbw])]
            exact ih _ _ _ (next undef w (aF.refl w) (hno (by cases b<;>cases want<;>simp_all)) (nofr undef w)) (by omega)
        · have hy:yielded l.toArray a.tmps g=none:=by
            have hgv:=he.get dg;rw [←hdgat,hu,hdgat] at hgv;have hgv':a.tmps[dg]? =some undef:=by
              simp only [Array.getD_eq_getD_getElem?,Array.getElem?_eq_getElem hsz,Option.getD_some] at hgv;rw [Array.getElem?_eq_getElem hsz,hgv]
            unfold yielded
            simp [hgl,hdg,hgv',undef]
          rw [if_neg (by simp [Region.wanted,hg,hy])];exact ih _ _ _ (next undef w (aF.refl w) hno (nofr undef w)) (by omega)
end
theorem zH {P:Program} {N:Nat} {Q:dc} {e:cE} {w:World} {id:Nat} {l:List Oper} (hm:P.follows .mixedOrders=true) (n:Nat) (Φ:List cn) (A:Apart Φ) (ks:List Nat)
    (hs:Region.noSelect l.toArray=true) (hc:eE (fun j=>ks.contains j) N n l=true) (hlen:Φ.length=n) (hmono:ej Φ) (hob:fw P l n Φ A e w 0 l Φ) (hlt:∀j,j∈ks→qn P l n Φ A e w j)
    (hkn:ks.all (fun k=>Nat.blt k n)=true)
    (htail:∀e' w',aF w w'→(∀t,dX l n t=false→e' t=e t)→(∀j,Nat.blt j n=true→cg Φ j (e' (aX l j)) w')→
      (∀i j,Nat.blt i n=true→Nat.blt j n=true→Nat.beq i j=false→A.disj l i j e' w')→
      RL P N l.toArray (fun e w=>Q .normal e w) (l.drop n) e' w'):WP P N (.region id l.toArray true) Q e w:=by
  intro a ha;have htk:∀j,(fun j=>ks.contains j) j=true→j<n:=fun j h=>by
    have h':j∈ks:=List.contains_iff_mem.1 h;have:=List.all_eq_true.1 hkn j h'
    simpa [Nat.blt_eq] using this
  have G:=eu (tk:=fun j=>ks.contains j) hc htk;refine Code.wp_mono (Q:=fun x a' w'=>x=Exit.normal∧∃e',IsE N a' e'∧Q x e' w') (fun x a' w' h=>h.2) ?_;refine wp_region_any hm ?_;simp only [List.size_toArray];have hrep:∀i,(Array.replicate l.length false).getD i false=false:=fun i=>by by_cases hi:i<l.length<;>simp [hi]
  refine uE (Q:=fun x a' w'=>x=Exit.normal∧∃e',IsE N a' e'∧Q x e' w') G hlen hmono hob hs (fun c a w h=>by cases h.1) (fun j hj=>hlt j (List.contains_iff_mem.1 hj)) ?_ _ _ _ _ ?_ ?_
  · intro a2 e' w' hae hext hoth hf hd
    exact htail e' w' hext hoth (fun j hj=>hf j (by simpa [Nat.blt_eq] using hj)) (fun i j hi hj hij=>hd i j (by simpa [Nat.blt_eq] using hi) (by simpa [Nat.blt_eq] using hj) (ep hij)) a2 _ hae fun _ e'' _ h1 h2=>⟨rfl,e'',h1,h2⟩
  · refine ⟨by simp,?_,?_,(fun _ h=>by cases h),⟨rfl,rfl,rfl,Nat.le_refl _,fun _ _=>rfl⟩,e,ha,fun _ _=>rfl,?_,?_⟩
    · intro i o _ h;rw [hrep] at h;cases h
    · intro j _ hj;simp [hj]
    · intro i _ h;rw [hrep] at h;cases h
    · intro i j _ _ _ h;rw [hrep] at h;cases h
  · simp
theorem tc {P:Program} {N:Nat} {Q:dc} {e:cE} {w:World} {id:Nat} {l:List Oper} {y:Code} (hm:P.follows .mixedOrders=true) (n:Nat) (Φ:List cn) (A:Apart Φ) (ks:List Nat)
    (hs:Region.noSelect l.toArray=true) (hc:eE (fun j=>ks.contains j) N n l=true) (hlen:Φ.length=n) (hmono:ej Φ) (hob:fw P l n Φ A e w 0 l Φ) (hlt:∀j,j∈ks→qn P l n Φ A e w j)
    (hkn:ks.all (fun k=>Nat.blt k n)=true)
    (htail:∀e' w',aF w w'→(∀t,dX l n t=false→e' t=e t)→(∀j,Nat.blt j n=true→cg Φ j (e' (aX l j)) w')→
      (∀i j,Nat.blt i n=true→Nat.blt j n=true→Nat.beq i j=false→A.disj l i j e' w')→
      RL P N l.toArray (fun e w=>WP P N y Q e w) (l.drop n) e' w'):WP P N (.seq (.region id l.toArray true) y) Q e w:=
  WP.seq (zH hm n Φ A ks hs hc hlen hmono hob hlt hkn htail)
theorem A8 {p:Nat→Prop} {a:Nat} (ha:p a):∀j,j∈ [a]→p j:=fun j h=>by
  rcases List.mem_cons.1 h with h | h
  · rw [h];exact ha
  · cases h
theorem A7 {p:Nat→Prop} {a b:Nat} (ha:p a) (hb:p b):∀j,j∈ [a,b]→p j:=fun j h=>by
  rcases List.mem_cons.1 h with h | h
  · rw [h];exact ha
  · exact A8 hb j h
def vP (w:World) (v:Value) (a c:Int) (b1 b2:Nat):Prop:=∃v1 v2,v= .tuple #[v1,v2,.int .i64 0]∧al w v1 (a/c) b1∧al w v2 (a % c) b2
theorem vP.ext {w w':World} {v:Value} {a c:Int} {b1 b2:Nat} (h:vP w v a c b1 b2) (hx:aF w w'):vP w' v a c b1 b2:=by
  obtain ⟨v1,v2,h1,h2,h3⟩:=h;exact ⟨v1,v2,h1,h2.ext hx,h3.ext hx⟩
theorem lM (a c:Int) (b1 b2:Nat):bO (fun v w=>vP w v a c b1 b2):=fun _ _ _ h hx=>h.ext hx
instance (a c:Int) (b1 b2:Nat):Nonempty (bO (fun v w=>vP w v a c b1 b2)):=⟨lM a c b1 b2⟩
section
variable {P:Program} {e:cE} {w:World} {d:Option Tmp} {ty:TypeId} {pos:String} {after:Array Edge} {gd:Option (Nat×Bool)} {x:Operand} {v:Value} {a c:Int} {b1 b2:Nat}
theorem xx (hx:ev e x=v) (h:vP w v a c b1 b2):df P ⟨d,.extract x 0,ty,pos,after,gd⟩ e w (fun v' w'=>w=w'∧al w' v' (a/c) b1):=by
  obtain ⟨v1,v2,rfl,h2,h3⟩:=h;exact dt (φ:=fun v' w'=>al w' v' (a/c) b1) (cK.extract hx rfl) h2
theorem xw (hx:ev e x=v) (h:vP w v a c b1 b2):df P ⟨d,.extract x 1,ty,pos,after,gd⟩ e w (fun v' w'=>w=w'∧al w' v' (a % c) b2):=by
  obtain ⟨v1,v2,rfl,h2,h3⟩:=h;exact dt (φ:=fun v' w'=>al w' v' (a % c) b2) (cK.extract hx rfl) h3
theorem xy (hx:ev e x=v) (h:vP w v a c b1 b2):cK P ⟨d,.extract x 2,ty,pos,after,gd⟩ e w (.int .i64 0):=by
  obtain ⟨v1,v2,rfl,h2,h3⟩:=h;exact cK.extract hx rfl
theorem vm (hx:ev e x=v) (h:vP w v a c b1 b2):∃u,(∀w2,cK P ⟨d,.extract x 1,ty,pos,after,gd⟩ e w2 u)∧al w u (a % c) b2:=by
  obtain ⟨v1,v2,rfl,h2,h3⟩:=h;exact ⟨v2,fun w2=>cK.extract hx rfl,h3⟩
theorem vl (hx:ev e x=v) (h:vP w v a c b1 b2):∃u,(∀w2,cK P ⟨d,.extract x 2,ty,pos,after,gd⟩ e w2 u)∧u= .int .i64 0:=by
  obtain ⟨v1,v2,rfl,h2,h3⟩:=h;exact ⟨_,fun w2=>cK.extract hx rfl,rfl⟩
end
end Go.TL
namespace Go.TL
open Go.RowKit Go.Proofs
set_option linter.unusedVariables false
set_option linter.unusedSimpArgs false
set_option maxRecDepth 10000 in
set_option maxHeartbeats 1600000 in
theorem zd (w:World) (x:Value) (r c:Nat) (M:Nat→Nat→Int) (b0 b:Nat) (F:Nat→Nat→WS→Prop) (J:Nat→Nat→Nat→WS→Prop) (hx:cc w x r c M b0) (hb0:b0 + 1≤b) (hb:2*b + 300≤bp) (hF0:F 0 0 ⟨M,dC,dC⟩) (hstart:∀top q S,top<r→q<c→F top q S→J top q (top + 1) S) (hfit:∀top q i S,top<i→i<r→q<c→J top q i S→S.M i q≠0→S.M top q≠0→jr r c b (cV S top i (-(S.M top q/S.M i q)))) (hnext1:∀top q i S,top<i→i<r→q<c→J top q i S→S.M i q≠0→S.M top q≠0→J top q i (lR S top i q)) (hnext0:∀top q i S,top<i→i<r→q<c→J top q i S→S.M i q≠0→S.M top q=0→J top q i (bS S top i)) (hdone:∀top q i S,top<i→i<r→q<c→J top q i S→S.M i q=0→J top q (i + 1) S) (hno:∀top q S,top<r→q<c→J top q r S→S.M top q=0→F top (q + 1) S) (hra:∀top q S,top<r→q<c→J top q r S→S.M top q≠0→(∀n,n<top→jr r c b (ra (sg S top q) top q (n + 1)))∧F (top + 1) (q + 1) (ra (sg S top q) top q top)):Calls Tryz.prog 14 #[x] w (cj w fun v w'=>∃top q S,F top q S∧(c≤q∨r≤top)∧top≤r∧q≤c∧jq w' v r c S b):=by
 have hLIM:bp=562949953421312:=rfl;obtain ⟨sx,rfl,hr,hc,hSx⟩:=hx.form;have hwr:w.heap.size≤w.heap.size:=Nat.le_refl _;refine aj (N:=173) (rs:= #[.cell 2 31]) Tryz.func14 rfl rfl rfl (Nat.le_of_ble_eq_true rfl) ?_;have hX:aF w w:=aF.refl w;refine ab ?_;refine RL.x rfl rfl (df.box [.int .i64 ((r:Nat)),.int .i64 ((c:Nat)),sx] rfl rfl) ?_;rintro _ w1 ⟨g1,rfl,hge1,hx1,hA1⟩;replace hX:=aF.trans hX hx1;refine RL.x rfl rfl (df.alloc [.int .i64 (0),.int .i64 (0),.slice (none) (0) (0),.int .i64 (0),.int .i64 (0),.slice (none) (0) (0),.int .i64 (0),.int .i64 (0),.slice (none) (0) (0)] kZ rfl) ?_;rintro _ w2 ⟨g2,rfl,hge2,hx2,hA2⟩;have hbs2:w.heap.size≤g2:=Nat.le_trans hX.size hge2;replace hA1:=bc.ext hA1 hx2;replace hX:=aF.trans hX hx2;refine RL.nil ?_;refine ab ?_;refine RL.p rfl rfl (ah [.int .i64 ((r:Nat)),.int .i64 ((c:Nat)),sx] aZ rfl (hA1.cells 0 _ rfl rfl)) ?_;refine RL.x rfl rfl (df.call AG (aN rfl) (wj _ _ _ _ _ _ b (cc.mk (cA.ext hSx hX) (by omega) (by omega)) (by omega) (by omega))) ?_;rintro _ w3 ⟨hx3,gw,rfl,hW⟩;obtain ⟨B,hBe⟩:∃B:Nat,B=w2.heap.size:=⟨_,rfl⟩
 rw [←hBe] at hW;have hBle:w.heap.size≤B:=by rw [hBe];exact hX.size
 replace hA1:=bc.ext hA1 hx3;replace hA2:=bc.ext hA2 hx3;replace hX:=aF.trans hX hx3;refine RL.p rfl rfl (cK.assign rfl) ?_;refine RL.nil ?_;refine ab ?_;refine RL.p rfl rfl (cK.assign rfl) ?_;refine RL.nil ?_;refine WP.seq ?_;refine ab ?_;refine RL.p rfl rfl (cK.assign rfl) ?_;refine RL.nil ?_;refine WP.block ?_;refine WP.loop (fun mz ez uz=>∃top:Nat,∃q:Nat,∃S:WS,(mz=c - q)∧(ez 1= .pointer (some ⟨g1,0,none⟩))∧(ez 2= .pointer (some ⟨g2,0,none⟩))∧(ez 3= .pointer (some ⟨gw,0,none⟩))∧(ez 4= .int .i64 ((top:Nat)))∧(ez 5= .int .i64 ((q:Nat)))∧(top≤r)∧(q≤c)∧(F top q S)∧(aF w uz)∧(bc uz g1 28 3 (bP [.int .i64 ((r:Nat)),.int .i64 ((c:Nat)),sx]))∧(bc uz g2 31 9 (bP [.int .i64 (0),.int .i64 (0),.slice (none) (0) (0),.int .i64 (0),.int .i64 (0),.slice (none) (0) (0),.int .i64 (0),.int .i64 (0),.slice (none) (0) (0)]))∧(ci 83 uz B gw r c (S).M (S).U (S).V b)) (c - 0) ?_ ?_
 · exact ⟨0,0,⟨M,dC,dC⟩,rfl,rfl,rfl,rfl,rfl,rfl,(by omega),(by omega),hF0,hX,hA1,hA2,hW⟩
 rintro m1 e1 w4 ⟨top,q,S,hm1,s1_e1,s2_e1,s3_e1,s4_e1,s5_e1,htop,hq,hF,hX1,hA1,hA2,hW⟩;refine WP.seq ?_;refine aI am 10 [_,_,_,_,fun v BZ=>v= .bool (decide (((q:Nat):Int)<((c:Nat):Int))),_,_,_,_,_] rfl rfl (fun e_ w_ BY BX=>⟨fun _=>aa (cK.move ((BX 5 rfl s5_e1))),fun _=>aa (cK.fieldAddr bG ((BX 1 rfl s1_e1))),fun BW=>aa (cK.load bI ((BW 1 rfl)) ((bc.ext hA1 BY).at_ (i:=1) rfl rfl)),fun BW=>aa (cK.lss ((BW 0 rfl)) ((BW 2 rfl))),fun BW=>aa (cK.move ((BW 3 rfl))),fun BW=>gT (BW 4 rfl) fun hg=>aa (cK.move ((BX 4 rfl s4_e1))),fun BW=>gT (BW 4 rfl) fun hg=>aa (cK.fieldAddr bk ((BX 1 rfl s1_e1))),fun BW=>gT (BW 4 rfl) fun hg=>aa (cK.load bI ((BW 6 rfl hg)) ((bc.ext hA1 BY).at_ (i:=0) rfl rfl)),fun BW=>gT (BW 4 rfl) fun hg=>aa (cK.lss ((BW 5 rfl hg)) ((BW 7 rfl hg))),fun BW=>aa (ay (p:=((q:Nat):Int)<((c:Nat):Int)) (q:=((top:Nat):Int)<((r:Nat):Int)) (BW 4 rfl) (fun hq=>(BW 8 rfl hq))),trivial⟩) ?_;intro e2 w5 hx4 ho1 hf1;replace hA1:=bc.ext hA1 hx4;replace hA2:=bc.ext hA2 hx4;replace hW:=ci.ext hW hx4;replace hX1:=aF.trans hX1 hx4;have s1_e2:=ho1 1 rfl s1_e1;have s2_e2:=ho1 2 rfl s2_e1;have s3_e2:=ho1 3 rfl s3_e1;have s4_e2:=ho1 4 rfl s4_e1;have s5_e2:=ho1 5 rfl s5_e1;have s22_e2:e2 22=_:=hf1 9 rfl;refine RL.nil ?_;refine af ((((q:Nat):Int)<((c:Nat):Int))∧(((top:Nat):Int)<((r:Nat):Int))) s22_e2 (fun c22=> ?_) (fun c22=> ?_)
 ·
  refine WP.skip ?_;refine qf.norm ?_;refine WP.seq ?_;refine WP.block ?_;refine WP.seq ?_;refine ab ?_;refine RL.p rfl rfl (cK.move s4_e2) ?_;refine RL.p rfl rfl (cK.add (c:=((top + 1:Nat):Int)) rfl rfl (bY (by omega))) ?_;refine RL.p rfl rfl (cK.assign rfl) ?_;refine RL.nil ?_;refine WP.block ?_;refine WP.loop (fun mz ez uz=>∃i:Nat,∃T:WS,(mz=r - i)∧(ez 1= .pointer (some ⟨g1,0,none⟩))∧(ez 2= .pointer (some ⟨g2,0,none⟩))∧(ez 3= .pointer (some ⟨gw,0,none⟩))∧(ez 4= .int .i64 ((top:Nat)))∧(ez 5= .int .i64 ((q:Nat)))∧(ez 6= .int .i64 ((i:Nat)))∧(top + 1≤i)∧(i≤r)∧(J top q i T)∧(aF w uz)∧(bc uz g1 28 3 (bP [.int .i64 ((r:Nat)),.int .i64 ((c:Nat)),sx]))∧(bc uz g2 31 9 (bP [.int .i64 (0),.int .i64 (0),.slice (none) (0) (0),.int .i64 (0),.int .i64 (0),.slice (none) (0) (0),.int .i64 (0),.int .i64 (0),.slice (none) (0) (0)]))∧(ci 83 uz B gw r c (T).M (T).U (T).V b)) (r - (top + 1)) ?_ ?_
  · exact ⟨top + 1,S,rfl,s1_e2,s2_e2,s3_e2,s4_e2,s5_e2,rfl,(by omega),(by omega),(hstart top q S (by omega) (by omega) hF),hX1,hA1,hA2,hW⟩
  rintro m2 e3 w6 ⟨i,T,hm2,s1_e3,s2_e3,s3_e3,s4_e3,s5_e3,s6_e3,hi,hir,hJ,hX2,hA1,hA2,hW⟩;refine WP.seq ?_;refine ab ?_;refine RL.p rfl rfl (cK.move s6_e3) ?_;refine RL.p rfl rfl (cK.fieldAddr bk s1_e3) ?_;refine RL.p rfl rfl (cK.load bI rfl (hA1.at_ (i:=0) rfl rfl)) ?_;refine RL.p rfl rfl (cK.lss rfl rfl) ?_;refine RL.nil ?_;refine af (((i:Nat):Int)<((r:Nat):Int)) rfl (fun c30=> ?_) (fun c30=> ?_)
  ·
   refine WP.skip ?_;refine qf.norm ?_;refine WP.seq ?_;refine WP.block ?_;refine WP.block ?_;refine WP.loop (fun mz ez uz=>∃Y:WS,(mz=(Y.M i q).natAbs)∧(ez 1= .pointer (some ⟨g1,0,none⟩))∧(ez 2= .pointer (some ⟨g2,0,none⟩))∧(ez 3= .pointer (some ⟨gw,0,none⟩))∧(ez 4= .int .i64 ((top:Nat)))∧(ez 5= .int .i64 ((q:Nat)))∧(ez 6= .int .i64 ((i:Nat)))∧(J top q i Y)∧(aF w uz)∧(bc uz g1 28 3 (bP [.int .i64 ((r:Nat)),.int .i64 ((c:Nat)),sx]))∧(bc uz g2 31 9 (bP [.int .i64 (0),.int .i64 (0),.slice (none) (0) (0),.int .i64 (0),.int .i64 (0),.slice (none) (0) (0),.int .i64 (0),.int .i64 (0),.slice (none) (0) (0)]))∧(ci 83 uz B gw r c (Y).M (Y).U (Y).V b)) ((T.M i q).natAbs) ?_ ?_
   · exact ⟨T,rfl,s1_e3,s2_e3,s3_e3,s4_e3,s5_e3,s6_e3,hJ,hX2,hA1,hA2,hW⟩
   rintro m3 e4 w7 ⟨Y,hm3,s1_e4,s2_e4,s3_e4,s4_e4,s5_e4,s6_e4,hJ2,hX3,hA1,hA2,hW⟩;refine WP.seq ?_;have hWc:=hW;obtain ⟨hm_1,hu_1,hv_1,km_1,ku_1,kv_1,ρm_1,ρu_1,ρv_1,_,hG_1,hMm_1,hMu_1,hMv_1,_⟩:=hWc;have hdm_1:=cM.dlim hMm_1;have hcm_1:=cM.clim hMm_1
   skip
   refine ab ?_;refine RL.p rfl rfl (cK.move s3_e4) ?_;refine RL.p rfl rfl (cK.nilCheck rfl) ?_;refine RL.p rfl rfl (cK.fieldAddr cR rfl) ?_;refine RL.p rfl rfl (cK.fieldAddr aq rfl) ?_;refine RL.p rfl rfl (cK.load aG rfl (hG_1.at_ (i:=2) rfl rfl)) ?_;refine RL.p rfl rfl (cK.move s6_e4) ?_;refine RL.p rfl rfl (cK.index (j:=i) az rfl rfl rfl (by omega) (by omega)) ?_;refine RL.x rfl rfl (ao (i:=i) aR rfl hMm_1 (by omega)) ?_;rintro v1 _ ⟨rfl,q1⟩;refine RL.p rfl rfl (cK.move s5_e4) ?_;refine RL.p rfl rfl (av (j:=q) bl (bJ q1 w7) rfl rfl (by omega) (by omega)) ?_;refine RL.x rfl rfl (aO (j:=q) an rfl (cM.row hMm_1 (by omega)) (by omega)) ?_;rintro v2 _ ⟨rfl,q2⟩;refine RL.x rfl rfl (df.call gl (aN rfl) (fe _ _ _ _ q2)) ?_;rintro _ w8 ⟨hx5,rfl⟩;replace hA1:=bc.ext hA1 hx5;replace hA2:=bc.ext hA2 hx5;replace hW:=ci.ext hW hx5;replace hX3:=aF.trans hX3 hx5;refine RL.p rfl rfl (cK.neq rfl rfl) ?_;refine RL.nil ?_;refine af (((((Y).M) i q:Int).sign:Int)≠(0:Int)) rfl (fun c45=> ?_) (fun c45=> ?_)
   ·
    refine WP.skip ?_;refine qf.norm ?_;refine WP.block ?_;refine WP.seq ?_;have hWc:=hW;obtain ⟨hm_2,hu_2,hv_2,km_2,ku_2,kv_2,ρm_2,ρu_2,ρv_2,_,hG_2,hMm_2,hMu_2,hMv_2,_⟩:=hWc;have hdm_2:=cM.dlim hMm_2;have hcm_2:=cM.clim hMm_2;have hyz:Y.M i q≠0:=fun h=>c45 (Int.sign_eq_zero_iff_zero.2 h)
    refine ab ?_;refine RL.p rfl rfl (cK.move s3_e4) ?_;refine RL.p rfl rfl (cK.nilCheck rfl) ?_;refine RL.p rfl rfl (cK.fieldAddr cR rfl) ?_;refine RL.p rfl rfl (cK.fieldAddr aq rfl) ?_;refine RL.p rfl rfl (cK.load aG rfl (hG_2.at_ (i:=2) rfl rfl)) ?_;refine RL.p rfl rfl (cK.move s4_e4) ?_;refine RL.p rfl rfl (cK.index (j:=top) az rfl rfl rfl (by omega) (by omega)) ?_;refine RL.x rfl rfl (ao (i:=top) aR rfl hMm_2 (by omega)) ?_;rintro v3 _ ⟨rfl,q3⟩;refine RL.p rfl rfl (cK.move s5_e4) ?_;refine RL.p rfl rfl (av (j:=q) bl (bJ q3 w8) rfl rfl (by omega) (by omega)) ?_;refine RL.x rfl rfl (aO (j:=q) an rfl (cM.row hMm_2 (by omega)) (by omega)) ?_;rintro v4 _ ⟨rfl,q4⟩;refine RL.x rfl rfl (df.call gl (aN rfl) (fe _ _ _ _ q4)) ?_;rintro _ w9 ⟨hx6,rfl⟩;replace hA1:=bc.ext hA1 hx6;replace hA2:=bc.ext hA2 hx6;replace hW:=ci.ext hW hx6;replace hX3:=aF.trans hX3 hx6;refine RL.p rfl rfl (cK.neq rfl rfl) ?_;refine RL.nil ?_;refine af (((((Y).M) top q:Int).sign:Int)≠(0:Int)) rfl (fun c58=> ?_) (fun c58=> ?_)
    ·
     have hWc:=hW;obtain ⟨hm_3,hu_3,hv_3,km_3,ku_3,kv_3,ρm_3,ρu_3,ρv_3,_,hG_3,hMm_3,hMu_3,hMv_3,_⟩:=hWc;have hdm_3:=cM.dlim hMm_3;have hcm_3:=cM.clim hMm_3;have hxz:Y.M top q≠0:=fun h=>c58 (Int.sign_eq_zero_iff_zero.2 h)
     have hXf:=hX3;have hXa1:=aF.refl w9
     skip
     refine tc am 29 [_,_,_,_,_,_,_,_,_,_,_,_,_,_,_,_,_,_,_,_,_,_,fun v BZ=>vP BZ v (((Y).M) top q) (((Y).M) i q) b b,fun v BZ=>vP BZ v (((Y).M) top q) (((Y).M) i q) b b,fun v BZ=>al BZ v ((((Y).M) top q)/(((Y).M) i q)) b,fun v BZ=>al BZ v ((((Y).M) top q) % (((Y).M) i q)) b,_,fun v BZ=>io BZ v w9.heap.size 49 ([.bool (false),.slice (none) (0) (0)]),fun v BZ=>io BZ v w9.heap.size 49 ([.bool (false),.slice (none) (0) (0)])] (Apart.of (fun v _ b=>b=dp v) [(27,28)] rfl ⟨(fun h=>by cases h),(fun h=>by cases h),(fun h=>by cases h),(fun h=>by cases h),(fun h=>by cases h),(fun h=>by cases h),(fun h=>by cases h),(fun h=>by cases h),(fun h=>by cases h),(fun h=>by cases h),(fun h=>by cases h),(fun h=>by cases h),(fun h=>by cases h),(fun h=>by cases h),(fun h=>by cases h),(fun h=>by cases h),(fun h=>by cases h),(fun h=>by cases h),(fun h=>by cases h),(fun h=>by cases h),(fun h=>by cases h),(fun h=>by cases h),(fun h=>by cases h),(fun h=>by cases h),(fun h=>by cases h),(fun h=>by cases h),(fun h=>by cases h),(fun _=>je _ _ _),(fun _=>je _ _ _),trivial⟩) [25,26] (by kernel_rfl) (by kernel_rfl) rfl ⟨ac _,ac _,ac _,ac _,ac _,ac _,ac _,ct _ _,ac _,ac _,bA _ _,ac _,ac _,ac _,ac _,ac _,ac _,ac _,ct _ _,ac _,ac _,bA _ _,lM _ _ _ _,lM _ _ _ _,bA _ _,bA _ _,ac _,eQ _ _ _,eQ _ _ _,trivial⟩ ⟨fun e_ w_ BY BX BW=>aH rfl (aa (cK.move (((BX 3 rfl).trans s3_e4)))),fun e_ w_ BY BX BW=>aH rfl (aa (cK.nilCheck ((BW 0 rfl)))),fun e_ w_ BY BX BW=>aH rfl (aa (cK.fieldAddr cR ((BW 1 rfl)))),fun e_ w_ BY BX BW=>aH rfl (aa (cK.fieldAddr aq ((BW 2 rfl)))),fun e_ w_ BY BX BW=>aH rfl (aa (cK.load aG ((BW 3 rfl)) ((bc.ext hG_3 BY).at_ (i:=2) rfl rfl))),fun e_ w_ BY BX BW=>aH rfl (aa (cK.move (((BX 4 rfl).trans s4_e4)))),fun e_ w_ BY BX BW=>aH rfl (aa (cK.index (j:=top) az ((BW 4 rfl)) ((BW 5 rfl)) rfl (by omega) (by omega))),fun e_ w_ BY BX BW=>aH rfl (ag (ao (i:=top) aR (BW 6 rfl) (cM.ext hMm_3 BY) (by omega))),fun e_ w_ BY BX BW=>aH rfl (aa (cK.move (((BX 5 rfl).trans s5_e4)))),fun e_ w_ BY BX BW=>aH rfl (aa (av (j:=q) bl (BW 7 rfl) rfl (BW 8 rfl) (by omega) (by omega))),fun e_ w_ BY BX BW=>aH rfl (ag (aO (j:=q) an (BW 9 rfl) (cM.row (cM.ext hMm_3 BY) (by omega)) (by omega))),fun e_ w_ BY BX BW=>aH rfl (aa (cK.move (((BX 3 rfl).trans s3_e4)))),fun e_ w_ BY BX BW=>aH rfl (aa (cK.nilCheck ((BW 11 rfl)))),fun e_ w_ BY BX BW=>aH rfl (aa (cK.fieldAddr cR ((BW 12 rfl)))),fun e_ w_ BY BX BW=>aH rfl (aa (cK.fieldAddr aq ((BW 13 rfl)))),fun e_ w_ BY BX BW=>aH rfl (aa (cK.load aG ((BW 14 rfl)) ((bc.ext hG_3 BY).at_ (i:=2) rfl rfl))),fun e_ w_ BY BX BW=>aH rfl (aa (cK.move (((BX 6 rfl).trans s6_e4)))),fun e_ w_ BY BX BW=>aH rfl (aa (cK.index (j:=i) az ((BW 15 rfl)) ((BW 16 rfl)) rfl (by omega) (by omega))),fun e_ w_ BY BX BW=>aH rfl (ag (ao (i:=i) aR (BW 17 rfl) (cM.ext hMm_3 BY) (by omega))),fun e_ w_ BY BX BW=>aH rfl (aa (cK.move (((BX 5 rfl).trans s5_e4)))),fun e_ w_ BY BX BW=>aH rfl (aa (av (j:=q) bl (BW 18 rfl) rfl (BW 19 rfl) (by omega) (by omega))),fun e_ w_ BY BX BW=>aH rfl (ag (aO (j:=q) an (BW 20 rfl) (cM.row (cM.ext hMm_3 BY) (by omega)) (by omega))),fun e_ w_ BY BX BW=>aH rfl (df.call xS (aw rfl rfl) (oH _ _ _ _ _ _ _ (BW 10 rfl) (BW 21 rfl) hyz (by omega))),fun e_ w_ BY BX BW=>aH rfl (mS ((BW 22 rfl))),fun e_ w_ BY BX BW=>aH rfl (ag (φ:=fun v BZ=>al BZ v ((((Y).M) top q)/(((Y).M) i q)) b) (xx rfl (BW 23 rfl))),fun e_ w_ BY BX BW=>aH rfl (ag (φ:=fun v BZ=>al BZ v ((((Y).M) top q) % (((Y).M) i q)) b) (xw rfl (BW 23 rfl))),fun e_ w_ BY BX BW=>aH rfl (aa (xy rfl (BW 23 rfl))),fun e_ w_ BY BX BW=>df.mono (fk [.bool (false),.slice (none) (0) (0)] bC rfl BY.size) fun v B0 hv=>⟨hv.1,hv.2.1,dF fun b hb=>hb▸hv.2.2⟩,fun e_ w_ BY BX BW=>df.mono (fk [.bool (false),.slice (none) (0) (0)] bC rfl BY.size) fun v B0 hv=>⟨hv.1,hv.2.1,dF fun b hb=>hb▸hv.2.2⟩,trivial⟩ (A7 ⟨_,rfl,rfl,(by kernel_rfl),eJ rfl,fun e_ w_ BY BX BW=>vm rfl (BW 23 rfl)⟩ ⟨_,rfl,rfl,(by kernel_rfl),eJ rfl,fun e_ w_ BY BX BW=>vl rfl (BW 23 rfl)⟩) rfl ?_;intro e5 w10 hx7 ho2 hf2 hp1;replace hA1:=bc.ext hA1 hx7;replace hA2:=bc.ext hA2 hx7;replace hXa1:=aF.trans hXa1 hx7;replace hX3:=aF.trans hX3 hx7;have s1_e5:e5 1= .pointer (some ⟨g1,0,none⟩):=(ho2 1 rfl).trans s1_e4;have s2_e5:e5 2= .pointer (some ⟨g2,0,none⟩):=(ho2 2 rfl).trans s2_e4;have s3_e5:e5 3= .pointer (some ⟨gw,0,none⟩):=(ho2 3 rfl).trans s3_e4;have s4_e5:e5 4= .int .i64 ((top:Nat)):=(ho2 4 rfl).trans s4_e4;have s5_e5:e5 5= .int .i64 ((q:Nat)):=(ho2 5 rfl).trans s5_e4;have s6_e5:e5 6= .int .i64 ((i:Nat)):=(ho2 6 rfl).trans s6_e4;have s83_e5:al w10 (e5 83) ((((Y).M) top q)/(((Y).M) i q)) b:=hf2 24 rfl;have s84_e5:al w10 (e5 84) ((((Y).M) top q) % (((Y).M) i q)) b:=hf2 25 rfl;have s85_e5:e5 85=_:=hf2 26 rfl;have s7_e5:io w10 (e5 7) w9.heap.size 49 ([.bool (false),.slice (none) (0) (0)]):=hf2 27 rfl;have s8_e5:io w10 (e5 8) w9.heap.size 49 ([.bool (false),.slice (none) (0) (0)]):=hf2 28 rfl;obtain ⟨gd7,hvd7,hBd7,hAd7⟩:=s7_e5;obtain ⟨gd8,hvd8,hBd8,hAd8⟩:=s8_e5;have hned78:gd7≠gd8:=by
       have hd:=hp1 27 28 rfl rfl rfl rfl (dp (e5 7)) rfl;intro he
       apply hd
       show dp (e5 7)=dp (e5 8);rw [hvd7,hvd8];exact he
     have hbd7:w.heap.size≤gd7:=Nat.le_trans hXf.size hBd7;have hbd8:w.heap.size≤gd8:=Nat.le_trans hXf.size hBd8;obtain ⟨ca1,cb1,hq1,ho3,ho4⟩:=al.cells s83_e5;have qi1:al w10 (.agg #[ca1,cb1]) ((((Y).M) top q)/(((Y).M) i q)) b:=hq1▸s83_e5;refine RL.x rfl rfl (df.store [ca1,cb1] aL hvd7 hq1 rfl hAd7 (Nat.le_of_ble_eq_true rfl) (bf ho3 ho4)) ?_;rintro _ w11 ⟨hk1,hnew⟩;replace hA1:=hA1.keep hk1 (hA1.ne hAd7 (by decide));replace hA2:=hA2.keep hk1 (hA2.ne hAd7 (by decide));replace hXa1:=hXa1.step hk1 (fun b e=>by subst e;exact hBd7);replace s84_e5:=ae s84_e5 hk1 hAd7 (by decide);replace hAd8:=hAd8.keep hk1 (Ne.symm hned78);replace qi1:=ae qi1 hk1 hAd7 (by decide);replace hX3:=hX3.step hk1 (fun b e=>by subst e;exact hbd7);replace hAd7:=hnew.lit [ca1,cb1] rfl;clear hnew;obtain ⟨ca2,cb2,hq2,ho5,ho6⟩:=al.cells s84_e5;refine RL.x rfl rfl (df.store [ca2,cb2] aL hvd8 hq2 rfl hAd8 (Nat.le_of_ble_eq_true rfl) (bf ho5 ho6)) ?_;rintro _ w12 ⟨hk2,hnew⟩;replace hA1:=hA1.keep hk2 (hA1.ne hAd8 (by decide));replace hA2:=hA2.keep hk2 (hA2.ne hAd8 (by decide));replace hXa1:=hXa1.step hk2 (fun b e=>by subst e;exact hBd8);replace hAd7:=hAd7.keep hk2 hned78;replace qi1:=ae qi1 hk2 hAd8 (by decide);replace hX3:=hX3.step hk2 (fun b e=>by subst e;exact hbd8);clear hnew;refine RL.p rfl rfl (cK.assign s85_e5) ?_;refine RL.nil ?_;replace hW:=ci.ext hW hXa1;have hfitn:jr r c b (cV Y top i (-(Y.M top q/Y.M i q))):=hfit top q i Y (by omega) (by omega) (by omega) hJ2 hyz hxz;refine WP.region ?_;refine RL.p rfl rfl (cK.move s3_e5) ?_;refine RL.p rfl rfl (cK.move s4_e5) ?_;refine RL.p rfl rfl (cK.move s6_e5) ?_;refine RL.p rfl rfl (ah [ca1,cb1] an hvd7 (hAd7.cells 0 _ rfl rfl)) ?_;refine RL.x rfl rfl (df.call lc (aN rfl) (lB _ _ _ _ qi1)) ?_;rintro v5 w13 ⟨hx8,q5⟩;replace hA1:=bc.ext hA1 hx8;replace hA2:=bc.ext hA2 hx8;replace hW:=ci.ext hW hx8;replace hX3:=aF.trans hX3 hx8;refine RL.x rfl rfl (cU xR (rH rfl rfl rfl rfl) (qO _ _ _ _ _ _ _ _ _ top i _ _ _ hW (by omega) (by omega) q5 (by omega) (by omega) (rq hfitn (by omega)) (rp hfitn (by omega)) (ro hfitn (by omega)))) ?_;rintro _ w15 ⟨hk3,hN1⟩;replace hA1:=dB hA1 hk3 (by decide);replace hA2:=dB hA2 hk3 (by decide);replace hX3:=dV hX3 hk3 hBle;replace hW:ci 83 w15 B gw r c (cV Y top i (-((((Y).M) top q)/(((Y).M) i q)))).M (cV Y top i (-((((Y).M) top q)/(((Y).M) i q)))).U (cV Y top i (-((((Y).M) top q)/(((Y).M) i q)))).V b:=hN1;refine RL.nil ?_;refine qf.norm ?_;refine WP.region ?_;refine RL.p rfl rfl (cK.move s3_e5) ?_;refine RL.p rfl rfl (cK.move s4_e5) ?_;refine RL.p rfl rfl (cK.move s6_e5) ?_;refine RL.x rfl rfl (cU xQ (cO rfl rfl rfl) (ud _ _ _ _ _ _ _ _ _ top i hW (by omega) (by omega))) ?_;rintro _ w17 ⟨hk4,hN2⟩;replace hA1:=dB hA1 hk4 (by decide);replace hA2:=dB hA2 hk4 (by decide);replace hX3:=dV hX3 hk4 hBle;replace hW:ci 83 w17 B gw r c (bS (cV Y top i (-((((Y).M) top q)/(((Y).M) i q)))) top i).M (bS (cV Y top i (-((((Y).M) top q)/(((Y).M) i q)))) top i).U (bS (cV Y top i (-((((Y).M) top q)/(((Y).M) i q)))) top i).V b:=hN2;refine RL.nil ?_;refine jp.norm ?_;have hls:=ve (S:=Y) (top:=top) (i:=i) (q:=q) (by omega) hyz;refine qf.norm ⟨_,(by omega),_,rfl,s1_e5,s2_e5,s3_e5,s4_e5,s5_e5,s6_e5,(hnext1 top q i Y (by omega) (by omega) (by omega) hJ2 hyz hxz),hX3,hA1,hA2,hW⟩
    ·
     refine WP.skip ?_;refine qf.norm ?_;refine WP.region ?_;refine RL.p rfl rfl (cK.move s3_e4) ?_;refine RL.p rfl rfl (cK.move s4_e4) ?_;refine RL.p rfl rfl (cK.move s6_e4) ?_;refine RL.x rfl rfl (cU xQ (cO rfl rfl rfl) (ud _ _ _ _ _ _ _ _ _ top i hW (by omega) (by omega))) ?_;rintro _ w19 ⟨hk5,hN3⟩;replace hA1:=dB hA1 hk5 (by decide);replace hA2:=dB hA2 hk5 (by decide);replace hX3:=dV hX3 hk5 hBle;replace hW:ci 83 w19 B gw r c (bS Y top i).M (bS Y top i).U (bS Y top i).V b:=hN3;refine RL.nil ?_;refine jp.norm ?_;have hxz:Y.M top q=0:=Decidable.of_not_not (fun h=>c58 (fun h2=>h (Int.sign_eq_zero_iff_zero.1 h2)));have hls:=vf (S:=Y) (top:=top) (i:=i) (q:=q) (by omega) hyz hxz;refine qf.norm ⟨_,(by omega),_,rfl,s1_e4,s2_e4,s3_e4,s4_e4,s5_e4,s6_e4,(hnext0 top q i Y (by omega) (by omega) (by omega) hJ2 hyz hxz),hX3,hA1,hA2,hW⟩
   ·
    refine WP.exit ?_;refine qf.exit ?_;refine qf.exit ?_;refine jp.same ?_;refine jp.norm ?_;refine qf.norm ?_;refine WP.region ?_;refine RL.p rfl rfl (cK.move s6_e4) ?_;refine RL.p rfl rfl (cK.add (c:=((i + 1:Nat):Int)) rfl rfl (bY (by omega))) ?_;refine RL.p rfl rfl (cK.assign rfl) ?_;refine RL.nil ?_;refine qf.norm ⟨_,(by omega),i + 1,Y,rfl,s1_e4,s2_e4,s3_e4,s4_e4,s5_e4,rfl,(by omega),(by omega),(hdone top q i Y (by omega) (by omega) (by omega) hJ2 (Decidable.of_not_not (fun h=>c45 (fun h2=>h (Int.sign_eq_zero_iff_zero.1 h2))))),hX3,hA1,hA2,hW⟩
  ·
   refine WP.exit ?_;refine qf.exit ?_;refine qf.exit ?_;refine jp.same ?_;refine qf.norm ?_;refine WP.seq ?_;have hWc:=hW;obtain ⟨hm_4,hu_4,hv_4,km_4,ku_4,kv_4,ρm_4,ρu_4,ρv_4,_,hG_4,hMm_4,hMu_4,hMv_4,_⟩:=hWc;have hdm_4:=cM.dlim hMm_4;have hcm_4:=cM.clim hMm_4;have hJr:J top q r T:=by rw [show i=r by omega] at hJ;exact hJ
   refine ab ?_;refine RL.p rfl rfl (cK.move s3_e3) ?_;refine RL.p rfl rfl (cK.nilCheck rfl) ?_;refine RL.p rfl rfl (cK.fieldAddr cR rfl) ?_;refine RL.p rfl rfl (cK.fieldAddr aq rfl) ?_;refine RL.p rfl rfl (cK.load aG rfl (hG_4.at_ (i:=2) rfl rfl)) ?_;refine RL.p rfl rfl (cK.move s4_e3) ?_;refine RL.p rfl rfl (cK.index (j:=top) az rfl rfl rfl (by omega) (by omega)) ?_;refine RL.x rfl rfl (ao (i:=top) aR rfl hMm_4 (by omega)) ?_;rintro v6 _ ⟨rfl,q6⟩;refine RL.p rfl rfl (cK.move s5_e3) ?_;refine RL.p rfl rfl (av (j:=q) bl (bJ q6 w6) rfl rfl (by omega) (by omega)) ?_;refine RL.x rfl rfl (aO (j:=q) an rfl (cM.row hMm_4 (by omega)) (by omega)) ?_;rintro v7 _ ⟨rfl,q7⟩;refine RL.x rfl rfl (df.call gl (aN rfl) (fe _ _ _ _ q7)) ?_;rintro _ w20 ⟨hx12,rfl⟩;replace hA1:=bc.ext hA1 hx12;replace hA2:=bc.ext hA2 hx12;replace hW:=ci.ext hW hx12;replace q6:=fr.ext q6 hx12;replace q7:=al.ext q7 hx12;replace hX2:=aF.trans hX2 hx12;refine RL.p rfl rfl (cK.eql rfl rfl) ?_;refine RL.nil ?_;refine af (((((T).M) top q:Int).sign:Int)=(0:Int)) rfl (fun c108=> ?_) (fun c108=> ?_)
   ·
    refine WP.exit ?_;refine qf.exit ?_;refine jp.same ?_;refine qf.norm ?_;refine WP.region ?_;refine RL.p rfl rfl (cK.move s5_e3) ?_;refine RL.p rfl rfl (cK.add (c:=((q + 1:Nat):Int)) rfl rfl (bY (by omega))) ?_;refine RL.p rfl rfl (cK.assign rfl) ?_;refine RL.nil ?_;refine qf.norm ⟨_,(by omega),_,_,T,rfl,s1_e3,s2_e3,s3_e3,s4_e3,rfl,(by omega),(by omega),(hno top q T (by omega) (by omega) hJr (Int.sign_eq_zero_iff_zero.1 c108)),hX2,hA1,hA2,hW⟩
   ·
    refine WP.skip ?_;refine qf.norm ?_;refine WP.cut (fun ez uz=>(ez 1= .pointer (some ⟨g1,0,none⟩))∧(ez 2= .pointer (some ⟨g2,0,none⟩))∧(ez 3= .pointer (some ⟨gw,0,none⟩))∧(ez 4= .int .i64 ((top:Nat)))∧(ez 5= .int .i64 ((q:Nat)))∧(aF w uz)∧(bc uz g1 28 3 (bP [.int .i64 ((r:Nat)),.int .i64 ((c:Nat)),sx]))∧(bc uz g2 31 9 (bP [.int .i64 (0),.int .i64 (0),.slice (none) (0) (0),.int .i64 (0),.int .i64 (0),.slice (none) (0) (0),.int .i64 (0),.int .i64 (0),.slice (none) (0) (0)]))∧(ci 83 uz B gw r c (sg T top q).M (sg T top q).U (sg T top q).V b)∧(fr uz v6 (ρm_4 top) c)∧(al uz v7 (((T).M) top q) b)) ?_ ?_
    ·
     have hWc:=hW;obtain ⟨hm_5,hu_5,hv_5,km_5,ku_5,kv_5,ρm_5,ρu_5,ρv_5,_,hG_5,hMm_5,hMu_5,hMv_5,_⟩:=hWc;have hdm_5:=cM.dlim hMm_5;have hcm_5:=cM.clim hMm_5
     skip
     refine ab ?_;refine RL.p rfl rfl (cK.move s3_e3) ?_;refine RL.p rfl rfl (cK.nilCheck rfl) ?_;refine RL.p rfl rfl (cK.fieldAddr cR rfl) ?_;refine RL.p rfl rfl (cK.fieldAddr aq rfl) ?_;refine RL.p rfl rfl (cK.load aG rfl (hG_5.at_ (i:=2) rfl rfl)) ?_;refine RL.p rfl rfl (cK.move s4_e3) ?_;refine RL.p rfl rfl (cK.index (j:=top) az rfl rfl rfl (by omega) (by omega)) ?_;refine RL.x rfl rfl (ao (i:=top) aR rfl hMm_5 (by omega)) ?_;rintro v8 _ ⟨rfl,q8⟩;refine RL.p rfl rfl (cK.move s5_e3) ?_;refine RL.p rfl rfl (av (j:=q) bl (bJ q8 w20) rfl rfl (by omega) (by omega)) ?_;refine RL.x rfl rfl (aO (j:=q) an rfl (cM.row hMm_5 (by omega)) (by omega)) ?_;rintro v9 _ ⟨rfl,q9⟩;refine RL.x rfl rfl (df.call gl (aN rfl) (fe _ _ _ _ q9)) ?_;rintro _ w21 ⟨hx13,rfl⟩;replace hA1:=bc.ext hA1 hx13;replace hA2:=bc.ext hA2 hx13;replace hW:=ci.ext hW hx13;replace q6:=fr.ext q6 hx13;replace q7:=al.ext q7 hx13;replace hX2:=aF.trans hX2 hx13;refine RL.p rfl rfl (cK.lss rfl rfl) ?_;refine RL.nil ?_;refine af (((((T).M) top q:Int).sign:Int)<(0:Int)) rfl (fun c121=> ?_) (fun c121=> ?_)
     ·
      refine WP.region ?_;refine RL.p rfl rfl (cK.move s3_e3) ?_;refine RL.p rfl rfl (cK.move s4_e3) ?_;refine RL.x rfl rfl (cU AF (aw rfl rfl) (uf _ _ _ _ _ _ _ _ _ top hW (by omega))) ?_;rintro _ w23 ⟨hk6,hN4⟩;replace hA1:=dB hA1 hk6 (by decide);replace hA2:=dB hA2 hk6 (by decide);replace q7:=uS q7 hk6;replace hX2:=dV hX2 hk6 hBle;replace hW:ci 83 w23 B gw r c (fB T top).M (fB T top).U (fB T top).V b:=hN4;refine RL.nil ?_;refine qf.norm ⟨s1_e3,s2_e3,s3_e3,s4_e3,s5_e3,hX2,hA1,hA2,fK hW (yY ((dk _).1 c121)).symm,q6,q7⟩
     ·
      refine WP.skip ?_;refine qf.norm ⟨s1_e3,s2_e3,s3_e3,s4_e3,s5_e3,hX2,hA1,hA2,fK hW (yX (fun h=>c121 ((dk _).2 h))).symm,q6,q7⟩
    rintro e6 w24 ⟨s1_e6,s2_e6,s3_e6,s4_e6,s5_e6,hX4,hA1,hA2,hW,q6,q7⟩;refine WP.seq ?_;have htz:T.M top q≠0:=fun h=>c108 (Int.sign_eq_zero_iff_zero.2 h)
    have hq0:(sg T top q).M top q≠0:=by rw [yW];omega
    obtain ⟨hfr,hF2⟩:=hra top q T (by omega) (by omega) hJr htz;refine ab ?_;refine RL.p rfl rfl (cK.assign rfl) ?_;refine RL.nil ?_;refine WP.block ?_;refine WP.loop (fun mz ez uz=>∃n:Nat,(mz=top - n)∧(ez 1= .pointer (some ⟨g1,0,none⟩))∧(ez 2= .pointer (some ⟨g2,0,none⟩))∧(ez 3= .pointer (some ⟨gw,0,none⟩))∧(ez 4= .int .i64 ((top:Nat)))∧(ez 5= .int .i64 ((q:Nat)))∧(ez 10= .int .i64 ((n:Nat)))∧(n≤top)∧(aF w uz)∧(bc uz g1 28 3 (bP [.int .i64 ((r:Nat)),.int .i64 ((c:Nat)),sx]))∧(bc uz g2 31 9 (bP [.int .i64 (0),.int .i64 (0),.slice (none) (0) (0),.int .i64 (0),.int .i64 (0),.slice (none) (0) (0),.int .i64 (0),.int .i64 (0),.slice (none) (0) (0)]))∧(ci 83 uz B gw r c (ra (sg T top q) top q n).M (ra (sg T top q) top q n).U (ra (sg T top q) top q n).V b)) (top - 0) ?_ ?_
    · exact ⟨0,rfl,s1_e6,s2_e6,s3_e6,s4_e6,s5_e6,rfl,(by omega),hX4,hA1,hA2,hW⟩
    rintro m4 e7 w25 ⟨n,hm4,s1_e7,s2_e7,s3_e7,s4_e7,s5_e7,s10_e7,hn,hX5,hA1,hA2,hW⟩;have hqz:(ra (sg T top q) top q n).M top q≠0:=by rw [pD _ _ _ _ _ (by omega)];exact hq0
    refine WP.seq ?_;refine ab ?_;refine RL.p rfl rfl (cK.move s10_e7) ?_;refine RL.p rfl rfl (cK.move s4_e7) ?_;refine RL.p rfl rfl (cK.lss rfl rfl) ?_;refine RL.nil ?_;refine af (((n:Nat):Int)<((top:Nat):Int)) rfl (fun c127=> ?_) (fun c127=> ?_)
    ·
     refine WP.skip ?_;refine qf.norm ?_;refine WP.seq ?_;refine WP.block ?_;have hWc:=hW;obtain ⟨hm_6,hu_6,hv_6,km_6,ku_6,kv_6,ρm_6,ρu_6,ρv_6,_,hG_6,hMm_6,hMu_6,hMv_6,_⟩:=hWc;have hdm_6:=cM.dlim hMm_6;have hcm_6:=cM.clim hMm_6;have hfitn:jr r c b (cV (ra (sg T top q) top q n) n top (-((ra (sg T top q) top q n).M n q/(ra (sg T top q) top q n).M top q))):=hfr n (by omega);refine WP.ds am 27 [_,_,_,_,_,_,_,_,_,_,_,_,_,_,_,_,_,_,_,_,_,_,_,_,_,_,_] rfl rfl (fun e_ w_ BY BX=>⟨fun _=>aa (cK.move ((BX 3 rfl s3_e7))),fun _=>aa (cK.move ((BX 10 rfl s10_e7))),fun _=>aa (cK.move ((BX 4 rfl s4_e7))),fun _=>aa (cK.move ((BX 3 rfl s3_e7))),fun BW=>aa (cK.nilCheck ((BW 3 rfl))),fun BW=>aa (cK.fieldAddr cR ((BW 4 rfl))),fun BW=>aa (cK.fieldAddr aq ((BW 5 rfl))),fun BW=>aa (cK.load aG ((BW 6 rfl)) ((bc.ext hG_6 BY).at_ (i:=2) rfl rfl)),fun _=>aa (cK.move ((BX 10 rfl s10_e7))),fun BW=>aa (cK.index (j:=n) az ((BW 7 rfl)) ((BW 8 rfl)) rfl (by omega) (by omega)),fun BW=>ag (ao (i:=n) aR (BW 9 rfl) (cM.ext hMm_6 BY) (by omega)),fun _=>aa (cK.move ((BX 5 rfl s5_e7))),fun BW=>aa (av (j:=q) bl (BW 10 rfl) rfl (BW 11 rfl) (by omega) (by omega)),fun BW=>ag (aO (j:=q) an (BW 12 rfl) (cM.row (cM.ext hMm_6 BY) (by omega)) (by omega)),fun _=>aa (cK.move ((BX 3 rfl s3_e7))),fun BW=>aa (cK.nilCheck ((BW 14 rfl))),fun BW=>aa (cK.fieldAddr cR ((BW 15 rfl))),fun BW=>aa (cK.fieldAddr aq ((BW 16 rfl))),fun BW=>aa (cK.load aG ((BW 17 rfl)) ((bc.ext hG_6 BY).at_ (i:=2) rfl rfl)),fun _=>aa (cK.move ((BX 4 rfl s4_e7))),fun BW=>aa (cK.index (j:=top) az ((BW 18 rfl)) ((BW 19 rfl)) rfl (by omega) (by omega)),fun BW=>ag (ao (i:=top) aR (BW 20 rfl) (cM.ext hMm_6 BY) (by omega)),fun _=>aa (cK.move ((BX 5 rfl s5_e7))),fun BW=>aa (av (j:=q) bl (BW 21 rfl) rfl (BW 22 rfl) (by omega) (by omega)),fun BW=>ag (aO (j:=q) an (BW 23 rfl) (cM.row (cM.ext hMm_6 BY) (by omega)) (by omega)),fun BW=>df.call xP (aw rfl rfl) (qN _ _ _ _ _ _ _ (BW 13 rfl) (BW 24 rfl) hqz (by omega)),fun BW=>df.call lc (aN rfl) (lB _ _ _ _ ((BW 25 rfl))),trivial⟩) ?_;intro e8 w26 hx15 ho7 hf3;replace hA1:=bc.ext hA1 hx15;replace hA2:=bc.ext hA2 hx15;replace hW:=ci.ext hW hx15;replace hX5:=aF.trans hX5 hx15;have s1_e8:=ho7 1 rfl s1_e7;have s2_e8:=ho7 2 rfl s2_e7;have s3_e8:=ho7 3 rfl s3_e7;have s4_e8:=ho7 4 rfl s4_e7;have s5_e8:=ho7 5 rfl s5_e7;have s10_e8:=ho7 10 rfl s10_e7;have s130_e8:e8 130=_:=hf3 0 rfl;have s131_e8:e8 131=_:=hf3 1 rfl;have s132_e8:e8 132=_:=hf3 2 rfl;have s156_e8:al w26 (e8 156) (-((((ra (sg T top q) top q n).M) n q)/(((ra (sg T top q) top q n).M) top q))) b:=hf3 26 rfl;refine RL.x rfl rfl (cU xR (rH s130_e8 s131_e8 s132_e8 rfl) (qO _ _ _ _ _ _ _ _ _ n top _ _ _ hW (by omega) (by omega) s156_e8 (by omega) (by omega) (rq hfitn (by omega)) (rp hfitn (by omega)) (ro hfitn (by omega)))) ?_;rintro _ w28 ⟨hk7,hN5⟩;replace hA1:=dB hA1 hk7 (by decide);replace hA2:=dB hA2 hk7 (by decide);replace hX5:=dV hX5 hk7 hBle;replace hW:ci 83 w28 B gw r c (cV (ra (sg T top q) top q n) n top (-((((ra (sg T top q) top q n).M) n q)/(((ra (sg T top q) top q n).M) top q)))).M (cV (ra (sg T top q) top q n) n top (-((((ra (sg T top q) top q n).M) n q)/(((ra (sg T top q) top q n).M) top q)))).U (cV (ra (sg T top q) top q n) n top (-((((ra (sg T top q) top q n).M) n q)/(((ra (sg T top q) top q n).M) top q)))).V b:=hN5;refine RL.nil ?_;refine jp.norm ?_;refine qf.norm ?_;refine WP.region ?_;refine RL.p rfl rfl (cK.move s10_e8) ?_;refine RL.p rfl rfl (cK.add (c:=((n + 1:Nat):Int)) rfl rfl (bY (by omega))) ?_;refine RL.p rfl rfl (cK.assign rfl) ?_;refine RL.nil ?_;refine qf.norm ⟨_,(by omega),n + 1,rfl,s1_e8,s2_e8,s3_e8,s4_e8,s5_e8,rfl,(by omega),hX5,hA1,hA2,hW⟩
    ·
     refine WP.exit ?_;refine qf.exit ?_;refine qf.exit ?_;refine jp.same ?_;refine qf.norm ?_;refine WP.region ?_;refine RL.p rfl rfl (cK.move s4_e7) ?_;refine RL.p rfl rfl (cK.add (c:=((top + 1:Nat):Int)) rfl rfl (bY (by omega))) ?_;refine RL.p rfl rfl (cK.assign rfl) ?_;refine RL.nil ?_;refine jp.norm ?_;refine qf.norm ?_;refine WP.region ?_;refine RL.p rfl rfl (cK.move s5_e7) ?_;refine RL.p rfl rfl (cK.add (c:=((q + 1:Nat):Int)) rfl rfl (bY (by omega))) ?_;refine RL.p rfl rfl (cK.assign rfl) ?_;refine RL.nil ?_;have hnt:n=top:=by omega
     rw [hnt] at hW;refine qf.norm ⟨_,(by omega),_,_,_,rfl,s1_e7,s2_e7,s3_e7,rfl,rfl,(by omega),(by omega),hF2,hX5,hA1,hA2,hW⟩
 ·
  refine WP.exit ?_;refine qf.exit ?_;refine qf.exit ?_;refine jp.same ?_;refine qf.norm ?_;have hWc:=hW;obtain ⟨hm_7,hu_7,hv_7,km_7,ku_7,kv_7,ρm_7,ρu_7,ρv_7,_,hG_7,hMm_7,hMu_7,hMv_7,_⟩:=hWc;have hdm_7:=cM.dlim hMm_7;have hcm_7:=cM.clim hMm_7;have hdu_7:=cM.dlim hMu_7;have hdv_7:=cM.dlim hMv_7
  skip
  refine aI am 12 [_,_,_,_,_,_,_,_,_,_,_,_] rfl rfl (fun e_ w_ BY BX=>⟨fun _=>aa (cK.move ((BX 3 rfl s3_e2))),fun BW=>aa (cK.nilCheck ((BW 0 rfl))),fun BW=>aa (cK.fieldAddr cR ((BW 1 rfl))),fun BW=>aa (ah [.int .i64 ((r:Nat)),.int .i64 ((c:Nat)),.slice (some ⟨hm_7,0,none⟩) (r) (km_7)] aZ ((BW 2 rfl)) ((bc.ext hG_7 BY).cells 0 _ rfl rfl)),fun _=>aa (cK.move ((BX 3 rfl s3_e2))),fun BW=>aa (cK.nilCheck ((BW 4 rfl))),fun BW=>aa (cK.fieldAddr dU ((BW 5 rfl))),fun BW=>aa (ah [.int .i64 ((r:Nat)),.int .i64 ((r:Nat)),.slice (some ⟨hu_7,0,none⟩) (r) (ku_7)] aZ ((BW 6 rfl)) ((bc.ext hG_7 BY).cells 3 _ rfl rfl)),fun _=>aa (cK.move ((BX 3 rfl s3_e2))),fun BW=>aa (cK.nilCheck ((BW 8 rfl))),fun BW=>aa (cK.fieldAddr dJ ((BW 9 rfl))),fun BW=>aa (ah [.int .i64 ((r:Nat)),.int .i64 ((r:Nat)),.slice (some ⟨hv_7,0,none⟩) (r) (kv_7)] aZ ((BW 10 rfl)) ((bc.ext hG_7 BY).cells 6 _ rfl rfl)),trivial⟩) ?_;intro e9 w29 hx17 ho8 hf4;replace hA2:=bc.ext hA2 hx17;replace hMm_7:=cM.ext hMm_7 hx17;replace hMu_7:=cM.ext hMu_7 hx17;replace hMv_7:=cM.ext hMv_7 hx17;replace hX1:=aF.trans hX1 hx17;have s2_e9:=ho8 2 rfl s2_e2;have s163_e9:e9 163=_:=hf4 3 rfl;have s167_e9:e9 167=_:=hf4 7 rfl;have s171_e9:e9 171=_:=hf4 11 rfl;refine RL.p rfl rfl (cK.build (vs:= [(0,.agg #[.int .i64 ((r:Nat)),.int .i64 ((c:Nat)),.slice (some ⟨hm_7,0,none⟩) (r) (km_7)]),(1,.agg #[.int .i64 ((r:Nat)),.int .i64 ((r:Nat)),.slice (some ⟨hu_7,0,none⟩) (r) (ku_7)]),(2,.agg #[.int .i64 ((r:Nat)),.int .i64 ((r:Nat)),.slice (some ⟨hv_7,0,none⟩) (r) (kv_7)])]) [(0,3),(3,3),(6,3)] tt kZ (gp s163_e9 s167_e9 s171_e9) (rr rfl)) ?_;refine RL.x rfl rfl (df.store [.int .i64 ((r:Nat)),.int .i64 ((c:Nat)),.slice (some ⟨hm_7,0,none⟩) (r) (km_7),.int .i64 ((r:Nat)),.int .i64 ((r:Nat)),.slice (some ⟨hu_7,0,none⟩) (r) (ku_7),.int .i64 ((r:Nat)),.int .i64 ((r:Nat)),.slice (some ⟨hv_7,0,none⟩) (r) (kv_7)] qs s2_e9 rfl rfl hA2 (Nat.le_of_ble_eq_true rfl) (qR rfl rfl rfl rfl rfl rfl rfl rfl rfl)) ?_;rintro _ w30 ⟨hk8,hnew⟩;replace hMm_7:=br hMm_7 hk8 hA2 (by decide);replace hMu_7:=br hMu_7 hk8 hA2 (by decide);replace hMv_7:=br hMv_7 hk8 hA2 (by decide);replace hX1:=hX1.step hk8 (fun b e=>by subst e;exact hbs2);replace hA2:=hnew.lit [.int .i64 ((r:Nat)),.int .i64 ((c:Nat)),.slice (some ⟨hm_7,0,none⟩) (r) (km_7),.int .i64 ((r:Nat)),.int .i64 ((r:Nat)),.slice (some ⟨hu_7,0,none⟩) (r) (ku_7),.int .i64 ((r:Nat)),.int .i64 ((r:Nat)),.slice (some ⟨hv_7,0,none⟩) (r) (kv_7)] rfl;clear hnew;refine RL.nil ?_;refine WP.ret ?_;refine ⟨.agg #[.int .i64 ((r:Nat)),.int .i64 ((c:Nat)),.slice (some ⟨hm_7,0,none⟩) (r) (km_7),.int .i64 ((r:Nat)),.int .i64 ((r:Nat)),.slice (some ⟨hu_7,0,none⟩) (r) (ku_7),.int .i64 ((r:Nat)),.int .i64 ((r:Nat)),.slice (some ⟨hv_7,0,none⟩) (r) (kv_7)],Bu.one (ak [.int .i64 ((r:Nat)),.int .i64 ((c:Nat)),.slice (some ⟨hm_7,0,none⟩) (r) (km_7),.int .i64 ((r:Nat)),.int .i64 ((r:Nat)),.slice (some ⟨hu_7,0,none⟩) (r) (ku_7),.int .i64 ((r:Nat)),.int .i64 ((r:Nat)),.slice (some ⟨hv_7,0,none⟩) (r) (kv_7)] qB s2_e9 (hA2.cells 0 _ rfl rfl)),_,rfl,hX1,?_⟩;dsimp only;exact ⟨top,q,S,hF,by omega,htop,hq,_,_,_,rfl,⟨by omega,by omega⟩,by omega,cM.hdrV hMm_7 (by omega) (by omega),cM.hdrV hMu_7 (by omega) (by omega),cM.hdrV hMv_7 (by omega) (by omega)⟩
end Go.TL
namespace Go.TL
set_option linter.unusedVariables false
theorem eu0 {x y:Int} (h0:y≠0):(1 + (x/y).natAbs)*((x % y).natAbs + 1)≤x.natAbs + 1 + 2*(x % y).natAbs:=by
  have h1:=Int.emod_nonneg x h0;have h2:=Int.emod_lt x h0;have h3:=Int.mul_ediv_add_emod x y;have h4:(y*(x/y)).natAbs≤x.natAbs + (x % y).natAbs:=by omega
  rw [Int.natAbs_mul] at h4;have h5:(x/y).natAbs*((x % y).natAbs + 1)≤(x/y).natAbs*y.natAbs:=Nat.mul_le_mul_left _ (by omega);rw [Nat.mul_comm (x/y).natAbs y.natAbs] at h5;rw [Nat.add_mul,Nat.one_mul];omega
theorem eu1 {x y:Int} {E:Nat} (hx:x.natAbs≤E) (hy:y.natAbs≤E) (h0:y≠0):(1 + (x/y).natAbs)*((y.natAbs + 1)*((x % y).natAbs + 1))≤(E + 1)*(3*E + 1):=by
  have h1:=eu0 (x:=x) h0;have h2:=Int.emod_nonneg x h0;have h3:=Int.emod_lt x h0;rw [Nat.mul_left_comm];exact Nat.mul_le_mul (by omega) (by omega)
theorem eu2 {x y:Int} {s C:Nat} (h0:y≠0) (hy:0≤y) (hyx:y<(x.natAbs:Int)) (hs:s*((x.natAbs + 1)*(y.natAbs + 1))≤C):s*(1 + (x/y).natAbs)*((y.natAbs + 1)*((x % y).natAbs + 1))≤3*C:=by
  have h1:=eu0 (x:=x) h0;have h2:=Int.emod_nonneg x h0;have h3:=Int.emod_lt x h0;have h4:(1 + (x/y).natAbs)*((x % y).natAbs + 1)≤3*(x.natAbs + 1):=by omega
  have e1:s*(1 + (x/y).natAbs)*((y.natAbs + 1)*((x % y).natAbs + 1))=s*(y.natAbs + 1)*((1 + (x/y).natAbs)*((x % y).natAbs + 1)):=by ac_rfl
  rw [e1];refine Nat.le_trans (Nat.mul_le_mul_left _ h4) ?_;have e2:s*(y.natAbs + 1)*(3*(x.natAbs + 1))=3*(s*((x.natAbs + 1)*(y.natAbs + 1))):=by ac_rfl
  rw [e2];exact Nat.mul_le_mul_left _ hs
theorem eu3 {x y:Int} {s C:Nat} (hx:0≤x) (h0:0<y) (hs:s*((x.natAbs + 1)*(y.natAbs + 1))≤C):s*(1 + (x/y).natAbs)*((y.natAbs + 1)*((x % y).natAbs + 1))≤C:=by
  have h2:=Int.emod_nonneg x (show y≠0 by omega);have h3:=Int.emod_lt x (show y≠0 by omega);have h4:=Int.mul_ediv_add_emod x y;have h5:0≤x/y:=Int.ediv_nonneg hx (by omega);have h6:(y*(x/y)).natAbs + (x % y).natAbs=x.natAbs:=by
    have:0≤y*(x/y):=Int.mul_nonneg (by omega) h5;omega
  rw [Int.natAbs_mul] at h6;have h7:(x/y).natAbs*((x % y).natAbs + 1)≤(x/y).natAbs*y.natAbs:=Nat.mul_le_mul_left _ (by omega);rw [Nat.mul_comm (x/y).natAbs y.natAbs] at h7;have h8:(1 + (x/y).natAbs)*((x % y).natAbs + 1)≤x.natAbs + 1:=by rw [Nat.add_mul,Nat.one_mul];omega
  have e1:s*(1 + (x/y).natAbs)*((y.natAbs + 1)*((x % y).natAbs + 1))=s*(y.natAbs + 1)*((1 + (x/y).natAbs)*((x % y).natAbs + 1)):=by ac_rfl
  rw [e1];refine Nat.le_trans (Nat.mul_le_mul_left _ h8) ?_;have e2:s*(y.natAbs + 1)*(x.natAbs + 1)=s*((x.natAbs + 1)*(y.natAbs + 1)):=by ac_rfl
  rw [e2];exact hs
section
variable {r c:Nat} {S:WS} {EM EU EV K:Nat}
theorem qq {i j:Nat} {k:Int} (hi:i<r) (hj:j<r) (hk:k.natAbs≤K) (hM:∀i j,i<r→j<c→(S.M i j).natAbs≤EM) (hU:∀i j,i<r→j<r→(S.U i j).natAbs≤EU) (hV:∀i j,i<r→j<r→(S.V i j).natAbs≤EV):
    (∀a b,a<r→b<c→((cV S i j k).M a b).natAbs≤EM*(1 + K))∧(∀a b,a<r→b<r→((cV S i j k).U a b).natAbs≤EU*(1 + K))∧∀a b,a<r→b<r→((cV S i j k).V a b).natAbs≤EV*(1 + K):=by
  have hle:∀E L:Nat,E≤E*(1 + L):=fun E L=>by rw [Nat.mul_add,Nat.mul_one];omega
  refine ⟨fun a b ha hb=> ?_,fun a b ha hb=> ?_,fun a b ha hb=> ?_⟩
  · simp only [cV,da];split
    · exact fX (hM _ _ hi hb) (hM _ _ hj hb) hk
    · exact Nat.le_trans (hM _ _ ha hb) (hle _ _)
  · simp only [cV,da];split
    · exact fX (hU _ _ hi hb) (hU _ _ hj hb) hk
    · exact Nat.le_trans (hU _ _ ha hb) (hle _ _)
  · simp only [cV,dQ];split
    · have:=fX (k:= -k) (hV a j ha hj) (hV a i ha hi) (by rw [Int.natAbs_neg];exact hk)
      rw [Int.neg_mul] at this;rw [Int.sub_eq_add_neg];exact this
    · exact Nat.le_trans (hV _ _ ha hb) (hle _ _)
theorem kU {i j:Nat} (hi:i<r) (hj:j<r) (hM:∀i j,i<r→j<c→(S.M i j).natAbs≤EM) (hU:∀i j,i<r→j<r→(S.U i j).natAbs≤EU) (hV:∀i j,i<r→j<r→(S.V i j).natAbs≤EV):
    (∀a b,a<r→b<c→((bS S i j).M a b).natAbs≤EM)∧(∀a b,a<r→b<r→((bS S i j).U a b).natAbs≤EU)∧∀a b,a<r→b<r→((bS S i j).V a b).natAbs≤EV:=by
  refine ⟨fun a b ha hb=> ?_,fun a b ha hb=> ?_,fun a b ha hb=> ?_⟩
  · simp only [bS,cG];split
    · exact hM _ _ hj hb
    · split
      · exact hM _ _ hi hb
      · exact hM _ _ ha hb
  · simp only [bS,cG];split
    · exact hU _ _ hj hb
    · split
      · exact hU _ _ hi hb
      · exact hU _ _ ha hb
  · simp only [bS,db];split
    · exact hV _ _ ha hj
    · split
      · exact hV _ _ ha hi
      · exact hV _ _ ha hb
end
def eR (e0 r:Nat):Nat→Nat
  | 0=>e0
  | t + 1=>eR e0 r t + (2*eR e0 r t + 6)*(r - t - 1) + eR e0 r t + 1
def gR (e0 r:Nat):Nat→Nat
  | 0=>0
  | t + 1=>gR e0 r t + (2*eR e0 r t + 6)*(r - t - 1) + eR e0 r t + 3
structure FR (r c e0:Nat) (M0:Nat→Nat→Int) (top q:Nat) (S:WS):Prop where
  lin:Lin r c M0 S
  ech:ml r top q S.M
  bm:∀i j,i<r→j<c→(S.M i j).natAbs≤2^eR e0 r top
  bu:∀i j,i<r→j<r→(S.U i j).natAbs≤2^eR e0 r top
  bv:∀i j,i<r→j<r→(S.V i j).natAbs≤2^gR e0 r top
structure JR (r c e0:Nat) (M0:Nat→Nat→Int) (top q i:Nat) (S:WS):Prop where
  lin:Lin r c M0 S
  ech:ml r top q S.M
  col:∀k,k≤top∨i≤k→k<r→(S.M k q).natAbs≤2^eR e0 r top
  zer:∀k,top<k→k<i→S.M k q=0
  nul:S.M top q=0→(∀i j,i<r→j<c→(S.M i j).natAbs≤2^eR e0 r top)∧(∀i j,i<r→j<r→(S.U i j).natAbs≤2^eR e0 r top)∧∀i j,i<r→j<r→(S.V i j).natAbs≤2^gR e0 r top
  run:∃s:Nat,(∀a j,a<r→j<c→(S.M a j).natAbs≤2^eR e0 r top*(2^(2*eR e0 r top + 6))^(i - top - 1)*s)∧(∀a j,a<r→j<r→(S.U a j).natAbs≤2^eR e0 r top*(2^(2*eR e0 r top + 6))^(i - top - 1)*s)∧
    (∀a j,a<r→j<r→(S.V a j).natAbs≤2^gR e0 r top*(2^(2*eR e0 r top + 6))^(i - top - 1)*s)∧(i<r→s=1∨
      (0≤S.M i q∧S.M i q<((S.M top q).natAbs:Int)∧s*(((S.M top q).natAbs + 1)*((S.M i q).natAbs + 1))≤(2^eR e0 r top + 1)*(3*2^eR e0 r top + 1))∨
      (0≤S.M i q∧S.M i q<S.M top q∧s*(((S.M top q).natAbs + 1)*((S.M i q).natAbs + 1))≤3*((2^eR e0 r top + 1)*(3*2^eR e0 r top + 1))))∧(r≤i→s=1)
section
variable {r c e0:Nat} {M0:Nat→Nat→Int} {top q i:Nat} {S:WS}
theorem yd (e:Nat):3*((2^e + 1)*(3*2^e + 1))≤2^(2*e + 6):=by
  have h0:0<2^e:=Nat.two_pow_pos e;have h2:2^(2*e + 6)=(2^e*2^e)*64:=by rw [Nat.pow_add,Nat.two_mul,Nat.pow_add]
  rw [h2]
  generalize 2^e=x at*
  have h3:(x + 1)*(3*x + 1)≤(2*x)*(4*x):=Nat.mul_le_mul (by omega) (by omega);have h4:(2*x)*(4*x)=8*(x*x):=by rw [Nat.mul_mul_mul_comm]
  omega
theorem jf (e0 r:Nat):∀{s t:Nat},s≤t→eR e0 r s≤eR e0 r t
  | s,0,h=>by rw [show s=0 by omega];exact Nat.le_refl _
  | s,t + 1,h=>by
    by_cases e:s=t + 1
    · rw [e];exact Nat.le_refl _
    · have:=jf e0 r (s:=s) (t:=t) (by omega);simp only [eR];omega
theorem nC (e0 r:Nat):∀{s t:Nat},s≤t→gR e0 r s≤gR e0 r t
  | s,0,h=>by rw [show s=0 by omega];exact Nat.le_refl _
  | s,t + 1,h=>by
    by_cases e:s=t + 1
    · rw [e];exact Nat.le_refl _
    · have:=nC e0 r (s:=s) (t:=t) (by omega);simp only [gR];omega
theorem FR.start (hM:∀i j,i<r→j<c→(M0 i j).natAbs≤2^e0):FR r c e0 M0 0 0 ⟨M0,dC,dC⟩:=by
  have hid:∀(e i j:Nat),(dC i j).natAbs≤2^e:=fun e i j=>by
    have:=Nat.two_pow_pos e
    unfold dC;split<;>simp<;>omega
  exact ⟨Lin.start M0,⟨fun _=>0,fun i hi=>by omega,fun a _ _ j hj=>by omega⟩,hM,fun i j _ _=>hid _ i j,fun i j _ _=>hid _ i j⟩
theorem JR.of (h:FR r c e0 M0 top q S) (ht:top<r) (hq:q<c):JR r c e0 M0 top q (top + 1) S:=by
  have e1:∀x:Nat,x*(2^(2*eR e0 r top + 6))^(top + 1 - top - 1)*1=x:=fun x=>by rw [show top + 1 - top - 1=0 by omega,Nat.pow_zero,Nat.mul_one,Nat.mul_one]
  exact ⟨h.lin,h.ech,fun k _ hk=>h.bm k q hk hq,fun k h1 h2=>by omega,fun _=>⟨h.bm,h.bu,h.bv⟩,1,fun a j ha hj=>by rw [e1];exact h.bm a j ha hj,fun a j ha hj=>by rw [e1];exact h.bu a j ha hj,fun a j ha hj=>by rw [e1];exact h.bv a j ha hj,fun _=> .inl rfl,fun _=>rfl⟩
theorem ml.of {M M':Nat→Nat→Int} (h:ml r top q M) (h1:∀a,a<top→∀j,M' a j=M a j) (h2:∀a,top≤a→a<r→∀j,j<q→M' a j=0):ml r top q M':=by
  obtain ⟨P,g1,g2⟩:=h;refine ⟨P,fun i hi=> ?_,h2⟩;obtain ⟨k1,k2,k3,k4⟩:=g1 i hi;refine ⟨k1,by rw [h1 i hi];exact k2,fun j hj=>by rw [h1 i hi];exact k3 j hj,fun k hk=> ?_⟩;rw [h1 i hi,h1 k (by omega)];exact k4 k hk
theorem rt {a j:Nat} (hne:top≠i):(lR S top i q).M a j=if a=top then S.M i j else if a=i then S.M top j + -(S.M top q/S.M i q)*S.M i j else S.M a j:=by
  unfold lR bS cV cG da
  by_cases e1:a=top
  · subst e1;simp only [if_true,if_neg (Ne.symm hne)]
  · by_cases e2:a=i
    · subst e2;simp only [if_neg e1,if_true]
    · simp only [if_neg e1,if_neg e2]
theorem JR.zero (h:JR r c e0 M0 top q i S) (ht:top<i) (hi:i<r) (hz:S.M i q=0):JR r c e0 M0 top q (i + 1) S:=by
  obtain ⟨s,hM,hU,hV,hc,_⟩:=h.run;have hs:s≤2^(2*eR e0 r top + 6):=by
    have h0:=yd (eR e0 r top);have h1:1≤2^(2*eR e0 r top + 6):=Nat.two_pow_pos _;have h2:s≤s*(((S.M top q).natAbs + 1)*((S.M i q).natAbs + 1)):=Nat.le_mul_of_pos_right _ (Nat.mul_pos (by omega) (by omega));rcases hc hi with h3 | h3 | h3
    · omega
    · omega
    · omega
  have e1:∀x:Nat,x*(2^(2*eR e0 r top + 6))^(i - top - 1)*s≤x*(2^(2*eR e0 r top + 6))^(i + 1 - top - 1)*1:=fun x=>by
    clear hM hU hV
    generalize 2^(2*eR e0 r top + 6)=A at hs⊢
    rw [show i + 1 - top - 1=(i - top - 1) + 1 by omega,Nat.pow_succ,Nat.mul_one,←Nat.mul_assoc];exact Nat.mul_le_mul_left _ hs
  refine ⟨h.lin,h.ech,fun k hk hr=>h.col k (by omega) hr,fun k h1 h2=> ?_,h.nul,1,fun a j ha hj=>Nat.le_trans (hM a j ha hj) (e1 _),fun a j ha hj=>Nat.le_trans (hU a j ha hj) (e1 _),fun a j ha hj=>Nat.le_trans (hV a j ha hj) (e1 _),fun _=> .inl rfl,fun _=>rfl⟩
  by_cases e:k=i
  · subst e;exact hz
  · exact h.zer k h1 (by omega)
theorem JR.swap (h:JR r c e0 M0 top q i S) (ht:top<i) (hi:i<r) (hz:S.M i q≠0) (h0:S.M top q=0):JR r c e0 M0 top q i (bS S top i):=by
  obtain ⟨s,hM,hU,hV,hc,_⟩:=h.run;have hs:s=1:=by
    rcases hc hi with h3 | h3 | h3
    · exact h3
    · omega
    · omega
  have hrow:∀a j,(bS S top i).M a j=if a=top then S.M i j else if a=i then S.M top j else S.M a j:=fun a j=>by
    simp only [bS,cG];split
    · rfl
    · split<;>rfl
  obtain ⟨b1,b2,b3⟩:=kU (show top<r by omega) hi hM hU hV;obtain ⟨P,p1,p2⟩:=id h.ech;refine ⟨h.lin.swap (by omega) hi,h.ech.of (fun a ha j=>by rw [hrow,if_neg (by omega),if_neg (by omega)]) (fun a ha har j hj=> ?_),fun k hk hr=> ?_,fun k h1 h2=>by rw [hrow,if_neg (by omega),if_neg (by omega)];exact h.zer k h1 h2,fun hx=>absurd hx (by rw [hrow,if_pos rfl];exact hz),s,b1,b2,b3,fun _=> .inl hs,fun hri=>hs⟩
  · rw [hrow];split
    · exact p2 i (by omega) hi j hj
    · split
      · exact p2 top (Nat.le_refl _) (by omega) j hj
      · exact p2 a ha har j hj
  · rw [hrow];split
    · exact h.col i (.inr (Nat.le_refl _)) hi
    · split
      · exact h.col top (.inl (Nat.le_refl _)) (by omega)
      · exact h.col k hk hr
theorem JR.step (h:JR r c e0 M0 top q i S) (ht:top<i) (hi:i<r) (hz:S.M i q≠0) (h0:S.M top q≠0):JR r c e0 M0 top q i (lR S top i q)∧
    ∃s,s≤2^(2*eR e0 r top + 6)∧(∀a j,a<r→j<c→((cV S top i (-(S.M top q/S.M i q))).M a j).natAbs≤2^eR e0 r top*(2^(2*eR e0 r top + 6))^(i - top - 1)*s)∧
      (∀a j,a<r→j<r→((cV S top i (-(S.M top q/S.M i q))).U a j).natAbs≤2^eR e0 r top*(2^(2*eR e0 r top + 6))^(i - top - 1)*s)∧
      ∀a j,a<r→j<r→((cV S top i (-(S.M top q/S.M i q))).V a j).natAbs≤2^gR e0 r top*(2^(2*eR e0 r top + 6))^(i - top - 1)*s:=by
  obtain ⟨s,hM,hU,hV,hc,_⟩:=h.run;have htr:top<r:=by omega
  have hne:top≠i:=by omega
  obtain ⟨c1,c2,c3⟩:=qq (k:= -(S.M top q/S.M i q)) (K:=(S.M top q/S.M i q).natAbs) htr hi (by rw [Int.natAbs_neg];exact Nat.le_refl _) hM hU hV;simp only [Nat.mul_assoc _ s] at c1 c2 c3;obtain ⟨b1,b2,b3⟩:=kU htr hi c1 c2 c3;have x1:(lR S top i q).M top q=S.M i q:=wR hne;have x2:(lR S top i q).M i q=S.M top q % S.M i q:=yf hne;have m1:=Int.emod_nonneg (S.M top q) hz;have m2:=Int.emod_lt (S.M top q) hz;have hct:=h.col top (.inl (Nat.le_refl _)) htr;have hci:=h.col i (.inr (Nat.le_refl _)) hi;have hst:(0≤(lR S top i q).M i q∧(lR S top i q).M i q<(((lR S top i q).M top q).natAbs:Int)∧s*(1 + (S.M top q/S.M i q).natAbs)*((((lR S top i q).M top q).natAbs + 1)*(((lR S top i q).M i q).natAbs + 1))≤(2^eR e0 r top + 1)*(3*2^eR e0 r top + 1))∨
      (0≤(lR S top i q).M i q∧(lR S top i q).M i q<(lR S top i q).M top q∧s*(1 + (S.M top q/S.M i q).natAbs)*((((lR S top i q).M top q).natAbs + 1)*(((lR S top i q).M i q).natAbs + 1))≤3*((2^eR e0 r top + 1)*(3*2^eR e0 r top + 1))):=by
    rw [x1,x2];rcases hc hi with h3 | h3 | h3
    · left
      refine ⟨m1,by omega,?_⟩;rw [h3,Nat.one_mul];exact eu1 hct hci hz
    · right
      exact ⟨m1,by omega,eu2 hz h3.1 h3.2.1 h3.2.2⟩
    · right
      exact ⟨m1,by omega,eu3 (by omega) (by omega) h3.2.2⟩
  have hsb:s*(1 + (S.M top q/S.M i q).natAbs)≤2^(2*eR e0 r top + 6):=by
    have g0:=yd (eR e0 r top);have g2:s*(1 + (S.M top q/S.M i q).natAbs)≤s*(1 + (S.M top q/S.M i q).natAbs)*((((lR S top i q).M top q).natAbs + 1)*(((lR S top i q).M i q).natAbs + 1)):=Nat.le_mul_of_pos_right _ (Nat.mul_pos (by omega) (by omega));rcases hst with h3 | h3<;>omega
  obtain ⟨P,p1,p2⟩:=id h.ech;refine ⟨⟨(h.lin.add _ htr hi hne).swap htr hi,h.ech.of (fun a ha j=>by rw [rt hne,if_neg (by omega),if_neg (by omega)]) (fun a ha har j hj=> ?_),fun k hk hr=> ?_,fun k h1 h2=>by rw [rt hne,if_neg (by omega),if_neg (by omega)];exact h.zer k h1 h2,fun hx=>absurd hx (by rw [x1];exact hz),_,b1,b2,b3,fun _=> .inr hst,fun hri=>by omega⟩,_,hsb,c1,c2,c3⟩
  · rw [rt hne];split
    · exact p2 i (by omega) hi j hj
    · split
      · rw [p2 top (Nat.le_refl _) htr j hj,p2 i (by omega) hi j hj,Int.mul_zero];rfl
      · exact p2 a ha har j hj
  · by_cases e1:k=top
    · subst e1;rw [x1];exact hci
    · by_cases e2:k=i
      · subst e2;rw [x2];omega
      · rw [rt hne,if_neg e1,if_neg e2];exact h.col k hk hr
theorem JR.none (h:JR r c e0 M0 top q r S) (ht:top<r) (hz:S.M top q=0):FR r c e0 M0 top (q + 1) S:=by
  obtain ⟨hM,hU,hV⟩:=h.nul hz;refine ⟨h.lin,?_,hM,hU,hV⟩;obtain ⟨P,h1,h2⟩:=h.ech;refine ⟨P,fun i hi=> ?_,fun a ha har j hj=> ?_⟩
  · obtain ⟨g1,g2⟩:=h1 i hi;exact ⟨by omega,g2⟩
  · by_cases e:j=q
    · subst e
      by_cases e2:a=top
      · subst e2;exact hz
      · exact h.zer a (by omega) har
    · exact h2 a ha har j (by omega)
theorem A1 (e n:Nat):2^e*(2^(2*e + 6))^n*(1 + 2^e)≤2^(e + (2*e + 6)*n + e + 1):=by
  have h0:0<2^e:=Nat.two_pow_pos e;rw [Nat.pow_add 2 (e + (2*e + 6)*n + e) 1,Nat.pow_add 2 (e + (2*e + 6)*n) e,Nat.pow_add 2 e,Nat.pow_mul,Nat.mul_assoc (2^e*(2^(2*e + 6))^n)];exact Nat.mul_le_mul_left _ (by omega)
theorem BH (g e n:Nat):2^g*(2^(2*e + 6))^n*(1 + 7*2^e)≤2^(g + (2*e + 6)*n + e + 3):=by
  have h0:0<2^e:=Nat.two_pow_pos e;rw [Nat.pow_add 2 (g + (2*e + 6)*n + e) 3,Nat.pow_add 2 (g + (2*e + 6)*n) e,Nat.pow_add 2 g,Nat.pow_mul,Nat.mul_assoc (2^g*(2^(2*e + 6))^n)];exact Nat.mul_le_mul_left _ (by omega)
theorem JR.pivot (h:JR r c e0 M0 top q r S) (ht:top<r) (hq:q<c) (h8:r≤8) (hp:S.M top q≠0):
    (∀n,n≤top→(∀i j,i<r→j<c→((ra (sg S top q) top q n).M i j).natAbs≤2^eR e0 r (top + 1))∧
        (∀i j,i<r→j<r→((ra (sg S top q) top q n).U i j).natAbs≤2^eR e0 r (top + 1))∧
        ∀i j,i<r→j<r→((ra (sg S top q) top q n).V i j).natAbs≤2^gR e0 r (top + 1))∧
      FR r c e0 M0 (top + 1) (q + 1) (ra (sg S top q) top q top):=by
  rw [←xY];have hE0:0<2^eR e0 r top:=Nat.two_pow_pos _;obtain ⟨s,hM,hU,hV,_,hs⟩:=h.run;rw [hs (Nat.le_refl _)] at hM hU hV;simp only [Nat.mul_one] at hM hU hV;have htop:=ju S top top q;obtain ⟨hM2,hU2,hV2⟩:=tM (q:=q) ht ht hM hU hV;have hlin:=h.lin.sn q ht ht;have hech:=h.ech.sn (q:=q) ht (Nat.le_refl _) ht;have hcol:∀i,i≠top→(sn S top top q).M i q=S.M i q:=fun i hi=>by rw [(sh S top top q i q).1 hi,if_neg hi]
  have hab:∀i,i<top→((sn S top top q).M i q).natAbs≤2^eR e0 r top:=fun i hi=>by rw [hcol i (by omega)];exact h.col i (.inl (by omega)) (by omega)
  have hbelow:∀i,top<i→i<r→(sn S top top q).M i q=0:=fun i hi hir=>by
    rw [hcol i (by omega)];exact h.zer i hi hir
  generalize sn S top top q=S2 at*
  generalize hy:(S.M top q).natAbs=y at*
  have hy0:0<y:=by omega
  have hK:∀i,i<top→(kq S2 top q i).natAbs≤2^eR e0 r top:=fun i hi=>by
    unfold kq;rw [htop]
    exact Nat.le_trans (nE (by omega)) (hab i hi)
  have hbd:=fun n (hn:n≤top)=>ya (n:=n) ht hn (by omega) hK hM2 hU2 hV2
  have hfin:∀n,n≤top→(∀i j,i<r→j<c→((ra S2 top q n).M i j).natAbs≤2^eR e0 r (top + 1))∧(∀i j,i<r→j<r→((ra S2 top q n).U i j).natAbs≤2^eR e0 r (top + 1))∧
      ∀i j,i<r→j<r→((ra S2 top q n).V i j).natAbs≤2^gR e0 r (top + 1):=fun n hn=>by
    refine ⟨fun i j hi hj=> ?_,fun i j hi hj=> ?_,fun i j hi hj=> ?_⟩
    · exact Nat.le_trans ((hbd n hn).1 i j hi hj) (A1 _ _)
    · exact Nat.le_trans ((hbd n hn).2.1 i j hi hj) (A1 _ _)
    · exact Nat.le_trans ((hbd n hn).2.2 i j hi hj) (BH _ _ _)
  refine ⟨hfin,hlin.ra q ht top (Nat.le_refl _),?_,(hfin top (Nat.le_refl _)).1,(hfin top (Nat.le_refl _)).2.1,(hfin top (Nat.le_refl _)).2.2⟩;obtain ⟨P,h1,h2⟩:=hech;have hrow:∀i,i<top→∀j,j<q→(ra S2 top q top).M i j=S2.M i j:=fun i hi j hj=>by
    rw [me _ _ _ _ _ _ (Nat.le_refl _),if_pos hi,h2 top (Nat.le_refl _) ht j hj,Int.mul_zero,Int.add_zero]
  have hrest:∀i,top≤i→∀j,(ra S2 top q top).M i j=S2.M i j:=fun i hi j=>by rw [me _ _ _ _ _ _ (Nat.le_refl _),if_neg (by omega)]
  refine ⟨cF P top q,fun i hi=> ?_,fun a ha har j hj=> ?_⟩
  · by_cases e:i=top
    · subst e
      rw [bE];refine ⟨by omega,by rw [hrest i (Nat.le_refl _),htop];omega,fun j hj=>by rw [hrest i (Nat.le_refl _)];exact h2 i (Nat.le_refl _) ht j hj,fun k hk=> ?_⟩;rw [bs _ _ _ _ (by omega),hrest i (Nat.le_refl _),htop,me _ _ _ _ _ _ (Nat.le_refl _),if_pos hk]
      unfold kq
      rw [htop];have e1:S2.M k q + -(S2.M k q/(y:Int))*(y:Int)=S2.M k q % (y:Int):=by
        have:=Int.mul_ediv_add_emod (S2.M k q) (y:Int);rw [Int.neg_mul,Int.mul_comm (S2.M k q/(y:Int))];omega
      rw [e1];exact ⟨(h1 k hk).1,Int.emod_nonneg _ (by omega),Int.emod_lt_of_pos _ (by omega)⟩
    · rw [bs _ _ _ _ e]
      obtain ⟨g1,g2,g3,g4⟩:=h1 i (by omega);refine ⟨by omega,by rw [hrow i (by omega) _ g1];exact g2,fun j hj=>by rw [hrow i (by omega) _ (by omega)];exact g3 j hj,fun k hk=> ?_⟩;rw [bs _ _ _ _ (by omega),hrow k (by omega) _ g1,hrow i (by omega) _ g1];exact g4 k hk
  · rw [hrest a (by omega)]
    by_cases e:j=q
    · subst e;exact hbelow a (by omega) har
    · exact h2 a (by omega) har j (by omega)
end
end Go.TL
namespace Go.TL
open Go.RowKit
set_option linter.unusedVariables false
def zL (w:World) (v:Value) (n:Nat) (ka ki kj:Nat→Nat) (kk:Nat→Int):Prop:=∃A c,v= .slice A n c∧n≤c∧c<9223372036854775808∧
  (0<n→∃g o,A=some ⟨g,o,none⟩∧∀i,i<n→(w.cell? ⟨g,o + i*4,none⟩=some (.int .u8 (ka i:Nat))∧w.cell? ⟨g,o + i*4 + 1,none⟩=some (.int .u8 (ki i:Nat)))∧w.cell? ⟨g,o + i*4 + 2,none⟩=some (.int .u8 (kj i:Nat))∧w.cell? ⟨g,o + i*4 + 3,none⟩=some (.int .i8 (kk i)))
theorem zL.ext {w w':World} {v:Value} {n:Nat} {ka ki kj:Nat→Nat} {kk:Nat→Int} (h:zL w v n ka ki kj kk) (hx:aF w w'):zL w' v n ka ki kj kk:=by
  obtain ⟨A,c,h1,h2,h3,h4⟩:=h;exact ⟨A,c,h1,h2,h3,fun hn=>by
    obtain ⟨g,o,hA,hc⟩:=h4 hn;exact ⟨g,o,hA,fun i hi=>by obtain ⟨⟨g1,g2⟩,g3,g4⟩:=hc i hi;exact ⟨⟨aF.cell g1 hx,aF.cell g2 hx⟩,aF.cell g3 hx,aF.cell g4 hx⟩⟩⟩
instance (n:Nat) (ka ki kj:Nat→Nat) (kk:Nat→Int):Nonempty (bO (fun v w=>zL w v n ka ki kj kk)):=⟨fun _ _ _ h hx=>h.ext hx⟩
def xA (w:World) (v:Value) (a b c:Nat) (d:Int):Prop:=∃g o,v= .pointer (some ⟨g,o,none⟩)∧(w.cell? ⟨g,o,none⟩=some (.int .u8 (a:Nat))∧w.cell? ⟨g,o + 1,none⟩=some (.int .u8 (b:Nat)))∧w.cell? ⟨g,o + 2,none⟩=some (.int .u8 (c:Nat))∧w.cell? ⟨g,o + 3,none⟩=some (.int .i8 d)
theorem xA.ext {w w':World} {v:Value} {a b c:Nat} {d:Int} (h:xA w v a b c d) (hx:aF w w'):xA w' v a b c d:=by
  obtain ⟨g,o,h1,⟨h2,h3⟩,h4,h5⟩:=h;exact ⟨g,o,h1,⟨aF.cell h2 hx,aF.cell h3 hx⟩,aF.cell h4 hx,aF.cell h5 hx⟩
theorem sF (a b c:Nat) (d:Int):bO (fun v w=>xA w v a b c d):=fun _ _ _ h hx=>h.ext hx
instance (a b c:Nat) (d:Int):Nonempty (bO (fun v w=>xA w v a b c d)):=⟨sF a b c d⟩
instance (k:IntKind) (x:Int):Nonempty (bO (fun v w=>pq k w v x)):=⟨fun _ _ _ h hx=>h.ext hx⟩
structure MvI (r c e0:Nat) (M:Nat→Nat→Int) (n:Nat) (S:WS):Prop where
  lin:Lin r c M S
  bm:∀i j,i<r→j<c→(S.M i j).natAbs≤2^(e0 + 2*n)
  bu:∀i j,i<r→j<r→(S.U i j).natAbs≤2^(2*n)
  bv:∀i j,i<r→j<r→(S.V i j).natAbs≤2^(2*n)
section
variable {r c e0 n:Nat} {M:Nat→Nat→Int} {S:WS}
theorem uU (i j:Nat):(dC i j).natAbs≤1:=by unfold dC;split<;>decide
theorem MvI.start (h:∀i j,i<r→j<c→(M i j).natAbs≤2^e0):MvI r c e0 M 0 ⟨M,dC,dC⟩:=
  ⟨Lin.start M,h,fun i j _ _=>uU i j,fun i j _ _=>uU i j⟩
theorem MvI.next (h:MvI r c e0 M n S):MvI r c e0 M (n + 1) S:=
  ⟨h.lin,fun i j hi hj=>Nat.le_trans (h.bm i j hi hj) (Nat.pow_le_pow_right (by decide) (by omega)),fun i j hi hj=>Nat.le_trans (h.bu i j hi hj) (Nat.pow_le_pow_right (by decide) (by omega)),fun i j hi hj=>Nat.le_trans (h.bv i j hi hj) (Nat.pow_le_pow_right (by decide) (by omega))⟩
theorem MvI.swap (h:MvI r c e0 M n S) {i j:Nat} (hi:i<r) (hj:j<r):MvI r c e0 M (n + 1) (bS S i j):=by
  obtain ⟨h1,h2,h3⟩:=kU (c:=c) hi hj h.bm h.bu h.bv;exact MvI.next ⟨h.lin.swap hi hj,h1,h2,h3⟩
theorem MvI.neg (h:MvI r c e0 M n S) {i:Nat} (hi:i<r):MvI r c e0 M (n + 1) (fB S i):=by
  refine MvI.next ⟨h.lin.neg hi,fun a b ha hb=> ?_,fun a b ha hb=> ?_,fun a b ha hb=> ?_⟩
  · simp only [fB,dv];split
    · rw [Int.natAbs_neg];exact h.bm i b hi hb
    · exact h.bm a b ha hb
  · simp only [fB,dv];split
    · rw [Int.natAbs_neg];exact h.bu i b hi hb
    · exact h.bu a b ha hb
  · simp only [fB,eH];split
    · rw [Int.natAbs_neg];exact h.bv a i ha hi
    · exact h.bv a b ha hb
theorem MvI.add (h:MvI r c e0 M n S) {i j:Nat} {k:Int} (hi:i<r) (hj:j<r) (hij:i≠j) (hk:k.natAbs≤3):MvI r c e0 M (n + 1) (cV S i j k):=by
  obtain ⟨h1,h2,h3⟩:=qq (c:=c) hi hj hk h.bm h.bu h.bv;refine ⟨h.lin.add k hi hj hij,fun a b ha hb=> ?_,fun a b ha hb=> ?_,fun a b ha hb=> ?_⟩
  · rw [show e0 + 2*(n + 1)=e0 + 2*n + 2 by omega,Nat.pow_add];exact h1 a b ha hb
  · rw [show 2*(n + 1)=2*n + 2 by omega,Nat.pow_add];exact h2 a b ha hb
  · rw [show 2*(n + 1)=2*n + 2 by omega,Nat.pow_add];exact h3 a b ha hb
end
end Go.TL
