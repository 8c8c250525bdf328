/-
  Lemmas towards the theorem of this claim (part 8).
  Conditions: those that each theorem names.
-/
import Derived.Test.YtgkokhkpdlekcaaGreatM7
namespace Go.TL
open Go.RowKit Go.Proofs
set_option linter.unusedVariables false
set_option linter.unusedSimpArgs false
set_option maxRecDepth 10000 in
set_option maxHeartbeats 1600000 in
theorem yp (w:World) (x:Value) (r c:Nat) (M:Nat→Nat→Int) (b0 b:Nat) (F:Nat→Nat→WS→Prop) (J:Nat→Nat→Nat→WS→Prop) (hx:bk w x r c M b0) (hb0:b0 + 1≤b) (hb:2*b + 300≤be) (hF0:F 0 0 ⟨M,ca,ca⟩) (hstart:∀top q S,top<r→q<c→F top q S→J top q (top + 1) S) (hfit:∀top q i S,top<i→i<r→q<c→J top q i S→S.M i q≠0→S.M top q≠0→jd r c b (cK S top i (-(S.M top q/S.M i q)))) (hnext1:∀top q i S,top<i→i<r→q<c→J top q i S→S.M i q≠0→S.M top q≠0→J top q i (kV S top i q)) (hnext0:∀top q i S,top<i→i<r→q<c→J top q i S→S.M i q≠0→S.M top q=0→J top q i (bD S top i)) (hdone:∀top q i S,top<i→i<r→q<c→J top q i S→S.M i q=0→J top q (i + 1) S) (hno:∀top q S,top<r→q<c→J top q r S→S.M top q=0→F top (q + 1) S) (hra:∀top q S,top<r→q<c→J top q r S→S.M top q≠0→(∀n,n<top→jd r c b (ra (sg S top q) top q (n + 1)))∧F (top + 1) (q + 1) (ra (sg S top q) top q top)):Calls Tryz.prog 45 #[x] w (cd w fun v w'=>∃top q S,F top q S∧(c≤q∨r≤top)∧top≤r∧q≤c∧lk w' v r c S b):=by
 have hLIM:be=562949953421312:=rfl;obtain ⟨sx,rfl,hr,hc,hSx⟩:=hx.form;have hwr:w.heap.size≤w.heap.size:=Nat.le_refl _;refine ak (N:=173) (rs:= #[.cell 2 64]) Tryz.func45 rfl rfl rfl (Nat.le_of_ble_eq_true rfl) ?_;have hX:aG w w:=aG.refl w;refine ab ?_;refine RL.x rfl rfl (cX.box [.int .i64 ((r:Nat)),.int .i64 ((c:Nat)),sx] rfl rfl) ?_;rintro _ w1 ⟨g1,rfl,hge1,hx1,hA1⟩;replace hX:=aG.trans hX hx1;refine RL.x rfl rfl (cX.alloc [.int .i64 (0),.int .i64 (0),.slice (none) (0) (0),.int .i64 (0),.int .i64 (0),.slice (none) (0) (0),.int .i64 (0),.int .i64 (0),.slice (none) (0) (0)] kl rfl) ?_;rintro _ w2 ⟨g2,rfl,hge2,hx2,hA2⟩;have hbs2:w.heap.size≤g2:=Nat.le_trans hX.size hge2;replace hA1:=aQ.ext hA1 hx2;replace hX:=aG.trans hX hx2;refine RL.nil ?_;refine ab ?_;refine RL.p rfl rfl (af [.int .i64 ((r:Nat)),.int .i64 ((c:Nat)),sx] aN rfl (hA1.cells 0 _ rfl rfl)) ?_;refine RL.x rfl rfl (cX.call zE (aD rfl) (vG _ _ _ _ _ _ b (bk.mk (cN.ext hSx hX) (by omega) (by omega)) (by omega) (by omega))) ?_;rintro _ w3 ⟨hx3,gw,rfl,hW⟩;obtain ⟨B,hBe⟩:∃B:Nat,B=w2.heap.size:=⟨_,rfl⟩
 rw [←hBe] at hW;have hBle:w.heap.size≤B:=by rw [hBe];exact hX.size
 replace hA1:=aQ.ext hA1 hx3;replace hA2:=aQ.ext hA2 hx3;replace hX:=aG.trans hX hx3;refine RL.p rfl rfl (ct.assign rfl) ?_;refine RL.nil ?_;refine ab ?_;refine RL.p rfl rfl (ct.assign rfl) ?_;refine RL.nil ?_;refine WP.seq ?_;refine ab ?_;refine RL.p rfl rfl (ct.assign rfl) ?_;refine RL.nil ?_;refine WP.block ?_;refine WP.loop (fun mz ez uz=>∃top:Nat,∃q:Nat,∃S:WS,(mz=c - q)∧(ez 1= .pointer (some ⟨g1,0,none⟩))∧(ez 2= .pointer (some ⟨g2,0,none⟩))∧(ez 3= .pointer (some ⟨gw,0,none⟩))∧(ez 4= .int .i64 ((top:Nat)))∧(ez 5= .int .i64 ((q:Nat)))∧(top≤r)∧(q≤c)∧(F top q S)∧(aG w uz)∧(aQ uz g1 28 3 (bt [.int .i64 ((r:Nat)),.int .i64 ((c:Nat)),sx]))∧(aQ uz g2 64 9 (bt [.int .i64 (0),.int .i64 (0),.slice (none) (0) (0),.int .i64 (0),.int .i64 (0),.slice (none) (0) (0),.int .i64 (0),.int .i64 (0),.slice (none) (0) (0)]))∧(bU 87 uz B gw r c (S).M (S).U (S).V b)) (c - 0) ?_ ?_
 · exact ⟨0,0,⟨M,ca,ca⟩,rfl,rfl,rfl,rfl,rfl,rfl,(by omega),(by omega),hF0,hX,hA1,hA2,hW⟩
 rintro m1 e1 w4 ⟨top,q,S,hm1,s1_e1,s2_e1,s3_e1,s4_e1,s5_e1,htop,hq,hF,hX1,hA1,hA2,hW⟩;refine WP.seq ?_;refine aI an 10 [_,_,_,_,fun v Ba=>v= .bool (decide (((q:Nat):Int)<((c:Nat):Int))),_,_,_,_,_] rfl rfl (fun e_ w_ A9 A8=>⟨fun _=>aa (ct.move ((A8 5 rfl s5_e1))),fun _=>aa (ct.fieldAddr bC ((A8 1 rfl s1_e1))),fun A7=>aa (ct.load bL ((A7 1 rfl)) ((aQ.ext hA1 A9).at_ (i:=1) rfl rfl)),fun A7=>aa (ct.lss ((A7 0 rfl)) ((A7 2 rfl))),fun A7=>aa (ct.move ((A7 3 rfl))),fun A7=>gT (A7 4 rfl) fun hg=>aa (ct.move ((A8 4 rfl s4_e1))),fun A7=>gT (A7 4 rfl) fun hg=>aa (ct.fieldAddr bg ((A8 1 rfl s1_e1))),fun A7=>gT (A7 4 rfl) fun hg=>aa (ct.load bL ((A7 6 rfl hg)) ((aQ.ext hA1 A9).at_ (i:=0) rfl rfl)),fun A7=>gT (A7 4 rfl) fun hg=>aa (ct.lss ((A7 5 rfl hg)) ((A7 7 rfl hg))),fun A7=>aa (aB (p:=((q:Nat):Int)<((c:Nat):Int)) (q:=((top:Nat):Int)<((r:Nat):Int)) (A7 4 rfl) (fun hq=>(A7 8 rfl hq))),trivial⟩) ?_;intro e2 w5 hx4 ho1 hf1;replace hA1:=aQ.ext hA1 hx4;replace hA2:=aQ.ext hA2 hx4;replace hW:=bU.ext hW hx4;replace hX1:=aG.trans hX1 hx4;have s1_e2:=ho1 1 rfl s1_e1;have s2_e2:=ho1 2 rfl s2_e1;have s3_e2:=ho1 3 rfl s3_e1;have s4_e2:=ho1 4 rfl s4_e1;have s5_e2:=ho1 5 rfl s5_e1;have s22_e2:e2 22=_:=hf1 9 rfl;refine RL.nil ?_;refine ag ((((q:Nat):Int)<((c:Nat):Int))∧(((top:Nat):Int)<((r:Nat):Int))) s22_e2 (fun c22=> ?_) (fun c22=> ?_)
 ·
  refine WP.skip ?_;refine pN.norm ?_;refine WP.seq ?_;refine WP.block ?_;refine WP.seq ?_;refine ab ?_;refine RL.p rfl rfl (ct.move s4_e2) ?_;refine RL.p rfl rfl (ct.add (c:=((top + 1:Nat):Int)) rfl rfl (bJ (by omega))) ?_;refine RL.p rfl rfl (ct.assign rfl) ?_;refine RL.nil ?_;refine WP.block ?_;refine WP.loop (fun mz ez uz=>∃i:Nat,∃T:WS,(mz=r - i)∧(ez 1= .pointer (some ⟨g1,0,none⟩))∧(ez 2= .pointer (some ⟨g2,0,none⟩))∧(ez 3= .pointer (some ⟨gw,0,none⟩))∧(ez 4= .int .i64 ((top:Nat)))∧(ez 5= .int .i64 ((q:Nat)))∧(ez 6= .int .i64 ((i:Nat)))∧(top + 1≤i)∧(i≤r)∧(J top q i T)∧(aG w uz)∧(aQ uz g1 28 3 (bt [.int .i64 ((r:Nat)),.int .i64 ((c:Nat)),sx]))∧(aQ uz g2 64 9 (bt [.int .i64 (0),.int .i64 (0),.slice (none) (0) (0),.int .i64 (0),.int .i64 (0),.slice (none) (0) (0),.int .i64 (0),.int .i64 (0),.slice (none) (0) (0)]))∧(bU 87 uz B gw r c (T).M (T).U (T).V b)) (r - (top + 1)) ?_ ?_
  · exact ⟨top + 1,S,rfl,s1_e2,s2_e2,s3_e2,s4_e2,s5_e2,rfl,(by omega),(by omega),(hstart top q S (by omega) (by omega) hF),hX1,hA1,hA2,hW⟩
  rintro m2 e3 w6 ⟨i,T,hm2,s1_e3,s2_e3,s3_e3,s4_e3,s5_e3,s6_e3,hi,hir,hJ,hX2,hA1,hA2,hW⟩;refine WP.seq ?_;refine ab ?_;refine RL.p rfl rfl (ct.move s6_e3) ?_;refine RL.p rfl rfl (ct.fieldAddr bg s1_e3) ?_;refine RL.p rfl rfl (ct.load bL rfl (hA1.at_ (i:=0) rfl rfl)) ?_;refine RL.p rfl rfl (ct.lss rfl rfl) ?_;refine RL.nil ?_;refine ag (((i:Nat):Int)<((r:Nat):Int)) rfl (fun c30=> ?_) (fun c30=> ?_)
  ·
   refine WP.skip ?_;refine pN.norm ?_;refine WP.seq ?_;refine WP.block ?_;refine WP.block ?_;refine WP.loop (fun mz ez uz=>∃Y:WS,(mz=(Y.M i q).natAbs)∧(ez 1= .pointer (some ⟨g1,0,none⟩))∧(ez 2= .pointer (some ⟨g2,0,none⟩))∧(ez 3= .pointer (some ⟨gw,0,none⟩))∧(ez 4= .int .i64 ((top:Nat)))∧(ez 5= .int .i64 ((q:Nat)))∧(ez 6= .int .i64 ((i:Nat)))∧(J top q i Y)∧(aG w uz)∧(aQ uz g1 28 3 (bt [.int .i64 ((r:Nat)),.int .i64 ((c:Nat)),sx]))∧(aQ uz g2 64 9 (bt [.int .i64 (0),.int .i64 (0),.slice (none) (0) (0),.int .i64 (0),.int .i64 (0),.slice (none) (0) (0),.int .i64 (0),.int .i64 (0),.slice (none) (0) (0)]))∧(bU 87 uz B gw r c (Y).M (Y).U (Y).V b)) ((T.M i q).natAbs) ?_ ?_
   · exact ⟨T,rfl,s1_e3,s2_e3,s3_e3,s4_e3,s5_e3,s6_e3,hJ,hX2,hA1,hA2,hW⟩
   rintro m3 e4 w7 ⟨Y,hm3,s1_e4,s2_e4,s3_e4,s4_e4,s5_e4,s6_e4,hJ2,hX3,hA1,hA2,hW⟩;refine WP.seq ?_;have hWc:=hW;obtain ⟨hm_1,hu_1,hv_1,km_1,ku_1,kv_1,ρm_1,ρu_1,ρv_1,_,hG_1,hMm_1,hMu_1,hMv_1,_⟩:=hWc;have hdm_1:=cv.dlim hMm_1;have hcm_1:=cv.clim hMm_1
   skip
   refine ab ?_;refine RL.p rfl rfl (ct.move s3_e4) ?_;refine RL.p rfl rfl (ct.nilCheck rfl) ?_;refine RL.p rfl rfl (ct.fieldAddr cG rfl) ?_;refine RL.p rfl rfl (ct.fieldAddr ao rfl) ?_;refine RL.p rfl rfl (ct.load aH rfl (hG_1.at_ (i:=2) rfl rfl)) ?_;refine RL.p rfl rfl (ct.move s6_e4) ?_;refine RL.p rfl rfl (ct.index (j:=i) aE rfl rfl rfl (by omega) (by omega)) ?_;refine RL.x rfl rfl (am (i:=i) aT rfl hMm_1 (by omega)) ?_;rintro v1 _ ⟨rfl,q1⟩;refine RL.p rfl rfl (ct.move s5_e4) ?_;refine RL.p rfl rfl (ax (j:=q) bc (bi q1 w7) rfl rfl (by omega) (by omega)) ?_;refine RL.x rfl rfl (aM (j:=q) av rfl (cv.row hMm_1 (by omega)) (by omega)) ?_;rintro v2 _ ⟨rfl,q2⟩;refine RL.x rfl rfl (cX.call gb (aD rfl) (eO _ _ _ _ q2)) ?_;rintro _ w8 ⟨hx5,rfl⟩;replace hA1:=aQ.ext hA1 hx5;replace hA2:=aQ.ext hA2 hx5;replace hW:=bU.ext hW hx5;replace hX3:=aG.trans hX3 hx5;refine RL.p rfl rfl (ct.neq rfl rfl) ?_;refine RL.nil ?_;refine ag (((((Y).M) i q:Int).sign:Int)≠(0:Int)) rfl (fun c45=> ?_) (fun c45=> ?_)
   ·
    refine WP.skip ?_;refine pN.norm ?_;refine WP.block ?_;refine WP.seq ?_;have hWc:=hW;obtain ⟨hm_2,hu_2,hv_2,km_2,ku_2,kv_2,ρm_2,ρu_2,ρv_2,_,hG_2,hMm_2,hMu_2,hMv_2,_⟩:=hWc;have hdm_2:=cv.dlim hMm_2;have hcm_2:=cv.clim hMm_2;have hyz:Y.M i q≠0:=fun h=>c45 (Int.sign_eq_zero_iff_zero.2 h)
    refine ab ?_;refine RL.p rfl rfl (ct.move s3_e4) ?_;refine RL.p rfl rfl (ct.nilCheck rfl) ?_;refine RL.p rfl rfl (ct.fieldAddr cG rfl) ?_;refine RL.p rfl rfl (ct.fieldAddr ao rfl) ?_;refine RL.p rfl rfl (ct.load aH rfl (hG_2.at_ (i:=2) rfl rfl)) ?_;refine RL.p rfl rfl (ct.move s4_e4) ?_;refine RL.p rfl rfl (ct.index (j:=top) aE rfl rfl rfl (by omega) (by omega)) ?_;refine RL.x rfl rfl (am (i:=top) aT rfl hMm_2 (by omega)) ?_;rintro v3 _ ⟨rfl,q3⟩;refine RL.p rfl rfl (ct.move s5_e4) ?_;refine RL.p rfl rfl (ax (j:=q) bc (bi q3 w8) rfl rfl (by omega) (by omega)) ?_;refine RL.x rfl rfl (aM (j:=q) av rfl (cv.row hMm_2 (by omega)) (by omega)) ?_;rintro v4 _ ⟨rfl,q4⟩;refine RL.x rfl rfl (cX.call gb (aD rfl) (eO _ _ _ _ q4)) ?_;rintro _ w9 ⟨hx6,rfl⟩;replace hA1:=aQ.ext hA1 hx6;replace hA2:=aQ.ext hA2 hx6;replace hW:=bU.ext hW hx6;replace hX3:=aG.trans hX3 hx6;refine RL.p rfl rfl (ct.neq rfl rfl) ?_;refine RL.nil ?_;refine ag (((((Y).M) top q:Int).sign:Int)≠(0:Int)) rfl (fun c58=> ?_) (fun c58=> ?_)
    ·
     have hWc:=hW;obtain ⟨hm_3,hu_3,hv_3,km_3,ku_3,kv_3,ρm_3,ρu_3,ρv_3,_,hG_3,hMm_3,hMu_3,hMv_3,_⟩:=hWc;have hdm_3:=cv.dlim hMm_3;have hcm_3:=cv.clim hMm_3;have hxz:Y.M top q≠0:=fun h=>c58 (Int.sign_eq_zero_iff_zero.2 h)
     have hXf:=hX3;have hXa1:=aG.refl w9
     skip
     refine sm an 29 [_,_,_,_,_,_,_,_,_,_,_,_,_,_,_,_,_,_,_,_,_,_,fun v Ba=>vd Ba v (((Y).M) top q) (((Y).M) i q) b b,fun v Ba=>vd Ba v (((Y).M) top q) (((Y).M) i q) b b,fun v Ba=>al Ba v ((((Y).M) top q)/(((Y).M) i q)) b,fun v Ba=>al Ba v ((((Y).M) top q) % (((Y).M) i q)) b,_,fun v Ba=>gW Ba v w9.heap.size 51 ([.bool (false),.slice (none) (0) (0)]),fun v Ba=>gW Ba v w9.heap.size 51 ([.bool (false),.slice (none) (0) (0)])] (Apart.of (fun v _ b=>b=df v) [(27,28)] rfl ⟨(fun h=>by cases h),(fun h=>by cases h),(fun h=>by cases h),(fun h=>by cases h),(fun h=>by cases h),(fun h=>by cases h),(fun h=>by cases h),(fun h=>by cases h),(fun h=>by cases h),(fun h=>by cases h),(fun h=>by cases h),(fun h=>by cases h),(fun h=>by cases h),(fun h=>by cases h),(fun h=>by cases h),(fun h=>by cases h),(fun h=>by cases h),(fun h=>by cases h),(fun h=>by cases h),(fun h=>by cases h),(fun h=>by cases h),(fun h=>by cases h),(fun h=>by cases h),(fun h=>by cases h),(fun h=>by cases h),(fun h=>by cases h),(fun h=>by cases h),(fun _=>iK _ _ _),(fun _=>iK _ _ _),trivial⟩) [25,26] (by kernel_rfl) (by kernel_rfl) rfl ⟨ae _,ae _,ae _,ae _,ae _,ae _,ae _,cu _ _,ae _,ae _,bF _ _,ae _,ae _,ae _,ae _,ae _,ae _,ae _,cu _ _,ae _,ae _,bF _ _,kO _ _ _ _,kO _ _ _ _,bF _ _,bF _ _,ae _,eE _ _ _,eE _ _ _,trivial⟩ ⟨fun e_ w_ A9 A8 A7=>aK rfl (aa (ct.move (((A8 3 rfl).trans s3_e4)))),fun e_ w_ A9 A8 A7=>aK rfl (aa (ct.nilCheck ((A7 0 rfl)))),fun e_ w_ A9 A8 A7=>aK rfl (aa (ct.fieldAddr cG ((A7 1 rfl)))),fun e_ w_ A9 A8 A7=>aK rfl (aa (ct.fieldAddr ao ((A7 2 rfl)))),fun e_ w_ A9 A8 A7=>aK rfl (aa (ct.load aH ((A7 3 rfl)) ((aQ.ext hG_3 A9).at_ (i:=2) rfl rfl))),fun e_ w_ A9 A8 A7=>aK rfl (aa (ct.move (((A8 4 rfl).trans s4_e4)))),fun e_ w_ A9 A8 A7=>aK rfl (aa (ct.index (j:=top) aE ((A7 4 rfl)) ((A7 5 rfl)) rfl (by omega) (by omega))),fun e_ w_ A9 A8 A7=>aK rfl (ah (am (i:=top) aT (A7 6 rfl) (cv.ext hMm_3 A9) (by omega))),fun e_ w_ A9 A8 A7=>aK rfl (aa (ct.move (((A8 5 rfl).trans s5_e4)))),fun e_ w_ A9 A8 A7=>aK rfl (aa (ax (j:=q) bc (A7 7 rfl) rfl (A7 8 rfl) (by omega) (by omega))),fun e_ w_ A9 A8 A7=>aK rfl (ah (aM (j:=q) av (A7 9 rfl) (cv.row (cv.ext hMm_3 A9) (by omega)) (by omega))),fun e_ w_ A9 A8 A7=>aK rfl (aa (ct.move (((A8 3 rfl).trans s3_e4)))),fun e_ w_ A9 A8 A7=>aK rfl (aa (ct.nilCheck ((A7 11 rfl)))),fun e_ w_ A9 A8 A7=>aK rfl (aa (ct.fieldAddr cG ((A7 12 rfl)))),fun e_ w_ A9 A8 A7=>aK rfl (aa (ct.fieldAddr ao ((A7 13 rfl)))),fun e_ w_ A9 A8 A7=>aK rfl (aa (ct.load aH ((A7 14 rfl)) ((aQ.ext hG_3 A9).at_ (i:=2) rfl rfl))),fun e_ w_ A9 A8 A7=>aK rfl (aa (ct.move (((A8 6 rfl).trans s6_e4)))),fun e_ w_ A9 A8 A7=>aK rfl (aa (ct.index (j:=i) aE ((A7 15 rfl)) ((A7 16 rfl)) rfl (by omega) (by omega))),fun e_ w_ A9 A8 A7=>aK rfl (ah (am (i:=i) aT (A7 17 rfl) (cv.ext hMm_3 A9) (by omega))),fun e_ w_ A9 A8 A7=>aK rfl (aa (ct.move (((A8 5 rfl).trans s5_e4)))),fun e_ w_ A9 A8 A7=>aK rfl (aa (ax (j:=q) bc (A7 18 rfl) rfl (A7 19 rfl) (by omega) (by omega))),fun e_ w_ A9 A8 A7=>aK rfl (ah (aM (j:=q) av (A7 20 rfl) (cv.row (cv.ext hMm_3 A9) (by omega)) (by omega))),fun e_ w_ A9 A8 A7=>aK rfl (cX.call xa (az rfl rfl) (nR _ _ _ _ _ _ _ (A7 10 rfl) (A7 21 rfl) hyz (by omega))),fun e_ w_ A9 A8 A7=>aK rfl (sw ((A7 22 rfl))),fun e_ w_ A9 A8 A7=>aK rfl (ah (φ:=fun v Ba=>al Ba v ((((Y).M) top q)/(((Y).M) i q)) b) (wM rfl (A7 23 rfl))),fun e_ w_ A9 A8 A7=>aK rfl (ah (φ:=fun v Ba=>al Ba v ((((Y).M) top q) % (((Y).M) i q)) b) (wL rfl (A7 23 rfl))),fun e_ w_ A9 A8 A7=>aK rfl (aa (wN rfl (A7 23 rfl))),fun e_ w_ A9 A8 A7=>cX.mono (eU [.bool (false),.slice (none) (0) (0)] bp rfl A9.size) fun v Bb hv=>⟨hv.1,hv.2.1,dI fun b hb=>hb▸hv.2.2⟩,fun e_ w_ A9 A8 A7=>cX.mono (eU [.bool (false),.slice (none) (0) (0)] bp rfl A9.size) fun v Bb hv=>⟨hv.1,hv.2.1,dI fun b hb=>hb▸hv.2.2⟩,trivial⟩ (Ad ⟨_,rfl,rfl,(by kernel_rfl),eZ rfl,fun e_ w_ A9 A8 A7=>uG rfl (A7 23 rfl)⟩ ⟨_,rfl,rfl,(by kernel_rfl),eZ rfl,fun e_ w_ A9 A8 A7=>uF rfl (A7 23 rfl)⟩) rfl ?_;intro e5 w10 hx7 ho2 hf2 hp1;replace hA1:=aQ.ext hA1 hx7;replace hA2:=aQ.ext hA2 hx7;replace hXa1:=aG.trans hXa1 hx7;replace hX3:=aG.trans hX3 hx7;have s1_e5:e5 1= .pointer (some ⟨g1,0,none⟩):=(ho2 1 rfl).trans s1_e4;have s2_e5:e5 2= .pointer (some ⟨g2,0,none⟩):=(ho2 2 rfl).trans s2_e4;have s3_e5:e5 3= .pointer (some ⟨gw,0,none⟩):=(ho2 3 rfl).trans s3_e4;have s4_e5:e5 4= .int .i64 ((top:Nat)):=(ho2 4 rfl).trans s4_e4;have s5_e5:e5 5= .int .i64 ((q:Nat)):=(ho2 5 rfl).trans s5_e4;have s6_e5:e5 6= .int .i64 ((i:Nat)):=(ho2 6 rfl).trans s6_e4;have s83_e5:al w10 (e5 83) ((((Y).M) top q)/(((Y).M) i q)) b:=hf2 24 rfl;have s84_e5:al w10 (e5 84) ((((Y).M) top q) % (((Y).M) i q)) b:=hf2 25 rfl;have s85_e5:e5 85=_:=hf2 26 rfl;have s7_e5:gW w10 (e5 7) w9.heap.size 51 ([.bool (false),.slice (none) (0) (0)]):=hf2 27 rfl;have s8_e5:gW w10 (e5 8) w9.heap.size 51 ([.bool (false),.slice (none) (0) (0)]):=hf2 28 rfl;obtain ⟨gd7,hvd7,hBd7,hAd7⟩:=s7_e5;obtain ⟨gd8,hvd8,hBd8,hAd8⟩:=s8_e5;have hned78:gd7≠gd8:=by
       have hd:=hp1 27 28 rfl rfl rfl rfl (df (e5 7)) rfl;intro he
       apply hd
       show df (e5 7)=df (e5 8);rw [hvd7,hvd8];exact he
     have hbd7:w.heap.size≤gd7:=Nat.le_trans hXf.size hBd7;have hbd8:w.heap.size≤gd8:=Nat.le_trans hXf.size hBd8;obtain ⟨ca1,cb1,hq1,ho3,ho4⟩:=al.cells s83_e5;have qi1:al w10 (.agg #[ca1,cb1]) ((((Y).M) top q)/(((Y).M) i q)) b:=hq1▸s83_e5;refine RL.x rfl rfl (cX.store [ca1,cb1] aL hvd7 hq1 rfl hAd7 (Nat.le_of_ble_eq_true rfl) (aU ho3 ho4)) ?_;rintro _ w11 ⟨hk1,hnew⟩;replace hA1:=hA1.keep hk1 (hA1.ne hAd7 (by decide));replace hA2:=hA2.keep hk1 (hA2.ne hAd7 (by decide));replace hXa1:=hXa1.step hk1 (fun b e=>by subst e;exact hBd7);replace s84_e5:=ac s84_e5 hk1 hAd7 (by decide);replace hAd8:=hAd8.keep hk1 (Ne.symm hned78);replace qi1:=ac qi1 hk1 hAd7 (by decide);replace hX3:=hX3.step hk1 (fun b e=>by subst e;exact hbd7);replace hAd7:=hnew.lit [ca1,cb1] rfl;clear hnew;obtain ⟨ca2,cb2,hq2,ho5,ho6⟩:=al.cells s84_e5;refine RL.x rfl rfl (cX.store [ca2,cb2] aL hvd8 hq2 rfl hAd8 (Nat.le_of_ble_eq_true rfl) (aU ho5 ho6)) ?_;rintro _ w12 ⟨hk2,hnew⟩;replace hA1:=hA1.keep hk2 (hA1.ne hAd8 (by decide));replace hA2:=hA2.keep hk2 (hA2.ne hAd8 (by decide));replace hXa1:=hXa1.step hk2 (fun b e=>by subst e;exact hBd8);replace hAd7:=hAd7.keep hk2 hned78;replace qi1:=ac qi1 hk2 hAd8 (by decide);replace hX3:=hX3.step hk2 (fun b e=>by subst e;exact hbd8);clear hnew;refine RL.p rfl rfl (ct.assign s85_e5) ?_;refine RL.nil ?_;replace hW:=bU.ext hW hXa1;have hfitn:jd r c b (cK Y top i (-(Y.M top q/Y.M i q))):=hfit top q i Y (by omega) (by omega) (by omega) hJ2 hyz hxz;refine WP.region ?_;refine RL.p rfl rfl (ct.move s3_e5) ?_;refine RL.p rfl rfl (ct.move s4_e5) ?_;refine RL.p rfl rfl (ct.move s6_e5) ?_;refine RL.p rfl rfl (af [ca1,cb1] av hvd7 (hAd7.cells 0 _ rfl rfl)) ?_;refine RL.x rfl rfl (cX.call ko (aD rfl) (kG _ _ _ _ qi1)) ?_;rintro v5 w13 ⟨hx8,q5⟩;replace hA1:=aQ.ext hA1 hx8;replace hA2:=aQ.ext hA2 hx8;replace hW:=bU.ext hW hx8;replace hX3:=aG.trans hX3 hx8;refine RL.x rfl rfl (cJ xe (uT rfl rfl rfl rfl) (qz _ _ _ _ _ _ _ _ _ top i _ _ _ hW (by omega) (by omega) q5 (by omega) (by omega) (qT hfitn (by omega)) (qS hfitn (by omega)) (qR hfitn (by omega)))) ?_;rintro _ w15 ⟨hk3,hN1⟩;replace hA1:=dl hA1 hk3 (by decide);replace hA2:=dl hA2 hk3 (by decide);replace hX3:=dJ hX3 hk3 hBle;replace hW:bU 87 w15 B gw r c (cK Y top i (-((((Y).M) top q)/(((Y).M) i q)))).M (cK Y top i (-((((Y).M) top q)/(((Y).M) i q)))).U (cK Y top i (-((((Y).M) top q)/(((Y).M) i q)))).V b:=hN1;refine RL.nil ?_;refine pN.norm ?_;refine WP.region ?_;refine RL.p rfl rfl (ct.move s3_e5) ?_;refine RL.p rfl rfl (ct.move s4_e5) ?_;refine RL.p rfl rfl (ct.move s6_e5) ?_;refine RL.x rfl rfl (cJ xf (cQ rfl rfl rfl) (tt _ _ _ _ _ _ _ _ _ top i hW (by omega) (by omega))) ?_;rintro _ w17 ⟨hk4,hN2⟩;replace hA1:=dl hA1 hk4 (by decide);replace hA2:=dl hA2 hk4 (by decide);replace hX3:=dJ hX3 hk4 hBle;replace hW:bU 87 w17 B gw r c (bD (cK Y top i (-((((Y).M) top q)/(((Y).M) i q)))) top i).M (bD (cK Y top i (-((((Y).M) top q)/(((Y).M) i q)))) top i).U (bD (cK Y top i (-((((Y).M) top q)/(((Y).M) i q)))) top i).V b:=hN2;refine RL.nil ?_;refine iZ.norm ?_;have hls:=uA (S:=Y) (top:=top) (i:=i) (q:=q) (by omega) hyz;refine pN.norm ⟨_,(by omega),_,rfl,s1_e5,s2_e5,s3_e5,s4_e5,s5_e5,s6_e5,(hnext1 top q i Y (by omega) (by omega) (by omega) hJ2 hyz hxz),hX3,hA1,hA2,hW⟩
    ·
     refine WP.skip ?_;refine pN.norm ?_;refine WP.region ?_;refine RL.p rfl rfl (ct.move s3_e4) ?_;refine RL.p rfl rfl (ct.move s4_e4) ?_;refine RL.p rfl rfl (ct.move s6_e4) ?_;refine RL.x rfl rfl (cJ xf (cQ rfl rfl rfl) (tt _ _ _ _ _ _ _ _ _ top i hW (by omega) (by omega))) ?_;rintro _ w19 ⟨hk5,hN3⟩;replace hA1:=dl hA1 hk5 (by decide);replace hA2:=dl hA2 hk5 (by decide);replace hX3:=dJ hX3 hk5 hBle;replace hW:bU 87 w19 B gw r c (bD Y top i).M (bD Y top i).U (bD Y top i).V b:=hN3;refine RL.nil ?_;refine iZ.norm ?_;have hxz:Y.M top q=0:=Decidable.of_not_not (fun h=>c58 (fun h2=>h (Int.sign_eq_zero_iff_zero.1 h2)));have hls:=uB (S:=Y) (top:=top) (i:=i) (q:=q) (by omega) hyz hxz;refine pN.norm ⟨_,(by omega),_,rfl,s1_e4,s2_e4,s3_e4,s4_e4,s5_e4,s6_e4,(hnext0 top q i Y (by omega) (by omega) (by omega) hJ2 hyz hxz),hX3,hA1,hA2,hW⟩
   ·
    refine WP.exit ?_;refine pN.exit ?_;refine pN.exit ?_;refine iZ.same ?_;refine iZ.norm ?_;refine pN.norm ?_;refine WP.region ?_;refine RL.p rfl rfl (ct.move s6_e4) ?_;refine RL.p rfl rfl (ct.add (c:=((i + 1:Nat):Int)) rfl rfl (bJ (by omega))) ?_;refine RL.p rfl rfl (ct.assign rfl) ?_;refine RL.nil ?_;refine pN.norm ⟨_,(by omega),i + 1,Y,rfl,s1_e4,s2_e4,s3_e4,s4_e4,s5_e4,rfl,(by omega),(by omega),(hdone top q i Y (by omega) (by omega) (by omega) hJ2 (Decidable.of_not_not (fun h=>c45 (fun h2=>h (Int.sign_eq_zero_iff_zero.1 h2))))),hX3,hA1,hA2,hW⟩
  ·
   refine WP.exit ?_;refine pN.exit ?_;refine pN.exit ?_;refine iZ.same ?_;refine pN.norm ?_;refine WP.seq ?_;have hWc:=hW;obtain ⟨hm_4,hu_4,hv_4,km_4,ku_4,kv_4,ρm_4,ρu_4,ρv_4,_,hG_4,hMm_4,hMu_4,hMv_4,_⟩:=hWc;have hdm_4:=cv.dlim hMm_4;have hcm_4:=cv.clim hMm_4;have hJr:J top q r T:=by rw [show i=r by omega] at hJ;exact hJ
   refine ab ?_;refine RL.p rfl rfl (ct.move s3_e3) ?_;refine RL.p rfl rfl (ct.nilCheck rfl) ?_;refine RL.p rfl rfl (ct.fieldAddr cG rfl) ?_;refine RL.p rfl rfl (ct.fieldAddr ao rfl) ?_;refine RL.p rfl rfl (ct.load aH rfl (hG_4.at_ (i:=2) rfl rfl)) ?_;refine RL.p rfl rfl (ct.move s4_e3) ?_;refine RL.p rfl rfl (ct.index (j:=top) aE rfl rfl rfl (by omega) (by omega)) ?_;refine RL.x rfl rfl (am (i:=top) aT rfl hMm_4 (by omega)) ?_;rintro v6 _ ⟨rfl,q6⟩;refine RL.p rfl rfl (ct.move s5_e3) ?_;refine RL.p rfl rfl (ax (j:=q) bc (bi q6 w6) rfl rfl (by omega) (by omega)) ?_;refine RL.x rfl rfl (aM (j:=q) av rfl (cv.row hMm_4 (by omega)) (by omega)) ?_;rintro v7 _ ⟨rfl,q7⟩;refine RL.x rfl rfl (cX.call gb (aD rfl) (eO _ _ _ _ q7)) ?_;rintro _ w20 ⟨hx12,rfl⟩;replace hA1:=aQ.ext hA1 hx12;replace hA2:=aQ.ext hA2 hx12;replace hW:=bU.ext hW hx12;replace q6:=fj.ext q6 hx12;replace q7:=al.ext q7 hx12;replace hX2:=aG.trans hX2 hx12;refine RL.p rfl rfl (ct.eql rfl rfl) ?_;refine RL.nil ?_;refine ag (((((T).M) top q:Int).sign:Int)=(0:Int)) rfl (fun c108=> ?_) (fun c108=> ?_)
   ·
    refine WP.exit ?_;refine pN.exit ?_;refine iZ.same ?_;refine pN.norm ?_;refine WP.region ?_;refine RL.p rfl rfl (ct.move s5_e3) ?_;refine RL.p rfl rfl (ct.add (c:=((q + 1:Nat):Int)) rfl rfl (bJ (by omega))) ?_;refine RL.p rfl rfl (ct.assign rfl) ?_;refine RL.nil ?_;refine pN.norm ⟨_,(by omega),_,_,T,rfl,s1_e3,s2_e3,s3_e3,s4_e3,rfl,(by omega),(by omega),(hno top q T (by omega) (by omega) hJr (Int.sign_eq_zero_iff_zero.1 c108)),hX2,hA1,hA2,hW⟩
   ·
    refine WP.skip ?_;refine pN.norm ?_;refine WP.cut (fun ez uz=>(ez 1= .pointer (some ⟨g1,0,none⟩))∧(ez 2= .pointer (some ⟨g2,0,none⟩))∧(ez 3= .pointer (some ⟨gw,0,none⟩))∧(ez 4= .int .i64 ((top:Nat)))∧(ez 5= .int .i64 ((q:Nat)))∧(aG w uz)∧(aQ uz g1 28 3 (bt [.int .i64 ((r:Nat)),.int .i64 ((c:Nat)),sx]))∧(aQ uz g2 64 9 (bt [.int .i64 (0),.int .i64 (0),.slice (none) (0) (0),.int .i64 (0),.int .i64 (0),.slice (none) (0) (0),.int .i64 (0),.int .i64 (0),.slice (none) (0) (0)]))∧(bU 87 uz B gw r c (sg T top q).M (sg T top q).U (sg T top q).V b)∧(fj uz v6 (ρm_4 top) c)∧(al uz v7 (((T).M) top q) b)) ?_ ?_
    ·
     have hWc:=hW;obtain ⟨hm_5,hu_5,hv_5,km_5,ku_5,kv_5,ρm_5,ρu_5,ρv_5,_,hG_5,hMm_5,hMu_5,hMv_5,_⟩:=hWc;have hdm_5:=cv.dlim hMm_5;have hcm_5:=cv.clim hMm_5
     skip
     refine ab ?_;refine RL.p rfl rfl (ct.move s3_e3) ?_;refine RL.p rfl rfl (ct.nilCheck rfl) ?_;refine RL.p rfl rfl (ct.fieldAddr cG rfl) ?_;refine RL.p rfl rfl (ct.fieldAddr ao rfl) ?_;refine RL.p rfl rfl (ct.load aH rfl (hG_5.at_ (i:=2) rfl rfl)) ?_;refine RL.p rfl rfl (ct.move s4_e3) ?_;refine RL.p rfl rfl (ct.index (j:=top) aE rfl rfl rfl (by omega) (by omega)) ?_;refine RL.x rfl rfl (am (i:=top) aT rfl hMm_5 (by omega)) ?_;rintro v8 _ ⟨rfl,q8⟩;refine RL.p rfl rfl (ct.move s5_e3) ?_;refine RL.p rfl rfl (ax (j:=q) bc (bi q8 w20) rfl rfl (by omega) (by omega)) ?_;refine RL.x rfl rfl (aM (j:=q) av rfl (cv.row hMm_5 (by omega)) (by omega)) ?_;rintro v9 _ ⟨rfl,q9⟩;refine RL.x rfl rfl (cX.call gb (aD rfl) (eO _ _ _ _ q9)) ?_;rintro _ w21 ⟨hx13,rfl⟩;replace hA1:=aQ.ext hA1 hx13;replace hA2:=aQ.ext hA2 hx13;replace hW:=bU.ext hW hx13;replace q6:=fj.ext q6 hx13;replace q7:=al.ext q7 hx13;replace hX2:=aG.trans hX2 hx13;refine RL.p rfl rfl (ct.lss rfl rfl) ?_;refine RL.nil ?_;refine ag (((((T).M) top q:Int).sign:Int)<(0:Int)) rfl (fun c121=> ?_) (fun c121=> ?_)
     ·
      refine WP.region ?_;refine RL.p rfl rfl (ct.move s3_e3) ?_;refine RL.p rfl rfl (ct.move s4_e3) ?_;refine RL.x rfl rfl (cJ zD (az rfl rfl) (tw _ _ _ _ _ _ _ _ _ top hW (by omega))) ?_;rintro _ w23 ⟨hk6,hN4⟩;replace hA1:=dl hA1 hk6 (by decide);replace hA2:=dl hA2 hk6 (by decide);replace q7:=uj q7 hk6;replace hX2:=dJ hX2 hk6 hBle;replace hW:bU 87 w23 B gw r c (fZ T top).M (fZ T top).U (fZ T top).V b:=hN4;refine RL.nil ?_;refine pN.norm ⟨s1_e3,s2_e3,s3_e3,s4_e3,s5_e3,hX2,hA1,hA2,fA hW (yl ((dL _).1 c121)).symm,q6,q7⟩
     ·
      refine WP.skip ?_;refine pN.norm ⟨s1_e3,s2_e3,s3_e3,s4_e3,s5_e3,hX2,hA1,hA2,fA hW (yj (fun h=>c121 ((dL _).2 h))).symm,q6,q7⟩
    rintro e6 w24 ⟨s1_e6,s2_e6,s3_e6,s4_e6,s5_e6,hX4,hA1,hA2,hW,q6,q7⟩;refine WP.seq ?_;have htz:T.M top q≠0:=fun h=>c108 (Int.sign_eq_zero_iff_zero.2 h)
    have hq0:(sg T top q).M top q≠0:=by rw [yi];omega
    obtain ⟨hfr,hF2⟩:=hra top q T (by omega) (by omega) hJr htz;refine ab ?_;refine RL.p rfl rfl (ct.assign rfl) ?_;refine RL.nil ?_;refine WP.block ?_;refine WP.loop (fun mz ez uz=>∃n:Nat,(mz=top - n)∧(ez 1= .pointer (some ⟨g1,0,none⟩))∧(ez 2= .pointer (some ⟨g2,0,none⟩))∧(ez 3= .pointer (some ⟨gw,0,none⟩))∧(ez 4= .int .i64 ((top:Nat)))∧(ez 5= .int .i64 ((q:Nat)))∧(ez 10= .int .i64 ((n:Nat)))∧(n≤top)∧(aG w uz)∧(aQ uz g1 28 3 (bt [.int .i64 ((r:Nat)),.int .i64 ((c:Nat)),sx]))∧(aQ uz g2 64 9 (bt [.int .i64 (0),.int .i64 (0),.slice (none) (0) (0),.int .i64 (0),.int .i64 (0),.slice (none) (0) (0),.int .i64 (0),.int .i64 (0),.slice (none) (0) (0)]))∧(bU 87 uz B gw r c (ra (sg T top q) top q n).M (ra (sg T top q) top q n).U (ra (sg T top q) top q n).V b)) (top - 0) ?_ ?_
    · exact ⟨0,rfl,s1_e6,s2_e6,s3_e6,s4_e6,s5_e6,rfl,(by omega),hX4,hA1,hA2,hW⟩
    rintro m4 e7 w25 ⟨n,hm4,s1_e7,s2_e7,s3_e7,s4_e7,s5_e7,s10_e7,hn,hX5,hA1,hA2,hW⟩;have hqz:(ra (sg T top q) top q n).M top q≠0:=by rw [pj _ _ _ _ _ (by omega)];exact hq0
    refine WP.seq ?_;refine ab ?_;refine RL.p rfl rfl (ct.move s10_e7) ?_;refine RL.p rfl rfl (ct.move s4_e7) ?_;refine RL.p rfl rfl (ct.lss rfl rfl) ?_;refine RL.nil ?_;refine ag (((n:Nat):Int)<((top:Nat):Int)) rfl (fun c127=> ?_) (fun c127=> ?_)
    ·
     refine WP.skip ?_;refine pN.norm ?_;refine WP.seq ?_;refine WP.block ?_;have hWc:=hW;obtain ⟨hm_6,hu_6,hv_6,km_6,ku_6,kv_6,ρm_6,ρu_6,ρv_6,_,hG_6,hMm_6,hMu_6,hMv_6,_⟩:=hWc;have hdm_6:=cv.dlim hMm_6;have hcm_6:=cv.clim hMm_6;have hfitn:jd r c b (cK (ra (sg T top q) top q n) n top (-((ra (sg T top q) top q n).M n q/(ra (sg T top q) top q n).M top q))):=hfr n (by omega);refine WP.ds an 27 [_,_,_,_,_,_,_,_,_,_,_,_,_,_,_,_,_,_,_,_,_,_,_,_,_,_,_] rfl rfl (fun e_ w_ A9 A8=>⟨fun _=>aa (ct.move ((A8 3 rfl s3_e7))),fun _=>aa (ct.move ((A8 10 rfl s10_e7))),fun _=>aa (ct.move ((A8 4 rfl s4_e7))),fun _=>aa (ct.move ((A8 3 rfl s3_e7))),fun A7=>aa (ct.nilCheck ((A7 3 rfl))),fun A7=>aa (ct.fieldAddr cG ((A7 4 rfl))),fun A7=>aa (ct.fieldAddr ao ((A7 5 rfl))),fun A7=>aa (ct.load aH ((A7 6 rfl)) ((aQ.ext hG_6 A9).at_ (i:=2) rfl rfl)),fun _=>aa (ct.move ((A8 10 rfl s10_e7))),fun A7=>aa (ct.index (j:=n) aE ((A7 7 rfl)) ((A7 8 rfl)) rfl (by omega) (by omega)),fun A7=>ah (am (i:=n) aT (A7 9 rfl) (cv.ext hMm_6 A9) (by omega)),fun _=>aa (ct.move ((A8 5 rfl s5_e7))),fun A7=>aa (ax (j:=q) bc (A7 10 rfl) rfl (A7 11 rfl) (by omega) (by omega)),fun A7=>ah (aM (j:=q) av (A7 12 rfl) (cv.row (cv.ext hMm_6 A9) (by omega)) (by omega)),fun _=>aa (ct.move ((A8 3 rfl s3_e7))),fun A7=>aa (ct.nilCheck ((A7 14 rfl))),fun A7=>aa (ct.fieldAddr cG ((A7 15 rfl))),fun A7=>aa (ct.fieldAddr ao ((A7 16 rfl))),fun A7=>aa (ct.load aH ((A7 17 rfl)) ((aQ.ext hG_6 A9).at_ (i:=2) rfl rfl)),fun _=>aa (ct.move ((A8 4 rfl s4_e7))),fun A7=>aa (ct.index (j:=top) aE ((A7 18 rfl)) ((A7 19 rfl)) rfl (by omega) (by omega)),fun A7=>ah (am (i:=top) aT (A7 20 rfl) (cv.ext hMm_6 A9) (by omega)),fun _=>aa (ct.move ((A8 5 rfl s5_e7))),fun A7=>aa (ax (j:=q) bc (A7 21 rfl) rfl (A7 22 rfl) (by omega) (by omega)),fun A7=>ah (aM (j:=q) av (A7 23 rfl) (cv.row (cv.ext hMm_6 A9) (by omega)) (by omega)),fun A7=>cX.call wZ (az rfl rfl) (qx _ _ _ _ _ _ _ (A7 13 rfl) (A7 24 rfl) hqz (by omega)),fun A7=>cX.call ko (aD rfl) (kG _ _ _ _ ((A7 25 rfl))),trivial⟩) ?_;intro e8 w26 hx15 ho7 hf3;replace hA1:=aQ.ext hA1 hx15;replace hA2:=aQ.ext hA2 hx15;replace hW:=bU.ext hW hx15;replace hX5:=aG.trans hX5 hx15;have s1_e8:=ho7 1 rfl s1_e7;have s2_e8:=ho7 2 rfl s2_e7;have s3_e8:=ho7 3 rfl s3_e7;have s4_e8:=ho7 4 rfl s4_e7;have s5_e8:=ho7 5 rfl s5_e7;have s10_e8:=ho7 10 rfl s10_e7;have s130_e8:e8 130=_:=hf3 0 rfl;have s131_e8:e8 131=_:=hf3 1 rfl;have s132_e8:e8 132=_:=hf3 2 rfl;have s156_e8:al w26 (e8 156) (-((((ra (sg T top q) top q n).M) n q)/(((ra (sg T top q) top q n).M) top q))) b:=hf3 26 rfl;refine RL.x rfl rfl (cJ xe (uT s130_e8 s131_e8 s132_e8 rfl) (qz _ _ _ _ _ _ _ _ _ n top _ _ _ hW (by omega) (by omega) s156_e8 (by omega) (by omega) (qT hfitn (by omega)) (qS hfitn (by omega)) (qR hfitn (by omega)))) ?_;rintro _ w28 ⟨hk7,hN5⟩;replace hA1:=dl hA1 hk7 (by decide);replace hA2:=dl hA2 hk7 (by decide);replace hX5:=dJ hX5 hk7 hBle;replace hW:bU 87 w28 B gw r c (cK (ra (sg T top q) top q n) n top (-((((ra (sg T top q) top q n).M) n q)/(((ra (sg T top q) top q n).M) top q)))).M (cK (ra (sg T top q) top q n) n top (-((((ra (sg T top q) top q n).M) n q)/(((ra (sg T top q) top q n).M) top q)))).U (cK (ra (sg T top q) top q n) n top (-((((ra (sg T top q) top q n).M) n q)/(((ra (sg T top q) top q n).M) top q)))).V b:=hN5;refine RL.nil ?_;refine iZ.norm ?_;refine pN.norm ?_;refine WP.region ?_;refine RL.p rfl rfl (ct.move s10_e8) ?_;refine RL.p rfl rfl (ct.add (c:=((n + 1:Nat):Int)) rfl rfl (bJ (by omega))) ?_;refine RL.p rfl rfl (ct.assign rfl) ?_;refine RL.nil ?_;refine pN.norm ⟨_,(by omega),n + 1,rfl,s1_e8,s2_e8,s3_e8,s4_e8,s5_e8,rfl,(by omega),hX5,hA1,hA2,hW⟩
    ·
     refine WP.exit ?_;refine pN.exit ?_;refine pN.exit ?_;refine iZ.same ?_;refine pN.norm ?_;refine WP.region ?_;refine RL.p rfl rfl (ct.move s4_e7) ?_;refine RL.p rfl rfl (ct.add (c:=((top + 1:Nat):Int)) rfl rfl (bJ (by omega))) ?_;refine RL.p rfl rfl (ct.assign rfl) ?_;refine RL.nil ?_;refine iZ.norm ?_;refine pN.norm ?_;refine WP.region ?_;refine RL.p rfl rfl (ct.move s5_e7) ?_;refine RL.p rfl rfl (ct.add (c:=((q + 1:Nat):Int)) rfl rfl (bJ (by omega))) ?_;refine RL.p rfl rfl (ct.assign rfl) ?_;refine RL.nil ?_;have hnt:n=top:=by omega
     rw [hnt] at hW;refine pN.norm ⟨_,(by omega),_,_,_,rfl,s1_e7,s2_e7,s3_e7,rfl,rfl,(by omega),(by omega),hF2,hX5,hA1,hA2,hW⟩
 ·
  refine WP.exit ?_;refine pN.exit ?_;refine pN.exit ?_;refine iZ.same ?_;refine pN.norm ?_;have hWc:=hW;obtain ⟨hm_7,hu_7,hv_7,km_7,ku_7,kv_7,ρm_7,ρu_7,ρv_7,_,hG_7,hMm_7,hMu_7,hMv_7,_⟩:=hWc;have hdm_7:=cv.dlim hMm_7;have hcm_7:=cv.clim hMm_7;have hdu_7:=cv.dlim hMu_7;have hdv_7:=cv.dlim hMv_7
  skip
  refine aI an 12 [_,_,_,_,_,_,_,_,_,_,_,_] rfl rfl (fun e_ w_ A9 A8=>⟨fun _=>aa (ct.move ((A8 3 rfl s3_e2))),fun A7=>aa (ct.nilCheck ((A7 0 rfl))),fun A7=>aa (ct.fieldAddr cG ((A7 1 rfl))),fun A7=>aa (af [.int .i64 ((r:Nat)),.int .i64 ((c:Nat)),.slice (some ⟨hm_7,0,none⟩) (r) (km_7)] aN ((A7 2 rfl)) ((aQ.ext hG_7 A9).cells 0 _ rfl rfl)),fun _=>aa (ct.move ((A8 3 rfl s3_e2))),fun A7=>aa (ct.nilCheck ((A7 4 rfl))),fun A7=>aa (ct.fieldAddr dH ((A7 5 rfl))),fun A7=>aa (af [.int .i64 ((r:Nat)),.int .i64 ((r:Nat)),.slice (some ⟨hu_7,0,none⟩) (r) (ku_7)] aN ((A7 6 rfl)) ((aQ.ext hG_7 A9).cells 3 _ rfl rfl)),fun _=>aa (ct.move ((A8 3 rfl s3_e2))),fun A7=>aa (ct.nilCheck ((A7 8 rfl))),fun A7=>aa (ct.fieldAddr dx ((A7 9 rfl))),fun A7=>aa (af [.int .i64 ((r:Nat)),.int .i64 ((r:Nat)),.slice (some ⟨hv_7,0,none⟩) (r) (kv_7)] aN ((A7 10 rfl)) ((aQ.ext hG_7 A9).cells 6 _ rfl rfl)),trivial⟩) ?_;intro e9 w29 hx17 ho8 hf4;replace hA2:=aQ.ext hA2 hx17;replace hMm_7:=cv.ext hMm_7 hx17;replace hMu_7:=cv.ext hMu_7 hx17;replace hMv_7:=cv.ext hMv_7 hx17;replace hX1:=aG.trans hX1 hx17;have s2_e9:=ho8 2 rfl s2_e2;have s163_e9:e9 163=_:=hf4 3 rfl;have s167_e9:e9 167=_:=hf4 7 rfl;have s171_e9:e9 171=_:=hf4 11 rfl;refine RL.p rfl rfl (ct.build (vs:= [(0,.agg #[.int .i64 ((r:Nat)),.int .i64 ((c:Nat)),.slice (some ⟨hm_7,0,none⟩) (r) (km_7)]),(1,.agg #[.int .i64 ((r:Nat)),.int .i64 ((r:Nat)),.slice (some ⟨hu_7,0,none⟩) (r) (ku_7)]),(2,.agg #[.int .i64 ((r:Nat)),.int .i64 ((r:Nat)),.slice (some ⟨hv_7,0,none⟩) (r) (kv_7)])]) [(0,3),(3,3),(6,3)] wU kl (fI s163_e9 s167_e9 s171_e9) (qU rfl)) ?_;refine RL.x rfl rfl (cX.store [.int .i64 ((r:Nat)),.int .i64 ((c:Nat)),.slice (some ⟨hm_7,0,none⟩) (r) (km_7),.int .i64 ((r:Nat)),.int .i64 ((r:Nat)),.slice (some ⟨hu_7,0,none⟩) (r) (ku_7),.int .i64 ((r:Nat)),.int .i64 ((r:Nat)),.slice (some ⟨hv_7,0,none⟩) (r) (kv_7)] nz s2_e9 rfl rfl hA2 (Nat.le_of_ble_eq_true rfl) (nZ rfl rfl rfl rfl rfl rfl rfl rfl rfl)) ?_;rintro _ w30 ⟨hk8,hnew⟩;replace hMm_7:=aY hMm_7 hk8 hA2 (by decide);replace hMu_7:=aY hMu_7 hk8 hA2 (by decide);replace hMv_7:=aY hMv_7 hk8 hA2 (by decide);replace hX1:=hX1.step hk8 (fun b e=>by subst e;exact hbs2);replace hA2:=hnew.lit [.int .i64 ((r:Nat)),.int .i64 ((c:Nat)),.slice (some ⟨hm_7,0,none⟩) (r) (km_7),.int .i64 ((r:Nat)),.int .i64 ((r:Nat)),.slice (some ⟨hu_7,0,none⟩) (r) (ku_7),.int .i64 ((r:Nat)),.int .i64 ((r:Nat)),.slice (some ⟨hv_7,0,none⟩) (r) (kv_7)] rfl;clear hnew;refine RL.nil ?_;refine WP.ret ?_;refine ⟨.agg #[.int .i64 ((r:Nat)),.int .i64 ((c:Nat)),.slice (some ⟨hm_7,0,none⟩) (r) (km_7),.int .i64 ((r:Nat)),.int .i64 ((r:Nat)),.slice (some ⟨hu_7,0,none⟩) (r) (ku_7),.int .i64 ((r:Nat)),.int .i64 ((r:Nat)),.slice (some ⟨hv_7,0,none⟩) (r) (kv_7)],AA.one (aj [.int .i64 ((r:Nat)),.int .i64 ((c:Nat)),.slice (some ⟨hm_7,0,none⟩) (r) (km_7),.int .i64 ((r:Nat)),.int .i64 ((r:Nat)),.slice (some ⟨hu_7,0,none⟩) (r) (ku_7),.int .i64 ((r:Nat)),.int .i64 ((r:Nat)),.slice (some ⟨hv_7,0,none⟩) (r) (kv_7)] xp s2_e9 (hA2.cells 0 _ rfl rfl)),_,rfl,hX1,?_⟩;dsimp only;exact ⟨top,q,S,hF,by omega,htop,hq,_,_,_,rfl,⟨by omega,by omega⟩,by omega,cv.hdrV hMm_7 (by omega) (by omega),cv.hdrV hMu_7 (by omega) (by omega),cv.hdrV hMv_7 (by omega) (by omega)⟩
end Go.TL
namespace Go.TL
set_option linter.unusedVariables false
theorem eu0 {x y:Int} (h0:y≠0):(1 + (x/y).natAbs)*((x % y).natAbs + 1)≤x.natAbs + 1 + 2*(x % y).natAbs:=by
  have h1:=Int.emod_nonneg x h0;have h2:=Int.emod_lt x h0;have h3:=Int.mul_ediv_add_emod x y;have h4:(y*(x/y)).natAbs≤x.natAbs + (x % y).natAbs:=by omega
  rw [Int.natAbs_mul] at h4;have h5:(x/y).natAbs*((x % y).natAbs + 1)≤(x/y).natAbs*y.natAbs:=Nat.mul_le_mul_left _ (by omega);rw [Nat.mul_comm (x/y).natAbs y.natAbs] at h5;rw [Nat.add_mul,Nat.one_mul];omega
theorem eu1 {x y:Int} {E:Nat} (hx:x.natAbs≤E) (hy:y.natAbs≤E) (h0:y≠0):(1 + (x/y).natAbs)*((y.natAbs + 1)*((x % y).natAbs + 1))≤(E + 1)*(3*E + 1):=by
  have h1:=eu0 (x:=x) h0;have h2:=Int.emod_nonneg x h0;have h3:=Int.emod_lt x h0;rw [Nat.mul_left_comm];exact Nat.mul_le_mul (by omega) (by omega)
theorem eu2 {x y:Int} {s C:Nat} (h0:y≠0) (hy:0≤y) (hyx:y<(x.natAbs:Int)) (hs:s*((x.natAbs + 1)*(y.natAbs + 1))≤C):s*(1 + (x/y).natAbs)*((y.natAbs + 1)*((x % y).natAbs + 1))≤3*C:=by
  have h1:=eu0 (x:=x) h0;have h2:=Int.emod_nonneg x h0;have h3:=Int.emod_lt x h0;have h4:(1 + (x/y).natAbs)*((x % y).natAbs + 1)≤3*(x.natAbs + 1):=by omega
  have e1:s*(1 + (x/y).natAbs)*((y.natAbs + 1)*((x % y).natAbs + 1))=s*(y.natAbs + 1)*((1 + (x/y).natAbs)*((x % y).natAbs + 1)):=by ac_rfl
  rw [e1];refine Nat.le_trans (Nat.mul_le_mul_left _ h4) ?_;have e2:s*(y.natAbs + 1)*(3*(x.natAbs + 1))=3*(s*((x.natAbs + 1)*(y.natAbs + 1))):=by ac_rfl
  rw [e2];exact Nat.mul_le_mul_left _ hs
theorem eu3 {x y:Int} {s C:Nat} (hx:0≤x) (h0:0<y) (hs:s*((x.natAbs + 1)*(y.natAbs + 1))≤C):s*(1 + (x/y).natAbs)*((y.natAbs + 1)*((x % y).natAbs + 1))≤C:=by
  have h2:=Int.emod_nonneg x (show y≠0 by omega);have h3:=Int.emod_lt x (show y≠0 by omega);have h4:=Int.mul_ediv_add_emod x y;have h5:0≤x/y:=Int.ediv_nonneg hx (by omega);have h6:(y*(x/y)).natAbs + (x % y).natAbs=x.natAbs:=by
    have:0≤y*(x/y):=Int.mul_nonneg (by omega) h5;omega
  rw [Int.natAbs_mul] at h6;have h7:(x/y).natAbs*((x % y).natAbs + 1)≤(x/y).natAbs*y.natAbs:=Nat.mul_le_mul_left _ (by omega);rw [Nat.mul_comm (x/y).natAbs y.natAbs] at h7;have h8:(1 + (x/y).natAbs)*((x % y).natAbs + 1)≤x.natAbs + 1:=by rw [Nat.add_mul,Nat.one_mul];omega
  have e1:s*(1 + (x/y).natAbs)*((y.natAbs + 1)*((x % y).natAbs + 1))=s*(y.natAbs + 1)*((1 + (x/y).natAbs)*((x % y).natAbs + 1)):=by ac_rfl
  rw [e1];refine Nat.le_trans (Nat.mul_le_mul_left _ h8) ?_;have e2:s*(y.natAbs + 1)*(x.natAbs + 1)=s*((x.natAbs + 1)*(y.natAbs + 1)):=by ac_rfl
  rw [e2];exact hs
section
variable {r c:Nat} {S:WS} {EM EU EV K:Nat}
theorem vi {i j:Nat} {k:Int} (hi:i<r) (hj:j<r) (hk:k.natAbs≤K) (hM:∀i j,i<r→j<c→(S.M i j).natAbs≤EM) (hU:∀i j,i<r→j<r→(S.U i j).natAbs≤EU) (hV:∀i j,i<r→j<r→(S.V i j).natAbs≤EV):
    (∀a b,a<r→b<c→((cK S i j k).M a b).natAbs≤EM*(1 + K))∧(∀a b,a<r→b<r→((cK S i j k).U a b).natAbs≤EU*(1 + K))∧∀a b,a<r→b<r→((cK S i j k).V a b).natAbs≤EV*(1 + K):=by
  have hle:∀E L:Nat,E≤E*(1 + L):=fun E L=>by rw [Nat.mul_add,Nat.mul_one];omega
  refine ⟨fun a b ha hb=> ?_,fun a b ha hb=> ?_,fun a b ha hb=> ?_⟩
  · simp only [cK,cM];split
    · exact fS (hM _ _ hi hb) (hM _ _ hj hb) hk
    · exact Nat.le_trans (hM _ _ ha hb) (hle _ _)
  · simp only [cK,cM];split
    · exact fS (hU _ _ hi hb) (hU _ _ hj hb) hk
    · exact Nat.le_trans (hU _ _ ha hb) (hle _ _)
  · simp only [cK,dE];split
    · have:=fS (k:= -k) (hV a j ha hj) (hV a i ha hi) (by rw [Int.natAbs_neg];exact hk)
      rw [Int.neg_mul] at this;rw [Int.sub_eq_add_neg];exact this
    · exact Nat.le_trans (hV _ _ ha hb) (hle _ _)
theorem no {i j:Nat} (hi:i<r) (hj:j<r) (hM:∀i j,i<r→j<c→(S.M i j).natAbs≤EM) (hU:∀i j,i<r→j<r→(S.U i j).natAbs≤EU) (hV:∀i j,i<r→j<r→(S.V i j).natAbs≤EV):
    (∀a b,a<r→b<c→((bD S i j).M a b).natAbs≤EM)∧(∀a b,a<r→b<r→((bD S i j).U a b).natAbs≤EU)∧∀a b,a<r→b<r→((bD S i j).V a b).natAbs≤EV:=by
  refine ⟨fun a b ha hb=> ?_,fun a b ha hb=> ?_,fun a b ha hb=> ?_⟩
  · simp only [bD,cm];split
    · exact hM _ _ hj hb
    · split
      · exact hM _ _ hi hb
      · exact hM _ _ ha hb
  · simp only [bD,cm];split
    · exact hU _ _ hj hb
    · split
      · exact hU _ _ hi hb
      · exact hU _ _ ha hb
  · simp only [bD,cO];split
    · exact hV _ _ ha hj
    · split
      · exact hV _ _ ha hi
      · exact hV _ _ ha hb
end
def eR (e0 r:Nat):Nat→Nat
  | 0=>e0
  | t + 1=>eR e0 r t + (2*eR e0 r t + 6)*(r - t - 1) + eR e0 r t + 1
def gR (e0 r:Nat):Nat→Nat
  | 0=>0
  | t + 1=>gR e0 r t + (2*eR e0 r t + 6)*(r - t - 1) + eR e0 r t + 3
structure FR (r c e0:Nat) (M0:Nat→Nat→Int) (top q:Nat) (S:WS):Prop where
  lin:Lin r c M0 S
  ech:je r top q S.M
  bm:∀i j,i<r→j<c→(S.M i j).natAbs≤2^eR e0 r top
  bu:∀i j,i<r→j<r→(S.U i j).natAbs≤2^eR e0 r top
  bv:∀i j,i<r→j<r→(S.V i j).natAbs≤2^gR e0 r top
structure JR (r c e0:Nat) (M0:Nat→Nat→Int) (top q i:Nat) (S:WS):Prop where
  lin:Lin r c M0 S
  ech:je r top q S.M
  col:∀k,k≤top∨i≤k→k<r→(S.M k q).natAbs≤2^eR e0 r top
  zer:∀k,top<k→k<i→S.M k q=0
  nul:S.M top q=0→(∀i j,i<r→j<c→(S.M i j).natAbs≤2^eR e0 r top)∧(∀i j,i<r→j<r→(S.U i j).natAbs≤2^eR e0 r top)∧∀i j,i<r→j<r→(S.V i j).natAbs≤2^gR e0 r top
  run:∃s:Nat,(∀a j,a<r→j<c→(S.M a j).natAbs≤2^eR e0 r top*(2^(2*eR e0 r top + 6))^(i - top - 1)*s)∧(∀a j,a<r→j<r→(S.U a j).natAbs≤2^eR e0 r top*(2^(2*eR e0 r top + 6))^(i - top - 1)*s)∧
    (∀a j,a<r→j<r→(S.V a j).natAbs≤2^gR e0 r top*(2^(2*eR e0 r top + 6))^(i - top - 1)*s)∧(i<r→s=1∨
      (0≤S.M i q∧S.M i q<((S.M top q).natAbs:Int)∧s*(((S.M top q).natAbs + 1)*((S.M i q).natAbs + 1))≤(2^eR e0 r top + 1)*(3*2^eR e0 r top + 1))∨
      (0≤S.M i q∧S.M i q<S.M top q∧s*(((S.M top q).natAbs + 1)*((S.M i q).natAbs + 1))≤3*((2^eR e0 r top + 1)*(3*2^eR e0 r top + 1))))∧(r≤i→s=1)
section
variable {r c e0:Nat} {M0:Nat→Nat→Int} {top q i:Nat} {S:WS}
theorem xx (e:Nat):3*((2^e + 1)*(3*2^e + 1))≤2^(2*e + 6):=by
  have h0:0<2^e:=Nat.two_pow_pos e;have h2:2^(2*e + 6)=(2^e*2^e)*64:=by rw [Nat.pow_add,Nat.two_mul,Nat.pow_add]
  rw [h2]
  generalize 2^e=x at*
  have h3:(x + 1)*(3*x + 1)≤(2*x)*(4*x):=Nat.mul_le_mul (by omega) (by omega);have h4:(2*x)*(4*x)=8*(x*x):=by rw [Nat.mul_mul_mul_comm]
  omega
theorem iN (e0 r:Nat):∀{s t:Nat},s≤t→eR e0 r s≤eR e0 r t
  | s,0,h=>by rw [show s=0 by omega];exact Nat.le_refl _
  | s,t + 1,h=>by
    by_cases e:s=t + 1
    · rw [e];exact Nat.le_refl _
    · have:=iN e0 r (s:=s) (t:=t) (by omega);simp only [eR];omega
theorem jT (e0 r:Nat):∀{s t:Nat},s≤t→gR e0 r s≤gR e0 r t
  | s,0,h=>by rw [show s=0 by omega];exact Nat.le_refl _
  | s,t + 1,h=>by
    by_cases e:s=t + 1
    · rw [e];exact Nat.le_refl _
    · have:=jT e0 r (s:=s) (t:=t) (by omega);simp only [gR];omega
theorem FR.start (hM:∀i j,i<r→j<c→(M0 i j).natAbs≤2^e0):FR r c e0 M0 0 0 ⟨M0,ca,ca⟩:=by
  have hid:∀(e i j:Nat),(ca i j).natAbs≤2^e:=fun e i j=>by
    have:=Nat.two_pow_pos e
    unfold ca;split<;>simp<;>omega
  exact ⟨Lin.start M0,⟨fun _=>0,fun i hi=>by omega,fun a _ _ j hj=>by omega⟩,hM,fun i j _ _=>hid _ i j,fun i j _ _=>hid _ i j⟩
theorem JR.of (h:FR r c e0 M0 top q S) (ht:top<r) (hq:q<c):JR r c e0 M0 top q (top + 1) S:=by
  have e1:∀x:Nat,x*(2^(2*eR e0 r top + 6))^(top + 1 - top - 1)*1=x:=fun x=>by rw [show top + 1 - top - 1=0 by omega,Nat.pow_zero,Nat.mul_one,Nat.mul_one]
  exact ⟨h.lin,h.ech,fun k _ hk=>h.bm k q hk hq,fun k h1 h2=>by omega,fun _=>⟨h.bm,h.bu,h.bv⟩,1,fun a j ha hj=>by rw [e1];exact h.bm a j ha hj,fun a j ha hj=>by rw [e1];exact h.bu a j ha hj,fun a j ha hj=>by rw [e1];exact h.bv a j ha hj,fun _=> .inl rfl,fun _=>rfl⟩
theorem je.of {M M':Nat→Nat→Int} (h:je r top q M) (h1:∀a,a<top→∀j,M' a j=M a j) (h2:∀a,top≤a→a<r→∀j,j<q→M' a j=0):je r top q M':=by
  obtain ⟨P,g1,g2⟩:=h;refine ⟨P,fun i hi=> ?_,h2⟩;obtain ⟨k1,k2,k3,k4⟩:=g1 i hi;refine ⟨k1,by rw [h1 i hi];exact k2,fun j hj=>by rw [h1 i hi];exact k3 j hj,fun k hk=> ?_⟩;rw [h1 i hi,h1 k (by omega)];exact k4 k hk
theorem qV {a j:Nat} (hne:top≠i):(kV S top i q).M a j=if a=top then S.M i j else if a=i then S.M top j + -(S.M top q/S.M i q)*S.M i j else S.M a j:=by
  unfold kV bD cK cm cM
  by_cases e1:a=top
  · subst e1;simp only [if_true,if_neg (Ne.symm hne)]
  · by_cases e2:a=i
    · subst e2;simp only [if_neg e1,if_true]
    · simp only [if_neg e1,if_neg e2]
theorem JR.zero (h:JR r c e0 M0 top q i S) (ht:top<i) (hi:i<r) (hz:S.M i q=0):JR r c e0 M0 top q (i + 1) S:=by
  obtain ⟨s,hM,hU,hV,hc,_⟩:=h.run;have hs:s≤2^(2*eR e0 r top + 6):=by
    have h0:=xx (eR e0 r top);have h1:1≤2^(2*eR e0 r top + 6):=Nat.two_pow_pos _;have h2:s≤s*(((S.M top q).natAbs + 1)*((S.M i q).natAbs + 1)):=Nat.le_mul_of_pos_right _ (Nat.mul_pos (by omega) (by omega));rcases hc hi with h3 | h3 | h3
    · omega
    · omega
    · omega
  have e1:∀x:Nat,x*(2^(2*eR e0 r top + 6))^(i - top - 1)*s≤x*(2^(2*eR e0 r top + 6))^(i + 1 - top - 1)*1:=fun x=>by
    clear hM hU hV
    generalize 2^(2*eR e0 r top + 6)=A at hs⊢
    rw [show i + 1 - top - 1=(i - top - 1) + 1 by omega,Nat.pow_succ,Nat.mul_one,←Nat.mul_assoc];exact Nat.mul_le_mul_left _ hs
  refine ⟨h.lin,h.ech,fun k hk hr=>h.col k (by omega) hr,fun k h1 h2=> ?_,h.nul,1,fun a j ha hj=>Nat.le_trans (hM a j ha hj) (e1 _),fun a j ha hj=>Nat.le_trans (hU a j ha hj) (e1 _),fun a j ha hj=>Nat.le_trans (hV a j ha hj) (e1 _),fun _=> .inl rfl,fun _=>rfl⟩
  by_cases e:k=i
  · subst e;exact hz
  · exact h.zer k h1 (by omega)
theorem JR.swap (h:JR r c e0 M0 top q i S) (ht:top<i) (hi:i<r) (hz:S.M i q≠0) (h0:S.M top q=0):JR r c e0 M0 top q i (bD S top i):=by
  obtain ⟨s,hM,hU,hV,hc,_⟩:=h.run;have hs:s=1:=by
    rcases hc hi with h3 | h3 | h3
    · exact h3
    · omega
    · omega
  have hrow:∀a j,(bD S top i).M a j=if a=top then S.M i j else if a=i then S.M top j else S.M a j:=fun a j=>by
    simp only [bD,cm];split
    · rfl
    · split<;>rfl
  obtain ⟨b1,b2,b3⟩:=no (show top<r by omega) hi hM hU hV;obtain ⟨P,p1,p2⟩:=id h.ech;refine ⟨h.lin.swap (by omega) hi,h.ech.of (fun a ha j=>by rw [hrow,if_neg (by omega),if_neg (by omega)]) (fun a ha har j hj=> ?_),fun k hk hr=> ?_,fun k h1 h2=>by rw [hrow,if_neg (by omega),if_neg (by omega)];exact h.zer k h1 h2,fun hx=>absurd hx (by rw [hrow,if_pos rfl];exact hz),s,b1,b2,b3,fun _=> .inl hs,fun hri=>hs⟩
  · rw [hrow];split
    · exact p2 i (by omega) hi j hj
    · split
      · exact p2 top (Nat.le_refl _) (by omega) j hj
      · exact p2 a ha har j hj
  · rw [hrow];split
    · exact h.col i (.inr (Nat.le_refl _)) hi
    · split
      · exact h.col top (.inl (Nat.le_refl _)) (by omega)
      · exact h.col k hk hr
theorem JR.step (h:JR r c e0 M0 top q i S) (ht:top<i) (hi:i<r) (hz:S.M i q≠0) (h0:S.M top q≠0):JR r c e0 M0 top q i (kV S top i q)∧
    ∃s,s≤2^(2*eR e0 r top + 6)∧(∀a j,a<r→j<c→((cK S top i (-(S.M top q/S.M i q))).M a j).natAbs≤2^eR e0 r top*(2^(2*eR e0 r top + 6))^(i - top - 1)*s)∧
      (∀a j,a<r→j<r→((cK S top i (-(S.M top q/S.M i q))).U a j).natAbs≤2^eR e0 r top*(2^(2*eR e0 r top + 6))^(i - top - 1)*s)∧
      ∀a j,a<r→j<r→((cK S top i (-(S.M top q/S.M i q))).V a j).natAbs≤2^gR e0 r top*(2^(2*eR e0 r top + 6))^(i - top - 1)*s:=by
  obtain ⟨s,hM,hU,hV,hc,_⟩:=h.run;have htr:top<r:=by omega
  have hne:top≠i:=by omega
  obtain ⟨c1,c2,c3⟩:=vi (k:= -(S.M top q/S.M i q)) (K:=(S.M top q/S.M i q).natAbs) htr hi (by rw [Int.natAbs_neg];exact Nat.le_refl _) hM hU hV;simp only [Nat.mul_assoc _ s] at c1 c2 c3;obtain ⟨b1,b2,b3⟩:=no htr hi c1 c2 c3;have x1:(kV S top i q).M top q=S.M i q:=wq hne;have x2:(kV S top i q).M i q=S.M top q % S.M i q:=xy hne;have m1:=Int.emod_nonneg (S.M top q) hz;have m2:=Int.emod_lt (S.M top q) hz;have hct:=h.col top (.inl (Nat.le_refl _)) htr;have hci:=h.col i (.inr (Nat.le_refl _)) hi;have hst:(0≤(kV S top i q).M i q∧(kV S top i q).M i q<(((kV S top i q).M top q).natAbs:Int)∧s*(1 + (S.M top q/S.M i q).natAbs)*((((kV S top i q).M top q).natAbs + 1)*(((kV S top i q).M i q).natAbs + 1))≤(2^eR e0 r top + 1)*(3*2^eR e0 r top + 1))∨
      (0≤(kV S top i q).M i q∧(kV S top i q).M i q<(kV S top i q).M top q∧s*(1 + (S.M top q/S.M i q).natAbs)*((((kV S top i q).M top q).natAbs + 1)*(((kV S top i q).M i q).natAbs + 1))≤3*((2^eR e0 r top + 1)*(3*2^eR e0 r top + 1))):=by
    rw [x1,x2];rcases hc hi with h3 | h3 | h3
    · left
      refine ⟨m1,by omega,?_⟩;rw [h3,Nat.one_mul];exact eu1 hct hci hz
    · right
      exact ⟨m1,by omega,eu2 hz h3.1 h3.2.1 h3.2.2⟩
    · right
      exact ⟨m1,by omega,eu3 (by omega) (by omega) h3.2.2⟩
  have hsb:s*(1 + (S.M top q/S.M i q).natAbs)≤2^(2*eR e0 r top + 6):=by
    have g0:=xx (eR e0 r top);have g2:s*(1 + (S.M top q/S.M i q).natAbs)≤s*(1 + (S.M top q/S.M i q).natAbs)*((((kV S top i q).M top q).natAbs + 1)*(((kV S top i q).M i q).natAbs + 1)):=Nat.le_mul_of_pos_right _ (Nat.mul_pos (by omega) (by omega));rcases hst with h3 | h3<;>omega
  obtain ⟨P,p1,p2⟩:=id h.ech;refine ⟨⟨(h.lin.add _ htr hi hne).swap htr hi,h.ech.of (fun a ha j=>by rw [qV hne,if_neg (by omega),if_neg (by omega)]) (fun a ha har j hj=> ?_),fun k hk hr=> ?_,fun k h1 h2=>by rw [qV hne,if_neg (by omega),if_neg (by omega)];exact h.zer k h1 h2,fun hx=>absurd hx (by rw [x1];exact hz),_,b1,b2,b3,fun _=> .inr hst,fun hri=>by omega⟩,_,hsb,c1,c2,c3⟩
  · rw [qV hne];split
    · exact p2 i (by omega) hi j hj
    · split
      · rw [p2 top (Nat.le_refl _) htr j hj,p2 i (by omega) hi j hj,Int.mul_zero];rfl
      · exact p2 a ha har j hj
  · by_cases e1:k=top
    · subst e1;rw [x1];exact hci
    · by_cases e2:k=i
      · subst e2;rw [x2];omega
      · rw [qV hne,if_neg e1,if_neg e2];exact h.col k hk hr
theorem JR.none (h:JR r c e0 M0 top q r S) (ht:top<r) (hz:S.M top q=0):FR r c e0 M0 top (q + 1) S:=by
  obtain ⟨hM,hU,hV⟩:=h.nul hz;refine ⟨h.lin,?_,hM,hU,hV⟩;obtain ⟨P,h1,h2⟩:=h.ech;refine ⟨P,fun i hi=> ?_,fun a ha har j hj=> ?_⟩
  · obtain ⟨g1,g2⟩:=h1 i hi;exact ⟨by omega,g2⟩
  · by_cases e:j=q
    · subst e
      by_cases e2:a=top
      · subst e2;exact hz
      · exact h.zer a (by omega) har
    · exact h2 a ha har j (by omega)
theorem Ab (e n:Nat):2^e*(2^(2*e + 6))^n*(1 + 2^e)≤2^(e + (2*e + 6)*n + e + 1):=by
  have h0:0<2^e:=Nat.two_pow_pos e;rw [Nat.pow_add 2 (e + (2*e + 6)*n + e) 1,Nat.pow_add 2 (e + (2*e + 6)*n) e,Nat.pow_add 2 e,Nat.pow_mul,Nat.mul_assoc (2^e*(2^(2*e + 6))^n)];exact Nat.mul_le_mul_left _ (by omega)
theorem AP (g e n:Nat):2^g*(2^(2*e + 6))^n*(1 + 7*2^e)≤2^(g + (2*e + 6)*n + e + 3):=by
  have h0:0<2^e:=Nat.two_pow_pos e;rw [Nat.pow_add 2 (g + (2*e + 6)*n + e) 3,Nat.pow_add 2 (g + (2*e + 6)*n) e,Nat.pow_add 2 g,Nat.pow_mul,Nat.mul_assoc (2^g*(2^(2*e + 6))^n)];exact Nat.mul_le_mul_left _ (by omega)
theorem JR.pivot (h:JR r c e0 M0 top q r S) (ht:top<r) (hq:q<c) (h8:r≤8) (hp:S.M top q≠0):
    (∀n,n≤top→(∀i j,i<r→j<c→((ra (sg S top q) top q n).M i j).natAbs≤2^eR e0 r (top + 1))∧
        (∀i j,i<r→j<r→((ra (sg S top q) top q n).U i j).natAbs≤2^eR e0 r (top + 1))∧
        ∀i j,i<r→j<r→((ra (sg S top q) top q n).V i j).natAbs≤2^gR e0 r (top + 1))∧
      FR r c e0 M0 (top + 1) (q + 1) (ra (sg S top q) top q top):=by
  rw [←xq];have hE0:0<2^eR e0 r top:=Nat.two_pow_pos _;obtain ⟨s,hM,hU,hV,_,hs⟩:=h.run;rw [hs (Nat.le_refl _)] at hM hU hV;simp only [Nat.mul_one] at hM hU hV;have htop:=jh S top top q;obtain ⟨hM2,hU2,hV2⟩:=sY (q:=q) ht ht hM hU hV;have hlin:=h.lin.sn q ht ht;have hech:=h.ech.sn (q:=q) ht (Nat.le_refl _) ht;have hcol:∀i,i≠top→(sn S top top q).M i q=S.M i q:=fun i hi=>by rw [(ro S top top q i q).1 hi,if_neg hi]
  have hab:∀i,i<top→((sn S top top q).M i q).natAbs≤2^eR e0 r top:=fun i hi=>by rw [hcol i (by omega)];exact h.col i (.inl (by omega)) (by omega)
  have hbelow:∀i,top<i→i<r→(sn S top top q).M i q=0:=fun i hi hir=>by
    rw [hcol i (by omega)];exact h.zer i hi hir
  generalize sn S top top q=S2 at*
  generalize hy:(S.M top q).natAbs=y at*
  have hy0:0<y:=by omega
  have hK:∀i,i<top→(kq S2 top q i).natAbs≤2^eR e0 r top:=fun i hi=>by
    unfold kq;rw [htop]
    exact Nat.le_trans (mS (by omega)) (hab i hi)
  have hbd:=fun n (hn:n≤top)=>xu (n:=n) ht hn (by omega) hK hM2 hU2 hV2
  have hfin:∀n,n≤top→(∀i j,i<r→j<c→((ra S2 top q n).M i j).natAbs≤2^eR e0 r (top + 1))∧(∀i j,i<r→j<r→((ra S2 top q n).U i j).natAbs≤2^eR e0 r (top + 1))∧
      ∀i j,i<r→j<r→((ra S2 top q n).V i j).natAbs≤2^gR e0 r (top + 1):=fun n hn=>by
    refine ⟨fun i j hi hj=> ?_,fun i j hi hj=> ?_,fun i j hi hj=> ?_⟩
    · exact Nat.le_trans ((hbd n hn).1 i j hi hj) (Ab _ _)
    · exact Nat.le_trans ((hbd n hn).2.1 i j hi hj) (Ab _ _)
    · exact Nat.le_trans ((hbd n hn).2.2 i j hi hj) (AP _ _ _)
  refine ⟨hfin,hlin.ra q ht top (Nat.le_refl _),?_,(hfin top (Nat.le_refl _)).1,(hfin top (Nat.le_refl _)).2.1,(hfin top (Nat.le_refl _)).2.2⟩;obtain ⟨P,h1,h2⟩:=hech;have hrow:∀i,i<top→∀j,j<q→(ra S2 top q top).M i j=S2.M i j:=fun i hi j hj=>by
    rw [lm _ _ _ _ _ _ (Nat.le_refl _),if_pos hi,h2 top (Nat.le_refl _) ht j hj,Int.mul_zero,Int.add_zero]
  have hrest:∀i,top≤i→∀j,(ra S2 top q top).M i j=S2.M i j:=fun i hi j=>by rw [lm _ _ _ _ _ _ (Nat.le_refl _),if_neg (by omega)]
  refine ⟨ck P top q,fun i hi=> ?_,fun a ha har j hj=> ?_⟩
  · by_cases e:i=top
    · subst e
      rw [bf];refine ⟨by omega,by rw [hrest i (Nat.le_refl _),htop];omega,fun j hj=>by rw [hrest i (Nat.le_refl _)];exact h2 i (Nat.le_refl _) ht j hj,fun k hk=> ?_⟩;rw [aX _ _ _ _ (by omega),hrest i (Nat.le_refl _),htop,lm _ _ _ _ _ _ (Nat.le_refl _),if_pos hk]
      unfold kq
      rw [htop];have e1:S2.M k q + -(S2.M k q/(y:Int))*(y:Int)=S2.M k q % (y:Int):=by
        have:=Int.mul_ediv_add_emod (S2.M k q) (y:Int);rw [Int.neg_mul,Int.mul_comm (S2.M k q/(y:Int))];omega
      rw [e1];exact ⟨(h1 k hk).1,Int.emod_nonneg _ (by omega),Int.emod_lt_of_pos _ (by omega)⟩
    · rw [aX _ _ _ _ e]
      obtain ⟨g1,g2,g3,g4⟩:=h1 i (by omega);refine ⟨by omega,by rw [hrow i (by omega) _ g1];exact g2,fun j hj=>by rw [hrow i (by omega) _ (by omega)];exact g3 j hj,fun k hk=> ?_⟩;rw [aX _ _ _ _ (by omega),hrow k (by omega) _ g1,hrow i (by omega) _ g1];exact g4 k hk
  · rw [hrest a (by omega)]
    by_cases e:j=q
    · subst e;exact hbelow a (by omega) har
    · exact h2 a (by omega) har j (by omega)
end
end Go.TL
namespace Go.TL
open Go.RowKit Go.Proofs
set_option linter.unusedVariables false
def bR (e0 r:Nat):Nat:=eR e0 r r + gR e0 r r + 2
structure HermR (r c e0:Nat) (M0:Nat→Nat→Int) (k:Nat) (S:WS):Prop where
  lin:Lin r c M0 S
  kr:k≤r
  kc:k≤c
  ech:je r k c S.M
  bm:∀i j,i<r→j<c→(S.M i j).natAbs≤2^eR e0 r r
  bu:∀i j,i<r→j<r→(S.U i j).natAbs≤2^eR e0 r r
  bv:∀i j,i<r→j<r→(S.V i j).natAbs≤2^gR e0 r r
theorem qw (w:World) (x:Value) (r c:Nat) (M:Nat→Nat→Int) (b0 e0 b:Nat) (hx:bk w x r c M b0) (h8:r≤8) (hM:∀i j,i<r→j<c→(M i j).natAbs≤2^e0) (hb:bR e0 r≤b) (hb1:2 + e0≤b) (hl:2*b + 300≤be):
    Calls Tryz.prog 45 #[x] w (cd w fun v w'=>∃k S,HermR r c e0 M k S∧lk w' v r c S b):=by
  have hfit:∀{t:Nat} {S:WS},t≤r→(∀i j,i<r→j<c→(S.M i j).natAbs≤2^eR e0 r t)→(∀i j,i<r→j<r→(S.U i j).natAbs≤2^eR e0 r t)→(∀i j,i<r→j<r→(S.V i j).natAbs≤2^gR e0 r t)→jd r c b S:=by
    intro t S ht h1 h2 h3;have e1:=iN e0 r (s:=t) (t:=r) ht;have e2:=jT e0 r (s:=t) (t:=r) ht
    unfold bR at hb
    exact ⟨fun i j hi hj=>ek (h1 i j hi hj) (by omega),fun i j hi hj=>ek (h2 i j hi hj) (by omega),fun i j hi hj=>ek (h3 i j hi hj) (by omega)⟩
  have e0r:=iN e0 r (s:=0) (t:=r) (by omega);have hbb:=hb
  unfold bR at hbb
  simp only [eR] at e0r;have hx0:bk w x r c M (e0 + 1):=hx.more (fun i j hi hj=>ek (hM i j hi hj) (by omega)) (by omega);refine (yp w x r c M (e0 + 1) b (FR r c e0 M) (JR r c e0 M) hx0 (by omega) hl (FR.start hM) (fun top q S ht hq h=>JR.of h ht hq) ?_ ?_ ?_ ?_ ?_ ?_).mono ?_
  · intro top q i S hti hir hq hJ hz h0
    obtain ⟨_,s,hs,g1,g2,g3⟩:=hJ.step hti hir hz h0;have e1:=iN e0 r (s:=top + 1) (t:=r) (by omega);have e2:=jT e0 r (s:=top + 1) (t:=r) (by omega);have hp:∀x:Nat,2^x*(2^(2*eR e0 r top + 6))^(i - top - 1)*s≤2^(x + (2*eR e0 r top + 6)*(r - top - 1)):=fun x=>by
      have h1:2^x*(2^(2*eR e0 r top + 6))^(i - top - 1)*s≤2^x*(2^(2*eR e0 r top + 6))^(i - top - 1)*2^(2*eR e0 r top + 6):=Nat.mul_le_mul_left _ hs;refine Nat.le_trans h1 ?_;rw [←Nat.pow_mul,←Nat.pow_add,←Nat.pow_add];refine Nat.pow_le_pow_right (by omega) ?_;have h2:(2*eR e0 r top + 6)*(i - top - 1) + (2*eR e0 r top + 6)=(2*eR e0 r top + 6)*(i - top - 1 + 1):=by rw [Nat.mul_add,Nat.mul_one]
      have h3:(2*eR e0 r top + 6)*(i - top - 1 + 1)≤(2*eR e0 r top + 6)*(r - top - 1):=Nat.mul_le_mul_left _ (by omega);omega
    have k1:eR e0 r top + (2*eR e0 r top + 6)*(r - top - 1)<eR e0 r (top + 1):=by simp only [eR];omega
    have k2:gR e0 r top + (2*eR e0 r top + 6)*(r - top - 1)<gR e0 r (top + 1):=by simp only [gR];omega
    exact ⟨fun a j ha hj=>ek (Nat.le_trans (g1 a j ha hj) (hp _)) (by omega),fun a j ha hj=>ek (Nat.le_trans (g2 a j ha hj) (hp _)) (by omega),fun a j ha hj=>ek (Nat.le_trans (g3 a j ha hj) (hp _)) (by omega)⟩
  · intro top q i S hti hir hq hJ hz h0
    exact (hJ.step hti hir hz h0).1
  · intro top q i S hti hir hq hJ hz h0
    exact hJ.swap hti hir hz h0
  · intro top q i S hti hir hq hJ hz
    exact hJ.zero hti hir hz
  · intro top q S ht hq hJ hz
    exact hJ.none ht hz
  · intro top q S ht hq hJ hz
    obtain ⟨h1,h2⟩:=hJ.pivot ht hq h8 hz;exact ⟨fun n hn=>by obtain ⟨g1,g2,g3⟩:=h1 (n + 1) (by omega);exact hfit (by omega) g1 g2 g3,h2⟩
  · rintro e w' ⟨v,rfl,hx',top,q,S,hF,hex,ht,hq,hH⟩
    have hech:je r top c S.M:=by
      obtain ⟨P,h1,h2⟩:=hF.ech;refine ⟨P,fun i hi=> ?_,fun a ha har j hj=> ?_⟩
      · obtain ⟨g1,g2⟩:=h1 i hi;exact ⟨by omega,g2⟩
      · rcases hex with h | h
        · exact h2 a ha har j (by omega)
        · omega
    have e1:=iN e0 r (s:=top) (t:=r) ht;have e2:=jT e0 r (s:=top) (t:=r) ht;have up:∀{z:Int} {a b:Nat},a≤b→z.natAbs≤2^a→z.natAbs≤2^b:=fun hab h=>Nat.le_trans h (Nat.pow_le_pow_right (by omega) hab)
    exact ⟨v,rfl,hx',top,S,⟨hF.lin,ht,hech.kc (Nat.le_refl _),hech,fun i j hi hj=>up e1 (hF.bm i j hi hj),fun i j hi hj=>up e1 (hF.bu i j hi hj),fun i j hi hj=>up e2 (hF.bv i j hi hj)⟩,hH⟩
end Go.TL
namespace Go.TL
set_option linter.unusedVariables false
theorem je.some {r k c:Nat} {M:Nat→Nat→Int} (h:je r k c M) {i:Nat} (hi:i<k):0≤piv (M i) c:=by
  obtain ⟨P,h1,_⟩:=h;obtain ⟨g1,g2,_⟩:=h1 i hi
  by_cases hn:0≤piv (M i) c
  · exact hn
  · have h3:dc gK (M i) c= -1:=by have:=(eX (p:=gK) (z:=M i) c).2;unfold piv at hn;omega
    have:=fq h3 (P i) g1
    unfold gK at this
    omega
theorem je.none {r k c:Nat} {M:Nat→Nat→Int} (h:je r k c M) {i:Nat} (hi:k≤i) (hr:i<r):¬0≤piv (M i) c:=by
  obtain ⟨P,_,h2⟩:=h
  unfold piv
  rw [iH fun j hj=>by unfold gK;exact fun hne=>hne (h2 i hi hr j hj)];omega
def mh (r c e0:Nat) (M0:Nat→Nat→Int) (k:Nat) (M:Nat→Nat→Int):Prop:=
  ∃k1 S1 S2,HermR r c e0 M0 k1 S1∧HermR (r - k1) r (eR e0 r r) (fun i=>S1.U (k1 + i)) k S2∧M=S2.M
theorem mh.bd {r c e0 e1 k:Nat} {M0 M:Nat→Nat→Int} (h:mh r c e0 M0 k M) (he:∀k,k≤r→eR (eR e0 r r) (r - k) (r - k)≤e1) {i j:Nat} (hi:i<k) (hj:j<r):(M i j).natAbs≤2^e1:=by
  obtain ⟨k1,S1,S2,h1,h2,rfl⟩:=h;have g1:=h2.kr;exact Nat.le_trans (h2.bm i j (by omega) hj) (Nat.pow_le_pow_right (by omega) (he k1 h1.kr))
theorem mh.kr {r c e0 k:Nat} {M0 M:Nat→Nat→Int} (h:mh r c e0 M0 k M):k≤r:=by
  obtain ⟨k1,S1,S2,h1,h2,rfl⟩:=h;have g1:=h2.kr;omega
end Go.TL
namespace Go.TL
open Go.RowKit Go.Proofs
set_option linter.unusedVariables false
set_option linter.unusedSimpArgs false
set_option maxRecDepth 10000 in
theorem tv (w:World) (x:Value) (rx cx:Nat) (Mx:Nat→Nat→Int) (btx:Nat) (k:Nat) (hx:bk w x rx cx Mx btx) (hk:k≤rx) (h1:∀i,i<k→0≤piv (Mx i) cx) (h2:∀i,k≤i→i<rx→¬0≤piv (Mx i) cx):Calls Tryz.prog 24 #[x] w (cd w fun v w'=>v= .int .i64 (k:Nat)):=by
 have hLIM:be=562949953421312:=rfl;have hmatx:=hx;obtain ⟨sx,rfl,hrx,hcx,hSx⟩:=hx.form;refine ak (N:=21) (rs:= #[.tmp 2]) Tryz.func24 rfl rfl rfl (Nat.le_of_ble_eq_true rfl) ?_;have hX:aG w w:=aG.refl w;refine ab ?_;refine RL.x rfl rfl (cX.box [.int .i64 ((rx:Nat)),.int .i64 ((cx:Nat)),sx] rfl rfl) ?_;rintro _ w1 ⟨g1,rfl,hge1,hx1,hA1⟩;replace hX:=aG.trans hX hx1;refine RL.p rfl rfl (ct.assign rfl) ?_;refine RL.nil ?_;refine ab ?_;refine RL.p rfl rfl (ct.assign rfl) ?_;refine RL.nil ?_;refine WP.seq ?_;refine ab ?_;refine RL.p rfl rfl (ct.assign rfl) ?_;refine RL.nil ?_;refine WP.block ?_;refine WP.loop (fun mz ez uz=>∃n:Nat,∃m:Nat,(mz=rx - n)∧(ez 1= .pointer (some ⟨g1,0,none⟩))∧(ez 2= .int .i64 (0))∧(ez 3= .int .i64 ((m:Nat)))∧(ez 4= .int .i64 ((n:Nat)))∧(n≤rx)∧(m≤k∧(n≤k→m=n)∧(k≤n→m=k))∧(aG w uz)∧(aQ uz g1 28 3 (bt [.int .i64 ((rx:Nat)),.int .i64 ((cx:Nat)),sx]))) (rx - 0) ?_ ?_
 · exact ⟨0,0,rfl,rfl,rfl,rfl,rfl,(by omega),(by omega),hX,hA1⟩
 rintro m1 e1 w2 ⟨n,m,hm1,s1_e1,s2_e1,s3_e1,s4_e1,hn,hm,hX1,hA1⟩;refine WP.seq ?_;refine ab ?_;refine RL.p rfl rfl (ct.move s4_e1) ?_;refine RL.p rfl rfl (ct.fieldAddr bg s1_e1) ?_;refine RL.p rfl rfl (ct.load bL rfl (hA1.at_ (i:=0) rfl rfl)) ?_;refine RL.p rfl rfl (ct.lss rfl rfl) ?_;refine RL.nil ?_;refine ag (((n:Nat):Int)<((rx:Nat):Int)) rfl (fun c8=> ?_) (fun c8=> ?_)
 ·
  refine WP.skip ?_;refine pN.norm ?_;refine WP.seq ?_;refine WP.block ?_;refine ab ?_;refine RL.p rfl rfl (ct.fieldAddr ao s1_e1) ?_;refine RL.p rfl rfl (ct.load aH rfl (hA1.at_ (i:=2) rfl rfl)) ?_;refine RL.p rfl rfl (ct.move s4_e1) ?_;refine RL.x rfl rfl (aZ (j:=n) aE rfl (cN.ext hSx hX1) rfl (by omega) (by omega)) ?_;rintro v1 _ ⟨rfl,q1⟩;refine RL.x rfl rfl (bh aT rfl q1) ?_;rintro v2 _ ⟨rfl,q2⟩;refine RL.x rfl rfl (cX.call sK (aD rfl) (mD _ _ _ _ _ q2)) ?_;rintro _ w3 ⟨hx2,rfl⟩;replace hA1:=aQ.ext hA1 hx2;replace hX1:=aG.trans hX1 hx2;refine RL.p rfl rfl (ct.geq rfl rfl) ?_;refine RL.nil ?_;refine ag ((0:Int)≤(piv (Mx n) cx:Int)) rfl (fun c17=> ?_) (fun c17=> ?_)
  ·
   refine WP.region ?_;refine RL.p rfl rfl (ct.move s3_e1) ?_;refine RL.p rfl rfl (ct.add (c:=((m + 1:Nat):Int)) rfl rfl (bJ (by omega))) ?_;refine RL.p rfl rfl (ct.assign rfl) ?_;refine RL.nil ?_;refine iZ.norm ?_;refine pN.norm ?_;refine WP.region ?_;refine RL.p rfl rfl (ct.move s4_e1) ?_;refine RL.p rfl rfl (ct.add (c:=((n + 1:Nat):Int)) rfl rfl (bJ (by omega))) ?_;refine RL.p rfl rfl (ct.assign rfl) ?_;refine RL.nil ?_;have hnk:n<k:=by
     rcases Nat.lt_or_ge n k with h | h
     · exact h
     · exact absurd c17 (h2 n h (by omega))
   refine pN.norm ⟨_,(by omega),n + 1,m + 1,rfl,s1_e1,s2_e1,rfl,rfl,(by omega),(by omega),hX1,hA1⟩
  ·
   refine WP.skip ?_;refine iZ.norm ?_;refine pN.norm ?_;refine WP.region ?_;refine RL.p rfl rfl (ct.move s4_e1) ?_;refine RL.p rfl rfl (ct.add (c:=((n + 1:Nat):Int)) rfl rfl (bJ (by omega))) ?_;refine RL.p rfl rfl (ct.assign rfl) ?_;refine RL.nil ?_;have hnk:k≤n:=by
     rcases Nat.lt_or_ge n k with h | h
     · exact absurd (h1 n h) c17
     · exact h
   refine pN.norm ⟨_,(by omega),n + 1,m,rfl,s1_e1,s2_e1,s3_e1,rfl,(by omega),(by omega),hX1,hA1⟩
 ·
  refine WP.exit ?_;refine pN.exit ?_;refine pN.exit ?_;refine iZ.same ?_;refine pN.norm ?_;refine ab ?_;refine RL.p rfl rfl (ct.move s3_e1) ?_;refine RL.p rfl rfl (ct.assign rfl) ?_;refine RL.nil ?_;refine WP.ret ?_;refine ⟨.int .i64 ((m:Nat)),AA.one (fV.tmp rfl),_,rfl,hX1,?_⟩;dsimp only;rw [show m=k by omega]
set_option maxRecDepth 10000 in
theorem zZ (w:World) (x:Value) (rx cx:Nat) (Mx:Nat→Nat→Int) (btx:Nat) (k:Nat) (hx:bk w x rx cx Mx btx) (hk:k≤rx):Calls Tryz.prog 33 #[x,.int .i64 (k:Nat)] w (cd w fun v w'=>bk w' v k cx Mx btx):=by
 have hLIM:be=562949953421312:=rfl;have hmatx:=hx;obtain ⟨sx,rfl,hrx,hcx,hSx⟩:=hx.form;refine ak (N:=13) (rs:= #[.cell 4 28]) Tryz.func33 rfl rfl rfl (Nat.le_of_ble_eq_true rfl) ?_;have hX:aG w w:=aG.refl w;refine ab ?_;refine RL.x rfl rfl (cX.box [.int .i64 ((rx:Nat)),.int .i64 ((cx:Nat)),sx] rfl rfl) ?_;rintro _ w1 ⟨g1,rfl,hge1,hx1,hA1⟩;replace hX:=aG.trans hX hx1;refine RL.x rfl rfl (cX.alloc [.int .i64 (0),.int .i64 (0),.slice (none) (0) (0)] bH rfl) ?_;rintro _ w2 ⟨g2,rfl,hge2,hx2,hA2⟩;have hbs2:w.heap.size≤g2:=Nat.le_trans hX.size hge2;replace hA1:=aQ.ext hA1 hx2;replace hX:=aG.trans hX hx2;refine RL.nil ?_;refine aI an 7 [_,_,_,_,_,_,_] rfl rfl (fun e_ w_ A9 A8=>⟨fun _=>aa (ct.move ((A8 1 rfl rfl))),fun _=>aa (ct.fieldAddr bC ((A8 2 rfl rfl))),fun A7=>aa (ct.load bL ((A7 1 rfl)) ((aQ.ext hA1 A9).at_ (i:=1) rfl rfl)),fun _=>aa (ct.fieldAddr ao ((A8 2 rfl rfl))),fun A7=>aa (ct.load aH ((A7 3 rfl)) ((aQ.ext hA1 A9).at_ (i:=2) rfl rfl)),fun _=>aa (ct.move ((A8 1 rfl rfl))),fun A7=>ah (ia (j:=k) aE (A7 4 rfl) (cN.ext (cN.ext hSx hX) A9) (A7 5 rfl) (by omega) (by omega)),trivial⟩) ?_;intro e1 w3 hx3 ho1 hf1;replace hA2:=aQ.ext hA2 hx3;replace hX:=aG.trans hX hx3;have s4_e1:e1 4=_:=ho1 4 rfl rfl;have s5_e1:e1 5=_:=hf1 0 rfl;have s7_e1:e1 7=_:=hf1 2 rfl;have s11_e1:cN w3 (e1 11) k cx Mx btx:=hf1 6 rfl;refine RL.p rfl rfl (ct.build (vs:= [(0,.int .i64 ((k:Nat))),(1,.int .i64 ((cx:Nat))),(2,(e1 11))]) [(0,1),(1,1),(2,1)] gY bH (fI s5_e1 s7_e1 rfl) (ux s11_e1)) ?_;refine RL.x rfl rfl (cX.store [.int .i64 ((k:Nat)),.int .i64 ((cx:Nat)),(e1 11)] bV s4_e1 rfl rfl hA2 (Nat.le_of_ble_eq_true rfl) (bW rfl rfl (s11_e1.one))) ?_;rintro _ w4 ⟨hk1,hnew⟩;replace s11_e1:=aS s11_e1 hk1 hA2 (by decide);replace hX:=hX.step hk1 (fun b e=>by subst e;exact hbs2);replace hA2:=hnew.lit [.int .i64 ((k:Nat)),.int .i64 ((cx:Nat)),(e1 11)] rfl;clear hnew;refine RL.nil ?_;refine WP.ret ?_;refine ⟨.agg #[.int .i64 ((k:Nat)),.int .i64 ((cx:Nat)),(e1 11)],AA.one (aj [.int .i64 ((k:Nat)),.int .i64 ((cx:Nat)),(e1 11)] aN s4_e1 (hA2.cells 0 _ rfl rfl)),_,rfl,hX,?_⟩;dsimp only;exact (bk.mk s11_e1 (by omega) (by omega))
set_option maxRecDepth 10000 in
theorem qy (w:World) (x:Value) (rx cx:Nat) (Mx:Nat→Nat→Int) (btx:Nat) (e0 b:Nat) (hx:bk w x rx cx Mx btx) (h8:rx≤8) (hM:∀i j,i<rx→j<cx→(Mx i j).natAbs≤2^e0) (hb:bR e0 rx≤b) (hb1:2 + e0≤b) (hl:2*b + 300≤be):Calls Tryz.prog 12 #[x] w (cd w fun v w'=>∃k S,HermR rx cx e0 Mx k S∧bk w' v k cx S.M b):=by
 have hLIM:be=562949953421312:=rfl;have hmatx:=hx;obtain ⟨sx,rfl,hrx,hcx,hSx⟩:=hx.form;refine ak (N:=12) (rs:= #[.cell 2 28]) Tryz.func12 rfl rfl rfl (Nat.le_of_ble_eq_true rfl) ?_;have hX:aG w w:=aG.refl w;refine ab ?_;refine RL.x rfl rfl (cX.box [.int .i64 ((rx:Nat)),.int .i64 ((cx:Nat)),sx] rfl rfl) ?_;rintro _ w1 ⟨g1,rfl,hge1,hx1,hA1⟩;replace hX:=aG.trans hX hx1;refine RL.x rfl rfl (cX.alloc [.int .i64 (0),.int .i64 (0),.slice (none) (0) (0)] bH rfl) ?_;rintro _ w2 ⟨g2,rfl,hge2,hx2,hA2⟩;have hbs2:w.heap.size≤g2:=Nat.le_trans hX.size hge2;replace hA1:=aQ.ext hA1 hx2;replace hX:=aG.trans hX hx2;refine RL.nil ?_;refine ab ?_;refine RL.p rfl rfl (af [.int .i64 ((rx:Nat)),.int .i64 ((cx:Nat)),sx] aN rfl (hA1.cells 0 _ rfl rfl)) ?_;refine RL.x rfl rfl (cX.call xh (aD rfl) (qw _ _ rx cx Mx _ e0 b (bk.mk (cN.ext hSx hX) (by omega) (by omega)) h8 hM hb hb1 hl)) ?_;rintro _ w3 ⟨hx3,kf_1,Sf_1,hHf_1,sa_1,sb_1,sc_1,rfl,hdr_1,hdc_1,hSa_1,hSb_1,hSc_1⟩;replace hA2:=aQ.ext hA2 hx3;replace hX:=aG.trans hX hx3;refine RL.x rfl rfl (cX.alloc [.int .i64 (0),.int .i64 (0),.slice (none) (0) (0),.int .i64 (0),.int .i64 (0),.slice (none) (0) (0),.int .i64 (0),.int .i64 (0),.slice (none) (0) (0)] kl rfl) ?_;rintro _ w4 ⟨g3,rfl,hge3,hx4,hA3⟩;have ne3:g2≠g3:=Nat.ne_of_lt (Nat.lt_of_lt_of_le hA2.lt hge3);have hbs3:w.heap.size≤g3:=Nat.le_trans hX.size hge3;replace hA2:=aQ.ext hA2 hx4;replace hSa_1:=cN.ext hSa_1 hx4;replace hSb_1:=cN.ext hSb_1 hx4;replace hSc_1:=cN.ext hSc_1 hx4;replace hX:=aG.trans hX hx4;refine RL.x rfl rfl (cX.store [.int .i64 ((rx:Nat)),.int .i64 ((cx:Nat)),sa_1,.int .i64 ((rx:Nat)),.int .i64 ((rx:Nat)),sb_1,.int .i64 ((rx:Nat)),.int .i64 ((rx:Nat)),sc_1] nz rfl rfl rfl hA3 (Nat.le_of_ble_eq_true rfl) (nZ rfl rfl (hSa_1.one) rfl rfl (hSb_1.one) rfl rfl (hSc_1.one))) ?_;rintro _ w5 ⟨hk1,hnew⟩;replace hA2:=hA2.keep hk1 ne3;replace hSa_1:=aS hSa_1 hk1 hA3 (by decide);replace hX:=hX.step hk1 (fun b e=>by subst e;exact hbs3);replace hA3:=hnew.lit [.int .i64 ((rx:Nat)),.int .i64 ((cx:Nat)),sa_1,.int .i64 ((rx:Nat)),.int .i64 ((rx:Nat)),sb_1,.int .i64 ((rx:Nat)),.int .i64 ((rx:Nat)),sc_1] rfl;clear hnew;refine RL.nil ?_;have hkr:=hHf_1.kr;refine aI an 6 [_,_,_,_,_,_] rfl rfl (fun e_ w_ A9 A8=>⟨fun _=>aa (ct.fieldAddr iv ((A8 3 rfl rfl))),fun A7=>aa (af [.int .i64 ((rx:Nat)),.int .i64 ((cx:Nat)),sa_1] aN ((A7 0 rfl)) ((aQ.ext hA3 A9).cells 0 _ rfl rfl)),fun _=>aa (ct.fieldAddr iv ((A8 3 rfl rfl))),fun A7=>aa (af [.int .i64 ((rx:Nat)),.int .i64 ((cx:Nat)),sa_1] aN ((A7 2 rfl)) ((aQ.ext hA3 A9).cells 0 _ rfl rfl)),fun A7=>cX.call xl (aD ((A7 3 rfl))) (tv _ _ _ _ _ _ kf_1 (bk.mk (cN.ext hSa_1 A9) (by omega) (by omega)) hHf_1.kr (fun i hi=>hHf_1.ech.some hi) (fun i hi hr=>hHf_1.ech.none hi hr)),fun A7=>cX.call zO (az ((A7 1 rfl)) ((A7 4 rfl))) (zZ _ _ _ _ _ _ kf_1 (bk.mk (cN.ext hSa_1 A9) (by omega) (by omega)) (by omega)),trivial⟩) ?_;intro e1 w6 hx5 ho1 hf1;replace hA2:=aQ.ext hA2 hx5;replace hX:=aG.trans hX hx5;have s2_e1:e1 2=_:=ho1 2 rfl rfl;have s11_e1:bk w6 (e1 11) kf_1 cx Sf_1.M b:=hf1 5 rfl;obtain ⟨sv1,hq1,hr1,hc1,hS1⟩:=s11_e1.form;refine RL.x rfl rfl (cX.store [.int .i64 ((kf_1:Nat)),.int .i64 ((cx:Nat)),sv1] bV s2_e1 hq1 rfl hA2 (Nat.le_of_ble_eq_true rfl) (bW rfl rfl hS1.one)) ?_;rintro _ w7 ⟨hk2,hnew⟩;replace hS1:=aS hS1 hk2 hA2 (by decide);replace hX:=hX.step hk2 (fun b e=>by subst e;exact hbs2);replace hA2:=hnew.lit [.int .i64 ((kf_1:Nat)),.int .i64 ((cx:Nat)),sv1] rfl;clear hnew;refine RL.nil ?_;refine WP.ret ?_;refine ⟨.agg #[.int .i64 ((kf_1:Nat)),.int .i64 ((cx:Nat)),sv1],AA.one (aj [.int .i64 ((kf_1:Nat)),.int .i64 ((cx:Nat)),sv1] aN s2_e1 (hA2.cells 0 _ rfl rfl)),_,rfl,hX,?_⟩;dsimp only;exact ⟨kf_1,Sf_1,hHf_1,(bk.mk hS1 (by omega) (by omega))⟩
end Go.TL
namespace Go.TL
open Go.RowKit Go.Proofs
set_option linter.unusedVariables false
def A0 (r c e0 e1:Nat) (M0:Nat→Nat→Int) (k:Nat) (M:Nat→Nat→Int):Prop:=∃k1 K1,mh c r e0 (jJ M0) k1 K1∧mh c k1 e1 (jJ K1) k M
def jv (w:World) (v:Value) (r c e0:Nat) (M0:Nat→Nat→Int) (b:Nat):Prop:=∃k S,HermR r c e0 M0 k S∧lk w v r c S b
theorem jv.ext {w w':World} {v:Value} {r c e0 b:Nat} {M0:Nat→Nat→Int} (h:jv w v r c e0 M0 b) (hx:aG w w'):jv w' v r c e0 M0 b:=by obtain ⟨k,S,h1,h2⟩:=h;exact ⟨k,S,h1,h2.ext hx⟩
theorem oh (r c e0:Nat) (M0:Nat→Nat→Int) (b:Nat):bI (fun v w=>jv w v r c e0 M0 b):=fun _ _ _ h hx=>h.ext hx
instance (r c e0:Nat) (M0:Nat→Nat→Int) (b:Nat):Nonempty (bI (fun v w=>jv w v r c e0 M0 b)):=⟨oh r c e0 M0 b⟩
def jc (w:World) (v:Value) (r c e0:Nat) (M0:Nat→Nat→Int) (b:Nat):Prop:=∃k S,HermR r c e0 M0 k S∧bk w v r c S.M b
theorem jc.ext {w w':World} {v:Value} {r c e0 b:Nat} {M0:Nat→Nat→Int} (h:jc w v r c e0 M0 b) (hx:aG w w'):jc w' v r c e0 M0 b:=by obtain ⟨k,S,h1,h2⟩:=h;exact ⟨k,S,h1,h2.ext hx⟩
theorem pw (r c e0:Nat) (M0:Nat→Nat→Int) (b:Nat):bI (fun v w=>jc w v r c e0 M0 b):=fun _ _ _ h hx=>h.ext hx
instance (r c e0:Nat) (M0:Nat→Nat→Int) (b:Nat):Nonempty (bI (fun v w=>jc w v r c e0 M0 b)):=⟨pw r c e0 M0 b⟩
def mi (w:World) (v:Value) (r c e0:Nat) (M0:Nat→Nat→Int) (b:Nat):Prop:=∃k S,HermR r c e0 M0 k S∧bk w v k c S.M b
theorem mi.ext {w w':World} {v:Value} {r c e0 b:Nat} {M0:Nat→Nat→Int} (h:mi w v r c e0 M0 b) (hx:aG w w'):mi w' v r c e0 M0 b:=by obtain ⟨k,S,h1,h2⟩:=h;exact ⟨k,S,h1,h2.ext hx⟩
theorem px (r c e0:Nat) (M0:Nat→Nat→Int) (b:Nat):bI (fun v w=>mi w v r c e0 M0 b):=fun _ _ _ h hx=>h.ext hx
instance (r c e0:Nat) (M0:Nat→Nat→Int) (b:Nat):Nonempty (bI (fun v w=>mi w v r c e0 M0 b)):=⟨px r c e0 M0 b⟩
def rg (w:World) (v:Value) (r c e0:Nat) (M0:Nat→Nat→Int) (b:Nat):Prop:=∃k M,mh r c e0 M0 k M∧bk w v k r M b
theorem rg.ext {w w':World} {v:Value} {r c e0 b:Nat} {M0:Nat→Nat→Int} (h:rg w v r c e0 M0 b) (hx:aG w w'):rg w' v r c e0 M0 b:=by obtain ⟨k,S,h1,h2⟩:=h;exact ⟨k,S,h1,h2.ext hx⟩
theorem pv (r c e0:Nat) (M0:Nat→Nat→Int) (b:Nat):bI (fun v w=>rg w v r c e0 M0 b):=fun _ _ _ h hx=>h.ext hx
instance (r c e0:Nat) (M0:Nat→Nat→Int) (b:Nat):Nonempty (bI (fun v w=>rg w v r c e0 M0 b)):=⟨pv r c e0 M0 b⟩
section
variable {P:Program} {e:cD} {w:World} {d:Option Tmp} {ty:TypeId} {pos:String} {after:Array Edge} {gd:Option (Nat×Bool)}
theorem sA {t ft r c e0 b:Nat} {M0:Nat→Nat→Int} {x:Operand} {v:Value} (hf:fh P t 0 ft 0=true) (ha:iT P ft 3=true) (hx:ev e x=v) (h:jv w v r c e0 M0 b):
    cX P ⟨d,.field t x 0,ty,pos,after,gd⟩ e w (fun v' w'=>w=w'∧jc w' v' r c e0 M0 b):=by
  obtain ⟨k,S,hH,s1,s2,s3,rfl,⟨d1,_⟩,d2,h1,_⟩:=h;exact dy (φ:=fun v' w'=>jc w' v' r c e0 M0 b) (lg hf ha hx (by rfl)) ⟨k,S,hH,bk.mk h1 d1 d2⟩
end
theorem vL {w:World} {x y:Value} {r c e0 b ry cy bty:Nat} {M0 My:Nat→Nat→Int} (h:jc w x r c e0 M0 b) (hy:bk w y ry cy My bty) (hU:∀k S,HermR r c e0 M0 k S→cb r c ry cy S.M My):
    Calls Tryz.prog 11 #[x,y] w (cd w fun v _=>v= .bool (decide True)):=by
  obtain ⟨k,S,h1,h2⟩:=h;exact (gI _ _ _ _ _ _ _ _ _ _ _ h2 hy).mono fun e w' ⟨v,g1,g2,g3⟩=>⟨v,g1,g2,g3.trans (congrArg _ (decide_eq_true (hU k S h1)))⟩
end Go.TL
namespace Go.TL
open Go.RowKit Go.Proofs
set_option linter.unusedVariables false
set_option linter.unusedSimpArgs false
set_option maxRecDepth 10000 in
theorem mB (w:World) (x:Value) (rx cx:Nat) (Mx:Nat→Nat→Int) (btx:Nat) (e0 b:Nat) (hx:bk w x rx cx Mx btx) (h8:rx≤8) (hM:∀i j,i<rx→j<cx→(Mx i j).natAbs≤2^e0) (hb:bR e0 rx≤b) (hb1:2 + e0≤b) (hl:2*b + 300≤be) (hsq:rx=cx) (hU:∀k S,HermR rx cx e0 Mx k S→cb rx cx rx rx S.M ca):Calls Tryz.prog 50 #[x] w (cd w fun v w'=>v= .bool true):=by
 have hLIM:be=562949953421312:=rfl;have hmatx:=hx;obtain ⟨sx,rfl,hrx,hcx,hSx⟩:=hx.form;refine ak (N:=23) (rs:= #[.tmp 2]) Tryz.func50 rfl rfl rfl (Nat.le_of_ble_eq_true rfl) ?_;have hX:aG w w:=aG.refl w;refine ab ?_;refine RL.x rfl rfl (cX.box [.int .i64 ((rx:Nat)),.int .i64 ((cx:Nat)),sx] rfl rfl) ?_;rintro _ w1 ⟨g1,rfl,hge1,hx1,hA1⟩;replace hX:=aG.trans hX hx1;refine RL.p rfl rfl (ct.assign rfl) ?_;refine RL.nil ?_;refine ab ?_;refine RL.p rfl rfl (af [.int .i64 ((rx:Nat)),.int .i64 ((cx:Nat)),sx] aN rfl (hA1.cells 0 _ rfl rfl)) ?_;refine RL.x rfl rfl (cX.call qi (aD rfl) (iE _ _ _ _ _ _ (bk.mk (cN.ext hSx hX) (by omega) (by omega)))) ?_;rintro _ w2 ⟨hx2,rfl⟩;replace hA1:=aQ.ext hA1 hx2;replace hX:=aG.trans hX hx2;refine RL.p rfl rfl (ct.assign rfl) ?_;refine RL.nil ?_;have hBw1:w.heap.size≤w2.heap.size:=hX.size;refine aI an 17 [fun v Ba=>v= .bool (decide (True)),fun v Ba=>v= .bool (decide (True)),_,_,_,_,_,_,fun v Ba=>v= .bool (decide ((True)∧(((rx:Nat):Int)=((cx:Nat):Int)))),_,fun v Ba=>((True)∧(((rx:Nat):Int)=((cx:Nat):Int)))→(jv Ba v rx cx e0 Mx b),fun v Ba=>((True)∧(((rx:Nat):Int)=((cx:Nat):Int)))→(jc Ba v rx cx e0 Mx b),_,_,fun v Ba=>((True)∧(((rx:Nat):Int)=((cx:Nat):Int)))→(cA Ba v w2.heap.size rx rx ca 1),fun v Ba=>((True)∧(((rx:Nat):Int)=((cx:Nat):Int)))→(v= .bool (decide (True))),_] rfl rfl (fun e_ w_ A9 A8=>⟨fun _=>aa (ct.move ((A8 3 rfl rfl))),fun A7=>aa (ct.move ((A7 0 rfl))),fun A7=>gT (A7 1 rfl) fun hg=>aa (ct.fieldAddr bg ((A8 1 rfl rfl))),fun A7=>gT (A7 1 rfl) fun hg=>aa (ct.load bL ((A7 2 rfl hg)) ((aQ.ext hA1 A9).at_ (i:=0) rfl rfl)),fun A7=>gT (A7 1 rfl) fun hg=>aa (ct.fieldAddr bC ((A8 1 rfl rfl))),fun A7=>gT (A7 1 rfl) fun hg=>aa (ct.load bL ((A7 4 rfl hg)) ((aQ.ext hA1 A9).at_ (i:=1) rfl rfl)),fun A7=>gT (A7 1 rfl) fun hg=>aa (ct.eql ((A7 3 rfl hg)) ((A7 5 rfl hg))),fun A7=>aa (aB (p:=True) (q:=((rx:Nat):Int)=((cx:Nat):Int)) (A7 1 rfl) (fun hq=>(A7 6 rfl hq))),fun A7=>aa (ct.move ((A7 7 rfl))),fun A7=>gT (A7 8 rfl) fun hg=>aa (af [.int .i64 ((rx:Nat)),.int .i64 ((cx:Nat)),sx] aN ((A8 1 rfl rfl)) ((aQ.ext hA1 A9).cells 0 _ rfl rfl)),fun A7=>gT (A7 8 rfl) fun hg=>cX.call xh (aD (A7 9 rfl hg)) (qw _ _ _ _ _ _ e0 b (bk.mk (cN.ext (cN.ext hSx hX) A9) (by omega) (by omega)) h8 hM hb hb1 hl),fun A7=>gT (A7 8 rfl) fun hg=>ah (φ:=fun v Ba=>jc Ba v rx cx e0 Mx b) (sA qe aN rfl (A7 10 rfl hg)),fun A7=>gT (A7 8 rfl) fun hg=>aa (ct.fieldAddr bg ((A8 1 rfl rfl))),fun A7=>gT (A7 8 rfl) fun hg=>aa (ct.load bL ((A7 12 rfl hg)) ((aQ.ext hA1 A9).at_ (i:=0) rfl rfl)),fun A7=>gT (A7 8 rfl) fun hg=>cX.mono (cX.call qj (aD ((A7 13 rfl hg))) (fF _ rx (by omega))) fun v Bb hv=>⟨hv.1,cA.low hv.2 A9.size⟩,fun A7=>gT (A7 8 rfl) fun hg=>cX.call jz (az rfl rfl) (vL (A7 11 rfl hg) (cA.matV (A7 14 rfl hg)) hU),fun A7=>aa (aB (p:=(True)∧(((rx:Nat):Int)=((cx:Nat):Int))) (q:=True) (A7 8 rfl) (fun hq=>(A7 15 rfl hq))),trivial⟩) ?_;intro e1 w3 hx3 ho1 hf1;replace hX:=aG.trans hX hx3;have s22_e1:e1 22=_:=hf1 16 rfl;refine RL.p rfl rfl (ct.assign s22_e1) ?_;refine RL.nil ?_;refine WP.ret ?_;refine ⟨.bool (decide (((True)∧(((rx:Nat):Int)=((cx:Nat):Int)))∧(True))),AA.one (fV.tmp rfl),_,rfl,hX,?_⟩;dsimp only;exact congrArg _ (decide_eq_true ⟨⟨trivial,by omega⟩,trivial⟩)
set_option maxRecDepth 10000 in
theorem nS (w:World) (x:Value) (rx cx:Nat) (Mx:Nat→Nat→Int) (btx:Nat) (y:Value) (ry:Nat) (My:Nat→Nat→Int) (bty:Nat) (e0 b:Nat) (hx:bk w x rx cx Mx btx) (hy:bk w y ry cx My bty) (h8:rx + ry≤8) (hsq:rx + ry=cx) (hM:∀i j,i<rx + ry→j<cx→(fe rx Mx My i j).natAbs≤2^e0) (hbx:btx + 1≤b) (hby:bty + 1≤b) (hb:bR e0 (rx + ry)≤b) (hb1:2 + e0≤b) (hl:2*b + 300≤be) (hU:∀k S,HermR (rx + ry) cx e0 (fe rx Mx My) k S→cb (rx + ry) cx (rx + ry) (rx + ry) S.M ca):Calls Tryz.prog 17 #[x,y] w (cd w fun v w'=>v= .bool true):=by
 have hLIM:be=562949953421312:=rfl;have hmatx:=hx;obtain ⟨sx,rfl,hrx,hcx,hSx⟩:=hx.form;have hmaty:=hy;obtain ⟨sy,rfl,hry,_,hSy⟩:=hy.form;refine ak (N:=31) (rs:= #[.tmp 4]) Tryz.func17 rfl rfl rfl (Nat.le_of_ble_eq_true rfl) ?_;have hX:aG w w:=aG.refl w;refine ab ?_;refine RL.x rfl rfl (cX.box [.int .i64 ((rx:Nat)),.int .i64 ((cx:Nat)),sx] rfl rfl) ?_;rintro _ w1 ⟨g1,rfl,hge1,hx1,hA1⟩;replace hX:=aG.trans hX hx1;refine RL.x rfl rfl (cX.box [.int .i64 ((ry:Nat)),.int .i64 ((cx:Nat)),sy] rfl rfl) ?_;rintro _ w2 ⟨g2,rfl,hge2,hx2,hA2⟩;replace hA1:=aQ.ext hA1 hx2;replace hX:=aG.trans hX hx2;refine RL.p rfl rfl (ct.assign rfl) ?_;refine RL.nil ?_;refine ab ?_;refine RL.p rfl rfl (af [.int .i64 ((ry:Nat)),.int .i64 ((cx:Nat)),sy] aN rfl (hA2.cells 0 _ rfl rfl)) ?_;refine RL.x rfl rfl (cX.call qi (aD rfl) (iE _ _ _ _ _ _ (bk.mk (cN.ext hSy hX) (by omega) (by omega)))) ?_;rintro _ w3 ⟨hx3,rfl⟩;replace hA1:=aQ.ext hA1 hx3;replace hA2:=aQ.ext hA2 hx3;replace hX:=aG.trans hX hx3;refine RL.p rfl rfl (ct.assign rfl) ?_;refine RL.nil ?_;refine WP.seq ?_;refine aI an 9 [fun v Ba=>v= .bool (decide (True)),_,fun v Ba=>v= .bool (decide (¬(True))),_,_,_,_,_,_] rfl rfl (fun e_ w_ A9 A8=>⟨fun _=>aa (ct.move ((A8 5 rfl rfl))),fun A7=>aa (ct.not (p:=True) (A7 0 rfl)),fun A7=>aa (ct.move ((A7 1 rfl))),fun A7=>gF (A7 2 rfl) fun hg=>aa (ct.fieldAddr bC ((A8 3 rfl rfl))),fun A7=>gF (A7 2 rfl) fun hg=>aa (ct.load bL ((A7 3 rfl hg)) ((aQ.ext hA2 A9).at_ (i:=1) rfl rfl)),fun A7=>gF (A7 2 rfl) fun hg=>aa (ct.fieldAddr bC ((A8 2 rfl rfl))),fun A7=>gF (A7 2 rfl) fun hg=>aa (ct.load bL ((A7 5 rfl hg)) ((aQ.ext hA1 A9).at_ (i:=1) rfl rfl)),fun A7=>gF (A7 2 rfl) fun hg=>aa (ct.neq ((A7 4 rfl hg)) ((A7 6 rfl hg))),fun A7=>aa (bQ (p:=¬(True)) (q:=((cx:Nat):Int)≠((cx:Nat):Int)) (A7 2 rfl) (fun hq=>(A7 7 rfl hq))),trivial⟩) ?_;intro e1 w4 hx4 ho1 hf1;replace hA1:=aQ.ext hA1 hx4;replace hA2:=aQ.ext hA2 hx4;replace hX:=aG.trans hX hx4;have s2_e1:e1 2=_:=ho1 2 rfl rfl;have s3_e1:e1 3=_:=ho1 3 rfl rfl;have s18_e1:e1 18=_:=hf1 8 rfl;refine RL.nil ?_;refine ag ((¬(True))∨(((cx:Nat):Int)≠((cx:Nat):Int))) s18_e1 (fun c18=> ?_) (fun c18=> ?_)
 ·
  refine ab ?_;refine RL.p rfl rfl (ct.assign rfl) ?_;refine RL.nil ?_;refine WP.ret ?_;refine pN.ret ?_;refine ⟨.bool (false),AA.one (fV.tmp rfl),_,rfl,hX,?_⟩;dsimp only;exact c18.elim (fun h=>absurd trivial h) (fun h=>absurd rfl h)
 ·
  refine WP.skip ?_;refine pN.norm ?_;refine ab ?_;refine RL.p rfl rfl (af [.int .i64 ((rx:Nat)),.int .i64 ((cx:Nat)),sx] aN s2_e1 (hA1.cells 0 _ rfl rfl)) ?_;refine RL.p rfl rfl (af [.int .i64 ((ry:Nat)),.int .i64 ((cx:Nat)),sy] aN s3_e1 (hA2.cells 0 _ rfl rfl)) ?_;refine RL.x rfl rfl (cX.call zU (az rfl rfl) (vH _ _ _ _ _ _ _ _ _ _ b (bk.mk (cN.ext hSx hX) (by omega) (by omega)) (bk.mk (cN.ext hSy hX) (by omega) (by omega)) (by omega) hbx hby (by omega))) ?_;rintro _ w5 ⟨hx5,v1,rfl,q1⟩;replace hX:=aG.trans hX hx5;refine RL.p rfl rfl (ct.move rfl) ?_;refine RL.p rfl rfl (ct.extract rfl rfl) ?_;refine RL.p rfl rfl (ct.extract rfl rfl) ?_;refine RL.x rfl rfl (cX.alloc [.int .i64 (0),.int .i64 (0),.slice (none) (0) (0)] bH rfl) ?_;rintro _ w6 ⟨g3,rfl,hge3,hx6,hA3⟩;have hbs3:w.heap.size≤g3:=Nat.le_trans hX.size hge3;replace q1:=bk.ext q1 hx6;replace hX:=aG.trans hX hx6;obtain ⟨sv1,hq1,hr1,hc1,hS1⟩:=q1.form;refine RL.x rfl rfl (cX.store [.int .i64 ((rx + ry:Nat)),.int .i64 ((cx:Nat)),sv1] bV rfl hq1 rfl hA3 (Nat.le_of_ble_eq_true rfl) (bW rfl rfl hS1.one)) ?_;rintro _ w7 ⟨hk1,hnew⟩;replace hS1:=aS hS1 hk1 hA3 (by decide);replace hX:=hX.step hk1 (fun b e=>by subst e;exact hbs3);replace hA3:=hnew.lit [.int .i64 ((rx + ry:Nat)),.int .i64 ((cx:Nat)),sv1] rfl;clear hnew;refine RL.p rfl rfl (ct.assign rfl) ?_;refine RL.nil ?_;refine aI an 6 [_,_,fun v Ba=>v= .bool (decide ((0:Int)=(0:Int))),_,fun v Ba=>((0:Int)=(0:Int))→(v= .bool (decide (True))),_] rfl rfl (fun e_ w_ A9 A8=>⟨fun _=>aa (ct.move ((A8 7 rfl rfl))),fun A7=>aa (ct.eql ((A7 0 rfl)) rfl),fun A7=>aa (ct.move ((A7 1 rfl))),fun A7=>gT (A7 2 rfl) fun hg=>aa (af [.int .i64 ((rx + ry:Nat)),.int .i64 ((cx:Nat)),sv1] aN ((A8 6 rfl rfl)) ((aQ.ext hA3 A9).cells 0 _ rfl rfl)),fun A7=>gT (A7 2 rfl) fun hg=>cX.call zI (aD ((A7 3 rfl hg))) ((mB _ _ (rx + ry) cx (fe rx Mx My) _ e0 b (bk.mk (cN.ext hS1 A9) (by omega) (by omega)) h8 hM hb hb1 hl hsq hU)),fun A7=>aa (aB (p:=(0:Int)=(0:Int)) (q:=True) (A7 2 rfl) (fun hq=>(A7 4 rfl hq))),trivial⟩) ?_;intro e2 w8 hx7 ho2 hf2;replace hX:=aG.trans hX hx7;have s30_e2:e2 30=_:=hf2 5 rfl;refine RL.p rfl rfl (ct.assign s30_e2) ?_;refine RL.nil ?_;refine WP.ret ?_;refine ⟨.bool (decide (((0:Int)=(0:Int))∧(True))),AA.one (fV.tmp rfl),_,rfl,hX,?_⟩;dsimp only;exact congrArg _ (decide_eq_true ⟨rfl,trivial⟩)
end Go.TL
namespace Go.TL
set_option linter.unusedVariables false
theorem eM {f:Nat→Int} {k:Nat}:∀{n:Nat},k≤n→(∀i,k≤i→i<n→f i=0)→aq n f=aq k f
  | 0,h,_=>by rw [show k=0 by omega]
  | n + 1,h,hz=>by
    by_cases e:k=n + 1
    · rw [e]
    · simp only [aq];rw [eM (n:=n) (by omega) fun i h1 h2=>hz i h1 (by omega),hz n (by omega) (by omega)];omega
theorem kw (f:Nat→Int) (k:Nat):∀n,aq (k + n) f=aq k f + aq n (fun i=>f (k + i))
  | 0=>by simp [aq]
  | n + 1=>by rw [show k + (n + 1)=k + n + 1 by omega];simp only [aq];rw [kw f k n];omega
def et (n c:Nat) (M:Nat→Nat→Int) (v:Nat→Int):Prop:=∃a:Nat→Int,∀j,j<c→v j=aq n (fun i=>a i*M i j)
theorem et.congr {n c:Nat} {M M':Nat→Nat→Int} {v:Nat→Int} (h:et n c M v) (he:∀i j,i<n→j<c→M i j=M' i j):et n c M' v:=by
  obtain ⟨a,h⟩:=h;exact ⟨a,fun j hj=>by rw [h j hj];exact aw fun i hi=>by rw [he i j hi hj]⟩
theorem et.row {n c:Nat} {M:Nat→Nat→Int} {i:Nat} (hi:i<n):et n c M (M i):=
  ⟨fun x=>if x=i then 1 else 0,fun j hj=>by
    have:=eL (f:=fun x=>M x j) hi;rw [←this];exact aw fun x _=>by by_cases e:x=i<;>simp [e]⟩
theorem et.sub {n c:Nat} {M:Nat→Nat→Int} {u v:Nat→Int} (h:et n c M u) (g:et n c M v):et n c M (fun j=>u j - v j):=by
  obtain ⟨a,h⟩:=h;obtain ⟨b,g⟩:=g;refine ⟨fun i=>a i - b i,fun j hj=> ?_⟩;show u j - v j=_;rw [h j hj,g j hj,←fo];exact aw fun i _=>(Int.sub_mul _ _ _).symm
theorem et.cut {k n c:Nat} {M:Nat→Nat→Int} (hk:k≤n) (hz:∀i,k≤i→i<n→∀j,j<c→M i j=0) {v:Nat→Int}:et n c M v↔et k c M v:=by
  constructor
  · rintro ⟨a,h⟩
    exact ⟨a,fun j hj=>by rw [h j hj];exact eM hk fun i h1 h2=>by rw [hz i h1 h2 j hj,Int.mul_zero]⟩
  · rintro ⟨a,h⟩
    refine ⟨fun i=>if i<k then a i else 0,fun j hj=> ?_⟩;rw [h j hj,eM (n:=n) hk fun i h1 h2=>by rw [hz i h1 h2 j hj,Int.mul_zero]];exact aw fun i hi=>by simp only [if_pos hi]
theorem cL (r n:Nat) (a:Nat→Int) (A B:Nat→Nat→Int) (j:Nat):aq r (fun i=>a i*cg n A B i j)=aq n (fun x=>aq r (fun i=>a i*A i x)*B x j):=
  (kM r n (fun _=>a) A B 0 j).symm
section
variable {r c:Nat} {M0:Nat→Nat→Int} {S:WS}
theorem Lin.lat (h:Lin r c M0 S) {v:Nat→Int}:et r c M0 v↔et r c S.M v:=by
  constructor
  · rintro ⟨a,g⟩
    refine ⟨fun x=>aq r (fun i=>a i*S.V i x),fun j hj=> ?_⟩;rw [g j hj,←cL];exact aw fun i hi=>by rw [h.back hi hj]
  · rintro ⟨a,g⟩
    refine ⟨fun x=>aq r (fun i=>a i*S.U i x),fun j hj=> ?_⟩;rw [g j hj,←cL];exact aw fun i hi=>by rw [h.eq i j hi hj]
end
def dP (k c:Nat) (M:Nat→Nat→Int) (P:Nat→Nat):Prop:=∀i,i<k→P i<c∧0<M i (P i)∧(∀j,j<P i→M i j=0)∧∀n,n<i→P n<P i∧0≤M n (P i)∧M n (P i)<M i (P i)
theorem dP.lead {k c:Nat} {M:Nat→Nat→Int} {P:Nat→Nat} (h:dP k c M P) {a:Nat→Int} {v:Nat→Int} (hv:∀j,j<c→v j=aq k (fun i=>a i*M i j)):
    (∀i,i<k→a i=0)∨∃j,j<k∧(∀x,x<P j→v x=0)∧v (P j)≠0∧M j (P j)∣v (P j):=by
  by_cases hz:∀i,i<k→a i=0
  · exact .inl hz
  · have hex:∃i,i<k∧a i≠0:=by
      apply Classical.byContradiction;intro hn
      exact hz fun i hi=>Classical.byContradiction fun h=>hn ⟨i,hi,h⟩
    have hmin:∃j,j<k∧a j≠0∧∀i,i<j→a i=0:=by
      obtain ⟨i,hi,ha⟩:=hex
      induction i using Nat.strongRecOn with
      | _ i ih=>
        by_cases hk:∃x,x<i∧a x≠0
        · obtain ⟨x,hx,hxa⟩:=hk;exact ih x hx (by omega) hxa
        · exact ⟨i,hi,ha,fun x hx=>Classical.byContradiction fun h=>hk ⟨x,hx,h⟩⟩
    obtain ⟨j,hj,hja,hjm⟩:=hmin;obtain ⟨g1,g2,g3,_⟩:=h j hj;have hval:v (P j)=a j*M j (P j):=by
      rw [hv _ g1];refine cH hj fun i hi hne=> ?_
      rcases Nat.lt_or_ge i j with hlt | hge
      · rw [hjm i hlt,Int.zero_mul]
      · obtain ⟨_,_,k3,k4⟩:=h i hi
        rw [k3 (P j) (k4 j (by omega)).1,Int.mul_zero]
    refine .inr ⟨j,hj,fun x hx=> ?_,?_,⟨a j,by rw [hval,Int.mul_comm]⟩⟩
    · rw [hv x (by omega)]
      refine bY fun i hi=> ?_
      rcases Nat.lt_or_ge i j with hlt | hge
      · rw [hjm i hlt,Int.zero_mul]
      · obtain ⟨_,_,k3,k4⟩:=h i hi
        by_cases e:i=j
        · subst e;rw [k3 x hx,Int.mul_zero]
        · have:=(k4 j (by omega)).1
          rw [k3 x (by omega),Int.mul_zero]
    · rw [hval];intro h0
      rcases Int.mul_eq_zero.1 h0 with h1 | h1
      · exact hja h1
      · omega
theorem dP.inl {k c:Nat} {M:Nat→Nat→Int} {P:Nat→Nat} (h:dP k c M P) {v:Nat→Int} (hv:et k c M v):
    (∀j,j<c→v j=0)∨∃j,j<k∧(∀x,x<P j→v x=0)∧v (P j)≠0∧M j (P j)∣v (P j):=by
  obtain ⟨a,hv⟩:=hv;rcases h.lead hv with h1 | h1
  · exact .inl fun j hj=>by rw [hv j hj];exact bY fun i hi=>by rw [h1 i hi,Int.zero_mul]
  · exact .inr h1
theorem dP.inc {k c:Nat} {M:Nat→Nat→Int} {P:Nat→Nat} (h:dP k c M P) {i j:Nat} (hi:i<k) (hj:j<k) (e:P i=P j):i=j:=by
  rcases Nat.lt_trichotomy i j with h1 | h1 | h1
  · have:=((h j hj).2.2.2 i h1).1;omega
  · exact h1
  · have:=((h i hi).2.2.2 j h1).1;omega
theorem dP.sub {k k' c:Nat} {M M':Nat→Nat→Int} {P P':Nat→Nat} (h:dP k c M P) (h':dP k' c M' P') (hs:∀v,et k c M v→et k' c M' v) {i:Nat} (hi:i<k):
    ∃j,j<k'∧P' j=P i∧M' j (P i)∣M i (P i):=by
  obtain ⟨g1,g2,g3,_⟩:=h i hi;rcases h'.inl (hs _ (et.row (M:=M) hi)) with h1 | ⟨j,hj,h1,h2,h3⟩
  · have:=h1 _ g1;omega
  · have e:P' j=P i:=by
      rcases Nat.lt_trichotomy (P' j) (P i) with h4 | h4 | h4
      · exact absurd (g3 _ h4) h2
      · exact h4
      · have:=h1 _ h4;omega
    exact ⟨j,hj,e,by rw [←e];exact h3⟩
theorem dP.same {k k' c:Nat} {M M':Nat→Nat→Int} {P P':Nat→Nat} (h:dP k c M P) (h':dP k' c M' P') (hs:∀v,et k c M v→et k' c M' v) (hs':∀v,et k' c M' v→et k c M v):
    ∀n,∀i,i<n→i<k→i<k'∧P' i=P i∧M' i (P i)=M i (P i)
  | 0,i,hn,_=>by omega
  | n + 1,i,hn,hi=>by
    by_cases e:i<n
    · exact dP.same h h' hs hs' n i e hi
    · have ih:=dP.same h h' hs hs' n
      obtain ⟨j,hj,hP,hd⟩:=h.sub h' hs hi;obtain ⟨i2,hi2,hP2,hd2⟩:=h'.sub h hs' hj;have e2:i2=i:=h.inc hi2 hi (hP2.trans hP);subst e2;have hij:i2≤j:=by
        rcases Nat.lt_or_ge j i2 with h1 | h1
        · obtain ⟨_,h3,_⟩:=ih j (by omega) (by omega)
          have:=h.inc (i:=j) (j:=i2) (by omega) hi (by rw [←h3];exact hP);omega
        · exact h1
      have hji:j≤i2:=by
        rcases Nat.lt_or_ge i2 j with h1 | h1
        ·
          obtain ⟨m,hm,hPm,_⟩:=h'.sub h hs' (i:=i2) (by omega);have h3:=((h' j hj).2.2.2 i2 h1).1;have h4:m<i2:=by
            rcases Nat.lt_trichotomy m i2 with h5 | h5 | h5
            · exact h5
            · subst h5;omega
            · have:=((h m hm).2.2.2 i2 h5).1;omega
          obtain ⟨h6,h7,_⟩:=ih m (by omega) hm;have:=h'.inc (i:=m) (j:=i2) h6 (by omega) (by omega);omega
        · exact h1
      have e3:j=i2:=by omega
      subst e3;refine ⟨hj,hP,?_⟩;have p1:=(h j hi).2.1;have p2:=(h' j hj).2.1;rw [hP] at p2 hd2;exact Int.dvd_antisymm (by omega) (by omega) hd hd2
theorem dP.unique {k k' c:Nat} {M M':Nat→Nat→Int} {P P':Nat→Nat} (h:dP k c M P) (h':dP k' c M' P') (hs:∀v,et k c M v↔et k' c M' v):k=k'∧∀i j,i<k→j<c→M i j=M' i j:=by
  have h1:=fun i hi=>dP.same h h' (fun v=>(hs v).1) (fun v=>(hs v).2) (i + 1) i (by omega) hi
  have h2:=fun i hi=>dP.same h' h (fun v=>(hs v).2) (fun v=>(hs v).1) (i + 1) i (by omega) hi
  have hk:k=k':=by
    rcases Nat.lt_trichotomy k k' with h3 | h3 | h3
    · have:=(h2 k h3).1;omega
    · exact h3
    · have:=(h1 k' h3).1;omega
  refine ⟨hk,fun i j hi hj=> ?_⟩;have hrow:et k c M (fun j=>M i j - M' i j):=et.sub (et.row hi) ((hs _).2 (et.row (h1 i hi).1));rcases h.inl hrow with h3 | ⟨m,hm,h3,h4,h5⟩
  · have:=h3 j hj;omega
  · exfalso
    obtain ⟨a1,a2,a3⟩:=h1 i hi;obtain ⟨b1,b2,b3⟩:=h1 m hm;obtain ⟨g1,g2,g3,g4⟩:=h i hi;obtain ⟨f1,f2,f3,f4⟩:=h m hm;have hmi:i<m:=by
      rcases Nat.lt_trichotomy i m with e | e | e
      · exact e
      · subst e;exact absurd (by rw [a3];omega) h4
      · have e1:=(g4 m e).1
        have e2:=g3 _ e1;have e3:=(h' i a1).2.2.1 (P m) (by omega);exact absurd (by rw [e2,e3];rfl) h4
    have c1:=(f4 i hmi).2;have c2:=((h' m b1).2.2.2 i hmi).2;rw [b2,b3] at c2;obtain ⟨t,ht⟩:=h5;have c3:(M i (P m) - M' i (P m)).natAbs<(M m (P m)).natAbs:=by omega
    have c4:(M m (P m)).natAbs≤(M i (P m) - M' i (P m)).natAbs:=by
      rw [ht,Int.natAbs_mul];refine Nat.le_mul_of_pos_right _ ?_;rcases Nat.eq_zero_or_pos t.natAbs with h0 | h0
      · have:t=0:=by omega
        subst this;exact absurd (by rw [ht,Int.mul_zero]) h4
      · exact h0
    omega
theorem je.toP {r k c:Nat} {M:Nat→Nat→Int} (h:je r k c M):(∃P,dP k c M P)∧∀i,k≤i→i<r→∀j,j<c→M i j=0:=by
  obtain ⟨P,h1,h2⟩:=h;exact ⟨⟨P,h1⟩,h2⟩
theorem fN {r c k:Nat} {M0:Nat→Nat→Int} {S:WS} (hl:Lin r c M0 S) (hk:k≤r) (he:je r k c S.M) {v:Nat→Int}:et r c M0 v↔et k c S.M v:=
  hl.lat.trans (et.cut hk he.toP.2)
def Ker (r c:Nat) (M0:Nat→Nat→Int) (u:Nat→Int):Prop:=∀j,j<c→aq r (fun i=>u i*M0 i j)=0
theorem mN {r c k:Nat} {M0:Nat→Nat→Int} {S:WS} (hl:Lin r c M0 S) (hk:k≤r) (he:je r k c S.M) {u:Nat→Int}:Ker r c M0 u↔et (r - k) r (fun i=>S.U (k + i)) u:=by
  obtain ⟨⟨P,hP⟩,hz⟩:=he.toP
  constructor
  · intro hu
    have hcoord:∀j,j<r→u j=aq r (fun i=>aq r (fun x=>u x*S.V x i)*S.U i j):=fun j hj=>by
      rw [←cL];have h1:aq r (fun i=>u i*cg r S.V S.U i j)=aq r (fun i=>u i*ca i j):=aw fun i hi=>by rw [hl.vu i j hi hj]
      rw [h1,cH hj fun x _ hne=>by simp [ca,hne]];simp [ca]
    have hzero:∀j,j<c→aq k (fun i=>aq r (fun x=>u x*S.V x i)*S.M i j)=0:=fun j hj=>by
      have h1:aq r (fun i=>u i*cg r S.V S.M i j)=0:=by rw [←hu j hj];exact aw fun i hi=>by rw [hl.back hi hj]
      rw [cL,eM hk fun i h2 h3=>by rw [hz i h2 h3 j hj,Int.mul_zero]] at h1;exact h1
    have hc:∀i,i<k→aq r (fun x=>u x*S.V x i)=0:=by
      rcases hP.lead (a:=fun i=>aq r (fun x=>u x*S.V x i)) (v:=fun _=>0) (fun j hj=>(hzero j hj).symm) with h1 | ⟨_,_,_,h2,_⟩
      · exact h1
      · exact absurd rfl h2
    refine ⟨fun i=>aq r (fun x=>u x*S.V x (k + i)),fun j hj=> ?_⟩;have h5:=kw (fun i=>aq r (fun x=>u x*S.V x i)*S.U i j) k (r - k);rw [show k + (r - k)=r by omega] at h5;rw [hcoord j hj,h5,bY fun i hi=>by rw [hc i hi,Int.zero_mul],Int.zero_add]
  · rintro ⟨a,h⟩ j hj
    have h1:aq r (fun i=>u i*M0 i j)=aq r (fun i=>aq (r - k) (fun x=>a x*S.U (k + x) i)*M0 i j):=aw fun i hi=>by rw [h i hi]
    rw [h1];have h2:=(cL (r - k) r a (fun x=>S.U (k + x)) M0 j).symm;rw [h2];refine bY fun i hi=> ?_
    have h3:cg r (fun x=>S.U (k + x)) M0 i j=S.M (k + i) j:=(hl.eq (k + i) j (by omega) hj).symm;rw [h3,hz (k + i) (by omega) (by omega) j hj,Int.mul_zero]
theorem Ker.congr {r c:Nat} {M M':Nat→Nat→Int} (he:∀i j,i<r→j<c→M i j=M' i j) {u:Nat→Int}:Ker r c M u↔Ker r c M' u:=by
  constructor<;>intro h j hj
  · rw [←h j hj];exact aw fun i hi=>by rw [he i j hi hj]
  · rw [←h j hj];exact aw fun i hi=>by rw [he i j hi hj]
theorem en.lat {r c e0 k:Nat} {M0 M:Nat→Nat→Int} (h:en r c e0 M0 k M):(∃P,dP k r M P)∧∀u,et k r M u↔Ker r c M0 u:=by
  obtain ⟨k1,S1,S2,h1,h2,rfl⟩:=h;exact ⟨h2.ech.toP.1,fun u=>(fN h2.lin h2.kr h2.ech).symm.trans (mN h1.lin h1.kr h1.ech).symm⟩
theorem mh.lat {r c e0 k:Nat} {M0 M:Nat→Nat→Int} (h:mh r c e0 M0 k M):(∃P,dP k r M P)∧∀u,et k r M u↔Ker r c M0 u:=by
  obtain ⟨k1,S1,S2,h1,h2,rfl⟩:=h;exact ⟨h2.ech.toP.1,fun u=>(fN h2.lin h2.kr h2.ech).symm.trans (mN h1.lin h1.kr h1.ech).symm⟩
end Go.TL
namespace Go.TL
set_option linter.unusedVariables false
theorem kz (z:Int):z.sign≤0↔z≤0:=by
  rcases Int.lt_trichotomy z 0 with h | h | h
  · rw [Int.sign_eq_neg_one_of_neg h];omega
  · subst h;simp
  · rw [Int.sign_eq_one_of_pos h];omega
theorem iQ (a b:Int):0≤bS a b↔b≤a:=by unfold bS;split<;>(try split)<;>omega
def lastP (M:Nat→Nat→Int) (c:Nat):Nat→Int
  | 0=> -1
  | i + 1=>if piv (M i) c<0 then (c:Int) else piv (M i) c
def oW (M:Nat→Nat→Int) (c i:Nat):Prop:=
  piv (M i) c<0∨(lastP M c i<piv (M i) c∧0<M i (piv (M i) c).toNat∧∀k,k<i→0≤M k (piv (M i) c).toNat∧M k (piv (M i) c).toNat<M i (piv (M i) c).toNat)
def rh (r c:Nat) (M:Nat→Nat→Int):Prop:=∀i,i<r→oW M c i
instance (M:Nat→Nat→Int) (c i:Nat):Decidable (oW M c i):=inferInstanceAs (Decidable (_∨_))
instance (r c:Nat) (M:Nat→Nat→Int):Decidable (rh r c M):=inferInstanceAs (Decidable (∀i,i<r→oW M c i))
theorem lW {M:Nat→Nat→Int} {c i:Nat} (h:piv (M i) c<0):((c:Nat):Int)=lastP M c (i + 1):=by simp only [lastP];rw [if_pos h]
theorem lV {M:Nat→Nat→Int} {c i:Nat} (h:¬piv (M i) c<0):piv (M i) c=lastP M c (i + 1):=by simp only [lastP];rw [if_neg h]
theorem mG {z:Nat→Int} {n:Nat} (h:¬piv z n<0):(piv z n).toNat<n∧((piv z n).toNat:Int)=piv z n∧z (piv z n).toNat≠0∧∀j,j<(piv z n).toNat→z j=0:=by
  obtain ⟨i,h1,h2,h3,h4⟩:=lL (p:=gK) (z:=z) (n:=n) (by unfold piv at h;omega);have h5:piv z n=(i:Int):=h2;rw [h5,Int.toNat_natCast];exact ⟨h1,rfl,h3,fun j hj=>Classical.byContradiction fun e=>h4 j hj e⟩
theorem mF {z:Nat→Int} {n p:Nat} (hp:p<n) (hz:z p≠0) (h0:∀j,j<p→z j=0):piv z n=(p:Int):=
  fH (p:=gK) (iH (p:=gK) fun i hi=>by simp [gK,h0 i hi]) hz hp
theorem yq {z:Nat→Int} {n:Nat} (h0:∀j,j<n→z j=0):piv z n= -1:=iH (p:=gK) fun i hi=>by simp [gK,h0 i hi]
theorem tB {z:Nat→Int} {n:Nat} (h:piv z n<0):∀j,j<n→z j=0:=by
  intro j hj;have h1:=(eX (p:=gK) (z:=z) n).2;have h2:dc gK z n= -1:=by unfold piv at h;omega
  exact Classical.byContradiction fun e=>fq h2 j hj e
theorem je.lastP {r k c:Nat} {M:Nat→Nat→Int} {P:Nat→Nat} (h1:∀i,i<k→P i<c∧0<M i (P i)∧(∀j,j<P i→M i j=0)∧∀n,n<i→P n<P i∧0≤M n (P i)∧M n (P i)<M i (P i)):
    ∀{i:Nat},i≤k→lastP M c i=if i=0 then -1 else ((P (i - 1):Nat):Int)
  | 0,_=>rfl
  | i + 1,hi=>by
    obtain ⟨g1,g2,g3,_⟩:=h1 i (by omega);have hp:piv (M i) c=(P i:Int):=mF g1 (by omega) g3;simp only [Go.TL.lastP];rw [if_neg (by rw [hp];omega),hp,if_neg (by omega)];simp
theorem dP.isH {r k c:Nat} {M:Nat→Nat→Int} {P:Nat→Nat} (h:dP k c M P) (h2:∀a,k≤a→a<r→∀j,j<c→M a j=0):rh r c M:=by
  intro i hi;rcases Nat.lt_or_ge i k with hk | hk
  · obtain ⟨g1,g2,g3,g4⟩:=h i hk
    have hp:piv (M i) c=(P i:Int):=mF g1 (by omega) g3;refine .inr ⟨?_,?_,?_⟩
    · rw [hp,je.lastP (r:=r) h (by omega)]
      split
      · omega
      · have:=(g4 (i - 1) (by omega)).1;omega
    · rw [hp,Int.toNat_natCast];exact g2
    · intro n hn
      rw [hp,Int.toNat_natCast];exact (g4 n hn).2
  · left;rw [yq (h2 i hk hi)];omega
theorem rh.ech {c:Nat} {M:Nat→Nat→Int}:∀{r:Nat},rh r c M→∃k P,k≤r∧dP k c M P∧(∀a,k≤a→a<r→∀j,j<c→M a j=0)∧(k<r→lastP M c r=c)∧(0<k→k=r→lastP M c r=(P (k - 1):Nat))
  | 0,_=>⟨0,fun _=>0,Nat.le_refl _,fun i hi=>absurd hi (by omega),fun a _ ha=>absurd ha (by omega),fun h=>absurd h (by omega),fun h=>absurd h (by omega)⟩
  | r + 1,h=>by
    obtain ⟨k,P,hk,hE,hz,hl,hl2⟩:=rh.ech (r:=r) fun i hi=>h i (by omega)
    rcases h r (by omega) with hr | ⟨g1,g2,g3⟩
    · refine ⟨k,P,by omega,hE,fun a h1 h2=> ?_,fun _=>(lW hr).symm,fun _ e=>absurd e (by omega)⟩
      rcases Nat.lt_or_ge a r with e | e
      · exact hz a h1 e
      · obtain rfl:a=r:=by omega
        exact tB hr
    · have hnn:¬piv (M r) c<0:=by
        intro hn;have h1:=(eX (p:=gK) (z:=M r) c).2;have h2:dc gK (M r) c= -1:=by unfold piv at hn;omega
        have h3:piv (M r) c= -1:=h2;have h4:(-1:Int)≤lastP M c r:=by
          cases r with
          | zero=>simp [lastP]
          | succ r=>simp only [lastP];have:=(eX (p:=gK) (z:=M r) c).2;split<;>(unfold piv at*;omega)
        omega
      obtain ⟨a1,a2,a3,a4⟩:=mG hnn;have hkr:k=r:=by
        rcases Nat.lt_or_ge k r with e | e
        · have:=hl e;omega
        · omega
      subst hkr;refine ⟨k + 1,fun i=>if i=k then (piv (M k) c).toNat else P i,by omega,?_,fun a h1 h2=>absurd h2 (by omega),fun h=>absurd h (by omega),fun _ _=> ?_⟩
      · intro i hi
        rcases Nat.lt_or_ge i k with e | e
        · obtain ⟨b1,b2,b3,b4⟩:=hE i e
          simp only [if_neg (show ¬i=k by omega)];exact ⟨b1,b2,b3,fun n hn=>by simp only [if_neg (show ¬n=k by omega)];exact b4 n hn⟩
        · obtain rfl:i=k:=by omega
          simp only [if_pos];refine ⟨a1,g2,a4,fun n hn=> ?_⟩;simp only [if_neg (show ¬n=i by omega)];refine ⟨?_,g3 n hn⟩;have hl3:=hl2 (by omega) rfl;have:∀m,m<i→P m≤P (i - 1):=by
            intro m hm;rcases Nat.lt_or_ge m (i - 1) with e | e
            · exact Nat.le_of_lt ((hE (i - 1) (by omega)).2.2.2 m e).1
            · obtain rfl:m=i - 1:=by omega
              exact Nat.le_refl _
          have:=this n hn;omega
      · rw [←lV hnn,←a2];simp
end Go.TL
namespace Go.TL
set_option linter.unusedVariables false
def kF (M:Nat→Nat→Int) (c:Nat) (R:Nat→Int) (i:Nat):Int:=if piv (M i) c<0 then 0 else R (piv (M i) c).toNat/M i (piv (M i) c).toNat
def dD (M:Nat→Nat→Int) (c:Nat) (z:Nat→Int):Nat→Nat→Int
  | 0=>z
  | i + 1=>fun j=>dD M c z i j - kF M c (dD M c z i) i*M i j
def rq (M:Nat→Nat→Int) (c:Nat) (z:Nat→Int) (i:Nat):Int:=kF M c (dD M c z i) i
theorem tp {M:Nat→Nat→Int} {c i:Nat} {R:Nat→Int} (h:piv (M i) c<0):kF M c R i=0:=if_pos h
theorem nO {M:Nat→Nat→Int} {c i:Nat} {R:Nat→Int} (h:¬piv (M i) c<0):kF M c R i=R (piv (M i) c).toNat/M i (piv (M i) c).toNat:=if_neg h
def gf (R R':Nat→Int) (j:Nat):Nat→Int:=fun c=>if c<j then R' c else R c
theorem po (R R':Nat→Int):gf R R' 0=R:=by funext c;simp [gf]
theorem pp (R R':Nat→Int) (j:Nat):gf R R' j j=R j:=by simp [gf]
theorem rv (R R':Nat→Int) {j c:Nat} (h:c<j):gf R R' j c=R' c:=by simp [gf,h]
theorem ru {R R':Nat→Int} {j:Nat} {q:Int} (hq:q=R' j):ki (gf R R' j) j q=gf R R' (j + 1):=by
  funext c
  simp only [ki,gf]
  by_cases e:c=j
  · subst e;rw [if_pos rfl,if_pos (by omega),hq]
  · rw [if_neg e]
    by_cases h:c<j
    · rw [if_pos h,if_pos (by omega)]
    · rw [if_neg h,if_neg (by omega)]
theorem mw {M:Nat→Nat→Int} {c i e:Nat} {R:Nat→Int} (hR:∀j,j<c→(R j).natAbs<2^e):(kF M c R i).natAbs<2^e:=by
  unfold kF
  split
  · exact Nat.two_pow_pos e
  · rename_i h
    exact Nat.lt_of_le_of_lt (Int.natAbs_ediv_le_natAbs _ _) (hR _ (mG h).1)
theorem mv {M:Nat→Nat→Int} {r c bm bz:Nat} {z:Nat→Int} (hM:∀i j,i<r→j<c→(M i j).natAbs<2^bm) (hz:∀j,j<c→(z j).natAbs<2^bz):
    ∀{i:Nat},i≤r→∀j,j<c→(dD M c z i j).natAbs<2^(bz + i*(bm + 1))
  | 0,_=>by rw [Nat.zero_mul,Nat.add_zero];exact hz
  | i + 1,hi=>by
    intro j hj;have ih:=mv hM hz (i:=i) (by omega);have h1:=ih j hj;have h2:=mw (i:=i) (M:=M) ih;have h3:=hM i j (by omega) hj;simp only [dD];have h4:(kF M c (dD M c z i) i*M i j).natAbs<2^(bz + i*(bm + 1))*2^bm:=by
      rw [Int.natAbs_mul];exact Nat.mul_lt_mul'' h2 h3
    have h5:2^(bz + (i + 1)*(bm + 1))=2*(2^(bz + i*(bm + 1))*2^bm):=by
      rw [←Nat.pow_add,Nat.mul_comm 2,←Nat.pow_succ];congr 1;rw [Nat.add_mul];omega
    have h6:2^(bz + i*(bm + 1))≤2^(bz + i*(bm + 1))*2^bm:=Nat.le_mul_of_pos_right _ (Nat.two_pow_pos _);rw [h5];omega
end Go.TL
namespace Go.TL
set_option linter.unusedVariables false
def oH (r c:Nat) (M0:Nat→Nat→Int) (v:Nat→Int):Prop:=∀u:Nat→Int,(∀i,i<r→aq c (fun j=>u j*M0 i j)=0)→aq c (fun j=>v j*u j)=0
theorem eu (u v:Nat→Int) (n:Nat):aq n (fun j=>u j*v j)=aq n (fun j=>v j*u j):=aw fun _ _=>Int.mul_comm _ _
theorem jA {r c k k1:Nat} {M0 K1 M:Nat→Nat→Int} (h1:∀u,et k1 c K1 u↔Ker c r (jJ M0) u) (h2:∀v,et k c M v↔Ker c k1 (jJ K1) v) (v:Nat→Int):et k c M v↔oH r c M0 v:=by
  rw [h2]
  constructor
  · intro hk u hu
    obtain ⟨a,ha⟩:=(h1 u).2 fun j hj=>hu j hj
    have e1:aq c (fun j=>v j*u j)=aq c (fun j=>u j*v j):=eu _ _ _;have e2:aq c (fun j=>u j*v j)=aq c (fun j=>aq k1 (fun x=>a x*K1 x j)*v j):=aw fun j hj=>by rw [ha j hj]
    have e3:aq c (fun j=>aq k1 (fun x=>a x*K1 x j)*v j)=aq k1 (fun x=>a x*aq c (fun j=>K1 x j*v j)):=(cL k1 c a K1 (fun j _=>v j) 0).symm;rw [e1,e2,e3];refine bY fun x hx=> ?_
    have e4:aq c (fun j=>K1 x j*v j)=aq c (fun j=>v j*jJ K1 j x):=eu _ _ _;rw [e4,hk x hx,Int.mul_zero]
  · intro hs x hx
    exact hs (K1 x) fun i hi=>(h1 (K1 x)).1 (et.row hx) i hi
theorem iV.lat {r c e0 k:Nat} {M0 M:Nat→Nat→Int} (h:iV r c e0 M0 k M):(∃P,dP k c M P)∧∀v,et k c M v↔oH r c M0 v:=by
  obtain ⟨k1,K1,a1,a2⟩:=h;exact ⟨a2.lat.1,jA a1.lat.2 a2.lat.2⟩
theorem A0.lat {r c e0 e1 k:Nat} {M0 M:Nat→Nat→Int} (h:A0 r c e0 e1 M0 k M):(∃P,dP k c M P)∧∀v,et k c M v↔oH r c M0 v:=by
  obtain ⟨k1,K1,a1,a2⟩:=h;exact ⟨a2.lat.1,jA a1.lat.2 a2.lat.2⟩
section
variable {r c k:Nat} {M0:Nat→Nat→Int} {S:WS}
theorem ms (hl:Lin c r (jJ M0) S) (hk:k≤c) (he:je c k r S.M) {i j:Nat} (hi:i<r) (hj:j<c):M0 i j=aq k (fun x=>S.M x i*S.V j x):=by
  have h1:M0 i j=cg c S.V S.M j i:=hl.back hj hi;rw [h1]
  unfold cg
  rw [eM hk fun x h2 h3=>by rw [he.toP.2 x h2 h3 i hi,Int.mul_zero]];exact eu _ _ _
theorem xA (hl:Lin c r (jJ M0) S) (v:Nat→Int) {j:Nat} (hj:j<c):v j=aq c (fun x=>aq c (fun y=>S.U x y*v y)*S.V j x):=by
  have h1:aq c (fun x=>aq c (fun y=>S.U x y*v y)*S.V j x)=aq c (fun x=>S.V j x*aq c (fun y=>S.U x y*v y)):=eu _ _ _;have h2:aq c (fun x=>S.V j x*aq c (fun y=>S.U x y*v y))=aq c (fun y=>aq c (fun x=>S.V j x*S.U x y)*v y):=cL c c (S.V j) S.U (fun y _=>v y) 0;have h3:aq c (fun y=>aq c (fun x=>S.V j x*S.U x y)*v y)=aq c (fun y=>ca j y*v y):=aw fun y hy=>by rw [←hl.vu j y hj hy];rfl
  rw [h1,h2,h3,cH hj fun x _ hne=>by simp [ca,Ne.symm hne]];simp [ca]
theorem nL (hl:Lin c r (jJ M0) S) (hk:k≤c) (he:je c k r S.M) (v:Nat→Int):oH r c M0 v↔et k c (fun x j=>S.V j x) v:=by
  constructor
  · intro hs
    have h0:∀x,k≤x→x<c→aq c (fun y=>S.U x y*v y)=0:=fun x h1 h2=>by
      have e1:aq c (fun y=>S.U x y*v y)=aq c (fun y=>v y*S.U x y):=eu _ _ _;rw [e1];refine hs (S.U x) fun i hi=> ?_
      have e2:aq c (fun j=>S.U x j*M0 i j)=S.M x i:=(hl.eq x i h2 hi).symm;rw [e2,he.toP.2 x h1 h2 i hi]
    refine ⟨fun x=>aq c (fun y=>S.U x y*v y),fun j hj=> ?_⟩;have h2:=xA hl v hj;rw [eM hk fun x h1 h2=>by rw [h0 x h1 h2,Int.zero_mul]] at h2;exact h2
  · rintro ⟨a,ha⟩ u hu
    obtain ⟨b,hb⟩:=(mN hl hk he (u:=u)).1 fun i hi=>hu i hi
    have e1:aq c (fun j=>v j*u j)=aq c (fun j=>aq k (fun x=>a x*S.V j x)*u j):=aw fun j hj=>by rw [ha j hj]
    have e2:aq c (fun j=>aq k (fun x=>a x*S.V j x)*u j)=aq k (fun x=>a x*aq c (fun j=>S.V j x*u j)):=(cL k c a (fun x j=>S.V j x) (fun j _=>u j) 0).symm;rw [e1,e2];refine bY fun x hx=> ?_
    have e3:aq c (fun j=>S.V j x*u j)=aq c (fun j=>aq (c - k) (fun y=>b y*S.U (k + y) j)*S.V j x):=by
      rw [eu];exact aw fun j hj=>by rw [hb j hj]
    have e4:aq c (fun j=>aq (c - k) (fun y=>b y*S.U (k + y) j)*S.V j x)=aq (c - k) (fun y=>b y*aq c (fun j=>S.U (k + y) j*S.V j x)):=(cL (c - k) c b (fun y=>S.U (k + y)) (fun j _=>S.V j x) 0).symm;rw [e3,e4,bY fun y hy=> ?_,Int.mul_zero];have e5:aq c (fun j=>S.U (k + y) j*S.V j x)=ca (k + y) x:=hl.uv (k + y) x (by omega) (by omega);rw [e5];have:ca (k + y) x=0:=by unfold ca;rw [if_neg (by omega)]
    rw [this,Int.mul_zero]
theorem ma (hl:Lin c r (jJ M0) S) {a:Nat→Int} {n:Nat} (hn:n≤c) (h:∀j,j<c→aq n (fun x=>a x*S.V j x)=0) {x:Nat} (hx:x<n):a x=0:=by
  have e1:aq c (fun j=>S.U x j*aq n (fun y=>a y*S.V j y))=0:=bY fun j hj=>by rw [h j hj,Int.mul_zero]
  have e2:aq c (fun j=>S.U x j*aq n (fun y=>a y*S.V j y))=aq n (fun y=>aq c (fun j=>S.U x j*S.V j y)*a y):=by
    rw [←cL c n (S.U x) S.V (fun y _=>a y) 0];exact aw fun j _=>by rw [eu];rfl
  have e3:aq n (fun y=>aq c (fun j=>S.U x j*S.V j y)*a y)=aq n (fun y=>ca x y*a y):=aw fun y hy=>by rw [←hl.uv x y (by omega) (by omega)];rfl
  rw [e2,e3,cH hx fun y _ hne=>by simp [ca,Ne.symm hne]] at e1
  simpa [ca] using e1
end
end Go.TL
namespace Go.TL
set_option linter.unusedVariables false
theorem mU (n:Nat):dP n n ca (fun i=>i):=fun i hi=>by
  show i<n∧0<ca i i∧(∀j,j<i→ca i j=0)∧∀m,m<i→m<i∧0≤ca m i∧ca m i<ca i i;refine ⟨hi,by simp [ca],fun j hj=>by unfold ca;rw [if_neg (by omega)],fun m hm=>⟨hm,?_,?_⟩⟩
  · unfold ca;rw [if_neg (by omega)];omega
  · unfold ca;rw [if_neg (by omega),if_pos rfl];omega
theorem pF {n:Nat} (v:Nat→Int):et n n ca v:=⟨v,fun j hj=>by
  rw [cH hj fun x _ hne=>by simp [ca,hne]];simp [ca]⟩
theorem uD {r k n:Nat} {M0:Nat→Nat→Int} {S:WS} (hl:Lin r n M0 S) (hk:k≤r) (he:je r k n S.M) (hall:∀v,et r n M0 v):k=n∧∀i j,i<k→j<n→S.M i j=ca i j:=by
  obtain ⟨P,hP⟩:=he.toP.1;exact hP.unique (mU n) fun v=>⟨fun _=>pF v,fun _=>(fN hl hk he).1 (hall v)⟩
section
variable {r c k:Nat} {M0:Nat→Nat→Int} {S:WS}
theorem qM (hk:k≤c) (hkr:k≤r) (he:je c k r S.M) (hid:∀i j,i<c→j<r→S.M i j=ca i j) (hrc:r≤c):k=r:=by
  rcases Nat.lt_or_ge k r with h | h
  · have h1:=he.toP.2 k (Nat.le_refl _) (by omega) k h
    rw [hid k k (by omega) h] at h1;simp [ca] at h1
  · omega
theorem qL (hl:Lin c r (jJ M0) S) (hk:k≤c) (hkr:k≤r) (he:je c k r S.M) (hid:∀i j,i<c→j<r→S.M i j=ca i j) (hrc:r≤c) {i j:Nat} (hi:i<r) (hj:j<c):M0 i j=S.V j i:=by
  have hkr2:=qM hk hkr he hid hrc;subst hkr2;rw [ms hl hk he hi hj,cH hi fun x hx hne=>by rw [hid x i (by omega) hi];simp [ca,hne]];rw [hid i i (by omega) hi];simp [ca]
theorem pK {e0 k4:Nat} {S4:WS} (hl:Lin c r (jJ M0) S) (hk:k≤c) (hkr:k≤r) (he:je c k r S.M) (hid:∀i j,i<c→j<r→S.M i j=ca i j) (hrc:r≤c)
    (h4:HermR (r + (c - r)) c e0 (fe r M0 (fun a e=>S.V e (r + a))) k4 S4):cb (r + (c - r)) c (r + (c - r)) (r + (c - r)) S4.M ca:=by
  have hst:∀i j,i<c→j<c→fe r M0 (fun a e=>S.V e (r + a)) i j=S.V j i:=fun i j hi hj=>by
    unfold fe
    by_cases h:i<r
    · rw [if_pos h];exact qL hl hk hkr he hid hrc h hj
    · rw [if_neg h];show S.V j (r + (i - r))=_;rw [show r + (i - r)=i by omega]
  have hn:r + (c - r)=c:=by omega
  rw [hn] at h4⊢;obtain ⟨g1,g2⟩:=uD h4.lin h4.kr h4.ech fun v=>⟨fun x=>aq c (fun y=>S.U x y*v y),fun j hj=>by
    rw [xA hl v hj];exact aw fun x hx=>by rw [hst x j hx hj]⟩
  exact ⟨rfl,rfl,fun i hi j hj=>g2 i j (by omega) hj⟩
end
end Go.TL
namespace Go.TL
open Go.RowKit Go.Proofs
set_option linter.unusedVariables false
def ng (r c:Nat) (M:Nat→Nat→Int):Prop:=∀v,et r c M v↔oH r c M v
theorem ti {r c k3 k2:Nat} {M M2:Nat→Nat→Int} {S3:WS} (hl:Lin r c M S3) (hk:k3≤r) (he:je r k3 c S3.M) (h2:(∃P,dP k2 c M2 P)∧∀v,et k2 c M2 v↔oH r c M v):cb k3 c k2 c S3.M M2↔ng r c M:=by
  obtain ⟨⟨P2,hP2⟩,h2⟩:=h2;obtain ⟨P,hP⟩:=he.toP.1
  constructor
  · rintro ⟨rfl,_,e⟩ v
    rw [fN hl hk he,←h2 v];exact ⟨fun h=>h.congr fun i j hi hj=>e i hi j hj,fun h=>h.congr fun i j hi hj=>(e i hi j hj).symm⟩
  · intro hq
    obtain ⟨e1,e2⟩:=hP.unique hP2 fun v=>(fN hl hk he).symm.trans ((hq v).trans (h2 v).symm)
    exact ⟨e1,rfl,fun i hi j hj=>e2 i j hi hj⟩
theorem yH {p:Prop} [Decidable p] {sb:Bool} (h:p↔sb=true):Value.bool (decide p)= .bool (decide (sb=true)):=congrArg _ (by by_cases e:p<;>simp [e,←h])
def jF (w:World) (v:Value) (r c e0:Nat) (M0:Nat→Nat→Int) (b:Nat):Prop:=∃k M,en r c e0 M0 k M∧bk w v k r M b
theorem jF.ext {w w':World} {v:Value} {r c e0 b:Nat} {M0:Nat→Nat→Int} (h:jF w v r c e0 M0 b) (hx:aG w w'):jF w' v r c e0 M0 b:=by obtain ⟨k,S,h1,h2⟩:=h;exact ⟨k,S,h1,h2.ext hx⟩
theorem fL (r c e0:Nat) (M0:Nat→Nat→Int) (b:Nat):bI (fun v w=>jF w v r c e0 M0 b):=fun _ _ _ h hx=>h.ext hx
instance (r c e0:Nat) (M0:Nat→Nat→Int) (b:Nat):Nonempty (bI (fun v w=>jF w v r c e0 M0 b)):=⟨fL r c e0 M0 b⟩
def yQ (w:World) (v:Value) (r c e0:Nat) (M:Nat→Nat→Int) (b:Nat):Prop:=∃k S R' C' st s' Mc,Herm c r e0 (jJ M) k S∧v= .tuple #[.agg #[.int .i64 ((R':Nat):Int),.int .i64 ((C':Nat):Int),s'],.int .i64 ((st:Nat):Int)]∧R'≤65536∧C'≤65536∧cN w s' R' C' Mc b∧
  ((((∀i j,i<c→j<r→S.M i j=ca i j)∧r≤c)∧R'=c - r∧C'=c∧st=0∧Mc=fun a e=>S.V e (r + a))∨(¬((∀i j,i<c→j<r→S.M i j=ca i j)∧r≤c)∧R'=0∧C'=0∧st=170))
theorem iM (w:World) (x:Value) (rx cx:Nat) (Mx:Nat→Nat→Int) (btx e0 b:Nat) (hx:bk w x rx cx Mx btx) (h8:cx≤8) (hM:∀i j,i<rx→j<cx→(Mx i j).natAbs≤2^e0) (hb:bB e0 cx≤b) (hb1:1 + e0≤b) (hl:2*b + 4≤be):
    Calls Tryz.prog 10 #[x] w (cd w fun v w'=>yQ w' v rx cx e0 Mx b):=by
  refine (mP w x rx cx Mx btx e0 b hx h8 hM hb hb1 hl).mono fun e w' h=> ?_
  obtain ⟨v,h1,h2,k,S,hH,h3⟩:=h;refine ⟨v,h1,h2,k,S,?_⟩;rcases h3 with ⟨g1,g2,v1,rfl,g3⟩ | ⟨g1,rfl⟩
  · obtain ⟨s',rfl,d1,d2,g4⟩:=g3.form
    exact ⟨_,_,0,s',_,hH,rfl,d1.1,d2,g4,.inl ⟨⟨g1,g2⟩,rfl,rfl,rfl,rfl⟩⟩
  · exact ⟨0,0,170,_,fun _ _=>0,hH,rfl,by decide,by decide,⟨none,0,rfl,Nat.le_refl _,⟨by decide,by decide,by have:be=562949953421312:=rfl;omega⟩,fun h=>by omega⟩,.inr ⟨g1,rfl,rfl,rfl⟩⟩
theorem mO (w:World) (x:Value) (rx cx:Nat) (Mx:Nat→Nat→Int) (btx e0 b:Nat) {sb:Bool} (hx:bk w x rx cx Mx btx) (h8r:rx≤8) (hb0:bB e0 rx≤b) (h8:cx≤8) (hM:∀i j,i<rx→j<cx→(Mx i j).natAbs≤2^e0)
    (hb:bB e0 cx≤b) (hb1:1 + e0≤b) (hb2:bB (eB e0 cx) cx≤b) (hb3:1 + eB e0 cx≤b) (hl:2*b + 4≤be) (hsb:sb=true↔ng rx cx Mx):
    Calls Tryz.prog 16 #[x] w (cd w fun v _=>v= .bool (decide (sb=true))):=by
  refine (ou w x rx cx Mx btx e0 b hx h8r hb0 h8 hM hb hb1 hb2 hb3 hl).mono fun e w' h=> ?_
  obtain ⟨v,h1,h2,k,S,k2,M2,hH,hS,rfl⟩:=h;exact ⟨_,h1,h2,yH ((ti hH.lin hH.kr hH.ech hS.lat).trans hsb.symm)⟩
def B1:Nat:=281474976710000
def E1:Nat:=1000000
theorem fr:∀c,c<5→bR 4 c≤B1∧2 + 4≤B1∧2 + eR 4 c c≤B1∧bR E1 c≤B1∧2 + E1≤B1∧2 + eR E1 c c≤B1∧bB 4 c≤B1∧bB (eB 4 c) c≤B1∧1 + eB 4 c≤B1:=by decide
theorem vP:2*B1 + 300≤be:=by decide
end Go.TL
namespace Go.TL
open Go.RowKit Go.Proofs
set_option linter.unusedVariables false
def E2:Nat:=20000
theorem AT:∀c,c<5→bR E2 c≤B1∧∀k,k<5→gB 4 k≤E2:=by decide
theorem num3b:2*(B1 + 1) + 300≤be∧2 + E2≤B1 + 1∧4 + 1≤B1 + 1∧4≤E2:=by decide
theorem nT {w:World} {x y:Value} {r c R' C' k:Nat} {M Mc:Nat→Nat→Int} {S:WS} (hx:bk w x r c M 4) (hy:bk w y R' C' Mc B1) (h5:c<5) (hMb:∀i j,i<r→j<c→(M i j).natAbs≤2^4) (hH:Herm c r 4 (jJ M) k S)
    (hid:∀i j,i<c→j<r→S.M i j=ca i j) (hrc:r≤c) (hR:R'=c - r) (hC:C'=c) (hMc:Mc=fun a e=>S.V e (r + a)):Calls Tryz.prog 17 #[x,y] w (cd w fun v _=>v= .bool (decide True)):=by
  subst hR;subst hC;subst hMc;have h1:=AT C' h5;have h2:=vP;have hn:r + (C' - r)=C':=by omega
  refine (nS w x r C' M 4 y (C' - r) _ B1 E2 (B1 + 1) hx hy (by omega) hn ?_ num3b.2.2.1 (Nat.le_refl _) (by rw [hn];exact Nat.le_succ_of_le h1.1) num3b.2.1 num3b.1 fun k4 S4 h4=>pK hH.lin hH.kr hH.kc hH.ech hid hrc h4).mono fun _ w' ⟨v,g1,g2,g3⟩=>⟨v,g1,g2,g3⟩
  intro i j hi hj
  unfold fe
  split
  · rename_i h
    exact Nat.le_trans (hMb i j h hj) (Nat.pow_le_pow_right (by decide) num3b.2.2.2)
  · exact Nat.le_trans (hH.bv j (r + (i - r)) hj (by omega)) (Nat.pow_le_pow_right (by decide) (h1.2 k (by have:=hH.kr;omega)))
end Go.TL
namespace Go.TL
set_option linter.unusedVariables false
section
variable {r c k:Nat} {M0:Nat→Nat→Int} {S:WS}
theorem jE (hl:Lin c r (jJ M0) S) (hk:k≤c) (hkr:k≤r) (he:je c k r S.M) (hfree:∀u:Nat→Int,(∀j,j<c→aq r (fun i=>u i*M0 i j)=0)→∀i,i<r→u i=0) (hq:ng r c M0):(∀i j,i<c→j<r→S.M i j=ca i j)∧r≤c:=by
  have hlat:∀v,et r c M0 v↔et k c (fun x j=>S.V j x) v:=fun v=>by rw [←nL hl hk he];exact hq v
  have hB:∀x,∃a:Nat→Int,x<k→∀j,j<c→S.V j x=aq r (fun i=>a i*M0 i j):=fun x=>by
    by_cases hx:x<k
    · obtain ⟨a,ha⟩:=(hlat (fun j=>S.V j x)).2 (et.row (M:=fun x j=>S.V j x) hx)
      exact ⟨a,fun _=>ha⟩
    · exact ⟨fun _=>0,fun h=>absurd h hx⟩
  obtain ⟨b,hb⟩:=Classical.skolem.1 hB;have hTB:∀i j,i<r→j<r→aq k (fun x=>S.M x i*b x j)=ca i j:=fun i j hi hj=>by
    have h1:=hfree (fun y=>aq k (fun x=>S.M x i*b x y) - ca i y) (fun y hy=>by
      have h4:aq r (fun z=>(aq k (fun x=>S.M x i*b x z) - ca i z)*M0 z y)=aq r (fun z=>aq k (fun x=>S.M x i*b x z)*M0 z y) - aq r (fun z=>ca i z*M0 z y):=by
        rw [←fo];exact aw fun z _=>Int.sub_mul _ _ _
      have h5:aq r (fun z=>aq k (fun x=>S.M x i*b x z)*M0 z y)=aq k (fun x=>S.M x i*aq r (fun z=>b x z*M0 z y)):=(cL k r (fun x=>S.M x i) b M0 y).symm;have h6:aq k (fun x=>S.M x i*aq r (fun z=>b x z*M0 z y))=M0 i y:=by
        rw [ms hl hk he hi hy];exact aw fun x hx=>by rw [←hb x hx y hy]
      have h7:aq r (fun z=>ca i z*M0 z y)=M0 i y:=by
        rw [cH hi fun z _ hne=>by simp [ca,Ne.symm hne]];simp [ca]
      rw [h4,h5,h6,h7];omega) j hj
    have h8:aq k (fun x=>S.M x i*b x j) - ca i j=0:=h1;omega
  have hBT:∀x,x<k→aq r (fun i=>b x i*S.M x i)=1:=fun x hx=>by
    have h1:=ma hl (a:=fun y=>aq r (fun i=>b x i*S.M y i) - ca x y) (n:=k) hk (fun j hj=>by
      have h4:aq k (fun y=>(aq r (fun i=>b x i*S.M y i) - ca x y)*S.V j y)=aq k (fun y=>aq r (fun i=>b x i*S.M y i)*S.V j y) - aq k (fun y=>ca x y*S.V j y):=by
        rw [←fo];exact aw fun z _=>Int.sub_mul _ _ _
      have h5:aq k (fun y=>aq r (fun i=>b x i*S.M y i)*S.V j y)=aq r (fun i=>b x i*aq k (fun y=>S.M y i*S.V j y)):=(cL r k (b x) (fun i y=>S.M y i) (fun y _=>S.V j y) 0).symm;have h6:aq r (fun i=>b x i*aq k (fun y=>S.M y i*S.V j y))=S.V j x:=by
        rw [hb x hx j hj];exact aw fun i hi=>by rw [ms hl hk he hi hj]
      have h7:aq k (fun y=>ca x y*S.V j y)=S.V j x:=by
        rw [cH hx fun z _ hne=>by simp [ca,Ne.symm hne]];simp [ca]
      rw [h4,h5,h6,h7];omega) hx
    have h8:aq r (fun i=>b x i*S.M x i) - ca x x=0:=h1;have h9:ca x x=1:=by simp [ca]
    omega
  have hone:∀n,aq n (fun _=>(1:Int))=(n:Int):=fun n=>by
    induction n with
    | zero=>rfl
    | succ n ih=>simp only [aq];rw [ih];omega
  have htr:(r:Int)=(k:Int):=by
    rw [←hone r,←hone k];have h1:aq r (fun _=>(1:Int))=aq r (fun i=>aq k (fun x=>S.M x i*b x i)):=aw fun i hi=>by rw [hTB i i hi hi];simp [ca]
    have h2:aq k (fun _=>(1:Int))=aq k (fun x=>aq r (fun i=>b x i*S.M x i)):=aw fun x hx=>(hBT x hx).symm
    rw [h1,h2,gD];exact aw fun x _=>eu _ _ _
  have hkk:k=r:=by omega
  obtain ⟨P,hP⟩:=he.toP.1;rw [hkk] at hP;have huq:=hP.unique (mU r) fun v=>⟨fun _=>pF v,fun _=>⟨fun x=>aq r (fun i=>b x i*v i),fun j hj=>by
    have h1:aq r (fun x=>aq r (fun i=>b x i*v i)*S.M x j)=aq r (fun x=>S.M x j*aq r (fun i=>b x i*v i)):=eu _ _ _;have h2:aq r (fun x=>S.M x j*aq r (fun i=>b x i*v i))=aq r (fun i=>aq r (fun x=>S.M x j*b x i)*v i):=cL r r (fun x=>S.M x j) b (fun i _=>v i) 0;have h3:aq r (fun i=>aq r (fun x=>S.M x j*b x i)*v i)=aq r (fun i=>ca j i*v i):=aw fun i hi=>by
      have:=hTB j i hj hi;rw [hkk] at this;rw [this]
    rw [h1,h2,h3,cH hj fun x _ hne=>by simp [ca,Ne.symm hne]];simp [ca]⟩⟩
  refine ⟨fun i j hi hj=> ?_,by omega⟩;rcases Nat.lt_or_ge i r with h | h
  · exact huq.2 i j h hj
  · rw [he.toP.2 i (by omega) hi j hj];unfold ca;rw [if_neg (by omega)]
theorem lZ (hl:Lin c r (jJ M0) S) (hk:k≤c) (hkr:k≤r) (he:je c k r S.M) (hid:∀i j,i<c→j<r→S.M i j=ca i j) (hrc:r≤c):
    ng r c M0∧∀u:Nat→Int,(∀j,j<c→aq r (fun i=>u i*M0 i j)=0)→∀i,i<r→u i=0:=by
  have hkr2:=qM hk hkr he hid hrc;subst hkr2;have hrow:=fun {i j:Nat} (hi:i<k) (hj:j<c)=>qL hl hk hkr he hid hrc hi hj
  refine ⟨fun v=> ?_,fun u hu i hi=>ma hl (a:=u) (n:=k) hk (fun j hj=> ?_) hi⟩
  · rw [nL hl hk he]
    exact ⟨fun h=>h.congr fun i j hi hj=>hrow hi hj,fun h=>h.congr fun i j hi hj=>(hrow hi hj).symm⟩
  · rw [←hu j hj];exact aw fun x hx=>by rw [hrow hx hj]
end
def db (a b:Int):Nat→Nat→Int:=fun _ j=>if j=0 then a else b
theorem vD (f:Nat→Int):aq 1 f=f 0:=by simp [aq]
theorem sW (f:Nat→Int):aq 2 f=f 0 + f 1:=by simp [aq]
theorem kS {a b:Int} {v:Nat→Int}:et 1 2 (db a b) v↔∃t:Int,v 0=t*a∧v 1=t*b:=by
  constructor
  · rintro ⟨t,h⟩
    exact ⟨t 0,by rw [h 0 (by decide),vD];rfl,by rw [h 1 (by decide),vD];rfl⟩
  · rintro ⟨t,h0,h1⟩
    refine ⟨fun _=>t,fun j hj=> ?_⟩;rw [vD];rcases (by omega:j=0∨j=1) with rfl | rfl
    · exact h0
    · exact h1
theorem th (v:Nat→Int):oH 1 2 (db 1 2) v↔v 1=2*v 0:=by
  unfold oH
  simp only [sW]
  constructor
  · intro h
    have:=h (fun j=>if j=0 then 2 else -1) (fun i hi=>by simp [db]);simp at this;omega
  · intro h u hu
    have:=hu 0 (by decide);simp [db] at this;rw [h];have e1:u 0= -(u 1*2):=by omega
    rw [e1,Int.mul_neg,←Int.mul_assoc,Int.mul_comm (v 0*u 1) 2,←Int.mul_assoc];omega
theorem mr:ng 1 2 (db 1 2):=fun v=>by
  rw [kS,th]
  constructor
  · rintro ⟨t,h0,h1⟩;omega
  · intro h;exact ⟨v 0,by omega,by omega⟩
theorem tg (v:Nat→Int):oH 1 2 (db 2 4) v↔oH 1 2 (db 1 2) v:=by
  unfold oH
  simp only [sW]
  constructor<;>intro h u hu<;>refine h u fun i hi=> ?_<;>have:=hu i hi<;>simp [db] at this⊢<;>omega
theorem jB:¬ng 1 2 (db 2 4):=fun h=>by
  have h1:=(h (fun j=>if j=0 then 1 else 2)).2 (by rw [tg,th];simp);rw [kS] at h1;obtain ⟨t,h2,_⟩:=h1;simp at h2;omega
theorem wi (u:Nat→Int) (h:∀j,j<2→aq 1 (fun i=>u i*db 1 2 i j)=0):∀i,i<1→u i=0:=fun i hi=>by
  have:=h 0 (by decide);rw [vD] at this;simp [db] at this;rw [show i=0 by omega];exact this
theorem ym (c:Nat) (M:Nat→Nat→Int):ng 0 c M:=fun v=>by
  constructor
  · rintro ⟨a,h⟩ u _
    exact bY fun j hj=>by rw [h j hj];simp [aq]
  · intro h
    refine ⟨fun _=>0,fun j hj=> ?_⟩;have:=h (fun x=>if x=j then 1 else 0) (fun i hi=>by omega);rw [cH hj fun x _ hne=>by simp [hne]] at this
    simpa [aq] using this
theorem lY {a b:Int} (h:0<a):dP 1 2 (db a b) (fun _=>0):=fun i hi=>by
  show 0<2∧0<db a b i 0∧(∀j,j<0→db a b i j=0)∧∀n,n<i→0<0∧0≤db a b n 0∧db a b n 0<db a b i 0;exact ⟨by decide,by simpa [db] using h,fun j hj=>by omega,fun n hn=>by omega⟩
end Go.TL
namespace Go.TL
open Go.RowKit Go.Proofs
set_option linter.unusedVariables false
def f2 (a b:Int):Nat→Int:=fun i=>if i=0 then a else b
def f4 (a b c d:Int):Nat→Int:=fun i=>if i=0 then a else if i=1 then b else if i=2 then c else d
def mW (a b:Int):Nat→Nat→Int:=fun i _=>if i=0 then a else b
def yU (a b c d:Int):Nat→Nat→Int:=fun i j=>if i=0 then (if j=0 then a else b) else (if j=0 then c else d)
theorem lQ {w:World} {g T m:Nat} {a b:Int} (hA:aQ w g T 2 (bt [.int .i64 a,.int .i64 b])):eV .i64 m w (.slice (some ⟨g,0,none⟩) 2 2) 2 (f2 a b):=
  ⟨_,_,rfl,Nat.le_refl _,by decide,fun _=>⟨g,0,rfl,fun i hi=>by
    rw [Nat.zero_add];have:=hA.cell hi;rcases (by omega:i=0∨i=1) with rfl | rfl
    · exact this
    · exact this⟩⟩
theorem Ac {w:World} {g T m:Nat} {a b c d:Int} (hA:aQ w g T 4 (bt [.int .i64 a,.int .i64 b,.int .i64 c,.int .i64 d])):eV .i64 m w (.slice (some ⟨g,0,none⟩) 4 4) 4 (f4 a b c d):=
  ⟨_,_,rfl,Nat.le_refl _,by decide,fun _=>⟨g,0,rfl,fun i hi=>by
    rw [Nat.zero_add];have:=hA.cell hi;rcases (by omega:i=0∨i=1∨i=2∨i=3) with rfl | rfl | rfl | rfl
    · exact this
    · exact this
    · exact this
    · exact this⟩⟩
section
variable {w:World} {l x y:Value} {a b c d:Int}
theorem ge (hl:eV .i64 2 w l 2 (f2 a b)) (ha:a.natAbs<16) (hb:b.natAbs<16):Calls Tryz.prog 28 #[.int .i64 1,.int .i64 2,l] w (cd w fun v w'=>cA w' v w.heap.size 1 2 (db a b) 4):=by
  have hf:∀i,i<2→(f2 a b i).natAbs<16:=fun i _=>by unfold f2;split<;>assumption
  refine (pm w 1 2 l 2 (f2 a b) 4 (by decide) (by decide) hl (by decide) (fun i hi=>by have:=hf i hi;omega) (fun i hi=>hf i hi)).mono fun _ w' ⟨v,g1,g2,g3⟩=>⟨v,g1,g2,cA.congr g3 fun i j hi hj=> ?_⟩
  have:i=0:=by omega
  subst this
  unfold fw f2 db
  rw [if_pos (by omega),show 0*2 + j=j by omega]
theorem tz (hl:eV .i64 2 w l 2 (f2 a b)) (ha:a.natAbs<16) (hb:b.natAbs<16):Calls Tryz.prog 28 #[.int .i64 2,.int .i64 1,l] w (cd w fun v w'=>cA w' v w.heap.size 2 1 (mW a b) 4):=by
  have hf:∀i,i<2→(f2 a b i).natAbs<16:=fun i _=>by unfold f2;split<;>assumption
  refine (pm w 2 1 l 2 (f2 a b) 4 (by decide) (by decide) hl (by decide) (fun i hi=>by have:=hf i hi;omega) (fun i hi=>hf i hi)).mono fun _ w' ⟨v,g1,g2,g3⟩=>⟨v,g1,g2,cA.congr g3 fun i j hi hj=> ?_⟩
  have:j=0:=by omega
  subst this
  unfold fw f2 mW
  rw [if_pos (by omega),show i*1 + 0=i by omega]
theorem tx (hl:eV .i64 2 w l 4 (f4 a b c d)) (ha:a.natAbs<16∧b.natAbs<16) (hb:c.natAbs<16∧d.natAbs<16):Calls Tryz.prog 28 #[.int .i64 2,.int .i64 2,l] w (cd w fun v w'=>cA w' v w.heap.size 2 2 (yU a b c d) 4):=by
  have hf:∀i,i<4→(f4 a b c d i).natAbs<16:=fun i _=>by unfold f4;split<;>(try split)<;>(try split)<;>omega
  refine (pm w 2 2 l 4 (f4 a b c d) 4 (by decide) (by decide) hl (by decide) (fun i hi=>by have:=hf i hi;omega) (fun i hi=>hf i hi)).mono fun _ w' ⟨v,g1,g2,g3⟩=>⟨v,g1,g2,cA.congr g3 fun i j hi hj=> ?_⟩
  unfold fw f4 yU
  rw [if_pos (by omega)];rcases (by omega:i=0∨i=1) with rfl | rfl<;>rcases (by omega:j=0∨j=1) with rfl | rfl<;>rfl
theorem mC {r cc e0 b1 k2 by':Nat} {M N:Nat→Nat→Int} {P:Nat→Nat} (h:jF w x r cc e0 M b1) (hy:bk w y k2 r N by') (hP:dP k2 r N P) (hN:∀u,et k2 r N u↔Ker r cc M u):
    Calls Tryz.prog 11 #[x,y] w (cd w fun v _=>v= .bool (decide True)):=by
  obtain ⟨k,M1,h1,h2⟩:=h;obtain ⟨⟨P1,hP1⟩,h3⟩:=h1.lat;obtain ⟨rfl,e⟩:=hP1.unique hP fun v=>(h3 v).trans (hN v).symm
  exact (gI _ _ _ _ _ _ _ _ _ _ _ h2 hy).mono fun _ w' ⟨v,g1,g2,g3⟩=>⟨v,g1,g2,g3.trans (congrArg _ (decide_eq_true ⟨rfl,rfl,fun i hi j hj=>e i j hi hj⟩))⟩
theorem vK {r cc e0 b1 k2 by':Nat} {M N:Nat→Nat→Int} {P:Nat→Nat} (h:pO w x r cc e0 M b1) (hy:bk w y k2 cc N by') (hP:dP k2 cc N P) (hN:∀v,et k2 cc N v↔oH r cc M v):
    Calls Tryz.prog 11 #[x,y] w (cd w fun v _=>v= .bool (decide True)):=by
  obtain ⟨k,M1,h1,h2⟩:=h;obtain ⟨⟨P1,hP1⟩,h3⟩:=h1.lat;obtain ⟨rfl,e⟩:=hP1.unique hP fun v=>(h3 v).trans (hN v).symm
  exact (gI _ _ _ _ _ _ _ _ _ _ _ h2 hy).mono fun _ w' ⟨v,g1,g2,g3⟩=>⟨v,g1,g2,g3.trans (congrArg _ (decide_eq_true ⟨rfl,rfl,fun i hi j hj=>e i j hi hj⟩))⟩
end
theorem pA (u:Nat→Int):et 1 2 (db 2 (-1)) u↔Ker 2 1 (mW 1 2) u:=by
  rw [kS]
  constructor
  · rintro ⟨t,h0,h1⟩ j hj
    rw [sW];simp [mW];omega
  · intro h
    have:=h 0 (by decide);rw [sW] at this;simp [mW] at this;exact ⟨-u 1,by omega,by omega⟩
theorem rW (v:Nat→Int):et 1 2 (db 1 2) v↔oH 1 2 (db 2 4) v:=(mr v).trans (tg v).symm
theorem pz (M:Nat→Nat→Int) (u:Nat→Int):et 2 2 ca u↔Ker 2 0 M u:=⟨fun _ j hj=>by omega,fun _=>pF u⟩
theorem pB (N M:Nat→Nat→Int) (u:Nat→Int):et 0 0 N u↔Ker 0 3 M u:=⟨fun _ j _=>rfl,fun _=>⟨fun _=>0,fun j hj=>by omega⟩⟩
theorem yD (c:Nat) (N:Nat→Nat→Int):dP 0 c N (fun _=>0):=fun i hi=>by omega
theorem ob:¬∀u:Nat→Int,(∀j,j<2→aq 2 (fun i=>u i*yU 1 0 1 0 i j)=0)→∀i,i<2→u i=0:=fun h=>by
  have h1:=h (fun i=>if i=0 then 1 else -1) (fun j hj=>by
    rw [sW];rcases (by omega:j=0∨j=1) with rfl | rfl<;>simp [yU]) 0 (by decide)
  simp at h1
theorem mH (w:World) (c:Nat) (hc:c≤65536):bk w (.agg #[.int .i64 ((0:Nat):Int),.int .i64 ((c:Nat):Int),.slice none 0 0]) 0 c (fun _ _=>0) 4:=
  bk.mk ⟨none,0,rfl,Nat.le_refl _,⟨by decide,by decide,by decide⟩,fun h=>by omega⟩ (by decide) hc
theorem yr {e:cD} {i j l m:Nat} {x y z o:Operand} {v u t s:Value} (h:ev e x=v) (k:ev e y=u) (n:ev e z=t) (q:ev e o=s):
    #[(i,x),(j,y),(l,z),(m,o)].toList.map (fun p:Nat×Operand=>(p.1,ev e p.2))= [(i,v),(j,u),(l,t),(m,s)]:=by simp [h,k,n,q]
end Go.TL
namespace Go.TL
open Go.RowKit Go.Proofs
set_option linter.unusedVariables false
set_option linter.unusedSimpArgs false
set_option maxRecDepth 10000 in
set_option maxHeartbeats 1600000 in
theorem ud (w:World):Calls Tryz.prog 7 #[] w (cd w fun v w'=>v= .bool true):=by
 have hLIM:be=562949953421312:=rfl;refine ak (N:=95) (rs:= #[.tmp 0]) Tryz.func7 rfl rfl rfl (Nat.le_of_ble_eq_true rfl) ?_;have hX:aG w w:=aG.refl w;refine ab ?_;refine RL.p rfl rfl (ct.assign rfl) ?_;refine RL.nil ?_;refine ab ?_;refine RL.x rfl rfl (cX.buildSlice (vs:= [(0,.int .i64 (1)),(1,.int .i64 (2))]) [.int .i64 (0)] [.int .i64 (1),.int .i64 (2)] iu pa rfl (dR rfl rfl) rfl (by decide) jf rfl) ?_;rintro _ w1 ⟨g1,rfl,hge1,hx1,hA1⟩;replace hX:=aG.trans hX hx1;have hBw1:w.heap.size≤w1.heap.size:=hX.size;refine RL.x rfl rfl (cX.call kp (cQ rfl rfl rfl) (ge (lQ hA1) (by decide) (by decide))) ?_;rintro v1 w2 ⟨hx2,q1⟩;replace hX:=aG.trans hX hx2;refine RL.x rfl rfl (cX.alloc [.int .i64 (0),.int .i64 (0),.slice (none) (0) (0)] bH rfl) ?_;rintro _ w3 ⟨g2,rfl,hge2,hx3,hA2⟩;have hbs2:w.heap.size≤g2:=Nat.le_trans hX.size hge2;replace q1:=cA.ext q1 hx3;replace hX:=aG.trans hX hx3;obtain ⟨gh1,kh1,ρ1,hq1,hM1⟩:=q1;have hd1:=cv.dlim hM1;have hd2:=cv.clim hM1;refine RL.x rfl rfl (cX.store [.int .i64 ((1:Nat)),.int .i64 ((2:Nat)),.slice (some ⟨gh1,0,none⟩) (1) (kh1)] bV rfl hq1 rfl hA2 (Nat.le_of_ble_eq_true rfl) (bW rfl rfl rfl)) ?_;rintro _ w4 ⟨hk1,hnew⟩;replace hM1:=aY hM1 hk1 hA2 (by decide);replace hX:=hX.step hk1 (fun b e=>by subst e;exact hbs2);replace hA2:=hnew.lit [.int .i64 ((1:Nat)),.int .i64 ((2:Nat)),.slice (some ⟨gh1,0,none⟩) (1) (kh1)] rfl;clear hnew;refine RL.nil ?_;refine ab ?_;refine RL.p rfl rfl (af [.int .i64 ((1:Nat)),.int .i64 ((2:Nat)),.slice (some ⟨gh1,0,none⟩) (1) (kh1)] aN rfl (hA2.cells 0 _ rfl rfl)) ?_;refine RL.x rfl rfl (cX.call ql (aD rfl) (iM _ _ 1 2 (db (1) (2)) _ 4 B1 (cv.matV hM1 (by omega) (by omega)) (by decide) (fun i j _ _=>by simp only [db];split<;>decide) (fr 2 (by decide)).2.2.2.2.2.2.1 (by decide) (by decide))) ?_;rintro _ w5 ⟨hx4,kc1,Sc1,R1,C1,stt1,s1,Mc1,hHc1,rfl,hR1,hC1,q2,hcase1⟩;replace hA2:=aQ.ext hA2 hx4;replace hM1:=cv.ext hM1 hx4;replace hX:=aG.trans hX hx4;have hidc1:=jE hHc1.lin hHc1.kr hHc1.kc hHc1.ech wi mr;obtain ⟨hRr1,hCc1,hst1,hMc1⟩:R1=2 - 1∧C1=2∧stt1=0∧Mc1=fun a e=>Sc1.V e (1 + a):=by
   rcases hcase1 with h | h
   · exact h.2
   · exact absurd hidc1 h.1
 refine RL.p rfl rfl (ct.move rfl) ?_;refine RL.p rfl rfl (ct.extract rfl rfl) ?_;refine RL.p rfl rfl (ct.extract rfl rfl) ?_;refine RL.x rfl rfl (cX.alloc [.int .i64 (0),.int .i64 (0),.slice (none) (0) (0)] bH rfl) ?_;rintro _ w6 ⟨g3,rfl,hge3,hx5,hA3⟩;have ne2:g2≠g3:=Nat.ne_of_lt (Nat.lt_of_lt_of_le hA2.lt hge3);have hbs4:w.heap.size≤g3:=Nat.le_trans hX.size hge3;replace hA2:=aQ.ext hA2 hx5;replace hM1:=cv.ext hM1 hx5;replace q2:=cN.ext q2 hx5;replace hX:=aG.trans hX hx5;refine RL.x rfl rfl (cX.store [.int .i64 ((R1:Nat)),.int .i64 ((C1:Nat)),s1] bV rfl rfl rfl hA3 (Nat.le_of_ble_eq_true rfl) (bW rfl rfl (q2.one))) ?_;rintro _ w7 ⟨hk2,hnew⟩;replace hM1:=aY hM1 hk2 hA3 (by decide);replace hA2:=hA2.keep hk2 ne2;replace q2:=aS q2 hk2 hA3 (by decide);replace hX:=hX.step hk2 (fun b e=>by subst e;exact hbs4);replace hA3:=hnew.lit [.int .i64 ((R1:Nat)),.int .i64 ((C1:Nat)),s1] rfl;clear hnew;refine RL.p rfl rfl (ct.assign rfl) ?_;refine RL.nil ?_;refine ab ?_;refine RL.x rfl rfl (cX.buildSlice (vs:= [(0,.int .i64 (2)),(1,.int .i64 (4))]) [.int .i64 (0)] [.int .i64 (2),.int .i64 (4)] iu pa rfl (dR rfl rfl) rfl (by decide) jf rfl) ?_;rintro _ w8 ⟨g4,rfl,hge4,hx6,hA4⟩;replace hA2:=aQ.ext hA2 hx6;replace q2:=cN.ext q2 hx6;replace hA3:=aQ.ext hA3 hx6;replace hM1:=cv.ext hM1 hx6;replace hX:=aG.trans hX hx6;have hBw2:w.heap.size≤w8.heap.size:=hX.size;refine RL.x rfl rfl (cX.call kp (cQ rfl rfl rfl) (ge (lQ hA4) (by decide) (by decide))) ?_;rintro v2 w9 ⟨hx7,q3⟩;replace hA2:=aQ.ext hA2 hx7;replace q2:=cN.ext q2 hx7;replace hA3:=aQ.ext hA3 hx7;replace hM1:=cv.ext hM1 hx7;replace hX:=aG.trans hX hx7;refine RL.x rfl rfl (cX.call ql (aD rfl) (iM _ _ 1 2 (db (2) (4)) _ 4 B1 (cA.matV q3) (by decide) (fun i j _ _=>by simp only [db];split<;>decide) (fr 2 (by decide)).2.2.2.2.2.2.1 (by decide) (by decide))) ?_;rintro _ w10 ⟨hx8,kc2,Sc2,R2,C2,stt2,s2,Mc2,hHc2,rfl,hR2,hC2,q4,hcase2⟩;replace hA2:=aQ.ext hA2 hx8;replace q2:=cN.ext q2 hx8;replace hA3:=aQ.ext hA3 hx8;replace hM1:=cv.ext hM1 hx8;replace hX:=aG.trans hX hx8;have hst2:stt2=170:=by
   rcases hcase2 with h | h
   · exfalso
     obtain ⟨g1,g2⟩:=lZ hHc2.lin hHc2.kr hHc2.kc hHc2.ech h.1.1 h.1.2;exact jB g1
   · exact h.2.2.2
 refine RL.p rfl rfl (ct.move rfl) ?_;refine RL.p rfl rfl (ct.extract rfl rfl) ?_;refine RL.p rfl rfl (ct.extract rfl rfl) ?_;refine RL.x rfl rfl (cX.alloc [.int .i64 (0),.int .i64 (0),.slice (none) (0) (0)] bH rfl) ?_;rintro _ w11 ⟨g5,rfl,hge5,hx9,hA5⟩;have ne9:g2≠g5:=Nat.ne_of_lt (Nat.lt_of_lt_of_le hA2.lt hge5);have ne10:g3≠g5:=Nat.ne_of_lt (Nat.lt_of_lt_of_le hA3.lt hge5);have hbs6:w.heap.size≤g5:=Nat.le_trans hX.size hge5;replace hA2:=aQ.ext hA2 hx9;replace q2:=cN.ext q2 hx9;replace hA3:=aQ.ext hA3 hx9;replace hM1:=cv.ext hM1 hx9;replace q4:=cN.ext q4 hx9;replace hX:=aG.trans hX hx9;refine RL.x rfl rfl (cX.store [.int .i64 ((R2:Nat)),.int .i64 ((C2:Nat)),s2] bV rfl rfl rfl hA5 (Nat.le_of_ble_eq_true rfl) (bW rfl rfl (q4.one))) ?_;rintro _ w12 ⟨hk3,hnew⟩;replace hM1:=aY hM1 hk3 hA5 (by decide);replace hA2:=hA2.keep hk3 ne9;replace q2:=aS q2 hk3 hA5 (by decide);replace hA3:=hA3.keep hk3 ne10;replace hX:=hX.step hk3 (fun b e=>by subst e;exact hbs6);clear hnew;refine RL.p rfl rfl (ct.assign rfl) ?_;refine RL.nil ?_;refine ab ?_;refine RL.x rfl rfl (cX.buildSlice (vs:= [(0,.int .i64 (1)),(1,.int .i64 (0)),(2,.int .i64 (1)),(3,.int .i64 (0))]) [.int .i64 (0)] [.int .i64 (1),.int .i64 (0),.int .i64 (1),.int .i64 (0)] iu pa rfl (yr rfl rfl rfl rfl) rfl (by decide) xE rfl) ?_;rintro _ w13 ⟨g6,rfl,hge6,hx10,hA6⟩;replace hA2:=aQ.ext hA2 hx10;replace q2:=cN.ext q2 hx10;replace hA3:=aQ.ext hA3 hx10;replace hM1:=cv.ext hM1 hx10;replace hX:=aG.trans hX hx10;have hBw3:w.heap.size≤w13.heap.size:=hX.size;refine RL.x rfl rfl (cX.call kp (cQ rfl rfl rfl) (tx (Ac hA6) (by decide) (by decide))) ?_;rintro v3 w14 ⟨hx11,q5⟩;replace hA2:=aQ.ext hA2 hx11;replace q2:=cN.ext q2 hx11;replace hA3:=aQ.ext hA3 hx11;replace hM1:=cv.ext hM1 hx11;replace hX:=aG.trans hX hx11;refine RL.x rfl rfl (cX.call ql (aD rfl) (iM _ _ 2 2 (yU (1) (0) (1) (0)) _ 4 B1 (cA.matV q5) (by decide) (fun i j _ _=>by simp only [yU];split<;>split<;>decide) (fr 2 (by decide)).2.2.2.2.2.2.1 (by decide) (by decide))) ?_;rintro _ w15 ⟨hx12,kc3,Sc3,R3,C3,stt3,s3,Mc3,hHc3,rfl,hR3,hC3,q6,hcase3⟩;replace hA2:=aQ.ext hA2 hx12;replace q2:=cN.ext q2 hx12;replace hA3:=aQ.ext hA3 hx12;replace hM1:=cv.ext hM1 hx12;replace hX:=aG.trans hX hx12;have hst3:stt3=170:=by
   rcases hcase3 with h | h
   · exfalso
     obtain ⟨g1,g2⟩:=lZ hHc3.lin hHc3.kr hHc3.kc hHc3.ech h.1.1 h.1.2;exact ob g2
   · exact h.2.2.2
 refine RL.p rfl rfl (ct.move rfl) ?_;refine RL.p rfl rfl (ct.extract rfl rfl) ?_;refine RL.p rfl rfl (ct.extract rfl rfl) ?_;refine RL.x rfl rfl (cX.alloc [.int .i64 (0),.int .i64 (0),.slice (none) (0) (0)] bH rfl) ?_;rintro _ w16 ⟨g7,rfl,hge7,hx13,hA7⟩;have ne18:g2≠g7:=Nat.ne_of_lt (Nat.lt_of_lt_of_le hA2.lt hge7);have ne19:g3≠g7:=Nat.ne_of_lt (Nat.lt_of_lt_of_le hA3.lt hge7);have hbs8:w.heap.size≤g7:=Nat.le_trans hX.size hge7;replace hA2:=aQ.ext hA2 hx13;replace q2:=cN.ext q2 hx13;replace hA3:=aQ.ext hA3 hx13;replace hM1:=cv.ext hM1 hx13;replace q6:=cN.ext q6 hx13;replace hX:=aG.trans hX hx13;refine RL.x rfl rfl (cX.store [.int .i64 ((R3:Nat)),.int .i64 ((C3:Nat)),s3] bV rfl rfl rfl hA7 (Nat.le_of_ble_eq_true rfl) (bW rfl rfl (q6.one))) ?_;rintro _ w17 ⟨hk4,hnew⟩;replace hM1:=aY hM1 hk4 hA7 (by decide);replace hA2:=hA2.keep hk4 ne18;replace q2:=aS q2 hk4 hA7 (by decide);replace hA3:=hA3.keep hk4 ne19;replace hX:=hX.step hk4 (fun b e=>by subst e;exact hbs8);clear hnew;refine RL.p rfl rfl (ct.assign rfl) ?_;refine RL.nil ?_;refine ab ?_;refine RL.p rfl rfl (ct.build (vs:= [(1,.int .i64 (2))]) [(0,1),(1,1),(2,1)] gY bH (em rfl) rfl) ?_;refine RL.x rfl rfl (cX.call ql (aD rfl) (iM _ _ 0 2 (fun _ _=>0) _ 4 B1 (mH _ 2 (by decide)) (by decide) (fun i j hi hj=>by first | exact absurd hi (Nat.not_lt_zero _) | exact absurd hj (Nat.not_lt_zero _)) (fr 2 (by decide)).2.2.2.2.2.2.1 (by decide) (by decide))) ?_;rintro _ w18 ⟨hx14,kc4,Sc4,R4,C4,stt4,s4,Mc4,hHc4,rfl,hR4,hC4,q7,hcase4⟩;replace hA2:=aQ.ext hA2 hx14;replace q2:=cN.ext q2 hx14;replace hA3:=aQ.ext hA3 hx14;replace hM1:=cv.ext hM1 hx14;replace hX:=aG.trans hX hx14;have hidc4:=jE hHc4.lin hHc4.kr hHc4.kc hHc4.ech (fun u _ i hi=>absurd hi (Nat.not_lt_zero _)) (ym 2 _);obtain ⟨hRr4,hCc4,hst4,hMc4⟩:R4=2 - 0∧C4=2∧stt4=0∧Mc4=fun a e=>Sc4.V e (0 + a):=by
   rcases hcase4 with h | h
   · exact h.2
   · exact absurd hidc4 h.1
 refine RL.p rfl rfl (ct.move rfl) ?_;refine RL.p rfl rfl (ct.extract rfl rfl) ?_;refine RL.p rfl rfl (ct.extract rfl rfl) ?_;refine RL.x rfl rfl (cX.alloc [.int .i64 (0),.int .i64 (0),.slice (none) (0) (0)] bH rfl) ?_;rintro _ w19 ⟨g8,rfl,hge8,hx15,hA8⟩;have ne23:g2≠g8:=Nat.ne_of_lt (Nat.lt_of_lt_of_le hA2.lt hge8);have ne24:g3≠g8:=Nat.ne_of_lt (Nat.lt_of_lt_of_le hA3.lt hge8);have hbs9:w.heap.size≤g8:=Nat.le_trans hX.size hge8;replace hA2:=aQ.ext hA2 hx15;replace q2:=cN.ext q2 hx15;replace hA3:=aQ.ext hA3 hx15;replace hM1:=cv.ext hM1 hx15;replace q7:=cN.ext q7 hx15;replace hX:=aG.trans hX hx15;refine RL.x rfl rfl (cX.store [.int .i64 ((R4:Nat)),.int .i64 ((C4:Nat)),s4] bV rfl rfl rfl hA8 (Nat.le_of_ble_eq_true rfl) (bW rfl rfl (q7.one))) ?_;rintro _ w20 ⟨hk5,hnew⟩;replace hM1:=aY hM1 hk5 hA8 (by decide);replace hA2:=hA2.keep hk5 ne23;replace q2:=aS q2 hk5 hA8 (by decide);replace hA3:=hA3.keep hk5 ne24;replace q7:=aS q7 hk5 hA8 (by decide);replace hX:=hX.step hk5 (fun b e=>by subst e;exact hbs9);replace hA8:=hnew.lit [.int .i64 ((R4:Nat)),.int .i64 ((C4:Nat)),s4] rfl;clear hnew;refine RL.p rfl rfl (ct.assign rfl) ?_;refine RL.nil ?_;have hBw4:w.heap.size≤w20.heap.size:=hX.size;have hBw5:w.heap.size≤w20.heap.size:=hX.size;have hBw6:w.heap.size≤w20.heap.size:=hX.size;have hBw7:w.heap.size≤w20.heap.size:=hX.size;have hBw8:w.heap.size≤w20.heap.size:=hX.size;have hBw9:w.heap.size≤w20.heap.size:=hX.size;have hBw10:w.heap.size≤w20.heap.size:=hX.size;refine aI (hmono:=⟨⟨(fun _ _ _ h hx=>eV.ext h hx),cI _ _ _ _ _,fL _ _ _ _ _,(fun _ _ _ h hx=>eV.ext h hx),cI _ _ _ _ _,ae _,ae _,bI.imp ((fun _ _ _ h hx=>eV.ext h hx)),bI.imp (cI _ _ _ _ _),bI.imp (lT _ _ _ _ _),bI.imp (ae _),bI.imp (ae _),ae _,ae _,bI.imp (ae _),bI.imp (ae _),ae _,ae _,bI.imp ((fun _ _ _ h hx=>eV.ext h hx)),bI.imp (cI _ _ _ _ _),bI.imp (ae _),bI.imp (ae _),ae _,ae _,bI.imp (ae _),bI.imp (ae _),ae _,ae _,bI.imp (ae _),bI.imp (ae _),bI.imp (ae _),ae _,ae _,bI.imp (ae _),bI.imp (ae _),ae _,ae _,bI.imp (ae _),bI.imp (ae _),ae _,ae _,bI.imp (ae _),bI.imp (ae _),ae _,ae _,bI.imp (ae _),bI.imp (ae _),bI.imp (ae _),ae _,ae _,bI.imp (cI _ _ _ _ _),bI.imp (fL _ _ _ _ _),bI.imp (cI _ _ _ _ _),bI.imp (ae _),ae _,ae _,bI.imp (ae _),bI.imp (fL _ _ _ _ _),bI.imp (cI _ _ _ _ _),bI.imp (ae _),ae _,trivial⟩⟩) an 61 ((fun v Ba=>eV .i64 2 Ba v 2 (f2 (1) (2)))::(fun v Ba=>cA Ba v w20.heap.size 2 1 (mW (1) (2)) 4)::(fun v Ba=>jF Ba v 2 1 4 (mW (1) (2)) B1)::(fun v Ba=>eV .i64 2 Ba v 2 (f2 (2) (-1)))::(fun v Ba=>cA Ba v w20.heap.size 1 2 (db (2) (-1)) 4)::(fun v Ba=>v= .bool (decide (True)))::(fun v Ba=>v= .bool (decide (True)))::(fun v Ba=>(True)→(eV .i64 2 Ba v 2 (f2 (2) (4))))::(fun v Ba=>(True)→(cA Ba v w20.heap.size 1 2 (db (2) (4)) 4))::(fun v Ba=>(True)→(pO Ba v 1 2 4 (db (2) (4)) B1))::_::(fun v Ba=>(True)→(v= .bool (decide (True))))::_::(fun v Ba=>v= .bool (decide ((True)∧(True))))::_::(fun v Ba=>((True)∧(True))→(v= .bool (decide (True))))::_::(fun v Ba=>v= .bool (decide (((True)∧(True))∧(True))))::(fun v Ba=>(((True)∧(True))∧(True))→(eV .i64 2 Ba v 2 (f2 (2) (4))))::(fun v Ba=>(((True)∧(True))∧(True))→(cA Ba v w20.heap.size 1 2 (db (2) (4)) 4))::(fun v Ba=>(((True)∧(True))∧(True))→(v= .bool (decide (False))))::_::_::(fun v Ba=>v= .bool (decide ((((True)∧(True))∧(True))∧(¬(False)))))::_::_::_::(fun v Ba=>v= .bool (decide (((((True)∧(True))∧(True))∧(¬(False)))∧(((stt1:Nat):Int)=(0:Int)))))::_::_::(fun v Ba=>(((((True)∧(True))∧(True))∧(¬(False)))∧(((stt1:Nat):Int)=(0:Int)))→(v= .bool (decide (True)))):: [_,fun v Ba=>v= .bool (decide ((((((True)∧(True))∧(True))∧(¬(False)))∧(((stt1:Nat):Int)=(0:Int)))∧(True))),_,_,_,fun v Ba=>v= .bool (decide (((((((True)∧(True))∧(True))∧(¬(False)))∧(((stt1:Nat):Int)=(0:Int)))∧(True))∧(((stt2:Nat):Int)=(170:Int)))),_,_,_,fun v Ba=>v= .bool (decide ((((((((True)∧(True))∧(True))∧(¬(False)))∧(((stt1:Nat):Int)=(0:Int)))∧(True))∧(((stt2:Nat):Int)=(170:Int)))∧(((stt3:Nat):Int)=(170:Int)))),_,_,_,fun v Ba=>v= .bool (decide (((((((((True)∧(True))∧(True))∧(¬(False)))∧(((stt1:Nat):Int)=(0:Int)))∧(True))∧(((stt2:Nat):Int)=(170:Int)))∧(((stt3:Nat):Int)=(170:Int)))∧(((stt4:Nat):Int)=(0:Int)))),_,_,fun v Ba=>(((((((((True)∧(True))∧(True))∧(¬(False)))∧(((stt1:Nat):Int)=(0:Int)))∧(True))∧(((stt2:Nat):Int)=(170:Int)))∧(((stt3:Nat):Int)=(170:Int)))∧(((stt4:Nat):Int)=(0:Int)))→(v= .bool (decide (True))),_,fun v Ba=>v= .bool (decide ((((((((((True)∧(True))∧(True))∧(¬(False)))∧(((stt1:Nat):Int)=(0:Int)))∧(True))∧(((stt2:Nat):Int)=(170:Int)))∧(((stt3:Nat):Int)=(170:Int)))∧(((stt4:Nat):Int)=(0:Int)))∧(True))),fun v Ba=>((((((((((True)∧(True))∧(True))∧(¬(False)))∧(((stt1:Nat):Int)=(0:Int)))∧(True))∧(((stt2:Nat):Int)=(170:Int)))∧(((stt3:Nat):Int)=(170:Int)))∧(((stt4:Nat):Int)=(0:Int)))∧(True))→(cA Ba v w20.heap.size 2 0 ((fun _ _=>0)) 4),fun v Ba=>((((((((((True)∧(True))∧(True))∧(¬(False)))∧(((stt1:Nat):Int)=(0:Int)))∧(True))∧(((stt2:Nat):Int)=(170:Int)))∧(((stt3:Nat):Int)=(170:Int)))∧(((stt4:Nat):Int)=(0:Int)))∧(True))→(jF Ba v 2 0 4 ((fun _ _=>0)) B1),fun v Ba=>((((((((((True)∧(True))∧(True))∧(¬(False)))∧(((stt1:Nat):Int)=(0:Int)))∧(True))∧(((stt2:Nat):Int)=(170:Int)))∧(((stt3:Nat):Int)=(170:Int)))∧(((stt4:Nat):Int)=(0:Int)))∧(True))→(cA Ba v w20.heap.size 2 2 ca 1),fun v Ba=>((((((((((True)∧(True))∧(True))∧(¬(False)))∧(((stt1:Nat):Int)=(0:Int)))∧(True))∧(((stt2:Nat):Int)=(170:Int)))∧(((stt3:Nat):Int)=(170:Int)))∧(((stt4:Nat):Int)=(0:Int)))∧(True))→(v= .bool (decide (True))),_,fun v Ba=>v= .bool (decide (((((((((((True)∧(True))∧(True))∧(¬(False)))∧(((stt1:Nat):Int)=(0:Int)))∧(True))∧(((stt2:Nat):Int)=(170:Int)))∧(((stt3:Nat):Int)=(170:Int)))∧(((stt4:Nat):Int)=(0:Int)))∧(True))∧(True))),_,fun v Ba=>(((((((((((True)∧(True))∧(True))∧(¬(False)))∧(((stt1:Nat):Int)=(0:Int)))∧(True))∧(((stt2:Nat):Int)=(170:Int)))∧(((stt3:Nat):Int)=(170:Int)))∧(((stt4:Nat):Int)=(0:Int)))∧(True))∧(True))→(jF Ba v 0 3 4 ((fun _ _=>0)) B1),fun v Ba=>(((((((((((True)∧(True))∧(True))∧(¬(False)))∧(((stt1:Nat):Int)=(0:Int)))∧(True))∧(((stt2:Nat):Int)=(170:Int)))∧(((stt3:Nat):Int)=(170:Int)))∧(((stt4:Nat):Int)=(0:Int)))∧(True))∧(True))→(cA Ba v w20.heap.size 0 0 ((fun _ _=>0)) 4),fun v Ba=>(((((((((((True)∧(True))∧(True))∧(¬(False)))∧(((stt1:Nat):Int)=(0:Int)))∧(True))∧(((stt2:Nat):Int)=(170:Int)))∧(((stt3:Nat):Int)=(170:Int)))∧(((stt4:Nat):Int)=(0:Int)))∧(True))∧(True))→(v= .bool (decide (True))),_]) rfl rfl (fun e_ w_ A9 A8=>⟨fun _=>cX.mono (cX.buildSlice (vs:= [(0,.int .i64 (1)),(1,.int .i64 (2))]) [.int .i64 (0)] [.int .i64 (1),.int .i64 (2)] iu pa rfl (dR rfl rfl) rfl (by decide) jf rfl) fun v Bb ⟨g,hv,hge,hx,hA⟩=>⟨hx,hv▸lQ hA⟩,fun A7=>cX.mono (cX.call kp (cQ rfl rfl rfl) (tz (A7 0 rfl) (by decide) (by decide))) fun v Bb hv=>⟨hv.1,cA.low hv.2 A9.size⟩,fun A7=>cX.call qk (aD rfl) (iL _ _ 2 1 (mW (1) (2)) _ 4 B1 (cA.matV (A7 1 rfl)) (by decide) (fun i j _ _=>by simp only [mW];split<;>decide) (fr 2 (by decide)).2.2.2.2.2.2.1 (by decide) (by decide)),fun _=>cX.mono (cX.buildSlice (vs:= [(0,.int .i64 (2)),(1,.int .i64 (-1))]) [.int .i64 (0)] [.int .i64 (2),.int .i64 (-1)] iu pa rfl (dR rfl rfl) rfl (by decide) jf rfl) fun v Bb ⟨g,hv,hge,hx,hA⟩=>⟨hx,hv▸lQ hA⟩,fun A7=>cX.mono (cX.call kp (cQ rfl rfl rfl) (ge (A7 3 rfl) (by decide) (by decide))) fun v Bb hv=>⟨hv.1,cA.low hv.2 A9.size⟩,fun A7=>cX.call jz (az rfl rfl) (mC (A7 2 rfl) (cA.matV (A7 4 rfl)) (lY (by decide)) pA),fun A7=>aa (ct.move ((A7 5 rfl))),fun A7=>gT (A7 6 rfl) fun hg=>cX.mono (cX.buildSlice (vs:= [(0,.int .i64 (2)),(1,.int .i64 (4))]) [.int .i64 (0)] [.int .i64 (2),.int .i64 (4)] iu pa rfl (dR rfl rfl) rfl (by decide) jf rfl) fun v Bb ⟨g,hv,hge,hx,hA⟩=>⟨hx,hv▸lQ hA⟩,fun A7=>gT (A7 6 rfl) fun hg=>cX.mono (cX.call kp (cQ rfl rfl rfl) (ge (A7 7 rfl hg) (by decide) (by decide))) fun v Bb hv=>⟨hv.1,cA.low hv.2 A9.size⟩,fun A7=>gT (A7 6 rfl) fun hg=>cX.call lF (aD rfl) (fO _ _ 1 2 (db (2) (4)) _ 4 B1 (cA.matV (A7 8 rfl hg)) (by decide) (fun i j _ _=>by simp only [db];split<;>decide) (fr 2 (by decide)).2.2.2.2.2.2.1 (by decide) (fr 2 (by decide)).2.2.2.2.2.2.2.1 (fr 2 (by decide)).2.2.2.2.2.2.2.2 (by decide)),fun A7=>gT (A7 6 rfl) fun hg=>aa (af [.int .i64 ((1:Nat)),.int .i64 ((2:Nat)),.slice (some ⟨gh1,0,none⟩) (1) (kh1)] aN ((A8 1 rfl rfl)) ((aQ.ext hA2 A9).cells 0 _ rfl rfl)),fun A7=>gT (A7 6 rfl) fun hg=>cX.call jz (az rfl ((A7 10 rfl hg))) (vK (A7 9 rfl hg) (cv.matV (cv.ext hM1 A9) (by omega) (by omega)) (lY (by decide)) rW),fun A7=>aa (aB (p:=True) (q:=True) (A7 6 rfl) (fun hq=>(A7 11 rfl hq))),fun A7=>aa (ct.move ((A7 12 rfl))),fun A7=>gT (A7 13 rfl) fun hg=>aa (af [.int .i64 ((1:Nat)),.int .i64 ((2:Nat)),.slice (some ⟨gh1,0,none⟩) (1) (kh1)] aN ((A8 1 rfl rfl)) ((aQ.ext hA2 A9).cells 0 _ rfl rfl)),fun A7=>gT (A7 13 rfl) fun hg=>cX.call sN (aD ((A7 14 rfl hg))) (mO _ _ 1 2 (db (1) (2)) _ 4 B1 (sb:=true) (cv.matV (cv.ext hM1 A9) (by omega) (by omega)) (by decide) (fr 1 (by decide)).2.2.2.2.2.2.1 (by decide) (fun i j _ _=>by simp only [db];split<;>decide) (fr 2 (by decide)).2.2.2.2.2.2.1 (by decide) (fr 2 (by decide)).2.2.2.2.2.2.2.1 (fr 2 (by decide)).2.2.2.2.2.2.2.2 (by decide) (iff_of_true rfl mr)),fun A7=>aa (aB (p:=(True)∧(True)) (q:=True) (A7 13 rfl) (fun hq=>(A7 15 rfl hq))),fun A7=>aa (ct.move ((A7 16 rfl))),fun A7=>gT (A7 17 rfl) fun hg=>cX.mono (cX.buildSlice (vs:= [(0,.int .i64 (2)),(1,.int .i64 (4))]) [.int .i64 (0)] [.int .i64 (2),.int .i64 (4)] iu pa rfl (dR rfl rfl) rfl (by decide) jf rfl) fun v Bb ⟨g,hv,hge,hx,hA⟩=>⟨hx,hv▸lQ hA⟩,fun A7=>gT (A7 17 rfl) fun hg=>cX.mono (cX.call kp (cQ rfl rfl rfl) (ge (A7 18 rfl hg) (by decide) (by decide))) fun v Bb hv=>⟨hv.1,cA.low hv.2 A9.size⟩,fun A7=>gT (A7 17 rfl) fun hg=>cX.call sN (aD rfl) (mO _ _ 1 2 (db (2) (4)) _ 4 B1 (sb:=false) (cA.matV (A7 19 rfl hg)) (by decide) (fr 1 (by decide)).2.2.2.2.2.2.1 (by decide) (fun i j _ _=>by simp only [db];split<;>decide) (fr 2 (by decide)).2.2.2.2.2.2.1 (by decide) (fr 2 (by decide)).2.2.2.2.2.2.2.1 (fr 2 (by decide)).2.2.2.2.2.2.2.2 (by decide) (iff_of_false (by decide) jB)),fun A7=>gT (A7 17 rfl) fun hg=>aa (ct.not (p:=False) (A7 20 rfl hg)),fun A7=>aa (aB (p:=((True)∧(True))∧(True)) (q:=¬(False)) (A7 17 rfl) (fun hq=>(A7 21 rfl hq))),fun A7=>aa (ct.move ((A7 22 rfl))),fun A7=>gT (A7 23 rfl) fun hg=>aa (ct.move ((A8 3 rfl rfl))),fun A7=>gT (A7 23 rfl) fun hg=>aa (ct.eql ((A7 24 rfl hg)) rfl),fun A7=>aa (aB (p:=(((True)∧(True))∧(True))∧(¬(False))) (q:=((stt1:Nat):Int)=(0:Int)) (A7 23 rfl) (fun hq=>(A7 25 rfl hq))),fun A7=>aa (ct.move ((A7 26 rfl))),fun A7=>gT (A7 27 rfl) fun hg=>aa (af [.int .i64 ((1:Nat)),.int .i64 ((2:Nat)),.slice (some ⟨gh1,0,none⟩) (1) (kh1)] aN ((A8 1 rfl rfl)) ((aQ.ext hA2 A9).cells 0 _ rfl rfl)),fun A7=>gT (A7 27 rfl) fun hg=>aa (af [.int .i64 ((R1:Nat)),.int .i64 ((C1:Nat)),s1] aN ((A8 2 rfl rfl)) ((aQ.ext hA3 A9).cells 0 _ rfl rfl)),fun A7=>gT (A7 27 rfl) fun hg=>cX.call xm (az ((A7 28 rfl hg)) ((A7 29 rfl hg))) (nT (cv.matV (cv.ext hM1 A9) (by omega) (by omega)) (bk.mk (cN.ext q2 A9) (by omega) (by omega)) (by decide) (fun i j _ _=>by simp only [db];split<;>decide) hHc1 hidc1.1 hidc1.2 hRr1 hCc1 hMc1),fun A7=>aa (aB (p:=((((True)∧(True))∧(True))∧(¬(False)))∧(((stt1:Nat):Int)=(0:Int))) (q:=True) (A7 27 rfl) (fun hq=>(A7 30 rfl hq))),fun A7=>aa (ct.move ((A7 31 rfl))),fun A7=>gT (A7 32 rfl) fun hg=>aa (ct.move ((A8 5 rfl rfl))),fun A7=>gT (A7 32 rfl) fun hg=>aa (ct.eql ((A7 33 rfl hg)) rfl),fun A7=>aa (aB (p:=(((((True)∧(True))∧(True))∧(¬(False)))∧(((stt1:Nat):Int)=(0:Int)))∧(True)) (q:=((stt2:Nat):Int)=(170:Int)) (A7 32 rfl) (fun hq=>(A7 34 rfl hq))),fun A7=>aa (ct.move ((A7 35 rfl))),fun A7=>gT (A7 36 rfl) fun hg=>aa (ct.move ((A8 7 rfl rfl))),fun A7=>gT (A7 36 rfl) fun hg=>aa (ct.eql ((A7 37 rfl hg)) rfl),fun A7=>aa (aB (p:=((((((True)∧(True))∧(True))∧(¬(False)))∧(((stt1:Nat):Int)=(0:Int)))∧(True))∧(((stt2:Nat):Int)=(170:Int))) (q:=((stt3:Nat):Int)=(170:Int)) (A7 36 rfl) (fun hq=>(A7 38 rfl hq))),fun A7=>aa (ct.move ((A7 39 rfl))),fun A7=>gT (A7 40 rfl) fun hg=>aa (ct.move ((A8 9 rfl rfl))),fun A7=>gT (A7 40 rfl) fun hg=>aa (ct.eql ((A7 41 rfl hg)) rfl),fun A7=>aa (aB (p:=(((((((True)∧(True))∧(True))∧(¬(False)))∧(((stt1:Nat):Int)=(0:Int)))∧(True))∧(((stt2:Nat):Int)=(170:Int)))∧(((stt3:Nat):Int)=(170:Int))) (q:=((stt4:Nat):Int)=(0:Int)) (A7 40 rfl) (fun hq=>(A7 42 rfl hq))),fun A7=>aa (ct.move ((A7 43 rfl))),fun A7=>gT (A7 44 rfl) fun hg=>aa (ct.build (vs:= [(1,.int .i64 (2))]) [(0,1),(1,1),(2,1)] gY bH (em rfl) rfl),fun A7=>gT (A7 44 rfl) fun hg=>aa (af [.int .i64 ((R4:Nat)),.int .i64 ((C4:Nat)),s4] aN ((A8 8 rfl rfl)) ((aQ.ext hA8 A9).cells 0 _ rfl rfl)),fun A7=>gT (A7 44 rfl) fun hg=>cX.call xm (az ((A7 45 rfl hg)) ((A7 46 rfl hg))) (nT (mH _ 2 (by decide)) (bk.mk (cN.ext q7 A9) (by omega) (by omega)) (by decide) (fun i j hi hj=>by first | exact absurd hi (Nat.not_lt_zero _) | exact absurd hj (Nat.not_lt_zero _)) hHc4 hidc4.1 hidc4.2 hRr4 hCc4 hMc4),fun A7=>aa (aB (p:=((((((((True)∧(True))∧(True))∧(¬(False)))∧(((stt1:Nat):Int)=(0:Int)))∧(True))∧(((stt2:Nat):Int)=(170:Int)))∧(((stt3:Nat):Int)=(170:Int)))∧(((stt4:Nat):Int)=(0:Int))) (q:=True) (A7 44 rfl) (fun hq=>(A7 47 rfl hq))),fun A7=>aa (ct.move ((A7 48 rfl))),fun A7=>gT (A7 49 rfl) fun hg=>cX.mono (cX.call lE (az rfl rfl) (lJ _ 2 0 4 (by omega) (by omega) (by omega))) fun v Bb hv=>⟨hv.1,cA.low hv.2 A9.size⟩,fun A7=>gT (A7 49 rfl) fun hg=>cX.call qk (aD rfl) (iL _ _ 2 0 (fun _ _=>0) _ 4 B1 (cA.matV (A7 50 rfl hg)) (by decide) (fun i j hi hj=>by first | exact absurd hi (Nat.not_lt_zero _) | exact absurd hj (Nat.not_lt_zero _)) (fr 2 (by decide)).2.2.2.2.2.2.1 (by decide) (by decide)),fun A7=>gT (A7 49 rfl) fun hg=>cX.mono (cX.call qj (aD rfl) (fF _ 2 (by omega))) fun v Bb hv=>⟨hv.1,cA.low hv.2 A9.size⟩,fun A7=>gT (A7 49 rfl) fun hg=>cX.call jz (az rfl rfl) (mC (A7 51 rfl hg) (cA.matV (A7 52 rfl hg)) (mU 2) (pz _)),fun A7=>aa (aB (p:=(((((((((True)∧(True))∧(True))∧(¬(False)))∧(((stt1:Nat):Int)=(0:Int)))∧(True))∧(((stt2:Nat):Int)=(170:Int)))∧(((stt3:Nat):Int)=(170:Int)))∧(((stt4:Nat):Int)=(0:Int)))∧(True)) (q:=True) (A7 49 rfl) (fun hq=>(A7 53 rfl hq))),fun A7=>aa (ct.move ((A7 54 rfl))),fun A7=>gT (A7 55 rfl) fun hg=>aa (ct.build (vs:= [(1,.int .i64 (3))]) [(0,1),(1,1),(2,1)] gY bH (em rfl) rfl),fun A7=>gT (A7 55 rfl) fun hg=>cX.call qk (aD (A7 56 rfl hg)) (iL _ _ 0 3 (fun _ _=>0) _ 4 B1 (mH _ 3 (by decide)) (by decide) (fun i j hi hj=>by first | exact absurd hi (Nat.not_lt_zero _) | exact absurd hj (Nat.not_lt_zero _)) (fr 0 (by decide)).2.2.2.2.2.2.1 (by decide) (by decide)),fun A7=>gT (A7 55 rfl) fun hg=>cX.mono (cX.call lE (az rfl rfl) (lJ _ 0 0 4 (by omega) (by omega) (by omega))) fun v Bb hv=>⟨hv.1,cA.low hv.2 A9.size⟩,fun A7=>gT (A7 55 rfl) fun hg=>cX.call jz (az rfl rfl) (mC (A7 57 rfl hg) (cA.matV (A7 58 rfl hg)) (yD 0 _) (pB _ _)),fun A7=>aa (aB (p:=((((((((((True)∧(True))∧(True))∧(¬(False)))∧(((stt1:Nat):Int)=(0:Int)))∧(True))∧(((stt2:Nat):Int)=(170:Int)))∧(((stt3:Nat):Int)=(170:Int)))∧(((stt4:Nat):Int)=(0:Int)))∧(True))∧(True)) (q:=True) (A7 55 rfl) (fun hq=>(A7 59 rfl hq))),trivial⟩) ?_;intro e1 w21 hx16 ho1 hf1;replace hX:=aG.trans hX hx16;have s94_e1:e1 94=_:=hf1 60 rfl;refine RL.p rfl rfl (ct.assign s94_e1) ?_;refine RL.nil ?_;refine WP.ret ?_;refine ⟨.bool (decide ((((((((((((True)∧(True))∧(True))∧(¬(False)))∧(((stt1:Nat):Int)=(0:Int)))∧(True))∧(((stt2:Nat):Int)=(170:Int)))∧(((stt3:Nat):Int)=(170:Int)))∧(((stt4:Nat):Int)=(0:Int)))∧(True))∧(True))∧(True))),AA.one (fV.tmp rfl),_,rfl,hX,?_⟩;dsimp only;exact congrArg _ (decide_eq_true ⟨⟨⟨⟨⟨⟨⟨⟨⟨⟨⟨trivial,trivial⟩,trivial⟩,id⟩,by omega⟩,trivial⟩,by omega⟩,by omega⟩,by omega⟩,trivial⟩,trivial⟩,trivial⟩)
end Go.TL
