/-
  KernelSaturates answers true for every input, and its arguments read afterwards as they read before.
  Conditions: none.
-/
import Derived.ProofKit
import Derived.OpenShut
import Derived.ChangeOld
import Derived.Lib.SmallJoins
import Derived.Test.YtgkokhkpdlekcaaGreatM8
namespace Go.TL
open Go.RowKit Go.Proofs
set_option linter.unusedVariables false
set_option linter.unusedSimpArgs false
set_option maxRecDepth 10000 in
set_option maxHeartbeats 800000 in
theorem AO (w:World) (x:Value) (rx cx:Nat) (Mx:Nat→Nat→Int) (btx:Nat) (hx:bk w x rx cx Mx btx) (hb1:btx + 1≤be):Calls Tryz.prog 23 #[x] w (cd w fun v w'=>v= .bool (decide (rh rx cx Mx))):=by
 have hLIM:be=562949953421312:=rfl;have hmatx:=hx;obtain ⟨sx,rfl,hrx,hcx,hSx⟩:=hx.form;refine ak (N:=79) (rs:= #[.tmp 2]) Tryz.func23 rfl rfl rfl (Nat.le_of_ble_eq_true rfl) ?_;have hX:aG w w:=aG.refl w;refine ab ?_;refine RL.x rfl rfl (cX.box [.int .i64 ((rx:Nat)),.int .i64 ((cx:Nat)),sx] rfl rfl) ?_;rintro _ w1 ⟨g1,rfl,hge1,hx1,hA1⟩;replace hX:=aG.trans hX hx1;refine RL.p rfl rfl (ct.assign rfl) ?_;refine RL.nil ?_;refine ab ?_;refine RL.p rfl rfl (af [.int .i64 ((rx:Nat)),.int .i64 ((cx:Nat)),sx] aN rfl (hA1.cells 0 _ rfl rfl)) ?_;refine RL.x rfl rfl (cX.call qi (aD rfl) (iE _ _ _ _ _ _ (bk.mk (cN.ext hSx hX) (by omega) (by omega)))) ?_;rintro _ w2 ⟨hx2,rfl⟩;replace hA1:=aQ.ext hA1 hx2;replace hX:=aG.trans hX hx2;refine RL.p rfl rfl (ct.assign rfl) ?_;refine RL.nil ?_;refine WP.seq ?_;refine ab ?_;refine RL.p rfl rfl (ct.move rfl) ?_;refine RL.p rfl rfl (ct.not (p:=True) rfl) ?_;refine RL.nil ?_;refine ag (¬(True)) rfl (fun c11=> ?_) (fun c11=> ?_)
 ·
  refine ab ?_;refine RL.p rfl rfl (ct.assign rfl) ?_;refine RL.nil ?_;refine WP.ret ?_;refine pN.ret ?_;refine ⟨.bool (false),AA.one (fV.tmp rfl),_,rfl,hX,?_⟩;dsimp only;exact absurd trivial c11
 ·
  refine WP.skip ?_;refine pN.norm ?_;refine ab ?_;refine RL.p rfl rfl (ct.assign rfl) ?_;refine RL.nil ?_;refine WP.seq ?_;refine ab ?_;refine RL.p rfl rfl (ct.assign rfl) ?_;refine RL.nil ?_;refine WP.block ?_;refine WP.loop (fun mz ez uz=>∃i:Nat,(mz=rx - i)∧(ez 1= .pointer (some ⟨g1,0,none⟩))∧(ez 4= .int .i64 (lastP Mx cx i))∧(ez 5= .int .i64 ((i:Nat)))∧(i≤rx)∧(∀a,a<i→oW Mx cx a)∧(aG w uz)∧(aQ uz g1 28 3 (bt [.int .i64 ((rx:Nat)),.int .i64 ((cx:Nat)),sx]))) (rx - 0) ?_ ?_
  · exact ⟨0,rfl,rfl,rfl,rfl,(by omega),(fun a ha=>absurd ha (by omega)),hX,hA1⟩
  rintro m1 e1 w3 ⟨i,hm1,s1_e1,s4_e1,s5_e1,hi,hok,hX1,hA1⟩;refine WP.seq ?_;refine ab ?_;refine RL.p rfl rfl (ct.move s5_e1) ?_;refine RL.p rfl rfl (ct.fieldAddr bg s1_e1) ?_;refine RL.p rfl rfl (ct.load bL rfl (hA1.at_ (i:=0) rfl rfl)) ?_;refine RL.p rfl rfl (ct.lss rfl rfl) ?_;refine RL.nil ?_;refine ag (((i:Nat):Int)<((rx:Nat):Int)) rfl (fun c15=> ?_) (fun c15=> ?_)
  ·
   refine WP.skip ?_;refine pN.norm ?_;refine WP.seq ?_;refine WP.block ?_;refine ab ?_;refine RL.p rfl rfl (ct.fieldAddr ao s1_e1) ?_;refine RL.p rfl rfl (ct.load aH rfl (hA1.at_ (i:=2) rfl rfl)) ?_;refine RL.p rfl rfl (ct.move s5_e1) ?_;refine RL.x rfl rfl (aZ (j:=i) aE rfl (cN.ext hSx hX1) rfl (by omega) (by omega)) ?_;rintro v1 _ ⟨rfl,q1⟩;refine RL.x rfl rfl (bh aT rfl q1) ?_;rintro v2 _ ⟨rfl,q2⟩;refine RL.x rfl rfl (cX.call sK (aD rfl) (mD _ _ _ _ _ q2)) ?_;rintro _ w4 ⟨hx3,rfl⟩;replace hA1:=aQ.ext hA1 hx3;replace hX1:=aG.trans hX1 hx3;refine RL.p rfl rfl (ct.assign rfl) ?_;refine RL.nil ?_;refine WP.seq ?_;refine ab ?_;refine RL.p rfl rfl (ct.move rfl) ?_;refine RL.p rfl rfl (ct.lss rfl rfl) ?_;refine RL.nil ?_;refine ag ((piv (Mx i) cx:Int)<(0:Int)) rfl (fun c25=> ?_) (fun c25=> ?_)
   ·
    refine ab ?_;refine RL.p rfl rfl (ct.fieldAddr bC s1_e1) ?_;refine RL.p rfl rfl (ct.load bL rfl (hA1.at_ (i:=1) rfl rfl)) ?_;refine RL.p rfl rfl (ct.assign rfl) ?_;refine RL.nil ?_;refine WP.exit ?_;refine pN.exit ?_;refine iZ.same ?_;refine pN.norm ?_;refine WP.region ?_;refine RL.p rfl rfl (ct.move s5_e1) ?_;refine RL.p rfl rfl (ct.add (c:=((i + 1:Nat):Int)) rfl rfl (bJ (by omega))) ?_;refine RL.p rfl rfl (ct.assign rfl) ?_;refine RL.nil ?_;refine pN.norm ⟨_,(by omega),i + 1,rfl,s1_e1,(congrArg (Value.int .i64) (lW c25)),rfl,(by omega),(ed hok (.inl c25)),hX1,hA1⟩
   ·
    refine WP.skip ?_;refine pN.norm ?_;refine WP.seq ?_;have hpa:=mG c25;refine aI an 15 [_,_,_,fun v Ba=>v= .bool (decide ((piv (Mx i) cx:Int)≤(lastP Mx cx i:Int))),_,_,_,_,_,_,_,_,_,_,_] rfl rfl (fun e_ w_ A9 A8=>⟨fun _=>aa (ct.move ((A8 6 rfl rfl))),fun _=>aa (ct.move ((A8 4 rfl s4_e1))),fun A7=>aa (ct.leq ((A7 0 rfl)) ((A7 1 rfl))),fun A7=>aa (ct.move ((A7 2 rfl))),fun A7=>gF (A7 3 rfl) fun hg=>aa (ct.fieldAddr ao ((A8 1 rfl s1_e1))),fun A7=>gF (A7 3 rfl) fun hg=>aa (ct.load aH ((A7 4 rfl hg)) ((aQ.ext hA1 A9).at_ (i:=2) rfl rfl)),fun A7=>gF (A7 3 rfl) fun hg=>aa (ct.move ((A8 5 rfl s5_e1))),fun A7=>gF (A7 3 rfl) fun hg=>ah (aZ (j:=i) aE (A7 5 rfl hg) (cN.ext (cN.ext hSx hX1) A9) (A7 6 rfl hg) (by omega) (by omega)),fun A7=>gF (A7 3 rfl) fun hg=>ah (bh aT rfl (A7 7 rfl hg)),fun A7=>gF (A7 3 rfl) fun hg=>aa (ct.move ((A8 6 rfl rfl))),fun A7=>gF (A7 3 rfl) fun hg=>ah (bn (j:=(piv (Mx i) cx).toNat) bc rfl (A7 8 rfl hg) (ov (a:=(((piv (Mx i) cx).toNat:Nat):Int)) (b:=piv (Mx i) cx) (A7 9 rfl hg) (by omega)) (by omega) (by omega)),fun A7=>gF (A7 3 rfl) fun hg=>ah (br av rfl (A7 10 rfl hg)),fun A7=>gF (A7 3 rfl) fun hg=>cX.call gb (aD rfl) (eO _ _ _ _ ((A7 11 rfl hg))),fun A7=>gF (A7 3 rfl) fun hg=>aa (ct.leq ((A7 12 rfl hg)) rfl),fun A7=>aa (bQ (p:=(piv (Mx i) cx:Int)≤(lastP Mx cx i:Int)) (q:=(((Mx i) ((piv (Mx i) cx).toNat):Int).sign:Int)≤(0:Int)) (A7 3 rfl) (fun hq=>(A7 13 rfl hq))),trivial⟩) ?_;intro e2 w5 hx4 ho1 hf1;replace hA1:=aQ.ext hA1 hx4;replace hX1:=aG.trans hX1 hx4;have s1_e2:=ho1 1 rfl s1_e1;have s4_e2:=ho1 4 rfl s4_e1;have s5_e2:=ho1 5 rfl s5_e1;have s6_e2:e2 6=_:=ho1 6 rfl rfl;have s42_e2:e2 42=_:=hf1 14 rfl;refine RL.nil ?_;refine ag (((piv (Mx i) cx:Int)≤(lastP Mx cx i:Int))∨((((Mx i) ((piv (Mx i) cx).toNat):Int).sign:Int)≤(0:Int))) s42_e2 (fun c42=> ?_) (fun c42=> ?_)
    ·
     refine ab ?_;refine RL.p rfl rfl (ct.assign rfl) ?_;refine RL.nil ?_;refine WP.ret ?_;refine pN.ret ?_;refine iZ.ret ?_;refine pN.ret ?_;refine pN.ret ?_;refine iZ.ret ?_;refine pN.ret ?_;refine ⟨.bool (false),AA.one (fV.tmp rfl),_,rfl,hX1,?_⟩;dsimp only;refine congrArg _ (decide_eq_false fun h=> ?_).symm;rcases h i (by omega) with h1 | ⟨h1,h2,_⟩
     · exact absurd h1 c25
     · rcases c42 with h3 | h3
       · omega
       · have:=(kz _).1 h3;omega
    ·
     refine WP.skip ?_;refine pN.norm ?_;refine WP.seq ?_;refine ab ?_;refine RL.p rfl rfl (ct.assign rfl) ?_;refine RL.nil ?_;refine WP.block ?_;refine WP.loop (fun mz ez uz=>∃k:Nat,(mz=i - k)∧(ez 1= .pointer (some ⟨g1,0,none⟩))∧(ez 4= .int .i64 (lastP Mx cx i))∧(ez 5= .int .i64 ((i:Nat)))∧(ez 6= .int .i64 (piv (Mx i) cx))∧(ez 7= .int .i64 ((k:Nat)))∧(k≤i)∧(∀a,a<k→0≤Mx a (piv (Mx i) cx).toNat∧Mx a (piv (Mx i) cx).toNat<Mx i (piv (Mx i) cx).toNat)∧(aG w uz)∧(aQ uz g1 28 3 (bt [.int .i64 ((rx:Nat)),.int .i64 ((cx:Nat)),sx]))) (i - 0) ?_ ?_
     · exact ⟨0,rfl,s1_e2,s4_e2,s5_e2,s6_e2,rfl,(by omega),(fun a ha=>absurd ha (by omega)),hX1,hA1⟩
     rintro m2 e3 w6 ⟨k,hm2,s1_e3,s4_e3,s5_e3,s6_e3,s7_e3,hk,hbel,hX2,hA1⟩;refine WP.seq ?_;refine ab ?_;refine RL.p rfl rfl (ct.move s7_e3) ?_;refine RL.p rfl rfl (ct.move s5_e3) ?_;refine RL.p rfl rfl (ct.lss rfl rfl) ?_;refine RL.nil ?_;refine ag (((k:Nat):Int)<((i:Nat):Int)) rfl (fun c45=> ?_) (fun c45=> ?_)
     ·
      refine WP.skip ?_;refine pN.norm ?_;refine WP.seq ?_;refine WP.block ?_;refine aI an 30 [_,_,_,_,_,_,_,_,_,_,fun v Ba=>v= .bool (decide ((((Mx k) ((piv (Mx i) cx).toNat):Int).sign:Int)<(0:Int))),_,_,_,_,_,_,_,_,_,_,_,_,_,_,_,_,_,_,_] rfl rfl (fun e_ w_ A9 A8=>⟨fun _=>aa (ct.fieldAddr ao ((A8 1 rfl s1_e3))),fun A7=>aa (ct.load aH ((A7 0 rfl)) ((aQ.ext hA1 A9).at_ (i:=2) rfl rfl)),fun _=>aa (ct.move ((A8 7 rfl s7_e3))),fun A7=>ah (aZ (j:=k) aE (A7 1 rfl) (cN.ext (cN.ext hSx hX2) A9) (A7 2 rfl) (by omega) (by omega)),fun A7=>ah (bh aT rfl (A7 3 rfl)),fun _=>aa (ct.move ((A8 6 rfl s6_e3))),fun A7=>ah (bn (j:=(piv (Mx i) cx).toNat) bc rfl (A7 4 rfl) (ov (a:=(((piv (Mx i) cx).toNat:Nat):Int)) (b:=piv (Mx i) cx) (A7 5 rfl) (by omega)) (by omega) (by omega)),fun A7=>ah (br av rfl (A7 6 rfl)),fun A7=>cX.call gb (aD rfl) (eO _ _ _ _ ((A7 7 rfl))),fun A7=>aa (ct.lss ((A7 8 rfl)) rfl),fun A7=>aa (ct.move ((A7 9 rfl))),fun A7=>gF (A7 10 rfl) fun hg=>aa (ct.fieldAddr ao ((A8 1 rfl s1_e3))),fun A7=>gF (A7 10 rfl) fun hg=>aa (ct.load aH ((A7 11 rfl hg)) ((aQ.ext hA1 A9).at_ (i:=2) rfl rfl)),fun A7=>gF (A7 10 rfl) fun hg=>aa (ct.move ((A8 7 rfl s7_e3))),fun A7=>gF (A7 10 rfl) fun hg=>ah (aZ (j:=k) aE (A7 12 rfl hg) (cN.ext (cN.ext hSx hX2) A9) (A7 13 rfl hg) (by omega) (by omega)),fun A7=>gF (A7 10 rfl) fun hg=>ah (bh aT rfl (A7 14 rfl hg)),fun A7=>gF (A7 10 rfl) fun hg=>aa (ct.move ((A8 6 rfl s6_e3))),fun A7=>gF (A7 10 rfl) fun hg=>ah (bn (j:=(piv (Mx i) cx).toNat) bc rfl (A7 15 rfl hg) (ov (a:=(((piv (Mx i) cx).toNat:Nat):Int)) (b:=piv (Mx i) cx) (A7 16 rfl hg) (by omega)) (by omega) (by omega)),fun A7=>gF (A7 10 rfl) fun hg=>ah (br av rfl (A7 17 rfl hg)),fun A7=>gF (A7 10 rfl) fun hg=>aa (ct.fieldAddr ao ((A8 1 rfl s1_e3))),fun A7=>gF (A7 10 rfl) fun hg=>aa (ct.load aH ((A7 19 rfl hg)) ((aQ.ext hA1 A9).at_ (i:=2) rfl rfl)),fun A7=>gF (A7 10 rfl) fun hg=>aa (ct.move ((A8 5 rfl s5_e3))),fun A7=>gF (A7 10 rfl) fun hg=>ah (aZ (j:=i) aE (A7 20 rfl hg) (cN.ext (cN.ext hSx hX2) A9) (A7 21 rfl hg) (by omega) (by omega)),fun A7=>gF (A7 10 rfl) fun hg=>ah (bh aT rfl (A7 22 rfl hg)),fun A7=>gF (A7 10 rfl) fun hg=>aa (ct.move ((A8 6 rfl s6_e3))),fun A7=>gF (A7 10 rfl) fun hg=>ah (bn (j:=(piv (Mx i) cx).toNat) bc rfl (A7 23 rfl hg) (ov (a:=(((piv (Mx i) cx).toNat:Nat):Int)) (b:=piv (Mx i) cx) (A7 24 rfl hg) (by omega)) (by omega) (by omega)),fun A7=>gF (A7 10 rfl) fun hg=>ah (br av rfl (A7 25 rfl hg)),fun A7=>gF (A7 10 rfl) fun hg=>cX.call zH (az rfl rfl) (Aa _ _ _ _ _ _ _ ((A7 18 rfl hg)) ((A7 26 rfl hg)) (by omega) (by omega)),fun A7=>gF (A7 10 rfl) fun hg=>aa (ct.geq ((A7 27 rfl hg)) rfl),fun A7=>aa (bQ (p:=(((Mx k) ((piv (Mx i) cx).toNat):Int).sign:Int)<(0:Int)) (q:=(0:Int)≤(bS ((Mx k) ((piv (Mx i) cx).toNat)) ((Mx i) ((piv (Mx i) cx).toNat)):Int)) (A7 10 rfl) (fun hq=>(A7 28 rfl hq))),trivial⟩) ?_;intro e4 w7 hx5 ho2 hf2;replace hA1:=aQ.ext hA1 hx5;replace hX2:=aG.trans hX2 hx5;have s1_e4:=ho2 1 rfl s1_e3;have s4_e4:=ho2 4 rfl s4_e3;have s5_e4:=ho2 5 rfl s5_e3;have s6_e4:=ho2 6 rfl s6_e3;have s7_e4:=ho2 7 rfl s7_e3;have s77_e4:e4 77=_:=hf2 29 rfl;refine RL.nil ?_;refine ag (((((Mx k) ((piv (Mx i) cx).toNat):Int).sign:Int)<(0:Int))∨((0:Int)≤(bS ((Mx k) ((piv (Mx i) cx).toNat)) ((Mx i) ((piv (Mx i) cx).toNat)):Int))) s77_e4 (fun c77=> ?_) (fun c77=> ?_)
      ·
       refine ab ?_;refine RL.p rfl rfl (ct.assign rfl) ?_;refine RL.nil ?_;refine WP.ret ?_;refine iZ.ret ?_;refine pN.ret ?_;refine pN.ret ?_;refine iZ.ret ?_;refine pN.ret ?_;refine iZ.ret ?_;refine pN.ret ?_;refine pN.ret ?_;refine iZ.ret ?_;refine pN.ret ?_;refine ⟨.bool (false),AA.one (fV.tmp rfl),_,rfl,hX2,?_⟩;dsimp only;refine congrArg _ (decide_eq_false fun h=> ?_).symm;rcases h i (by omega) with h1 | ⟨_,_,h1⟩
       · exact absurd h1 c25
       · have h2:=h1 k (by omega)
         rcases c77 with h3 | h3
         · have:=(dL _).1 h3;omega
         · have:=(iQ _ _).1 h3;omega
      ·
       refine WP.skip ?_;refine iZ.norm ?_;refine pN.norm ?_;refine WP.region ?_;refine RL.p rfl rfl (ct.move s7_e4) ?_;refine RL.p rfl rfl (ct.add (c:=((k + 1:Nat):Int)) rfl rfl (bJ (by omega))) ?_;refine RL.p rfl rfl (ct.assign rfl) ?_;refine RL.nil ?_;have hnb:0≤Mx k (piv (Mx i) cx).toNat∧Mx k (piv (Mx i) cx).toNat<Mx i (piv (Mx i) cx).toNat:=⟨by have:=mt (dL (Mx k (piv (Mx i) cx).toNat)).2 (fun h=>c77 (.inl h));omega,by have:=mt (iQ (Mx k (piv (Mx i) cx).toNat) (Mx i (piv (Mx i) cx).toNat)).2 (fun h=>c77 (.inr h));omega⟩
       refine pN.norm ⟨_,(by omega),k + 1,rfl,s1_e4,s4_e4,s5_e4,s6_e4,rfl,(by omega),(ed hbel hnb),hX2,hA1⟩
     ·
      refine WP.exit ?_;refine pN.exit ?_;refine pN.exit ?_;refine iZ.same ?_;refine pN.norm ?_;refine WP.region ?_;refine RL.p rfl rfl (ct.move s6_e3) ?_;refine RL.p rfl rfl (ct.assign rfl) ?_;refine RL.nil ?_;refine iZ.norm ?_;refine pN.norm ?_;refine WP.region ?_;refine RL.p rfl rfl (ct.move s5_e3) ?_;refine RL.p rfl rfl (ct.add (c:=((i + 1:Nat):Int)) rfl rfl (bJ (by omega))) ?_;refine RL.p rfl rfl (ct.assign rfl) ?_;refine RL.nil ?_;have hor:oW Mx cx i:= .inr ⟨by omega,by have:=mt (kz (Mx i (piv (Mx i) cx).toNat)).2 (fun h=>c42 (.inr h));omega,fun a ha=>hbel a (by omega)⟩;refine pN.norm ⟨_,(by omega),i + 1,rfl,s1_e3,(congrArg (Value.int .i64) (lV c25)),rfl,(by omega),(ed hok hor),hX2,hA1⟩
  ·
   refine WP.exit ?_;refine pN.exit ?_;refine pN.exit ?_;refine iZ.same ?_;refine pN.norm ?_;refine ab ?_;refine RL.p rfl rfl (ct.assign rfl) ?_;refine RL.nil ?_;refine WP.ret ?_;refine ⟨.bool (true),AA.one (fV.tmp rfl),_,rfl,hX1,?_⟩;dsimp only;exact congrArg _ (decide_eq_true fun a ha=>hok a (by omega)).symm
end Go.TL
namespace Go.TL
open Go.RowKit Go.Proofs
set_option linter.unusedVariables false
set_option linter.unusedSimpArgs false
section
set_option maxRecDepth 100000
theorem vl:(Array.range (1*2)).map (fun i=>([.bool (false),.slice (none) (0) (0)]:List Value).toArray[i % ([.bool (false),.slice (none) (0) (0)]:List Value).toArray.size]!)= #[.bool (false),.slice (none) (0) (0)]:=by kernel_rfl
end
set_option maxRecDepth 10000 in
set_option maxHeartbeats 1600000 in
theorem tu (w:World) (x:Value) (rx cx:Nat) (Mx:Nat→Nat→Int) (btx:Nat) (v:Value) (nv:Nat) (zv:Nat→Int) (btv:Nat) (b:Nat) (hx:bk w x rx cx Mx btx) (hv:cE w v nv zv btv) (hb:btv + rx*(btx + 1)≤b) (hl:b + btx + 301≤be):Calls Tryz.prog 58 #[x,v] w (cd w fun v w'=>(nv≠cx∧v= .tuple #[.slice none 0 0,.slice none 0 0,.int .i64 50])∨(nv=cx∧∃vq vr,v= .tuple #[vq,vr,.int .i64 0]∧cE w' vq rx (rq Mx cx zv) b∧cE w' vr cx (dD Mx cx zv rx) b)):=by
 have hLIM:be=562949953421312:=rfl;have hmatx:=hx;obtain ⟨sx,rfl,hrx,hcx,hSx⟩:=hx.form;have hlimv:=hv.lim;refine ak (N:=80) (rs:= #[.tmp 4,.tmp 5,.tmp 6]) Tryz.func58 rfl rfl rfl (Nat.le_of_ble_eq_true rfl) ?_;have hX:aG w w:=aG.refl w;have hbM:=cN.bd hSx;have hbz:=cE.bd hv;have hmul:∀q,q≤rx→q*(btx + 1)≤rx*(btx + 1):=fun q hq=>Nat.mul_le_mul_right _ hq
 have hpw0:∀q,q≤rx→2^(btv + q*(btx + 1))≤2^b:=fun q hq=>Nat.pow_le_pow_right (by decide) (by have:=hmul q hq;omega)
 refine ab ?_;refine RL.x rfl rfl (cX.box [.int .i64 ((rx:Nat)),.int .i64 ((cx:Nat)),sx] rfl rfl) ?_;rintro _ w1 ⟨g1,rfl,hge1,hx1,hA1⟩;replace hX:=aG.trans hX hx1;refine RL.p rfl rfl (ct.assign rfl) ?_;refine RL.p rfl rfl (ct.assign rfl) ?_;refine RL.p rfl rfl (ct.assign rfl) ?_;refine RL.nil ?_;refine WP.seq ?_;refine ab ?_;refine RL.p rfl rfl (ct.move rfl) ?_;refine RL.p rfl rfl (cz cY rfl (cE.ext hv hX)) ?_;refine RL.p rfl rfl (ct.fieldAddr bC rfl) ?_;refine RL.p rfl rfl (ct.load bL rfl (hA1.at_ (i:=1) rfl rfl)) ?_;refine RL.p rfl rfl (ct.neq rfl rfl) ?_;refine RL.nil ?_;refine ag (((nv:Nat):Int)≠((cx:Nat):Int)) rfl (fun c17=> ?_) (fun c17=> ?_)
 ·
  refine ab ?_;refine RL.p rfl rfl (ct.assign rfl) ?_;refine RL.p rfl rfl (ct.assign rfl) ?_;refine RL.p rfl rfl (ct.assign rfl) ?_;refine RL.nil ?_;refine WP.ret ?_;refine pN.ret ?_;refine ⟨.tuple #[.slice (none) (0) (0),.slice (none) (0) (0),.int .i64 (50)],dN (fV.tmp rfl) (fV.tmp rfl) (fV.tmp rfl),_,rfl,hX,?_⟩;dsimp only;exact .inl ⟨fun e=>c17 (by omega),rfl⟩
 ·
  refine WP.skip ?_;refine pN.norm ?_;obtain rfl:cx=nv:=by omega
  refine ab ?_;refine RL.x rfl rfl (dt cY) ?_;rintro _ w2 ⟨g2,rfl,hge2,hx2,hA2⟩;have hbs2:w.heap.size≤g2:=Nat.le_trans hX.size hge2;replace hA1:=aQ.ext hA1 hx2;replace hX:=aG.trans hX hx2;refine RL.p rfl rfl (ct.assign rfl) ?_;refine RL.nil ?_;have hQ:=fU.born (b:=b) hA2 (rq Mx cx zv) (by omega);refine ab ?_;refine RL.x rfl rfl (dt cY) ?_;rintro _ w3 ⟨g3,rfl,hge3,hx3,hA3⟩;have ne2:g2≠g3:=Nat.ne_of_lt (Nat.lt_of_lt_of_le (fU.lt hQ) hge3);have hbs3:w.heap.size≤g3:=Nat.le_trans hX.size hge3;replace hA1:=aQ.ext hA1 hx3;replace hQ:=fU.ext hQ hx3;replace hX:=aG.trans hX hx3;refine RL.p rfl rfl (ct.move rfl) ?_;refine RL.x rfl rfl (oO cY (by decide) bp rfl hA3 rfl (cE.ext hv hX) hbs3 hX.size) ?_;rintro _ w4 ⟨hk1,gr1,cr1,rfl,hbs4,hor1,hcc1,hcm1,hN1⟩;have ne4:g2≠gr1:=by
    rcases hor1 with h | h
    · rw [h];exact ne2
    · have:=fU.lt hQ;omega
  have hR1:cl w3 g3 0 (fun _=>0) 0:=⟨0,_,by decide,hA3,fun j hj=>absurd hj (by omega)⟩
  replace hA1:=aV hA1 hk1 hR1 (by decide);replace hQ:=kD hQ hk1 hR1 ne2;replace hX:=hX.step hk1 (fun b e=>by subst e;exact hbs3);replace hN1:=cl.up (b':=b) hN1 (by omega) (by omega);refine RL.p rfl rfl (ct.assign rfl) ?_;refine RL.nil ?_;refine WP.seq ?_;refine ab ?_;refine RL.p rfl rfl (ct.assign rfl) ?_;refine RL.nil ?_;refine WP.block ?_;refine WP.loop (fun mz ez uz=>∃i:Nat,∃gq:Nat,∃kq:Nat,(mz=rx - i)∧(ez 2= .pointer (some ⟨g1,0,none⟩))∧(ez 4= .slice (none) (0) (0))∧(ez 5= .slice (none) (0) (0))∧(ez 6= .int .i64 (0))∧(ez 7= .slice (some ⟨gq,0,none⟩) (i) (kq))∧(ez 8= .slice (some ⟨gr1,0,none⟩) (cx) (cr1))∧(ez 9= .int .i64 ((i:Nat)))∧(i≤rx)∧(w.heap.size≤gq)∧(gq≠gr1)∧(aG w uz)∧(aQ uz g1 28 3 (bt [.int .i64 ((rx:Nat)),.int .i64 ((cx:Nat)),sx]))∧(fU uz gq kq i (rq Mx cx zv) b)∧(cl uz gr1 cx (dD Mx cx zv i) b)) (rx - 0) ?_ ?_
  · exact ⟨0,_,_,rfl,rfl,rfl,rfl,rfl,rfl,rfl,rfl,(by omega),hbs2,ne4,hX,hA1,hQ,hN1⟩
  rintro m1 e1 w5 ⟨i,gq,kq,hm1,s2_e1,s4_e1,s5_e1,s6_e1,s7_e1,s8_e1,s9_e1,hi,hbq,hne,hX1,hA1,hQ,hN1⟩;have hRbd:=mv (c:=cx) hbM hbz (i:=i) (by omega);refine WP.seq ?_;refine ab ?_;refine RL.p rfl rfl (ct.move s9_e1) ?_;refine RL.p rfl rfl (ct.fieldAddr bg s2_e1) ?_;refine RL.p rfl rfl (ct.load bL rfl (hA1.at_ (i:=0) rfl rfl)) ?_;refine RL.p rfl rfl (ct.lss rfl rfl) ?_;refine RL.nil ?_;refine ag (((i:Nat):Int)<((rx:Nat):Int)) rfl (fun c25=> ?_) (fun c25=> ?_)
  ·
   refine WP.skip ?_;refine pN.norm ?_;refine WP.seq ?_;refine WP.block ?_;have hpw:=hpw0 i (by omega);have hpw1:=hpw0 (i + 1) (by omega);refine ab ?_;refine RL.x rfl rfl (cX.call jy (aD rfl) (nQ (0) (b) _ (by decide) (Nat.two_pow_pos b) (by omega))) ?_;rintro v1 w6 ⟨hx4,q1⟩;replace hA1:=aQ.ext hA1 hx4;replace hQ:=fU.ext hQ hx4;replace hN1:=cl.ext hN1 hx4;replace hX1:=aG.trans hX1 hx4;refine RL.x rfl rfl (cX.alloc [.bool (false),.slice (none) (0) (0)] bp rfl) ?_;rintro _ w7 ⟨g4,rfl,hge4,hx5,hA4⟩;have ne5:gq≠g4:=Nat.ne_of_lt (Nat.lt_of_lt_of_le (fU.lt hQ) hge4);have ne6:g1≠g4:=Nat.ne_of_lt (Nat.lt_of_lt_of_le hA1.lt hge4);have ne7:gr1≠g4:=Nat.ne_of_lt (Nat.lt_of_lt_of_le (cl.lt hN1) hge4);have hbs5:w.heap.size≤g4:=Nat.le_trans hX1.size hge4;replace hA1:=aQ.ext hA1 hx5;replace hQ:=fU.ext hQ hx5;replace hN1:=cl.ext hN1 hx5;replace q1:=al.ext q1 hx5;replace hX1:=aG.trans hX1 hx5;obtain ⟨ca1,cb1,hq1,ho1,ho2⟩:=al.cells q1;have qi1:al w7 (.agg #[ca1,cb1]) 0 b:=hq1▸q1;refine RL.x rfl rfl (cX.store [ca1,cb1] aL rfl hq1 rfl hA4 (Nat.le_of_ble_eq_true rfl) (aU ho1 ho2)) ?_;rintro _ w8 ⟨hk2,hnew⟩;replace hN1:=kE hN1 hk2 hA4 ne7 (by decide);replace hA1:=hA1.keep hk2 ne6;replace hQ:=kC hQ hk2 hA4 ne5 (by decide);replace qi1:=ac qi1 hk2 hA4 (by decide);replace hX1:=hX1.step hk2 (fun b e=>by subst e;exact hbs5);replace hA4:=hnew.lit [ca1,cb1] rfl;clear hnew;refine RL.nil ?_;refine ab ?_;refine RL.p rfl rfl (ct.fieldAddr ao s2_e1) ?_;refine RL.p rfl rfl (ct.load aH rfl (hA1.at_ (i:=2) rfl rfl)) ?_;refine RL.p rfl rfl (ct.move s9_e1) ?_;refine RL.x rfl rfl (aZ (j:=i) aE rfl (cN.ext hSx hX1) rfl (by omega) (by omega)) ?_;rintro v2 _ ⟨rfl,q2⟩;refine RL.x rfl rfl (bh aT rfl q2) ?_;rintro v3 _ ⟨rfl,q3⟩;refine RL.x rfl rfl (cX.call sK (aD rfl) (mD _ _ _ _ _ q3)) ?_;rintro _ w9 ⟨hx6,rfl⟩;replace hA1:=aQ.ext hA1 hx6;replace hQ:=fU.ext hQ hx6;replace hA4:=aQ.ext hA4 hx6;replace qi1:=al.ext qi1 hx6;replace hN1:=cl.ext hN1 hx6;replace hX1:=aG.trans hX1 hx6;refine RL.p rfl rfl (ct.assign rfl) ?_;refine RL.nil ?_;refine WP.cut (fun ez uz=>∃ka:Value,∃kb:Value,(ez 2= .pointer (some ⟨g1,0,none⟩))∧(ez 4= .slice (none) (0) (0))∧(ez 5= .slice (none) (0) (0))∧(ez 6= .int .i64 (0))∧(ez 7= .slice (some ⟨gq,0,none⟩) (i) (kq))∧(ez 8= .slice (some ⟨gr1,0,none⟩) (cx) (cr1))∧(ez 9= .int .i64 ((i:Nat)))∧(ez 10= .pointer (some ⟨g4,0,none⟩))∧(al uz (.agg #[ka,kb]) (kF Mx cx (dD Mx cx zv i) i) b)∧(aG w uz)∧(aQ uz g1 28 3 (bt [.int .i64 ((rx:Nat)),.int .i64 ((cx:Nat)),sx]))∧(fU uz gq kq i (rq Mx cx zv) b)∧(aQ uz g4 51 2 (bt [ka,kb]))∧(cl uz gr1 cx (dD Mx cx zv i) b)) ?_ ?_
   ·
    refine ab ?_;refine RL.p rfl rfl (ct.move rfl) ?_;refine RL.p rfl rfl (ct.geq rfl rfl) ?_;refine RL.nil ?_;refine ag ((0:Int)≤(piv (Mx i) cx:Int)) rfl (fun c36=> ?_) (fun c36=> ?_)
    ·
     have hpa:=mG (z:=Mx i) (n:=cx) (by omega);refine WP.ds an 13 [_,_,_,_,_,_,_,_,_,_,_,_,_] rfl rfl (fun e_ w_ A9 A8=>⟨fun _=>aa (ct.move ((A8 8 rfl s8_e1))),fun _=>aa (ct.move ((A8 11 rfl rfl))),fun A7=>aa (ct.index (j:=(piv (Mx i) cx).toNat) cY ((A7 0 rfl)) ((ov (a:=(((piv (Mx i) cx).toNat:Nat):Int)) (b:=piv (Mx i) cx) (A7 1 rfl) (by omega))) rfl (by omega) (by omega)),fun A7=>ah (aM (j:=(piv (Mx i) cx).toNat) av (A7 2 rfl) (cl.ext hN1 A9) (by omega)),fun _=>aa (ct.fieldAddr ao ((A8 2 rfl s2_e1))),fun A7=>aa (ct.load aH ((A7 4 rfl)) ((aQ.ext hA1 A9).at_ (i:=2) rfl rfl)),fun _=>aa (ct.move ((A8 9 rfl s9_e1))),fun A7=>ah (aZ (j:=i) aE (A7 5 rfl) (cN.ext (cN.ext hSx hX1) A9) (A7 6 rfl) (by omega) (by omega)),fun A7=>ah (bh aT rfl (A7 7 rfl)),fun _=>aa (ct.move ((A8 11 rfl rfl))),fun A7=>ah (bn (j:=(piv (Mx i) cx).toNat) bc rfl (A7 8 rfl) (ov (a:=(((piv (Mx i) cx).toNat:Nat):Int)) (b:=piv (Mx i) cx) (A7 9 rfl) (by omega)) (by omega) (by omega)),fun A7=>ah (br av rfl (A7 10 rfl)),fun A7=>cX.call wZ (az rfl rfl) (qx _ _ _ _ _ _ _ (A7 3 rfl) (A7 11 rfl) hpa.2.2.1 (by omega)),trivial⟩) ?_;intro e2 w10 hx7 ho3 hf1;replace hA1:=aQ.ext hA1 hx7;replace hQ:=fU.ext hQ hx7;replace hA4:=aQ.ext hA4 hx7;replace hN1:=cl.ext hN1 hx7;replace hX1:=aG.trans hX1 hx7;have s2_e2:=ho3 2 rfl s2_e1;have s4_e2:=ho3 4 rfl s4_e1;have s5_e2:=ho3 5 rfl s5_e1;have s6_e2:=ho3 6 rfl s6_e1;have s7_e2:=ho3 7 rfl s7_e1;have s8_e2:=ho3 8 rfl s8_e1;have s9_e2:=ho3 9 rfl s9_e1;have s10_e2:e2 10=_:=ho3 10 rfl rfl;have s49_e2:al w10 (e2 49) (((dD Mx cx zv i) ((piv (Mx i) cx).toNat))/((Mx i) ((piv (Mx i) cx).toNat))) b:=hf1 12 rfl;obtain ⟨ca2,cb2,hq2,ho4,ho5⟩:=al.cells s49_e2;have qi2:al w10 (.agg #[ca2,cb2]) (((dD Mx cx zv i) ((piv (Mx i) cx).toNat))/((Mx i) ((piv (Mx i) cx).toNat))) b:=hq2▸s49_e2;refine RL.x rfl rfl (cX.store [ca2,cb2] aL s10_e2 hq2 rfl hA4 (Nat.le_of_ble_eq_true rfl) (aU ho4 ho5)) ?_;rintro _ w11 ⟨hk3,hnew⟩;replace hN1:=kE hN1 hk3 hA4 ne7 (by decide);replace hA1:=hA1.keep hk3 ne6;replace hQ:=kC hQ hk3 hA4 ne5 (by decide);replace qi2:=ac qi2 hk3 hA4 (by decide);replace hX1:=hX1.step hk3 (fun b e=>by subst e;exact hbs5);replace hA4:=hnew.lit [ca2,cb2] rfl;clear hnew;refine RL.nil ?_;refine pN.norm ⟨ca2,cb2,s2_e2,s4_e2,s5_e2,s6_e2,s7_e2,s8_e2,s9_e2,s10_e2,(al.eq qi2 (nO (by omega)).symm (by have:=mw (M:=Mx) (i:=i) hRbd;exact Nat.lt_of_lt_of_le this hpw) (by omega)),hX1,hA1,hQ,hA4,hN1⟩
    ·
     refine WP.skip ?_;refine pN.norm ⟨ca1,cb1,s2_e1,s4_e1,s5_e1,s6_e1,s7_e1,s8_e1,s9_e1,rfl,(al.eq qi1 (tp (by omega)).symm (by have:=mw (M:=Mx) (i:=i) hRbd;exact Nat.lt_of_lt_of_le this hpw) (by omega)),hX1,hA1,hQ,hA4,hN1⟩
   rintro e3 w12 ⟨ka,kb,s2_e3,s4_e3,s5_e3,s6_e3,s7_e3,s8_e3,s9_e3,s10_e3,hIk,hX2,hA1,hQ,hA4,hN1⟩;have hKc:=al.cells hIk;refine WP.seq ?_
   skip
   refine ab ?_;refine RL.p rfl rfl (ct.assign rfl) ?_;refine RL.nil ?_;refine WP.block ?_;refine WP.loop (fun mz ez uz=>∃j:Nat,(mz=cx - j)∧(ez 2= .pointer (some ⟨g1,0,none⟩))∧(ez 4= .slice (none) (0) (0))∧(ez 5= .slice (none) (0) (0))∧(ez 6= .int .i64 (0))∧(ez 7= .slice (some ⟨gq,0,none⟩) (i) (kq))∧(ez 8= .slice (some ⟨gr1,0,none⟩) (cx) (cr1))∧(ez 9= .int .i64 ((i:Nat)))∧(ez 10= .pointer (some ⟨g4,0,none⟩))∧(ez 12= .int .i64 ((j:Nat)))∧(j≤cx)∧(aG w uz)∧(aQ uz g1 28 3 (bt [.int .i64 ((rx:Nat)),.int .i64 ((cx:Nat)),sx]))∧(fU uz gq kq i (rq Mx cx zv) b)∧(aQ uz g4 51 2 (bt [ka,kb]))∧(cl uz gr1 cx (gf (dD Mx cx zv i) (dD Mx cx zv (i + 1)) j) b)∧(al uz (.agg #[ka,kb]:Value) ((kF Mx cx (dD Mx cx zv i) i)) b)) (cx - 0) ?_ ?_
   · exact ⟨0,rfl,s2_e3,s4_e3,s5_e3,s6_e3,s7_e3,s8_e3,s9_e3,s10_e3,rfl,(by omega),hX2,hA1,hQ,hA4,(by rw [po];exact hN1),hIk⟩
   rintro m2 e4 w13 ⟨j,hm2,s2_e4,s4_e4,s5_e4,s6_e4,s7_e4,s8_e4,s9_e4,s10_e4,s12_e4,hj,hX3,hA1,hQ,hA4,hN1,hIk⟩;refine WP.seq ?_;refine ab ?_;refine RL.p rfl rfl (ct.move s12_e4) ?_;refine RL.p rfl rfl (ct.fieldAddr bC s2_e4) ?_;refine RL.p rfl rfl (ct.load bL rfl (hA1.at_ (i:=1) rfl rfl)) ?_;refine RL.p rfl rfl (ct.lss rfl rfl) ?_;refine RL.nil ?_;refine ag (((j:Nat):Int)<((cx:Nat):Int)) rfl (fun c53=> ?_) (fun c53=> ?_)
   ·
    refine WP.skip ?_;refine pN.norm ?_;refine WP.seq ?_;refine WP.block ?_;refine WP.ds an 18 [_,_,_,_,_,_,_,_,_,_,_,_,_,_,_,_,_,_] rfl rfl (fun e_ w_ A9 A8=>⟨fun _=>aa (ct.move ((A8 8 rfl s8_e4))),fun _=>aa (ct.move ((A8 12 rfl s12_e4))),fun _=>aa (ct.move ((A8 8 rfl s8_e4))),fun _=>aa (ct.move ((A8 12 rfl s12_e4))),fun A7=>aa (ct.index (j:=j) cY ((A7 2 rfl)) ((A7 3 rfl)) rfl (by omega) (by omega)),fun A7=>ah (aM (j:=j) av (A7 4 rfl) (cl.ext hN1 A9) (by omega)),fun _=>aa (af [ka,kb] av ((A8 10 rfl s10_e4)) ((aQ.ext hA4 A9).cells 0 _ rfl rfl)),fun _=>aa (ct.fieldAddr ao ((A8 2 rfl s2_e4))),fun A7=>aa (ct.load aH ((A7 7 rfl)) ((aQ.ext hA1 A9).at_ (i:=2) rfl rfl)),fun _=>aa (ct.move ((A8 9 rfl s9_e4))),fun A7=>ah (aZ (j:=i) aE (A7 8 rfl) (cN.ext (cN.ext hSx hX3) A9) (A7 9 rfl) (by omega) (by omega)),fun A7=>ah (bh aT rfl (A7 10 rfl)),fun _=>aa (ct.move ((A8 12 rfl s12_e4))),fun A7=>ah (bn (j:=j) bc rfl (A7 11 rfl) (A7 12 rfl) (by omega) (by omega)),fun A7=>ah (br av rfl (A7 13 rfl)),fun A7=>cX.call iw (az ((A7 6 rfl)) rfl) (iD _ _ _ _ _ _ _ ((b) + (btx)) ((al.ext hIk A9)) ((A7 14 rfl)) (by omega) (by omega)),fun A7=>cX.call nD (az rfl rfl) (nP _ _ _ _ _ _ _ (max (b) ((b) + (btx)) + 1) ((A7 5 rfl)) ((A7 15 rfl)) (by omega) (by omega) (by omega)),fun A7=>aa (ct.index (j:=j) cY ((A7 0 rfl)) ((A7 1 rfl)) rfl (by omega) (by omega)),trivial⟩) ?_;intro e5 w14 hx8 ho6 hf2;replace hA1:=aQ.ext hA1 hx8;replace hQ:=fU.ext hQ hx8;replace hA4:=aQ.ext hA4 hx8;replace hN1:=cl.ext hN1 hx8;replace hIk:=al.ext hIk hx8;replace hX3:=aG.trans hX3 hx8;have s2_e5:=ho6 2 rfl s2_e4;have s4_e5:=ho6 4 rfl s4_e4;have s5_e5:=ho6 5 rfl s5_e4;have s6_e5:=ho6 6 rfl s6_e4;have s7_e5:=ho6 7 rfl s7_e4;have s8_e5:=ho6 8 rfl s8_e4;have s9_e5:=ho6 9 rfl s9_e4;have s10_e5:=ho6 10 rfl s10_e4;have s12_e5:=ho6 12 rfl s12_e4;have s72_e5:al w14 (e5 72) (((gf (dD Mx cx zv i) (dD Mx cx zv (i + 1)) j) j:Int) - (((kF Mx cx (dD Mx cx zv i) i):Int)*((Mx i) j:Int):Int)) (max (b) ((b) + (btx)) + 1):=hf2 16 rfl;have s73_e5:e5 73=_:=hf2 17 rfl;refine RL.x rfl rfl (ig (j:=j) aL s73_e5 rfl (al.eq s72_e5 (by rw [pp];rfl) (Nat.lt_of_lt_of_le (mv (c:=cx) hbM hbz (i:=i + 1) (by omega) j (by omega)) hpw1) (by omega)) hN1 (by omega)) ?_;rintro _ w15 ⟨hk4,hN2⟩;replace hA1:=aV hA1 hk4 hN1 (by decide);replace hQ:=kD hQ hk4 hN1 hne;replace hA4:=hA4.keep hk4 (Ne.symm ne7);replace hIk:=bM hIk hk4 hN1;replace hX3:=hX3.step hk4 (fun b e=>by subst e;exact hbs4);replace hN1:=hN2;refine RL.nil ?_;refine iZ.norm ?_;refine pN.norm ?_;refine WP.region ?_;refine RL.p rfl rfl (ct.move s12_e5) ?_;refine RL.p rfl rfl (ct.add (c:=((j + 1:Nat):Int)) rfl rfl (bJ (by omega))) ?_;refine RL.p rfl rfl (ct.assign rfl) ?_;refine RL.nil ?_;refine pN.norm ⟨_,(by omega),j + 1,rfl,s2_e5,s4_e5,s5_e5,s6_e5,s7_e5,s8_e5,s9_e5,s10_e5,rfl,(by omega),hX3,hA1,hQ,hA4,oI hN1 (ru rfl),hIk⟩
   ·
    refine WP.exit ?_;refine pN.exit ?_;refine pN.exit ?_;refine iZ.same ?_;refine pN.norm ?_;refine WP.region ?_;refine RL.p rfl rfl (ct.move s7_e4) ?_;refine RL.p rfl rfl (af [ka,kb] av s10_e4 (hA4.cells 0 _ rfl rfl)) ?_;refine RL.x rfl rfl (cX.buildSlice (vs:= [(0,.agg #[ka,kb])]) [.bool (false),.slice (none) (0) (0)] [ka,kb] cY bp rfl (em rfl) rfl (by decide) vl rfl) ?_;rintro _ w16 ⟨g5,rfl,hge5,hx9,hA5⟩;replace hA1:=aQ.ext hA1 hx9;replace hQ:=fU.ext hQ hx9;replace hN1:=cl.ext hN1 hx9;replace hIk:=al.ext hIk hx9;replace hX3:=aG.trans hX3 hx9;refine RL.x rfl rfl (oK cY (by decide) bp rfl rfl hQ hA5 hIk hbq hX3.size (by omega)) ?_;rintro _ w17 ⟨hk5,gq1,cq1,rfl,hbs7,hor2,hN3⟩;have ne12:gq1≠gr1:=by
      rcases hor2 with h | h
      · rw [h];exact hne
      · have:=cl.lt hN1;omega
    have hR2:=fU.rowB hQ;replace hA1:=aV hA1 hk5 hR2 (by decide);replace hN1:=cl.keep hN1 hk5 (Ne.symm hne) hR2.nu;replace hX3:=hX3.step hk5 (fun b e=>by subst e;exact hbq);refine RL.p rfl rfl (ct.assign rfl) ?_;refine RL.nil ?_;refine iZ.norm ?_;refine pN.norm ?_;refine WP.region ?_;refine RL.p rfl rfl (ct.move s9_e4) ?_;refine RL.p rfl rfl (ct.add (c:=((i + 1:Nat):Int)) rfl rfl (bJ (by omega))) ?_;refine RL.p rfl rfl (ct.assign rfl) ?_;refine RL.nil ?_;refine pN.norm ⟨_,(by omega),i + 1,_,_,rfl,s2_e4,s4_e4,s5_e4,s6_e4,rfl,s8_e4,rfl,(by omega),hbs7,ne12,hX3,hA1,hN3,cl.congr hN1 (fun c hc=>rv _ _ (by omega))⟩
  ·
   refine WP.exit ?_;refine pN.exit ?_;refine pN.exit ?_;refine iZ.same ?_;refine pN.norm ?_;refine ab ?_;refine RL.p rfl rfl (ct.move s7_e1) ?_;refine RL.p rfl rfl (ct.move s8_e1) ?_;refine RL.p rfl rfl (ct.assign rfl) ?_;refine RL.p rfl rfl (ct.assign rfl) ?_;refine RL.p rfl rfl (ct.assign rfl) ?_;refine RL.nil ?_;refine WP.ret ?_;refine ⟨.tuple #[.slice (some ⟨gq,0,none⟩) (i) (kq),.slice (some ⟨gr1,0,none⟩) (cx) (cr1),.int .i64 (0)],dN (fV.tmp rfl) (fV.tmp rfl) (fV.tmp rfl),_,rfl,hX1,?_⟩;dsimp only;have hir:i=rx:=by omega
   subst hir;refine .inr ⟨by omega,_,_,rfl,hQ.rowV,?_⟩;exact cl.rowV hN1 (by omega) ⟨by omega,by omega⟩
end Go.TL
namespace Go.TL
open Go.RowKit Go.Proofs
set_option linter.unusedVariables false
theorem rt (w:World) (x:Value) (rx cx:Nat) (Mx:Nat→Nat→Int) (btx:Nat) (v:Value) (zv:Nat→Int) (btv b:Nat) (hx:bk w x rx cx Mx btx) (hv:cE w v cx zv btv) (hb:btv + rx*(btx + 1)≤b) (hl:b + btx + 301≤be):
    Calls Tryz.prog 58 #[x,v] w (cd w fun v w'=>∃vq vr,v= .tuple #[vq,vr,.int .i64 0]∧cE w' vq rx (rq Mx cx zv) b∧cE w' vr cx (dD Mx cx zv rx) b):=by
  refine (tu w x rx cx Mx btx v cx zv btv b hx hv hb hl).mono ?_;rintro e w' ⟨v,rfl,hx',h⟩;rcases h with ⟨h,_⟩ | ⟨_,h⟩
  · exact absurd rfl h
  · exact ⟨v,rfl,hx',h⟩
end Go.TL
namespace Go.TL
open Go.RowKit Go.Proofs
set_option linter.unusedVariables false
set_option linter.unusedSimpArgs false
section
set_option maxRecDepth 100000
theorem zG:aA Tryz.prog 58=true:=by kernel_rfl
theorem zF:aA Tryz.prog 59=true:=by kernel_rfl
end
set_option maxRecDepth 10000 in
theorem pn (w:World) (x:Value) (rx cx:Nat) (Mx:Nat→Nat→Int) (btx:Nat) (v:Value) (zv:Nat→Int) (btv:Nat) (b:Nat) (hx:bk w x rx cx Mx btx) (hv:cE w v cx zv btv) (hb:btv + rx*(btx + 1)≤b) (hl:b + btx + 301≤be):Calls Tryz.prog 29 #[x,v] w (cd w fun v w'=>v= .bool (decide (∀j,j<cx→dD Mx cx zv rx j=0))):=by
 have hLIM:be=562949953421312:=rfl;have hmatx:=hx;obtain ⟨sx,rfl,hrx,hcx,hSx⟩:=hx.form;have hlimv:=hv.lim;refine ak (N:=21) (rs:= #[.tmp 4]) Tryz.func29 rfl rfl rfl (Nat.le_of_ble_eq_true rfl) ?_;have hX:aG w w:=aG.refl w;refine ab ?_;refine RL.x rfl rfl (cX.box [.int .i64 ((rx:Nat)),.int .i64 ((cx:Nat)),sx] rfl rfl) ?_;rintro _ w1 ⟨g1,rfl,hge1,hx1,hA1⟩;replace hX:=aG.trans hX hx1;refine RL.p rfl rfl (ct.assign rfl) ?_;refine RL.nil ?_;refine ab ?_;refine RL.p rfl rfl (af [.int .i64 ((rx:Nat)),.int .i64 ((cx:Nat)),sx] aN rfl (hA1.cells 0 _ rfl rfl)) ?_;refine RL.p rfl rfl (ct.move rfl) ?_;refine RL.x rfl rfl (cX.call zG (az rfl rfl) (rt _ _ _ _ _ _ _ _ _ b (bk.mk (cN.ext hSx hX) (by omega) (by omega)) (cE.ext hv hX) hb hl)) ?_;rintro _ w2 ⟨hx2,vq1,vr1,rfl,q1,q2⟩;replace hX:=aG.trans hX hx2;refine RL.p rfl rfl (ct.move rfl) ?_;refine RL.p rfl rfl (ct.extract rfl rfl) ?_;refine RL.p rfl rfl (ct.extract rfl rfl) ?_;refine RL.p rfl rfl (ct.extract rfl rfl) ?_;refine RL.p rfl rfl (ct.assign rfl) ?_;refine RL.p rfl rfl (ct.assign rfl) ?_;refine RL.p rfl rfl (ct.assign rfl) ?_;refine RL.nil ?_;refine aI an 6 [_,_,fun v Ba=>v= .bool (decide ((0:Int)=(0:Int))),_,fun v Ba=>((0:Int)=(0:Int))→(v= .bool (decide (∀j,j<cx→(dD Mx cx zv rx) j=0))),_] rfl rfl (fun e_ w_ A9 A8=>⟨fun _=>aa (ct.move ((A8 7 rfl rfl))),fun A7=>aa (ct.eql ((A7 0 rfl)) rfl),fun A7=>aa (ct.move ((A7 1 rfl))),fun A7=>gT (A7 2 rfl) fun hg=>aa (ct.move ((A8 6 rfl rfl))),fun A7=>gT (A7 2 rfl) fun hg=>cX.call zF (aD ((A7 3 rfl hg))) (vM _ _ _ _ _ (cE.ext q2 A9)),fun A7=>aa (aB (p:=(0:Int)=(0:Int)) (q:=∀j,j<cx→(dD Mx cx zv rx) j=0) (A7 2 rfl) (fun hq=>(A7 4 rfl hq))),trivial⟩) ?_;intro e1 w3 hx3 ho1 hf1;replace hX:=aG.trans hX hx3;have s20_e1:e1 20=_:=hf1 5 rfl;refine RL.p rfl rfl (ct.assign s20_e1) ?_;refine RL.nil ?_;refine WP.ret ?_;refine ⟨.bool (decide (((0:Int)=(0:Int))∧(∀j,j<cx→(dD Mx cx zv rx) j=0))),AA.one (fV.tmp rfl),_,rfl,hX,?_⟩;dsimp only;exact congrArg Value.bool (decide_eq_decide.2 ⟨fun h=>h.2,fun h=>⟨rfl,h⟩⟩)
end Go.TL
namespace Go.TL
open Go.RowKit
set_option linter.unusedVariables false
def A3 (w:World) (v:Value) (B n:Nat) (z:Nat→Int) (b:Nat):Prop:=∃g k,v= .slice (some ⟨g,0,none⟩) n k∧n≤k∧k<9223372036854775808∧B≤g∧cl w g n z b
section
variable {P:Program} {e:cD} {w:World} {d:Option Tmp} {ty:TypeId} {pos:String} {after:Array Edge} {gd:Option (Nat×Bool)}
theorem pU {t i ft k:Nat} {x:Operand} {cs:Array Value} {r:Value} (hf:fh P t i ft k=true) (ho:ff P ft=true) (hx:ev e x= .agg cs) (hr:cs[k]? =some r):
    ct P ⟨d,.field t x i,ty,pos,after,gd⟩ e w r:=by
  unfold fh at hf
  split at hf
  · rename_i fs hs
    split at hf
    · rename_i fd hfd
      simp only [Bool.and_eq_true] at hf;have e1:=Nat.eq_of_beq_eq_true hf.1;have e2:=Nat.eq_of_beq_eq_true hf.2;subst e2;have hn:(isAgg fd.type).run P w= .ok false w:=by
        unfold ff at ho
        cases hu:P.underlying fd.type with
        | none=>rw [hu] at ho;cases ho
        | some dsc=>
          rw [hu] at ho;cases dsc<;>first | (simp at ho;done) | simp [isAgg,run_underlying hu]
      simp only [ct,execOp,hx,Instr.field,Sem.run_bind,run_underlying hs,Result.andThen_ok,hfd,asAgg,Sem.run_pure,part,hn,Bool.false_eq_true,if_false,e1];rw [hr];rfl
    · cases hf
  · cases hf
end
theorem A3.rowV {w:World} {v:Value} {B n b:Nat} {z:Nat→Int} (h:A3 w v B n z b) (hn:n≤65536):cE w v n z b:=by
  obtain ⟨g,k,rfl,h1,h2,_,h3⟩:=h;exact h3.rowV h1 ⟨h2,hn⟩
end Go.TL
namespace Go.TL
open Go.RowKit Go.Proofs
set_option linter.unusedVariables false
set_option linter.unusedSimpArgs false
section
set_option maxRecDepth 100000
theorem vw:fh Tryz.prog 28 0 3 0=true:=by kernel_rfl
end
set_option maxRecDepth 10000 in
theorem vO (w:World) (x:Value) (rx cx:Nat) (Mx:Nat→Nat→Int) (btx:Nat) (e0 b rk:Nat) (hx:bk w x rx cx Mx btx) (h8:rx≤8) (hM:∀i j,i<rx→j<cx→(Mx i j).natAbs≤2^e0) (hb:bR e0 rx≤b) (hb1:2 + e0≤b) (hl:2*b + 300≤be) (hrk:∀k S,HermR rx cx e0 Mx k S→k=rk):Calls Tryz.prog 25 #[x] w (cd w fun v w'=>v= .int .i64 (rk:Nat)):=by
 have hLIM:be=562949953421312:=rfl;have hmatx:=hx;obtain ⟨sx,rfl,hrx,hcx,hSx⟩:=hx.form;refine ak (N:=6) (rs:= #[.tmp 2]) Tryz.func25 rfl rfl rfl (Nat.le_of_ble_eq_true rfl) ?_;have hX:aG w w:=aG.refl w;refine ab ?_;refine RL.x rfl rfl (cX.box [.int .i64 ((rx:Nat)),.int .i64 ((cx:Nat)),sx] rfl rfl) ?_;rintro _ w1 ⟨g1,rfl,hge1,hx1,hA1⟩;replace hX:=aG.trans hX hx1;refine RL.p rfl rfl (ct.assign rfl) ?_;refine RL.nil ?_;refine ab ?_;refine RL.p rfl rfl (af [.int .i64 ((rx:Nat)),.int .i64 ((cx:Nat)),sx] aN rfl (hA1.cells 0 _ rfl rfl)) ?_;refine RL.x rfl rfl (cX.call xn (aD rfl) (qy _ _ _ _ _ _ e0 b (bk.mk (cN.ext hSx hX) (by omega) (by omega)) h8 hM hb hb1 hl)) ?_;rintro v1 w2 ⟨hx2,kf,Sf,hHf,q1⟩;replace hX:=aG.trans hX hx2;obtain rfl:kf=rk:=hrk kf Sf hHf;obtain ⟨sf,rfl,hf1,hf2,hf3⟩:=q1.form;refine RL.p rfl rfl (pU vw bL rfl rfl) ?_;refine RL.p rfl rfl (ct.assign rfl) ?_;refine RL.nil ?_;refine WP.ret ?_;refine ⟨.int .i64 ((kf:Nat)),AA.one (fV.tmp rfl),_,rfl,hX,?_⟩
 rfl
end Go.TL
namespace Go.TL
set_option linter.unusedVariables false
theorem qs {k c:Nat} {M:Nat→Nat→Int} {P:Nat→Nat} {a v:Nat→Int} (h:dP k c M P) (hv:∀j,j<c→v j=aq k (fun i=>a i*M i j)):
    ∀{i:Nat},i≤k→∀j,j<c→dD M c v i j + aq i (fun n=>a n*M n j)=v j
  | 0,_,j,_=>by simp [dD,aq]
  | i + 1,hi,j,hj=>by
    have ih:=qs h hv (i:=i) (by omega);obtain ⟨g1,g2,g3,g4⟩:=h i (by omega);have hp:piv (M i) c=(P i:Int):=mF g1 (by omega) g3;have h1:v (P i)=aq (i + 1) (fun n=>a n*M n (P i)):=by
      rw [hv _ g1];exact eM hi fun n h1 h2=>by rw [(h n h2).2.2.1 (P i) ((h n h2).2.2.2 i (by omega)).1,Int.mul_zero]
    have h2:dD M c v i (P i)=a i*M i (P i):=by
      have:=ih (P i) g1;rw [h1] at this;simp only [aq] at this;omega
    have hK:kF M c (dD M c v i) i=a i:=by
      rw [nO (by rw [hp];omega),hp,Int.toNat_natCast,h2];exact Int.mul_ediv_cancel _ (by omega)
    have:=ih j hj;simp only [dD,aq,hK];omega
theorem tn {k c:Nat} {M:Nat→Nat→Int} {P:Nat→Nat} {v:Nat→Int} (h:dP k c M P) (hv:et k c M v):∀j,j<c→dD M c v k j=0:=by
  obtain ⟨a,ha⟩:=hv;intro j hj;have:=qs h ha (Nat.le_refl k) j hj;rw [ha j hj] at this;omega
theorem rp {r c n k:Nat} {M0:Nat→Nat→Int} {S:WS} (hl:Lin r c M0 S) {a:Nat→Int} (hk:k + n≤r) (h:∀j,j<r→aq n (fun x=>a x*S.U (k + x) j)=0) {y:Nat} (hy:y<n):a y=0:=by
  have e1:=cL n r a (fun i=>S.U (k + i)) S.V (k + y);rw [bY (f:=fun x=>aq n (fun i=>a i*S.U (k + i) x)*S.V x (k + y)) fun x hx=>by rw [h x hx,Int.zero_mul]] at e1;have e2:aq n (fun i=>a i*cg r (fun i=>S.U (k + i)) S.V i (k + y))=aq n (fun i=>a i*ca (k + i) (k + y)):=aw fun i hi=>by
    have:=hl.uv (k + i) (k + y) (by omega) (by omega);rw [←this];rfl
  rw [e2,cH hy fun x _ hne=>by simp [ca,hne]] at e1
  simpa [ca] using e1
theorem en.rank {r c e0 k:Nat} {M0 M:Nat→Nat→Int} (h:en r c e0 M0 k M):∃k1 S1,Herm r c e0 M0 k1 S1∧k + k1=r:=by
  obtain ⟨k1,S1,S2,h1,h2,rfl⟩:=h;refine ⟨k1,S1,h1,?_⟩;have hk1:=h1.kr;have hk:=h2.kr
  apply Classical.byContradiction;intro hne
  have hlt:k<r - k1:=by omega
  obtain ⟨_,hz⟩:=h2.ech.toP;have hzero:∀j,j<r→aq (r - k1) (fun x=>S2.U k x*S1.U (k1 + x) j)=0:=fun j hj=>by
    have e1:=h2.lin.eq k j hlt hj;rw [hz k (Nat.le_refl _) hlt j hj] at e1;exact e1.symm
  have hU:∀x,x<r - k1→S2.U k x=0:=fun x hx=>rp h1.lin (by omega) hzero hx
  have e2:=h2.lin.uv k k hlt hlt;rw [show cg (r - k1) S2.U S2.V k k=0 from bY fun x hx=>by rw [hU x hx,Int.zero_mul]] at e2;simp [ca] at e2
theorem en.isH {r c e0 k:Nat} {M0 M:Nat→Nat→Int} (h:en r c e0 M0 k M):rh k r M:=by
  obtain ⟨⟨P,hP⟩,_⟩:=h.lat;exact hP.isH fun a h1 h2=>absurd h2 (by omega)
theorem jQ {k c:Nat} {M:Nat→Nat→Int} {v:Nat→Int} (h:et k c M v):oH k c M v:=by
  obtain ⟨a,ha⟩:=h;intro u hu;rw [aw (g:=fun j=>aq k (fun i=>a i*M i j)*u j) fun j hj=>by rw [ha j hj]];rw [←cL k c a M (fun j _=>u j) 0];refine bY fun i hi=> ?_
  have:cg c M (fun j _=>u j) i 0=0:=by
    rw [←hu i hi];exact aw fun j _=>Int.mul_comm _ _
  rw [this,Int.mul_zero]
theorem en.satQ {r c e0 k:Nat} {M0 M:Nat→Nat→Int} (h:en r c e0 M0 k M):ng k r M:=by
  obtain ⟨_,hl⟩:=h.lat;intro v;refine ⟨jQ,fun hs=>(hl v).2 fun j hj=> ?_⟩;exact hs (fun i=>M0 i j) fun i hi=>by
    have:=(hl (M i)).1 (et.row hi) j hj;rw [←this];exact aw fun x _=>Int.mul_comm _ _
end Go.TL
namespace Go.TL
open Go.RowKit Go.Proofs
set_option linter.unusedVariables false
def AE (w:World) (v:Value) (r c:Nat) (M:Nat→Nat→Int) (b:Nat):Prop:=∃v1,v= .tuple #[v1,.int .i64 0]∧bk w v1 r c M b
theorem AE.ext {w w':World} {v:Value} {r c b:Nat} {M:Nat→Nat→Int} (h:AE w v r c M b) (hx:aG w w'):AE w' v r c M b:=by obtain ⟨v1,h1,h2⟩:=h;exact ⟨v1,h1,h2.ext hx⟩
theorem tQ (r c:Nat) (M:Nat→Nat→Int) (b:Nat):bI (fun v w=>AE w v r c M b):=fun _ _ _ h hx=>h.ext hx
instance (r c:Nat) (M:Nat→Nat→Int) (b:Nat):Nonempty (bI (fun v w=>AE w v r c M b)):=⟨tQ r c M b⟩
def AF (w:World) (v:Value):Prop:=v= .int .i64 0
theorem AF.ext {w w':World} {v:Value} (h:AF w v) (hx:aG w w'):AF w' v:=h
theorem tR:bI (fun v w=>AF w v):=fun _ _ _ h _=>h
instance:Nonempty (bI (fun v w=>AF w v)):=⟨tR⟩
theorem en.some {r c e0 k:Nat} {M0 M:Nat→Nat→Int} (h:en r c e0 M0 k M) {i:Nat} (hi:i<k):0≤piv (M i) r:=by
  obtain ⟨k1,S1,S2,h1,h2,rfl⟩:=h;exact h2.ech.some hi
end Go.TL
namespace Go.TL
set_option linter.unusedVariables false
def iq (p i:Nat):Nat:=if i<p then i else i + 1
theorem lG {p:Nat} (f:Nat→Int):∀{n:Nat},p<n + 1→aq (n + 1) f=f p + aq n (fun i=>f (iq p i))
  | 0,h=>by
    obtain rfl:p=0:=by omega
    simp [aq]
  | n + 1,h=>by
    by_cases e:p=n + 1
    · subst e
      have h1:aq (n + 1) (fun i=>f (iq (n + 1) i))=aq (n + 1) f:=aw fun i hi=>by unfold iq;rw [if_pos hi]
      rw [h1];simp only [aq];omega
    · have ih:=lG f (n:=n) (p:=p) (by omega)
      have h2:iq p n=n + 1:=by unfold iq;rw [if_neg (by omega)]
      show aq (n + 1) f + f (n + 1)=f p + (aq n (fun i=>f (iq p i)) + f (iq p n));rw [ih,h2];omega
theorem ye (p i:Nat):iq p i≠p:=by unfold iq;split<;>omega
theorem yf {p i n:Nat} (hi:i<n):iq p i<n + 1:=by unfold iq;split<;>omega
theorem jS:∀(n k:Nat),n<k→∀A:Nat→Nat→Int,∃x:Nat→Int,(∃i,i<k∧x i≠0)∧∀a,a<n→aq k (fun i=>A a i*x i)=0
  | 0,k,h,A=>⟨fun _=>1,⟨0,h,by decide⟩,fun a ha=>absurd ha (by omega)⟩
  | n + 1,k,h,A=>by
    by_cases hz:∀i,i<k→A n i=0
    · obtain ⟨x,hx,hs⟩:=jS n k (by omega) A
      refine ⟨x,hx,fun a ha=> ?_⟩
      by_cases e:a=n
      · subst e;exact bY fun i hi=>by rw [hz i hi,Int.zero_mul]
      · exact hs a (by omega)
    · have hp:∃p,p<k∧A n p≠0:=Classical.byContradiction fun hn=>hz fun i hi=>Classical.byContradiction fun e=>hn ⟨i,hi,e⟩
      obtain ⟨p,hp,hA⟩:=hp;obtain ⟨m,rfl⟩:∃m,k=m + 1:=⟨k - 1,by omega⟩
      obtain ⟨x,⟨i0,hi0,hx0⟩,hs⟩:=jS n m (by omega) (fun a i=>A n p*A a (iq p i) - A a p*A n (iq p i));have hch:∃y:Nat→Int,y p= -aq m (fun i=>A n (iq p i)*x i)∧∀i,i<m→y (iq p i)=A n p*x i:=by
        refine ⟨fun c=>if c=p then -aq m (fun i=>A n (iq p i)*x i) else A n p*x (if c<p then c else c - 1),by simp,fun i hi=> ?_⟩;have h2:(if iq p i<p then iq p i else iq p i - 1)=i:=by
          unfold iq
          by_cases h:i<p
          · rw [if_pos h,if_pos h]
          · rw [if_neg h,if_neg (by omega),Nat.add_sub_cancel]
        simp only [if_neg (ye p i),h2]
      obtain ⟨y,hy1,hy2⟩:=hch;have hsum:∀a,aq (m + 1) (fun i=>A a i*y i)=aq m (fun i=>(A n p*A a (iq p i) - A a p*A n (iq p i))*x i):=fun a=>by
        rw [lG (fun i=>A a i*y i) hp];rw [hy1,aw (f:=fun i=>A a (iq p i)*y (iq p i)) (g:=fun i=>A n p*(A a (iq p i)*x i)) fun i hi=>by rw [hy2 i hi,Int.mul_left_comm]];rw [aw (f:=fun i=>(A n p*A a (iq p i) - A a p*A n (iq p i))*x i) (g:=fun i=>A n p*(A a (iq p i)*x i) - A a p*(A n (iq p i)*x i)) fun i hi=>by rw [Int.sub_mul,Int.mul_assoc,Int.mul_assoc]];rw [fo,eh (A n p),eh (A a p),Int.mul_neg];omega
      refine ⟨y,⟨iq p i0,yf hi0,by rw [hy2 i0 hi0];exact Int.mul_ne_zero hA hx0⟩,fun a ha=> ?_⟩;rw [hsum a]
      by_cases e:a=n
      · subst e
        refine bY fun i hi=> ?_
        rw [Int.sub_self,Int.zero_mul]
      · exact hs a (by omega)
theorem dP.free {k c:Nat} {M:Nat→Nat→Int} {P:Nat→Nat} (h:dP k c M P) {x:Nat→Int} (hx:∀j,j<c→aq k (fun i=>x i*M i j)=0):∀i,i<k→x i=0:=by
  rcases h.lead (a:=x) (v:=fun _=>0) (fun j hj=>(hx j hj).symm) with h1 | ⟨j,_,_,h2,_⟩
  · exact h1
  · exact absurd rfl h2
theorem dP.le {k k' c:Nat} {M M':Nat→Nat→Int} {P P':Nat→Nat} (h:dP k c M P) (h':dP k' c M' P') (hs:∀i,i<k'→et k c M (M' i)):k'≤k:=by
  apply Classical.byContradiction;intro hn
  have hc:∃C:Nat→Nat→Int,∀i,i<k'→∀j,j<c→M' i j=aq k (fun n=>C i n*M n j):=by
    have:∀i,∃a:Nat→Int,i<k'→∀j,j<c→M' i j=aq k (fun n=>a n*M n j):=fun i=>by
      by_cases hi:i<k'
      · obtain ⟨a,ha⟩:=hs i hi;exact ⟨a,fun _=>ha⟩
      · exact ⟨fun _=>0,fun h=>absurd h hi⟩
    exact ⟨fun i=>(this i).choose,fun i hi=>(this i).choose_spec hi⟩
  obtain ⟨C,hC⟩:=hc;obtain ⟨x,⟨i,hi,hxi⟩,hx⟩:=jS k k' (by omega) (fun n i=>C i n);refine hxi (h'.free (x:=x) (fun j hj=> ?_) i hi);rw [aw (g:=fun i=>x i*cg k C M i j) fun i hi=>by rw [hC i hi j hj];rfl,cL];refine bY fun n hn=> ?_
  rw [aw (g:=fun i=>C i n*x i) fun i _=>Int.mul_comm _ _,hx n hn,Int.zero_mul]
theorem dP.perp {k k' c:Nat} {M M':Nat→Nat→Int} {P:Nat→Nat} (h:dP k c M P) (hs:∀u:Nat→Int,(∀i,i<k'→aq c (fun j=>u j*M' i j)=0)→∀i,i<k→aq c (fun j=>M i j*u j)=0):k≤k':=by
  apply Classical.byContradiction;intro hn
  obtain ⟨x,⟨i,hi,hxi⟩,hx⟩:=jS k' k (by omega) (fun a n=>M' a (P n));have hlast:∃n,n<k∧x n≠0∧∀m,n<m→m<k→x m=0:=by
    have:∀q,q≤k→(∃n,n<k∧x n≠0∧∀m,n<m→m<k→x m=0)∨∀m,k - q≤m→m<k→x m=0:=by
      intro q
      induction q with
      | zero=>intro _;exact .inr fun m h1 h2=>by omega
      | succ q ih=>
        intro hq;rcases ih (by omega) with h1 | h1
        · exact .inl h1
        · by_cases e:x (k - (q + 1))=0
          · exact .inr fun m h2 h3=>by
              by_cases e2:m=k - (q + 1)
              · rw [e2];exact e
              · exact h1 m (by omega) h3
          · exact .inl ⟨k - (q + 1),by omega,e,fun m h2 h3=>h1 m (by omega) h3⟩
    rcases this k (Nat.le_refl _) with h1 | h1
    · exact h1
    · exact absurd (h1 i (by omega) hi) hxi
  obtain ⟨n,hn1,hn2,hn3⟩:=hlast;have hsum:∀f:Nat→Int,aq c (fun j=>aq k (fun m=>if j=P m then x m else 0)*f j)=aq k (fun m=>x m*f (P m)):=fun f=>by
    rw [aw (g:=fun j=>aq k (fun m=>(if j=P m then x m else 0)*f j)) fun j _=>(jg _ _ _).symm];rw [gD];refine aw fun m hm=> ?_
    rw [cH (h m hm).1 fun j hj hne=>by rw [if_neg hne,Int.zero_mul],if_pos rfl]
  have h0:=hs (fun j=>aq k (fun m=>if j=P m then x m else 0)) (fun a ha=>by
    rw [hsum,←hx a ha];exact aw fun m _=>Int.mul_comm _ _) n hn1
  rw [aw (g:=fun j=>aq k (fun m=>if j=P m then x m else 0)*M n j) fun j _=>Int.mul_comm _ _,hsum] at h0;rw [cH hn1 fun m hm hne=>by
    rcases Nat.lt_or_ge m n with e | e
    · rw [(h n hn1).2.2.1 (P m) ((h n hn1).2.2.2 m e).1,Int.mul_zero]
    · rw [hn3 m (by omega) hm,Int.zero_mul]] at h0
  have:=(h n hn1).2.1;rcases Int.mul_eq_zero.1 h0 with e | e
  · exact hn2 e
  · omega
theorem nK {r r' c:Nat} {A A':Nat→Nat→Int} (h:∀u:Nat→Int,(∀i,i<r→aq c (fun j=>u j*A i j)=0)↔∀i,i<r'→aq c (fun j=>u j*A' i j)=0) {v:Nat→Int}:oH r c A v↔oH r' c A' v:=
  ⟨fun hs u hu=>hs u ((h u).2 hu),fun hs u hu=>hs u ((h u).1 hu)⟩
theorem iI {r r' c:Nat} {A A':Nat→Nat→Int} (h:∀i,i<r→et r' c A' (A i)) {u:Nat→Int} (hu:∀i,i<r'→aq c (fun j=>u j*A' i j)=0):∀i,i<r→aq c (fun j=>u j*A i j)=0:=fun i hi=>by
  have:=jQ (h i hi) u hu;rw [←this];exact aw fun j _=>Int.mul_comm _ _
section
variable {r c k e0:Nat} {A M:Nat→Nat→Int}
structure SatB (r c:Nat) (A:Nat→Nat→Int) (k:Nat) (M:Nat→Nat→Int):Prop where
  ech:∃P,dP k c M P
  lat:∀v,et k c M v↔oH r c A v
theorem iV.satB (h:iV r c e0 A k M):SatB r c A k M:=⟨h.lat.1,h.lat.2⟩
theorem dP.kc {P:Nat→Nat} (h:dP k c M P):k≤c:=by
  have:∀n,n≤k→∀i,i<n→i≤P i:=by
    intro n
    induction n with
    | zero=>intro _ i hi;omega
    | succ n ih=>
      intro hn i hi
      by_cases e:i=n
      · subst e
        rcases Nat.eq_zero_or_pos i with h0 | h0
        · omega
        · have:=ih (by omega) (i - 1) (by omega)
          have:=((h i (by omega)).2.2.2 (i - 1) (by omega)).1;omega
      · exact ih (by omega) i (by omega)
  rcases Nat.eq_zero_or_pos k with h0 | h0
  · omega
  · have:=this k (Nat.le_refl _) (k - 1) (by omega)
    have:=(h (k - 1) (by omega)).1;omega
theorem SatB.kc (h:SatB r c A k M):k≤c:=by obtain ⟨P,hP⟩:=h.ech;exact hP.kc
theorem SatB.isH (h:SatB r c A k M):rh k c M:=by obtain ⟨P,hP⟩:=h.ech;exact hP.isH fun a h1 h2=>absurd h2 (by omega)
theorem SatB.some (h:SatB r c A k M) {i:Nat} (hi:i<k):0≤piv (M i) c:=by
  obtain ⟨P,hP⟩:=h.ech;obtain ⟨g1,g2,g3,_⟩:=hP i hi;rw [mF g1 (by omega) g3];omega
theorem SatB.row (h:SatB r c A k M) {i:Nat} (hi:i<r):et k c M (A i):=(h.lat _).2 (jQ (et.row hi))
theorem SatB.red (h:SatB r c A k M) {i:Nat} (hi:i<r):∀j,j<c→dD M c (A i) k j=0:=by
  obtain ⟨P,hP⟩:=h.ech;exact tn hP (h.row hi)
theorem SatB.perp (h:SatB r c A k M) (u:Nat→Int):(∀i,i<k→aq c (fun j=>u j*M i j)=0)↔∀i,i<r→aq c (fun j=>u j*A i j)=0:=
  ⟨fun hu=>iI (fun i hi=>h.row hi) hu,fun hu i hi=>by
    have:=(h.lat _).1 (et.row hi) u hu;rw [←this];exact aw fun j _=>Int.mul_comm _ _⟩
theorem SatB.satQ (h:SatB r c A k M):ng k c M:=fun v=>(h.lat v).trans (nK fun u=>(h.perp u).symm)
theorem SatB.same {r2 k2:Nat} {A2 M2:Nat→Nat→Int} (h:SatB r c A k M) (h2:SatB r2 c A2 k2 M2) (hp:∀u:Nat→Int,(∀i,i<r2→aq c (fun j=>u j*A2 i j)=0)↔∀i,i<r→aq c (fun j=>u j*A i j)=0):k2=k∧∀i j,i<k2→j<c→M2 i j=M i j:=by
  obtain ⟨P,hP⟩:=h.ech;obtain ⟨P2,hP2⟩:=h2.ech;exact hP2.unique hP fun v=>(h2.lat v).trans ((nK hp).trans (h.lat v).symm)
theorem SatB.rank {e1:Nat} (h:SatB r c A k M):∀k' S',HermR r c e1 A k' S'→k'=k:=by
  intro k' S' h';obtain ⟨P,hP⟩:=h.ech;obtain ⟨P',hP'⟩:=h'.ech.toP.1;have hl:=fun v=>fN h'.lin h'.kr h'.ech (v:=v)
  have h1:k'≤k:=hP.le hP' fun i hi=>(h.lat _).2 (jQ ((hl _).2 (et.row hi)))
  have h2:k≤k':=hP.perp (M':=S'.M) fun u hu i hi=>by
    refine (h.lat _).1 (et.row hi) u fun a ha=> ?_
    exact iI (A:=A) (A':=S'.M) (r:=r) (fun i hi=>(hl _).1 (et.row hi)) hu a ha
  omega
theorem HermR.perp {k':Nat} {e1:Nat} {S':WS} (h':HermR r c e1 A k' S') (u:Nat→Int):(∀i,i<k'→aq c (fun j=>u j*S'.M i j)=0)↔∀i,i<r→aq c (fun j=>u j*A i j)=0:=
  have hl:=fun v=>fN h'.lin h'.kr h'.ech (v:=v)
  ⟨fun hu=>iI (fun i hi=>(hl _).1 (et.row hi)) hu,fun hu=>iI (fun i hi=>(hl _).2 (et.row hi)) hu⟩
end
def eP (g:Nat→Int) (m i:Nat):Int:=if i<m then (if (g i).tmod 5=0 then 1 else (g i).tmod 5) else 1
theorem vS (g:Nat→Int) (m i:Nat):eP g m i≠0:=by
  unfold eP;split
  · split
    · decide
    · assumption
  · decide
theorem qd (x:Int):(x.tmod 5).natAbs<5:=by rw [Int.natAbs_tmod];exact Nat.mod_lt _ (by decide)
theorem qc (x:Int): -9223372036854775808≤x.tmod 5∧x.tmod 5<9223372036854775808:=by have:=qd x;omega
theorem jM (g:Nat→Int) (m i:Nat):(eP g m i).natAbs≤4:=by
  unfold eP;split
  · split
    · decide
    · have:=qd (g i);omega
  · decide
theorem rF {g:Nat→Int} {m i:Nat} (hi:i<m) (h:(g i).tmod 5=0):(1:Int)=eP g m i:=by unfold eP;rw [if_pos hi,if_pos h]
theorem tO {g:Nat→Int} {m i:Nat} (hi:i<m) (h:¬(g i).tmod 5=0):(g i).tmod 5=eP g m i:=by unfold eP;rw [if_pos hi,if_neg h]
theorem tP {g:Nat→Int} {m i:Nat} (hi:m≤i):eP g m i=1:=by unfold eP;rw [if_neg (by omega)]
theorem tI {r c:Nat} {A:Nat→Nat→Int} {q:Nat→Int} (hq:∀i,q i≠0) (u:Nat→Int):(∀i,i<r→aq c (fun j=>u j*(A i j*q i))=0)↔∀i,i<r→aq c (fun j=>u j*A i j)=0:=by
  have e:∀i,aq c (fun j=>u j*(A i j*q i))=aq c (fun j=>u j*A i j)*q i:=fun i=>by
    rw [←jg];exact aw fun j _=>(Int.mul_assoc _ _ _).symm
  constructor
  · intro h i hi
    have:=h i hi;rw [e i] at this;rcases Int.mul_eq_zero.1 this with h1 | h1
    · exact h1
    · exact absurd h1 (hq i)
  · intro h i hi
    rw [e i,h i hi,Int.zero_mul]
theorem oe {x q:Int} {b:Nat} (hx:x.natAbs<2^b) (hq:q.natAbs≤4):(x*q).natAbs<2^(b + 4):=by
  rw [Int.natAbs_mul,Nat.pow_add];have:x.natAbs*q.natAbs≤x.natAbs*4:=Nat.mul_le_mul_left _ hq;omega
def gV (M:Nat→Nat→Int) (q:Nat→Int) (i j:Nat):Nat→Nat→Int:=fun a c=>if a<i∨a=i∧c<j then M a c*q a else M a c
theorem tM (M:Nat→Nat→Int) (q:Nat→Int):gV M q 0 0=M:=by funext a c;unfold gV;rw [if_neg (by omega)]
theorem rE (M:Nat→Nat→Int) (q:Nat→Int) (i j:Nat):gV M q i j i j=M i j:=by unfold gV;rw [if_neg (by omega)]
theorem tK (M:Nat→Nat→Int) (q:Nat→Int) (i j:Nat):fm (gV M q i j) i j (M i j*q i)=gV M q i (j + 1):=by
  funext a c
  simp only [fm,gV]
  by_cases e:a=i∧c=j
  · obtain ⟨rfl,rfl⟩:=e
    rw [if_pos ⟨rfl,rfl⟩,if_pos (by omega)]
  · rw [if_neg e]
    by_cases h:a<i∨a=i∧c<j
    · rw [if_pos h,if_pos (by omega)]
    · rw [if_neg h,if_neg (by omega)]
theorem tL (M:Nat→Nat→Int) (q:Nat→Int) {i j a c:Nat} (hc:c<j):gV M q i j a c=gV M q (i + 1) 0 a c:=by
  unfold gV
  by_cases h:a<i∨a=i∧c<j
  · rw [if_pos h,if_pos (by omega)]
  · rw [if_neg h,if_neg (by omega)]
theorem tN (M:Nat→Nat→Int) (g:Nat→Int) {m i a c:Nat} (h:a<i∨m≤i):gV M (eP g m) i 0 a c=M a c*eP g m a:=by
  unfold gV
  by_cases e:a<i
  · rw [if_pos (.inl e)]
  · rw [if_neg (by omega),tP (by omega),Int.mul_one]
end Go.TL
namespace Go.TL
open Go.RowKit Go.Proofs
theorem rY {w:World} {x:Value} {rx cx btx:Nat} {Mx:Nat→Nat→Int} (hx:bk w x rx cx Mx btx) (hb:btx + 4≤be):
    Calls Tryz.prog 52 #[x] w (cd w fun v w'=>cA w' v w.heap.size rx cx Mx (btx + 4)):=by
  refine (iF w x rx cx Mx btx hx (by omega)).mono ?_;rintro e w' ⟨v,rfl,hx',gh,k,ρ,rfl,h⟩;exact ⟨_,rfl,hx',gh,k,ρ,rfl,cv.up h (by omega) (by omega)⟩
end Go.TL
namespace Go.TL
open Go.RowKit Go.Proofs
set_option linter.unusedVariables false
set_option linter.unusedSimpArgs false
set_option maxRecDepth 10000 in
theorem mE (w:World) (x:Value) (rx cx:Nat) (Mx:Nat→Nat→Int) (btx:Nat) (l:Value) (m:Nat) (g:Nat→Int) (hx:bk w x rx cx Mx btx) (hl:eV .i8 77 w l m g) (hb:btx + 9≤be):Calls Tryz.prog 30 #[x,l] w (cd w fun v w'=>cA w' v w.heap.size rx cx (fun i j=>Mx i j*eP g m i) (btx + 4)):=by
 have hLIM:be=562949953421312:=rfl;have hmatx:=hx;obtain ⟨sx,rfl,hrx,hcx,hSx⟩:=hx.form;have hln:m<9223372036854775808:=by obtain ⟨_,_,_,h2,h3,_⟩:=hl;omega
 refine ak (N:=56) (rs:= #[.cell 4 28]) Tryz.func30 rfl rfl rfl (Nat.le_of_ble_eq_true rfl) ?_;have hX:aG w w:=aG.refl w;refine ab ?_;refine RL.x rfl rfl (cX.box [.int .i64 ((rx:Nat)),.int .i64 ((cx:Nat)),sx] rfl rfl) ?_;rintro _ w1 ⟨g1,rfl,hge1,hx1,hA1⟩;replace hX:=aG.trans hX hx1;refine RL.x rfl rfl (cX.alloc [.int .i64 (0),.int .i64 (0),.slice (none) (0) (0)] bH rfl) ?_;rintro _ w2 ⟨g2,rfl,hge2,hx2,hA2⟩;have hbs2:w.heap.size≤g2:=Nat.le_trans hX.size hge2;replace hA1:=aQ.ext hA1 hx2;replace hX:=aG.trans hX hx2;refine RL.nil ?_;refine ab ?_;refine RL.p rfl rfl (af [.int .i64 ((rx:Nat)),.int .i64 ((cx:Nat)),sx] aN rfl (hA1.cells 0 _ rfl rfl)) ?_;have hcp:∀i j,i<rx→j<cx→(Mx i j).natAbs<2^btx:=cN.bd hSx;have hBw1:w.heap.size≤w2.heap.size:=hX.size;refine RL.x rfl rfl (cX.call qh (aD rfl) ((rY (bk.mk (cN.ext hSx hX) (by omega) (by omega)) (by omega)))) ?_;rintro v1 w3 ⟨hx3,q1⟩;replace hA1:=aQ.ext hA1 hx3;replace hA2:=aQ.ext hA2 hx3;replace hX:=aG.trans hX hx3;refine RL.x rfl rfl (cX.alloc [.int .i64 (0),.int .i64 (0),.slice (none) (0) (0)] bH rfl) ?_;rintro _ w4 ⟨g3,rfl,hge3,hx4,hA3⟩;have ne2:g1≠g3:=Nat.ne_of_lt (Nat.lt_of_lt_of_le hA1.lt hge3);have ne3:g2≠g3:=Nat.ne_of_lt (Nat.lt_of_lt_of_le hA2.lt hge3);have hbs3:w.heap.size≤g3:=Nat.le_trans hX.size hge3;replace hA1:=aQ.ext hA1 hx4;replace hA2:=aQ.ext hA2 hx4;replace q1:=cA.ext q1 hx4;replace hX:=aG.trans hX hx4;obtain ⟨gh1,kh1,ρ1,hq1,hM1⟩:=q1;have hd1:=cv.dlim hM1;have hd2:=cv.clim hM1;refine RL.x rfl rfl (cX.store [.int .i64 ((rx:Nat)),.int .i64 ((cx:Nat)),.slice (some ⟨gh1,0,none⟩) (rx) (kh1)] bV rfl hq1 rfl hA3 (Nat.le_of_ble_eq_true rfl) (bW rfl rfl rfl)) ?_;rintro _ w5 ⟨hk1,hnew⟩;replace hM1:=aY hM1 hk1 hA3 (by decide);replace hA1:=hA1.keep hk1 ne2;replace hA2:=hA2.keep hk1 ne3;replace hX:=hX.step hk1 (fun b e=>by subst e;exact hbs3);replace hA3:=hnew.lit [.int .i64 ((rx:Nat)),.int .i64 ((cx:Nat)),.slice (some ⟨gh1,0,none⟩) (rx) (kh1)] rfl;clear hnew;refine RL.nil ?_;refine WP.seq ?_;refine ab ?_;refine RL.p rfl rfl (ct.assign rfl) ?_;refine RL.nil ?_;refine WP.block ?_;refine WP.loop (fun mz ez uz=>∃i:Nat,(mz=rx - i)∧(ez 1=l)∧(ez 2= .pointer (some ⟨g1,0,none⟩))∧(ez 4= .pointer (some ⟨g2,0,none⟩))∧(ez 5= .pointer (some ⟨g3,0,none⟩))∧(ez 6= .int .i64 ((i:Nat)))∧(i≤rx)∧(aG w uz)∧(aQ uz g1 28 3 (bt [.int .i64 ((rx:Nat)),.int .i64 ((cx:Nat)),sx]))∧(aQ uz g2 28 3 (bt [.int .i64 (0),.int .i64 (0),.slice (none) (0) (0)]))∧(aQ uz g3 28 3 (bt [.int .i64 ((rx:Nat)),.int .i64 ((cx:Nat)),.slice (some ⟨gh1,0,none⟩) (rx) (kh1)]))∧(cv uz w2.heap.size gh1 kh1 rx cx ρ1 (gV Mx (eP g m) i 0) (btx + 4))) (rx - 0) ?_ ?_
 · exact ⟨0,rfl,rfl,rfl,rfl,rfl,rfl,(by omega),hX,hA1,hA2,hA3,bj hM1 (tM Mx (eP g m)).symm⟩
 rintro m1 e1 w6 ⟨i,hm1,s1_e1,s2_e1,s4_e1,s5_e1,s6_e1,hi,hX1,hA1,hA2,hA3,hM1⟩;refine WP.seq ?_;refine aI an 10 [_,_,_,_,fun v Ba=>v= .bool (decide (((i:Nat):Int)<((rx:Nat):Int))),_,_,_,_,_] rfl rfl (fun e_ w_ A9 A8=>⟨fun _=>aa (ct.move ((A8 6 rfl s6_e1))),fun _=>aa (ct.fieldAddr bg ((A8 2 rfl s2_e1))),fun A7=>aa (ct.load bL ((A7 1 rfl)) ((aQ.ext hA1 A9).at_ (i:=0) rfl rfl)),fun A7=>aa (ct.lss ((A7 0 rfl)) ((A7 2 rfl))),fun A7=>aa (ct.move ((A7 3 rfl))),fun A7=>gT (A7 4 rfl) fun hg=>aa (ct.move ((A8 6 rfl s6_e1))),fun A7=>gT (A7 4 rfl) fun hg=>aa (ct.move ((A8 1 rfl s1_e1))),fun A7=>gT (A7 4 rfl) fun hg=>aa (ik qb (A7 6 rfl hg) (eV.ext (eV.ext hl hX1) A9)),fun A7=>gT (A7 4 rfl) fun hg=>aa (ct.lss ((A7 5 rfl hg)) ((A7 7 rfl hg))),fun A7=>aa (aB (p:=((i:Nat):Int)<((rx:Nat):Int)) (q:=((i:Nat):Int)<((m:Nat):Int)) (A7 4 rfl) (fun hq=>(A7 8 rfl hq))),trivial⟩) ?_;intro e2 w7 hx5 ho1 hf1;replace hA1:=aQ.ext hA1 hx5;replace hA2:=aQ.ext hA2 hx5;replace hA3:=aQ.ext hA3 hx5;replace hM1:=cv.ext hM1 hx5;replace hX1:=aG.trans hX1 hx5;have s1_e2:=ho1 1 rfl s1_e1;have s2_e2:=ho1 2 rfl s2_e1;have s4_e2:=ho1 4 rfl s4_e1;have s5_e2:=ho1 5 rfl s5_e1;have s6_e2:=ho1 6 rfl s6_e1;have s20_e2:e2 20=_:=hf1 9 rfl;refine RL.nil ?_;refine ag ((((i:Nat):Int)<((rx:Nat):Int))∧(((i:Nat):Int)<((m:Nat):Int))) s20_e2 (fun c20=> ?_) (fun c20=> ?_)
 ·
  refine WP.skip ?_;refine pN.norm ?_;refine WP.seq ?_;refine WP.block ?_;refine ab ?_;refine RL.p rfl rfl (ct.move s1_e2) ?_;refine RL.p rfl rfl (ct.move s6_e2) ?_;refine RL.x rfl rfl (fW (j:=i) qb rfl (eV.ext hl hX1) rfl (by omega) (by omega)) ?_;rintro v2 _ ⟨rfl,q2⟩;refine RL.p rfl rfl (gm wV rfl q2) ?_;refine RL.p rfl rfl (ct.rem (c:=(g i).tmod 5) rfl rfl (by omega) rfl) ?_;refine RL.p rfl rfl (ay (c:=(g i).tmod 5) wX nB rfl (bJ ⟨(qc _).1,Int.le_of_lt_add_one (qc _).2,rfl⟩)) ?_;refine RL.p rfl rfl (ct.assign rfl) ?_;refine RL.nil ?_;refine WP.cut (fun ez uz=>(ez 1=l)∧(ez 2= .pointer (some ⟨g1,0,none⟩))∧(ez 4= .pointer (some ⟨g2,0,none⟩))∧(ez 5= .pointer (some ⟨g3,0,none⟩))∧(ez 6= .int .i64 ((i:Nat)))∧(ez 7= .int .i64 (eP g m i))∧(aG w uz)∧(aQ uz g1 28 3 (bt [.int .i64 ((rx:Nat)),.int .i64 ((cx:Nat)),sx]))∧(aQ uz g2 28 3 (bt [.int .i64 (0),.int .i64 (0),.slice (none) (0) (0)]))∧(aQ uz g3 28 3 (bt [.int .i64 ((rx:Nat)),.int .i64 ((cx:Nat)),.slice (some ⟨gh1,0,none⟩) (rx) (kh1)]))∧(cv uz w2.heap.size gh1 kh1 rx cx ρ1 (gV Mx (eP g m) i 0) (btx + 4))∧(oX .i8 uz v2 (g i))) ?_ ?_
  ·
   refine ab ?_;refine RL.p rfl rfl (ct.move rfl) ?_;refine RL.p rfl rfl (ct.eql rfl rfl) ?_;refine RL.nil ?_;refine ag (((g i).tmod 5:Int)=(0:Int)) rfl (fun c30=> ?_) (fun c30=> ?_)
   ·
    refine WP.region ?_;refine RL.p rfl rfl (ct.assign rfl) ?_;refine RL.nil ?_;refine pN.norm ⟨s1_e2,s2_e2,s4_e2,s5_e2,s6_e2,(congrArg (Value.int .i64) (rF (by omega) c30)),hX1,hA1,hA2,hA3,hM1,q2⟩
   ·
    refine WP.skip ?_;refine pN.norm ⟨s1_e2,s2_e2,s4_e2,s5_e2,s6_e2,(congrArg (Value.int .i64) (tO (by omega) c30)),hX1,hA1,hA2,hA3,hM1,q2⟩
  rintro e3 w8 ⟨s1_e3,s2_e3,s4_e3,s5_e3,s6_e3,s7_e3,hX2,hA1,hA2,hA3,hM1,q2⟩;refine ab ?_;refine RL.p rfl rfl (ct.assign rfl) ?_;refine RL.nil ?_;refine WP.block ?_;refine WP.loop (fun mz ez uz=>∃j:Nat,(mz=cx - j)∧(ez 1=l)∧(ez 2= .pointer (some ⟨g1,0,none⟩))∧(ez 4= .pointer (some ⟨g2,0,none⟩))∧(ez 5= .pointer (some ⟨g3,0,none⟩))∧(ez 6= .int .i64 ((i:Nat)))∧(ez 7= .int .i64 (eP g m i))∧(ez 8= .int .i64 ((j:Nat)))∧(j≤cx)∧(aG w uz)∧(aQ uz g1 28 3 (bt [.int .i64 ((rx:Nat)),.int .i64 ((cx:Nat)),sx]))∧(aQ uz g2 28 3 (bt [.int .i64 (0),.int .i64 (0),.slice (none) (0) (0)]))∧(aQ uz g3 28 3 (bt [.int .i64 ((rx:Nat)),.int .i64 ((cx:Nat)),.slice (some ⟨gh1,0,none⟩) (rx) (kh1)]))∧(cv uz w2.heap.size gh1 kh1 rx cx ρ1 (gV Mx (eP g m) i j) (btx + 4))) (cx - 0) ?_ ?_
  · exact ⟨0,rfl,s1_e3,s2_e3,s4_e3,s5_e3,s6_e3,s7_e3,rfl,(by omega),hX2,hA1,hA2,hA3,hM1⟩
  rintro m2 e4 w9 ⟨j,hm2,s1_e4,s2_e4,s4_e4,s5_e4,s6_e4,s7_e4,s8_e4,hj,hX3,hA1,hA2,hA3,hM1⟩;refine WP.seq ?_;refine ab ?_;refine RL.p rfl rfl (ct.move s8_e4) ?_;refine RL.p rfl rfl (ct.fieldAddr bC s2_e4) ?_;refine RL.p rfl rfl (ct.load bL rfl (hA1.at_ (i:=1) rfl rfl)) ?_;refine RL.p rfl rfl (ct.lss rfl rfl) ?_;refine RL.nil ?_;refine ag (((j:Nat):Int)<((cx:Nat):Int)) rfl (fun c34=> ?_) (fun c34=> ?_)
  ·
   refine WP.skip ?_;refine pN.norm ?_;refine WP.seq ?_;refine WP.block ?_;refine WP.ds an 18 [_,_,_,_,_,_,_,_,_,_,_,_,_,_,_,_,_,_] rfl rfl (fun e_ w_ A9 A8=>⟨fun _=>aa (ct.fieldAddr ao ((A8 5 rfl s5_e4))),fun A7=>aa (ct.load aH ((A7 0 rfl)) ((aQ.ext hA3 A9).at_ (i:=2) rfl rfl)),fun _=>aa (ct.move ((A8 6 rfl s6_e4))),fun A7=>aa (ct.index (j:=i) aE ((A7 1 rfl)) ((A7 2 rfl)) rfl (by omega) (by omega)),fun A7=>ah (am (i:=i) aT (A7 3 rfl) (cv.ext hM1 A9) (by omega)),fun _=>aa (ct.move ((A8 8 rfl s8_e4))),fun _=>aa (ct.fieldAddr ao ((A8 5 rfl s5_e4))),fun A7=>aa (ct.load aH ((A7 6 rfl)) ((aQ.ext hA3 A9).at_ (i:=2) rfl rfl)),fun _=>aa (ct.move ((A8 6 rfl s6_e4))),fun A7=>aa (ct.index (j:=i) aE ((A7 7 rfl)) ((A7 8 rfl)) rfl (by omega) (by omega)),fun A7=>ah (am (i:=i) aT (A7 9 rfl) (cv.ext hM1 A9) (by omega)),fun _=>aa (ct.move ((A8 8 rfl s8_e4))),fun A7=>aa (ax (j:=j) bc (A7 10 rfl) rfl (A7 11 rfl) (by omega) (by omega)),fun A7=>ah (aM (j:=j) av (A7 12 rfl) (cv.row (cv.ext hM1 A9) (by omega)) (by omega)),fun _=>aa (ct.move ((A8 7 rfl s7_e4))),fun A7=>cX.call jy (aD ((A7 14 rfl))) (nQ (eP g m i) (3) _ (by have:=jM g m i;omega) (by have:=jM g m i;omega) (by decide)),fun A7=>cX.call iw (az rfl rfl) (iD _ _ _ _ _ _ _ ((btx + 4) + (3)) ((A7 13 rfl)) ((A7 15 rfl)) (by omega) (by omega)),fun A7=>aa (ax (j:=j) bc (A7 4 rfl) rfl (A7 5 rfl) (by omega) (by omega)),trivial⟩) ?_;intro e5 w10 hx6 ho2 hf2;replace hA1:=aQ.ext hA1 hx6;replace hA2:=aQ.ext hA2 hx6;replace hA3:=aQ.ext hA3 hx6;replace hM1:=cv.ext hM1 hx6;replace hX3:=aG.trans hX3 hx6;have s1_e5:=ho2 1 rfl s1_e4;have s2_e5:=ho2 2 rfl s2_e4;have s4_e5:=ho2 4 rfl s4_e4;have s5_e5:=ho2 5 rfl s5_e4;have s6_e5:=ho2 6 rfl s6_e4;have s7_e5:=ho2 7 rfl s7_e4;have s8_e5:=ho2 8 rfl s8_e4;have s53_e5:al w10 (e5 53) (((gV Mx (eP g m) i j) i j:Int)*(eP g m i:Int)) ((btx + 4) + (3)):=hf2 16 rfl;have s54_e5:e5 54=_:=hf2 17 rfl;refine RL.x rfl rfl (bE (i:=i) (j:=j) aL s54_e5 rfl (al.eq s53_e5 (by rw [rE]) (oe (hcp i j (by omega) (by omega)) (jM g m i)) (by omega)) hM1 (by omega) (by omega)) ?_;rintro _ w11 ⟨hk2,hN1⟩;have hR1:=cv.row (i:=i) hM1 (by omega);replace hA1:=aV hA1 hk2 hR1 (by decide);replace hA2:=aV hA2 hk2 hR1 (by decide);replace hA3:=aV hA3 hk2 hR1 (by decide);replace hX3:=hX3.step hk2 (fun b e=>by subst e;exact (Nat.le_trans hBw1 (cv.rowB (i:=i) hM1 (by omega))));replace hM1:=hN1;clear hR1;refine RL.nil ?_;refine iZ.norm ?_;refine pN.norm ?_;refine WP.region ?_;refine RL.p rfl rfl (ct.move s8_e5) ?_;refine RL.p rfl rfl (ct.add (c:=((j + 1:Nat):Int)) rfl rfl (bJ (by omega))) ?_;refine RL.p rfl rfl (ct.assign rfl) ?_;refine RL.nil ?_;refine pN.norm ⟨_,(by omega),j + 1,rfl,s1_e5,s2_e5,s4_e5,s5_e5,s6_e5,s7_e5,rfl,(by omega),hX3,hA1,hA2,hA3,bj hM1 (tK Mx (eP g m) i j)⟩
  ·
   refine WP.exit ?_;refine pN.exit ?_;refine pN.exit ?_;refine iZ.same ?_;refine iZ.norm ?_;refine pN.norm ?_;refine WP.region ?_;refine RL.p rfl rfl (ct.move s6_e4) ?_;refine RL.p rfl rfl (ct.add (c:=((i + 1:Nat):Int)) rfl rfl (bJ (by omega))) ?_;refine RL.p rfl rfl (ct.assign rfl) ?_;refine RL.nil ?_;refine pN.norm ⟨_,(by omega),i + 1,rfl,s1_e4,s2_e4,s4_e4,s5_e4,rfl,(by omega),hX3,hA1,hA2,hA3,cv.congr hM1 fun a c2 ha hc2=>tL _ _ (by omega)⟩
 ·
  refine WP.exit ?_;refine pN.exit ?_;refine pN.exit ?_;refine iZ.same ?_;refine pN.norm ?_;refine ab ?_;refine RL.p rfl rfl (af [.int .i64 ((rx:Nat)),.int .i64 ((cx:Nat)),.slice (some ⟨gh1,0,none⟩) (rx) (kh1)] aN s5_e2 (hA3.cells 0 _ rfl rfl)) ?_;refine RL.x rfl rfl (cX.store [.int .i64 ((rx:Nat)),.int .i64 ((cx:Nat)),.slice (some ⟨gh1,0,none⟩) (rx) (kh1)] bV s4_e2 rfl rfl hA2 (Nat.le_of_ble_eq_true rfl) (bW rfl rfl rfl)) ?_;rintro _ w12 ⟨hk3,hnew⟩;replace hM1:=aY hM1 hk3 hA2 (by decide);replace hX1:=hX1.step hk3 (fun b e=>by subst e;exact hbs2);replace hA2:=hnew.lit [.int .i64 ((rx:Nat)),.int .i64 ((cx:Nat)),.slice (some ⟨gh1,0,none⟩) (rx) (kh1)] rfl;clear hnew;refine RL.nil ?_;refine WP.ret ?_;refine ⟨.agg #[.int .i64 ((rx:Nat)),.int .i64 ((cx:Nat)),.slice (some ⟨gh1,0,none⟩) (rx) (kh1)],AA.one (aj [.int .i64 ((rx:Nat)),.int .i64 ((cx:Nat)),.slice (some ⟨gh1,0,none⟩) (rx) (kh1)] aN s4_e2 (hA2.cells 0 _ rfl rfl)),_,rfl,hX1,?_⟩;dsimp only;exact ⟨_,_,_,rfl,cv.congr (cv.low hM1 hBw1) fun a c2 ha hc2=>tN Mx g (by omega)⟩
end Go.TL
namespace Go.TL
open Go.RowKit Go.Proofs
set_option linter.unusedVariables false
def ES:Nat:=7390310
theorem cs1:∀c,c<5→eB (eB 4 c) c≤ES∧bB ES c≤B1∧bB (eB ES c) c≤B1∧1 + eB ES c≤B1:=by decide
theorem cs2:∀c,c<5→bB 8 c≤B1∧bB (eB 8 c) c≤B1∧1 + eB 8 c≤B1:=by decide
theorem cs3:∀c,c<5→bB 2600 c≤B1∧bB (eB 2600 c) c≤B1∧1 + eB 2600 c≤B1∧eR 4 c c≤2600:=by decide
theorem cs4:1 + ES≤B1∧2*B1 + 4≤be∧ES + 1000≤8000000:=by decide
section
variable {w:World} {x:Value} {r r2 c k b2 e0:Nat} {A A2 M:Nat→Nat→Int}
theorem pD (hx:bk w x r2 c A2 b2) (h8:c≤8) (hM:∀i j,i<r2→j<c→(A2 i j).natAbs≤2^e0) (h1:bB e0 c≤B1) (h2:1 + e0≤B1) (h3:bB (eB e0 c) c≤B1) (h4:1 + eB e0 c≤B1) (hS:SatB r c A k M)
    (hp:∀u:Nat→Int,(∀i,i<r2→aq c (fun j=>u j*A2 i j)=0)↔∀i,i<r→aq c (fun j=>u j*A i j)=0):
    Calls Tryz.prog 15 #[x] w (cd w fun v w'=>bk w' v k c M B1):=by
  refine (fO _ _ _ _ _ _ e0 B1 hx h8 hM h1 h2 h3 h4 cs4.2.1).mono ?_;rintro e w' ⟨v,rfl,hx',k2,M2,h5,h6⟩;obtain ⟨rfl,h7⟩:=hS.same h5.satB hp;exact ⟨v,rfl,hx',h6.congr h7⟩
theorem uf (hx:mi w x r c 4 A b2) (hr:r<5) (hc:c<5) (hS:SatB r c A k M):
    Calls Tryz.prog 15 #[x] w (cd w fun v w'=>bk w' v k c M B1):=by
  obtain ⟨k',S',h1,h2⟩:=hx;have hk:=h1.kr;obtain ⟨g1,g2,g3,_⟩:=cs3 c hc;exact pD h2 (by omega) (fun i j hi hj=>Nat.le_trans (h1.bm i j (by omega) hj) (Nat.pow_le_pow_right (by decide) (cs3 r hr).2.2.2)) g1 (by have:=cs4;unfold ES at this;omega) g2 g3 hS h1.perp
end
end Go.TL
namespace Go.TL
open Go.RowKit Go.Proofs
set_option linter.unusedVariables false
set_option linter.unusedSimpArgs false
section
set_option maxRecDepth 100000
theorem zT:aA Tryz.prog 22=true:=by kernel_rfl
theorem zS:aA Tryz.prog 23=true:=by kernel_rfl
theorem zR:aA Tryz.prog 25=true:=by kernel_rfl
theorem zQ:aA Tryz.prog 29=true:=by kernel_rfl
theorem zP:aA Tryz.prog 30=true:=by kernel_rfl
end
set_option maxRecDepth 10000 in
set_option maxHeartbeats 1600000 in
theorem oq (w:World) (R C:Nat) (l:Value) (n:Nat) (f:Nat→Int) (l2:Value) (m:Nat) (g:Nat→Int) (hl:eV .i8 77 w l n f) (hR:R<256) (hC:C<256) (hsan:∀w,Calls Tryz.prog 7 #[] w (cd w fun v _=>v= .bool true)) (hl2:eV .i8 77 w l2 m g):Calls Tryz.prog 5 #[.agg #[.int .u8 (R:Nat),.int .u8 (C:Nat),l],l2] w (cd w fun v w'=>v= .bool true):=by
 have hLIM:be=562949953421312:=rfl;have hln:n<9223372036854775808:=by obtain ⟨_,_,_,h2,h3,_⟩:=hl;omega
 have hu0:=fr (R % 5) (by omega);have hu1:=fr (C % 5) (by omega);have hs1:=cs1 (C % 5) (by omega);have hs2:=cs2 (C % 5) (by omega);have hs4:=cs4;have hn4:=vP;refine ak (N:=86) (rs:= #[.tmp 4]) Tryz.func5 rfl rfl rfl (Nat.le_of_ble_eq_true rfl) ?_;have hX:aG w w:=aG.refl w;refine ab ?_;refine RL.x rfl rfl (cX.box [.int .u8 ((R:Nat)),.int .u8 ((C:Nat)),l] rfl rfl) ?_;rintro _ w1 ⟨g1,rfl,hge1,hx1,hA1⟩;replace hX:=aG.trans hX hx1;refine RL.p rfl rfl (ct.assign rfl) ?_;refine RL.nil ?_;refine ab ?_;refine RL.x rfl rfl (cX.call AM (oE) (hsan _)) ?_;rintro _ w2 ⟨hx2,rfl⟩;replace hA1:=aQ.ext hA1 hx2;replace hX:=aG.trans hX hx2;refine RL.p rfl rfl (ct.assign rfl) ?_;refine RL.nil ?_;refine ab ?_;refine RL.p rfl rfl (af [.int .u8 ((R:Nat)),.int .u8 ((C:Nat)),l] zV rfl (hA1.cells 0 _ rfl rfl)) ?_;have hBw1:w.heap.size≤w2.heap.size:=hX.size;refine RL.x rfl rfl (cX.call AK (aD rfl) (vN _ R C l n f (eV.ext hl hX) (by omega) (by omega))) ?_;rintro v1 w3 ⟨hx3,q1⟩;replace hX:=aG.trans hX hx3;refine RL.x rfl rfl (cX.alloc [.int .i64 (0),.int .i64 (0),.slice (none) (0) (0)] bH rfl) ?_;rintro _ w4 ⟨g2,rfl,hge2,hx4,hA2⟩;have hbs2:w.heap.size≤g2:=Nat.le_trans hX.size hge2;replace q1:=cA.ext q1 hx4;replace hX:=aG.trans hX hx4;obtain ⟨gh1,kh1,ρ1,hq1,hM1⟩:=q1;have hd1:=cv.dlim hM1;have hd2:=cv.clim hM1;refine RL.x rfl rfl (cX.store [.int .i64 ((R % 5:Nat)),.int .i64 ((C % 5:Nat)),.slice (some ⟨gh1,0,none⟩) (R % 5) (kh1)] bV rfl hq1 rfl hA2 (Nat.le_of_ble_eq_true rfl) (bW rfl rfl rfl)) ?_;rintro _ w5 ⟨hk1,hnew⟩;replace hM1:=aY hM1 hk1 hA2 (by decide);replace hX:=hX.step hk1 (fun b e=>by subst e;exact hbs2);replace hA2:=hnew.lit [.int .i64 ((R % 5:Nat)),.int .i64 ((C % 5:Nat)),.slice (some ⟨gh1,0,none⟩) (R % 5) (kh1)] rfl;clear hnew;refine RL.nil ?_;refine ab ?_;refine RL.p rfl rfl (af [.int .i64 ((R % 5:Nat)),.int .i64 ((C % 5:Nat)),.slice (some ⟨gh1,0,none⟩) (R % 5) (kh1)] aN rfl (hA2.cells 0 _ rfl rfl)) ?_;refine RL.x rfl rfl (cX.call lF (aD rfl) (fO _ _ _ _ _ _ 4 B1 (cv.matV hM1 (by omega) (by omega)) (by omega) (fun i j _ _=>Nat.le_of_lt (gi f n _ i j)) hu1.2.2.2.2.2.2.1 (Nat.le_of_ble_eq_true rfl) hu1.2.2.2.2.2.2.2.1 hu1.2.2.2.2.2.2.2.2 hs4.2.1)) ?_;rintro v2 w6 ⟨hx5,ks,Ms,hSO,q2⟩;replace hA2:=aQ.ext hA2 hx5;replace hM1:=cv.ext hM1 hx5;replace hX:=aG.trans hX hx5;have hSB:=hSO.satB;have hMs:∀i j,i<ks→j<C % 5→(Ms i j).natAbs≤2^ES:=fun i j hi hj=>Nat.le_trans (hSO.bd hi hj) (Nat.pow_le_pow_right (by decide) hs1.1)
 replace q2:=bk.more (b':=ES + 1) q2 (fun i j hi hj=>ek (hMs i j hi hj) (by omega)) (by omega);have hks:ks≤C % 5:=hSB.kc;refine RL.x rfl rfl (cX.alloc [.int .i64 (0),.int .i64 (0),.slice (none) (0) (0)] bH rfl) ?_;rintro _ w7 ⟨g3,rfl,hge3,hx6,hA3⟩;have ne2:g2≠g3:=Nat.ne_of_lt (Nat.lt_of_lt_of_le hA2.lt hge3);have hbs4:w.heap.size≤g3:=Nat.le_trans hX.size hge3;replace hA2:=aQ.ext hA2 hx6;replace hM1:=cv.ext hM1 hx6;replace q2:=bk.ext q2 hx6;replace hX:=aG.trans hX hx6;obtain ⟨sv1,hq2,hr1,hc1,hS1⟩:=q2.form;refine RL.x rfl rfl (cX.store [.int .i64 ((ks:Nat)),.int .i64 ((C % 5:Nat)),sv1] bV rfl hq2 rfl hA3 (Nat.le_of_ble_eq_true rfl) (bW rfl rfl hS1.one)) ?_;rintro _ w8 ⟨hk2,hnew⟩;replace hM1:=aY hM1 hk2 hA3 (by decide);replace hA2:=hA2.keep hk2 ne2;replace hS1:=aS hS1 hk2 hA3 (by decide);replace hX:=hX.step hk2 (fun b e=>by subst e;exact hbs4);replace hA3:=hnew.lit [.int .i64 ((ks:Nat)),.int .i64 ((C % 5:Nat)),sv1] rfl;clear hnew;refine RL.nil ?_;refine ab ?_;refine RL.p rfl rfl (af [.int .i64 ((ks:Nat)),.int .i64 ((C % 5:Nat)),sv1] aN rfl (hA3.cells 0 _ rfl rfl)) ?_;refine RL.p rfl rfl (ct.fieldAddr bg rfl) ?_;refine RL.p rfl rfl (ct.load bL rfl (hA3.at_ (i:=0) rfl rfl)) ?_;refine RL.p rfl rfl (ct.fieldAddr bC rfl) ?_;refine RL.p rfl rfl (ct.load bL rfl (hA2.at_ (i:=1) rfl rfl)) ?_;refine RL.x rfl rfl (cX.call zT (cQ rfl rfl rfl) (vI _ _ _ _ _ _ ks (C % 5) (bk.mk hS1 (by omega) (by omega)))) ?_;rintro _ w9 ⟨hx7,rfl⟩;replace hA2:=aQ.ext hA2 hx7;replace hA3:=aQ.ext hA3 hx7;replace hS1:=cN.ext hS1 hx7;replace hM1:=cv.ext hM1 hx7;replace hX:=aG.trans hX hx7;refine RL.p rfl rfl (ct.assign rfl) ?_;refine RL.nil ?_;refine WP.seq ?_;refine aI an 21 [fun v Ba=>v= .bool (decide (((((ks:Nat):Int)=((ks:Nat):Int)∧((C % 5:Nat):Int)=((C % 5:Nat):Int))∧True))),_,fun v Ba=>v= .bool (decide (¬(((((ks:Nat):Int)=((ks:Nat):Int)∧((C % 5:Nat):Int)=((C % 5:Nat):Int))∧True)))),_,fun v Ba=>(¬(¬(((((ks:Nat):Int)=((ks:Nat):Int)∧((C % 5:Nat):Int)=((C % 5:Nat):Int))∧True))))→(v= .bool (decide (rh ks (C % 5) Ms))),_,_,fun v Ba=>v= .bool (decide ((¬(((((ks:Nat):Int)=((ks:Nat):Int)∧((C % 5:Nat):Int)=((C % 5:Nat):Int))∧True)))∨(¬(rh ks (C % 5) Ms)))),_,_,_,_,_,_,fun v Ba=>v= .bool (decide (((¬(((((ks:Nat):Int)=((ks:Nat):Int)∧((C % 5:Nat):Int)=((C % 5:Nat):Int))∧True)))∨(¬(rh ks (C % 5) Ms)))∨(((ks:Nat):Int)≠((ks:Nat):Int)))),_,_,_,_,_,_] rfl rfl (fun e_ w_ A9 A8=>⟨fun _=>aa (ct.move ((A8 8 rfl rfl))),fun A7=>aa (ct.not (p:=((((ks:Nat):Int)=((ks:Nat):Int)∧((C % 5:Nat):Int)=((C % 5:Nat):Int))∧True)) (A7 0 rfl)),fun A7=>aa (ct.move ((A7 1 rfl))),fun A7=>gF (A7 2 rfl) fun hg=>aa (af [.int .i64 ((ks:Nat)),.int .i64 ((C % 5:Nat)),sv1] aN ((A8 7 rfl rfl)) ((aQ.ext hA3 A9).cells 0 _ rfl rfl)),fun A7=>gF (A7 2 rfl) fun hg=>cX.call zS (aD ((A7 3 rfl hg))) (AO _ _ _ _ _ _ (bk.mk (cN.ext hS1 A9) (by omega) (by omega)) (by omega)),fun A7=>gF (A7 2 rfl) fun hg=>aa (ct.not (p:=rh ks (C % 5) Ms) (A7 4 rfl hg)),fun A7=>aa (bQ (p:=¬(((((ks:Nat):Int)=((ks:Nat):Int)∧((C % 5:Nat):Int)=((C % 5:Nat):Int))∧True))) (q:=¬(rh ks (C % 5) Ms)) (A7 2 rfl) (fun hq=>(A7 5 rfl hq))),fun A7=>aa (ct.move ((A7 6 rfl))),fun A7=>gF (A7 7 rfl) fun hg=>aa (af [.int .i64 ((ks:Nat)),.int .i64 ((C % 5:Nat)),sv1] aN ((A8 7 rfl rfl)) ((aQ.ext hA3 A9).cells 0 _ rfl rfl)),fun A7=>gF (A7 7 rfl) fun hg=>cX.call xl (aD ((A7 8 rfl hg))) (tv _ _ _ _ _ _ ks (bk.mk (cN.ext hS1 A9) (by omega) (by omega)) (Nat.le_refl _) (fun i hi=>hSB.some hi) (fun i h1 h2=>absurd h2 (by omega))),fun A7=>gF (A7 7 rfl) fun hg=>aa (ct.fieldAddr bg ((A8 7 rfl rfl))),fun A7=>gF (A7 7 rfl) fun hg=>aa (ct.load bL ((A7 10 rfl hg)) ((aQ.ext hA3 A9).at_ (i:=0) rfl rfl)),fun A7=>gF (A7 7 rfl) fun hg=>aa (ct.neq ((A7 9 rfl hg)) ((A7 11 rfl hg))),fun A7=>aa (bQ (p:=(¬(((((ks:Nat):Int)=((ks:Nat):Int)∧((C % 5:Nat):Int)=((C % 5:Nat):Int))∧True)))∨(¬(rh ks (C % 5) Ms))) (q:=((ks:Nat):Int)≠((ks:Nat):Int)) (A7 7 rfl) (fun hq=>(A7 12 rfl hq))),fun A7=>aa (ct.move ((A7 13 rfl))),fun A7=>gF (A7 14 rfl) fun hg=>aa (ct.fieldAddr bg ((A8 7 rfl rfl))),fun A7=>gF (A7 14 rfl) fun hg=>aa (ct.load bL ((A7 15 rfl hg)) ((aQ.ext hA3 A9).at_ (i:=0) rfl rfl)),fun A7=>gF (A7 14 rfl) fun hg=>aa (af [.int .i64 ((R % 5:Nat)),.int .i64 ((C % 5:Nat)),.slice (some ⟨gh1,0,none⟩) (R % 5) (kh1)] aN ((A8 6 rfl rfl)) ((aQ.ext hA2 A9).cells 0 _ rfl rfl)),fun A7=>gF (A7 14 rfl) fun hg=>cX.call zR (aD ((A7 17 rfl hg))) (vO _ _ _ _ _ _ 4 B1 ks (cv.matV (cv.ext hM1 A9) (by omega) (by omega)) (by omega) (fun i j _ _=>Nat.le_of_lt (gi f n _ i j)) hu0.1 hu0.2.1 vP hSB.rank),fun A7=>gF (A7 14 rfl) fun hg=>aa (ct.neq ((A7 16 rfl hg)) ((A7 18 rfl hg))),fun A7=>aa (bQ (p:=((¬(((((ks:Nat):Int)=((ks:Nat):Int)∧((C % 5:Nat):Int)=((C % 5:Nat):Int))∧True)))∨(¬(rh ks (C % 5) Ms)))∨(((ks:Nat):Int)≠((ks:Nat):Int))) (q:=((ks:Nat):Int)≠((ks:Nat):Int)) (A7 14 rfl) (fun hq=>(A7 19 rfl hq))),trivial⟩) ?_;intro e1 w10 hx8 ho1 hf1;replace hA2:=aQ.ext hA2 hx8;replace hA3:=aQ.ext hA3 hx8;replace hS1:=cN.ext hS1 hx8;replace hM1:=cv.ext hM1 hx8;replace hX:=aG.trans hX hx8;have s1_e1:e1 1=_:=ho1 1 rfl rfl;have s5_e1:e1 5=_:=ho1 5 rfl rfl;have s6_e1:e1 6=_:=ho1 6 rfl rfl;have s7_e1:e1 7=_:=ho1 7 rfl rfl;have s43_e1:e1 43=_:=hf1 20 rfl;refine RL.nil ?_;refine ag ((((¬(((((ks:Nat):Int)=((ks:Nat):Int)∧((C % 5:Nat):Int)=((C % 5:Nat):Int))∧True)))∨(¬(rh ks (C % 5) Ms)))∨(((ks:Nat):Int)≠((ks:Nat):Int)))∨(((ks:Nat):Int)≠((ks:Nat):Int))) s43_e1 (fun c43=> ?_) (fun c43=> ?_)
 ·
  refine ab ?_;refine RL.p rfl rfl (ct.assign rfl) ?_;refine RL.nil ?_;refine WP.ret ?_;refine pN.ret ?_;refine ⟨.bool (false),AA.one (fV.tmp rfl),_,rfl,hX,?_⟩;dsimp only;exfalso;rcases c43 with ((h | h) | h) | h
  · exact h ⟨⟨rfl,rfl⟩,trivial⟩
  · exact h hSB.isH
  · exact h rfl
  · exact h rfl
 ·
  refine WP.skip ?_;refine pN.norm ?_;refine WP.seq ?_;refine ab ?_;refine RL.p rfl rfl (ct.assign rfl) ?_;refine RL.nil ?_;refine WP.block ?_;refine WP.loop (fun mz ez uz=>∃i:Nat,(mz=R % 5 - i)∧(ez 1=l2)∧(ez 5= .bool (decide (True)))∧(ez 6= .pointer (some ⟨g2,0,none⟩))∧(ez 7= .pointer (some ⟨g3,0,none⟩))∧(ez 9= .int .i64 ((i:Nat)))∧(i≤R % 5)∧(aG w uz)∧(aQ uz g2 28 3 (bt [.int .i64 ((R % 5:Nat)),.int .i64 ((C % 5:Nat)),.slice (some ⟨gh1,0,none⟩) (R % 5) (kh1)]))∧(aQ uz g3 28 3 (bt [.int .i64 ((ks:Nat)),.int .i64 ((C % 5:Nat)),sv1]))∧(cN uz sv1 ks (C % 5) Ms (ES + 1))∧(cv uz w2.heap.size gh1 kh1 (R % 5) (C % 5) ρ1 (er f n (C % 5)) 4)) (R % 5 - 0) ?_ ?_
  · exact ⟨0,rfl,s1_e1,s5_e1,s6_e1,s7_e1,rfl,(by omega),hX,hA2,hA3,hS1,hM1⟩
  rintro m1 e2 w11 ⟨i,hm1,s1_e2,s5_e2,s6_e2,s7_e2,s9_e2,hi,hX1,hA2,hA3,hS1,hM1⟩;refine WP.seq ?_;refine ab ?_;refine RL.p rfl rfl (ct.move s9_e2) ?_;refine RL.p rfl rfl (ct.fieldAddr bg s6_e2) ?_;refine RL.p rfl rfl (ct.load bL rfl (hA2.at_ (i:=0) rfl rfl)) ?_;refine RL.p rfl rfl (ct.lss rfl rfl) ?_;refine RL.nil ?_;refine ag (((i:Nat):Int)<((R % 5:Nat):Int)) rfl (fun c47=> ?_) (fun c47=> ?_)
  ·
   refine WP.skip ?_;refine pN.norm ?_;refine WP.seq ?_;refine WP.block ?_;refine aI an 8 [_,_,_,_,_,_,fun v Ba=>v= .bool (decide (∀j,j<C % 5→dD Ms (C % 5) ((er f n (C % 5)) i) ks j=0)),_] rfl rfl (fun e_ w_ A9 A8=>⟨fun _=>aa (af [.int .i64 ((ks:Nat)),.int .i64 ((C % 5:Nat)),sv1] aN ((A8 7 rfl s7_e2)) ((aQ.ext hA3 A9).cells 0 _ rfl rfl)),fun _=>aa (ct.fieldAddr ao ((A8 6 rfl s6_e2))),fun A7=>aa (ct.load aH ((A7 1 rfl)) ((aQ.ext hA2 A9).at_ (i:=2) rfl rfl)),fun _=>aa (ct.move ((A8 9 rfl s9_e2))),fun A7=>aa (ct.index (j:=i) aE ((A7 2 rfl)) ((A7 3 rfl)) rfl (by omega) (by omega)),fun A7=>ah (am (i:=i) aT (A7 4 rfl) (cv.ext hM1 A9) (by omega)),fun A7=>cX.call zQ (az ((A7 0 rfl)) rfl) (pn _ _ _ _ _ _ _ _ _ 40000000 (bk.mk (cN.ext hS1 A9) (by omega) (by omega)) (fj.rowV (w':=w_) (A7 5 rfl) (cv.row (i:=i) (cv.ext hM1 A9) (by omega))) (by have:=Nat.mul_le_mul_right (ES + 1 + 1) (show ks≤4 by omega);omega) (by omega)),fun A7=>aa (ct.not (p:=∀j,j<C % 5→dD Ms (C % 5) ((er f n (C % 5)) i) ks j=0) (A7 6 rfl)),trivial⟩) ?_;intro e3 w12 hx9 ho2 hf2;replace hA2:=aQ.ext hA2 hx9;replace hA3:=aQ.ext hA3 hx9;replace hS1:=cN.ext hS1 hx9;replace hM1:=cv.ext hM1 hx9;replace hX1:=aG.trans hX1 hx9;have s1_e3:=ho2 1 rfl s1_e2;have s5_e3:=ho2 5 rfl s5_e2;have s6_e3:=ho2 6 rfl s6_e2;have s7_e3:=ho2 7 rfl s7_e2;have s9_e3:=ho2 9 rfl s9_e2;have s57_e3:e3 57=_:=hf2 7 rfl;refine RL.nil ?_;refine ag (¬(∀j,j<C % 5→dD Ms (C % 5) ((er f n (C % 5)) i) ks j=0)) s57_e3 (fun c57=> ?_) (fun c57=> ?_)
   ·
    refine ab ?_;refine RL.p rfl rfl (ct.assign rfl) ?_;refine RL.nil ?_;refine WP.ret ?_;refine iZ.ret ?_;refine pN.ret ?_;refine pN.ret ?_;refine iZ.ret ?_;refine pN.ret ?_;refine ⟨.bool (false),AA.one (fV.tmp rfl),_,rfl,hX1,?_⟩;dsimp only;exact absurd (hSB.red (by omega)) c57
   ·
    refine WP.skip ?_;refine iZ.norm ?_;refine pN.norm ?_;refine WP.region ?_;refine RL.p rfl rfl (ct.move s9_e3) ?_;refine RL.p rfl rfl (ct.add (c:=((i + 1:Nat):Int)) rfl rfl (bJ (by omega))) ?_;refine RL.p rfl rfl (ct.assign rfl) ?_;refine RL.nil ?_;refine pN.norm ⟨_,(by omega),i + 1,rfl,s1_e3,s5_e3,s6_e3,s7_e3,rfl,(by omega),hX1,hA2,hA3,hS1,hM1⟩
  ·
   refine WP.exit ?_;refine pN.exit ?_;refine pN.exit ?_;refine iZ.same ?_;refine pN.norm ?_;refine ab ?_;refine RL.p rfl rfl (af [.int .i64 ((ks:Nat)),.int .i64 ((C % 5:Nat)),sv1] aN s7_e2 (hA3.cells 0 _ rfl rfl)) ?_;refine RL.x rfl rfl (cX.call lF (aD rfl) (pD (bk.mk hS1 (by omega) (by omega)) (by omega) hMs hs1.2.1 hs4.1 hs1.2.2.1 hs1.2.2.2 hSB hSB.perp)) ?_;rintro v3 w13 ⟨hx10,q3⟩;replace hA2:=aQ.ext hA2 hx10;replace hA3:=aQ.ext hA3 hx10;replace hS1:=cN.ext hS1 hx10;replace hM1:=cv.ext hM1 hx10;replace hX1:=aG.trans hX1 hx10;refine RL.x rfl rfl (cX.alloc [.int .i64 (0),.int .i64 (0),.slice (none) (0) (0)] bH rfl) ?_;rintro _ w14 ⟨g4,rfl,hge4,hx11,hA4⟩;have ne5:g2≠g4:=Nat.ne_of_lt (Nat.lt_of_lt_of_le hA2.lt hge4);have ne6:g3≠g4:=Nat.ne_of_lt (Nat.lt_of_lt_of_le hA3.lt hge4);have hbs5:w.heap.size≤g4:=Nat.le_trans hX1.size hge4;replace hA2:=aQ.ext hA2 hx11;replace hA3:=aQ.ext hA3 hx11;replace hS1:=cN.ext hS1 hx11;replace hM1:=cv.ext hM1 hx11;replace q3:=bk.ext q3 hx11;replace hX1:=aG.trans hX1 hx11;obtain ⟨sv2,hq3,hr2,hc2,hS2⟩:=q3.form;refine RL.x rfl rfl (cX.store [.int .i64 ((ks:Nat)),.int .i64 ((C % 5:Nat)),sv2] bV rfl hq3 rfl hA4 (Nat.le_of_ble_eq_true rfl) (bW rfl rfl hS2.one)) ?_;rintro _ w15 ⟨hk3,hnew⟩;replace hM1:=aY hM1 hk3 hA4 (by decide);replace hA2:=hA2.keep hk3 ne5;replace hA3:=hA3.keep hk3 ne6;replace hS1:=aS hS1 hk3 hA4 (by decide);replace hS2:=aS hS2 hk3 hA4 (by decide);replace hX1:=hX1.step hk3 (fun b e=>by subst e;exact hbs5);replace hA4:=hnew.lit [.int .i64 ((ks:Nat)),.int .i64 ((C % 5:Nat)),sv2] rfl;clear hnew;refine RL.nil ?_;refine ab ?_;refine RL.p rfl rfl (af [.int .i64 ((R % 5:Nat)),.int .i64 ((C % 5:Nat)),.slice (some ⟨gh1,0,none⟩) (R % 5) (kh1)] aN s6_e2 (hA2.cells 0 _ rfl rfl)) ?_;refine RL.p rfl rfl (ct.move s1_e2) ?_;have hBw2:w.heap.size≤w15.heap.size:=hX1.size;refine RL.x rfl rfl (cX.call zP (az rfl rfl) (mE _ _ _ _ _ _ l2 m g (cv.matV hM1 (by omega) (by omega)) (eV.ext hl2 hX1) (by omega))) ?_;rintro v4 w16 ⟨hx12,q4⟩;replace hA2:=aQ.ext hA2 hx12;replace hA3:=aQ.ext hA3 hx12;replace hS1:=cN.ext hS1 hx12;replace hA4:=aQ.ext hA4 hx12;replace hS2:=cN.ext hS2 hx12;replace hM1:=cv.ext hM1 hx12;replace hX1:=aG.trans hX1 hx12;refine RL.x rfl rfl (cX.call lF (aD rfl) (pD (e0:=8) (cA.matV q4) (by omega) (fun i j _ _=>Nat.le_of_lt (oe (gi f n _ i j) (jM g m i))) hs2.1 (by decide) hs2.2.1 hs2.2.2 hSB (tI (vS g m)))) ?_;rintro v5 w17 ⟨hx13,q5⟩;replace hA2:=aQ.ext hA2 hx13;replace hA3:=aQ.ext hA3 hx13;replace hS1:=cN.ext hS1 hx13;replace hA4:=aQ.ext hA4 hx13;replace hS2:=cN.ext hS2 hx13;replace hM1:=cv.ext hM1 hx13;replace hX1:=aG.trans hX1 hx13;refine RL.x rfl rfl (cX.alloc [.int .i64 (0),.int .i64 (0),.slice (none) (0) (0)] bH rfl) ?_;rintro _ w18 ⟨g5,rfl,hge5,hx14,hA5⟩;have ne9:g2≠g5:=Nat.ne_of_lt (Nat.lt_of_lt_of_le hA2.lt hge5);have ne10:g3≠g5:=Nat.ne_of_lt (Nat.lt_of_lt_of_le hA3.lt hge5);have ne11:g4≠g5:=Nat.ne_of_lt (Nat.lt_of_lt_of_le hA4.lt hge5);have hbs6:w.heap.size≤g5:=Nat.le_trans hX1.size hge5;replace hA2:=aQ.ext hA2 hx14;replace hA3:=aQ.ext hA3 hx14;replace hS1:=cN.ext hS1 hx14;replace hA4:=aQ.ext hA4 hx14;replace hS2:=cN.ext hS2 hx14;replace hM1:=cv.ext hM1 hx14;replace q5:=bk.ext q5 hx14;replace hX1:=aG.trans hX1 hx14;obtain ⟨sv3,hq4,hr3,hc3,hS3⟩:=q5.form;refine RL.x rfl rfl (cX.store [.int .i64 ((ks:Nat)),.int .i64 ((C % 5:Nat)),sv3] bV rfl hq4 rfl hA5 (Nat.le_of_ble_eq_true rfl) (bW rfl rfl hS3.one)) ?_;rintro _ w19 ⟨hk4,hnew⟩;replace hM1:=aY hM1 hk4 hA5 (by decide);replace hA2:=hA2.keep hk4 ne9;replace hA3:=hA3.keep hk4 ne10;replace hS1:=aS hS1 hk4 hA5 (by decide);replace hA4:=hA4.keep hk4 ne11;replace hS2:=aS hS2 hk4 hA5 (by decide);replace hS3:=aS hS3 hk4 hA5 (by decide);replace hX1:=hX1.step hk4 (fun b e=>by subst e;exact hbs6);replace hA5:=hnew.lit [.int .i64 ((ks:Nat)),.int .i64 ((C % 5:Nat)),sv3] rfl;clear hnew;refine RL.nil ?_;have hsk:=cs1 ks (by omega);refine aI an 22 [fun v Ba=>v= .bool (decide (True)),fun v Ba=>v= .bool (decide (True)),_,_,fun v Ba=>(True)→(v= .bool (decide (cb ks (C % 5) ks (C % 5) Ms Ms))),_,fun v Ba=>v= .bool (decide ((True)∧(cb ks (C % 5) ks (C % 5) Ms Ms))),_,_,fun v Ba=>((True)∧(cb ks (C % 5) ks (C % 5) Ms Ms))→(v= .bool (decide (cb ks (C % 5) ks (C % 5) Ms Ms))),_,fun v Ba=>v= .bool (decide (((True)∧(cb ks (C % 5) ks (C % 5) Ms Ms))∧(cb ks (C % 5) ks (C % 5) Ms Ms))),_,fun v Ba=>(((True)∧(cb ks (C % 5) ks (C % 5) Ms Ms))∧(cb ks (C % 5) ks (C % 5) Ms Ms))→(v= .bool (decide (true=true))),_,fun v Ba=>v= .bool (decide ((((True)∧(cb ks (C % 5) ks (C % 5) Ms Ms))∧(cb ks (C % 5) ks (C % 5) Ms Ms))∧(true=true))),_,fun v Ba=>((((True)∧(cb ks (C % 5) ks (C % 5) Ms Ms))∧(cb ks (C % 5) ks (C % 5) Ms Ms))∧(true=true))→(mi Ba v (R % 5) (C % 5) 4 (er f n (C % 5)) B1),fun v Ba=>((((True)∧(cb ks (C % 5) ks (C % 5) Ms Ms))∧(cb ks (C % 5) ks (C % 5) Ms Ms))∧(true=true))→(bk Ba v ks (C % 5) Ms B1),_,fun v Ba=>((((True)∧(cb ks (C % 5) ks (C % 5) Ms Ms))∧(cb ks (C % 5) ks (C % 5) Ms Ms))∧(true=true))→(v= .bool (decide (cb ks (C % 5) ks (C % 5) Ms Ms))),_] rfl rfl (fun e_ w_ A9 A8=>⟨fun _=>aa (ct.move ((A8 5 rfl s5_e2))),fun A7=>aa (ct.move ((A7 0 rfl))),fun A7=>gT (A7 1 rfl) fun hg=>aa (af [.int .i64 ((ks:Nat)),.int .i64 ((C % 5:Nat)),sv2] aN ((A8 10 rfl rfl)) ((aQ.ext hA4 A9).cells 0 _ rfl rfl)),fun A7=>gT (A7 1 rfl) fun hg=>aa (af [.int .i64 ((ks:Nat)),.int .i64 ((C % 5:Nat)),sv1] aN ((A8 7 rfl s7_e2)) ((aQ.ext hA3 A9).cells 0 _ rfl rfl)),fun A7=>gT (A7 1 rfl) fun hg=>cX.call jz (az ((A7 2 rfl hg)) ((A7 3 rfl hg))) (gI _ _ _ _ _ _ _ _ _ _ _ (bk.mk (cN.ext hS2 A9) (by omega) (by omega)) (bk.mk (cN.ext hS1 A9) (by omega) (by omega))),fun A7=>aa (aB (p:=True) (q:=cb ks (C % 5) ks (C % 5) Ms Ms) (A7 1 rfl) (fun hq=>(A7 4 rfl hq))),fun A7=>aa (ct.move ((A7 5 rfl))),fun A7=>gT (A7 6 rfl) fun hg=>aa (af [.int .i64 ((ks:Nat)),.int .i64 ((C % 5:Nat)),sv3] aN ((A8 11 rfl rfl)) ((aQ.ext hA5 A9).cells 0 _ rfl rfl)),fun A7=>gT (A7 6 rfl) fun hg=>aa (af [.int .i64 ((ks:Nat)),.int .i64 ((C % 5:Nat)),sv1] aN ((A8 7 rfl s7_e2)) ((aQ.ext hA3 A9).cells 0 _ rfl rfl)),fun A7=>gT (A7 6 rfl) fun hg=>cX.call jz (az ((A7 7 rfl hg)) ((A7 8 rfl hg))) (gI _ _ _ _ _ _ _ _ _ _ _ (bk.mk (cN.ext hS3 A9) (by omega) (by omega)) (bk.mk (cN.ext hS1 A9) (by omega) (by omega))),fun A7=>aa (aB (p:=(True)∧(cb ks (C % 5) ks (C % 5) Ms Ms)) (q:=cb ks (C % 5) ks (C % 5) Ms Ms) (A7 6 rfl) (fun hq=>(A7 9 rfl hq))),fun A7=>aa (ct.move ((A7 10 rfl))),fun A7=>gT (A7 11 rfl) fun hg=>aa (af [.int .i64 ((ks:Nat)),.int .i64 ((C % 5:Nat)),sv1] aN ((A8 7 rfl s7_e2)) ((aQ.ext hA3 A9).cells 0 _ rfl rfl)),fun A7=>gT (A7 11 rfl) fun hg=>cX.call sN (aD ((A7 12 rfl hg))) (mO _ _ _ _ _ _ ES B1 (sb:=true) (bk.mk (cN.ext hS1 A9) (by omega) (by omega)) (by omega) hsk.2.1 (by omega) hMs hs1.2.1 hs4.1 hs1.2.2.1 hs1.2.2.2 hs4.2.1 (iff_of_true rfl hSB.satQ)),fun A7=>aa (aB (p:=((True)∧(cb ks (C % 5) ks (C % 5) Ms Ms))∧(cb ks (C % 5) ks (C % 5) Ms Ms)) (q:=true=true) (A7 11 rfl) (fun hq=>(A7 13 rfl hq))),fun A7=>aa (ct.move ((A7 14 rfl))),fun A7=>gT (A7 15 rfl) fun hg=>aa (af [.int .i64 ((R % 5:Nat)),.int .i64 ((C % 5:Nat)),.slice (some ⟨gh1,0,none⟩) (R % 5) (kh1)] aN ((A8 6 rfl s6_e2)) ((aQ.ext hA2 A9).cells 0 _ rfl rfl)),fun A7=>gT (A7 15 rfl) fun hg=>cX.call xn (aD (A7 16 rfl hg)) (qy _ _ _ _ _ _ 4 B1 (cv.matV (cv.ext hM1 A9) (by omega) (by omega)) (by omega) (fun i j _ _=>Nat.le_of_lt (gi f n _ i j)) hu0.1 hu0.2.1 vP),fun A7=>gT (A7 15 rfl) fun hg=>cX.call lF (aD rfl) (uf (A7 17 rfl hg) (by omega) (by omega) hSB),fun A7=>gT (A7 15 rfl) fun hg=>aa (af [.int .i64 ((ks:Nat)),.int .i64 ((C % 5:Nat)),sv1] aN ((A8 7 rfl s7_e2)) ((aQ.ext hA3 A9).cells 0 _ rfl rfl)),fun A7=>gT (A7 15 rfl) fun hg=>cX.call jz (az rfl ((A7 19 rfl hg))) (gI _ _ _ _ _ _ _ _ _ _ _ (A7 18 rfl hg) (bk.mk (cN.ext hS1 A9) (by omega) (by omega))),fun A7=>aa (aB (p:=(((True)∧(cb ks (C % 5) ks (C % 5) Ms Ms))∧(cb ks (C % 5) ks (C % 5) Ms Ms))∧(true=true)) (q:=cb ks (C % 5) ks (C % 5) Ms Ms) (A7 15 rfl) (fun hq=>(A7 20 rfl hq))),trivial⟩) ?_;intro e4 w20 hx15 ho3 hf3;replace hX1:=aG.trans hX1 hx15;have s85_e4:e4 85=_:=hf3 21 rfl;refine RL.p rfl rfl (ct.assign s85_e4) ?_;refine RL.nil ?_;refine WP.ret ?_;refine ⟨.bool (decide (((((True)∧(cb ks (C % 5) ks (C % 5) Ms Ms))∧(cb ks (C % 5) ks (C % 5) Ms Ms))∧(true=true))∧(cb ks (C % 5) ks (C % 5) Ms Ms))),AA.one (fV.tmp rfl),_,rfl,hX1,?_⟩;dsimp only;exact congrArg Value.bool (decide_eq_true ⟨⟨⟨⟨trivial,⟨rfl,rfl,fun i hi j hj=>rfl⟩⟩,⟨rfl,rfl,fun i hi j hj=>rfl⟩⟩,rfl⟩,⟨rfl,rfl,fun i hi j hj=>rfl⟩⟩)
end Go.TL
namespace Go.Proofs.YtgkokhkpdlekcaaGreat
open Go.TL Go.ChangeShapes Go.WideShapes Go.ChangeAt Go.RowKit Go.Joins
set_option linter.unusedVariables false
theorem own:ownKnob Tryz.prog.godebug=none:=by kernel_rfl
theorem vZ:laidOutB Tryz.prog=true:=by kernel_rfl
section
variable {H:Type} {enc:TypeId×Value→H} {P:Program}
theorem gX (hl:laidOutB P=true) {W W':World} (hb:Below W.heap.size W W') {sp:Nat→Bool}:
    ∀{ts:List TypeId} {vs:List Value} {ds:List (DataW H)} {ps:List MemPlace},ts.all (fun t=>P.readableRec t&&decide (t<P.types.size))=true→
      DataW.TrodAll enc P W 0 (fun _=>true) true ts vs ds ps→(∀x∈ps,x.block<W.heap.size)→(∀x∈ps,sp x.block=true)→DataW.TrodAll enc P W' 0 sp true ts vs ds ps
  | [], [], [],_,_,h,_,_=>h
  | [], [],_::_,_,_,h,_,_=>h.elim
  | [],_::_,_,_,_,h,_,_=>h.elim
  | _::_, [],_,_,_,h,_,_=>h.elim
  | _::_,_::_, [],_,_,h,_,_=>h.elim
  | t::ts,v::vs,d::ds,ps,ha,h,hlt,hs=>by
    obtain ⟨p,q,h1,h2,rfl⟩:=h;simp only [List.all_cons,Bool.and_eq_true,decide_eq_true_eq] at ha;exact ⟨p,q,WideElems.Trod_stays hl ha.1.1 ha.1.2 h1 (fun x hx=>hb.same (hlt x (by simp [hx]))) (fun x hx=>hs x (by simp [hx])),gX hl hb ha.2 h2 (fun x hx=>hlt x (by simp [hx])) (fun x hx=>hs x (by simp [hx])),rfl⟩
theorem uc {f:Func} {s:ChangeSpec} {tb:TypeId} {W W':World} {args:Array Value} {ds gs:List (DataW H)} {before:List MemPlace}
    (hl:laidOutB P=true) (ha:f.params.toList.all (fun t=>P.readableRec t&&decide (t<P.types.size))=true) (hv:s.vars= []) (hr:f.resultTypes= #[tb]) (htb:P.underlying tb=some .bool)
    (hfn:s.fn H ds={results:= [.lit (.bool true)],args:=ds})
    (hW:DataW.Whole enc P f.params.toList s.vars false W args.toList ds gs before) (hb:Below W.heap.size W W'):
    s.post enc P f false true false false W args (.bool true) W':=by
  have hlt:=hW.lt;have hW0:=hW;obtain ⟨p,q,hA,hV,rfl,_,_⟩:=hW;rw [hv] at hV;obtain ⟨rfl,rfl⟩:=trodVars_none hV;have hp:∀x∈p,x.block<W.heap.size:=fun x hx=>by simpa using hlt x (by simp [hx])
  have hz:f.resultTypes.toList= [tb]:=by rw [hr]
  have hz2:(Value.bool true).resultList f.resultTypes.size= [.bool true]:=by rw [hr];rfl
  refine ⟨ds, [],p ++ [], [],p, [],hW0,?_,?_,?_,hb.frame _,fun h=>by cases h⟩
  · rw [List.append_nil,hfn,hz,hz2];exact trodAll_mk1 (shut_bool htb true)
  · rw [List.append_nil,hfn];exact gX hl hb ha hA hp (fun x hx=>by simpa using hp x hx)
  · rw [List.append_nil,hfn,hv];rfl
theorem oa {t te fuel T:Nat} {k:IntKind} {w:World} {v:Value} {y:DataW H×List MemPlace} (ht:P.underlying t=some (.slice te)) (he:P.underlying te=some (.int k)) (hc:P.cellsOf te=1)
    (h:DataW.trod enc P w 0 (fun _=>true) true fuel t [v]=some y):∃(n:Nat) (f:Nat→Int),eV k T w v n f∧∀i,i<n→(Lit.int k (f i)).wf=true:=by
  rcases open_ints ht he hc h with ⟨h1,_⟩ | ⟨a,n,c,zs,h1,_,h3,h4,h5,_,h7,h8⟩
  · obtain rfl:v= .slice none 0 0:=by simpa using h1
    exact ⟨0,fun _=>0,⟨none,0,rfl,Nat.le_refl _,by decide,fun h=>absurd h (by decide)⟩,fun i hi=>absurd hi (by omega)⟩
  · obtain rfl:v= .slice (some a) n c:=by simpa using h1
    rw [if_pos rfl] at h5;refine ⟨n,fun i=>zs.getD i 0,⟨some a,c,rfl,h3,by unfold maxLen at h4;omega,fun hn=> ?_⟩,fun i hi=> ?_⟩
    · obtain ⟨b,o,rfl,hz⟩:=ints_at h7 (by omega)
      exact ⟨b,o,rfl,fun i hi=>hz i (by omega)⟩
    · have:i<zs.length:=by omega
      show (Lit.int k (zs.getD i 0)).wf=true;rw [List.getD_eq_getElem?_getD,List.getElem?_eq_getElem this];exact h8 _ (List.getElem_mem this)
end
section
variable {H:Type} {enc:TypeId×Value→H}
set_option maxRecDepth 100000 in
theorem tq {w:World} {b0:Nat} {v:Value} {d:DataW H} {p:List MemPlace} (hv:Value.okWide Tryz.prog w .any b0 24 v) (h:DataW.Trod enc Tryz.prog w 0 (fun _=>true) true 24 v d p):
    ∃(R C n:Nat) (l:Value) (f:Nat→Int),v= .agg #[.int .u8 (R:Nat),.int .u8 (C:Nat),l]∧R<256∧C<256∧eV .i8 77 w l n f∧∀i,i<n→(Lit.int .i8 (f i)).wf=true:=by
  obtain ⟨c0,c1,c2,y0,y1,y2,m,rfl,rfl,rfl,h0,h1,h2⟩:=open_agg3 Tryz.underlying24 (by kernel_rfl) (by kernel_rfl) hv h;obtain ⟨a,e0,_,wa⟩:=DataW.trod_int Tryz.underlying5 h0;obtain ⟨b,e1,_,wb⟩:=DataW.trod_int Tryz.underlying5 h1;obtain rfl:c0= .int .u8 a:=by simpa using e0
  obtain rfl:c1= .int .u8 b:=by simpa using e1
  obtain ⟨n,f,hn,hf⟩:=oa (T:=77) Tryz.underlying22 Tryz.underlying77 (by kernel_rfl) h2;have ba:=bounds_u8 wa;have bb:=bounds_u8 wb;exact ⟨a.toNat,b.toNat,n,c2,f,by rw [Int.toNat_of_nonneg ba.1,Int.toNat_of_nonneg bb.1],by omega,by omega,hn,hf⟩
set_option maxRecDepth 100000 in
theorem rA {w:World} {b0:Nat} {v:Value} {d:DataW H} {p:List MemPlace} (hv:Value.okWide Tryz.prog w .any b0 22 v) (h:DataW.Trod enc Tryz.prog w 0 (fun _=>true) true 22 v d p):
    ∃(n:Nat) (f:Nat→Int),eV .i8 77 w v n f:=by
  obtain ⟨a,l,c,rfl⟩:=okWide_slice (P:=Tryz.prog) Tryz.underlying22 hv;obtain ⟨fuel,hf⟩:=h;obtain ⟨n,f,hn,_⟩:=oa (T:=77) Tryz.underlying22 Tryz.underlying77 (by kernel_rfl) hf;exact ⟨n,f,hn⟩
end
end Go.Proofs.YtgkokhkpdlekcaaGreat
namespace Go.Proofs.YtgkokhkpdlekcaaGreat
open Go.TL Go.ChangeShapes Go.WideShapes Go.ChangeAt Go.RowKit
set_option linter.unusedVariables false
set_option maxRecDepth 100000 in
theorem jk (os:Os) (started:os.Started) (H:Type) (enc:TypeId×Value→H):
    ReturnsInHanded {} Tryz.checked os 5 .any (Rows.kernelSaturatesSpec.pre6 enc Tryz.prog Tryz.f5 Rows.kernelSaturatesRow.domain false) (Rows.kernelSaturatesSpec.post enc Tryz.prog Tryz.f5 false true false false):=by
  refine returnsInHanded_of_change (C:=Tryz.checked) own started (by kernel_rfl) Tryz.func5
    (ChangeSpec.witness6 (enc:=enc) (C:=Tryz.checked) false ⟨#[],#[.agg #[.int .u8 0,.int .u8 0,.slice none 0 0],.slice none 0 0], []⟩ 8 (by kernel_rfl) (by kernel_rfl) (by kernel_rfl) (by kernel_rfl)) ?_
  intro W base args ds gs before hval0 hW _ _;have hval:∀(j:Nat) t v,Tryz.f5.params[j]? =some t→args[j]? =some v→Value.okWide Tryz.prog W .any base t v:=hval0;have hW':=hW;obtain ⟨p,q,hA0,_,_,_,_⟩:=hW;have hA:DataW.TrodAll enc Tryz.prog W 0 (fun _=>true) true Tryz.f5.params.toList args.toList ds p:=hA0;rw [Tryz.params5] at hA hval;obtain ⟨v0,v1,d0,d1,p0,p1,rfl,rfl,rfl,h0,h1⟩:=trodAll_two hA;obtain ⟨R,C,n,l,f,rfl,hR,hC,hn,hf⟩:=tq (hval 0 24 v0 rfl rfl) h0;obtain ⟨m,g,hm⟩:=rA (hval 1 22 v1 rfl rfl) h1;refine (oq W R C l n f v1 m g hn hR hC (fun w=>ud w) hm).mono fun e W' hh=> ?_
  obtain ⟨v,rfl,hx,rfl⟩:=hh;exact ⟨_,rfl,uc vZ (by kernel_rfl) rfl (by kernel_rfl) Tryz.underlying4 rfl hW' hx⟩
theorem saturates_holds:Rows.KernelSaturatesSaid:=
  OpenClaim.holds_of_wide 5 Tryz.f5 rfl rfl rfl rfl rfl rfl rfl ⟨rfl,rfl,rfl,rfl,rfl⟩ rfl rfl rfl rfl rfl (by kernel_rfl) Tryz.func5 (by kernel_rfl)
    (of_decide_eq_true (by kernel_rfl)) (by unfold Func.isWrapper;first | (rw [if_pos (by decide +kernel)];kernel_rfl) | (rw [if_neg (by decide +kernel)];exact ⟨rfl,rfl⟩))
    (fun os started H enc _=>jk os started H enc)
end Go.Proofs.YtgkokhkpdlekcaaGreat
