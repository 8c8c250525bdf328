/-
  Lemmas towards the theorem of this claim (part 7).
  Conditions: those that each theorem names.
-/
import Derived.Test.YtknbpehdcgamaaaGreatPG6
namespace Go.TL
open Go.RowKit Go.Proofs
set_option linter.unusedVariables false
theorem nS (w:World) (x:Value) (r c:Nat) (M:Nat→Nat→Int) (b:Nat) (hx:bX w x r c M b):Calls Tryz.prog 59 #[x] w (cc w fun v _=>v= .bool (decide True)):=by
  obtain ⟨s,rfl,hr,hc,hS⟩:=hx.form;refine (qb w s r c r c M b hr.1 hc hS).mono ?_;rintro e w' ⟨v,rfl,hx',h⟩;exact ⟨v,rfl,hx',h.trans (congrArg _ (decide_eq_decide.2 (iff_of_true nd.same trivial)))⟩
def eO (v:Nat→Int) (C:Nat) (u:Nat→Int):Prop:=u C<0∨v C≤u C
instance (v:Nat→Int) (C:Nat):DecidablePred (eO v C):=fun u=>inferInstanceAs (Decidable (u C<0∨v C≤u C))
theorem qS {v u:Nat→Int} {C:Nat}:((u C).sign<0∨0≤bV (u C) (v C))↔eO v C u:=by
  unfold eO;rw [fq,dn]
theorem ym {M:Nat→Nat→Int} {c i:Nat} (hpa:(piv (M i) c).toNat<c∧((piv (M i) c).toNat:Int)=piv (M i) c∧M i (piv (M i) c).toNat≠0∧∀j,j<(piv (M i) c).toNat→M i j=0)
    (h1:¬(piv (M i) c≤lastP M c i∨(M i (piv (M i) c).toNat).sign<0)) (h2:¬0≤ig (eO (M i) (piv (M i) c).toNat) M i):iC M c i:=by
  have h3:=mt (dn (M i (piv (M i) c).toNat)).2 (fun h=>h1 (.inr h));refine .inr ⟨by have:=fun h=>h1 (.inl h);omega,by have:=hpa.2.2.1;omega,fun k hk=> ?_⟩;have h4:=vt h2 hk
  unfold eO at h4
  exact ⟨by have:=fun h=>h4 (.inl h);omega,by have:=fun h=>h4 (.inr h);omega⟩
theorem vM {M:Nat→Nat→Int} {c i:Nat} (h:iC M c i) (h0:¬piv (M i) c<0) (h1:piv (M i) c≤lastP M c i∨(M i (piv (M i) c).toNat).sign<0):False:=by
  rcases h with h | ⟨h2,h3,_⟩
  · exact h0 h
  · rcases h1 with h1 | h1
    · omega
    · have:=(dn _).1 h1;omega
theorem vL {M:Nat→Nat→Int} {c i:Nat} (h:iC M c i) (h0:¬piv (M i) c<0) (h1:0≤ig (eO (M i) (piv (M i) c).toNat) M i):False:=by
  rcases h with h | ⟨_,_,h3⟩
  · exact h0 h
  · obtain ⟨k,hk,hw⟩:=ta h1
    obtain ⟨g1,g2⟩:=h3 k hk
    unfold eO at hw
    omega
theorem re {r c n:Nat}:(((True∧((r:Nat):Int)=((n:Nat):Int))∧((c:Nat):Int)=((n:Nat):Int)))↔(r=n∧c=n):=by
  constructor
  · rintro ⟨⟨_,h1⟩,h2⟩;omega
  · rintro ⟨h1,h2⟩;exact ⟨⟨trivial,by omega⟩,by omega⟩
end Go.TL
namespace Go.TL
open Go.RowKit Go.Proofs
set_option linter.unusedVariables false
set_option linter.unusedSimpArgs false
set_option maxRecDepth 10000 in
theorem sV (w:World) (x:Value) (nx cx:Nat) (Mx:Nat→Nat→Int) (btx:Nat) (fv:Value) (p:(Nat→Int)→Prop) [DecidablePred p] (hx:ce w x nx cx Mx btx) (hF:uZ Tryz.prog w fv cx btx p):Calls Tryz.prog 108 #[x,fv] w (cc w fun v w'=>v= .int .i64 (ig p Mx nx)):=by
 have hLIM:bj=562949953421312:=rfl;have hlimx:=hx.lim;refine ai (N:=19) (rs:= #[.tmp 4]) Tryz.func108 rfl rfl rfl (Nat.le_of_ble_eq_true rfl) ?_;have hX:aA w w:=aA.refl w;refine ab ?_;refine RL.p rfl rfl (cj.assign rfl) ?_;refine RL.nil ?_;refine WP.seq ?_;refine ab ?_;refine RL.p rfl rfl (cj.move rfl) ?_;refine RL.p rfl rfl (cd aK rfl (ce.ext hx hX)) ?_;refine RL.p rfl rfl (cj.move rfl) ?_;refine RL.nil ?_;refine WP.block ?_;refine WP.loop (fun mz ez uz=>∃i:Nat,(mz=nx - i)∧(ez 0=x)∧(ez 1=fv)∧(ez 7= .int .i64 ((nx:Nat)))∧(ez 8= .int .i64 ((i:Nat)))∧(i≤nx)∧(ig p Mx i= -1)∧(aA w uz)) (nx - 0) ?_ ?_
 · exact ⟨0,rfl,rfl,rfl,rfl,rfl,(by omega),rfl,hX⟩
 rintro m1 e1 w1 ⟨i,hm1,s0_e1,s1_e1,s7_e1,s8_e1,hi,hnone,hX1⟩;refine ab ?_;refine RL.p rfl rfl (cj.lss s8_e1 s7_e1) ?_;refine RL.nil ?_;refine WP.seq ?_;refine ae (((i:Nat):Int)<((nx:Nat):Int)) rfl (fun c9=> ?_) (fun c9=> ?_)
 ·
  refine WP.skip ?_;refine pl.norm ?_;refine WP.seq ?_;refine WP.block ?_;refine ab ?_;refine RL.p rfl rfl (cj.move s8_e1) ?_;refine RL.p rfl rfl (cj.assign rfl) ?_;refine RL.nil ?_;refine ab ?_;refine RL.p rfl rfl (cj.move s1_e1) ?_;refine RL.p rfl rfl (cj.move s0_e1) ?_;refine RL.p rfl rfl (cj.move rfl) ?_;refine RL.x rfl rfl (aJ (j:=i) aK rfl (ce.ext hx hX1) rfl (by omega) (by omega)) ?_;rintro v1 _ ⟨rfl,q1⟩;refine RL.x rfl rfl (aI bn rfl q1) ?_;rintro v2 _ ⟨rfl,q2⟩;refine RL.x rfl rfl (mV rfl (uZ.ext hF hX1) rfl q2) ?_;rintro _ w2 ⟨hx1,rfl⟩;replace hX1:=aA.trans hX1 hx1;refine RL.nil ?_;refine ae (p (Mx i)) rfl (fun c16=> ?_) (fun c16=> ?_)
  ·
   refine ab ?_;refine RL.p rfl rfl (cj.move rfl) ?_;refine RL.p rfl rfl (cj.assign rfl) ?_;refine RL.nil ?_;refine WP.ret ?_;refine iD.ret ?_;refine pl.ret ?_;refine pl.ret ?_;refine iD.ret ?_;refine pl.ret ?_;refine ⟨.int .i64 ((i:Nat)),Am.one (fw.tmp rfl),_,rfl,hX1,?_⟩;dsimp only;rw [oH hnone c16 (by omega)]
  ·
   refine WP.skip ?_;refine iD.norm ?_;refine pl.norm ?_;refine WP.region ?_;refine RL.p rfl rfl (cj.add (c:=((i + 1:Nat):Int)) s8_e1 rfl (bT (by omega))) ?_;refine RL.p rfl rfl (cj.move rfl) ?_;refine RL.nil ?_;refine pl.norm ⟨_,(by omega),i + 1,rfl,s0_e1,s1_e1,s7_e1,rfl,(by omega),(rf hnone c16),hX1⟩
 ·
  refine WP.exit ?_;refine pl.exit ?_;refine pl.exit ?_;refine iD.same ?_;refine pl.norm ?_;refine ab ?_;refine RL.p rfl rfl (cj.assign rfl) ?_;refine RL.nil ?_;refine WP.ret ?_;refine ⟨.int .i64 (-1),Am.one (fw.tmp rfl),_,rfl,hX1,?_⟩;dsimp only;rw [show nx=i by omega,hnone]
set_option maxRecDepth 10000 in
theorem nG (w:World) (x:Value) (nx cx:Nat) (Mx:Nat→Nat→Int) (btx:Nat) (fv:Value) (p:(Nat→Int)→Prop) [DecidablePred p] (hx:ce w x nx cx Mx btx) (hF:uZ Tryz.prog w fv cx btx p):Calls Tryz.prog 77 #[x,fv] w (cc w fun v w'=>v= .bool (decide (0≤ig p Mx nx))):=by
 have hLIM:bj=562949953421312:=rfl;have hlimx:=hx.lim;refine ai (N:=9) (rs:= #[.tmp 4]) Tryz.func77 rfl rfl rfl (Nat.le_of_ble_eq_true rfl) ?_;have hX:aA w w:=aA.refl w;refine ab ?_;refine RL.p rfl rfl (cj.assign rfl) ?_;refine RL.nil ?_;refine ab ?_;refine RL.p rfl rfl (cj.move rfl) ?_;refine RL.p rfl rfl (cj.move rfl) ?_;refine RL.x rfl rfl (cQ.call xP (aC rfl rfl) (sV _ _ _ _ _ _ _ p (ce.ext hx hX) (uZ.ext hF hX))) ?_;rintro _ w1 ⟨hx1,rfl⟩;replace hX:=aA.trans hX hx1;refine RL.p rfl rfl (cj.geq rfl rfl) ?_;refine RL.p rfl rfl (cj.assign rfl) ?_;refine RL.nil ?_;refine WP.ret ?_;refine ⟨.bool (decide ((0:Int)≤(ig p Mx nx:Int))),Am.one (fw.tmp rfl),_,rfl,hX,?_⟩
 rfl
set_option maxRecDepth 10000 in
theorem zW (w:World) (u:Value) (nu:Nat) (zu:Nat→Int) (btu:Nat) (gc C:Nat) (gv:Nat) (v:Value) (nv:Nat) (zv:Nat→Int) (btv:Nat) (hu:bi w u nu zu btu) (hAc:aY w gc 3 1 (bU [.int .i64 (C:Nat)])) (hAv:aY w gv 41 1 (bU [v])) (hv:bi w v nv zv btv) (hCu:C<nu) (hCv:C<nv):Calls Tryz.prog 75 #[u,.pointer (some ⟨gc,0,none⟩),.pointer (some ⟨gv,0,none⟩)] w (cc w fun v w'=>v= .bool (decide (eO zv C zu))):=by
 have hLIM:bj=562949953421312:=rfl;have hlimu:=hu.lim;refine ai (N:=23) (rs:= #[.tmp 4]) Tryz.func75 rfl rfl rfl (Nat.le_of_ble_eq_true rfl) ?_;have hX:aA w w:=aA.refl w;refine ab ?_;refine RL.p rfl rfl (cj.assign rfl) ?_;refine RL.nil ?_;refine aF am 18 [_,_,_,_,_,_,fun v AW=>v= .bool (decide (((zu C:Int).sign:Int)<(0:Int))),_,_,_,_,_,_,_,_,_,_,_] rfl rfl (fun e_ w_ AV AU=>⟨fun _=>aa (cj.move ((AU 0 rfl rfl))),fun _=>aa (cj.load bD ((AU 1 rfl rfl)) ((aY.ext (aY.ext hAc hX) AV).at_ (i:=0) rfl rfl)),fun AT=>ag (aM (j:=C) bE (AT 0 rfl) (bi.ext (bi.ext hu hX) AV) (AT 1 rfl) (by omega) (by omega)),fun AT=>ag (aO aq rfl (AT 2 rfl)),fun AT=>cQ.call jj (aL rfl) (fO _ _ _ _ ((AT 3 rfl))),fun AT=>aa (cj.lss ((AT 4 rfl)) rfl),fun AT=>aa (cj.move ((AT 5 rfl))),fun AT=>gF (AT 6 rfl) fun hg=>aa (cj.move ((AU 0 rfl rfl))),fun AT=>gF (AT 6 rfl) fun hg=>aa (cj.load bD ((AU 1 rfl rfl)) ((aY.ext (aY.ext hAc hX) AV).at_ (i:=0) rfl rfl)),fun AT=>gF (AT 6 rfl) fun hg=>ag (aM (j:=C) bE (AT 7 rfl hg) (bi.ext (bi.ext hu hX) AV) (AT 8 rfl hg) (by omega) (by omega)),fun AT=>gF (AT 6 rfl) fun hg=>ag (aO aq rfl (AT 9 rfl hg)),fun AT=>gF (AT 6 rfl) fun hg=>aa (cj.load bn ((AU 2 rfl rfl)) ((aY.ext (aY.ext hAv hX) AV).at_ (i:=0) rfl rfl)),fun AT=>gF (AT 6 rfl) fun hg=>aa (cj.load bD ((AU 1 rfl rfl)) ((aY.ext (aY.ext hAc hX) AV).at_ (i:=0) rfl rfl)),fun AT=>gF (AT 6 rfl) fun hg=>ag (aM (j:=C) bE (AT 11 rfl hg) (bi.ext (bi.ext hv hX) AV) (AT 12 rfl hg) (by omega) (by omega)),fun AT=>gF (AT 6 rfl) fun hg=>ag (aO aq rfl (AT 13 rfl hg)),fun AT=>gF (AT 6 rfl) fun hg=>cQ.call so (aC rfl rfl) (uH _ _ _ _ _ _ _ ((AT 10 rfl hg)) ((AT 14 rfl hg))),fun AT=>gF (AT 6 rfl) fun hg=>aa (cj.geq ((AT 15 rfl hg)) rfl),fun AT=>aa (aP (p:=((zu C:Int).sign:Int)<(0:Int)) (q:=(0:Int)≤(bV (zu C) (zv C):Int)) (AT 6 rfl) (fun hq=>(AT 16 rfl hq))),trivial⟩) ?_;intro e1 w1 hx1 ho1 hf1;replace hX:=aA.trans hX hx1;have s22_e1:e1 22=_:=hf1 17 rfl;refine RL.p rfl rfl (cj.assign s22_e1) ?_;refine RL.nil ?_;refine WP.ret ?_;refine ⟨.bool (decide ((((zu C:Int).sign:Int)<(0:Int))∨((0:Int)≤(bV (zu C) (zv C):Int)))),Am.one (fw.tmp rfl),_,rfl,hX,?_⟩;dsimp only;exact congrArg _ (decide_eq_decide.2 qS)
set_option maxRecDepth 10000 in
set_option maxHeartbeats 800000 in
theorem zX (w:World) (sx:Value) (Rx Cx nx cx:Nat) (Mx:Nat→Nat→Int) (btx:Nat) (hRx:Rx≤65536) (hCx:Cx≤65536) (hSx:ce w sx nx cx Mx btx):Calls Tryz.prog 29 #[.agg #[.int .i64 (Rx:Nat),.int .i64 (Cx:Nat),sx]] w (cc w fun v w'=>v= .bool (decide (nd Rx Cx nx cx∧ck Rx Cx Mx))):=by
 have hLIM:bj=562949953421312:=rfl;have hlimx:=hSx.lim;refine ai (N:=45) (rs:= #[.tmp 2]) Tryz.func29 rfl rfl rfl (Nat.le_of_ble_eq_true rfl) ?_;have hX:aA w w:=aA.refl w;refine ab ?_;refine RL.x rfl rfl (cQ.box [.int .i64 ((Rx:Nat)),.int .i64 ((Cx:Nat)),sx] rfl rfl) ?_;rintro _ w1 ⟨g1,rfl,hge1,hx1,hA1⟩;replace hX:=aA.trans hX hx1;refine RL.p rfl rfl (cj.assign rfl) ?_;refine RL.nil ?_;refine WP.seq ?_;refine ab ?_;refine RL.p rfl rfl (af [.int .i64 ((Rx:Nat)),.int .i64 ((Cx:Nat)),sx] aV rfl (hA1.cells 0 _ rfl rfl)) ?_;refine RL.x rfl rfl (cQ.call st (aL rfl) (qb _ _ Rx Cx _ _ _ _ (by omega) (by omega) (ce.ext hSx hX))) ?_;rintro _ w2 ⟨hx2,rfl⟩;replace hA1:=aY.ext hA1 hx2;replace hX:=aA.trans hX hx2;refine RL.p rfl rfl (cj.not (p:=nd Rx Cx nx cx) rfl) ?_;refine RL.nil ?_;refine ae (¬(nd Rx Cx nx cx)) rfl (fun c10=> ?_) (fun c10=> ?_)
 ·
  refine ab ?_;refine RL.p rfl rfl (cj.assign rfl) ?_;refine RL.nil ?_;refine WP.ret ?_;refine pl.ret ?_;refine ⟨.bool (false),Am.one (fw.tmp rfl),_,rfl,hX,?_⟩;dsimp only;exact congrArg _ (decide_eq_false fun h=>c10 h.1).symm
 ·
  refine WP.skip ?_;refine pl.norm ?_;have hgk:nd Rx Cx nx cx:=Decidable.of_not_not c10;replace hSx:=pw hSx hgk.2;refine ab ?_;refine RL.p rfl rfl (cj.assign rfl) ?_;refine RL.nil ?_;refine WP.seq ?_;refine ab ?_;refine RL.p rfl rfl (cj.fieldAddr aw rfl) ?_;refine RL.p rfl rfl (cj.load aU rfl (hA1.at_ (i:=2) rfl rfl)) ?_;refine RL.p rfl rfl (cd aK rfl (ce.ext hSx hX)) ?_;refine RL.p rfl rfl (cj.move rfl) ?_;refine RL.nil ?_;refine WP.block ?_;refine WP.loop (fun mz ez uz=>∃i:Nat,(mz=nx - i)∧(ez 1= .pointer (some ⟨g1,0,none⟩))∧(ez 3= .int .i64 (lastP Mx Cx i))∧(ez 12=sx)∧(ez 13= .int .i64 ((nx:Nat)))∧(ez 14= .int .i64 ((i:Nat)))∧(i≤nx)∧(∀a,a<i→iC Mx Cx a)∧(aA w uz)∧(aY uz g1 28 3 (bU [.int .i64 ((Rx:Nat)),.int .i64 ((Cx:Nat)),sx]))) (nx - 0) ?_ ?_
  · exact ⟨0,rfl,rfl,rfl,rfl,rfl,rfl,(by omega),(fun a ha=>absurd ha (by omega)),hX,hA1⟩
  rintro m1 e1 w3 ⟨i,hm1,s1_e1,s3_e1,s12_e1,s13_e1,s14_e1,hi,hok,hX1,hA1⟩;refine ab ?_;refine RL.p rfl rfl (cj.lss s14_e1 s13_e1) ?_;refine RL.nil ?_;refine WP.seq ?_;refine ae (((i:Nat):Int)<((nx:Nat):Int)) rfl (fun c15=> ?_) (fun c15=> ?_)
  ·
   refine WP.skip ?_;refine pl.norm ?_;refine WP.seq ?_;refine WP.block ?_;refine ab ?_;refine RL.p rfl rfl (cj.move s14_e1) ?_;refine RL.x rfl rfl (aJ (j:=i) aK s12_e1 (ce.ext hSx hX1) s14_e1 (by omega) (by omega)) ?_;rintro v1 _ ⟨rfl,q1⟩;refine RL.x rfl rfl (aI bn rfl q1) ?_;rintro v2 _ ⟨rfl,q2⟩;refine RL.x rfl rfl (cQ.alloc [.slice (none) (0) (0)] pC rfl) ?_;rintro _ w4 ⟨g2,rfl,hge2,hx3,hA2⟩;have ne1:g1≠g2:=Nat.ne_of_lt (Nat.lt_of_lt_of_le hA1.lt hge2);have hbs2:w.heap.size≤g2:=Nat.le_trans hX1.size hge2;replace hA1:=aY.ext hA1 hx3;replace q2:=bi.ext q2 hx3;replace hX1:=aA.trans hX1 hx3;refine RL.p rfl rfl (cj.assign rfl) ?_;refine RL.x rfl rfl (cQ.store [v2] ji rfl rfl q2.cells1 hA2 (Nat.le_of_ble_eq_true rfl) (dx (q2.one))) ?_;rintro _ w5 ⟨hk1,hnew⟩;replace hA1:=hA1.keep hk1 ne1;replace q2:=ga q2 hk1 hA2 (by decide);replace hX1:=hX1.step hk1 (fun b e=>by subst e;exact hbs2);replace hA2:=hnew.lit [v2] rfl;clear hnew;refine RL.nil ?_;refine ab ?_;refine RL.p rfl rfl (cj.load bn rfl (hA2.at_ (i:=0) rfl rfl)) ?_;refine RL.x rfl rfl (cQ.call pJ (aL rfl) (jG _ _ _ _ _ q2)) ?_;rintro _ w6 ⟨hx4,rfl⟩;replace hA1:=aY.ext hA1 hx4;replace q2:=bi.ext q2 hx4;replace hA2:=aY.ext hA2 hx4;replace hX1:=aA.trans hX1 hx4;refine RL.x rfl rfl (cQ.alloc [.int .i64 (0)] AA rfl) ?_;rintro _ w7 ⟨g3,rfl,hge3,hx5,hA3⟩;have ne2:g1≠g3:=Nat.ne_of_lt (Nat.lt_of_lt_of_le hA1.lt hge3);have ne3:g2≠g3:=Nat.ne_of_lt (Nat.lt_of_lt_of_le hA2.lt hge3);have hbs3:w.heap.size≤g3:=Nat.le_trans hX1.size hge3;replace hA1:=aY.ext hA1 hx5;replace q2:=bi.ext q2 hx5;replace hA2:=aY.ext hA2 hx5;replace hX1:=aA.trans hX1 hx5;refine RL.x rfl rfl (cQ.store [.int .i64 (piv (Mx i) Cx)] yN rfl rfl rfl hA3 (Nat.le_of_ble_eq_true rfl) (dx rfl)) ?_;rintro _ w8 ⟨hk2,hnew⟩;replace hA1:=hA1.keep hk2 ne2;replace q2:=ga q2 hk2 hA3 (by decide);replace hA2:=hA2.keep hk2 ne3;replace hX1:=hX1.step hk2 (fun b e=>by subst e;exact hbs3);replace hA3:=hnew.lit [.int .i64 (piv (Mx i) Cx)] rfl;clear hnew;refine RL.nil ?_;refine WP.seq ?_;refine ab ?_;refine RL.p rfl rfl (cj.load bD rfl (hA3.at_ (i:=0) rfl rfl)) ?_;refine RL.p rfl rfl (cj.lss rfl rfl) ?_;refine RL.nil ?_;refine ae ((piv (Mx i) Cx:Int)<(0:Int)) rfl (fun c22=> ?_) (fun c22=> ?_)
   ·
    refine ab ?_;refine RL.p rfl rfl (cj.fieldAddr bC s1_e1) ?_;refine RL.p rfl rfl (cj.load bD rfl (hA1.at_ (i:=1) rfl rfl)) ?_;refine RL.p rfl rfl (cj.assign rfl) ?_;refine RL.nil ?_;refine WP.exit ?_;refine pl.exit ?_;refine iD.same ?_;refine pl.norm ?_;refine WP.region ?_;refine RL.p rfl rfl (cj.add (c:=((i + 1:Nat):Int)) s14_e1 rfl (bT (by omega))) ?_;refine RL.p rfl rfl (cj.move rfl) ?_;refine RL.nil ?_;refine pl.norm ⟨_,(by omega),i + 1,rfl,s1_e1,(congrArg (Value.int .i64) (iR c22)),s12_e1,s13_e1,rfl,(by omega),(ef hok (.inl c22)),hX1,hA1⟩
   ·
    refine WP.skip ?_;refine pl.norm ?_;refine WP.seq ?_;have hpa:=kn (z:=Mx i) (n:=Cx) (by omega);refine aF am 11 [_,_,_,fun v AW=>v= .bool (decide ((piv (Mx i) Cx:Int)≤(lastP Mx Cx i:Int))),_,_,_,_,_,_,_] rfl rfl (fun e_ w_ AV AU=>⟨fun _=>aa (cj.load bD ((AU 6 rfl rfl)) ((aY.ext hA3 AV).at_ (i:=0) rfl rfl)),fun _=>aa (cj.move ((AU 3 rfl s3_e1))),fun AT=>aa (cj.leq ((AT 0 rfl)) ((AT 1 rfl))),fun AT=>aa (cj.move ((AT 2 rfl))),fun AT=>gF (AT 3 rfl) fun hg=>aa (cj.load bn ((AU 5 rfl rfl)) ((aY.ext hA2 AV).at_ (i:=0) rfl rfl)),fun AT=>gF (AT 3 rfl) fun hg=>aa (cj.load bD ((AU 6 rfl rfl)) ((aY.ext hA3 AV).at_ (i:=0) rfl rfl)),fun AT=>gF (AT 3 rfl) fun hg=>ag (aM (j:=(piv (Mx i) Cx).toNat) bE (AT 4 rfl hg) (bi.ext q2 AV) (nh (a:=(((piv (Mx i) Cx).toNat:Nat):Int)) (b:=piv (Mx i) Cx) (AT 5 rfl hg) (by omega)) (by omega) (by omega)),fun AT=>gF (AT 3 rfl) fun hg=>ag (aO aq rfl (AT 6 rfl hg)),fun AT=>gF (AT 3 rfl) fun hg=>cQ.call jj (aL rfl) (fO _ _ _ _ ((AT 7 rfl hg))),fun AT=>gF (AT 3 rfl) fun hg=>aa (cj.lss ((AT 8 rfl hg)) rfl),fun AT=>aa (aP (p:=(piv (Mx i) Cx:Int)≤(lastP Mx Cx i:Int)) (q:=(((Mx i) ((piv (Mx i) Cx).toNat):Int).sign:Int)<(0:Int)) (AT 3 rfl) (fun hq=>(AT 9 rfl hq))),trivial⟩) ?_;intro e2 w9 hx6 ho1 hf1;replace hA1:=aY.ext hA1 hx6;replace q2:=bi.ext q2 hx6;replace hA2:=aY.ext hA2 hx6;replace hA3:=aY.ext hA3 hx6;replace hX1:=aA.trans hX1 hx6;have s1_e2:=ho1 1 rfl s1_e1;have s12_e2:=ho1 12 rfl s12_e1;have s13_e2:=ho1 13 rfl s13_e1;have s14_e2:=ho1 14 rfl s14_e1;have s5_e2:e2 5=_:=ho1 5 rfl rfl;have s4_e2:e2 4=_:=ho1 4 rfl rfl;have s6_e2:e2 6=_:=ho1 6 rfl rfl;have s35_e2:e2 35=_:=hf1 10 rfl;refine RL.nil ?_;refine ae (((piv (Mx i) Cx:Int)≤(lastP Mx Cx i:Int))∨((((Mx i) ((piv (Mx i) Cx).toNat):Int).sign:Int)<(0:Int))) s35_e2 (fun c35=> ?_) (fun c35=> ?_)
    ·
     refine ab ?_;refine RL.p rfl rfl (cj.assign rfl) ?_;refine RL.nil ?_;refine WP.ret ?_;refine pl.ret ?_;refine iD.ret ?_;refine pl.ret ?_;refine pl.ret ?_;refine iD.ret ?_;refine pl.ret ?_;refine ⟨.bool (false),Am.one (fw.tmp rfl),_,rfl,hX1,?_⟩;dsimp only;exact congrArg _ (decide_eq_false fun h=>vM (h.2 i (by have:=h.1.1;omega)) c22 c35).symm
    ·
     refine WP.skip ?_;refine pl.norm ?_;refine ab ?_;refine RL.p rfl rfl (cj.makeFunc (lQ) (aC s6_e2 s5_e2)) ?_;refine RL.p rfl rfl (cj.assign rfl) ?_;refine RL.nil ?_;refine WP.seq ?_;refine ab ?_;refine RL.p rfl rfl (cj.fieldAddr aw s1_e2) ?_;refine RL.p rfl rfl (cj.load aU rfl (hA1.at_ (i:=2) rfl rfl)) ?_;refine RL.p rfl rfl (cj.move s4_e2) ?_;refine RL.x rfl rfl (gt (j:=i) aK rfl (ce.ext hSx hX1) rfl (by omega) (by omega)) ?_;rintro v3 _ ⟨rfl,q3⟩;refine RL.p rfl rfl (cj.move rfl) ?_;refine RL.x rfl rfl (cQ.call zn (aC rfl rfl) (nG _ _ _ _ _ _ _ (eO (Mx i) (piv (Mx i) Cx).toNat) q3 ⟨75,#[],#[.pointer (some ⟨g3,0,none⟩),.pointer (some ⟨g2,0,none⟩)],rfl,zp,fun w1 hw1 x z hI=>zW _ _ _ _ _ _ _ _ _ _ _ _ hI (aY.ext (by rw [hpa.2.1];exact hA3) hw1) (aY.ext hA2 hw1) (bi.ext q2 hw1) hpa.1 hpa.1⟩)) ?_;rintro _ w10 ⟨hx7,rfl⟩;replace hA1:=aY.ext hA1 hx7;replace hA3:=aY.ext hA3 hx7;replace hX1:=aA.trans hX1 hx7;refine RL.nil ?_;refine ae (0≤ig (eO (Mx i) (piv (Mx i) Cx).toNat) Mx i) rfl (fun c42=> ?_) (fun c42=> ?_)
     ·
      refine ab ?_;refine RL.p rfl rfl (cj.assign rfl) ?_;refine RL.nil ?_;refine WP.ret ?_;refine pl.ret ?_;refine iD.ret ?_;refine pl.ret ?_;refine pl.ret ?_;refine iD.ret ?_;refine pl.ret ?_;refine ⟨.bool (false),Am.one (fw.tmp rfl),_,rfl,hX1,?_⟩;dsimp only;exact congrArg _ (decide_eq_false fun h=>vL (h.2 i (by have:=h.1.1;omega)) c22 c42).symm
     ·
      refine WP.skip ?_;refine pl.norm ?_;refine WP.region ?_;refine RL.p rfl rfl (cj.load bD s6_e2 (hA3.at_ (i:=0) rfl rfl)) ?_;refine RL.p rfl rfl (cj.assign rfl) ?_;refine RL.nil ?_;refine iD.norm ?_;refine pl.norm ?_;refine WP.region ?_;refine RL.p rfl rfl (cj.add (c:=((i + 1:Nat):Int)) s14_e2 rfl (bT (by omega))) ?_;refine RL.p rfl rfl (cj.move rfl) ?_;refine RL.nil ?_;refine pl.norm ⟨_,(by omega),i + 1,rfl,s1_e2,(congrArg (Value.int .i64) (iQ c22)),s12_e2,s13_e2,rfl,(by omega),(ef hok (ym hpa c35 c42)),hX1,hA1⟩
  ·
   refine WP.exit ?_;refine pl.exit ?_;refine pl.exit ?_;refine iD.same ?_;refine pl.norm ?_;refine ab ?_;refine RL.p rfl rfl (cj.assign rfl) ?_;refine RL.nil ?_;refine WP.ret ?_;refine ⟨.bool (true),Am.one (fw.tmp rfl),_,rfl,hX1,?_⟩;dsimp only;exact congrArg _ (decide_eq_true ⟨hgk,fun a ha=>hok a (by have:=hgk.1;omega)⟩).symm
set_option maxRecDepth 10000 in
theorem ql (w:World) (x:Value) (rx cx:Nat) (Mx:Nat→Nat→Int) (btx:Nat) (n:Nat) (hx:bX w x rx cx Mx btx):Calls Tryz.prog 60 #[x,.int .i64 (n:Nat)] w (cc w fun v w'=>v= .bool (decide (rx=n∧cx=n))):=by
 have hLIM:bj=562949953421312:=rfl;have hmatx:=hx;obtain ⟨sx,rfl,hrx,hcx,hSx⟩:=hx.form;refine ai (N:=19) (rs:= #[.tmp 4]) Tryz.func60 rfl rfl rfl (Nat.le_of_ble_eq_true rfl) ?_;have hX:aA w w:=aA.refl w;refine ab ?_;refine RL.x rfl rfl (cQ.box [.int .i64 ((rx:Nat)),.int .i64 ((cx:Nat)),sx] rfl rfl) ?_;rintro _ w1 ⟨g1,rfl,hge1,hx1,hA1⟩;replace hX:=aA.trans hX hx1;refine RL.p rfl rfl (cj.assign rfl) ?_;refine RL.nil ?_;refine aF am 14 [_,fun v AW=>v= .bool (decide (True)),fun v AW=>v= .bool (decide (True)),_,_,_,_,_,fun v AW=>v= .bool (decide ((True)∧(((rx:Nat):Int)=((n:Nat):Int)))),_,_,_,_,_] rfl rfl (fun e_ w_ AV AU=>⟨fun _=>aa (af [.int .i64 ((rx:Nat)),.int .i64 ((cx:Nat)),sx] aV ((AU 2 rfl rfl)) ((aY.ext hA1 AV).cells 0 _ rfl rfl)),fun AT=>cQ.call st (aL ((AT 0 rfl))) (nS _ _ _ _ _ _ (bX.mk (ce.ext (ce.ext hSx hX) AV) (by omega) (by omega))),fun AT=>aa (cj.move ((AT 1 rfl))),fun AT=>gT (AT 2 rfl) fun hg=>aa (cj.fieldAddr aX ((AU 2 rfl rfl))),fun AT=>gT (AT 2 rfl) fun hg=>aa (cj.load bD ((AT 3 rfl hg)) ((aY.ext hA1 AV).at_ (i:=0) rfl rfl)),fun AT=>gT (AT 2 rfl) fun hg=>aa (cj.move ((AU 1 rfl rfl))),fun AT=>gT (AT 2 rfl) fun hg=>aa (cj.eql ((AT 4 rfl hg)) ((AT 5 rfl hg))),fun AT=>aa (au (p:=True) (q:=((rx:Nat):Int)=((n:Nat):Int)) (AT 2 rfl) (fun hq=>(AT 6 rfl hq))),fun AT=>aa (cj.move ((AT 7 rfl))),fun AT=>gT (AT 8 rfl) fun hg=>aa (cj.fieldAddr bC ((AU 2 rfl rfl))),fun AT=>gT (AT 8 rfl) fun hg=>aa (cj.load bD ((AT 9 rfl hg)) ((aY.ext hA1 AV).at_ (i:=1) rfl rfl)),fun AT=>gT (AT 8 rfl) fun hg=>aa (cj.move ((AU 1 rfl rfl))),fun AT=>gT (AT 8 rfl) fun hg=>aa (cj.eql ((AT 10 rfl hg)) ((AT 11 rfl hg))),fun AT=>aa (au (p:=(True)∧(((rx:Nat):Int)=((n:Nat):Int))) (q:=((cx:Nat):Int)=((n:Nat):Int)) (AT 8 rfl) (fun hq=>(AT 12 rfl hq))),trivial⟩) ?_;intro e1 w2 hx2 ho1 hf1;replace hX:=aA.trans hX hx2;have s18_e1:e1 18=_:=hf1 13 rfl;refine RL.p rfl rfl (cj.assign s18_e1) ?_;refine RL.nil ?_;refine WP.ret ?_;refine ⟨.bool (decide (((True)∧(((rx:Nat):Int)=((n:Nat):Int)))∧(((cx:Nat):Int)=((n:Nat):Int)))),Am.one (fw.tmp rfl),_,rfl,hX,?_⟩;dsimp only;exact congrArg _ (decide_eq_decide.2 re)
end Go.TL
namespace Go.TL
open Go.RowKit Go.Proofs
set_option linter.unusedVariables false
theorem qn (w:World) (x:Value) (r c:Nat) (M:Nat→Nat→Int) (b:Nat) (hx:bX w x r c M b):Calls Tryz.prog 29 #[x] w (cc w fun v _=>v= .bool (decide (ck r c M))):=by
  obtain ⟨s,rfl,hr,hc,hS⟩:=hx.form;refine (zX w s r c r c M b hr.1 hc hS).mono ?_;rintro e w' ⟨v,rfl,hx',h⟩;exact ⟨v,rfl,hx',h.trans (congrArg _ (decide_eq_decide.2 ⟨fun h=>h.2,fun h=>⟨nd.same,h⟩⟩))⟩
def uT (w:World) (v:Value) (w0:World) (n:Nat) (z:Nat→Int) (b:Nat):Prop:=∃h o u,v= .pointer (some ⟨h,o,none⟩)∧w.cell? ⟨h,o,none⟩=some u∧bi w0 u n z b
section
variable {P:Program} {e:cl} {w w0:World} {d:Option Tmp} {ty:TypeId} {pos:String} {after:Array Edge} {gd:Option (Nat×Bool)}
theorem gz {t n c m j b:Nat} {x ix:Operand} {v:Value} {M:Nat→Nat→Int} {i:Int} {k:IntKind} (ht:sliceB P t 41 1 m=true) (hx:ev e x=v) (hH:ce w0 v n c M b) (hw:aA w0 w)
    (hi:ev e ix= .int k i) (hij:i=(j:Int)) (hj:j<n):cQ P ⟨d,.indexAddr t x ix,ty,pos,after,gd⟩ e w (fun v w'=>w=w'∧uT w' v w0 c (M j) b):=by
  obtain ⟨A,kk,rfl,h2,h3,h4⟩:=hH;obtain ⟨h,o,m',f,rfl,hm,ha,hf⟩:=h4 (by omega);refine cT (φ:=fun v w'=>uT w' v w0 c (M j) b) (cj.index (j:=j) ht hx hi rfl hij hj) ⟨h,_,f (o + j),rfl,?_,hf j hj⟩;rw [Nat.mul_one];exact (ha.ext hw).cell (by omega)
theorem iy {t n b:Nat} {x:Operand} {v:Value} {z:Nat→Int} (ht:oneB P t=true) (hx:ev e x=v) (hP:uT w v w0 n z b):cQ P ⟨d,.load t x,ty,pos,after,gd⟩ e w (fun v w'=>w=w'∧bi w0 v n z b):=by
  obtain ⟨h,o,u,rfl,hc,hR⟩:=hP;exact cT (φ:=fun v w'=>bi w0 v n z b) (cj.load ht hx hc) hR
end
theorem wB {w:World} {v:Value} {n b:Nat} {z:Nat→Int} (h:bi w v n z b) (hn:0<n):∃g,fg w v g n∧cw w g n z b∧g<w.heap.size:=by
  obtain ⟨A,k,rfl,h2,h3,h4⟩:=h;obtain ⟨g,rfl,hB⟩:=h4 hn;exact ⟨g,⟨k,rfl,h2,h3.1,h3.2.1⟩,hB,hB.lt⟩
theorem rL (B n b':Nat):fz (fun v _ b=>b=dQ v) (fun v w=>dJ w v B n b'):=
  ⟨fun v w b h hb=>by obtain ⟨g,h1,h2,h3⟩:=h;subst h1;rw [hb];exact h3.lt,fun _ _ _ _ _ _ h=>h⟩
def gp (Q:Nat→Int) (i:Nat):Nat→Int:=fun a=>if a<i then Q a else 0
theorem oP (Q:Nat→Int):gp Q 0=fun _=>0:=by funext a;simp [gp]
theorem kp (Q:Nat→Int) (i:Nat):gp Q (i + 1) i=Q i:=if_pos (by omega)
theorem rj {Q:Nat→Int} {i:Nat} {q:Int} (hq:q=Q i):jP (gp Q i) i q=gp Q (i + 1):=by
  funext a
  simp only [jP,gp]
  by_cases e:a=i
  · subst e;rw [if_pos rfl,if_pos (by omega),hq]
  · rw [if_neg e]
    by_cases h:a<i
    · rw [if_pos h,if_pos (by omega)]
    · rw [if_neg h,if_neg (by omega)]
theorem oQ {Q:Nat→Int} {i:Nat} (hq:Q i=0):gp Q i=gp Q (i + 1):=by
  funext a
  simp only [gp]
  by_cases e:a=i
  · subst e;rw [if_neg (by omega),if_pos (by omega),hq]
  · by_cases h:a<i
    · rw [if_pos h,if_pos (by omega)]
    · rw [if_neg h,if_neg (by omega)]
theorem nK (M:Nat→Nat→Int) (c:Nat) (z:Nat→Int) (i j:Nat):bS M c z i j + -(cb M c z i)*M i j=bS M c z (i + 1) j:=by
  simp only [bS,cb];rw [Int.neg_mul];omega
theorem td {M:Nat→Nat→Int} {c:Nat} {z:Nat→Int} {i:Nat} (h:piv (M i) c<0):bS M c z i=bS M c z (i + 1):=by
  funext j;simp only [bS];rw [jY h,Int.zero_mul];omega
theorem yb {w:World} {v:Value} {B r c b:Nat} {M:Nat→Nat→Int} {z:Nat→Int} (h:dJ w v B r b) (hn:∀i,¬0≤piv (M i) c) (hr:r≤65536):bi w v r (cb M c z) b:=by
  obtain ⟨g,rfl,_,hR⟩:=h;exact cw.rowV (cw.congr hR fun j _=>(jY (by have:=hn j;omega)).symm) (Nat.le_refl _) ⟨by omega,hr⟩
theorem rX {w:World} {v:Value} {z z':Nat→Int} {b b':Nat} (h:bi w v 0 z b) (hb:b'≤bj):bi w v 0 z' b':=by
  obtain ⟨A,k,h1,h2,h3,_⟩:=h;exact ⟨A,k,h1,h2,⟨h3.1,h3.2.1,hb⟩,fun h=>absurd h (Nat.lt_irrefl _)⟩
end Go.TL
namespace Go.TL
open Go.RowKit Go.Proofs
set_option linter.unusedVariables false
set_option linter.unusedSimpArgs false
set_option maxRecDepth 10000 in
theorem sY (w:World) (x:Value) (nx:Nat) (zx:Nat→Int) (btx:Nat) (hx:bi w x nx zx btx) (hn:0<nx):Calls Tryz.prog 65 #[x] w (cc w fun v w'=>dL w' v w.heap.size nx zx btx):=by
 have hLIM:bj=562949953421312:=rfl;have hlimx:=hx.lim;refine ai (N:=8) (rs:= #[.tmp 2]) Tryz.func65 rfl rfl rfl (Nat.le_of_ble_eq_true rfl) ?_;have hX:aA w w:=aA.refl w;refine ab ?_;refine RL.p rfl rfl (cj.assign rfl) ?_;refine RL.nil ?_;refine WP.seq ?_;refine ab ?_;refine RL.p rfl rfl (cj.move rfl) ?_;refine RL.p rfl rfl (kN cA rfl (bi.ext hx hX) rfl hn) ?_;refine RL.nil ?_;refine WP.cond _ rfl (fun hf=>absurd hf (by decide)) (fun _=> ?_);refine WP.skip ?_;refine pl.norm ?_;refine ab ?_;refine RL.x rfl rfl (cL cA) ?_;rintro _ w1 ⟨g1,rfl,hge1,hx1,hA1⟩;replace hX:=aA.trans hX hx1;refine RL.p rfl rfl (cj.move rfl) ?_;have hBw1:w.heap.size≤w1.heap.size:=hX.size;refine RL.x rfl rfl (iA cA (by decide) bH rfl hA1 rfl (bi.ext hx hX) hn) ?_;rintro v1 w2 ⟨hx2,q1,_⟩;replace hX:=aA.trans hX hx2;refine RL.p rfl rfl (cj.assign rfl) ?_;refine RL.nil ?_;refine WP.ret ?_;refine ⟨v1,Am.one (fw.tmp rfl),_,rfl,hX,?_⟩;dsimp only;obtain ⟨g,h1,h2,h3⟩:=q1;exact ⟨g,h1,Nat.le_trans hBw1 h2,h3⟩
set_option maxRecDepth 10000 in
set_option maxHeartbeats 1600000 in
theorem nX (w:World) (x:Value) (rx cx:Nat) (Mx:Nat→Nat→Int) (btx:Nat) (v:Value) (nv:Nat) (zv:Nat→Int) (btv:Nat) (b:Nat) (hx:bX w x rx cx Mx btx) (hv:bi w v nv zv btv) (hc0:0<cx) (hb:btv + rx*(btx + 1)≤b) (hl:b + b + 2≤bj) (hl2:btx≤b):Calls Tryz.prog 21 #[x,v] w (cc w fun v w'=>(nv≠cx∧v= .tuple #[.slice none 0 0,.slice none 0 0,.int .i64 50])∨(nv=cx∧∃vq vr,v= .tuple #[vq,vr,.int .i64 0]∧bi w' vq rx (cb Mx cx zv) b∧bi w' vr cx (bS Mx cx zv rx) b)):=by
 have hLIM:bj=562949953421312:=rfl;have hmatx:=hx;obtain ⟨sx,rfl,hrx,hcx,hSx⟩:=hx.form;have hlimv:=hv.lim;refine ai (N:=57) (rs:= #[.tmp 4,.tmp 5,.tmp 6]) Tryz.func21 rfl rfl rfl (Nat.le_of_ble_eq_true rfl) ?_;have hX:aA w w:=aA.refl w;have hbM:=ce.bd hSx;have hbz:=bi.bd hv;have hmul:∀q,q≤rx→q*(btx + 1)≤rx*(btx + 1):=fun q hq=>Nat.mul_le_mul_right _ hq
 have hpw0:∀q,q≤rx→2^(btv + q*(btx + 1))≤2^b:=fun q hq=>Nat.pow_le_pow_right (by decide) (by have:=hmul q hq;omega)
 refine ab ?_;refine RL.x rfl rfl (cQ.box [.int .i64 ((rx:Nat)),.int .i64 ((cx:Nat)),sx] rfl rfl) ?_;rintro _ w1 ⟨g1,rfl,hge1,hx1,hA1⟩;replace hX:=aA.trans hX hx1;refine RL.p rfl rfl (cj.assign rfl) ?_;refine RL.p rfl rfl (cj.assign rfl) ?_;refine RL.p rfl rfl (cj.assign rfl) ?_;refine RL.nil ?_;refine WP.seq ?_;refine ab ?_;refine RL.p rfl rfl (cj.move rfl) ?_;refine RL.p rfl rfl (bW cA rfl (bi.ext hv hX)) ?_;refine RL.p rfl rfl (cj.fieldAddr bC rfl) ?_;refine RL.p rfl rfl (cj.load bD rfl (hA1.at_ (i:=1) rfl rfl)) ?_;refine RL.p rfl rfl (cj.neq rfl rfl) ?_;refine RL.nil ?_;refine ae (((nv:Nat):Int)≠((cx:Nat):Int)) rfl (fun c16=> ?_) (fun c16=> ?_)
 ·
  refine ab ?_;refine RL.p rfl rfl (cj.assign rfl) ?_;refine RL.p rfl rfl (cj.assign rfl) ?_;refine RL.p rfl rfl (cj.assign rfl) ?_;refine RL.nil ?_;refine WP.ret ?_;refine pl.ret ?_;refine ⟨.tuple #[.slice (none) (0) (0),.slice (none) (0) (0),.int .i64 (50)],dR (fw.tmp rfl) (fw.tmp rfl) (fw.tmp rfl),_,rfl,hX,?_⟩;dsimp only;exact .inl ⟨fun e=>c16 (by omega),rfl⟩
 ·
  refine WP.skip ?_;refine pl.norm ?_;obtain rfl:cx=nv:=by omega
  have hXr:=hX;refine jb am 5 [_,_,fun v AW=>dJ AW v w1.heap.size rx b,_,fun v AW=>dL AW v w1.heap.size cx zv btv] (Apart.of (fun v _ b=>b=dQ v) [(2,4)] rfl ⟨(fun h=>by cases h),(fun h=>by cases h),(fun _=>rL _ _ _),(fun h=>by cases h),(fun _=>iP _ _ _ _),trivial⟩) rfl rfl ⟨ac _,ac _,jm _ _ _,ac _,eK _ _ _ _,trivial⟩ ⟨fun e_ w_ AV AU AT=>aS rfl (aa (cj.fieldAddr aX (((AU 2 rfl).trans rfl)))),fun e_ w_ AV AU AT=>aS rfl (aa (cj.load bD ((AT 0 rfl)) ((aY.ext hA1 AV).at_ (i:=0) rfl rfl))),fun e_ w_ AV AU AT=>cQ.mono (fR (b:=b) cA (by decide) bH (AT 1 rfl) (AT 1 rfl) rfl rfl (by omega) (Nat.le_refl _) (by omega)) fun v AX hv=>⟨hv.1,(by obtain ⟨g,h1,h2,h3⟩:=hv.2;exact ⟨g,h1,Nat.le_trans AV.size h2,h3⟩),fo fun b hb=>hb▸(by obtain ⟨g,h1,h2,h3⟩:=hv.2;rw [h1];exact h2)⟩,fun e_ w_ AV AU AT=>aS rfl (aa (cj.move (((AU 1 rfl).trans rfl)))),fun e_ w_ AV AU AT=>cQ.mono (cQ.call wP (aL ((AT 3 rfl))) (sY _ _ _ _ _ (bi.ext (bi.ext hv hX) AV) hc0)) fun v AX hv=>⟨hv.1,(by obtain ⟨g,h1,h2,h3⟩:=hv.2;exact ⟨g,h1,Nat.le_trans AV.size h2,h3⟩),fo fun b hb=>hb▸(by obtain ⟨g,h1,h2,h3⟩:=hv.2;rw [eM h1];exact h2)⟩,trivial⟩ ?_;intro e1 w2 hx2 ho1 hf1 hp1;replace hA1:=aY.ext hA1 hx2;replace hX:=aA.trans hX hx2;have s2_e1:e1 2= .pointer (some ⟨g1,0,none⟩):=(ho1 2 rfl).trans rfl;have s4_e1:e1 4= .slice (none) (0) (0):=(ho1 4 rfl).trans rfl;have s5_e1:e1 5= .slice (none) (0) (0):=(ho1 5 rfl).trans rfl;have s6_e1:e1 6= .int .i64 (0):=(ho1 6 rfl).trans rfl;have s19_e1:dJ w2 (e1 19) w1.heap.size rx b:=hf1 2 rfl;have s21_e1:dL w2 (e1 21) w1.heap.size cx zv btv:=hf1 4 rfl;obtain ⟨gq,hq1,hqB,hQ⟩:=s19_e1;obtain ⟨gr,hSr,hrB,hR⟩:=s21_e1;have hqr:gq≠gr:=by
    have hd:=hp1 2 4 rfl rfl rfl rfl (dQ (e1 19)) rfl;intro he
    apply hd
    show dQ (e1 19)=dQ (e1 21);rw [hq1,eM hSr];exact he
  obtain ⟨kr,hr1,hrk,hrl⟩:=hSr;have hbq:w.heap.size≤gq:=Nat.le_trans hXr.size hqB;have hbr:w.heap.size≤gr:=Nat.le_trans hXr.size hrB;replace hR:=cw.up (b':=b) hR (by omega) (by omega);replace hQ:=fQ hQ (oP (cb Mx cx zv)).symm;refine RL.p rfl rfl (cj.assign hq1) ?_;refine RL.p rfl rfl (cj.assign hr1) ?_;refine RL.nil ?_;refine WP.seq ?_;refine ab ?_;refine RL.p rfl rfl (cj.fieldAddr aw s2_e1) ?_;refine RL.p rfl rfl (cj.load aU rfl (hA1.at_ (i:=2) rfl rfl)) ?_;refine RL.p rfl rfl (cd aK rfl (ce.ext hSx hX)) ?_;refine RL.p rfl rfl (cj.move rfl) ?_;refine RL.nil ?_;refine WP.block ?_;refine WP.loop (fun mz ez uz=>∃i:Nat,(mz=rx - i)∧(ez 4= .slice (none) (0) (0))∧(ez 5= .slice (none) (0) (0))∧(ez 6= .int .i64 (0))∧(ez 7= .slice (some ⟨gq,0,none⟩) (rx) (rx))∧(ez 8= .slice (some ⟨gr,0,none⟩) (cx) (kr))∧(ez 23=sx)∧(ez 24= .int .i64 ((rx:Nat)))∧(ez 25= .int .i64 ((i:Nat)))∧(i≤rx)∧(aA w uz)∧(aY uz g1 28 3 (bU [.int .i64 ((rx:Nat)),.int .i64 ((cx:Nat)),sx]))∧(cw uz gq rx (gp (cb Mx cx zv) i) b)∧(cw uz gr cx (bS Mx cx zv i) b)) (rx - 0) ?_ ?_
  · exact ⟨0,rfl,s4_e1,s5_e1,s6_e1,rfl,rfl,rfl,rfl,rfl,(by omega),hX,hA1,hQ,hR⟩
  rintro m1 e2 w3 ⟨i,hm1,s4_e2,s5_e2,s6_e2,s7_e2,s8_e2,s23_e2,s24_e2,s25_e2,hi,hX1,hA1,hQ,hR⟩;refine ab ?_;refine RL.p rfl rfl (cj.lss s25_e2 s24_e2) ?_;refine RL.nil ?_;refine WP.seq ?_;refine ae (((i:Nat):Int)<((rx:Nat):Int)) rfl (fun c26=> ?_) (fun c26=> ?_)
  ·
   refine WP.skip ?_;refine pl.norm ?_;refine WP.seq ?_;refine WP.block ?_;refine ab ?_;refine RL.p rfl rfl (cj.move s25_e2) ?_;refine RL.x rfl rfl (gz (j:=i) aK s23_e2 hSx hX1 s25_e2 (by omega) (by omega)) ?_;rintro v1 _ ⟨rfl,q1⟩;refine RL.x rfl rfl (iy bn rfl q1) ?_;rintro v2 _ ⟨rfl,q2⟩;refine RL.p rfl rfl (cj.assign rfl) ?_;refine RL.p rfl rfl (cj.assign rfl) ?_;refine RL.nil ?_;refine ab ?_;refine RL.p rfl rfl (cj.move rfl) ?_;refine RL.x rfl rfl (cQ.call pJ (aL rfl) (jG _ _ _ _ _ (bi.ext q2 hX1))) ?_;rintro _ w4 ⟨hx3,rfl⟩;replace hA1:=aY.ext hA1 hx3;replace hQ:=cw.ext hQ hx3;replace hR:=cw.ext hR hx3;replace hX1:=aA.trans hX1 hx3;refine RL.p rfl rfl (cj.assign rfl) ?_;refine RL.nil ?_;have hpw:=hpw0 i (by omega);have hpw1:=hpw0 (i + 1) (by omega);have hRbd:=mn (c:=cx) hbM hbz (i:=i) (by omega);refine ab ?_;refine RL.p rfl rfl (cj.move rfl) ?_;refine RL.p rfl rfl (cj.geq rfl rfl) ?_;refine RL.nil ?_;refine ae ((0:Int)≤(piv (Mx i) cx:Int)) rfl (fun c33=> ?_) (fun c33=> ?_)
   ·
    have hpa:=kn (z:=Mx i) (n:=cx) (by omega);refine aF am 12 [_,_,_,_,_,_,_,_,_,_,_,_] rfl rfl (fun e_ w_ AV AU=>⟨fun _=>aa (cj.move ((AU 7 rfl s7_e2))),fun _=>aa (cj.move ((AU 9 rfl rfl))),fun _=>aa (cj.move ((AU 8 rfl s8_e2))),fun _=>aa (cj.move ((AU 11 rfl rfl))),fun AT=>aa (cj.index (j:=(piv (Mx i) cx).toNat) cA ((AT 2 rfl)) ((nh (a:=(((piv (Mx i) cx).toNat:Nat):Int)) (b:=piv (Mx i) cx) (AT 3 rfl) (by omega))) rfl (by omega) (by omega)),fun AT=>ag (bN (j:=(piv (Mx i) cx).toNat) aq (AT 4 rfl) (cw.ext hR AV) (by omega)),fun _=>aa (cj.move ((AU 10 rfl rfl))),fun _=>aa (cj.move ((AU 11 rfl rfl))),fun AT=>ag (aM (j:=(piv (Mx i) cx).toNat) bE (AT 6 rfl) (bi.ext (bi.ext q2 hX1) AV) (nh (a:=(((piv (Mx i) cx).toNat:Nat):Int)) (b:=piv (Mx i) cx) (AT 7 rfl) (by omega)) (by omega) (by omega)),fun AT=>ag (aO aq rfl (AT 8 rfl)),fun AT=>cQ.call sv (aC rfl rfl) (gJ _ _ _ _ _ _ _ (AT 5 rfl) (AT 9 rfl) hpa.2.2.1 (by omega)),fun AT=>aa (cj.index (j:=i) cA ((AT 0 rfl)) ((AT 1 rfl)) rfl (by omega) (by omega)),trivial⟩) ?_;intro e3 w5 hx4 ho2 hf2;replace hA1:=aY.ext hA1 hx4;replace hQ:=cw.ext hQ hx4;replace hR:=cw.ext hR hx4;replace hX1:=aA.trans hX1 hx4;have s4_e3:=ho2 4 rfl s4_e2;have s5_e3:=ho2 5 rfl s5_e2;have s6_e3:=ho2 6 rfl s6_e2;have s7_e3:=ho2 7 rfl s7_e2;have s8_e3:=ho2 8 rfl s8_e2;have s23_e3:=ho2 23 rfl s23_e2;have s24_e3:=ho2 24 rfl s24_e2;have s25_e3:=ho2 25 rfl s25_e2;have s9_e3:e3 9=_:=ho2 9 rfl rfl;have s10_e3:e3 10=_:=ho2 10 rfl rfl;have s44_e3:ak w5 (e3 44) (((bS Mx cx zv i) ((piv (Mx i) cx).toNat))/((Mx i) ((piv (Mx i) cx).toNat))) b:=hf2 10 rfl;have s45_e3:e3 45=_:=hf2 11 rfl;refine RL.x rfl rfl (gL (j:=i) bf s45_e3 rfl (ak.eq s44_e3 (tf (by omega)).symm (by have:=pR (M:=Mx) (i:=i) hRbd;exact Nat.lt_of_lt_of_le this hpw) (by omega)) hQ (by omega)) ?_;rintro _ w6 ⟨hk1,hN1⟩;replace hA1:=bF hA1 hk1 hQ (by decide);replace hR:=cw.keep hR hk1 (Ne.symm hqr) hQ.nu;replace hX1:=hX1.step hk1 (fun b e=>by subst e;exact hbq);replace hQ:=hN1;refine RL.nil ?_;replace hQ:=fQ hQ (rj (Q:=(cb Mx cx zv)) rfl)
    skip
    refine WP.region ?_;refine RL.p rfl rfl (cj.move s8_e3) ?_;refine RL.p rfl rfl (cj.move s10_e3) ?_;refine RL.p rfl rfl (cj.move s7_e3) ?_;refine RL.p rfl rfl (cj.move s9_e3) ?_;refine RL.p rfl rfl (cj.index (j:=i) cA rfl rfl rfl (by omega) (by omega)) ?_;refine RL.x rfl rfl (bN (j:=i) aq rfl hQ (by omega)) ?_;rintro v3 _ ⟨rfl,q3⟩;refine RL.x rfl rfl (cQ.call ll (aL rfl) (lP _ _ _ _ q3)) ?_;rintro v4 w7 ⟨hx5,q4⟩;replace hA1:=aY.ext hA1 hx5;replace hQ:=cw.ext hQ hx5;replace hR:=cw.ext hR hx5;replace hX1:=aA.trans hX1 hx5;obtain ⟨gy,hys,hyB,hyl⟩:=wB q2 hc0;refine RL.x rfl rfl (du nt (cH rfl rfl rfl) (nW _ _ _ _ _ _ _ _ _ _ _ _ ⟨kr,rfl,hrk,hrl⟩ (bL hys _) q4 hR (cw.up (cw.ext hyB hX1) (by omega) (by omega)) (fun e=>absurd e (by omega)) (by omega) (fun j hj=>by rw [kp,nK];exact Nat.lt_of_lt_of_le (mn (c:=cx) hbM hbz (i:=i + 1) (by omega) j hj) hpw1))) ?_;rintro _ w9 ⟨hk2,hN2⟩;replace hA1:=bF hA1 hk2 hR (by decide);replace hQ:=cw.keep hQ hk2 hqr hR.nu;replace hX1:=hX1.step hk2 (fun b e=>by subst e;exact hbr);replace hR:=cw.congr (z':=bS Mx cx zv (i + 1)) hN2 (fun j hj=>by rw [kp,nK]);refine RL.nil ?_;refine iD.norm ?_;refine pl.norm ?_;refine WP.region ?_;refine RL.p rfl rfl (cj.add (c:=((i + 1:Nat):Int)) s25_e3 rfl (bT (by omega))) ?_;refine RL.p rfl rfl (cj.move rfl) ?_;refine RL.nil ?_;refine pl.norm ⟨_,(by omega),i + 1,rfl,s4_e3,s5_e3,s6_e3,s7_e3,s8_e3,s23_e3,s24_e3,rfl,(by omega),hX1,hA1,hQ,hR⟩
   ·
    refine WP.skip ?_;refine iD.norm ?_;refine pl.norm ?_;refine WP.region ?_;refine RL.p rfl rfl (cj.add (c:=((i + 1:Nat):Int)) s25_e2 rfl (bT (by omega))) ?_;refine RL.p rfl rfl (cj.move rfl) ?_;refine RL.nil ?_;refine pl.norm ⟨_,(by omega),i + 1,rfl,s4_e2,s5_e2,s6_e2,s7_e2,s8_e2,s23_e2,s24_e2,rfl,(by omega),hX1,hA1,fQ hQ (oQ (jY (by omega))),fQ hR (td (by omega))⟩
  ·
   refine WP.exit ?_;refine pl.exit ?_;refine pl.exit ?_;refine iD.same ?_;refine pl.norm ?_;refine ab ?_;refine RL.p rfl rfl (cj.move s7_e2) ?_;refine RL.p rfl rfl (cj.move s8_e2) ?_;refine RL.p rfl rfl (cj.assign rfl) ?_;refine RL.p rfl rfl (cj.assign rfl) ?_;refine RL.p rfl rfl (cj.assign rfl) ?_;refine RL.nil ?_;refine WP.ret ?_;refine ⟨.tuple #[.slice (some ⟨gq,0,none⟩) (rx) (rx),.slice (some ⟨gr,0,none⟩) (cx) (kr),.int .i64 (0)],dR (fw.tmp rfl) (fw.tmp rfl) (fw.tmp rfl),_,rfl,hX1,?_⟩;dsimp only;have hir:i=rx:=by omega
   subst hir;refine .inr ⟨by omega,_,_,rfl,?_,?_⟩
   · exact cw.rowV (cw.congr hQ (fun j hj=>if_pos hj)) (Nat.le_refl _) ⟨by omega,by omega⟩
   · exact cw.rowV hR hrk hrl
end Go.TL
namespace Go.TL
open Go.RowKit Go.Proofs
set_option linter.unusedVariables false
set_option linter.unusedSimpArgs false
set_option maxRecDepth 10000 in
theorem sZ (w:World) (x:Value) (zx:Nat→Int) (btx:Nat) (hx:bi w x 0 zx btx):Calls Tryz.prog 65 #[x] w (cc w fun v w'=>bi w' v 0 zx btx):=by
 have hLIM:bj=562949953421312:=rfl;obtain ⟨Ax,kx,rfl,hkx,hlx,_⟩:=hx;refine ai (N:=8) (rs:= #[.tmp 2]) Tryz.func65 rfl rfl rfl (Nat.le_of_ble_eq_true rfl) ?_;have hX:aA w w:=aA.refl w;refine ab ?_;refine RL.p rfl rfl (cj.assign rfl) ?_;refine RL.nil ?_;refine WP.seq ?_;refine ab ?_;refine RL.p rfl rfl (cj.move rfl) ?_;refine RL.p rfl rfl (gO cA rfl rfl) ?_;refine RL.nil ?_;refine ae (Ax=none) rfl (fun c4=> ?_) (fun c4=> ?_)
 ·
  refine ab ?_;refine RL.p rfl rfl (cj.assign rfl) ?_;refine RL.nil ?_;refine WP.ret ?_;refine pl.ret ?_;refine ⟨.slice (none) (0) (0),Am.one (fw.tmp rfl),_,rfl,hX,?_⟩;dsimp only;exact ⟨_,_,rfl,Nat.zero_le _,⟨by decide,Nat.zero_le _,hlx.2.2⟩,fun h=>absurd h (Nat.lt_irrefl _)⟩
 ·
  refine WP.skip ?_;refine pl.norm ?_;refine ab ?_;refine RL.x rfl rfl (cL cA) ?_;rintro _ w1 ⟨g1,rfl,hge1,hx1,hA1⟩;replace hX:=aA.trans hX hx1;refine RL.p rfl rfl (cj.move rfl) ?_;refine RL.p rfl rfl (jr cA rfl rfl) ?_;refine RL.p rfl rfl (cj.assign rfl) ?_;refine RL.nil ?_;refine WP.ret ?_;refine ⟨.slice (some ⟨g1,0,none⟩) (0) (0),Am.one (fw.tmp rfl),_,rfl,hX,?_⟩;dsimp only;exact ⟨_,_,rfl,Nat.zero_le _,⟨by decide,Nat.zero_le _,hlx.2.2⟩,fun h=>absurd h (Nat.lt_irrefl _)⟩
set_option maxRecDepth 10000 in
theorem lI (w:World) (x:Value) (rx cx:Nat) (Mx:Nat→Nat→Int) (btx:Nat) (v:Value) (nv:Nat) (zv:Nat→Int) (btv:Nat) (b:Nat) (hx:bX w x rx cx Mx btx) (hv:bi w v nv zv btv) (hc0:cx=0) (hl:b≤bj):Calls Tryz.prog 21 #[x,v] w (cc w fun v w'=>(nv≠cx∧v= .tuple #[.slice none 0 0,.slice none 0 0,.int .i64 50])∨(nv=cx∧∃vq vr,v= .tuple #[vq,vr,.int .i64 0]∧bi w' vq rx (cb Mx cx zv) b∧bi w' vr cx (bS Mx cx zv rx) b)):=by
 have hLIM:bj=562949953421312:=rfl;have hmatx:=hx;obtain ⟨sx,rfl,hrx,hcx,hSx⟩:=hx.form;have hlimv:=hv.lim;refine ai (N:=57) (rs:= #[.tmp 4,.tmp 5,.tmp 6]) Tryz.func21 rfl rfl rfl (Nat.le_of_ble_eq_true rfl) ?_;have hX:aA w w:=aA.refl w;have hnp:∀i,¬0≤piv (Mx i) cx:=fun i h=>by rw [hc0] at h;exact absurd h (by show ¬(0:Int)≤ -1;decide)
 refine ab ?_;refine RL.x rfl rfl (cQ.box [.int .i64 ((rx:Nat)),.int .i64 ((cx:Nat)),sx] rfl rfl) ?_;rintro _ w1 ⟨g1,rfl,hge1,hx1,hA1⟩;replace hX:=aA.trans hX hx1;refine RL.p rfl rfl (cj.assign rfl) ?_;refine RL.p rfl rfl (cj.assign rfl) ?_;refine RL.p rfl rfl (cj.assign rfl) ?_;refine RL.nil ?_;refine WP.seq ?_;refine ab ?_;refine RL.p rfl rfl (cj.move rfl) ?_;refine RL.p rfl rfl (bW cA rfl (bi.ext hv hX)) ?_;refine RL.p rfl rfl (cj.fieldAddr bC rfl) ?_;refine RL.p rfl rfl (cj.load bD rfl (hA1.at_ (i:=1) rfl rfl)) ?_;refine RL.p rfl rfl (cj.neq rfl rfl) ?_;refine RL.nil ?_;refine ae (((nv:Nat):Int)≠((cx:Nat):Int)) rfl (fun c16=> ?_) (fun c16=> ?_)
 ·
  refine ab ?_;refine RL.p rfl rfl (cj.assign rfl) ?_;refine RL.p rfl rfl (cj.assign rfl) ?_;refine RL.p rfl rfl (cj.assign rfl) ?_;refine RL.nil ?_;refine WP.ret ?_;refine pl.ret ?_;refine ⟨.tuple #[.slice (none) (0) (0),.slice (none) (0) (0),.int .i64 (50)],dR (fw.tmp rfl) (fw.tmp rfl) (fw.tmp rfl),_,rfl,hX,?_⟩;dsimp only;exact .inl ⟨fun e=>c16 (by omega),rfl⟩
 ·
  refine WP.skip ?_;refine pl.norm ?_;obtain rfl:cx=nv:=by omega
  refine aF am 5 [_,_,fun v AW=>dJ AW v w1.heap.size rx b,_,_] rfl rfl (fun e_ w_ AV AU=>⟨fun _=>aa (cj.fieldAddr aX ((AU 2 rfl rfl))),fun AT=>aa (cj.load bD ((AT 0 rfl)) ((aY.ext hA1 AV).at_ (i:=0) rfl rfl)),fun AT=>fR cA (by decide) bH (AT 1 rfl) (AT 1 rfl) rfl rfl (by omega) AV.size (by omega),fun _=>aa (cj.move ((AU 1 rfl rfl))),fun AT=>cQ.call wP (aL ((AT 3 rfl))) (sZ _ _ _ _ (hc0▸(bi.ext (bi.ext hv hX) AV))),trivial⟩) ?_;intro e1 w2 hx2 ho1 hf1;replace hA1:=aY.ext hA1 hx2;replace hX:=aA.trans hX hx2;have s2_e1:e1 2=_:=ho1 2 rfl rfl;have s4_e1:e1 4=_:=ho1 4 rfl rfl;have s5_e1:e1 5=_:=ho1 5 rfl rfl;have s6_e1:e1 6=_:=ho1 6 rfl rfl;have s19_e1:dJ w2 (e1 19) w1.heap.size rx b:=hf1 2 rfl;have s21_e1:bi w2 (e1 21) 0 zv btv:=hf1 4 rfl;refine RL.p rfl rfl (cj.assign rfl) ?_;refine RL.p rfl rfl (cj.assign rfl) ?_;refine RL.nil ?_;refine WP.seq ?_;refine ab ?_;refine RL.p rfl rfl (cj.fieldAddr aw s2_e1) ?_;refine RL.p rfl rfl (cj.load aU rfl (hA1.at_ (i:=2) rfl rfl)) ?_;refine RL.p rfl rfl (cd aK rfl (ce.ext hSx hX)) ?_;refine RL.p rfl rfl (cj.move rfl) ?_;refine RL.nil ?_;refine WP.block ?_;refine WP.loop (fun mz ez uz=>∃i:Nat,(mz=rx - i)∧(ez 4= .slice (none) (0) (0))∧(ez 5= .slice (none) (0) (0))∧(ez 6= .int .i64 (0))∧(ez 7=(e1 19))∧(ez 8=(e1 21))∧(ez 23=sx)∧(ez 24= .int .i64 ((rx:Nat)))∧(ez 25= .int .i64 ((i:Nat)))∧(i≤rx)∧(aA w uz)∧(aY uz g1 28 3 (bU [.int .i64 ((rx:Nat)),.int .i64 ((cx:Nat)),sx]))∧(dJ uz (e1 19) w1.heap.size rx b)∧(bi uz (e1 21) 0 zv btv)) (rx - 0) ?_ ?_
  · exact ⟨0,rfl,s4_e1,s5_e1,s6_e1,rfl,rfl,rfl,rfl,rfl,(by omega),hX,hA1,s19_e1,s21_e1⟩
  rintro m1 e2 w3 ⟨i,hm1,s4_e2,s5_e2,s6_e2,s7_e2,s8_e2,s23_e2,s24_e2,s25_e2,hi,hX1,hA1,s19_e1,s21_e1⟩;refine ab ?_;refine RL.p rfl rfl (cj.lss s25_e2 s24_e2) ?_;refine RL.nil ?_;refine WP.seq ?_;refine ae (((i:Nat):Int)<((rx:Nat):Int)) rfl (fun c26=> ?_) (fun c26=> ?_)
  ·
   refine WP.skip ?_;refine pl.norm ?_;refine WP.seq ?_;refine WP.block ?_;refine ab ?_;refine RL.p rfl rfl (cj.move s25_e2) ?_;refine RL.x rfl rfl (gz (j:=i) aK s23_e2 hSx hX1 s25_e2 (by omega) (by omega)) ?_;rintro v1 _ ⟨rfl,q1⟩;refine RL.x rfl rfl (iy bn rfl q1) ?_;rintro v2 _ ⟨rfl,q2⟩;refine RL.p rfl rfl (cj.assign rfl) ?_;refine RL.p rfl rfl (cj.assign rfl) ?_;refine RL.nil ?_;refine ab ?_;refine RL.p rfl rfl (cj.move rfl) ?_;refine RL.x rfl rfl (cQ.call pJ (aL rfl) (jG _ _ _ _ _ (bi.ext q2 hX1))) ?_;rintro _ w4 ⟨hx3,rfl⟩;replace hA1:=aY.ext hA1 hx3;replace s19_e1:=dJ.ext s19_e1 hx3;replace s21_e1:=bi.ext s21_e1 hx3;replace hX1:=aA.trans hX1 hx3;refine RL.p rfl rfl (cj.assign rfl) ?_;refine RL.nil ?_;refine ab ?_;refine RL.p rfl rfl (cj.move rfl) ?_;refine RL.p rfl rfl (cj.geq rfl rfl) ?_;refine RL.nil ?_;refine ae ((0:Int)≤(piv (Mx i) cx:Int)) rfl (fun hn=>absurd hn ((hnp i))) (fun c33=> ?_);refine WP.skip ?_;refine iD.norm ?_;refine pl.norm ?_;refine WP.region ?_;refine RL.p rfl rfl (cj.add (c:=((i + 1:Nat):Int)) s25_e2 rfl (bT (by omega))) ?_;refine RL.p rfl rfl (cj.move rfl) ?_;refine RL.nil ?_;refine pl.norm ⟨_,(by omega),i + 1,rfl,s4_e2,s5_e2,s6_e2,s7_e2,s8_e2,s23_e2,s24_e2,rfl,(by omega),hX1,hA1,s19_e1,s21_e1⟩
  ·
   refine WP.exit ?_;refine pl.exit ?_;refine pl.exit ?_;refine iD.same ?_;refine pl.norm ?_;refine ab ?_;refine RL.p rfl rfl (cj.move s7_e2) ?_;refine RL.p rfl rfl (cj.move s8_e2) ?_;refine RL.p rfl rfl (cj.assign rfl) ?_;refine RL.p rfl rfl (cj.assign rfl) ?_;refine RL.p rfl rfl (cj.assign rfl) ?_;refine RL.nil ?_;refine WP.ret ?_;refine ⟨.tuple #[(e1 19),(e1 21),.int .i64 (0)],dR (fw.tmp rfl) (fw.tmp rfl) (fw.tmp rfl),_,rfl,hX1,?_⟩;dsimp only;refine .inr ⟨by omega,_,_,rfl,yb s19_e1 (fun i=>hnp i) (by omega),?_⟩;subst hc0;exact (rX s21_e1 (by omega))
end Go.TL
namespace Go.TL
open Go.RowKit Go.Proofs
set_option linter.unusedVariables false
theorem rP (w:World) (x:Value) (rx cx:Nat) (Mx:Nat→Nat→Int) (btx:Nat) (v:Value) (zv:Nat→Int) (btv b:Nat) (hx:bX w x rx cx Mx btx) (hv:bi w v cx zv btv) (hb:btv + rx*(btx + 1)≤b) (hl:b + b + 2≤bj) (hl2:btx≤b):
    Calls Tryz.prog 21 #[x,v] w (cc w fun v w'=>∃vq vr,v= .tuple #[vq,vr,.int .i64 0]∧bi w' vq rx (cb Mx cx zv) b∧bi w' vr cx (bS Mx cx zv rx) b):=by
  rcases Nat.eq_zero_or_pos cx with h0 | h0
  · refine (lI w x rx cx Mx btx v cx zv btv b hx hv h0 (by omega)).mono ?_
    rintro e w' ⟨v,rfl,hx',h⟩;rcases h with ⟨h,_⟩ | ⟨_,h⟩
    · exact absurd rfl h
    · exact ⟨v,rfl,hx',h⟩
  · refine (nX w x rx cx Mx btx v cx zv btv b hx hv h0 hb hl hl2).mono ?_
    rintro e w' ⟨v,rfl,hx',h⟩;rcases h with ⟨h,_⟩ | ⟨_,h⟩
    · exact absurd rfl h
    · exact ⟨v,rfl,hx',h⟩
theorem rO (w:World) (x:Value) (rx cx:Nat) (Mx:Nat→Nat→Int) (btx:Nat) (v:Value) (nv:Nat) (zv:Nat→Int) (btv:Nat) (hx:bX w x rx cx Mx btx) (hv:bi w v nv zv btv) (hn:nv≠cx) (hl:btv + rx*(btx + 1) + (btv + rx*(btx + 1) + (btx + btx + 2))≤bj):
    Calls Tryz.prog 21 #[x,v] w (cc w fun v w'=>v= .tuple #[.slice none 0 0,.slice none 0 0,.int .i64 50]):=by
  rcases Nat.eq_zero_or_pos cx with h0 | h0
  · refine (lI w x rx cx Mx btx v nv zv btv 0 hx hv h0 (by omega)).mono ?_
    rintro e w' ⟨v,rfl,hx',h⟩;rcases h with ⟨_,h⟩ | ⟨h,_⟩
    · exact ⟨v,rfl,hx',h⟩
    · exact absurd h hn
  · refine (nX w x rx cx Mx btx v nv zv btv (btv + rx*(btx + 1) + btx) hx hv h0 (by omega) (by omega) (by omega)).mono ?_
    rintro e w' ⟨v,rfl,hx',h⟩;rcases h with ⟨_,h⟩ | ⟨h,_⟩
    · exact ⟨v,rfl,hx',h⟩
    · exact absurd h hn
theorem tP (w:World) (x:Value) (rx cx:Nat) (Mx:Nat→Nat→Int) (btx:Nat) (y:Value) (ry cy:Nat) (My:Nat→Nat→Int) (bty b:Nat) (hx:bX w x rx cx Mx btx) (hy:bX w y ry cy My bty) (hxy:cx=ry) (hb:btx + bty + 1≤bj) (hb2:b + 1≤bj)
    (hfit:∀i j k,i<rx→j<cy→k≤cx→(av k (fun x=>Mx i x*My x j)).natAbs<2^b):
    Calls Tryz.prog 61 #[x,y] w (cc w fun v w'=>∃v1,v= .tuple #[v1,.int .i64 0]∧bX w' v1 rx cy (bc cx Mx My) b):=by
  refine (zV w x rx cx Mx btx y ry cy My bty b hx hy hxy hb hb2 hfit).mono ?_;rintro e w' ⟨v,rfl,hx',v1,h1,h2⟩;exact ⟨v,rfl,hx',v1,h1,cO.matV h2⟩
theorem jA {r n c a b:Nat} {A B:Nat→Nat→Int} (hA:∀i j,i<r→j<n→(A i j).natAbs<2^a) (hB:∀i j,i<n→j<c→(B i j).natAbs<2^b) (hn:n≤16) {d:Nat} (hd:a + b + 5≤d):
    ∀i j k,i<r→j<c→k≤n→(av k (fun x=>A i x*B x j)).natAbs<2^d:=by
  intro i j k hi hj hk;have h1:(av k (fun x=>A i x*B x j)).natAbs≤k*(2^a*2^b):=gZ fun x hx=>by
    rw [Int.natAbs_mul];exact Nat.mul_le_mul (Nat.le_of_lt (hA i x hi (by omega))) (Nat.le_of_lt (hB x j (by omega) hj))
  have h2:k*(2^a*2^b)≤16*(2^a*2^b):=Nat.mul_le_mul_right _ (by omega);have h3:16*(2^a*2^b)<2^(a + b + 5):=by
    rw [Nat.pow_add,Nat.pow_add];have:=Nat.mul_pos (Nat.two_pow_pos a) (Nat.two_pow_pos b);omega
  have h4:2^(a + b + 5)≤2^d:=Nat.pow_le_pow_right (by decide) hd;omega
def bt (rx ca rh ch ru cu rv cv:Nat) (A H U V:Nat→Nat→Int):Prop:=
  (ck rh ch H∧rh=rx∧ch=ca∧(ru=rx∧cu=rx)∧(rv=rx∧cv=rx))∧ao ru ca rh ch (bc cu U A) H∧ao ru cv rx rx (bc cu U V) ct
instance (rx ca rh ch ru cu rv cv:Nat) (A H U V:Nat→Nat→Int):Decidable (bt rx ca rh ch ru cu rv cv A H U V):=inferInstanceAs (Decidable ((_∧_)∧_))
section
variable {rx ca rh ch ru cu rv cv:Nat} {A H U V:Nat→Nat→Int}
theorem uE (h:bt rx ca rh ch ru cu rv cv A H U V) (c:(((((¬True∨¬ck rh ch H)∨((rh:Nat):Int)≠((rx:Nat):Int))∨((ch:Nat):Int)≠((ca:Nat):Int))∨¬(ru=rx∧cu=rx))∨¬(rv=rx∧cv=rx))):False:=by
  obtain ⟨⟨h1,h2,h3,h4,h5⟩,_⟩:=h;rcases c with ((((c | c) | c) | c) | c) | c
  · exact c trivial
  · exact c h1
  · exact c (by rw [h2])
  · exact c (by rw [h3])
  · exact c h4
  · exact c h5
theorem wo (c:¬(((((¬True∨¬ck rh ch H)∨((rh:Nat):Int)≠((rx:Nat):Int))∨((ch:Nat):Int)≠((ca:Nat):Int))∨¬(ru=rx∧cu=rx))∨¬(rv=rx∧cv=rx))):ck rh ch H∧rh=rx∧ch=ca∧(ru=rx∧cu=rx)∧(rv=rx∧cv=rx):=
  ⟨Decidable.by_contra fun h=>c (.inl (.inl (.inl (.inl (.inr h))))),Decidable.by_contra fun h=>c (.inl (.inl (.inl (.inr (by omega))))),Decidable.by_contra fun h=>c (.inl (.inl (.inr (by omega)))),Decidable.by_contra fun h=>c (.inl (.inr h)),Decidable.by_contra fun h=>c (.inr h)⟩
theorem Ah (c:¬(((¬True∨¬ck rh ch H)∨((rh:Nat):Int)≠((rx:Nat):Int))∨((ch:Nat):Int)≠((ca:Nat):Int))):ck rh ch H∧rh=rx∧ch=ca:=
  ⟨Decidable.by_contra fun h=>c (.inl (.inl (.inr h))),Decidable.by_contra fun h=>c (.inl (.inr (by omega))),Decidable.by_contra fun h=>c (.inr (by omega))⟩
theorem yv (h:bt rx ca rh ch ru cu rv cv A H U V) (c:(((¬True∨¬ck rh ch H)∨((rh:Nat):Int)≠((rx:Nat):Int))∨((ch:Nat):Int)≠((ca:Nat):Int))):False:=
  uE h (.inl (.inl c))
theorem wq (hk:ck rh ch H∧rh=rx∧ch=ca):(((((((ru:Nat):Int)=((rx:Nat):Int)∧((cu:Nat):Int)=((rx:Nat):Int))∧True)∧((((rv:Nat):Int)=((rx:Nat):Int)∧((cv:Nat):Int)=((rx:Nat):Int))∧True))∧ao ru ca rh ch (bc cu U A) H)∧ao ru cv rx rx (bc cu U V) ct)↔bt rx ca rh ch ru cu rv cv A H U V:=by
  constructor
  · rintro ⟨⟨⟨⟨⟨h1,h2⟩,_⟩,⟨⟨h3,h4⟩,_⟩⟩,h5⟩,h6⟩
    exact ⟨⟨hk.1,hk.2.1,hk.2.2,⟨by omega,by omega⟩,⟨by omega,by omega⟩⟩,h5,h6⟩
  · rintro ⟨⟨_,_,_,⟨h1,h2⟩,⟨h3,h4⟩⟩,h5,h6⟩
    exact ⟨⟨⟨⟨⟨by omega,by omega⟩,trivial⟩,⟨⟨by omega,by omega⟩,trivial⟩⟩,h5⟩,h6⟩
end
end Go.TL
namespace Go.TL
open Go.RowKit Go.Proofs
set_option linter.unusedVariables false
set_option linter.unusedSimpArgs false
set_option maxRecDepth 10000 in
set_option maxHeartbeats 800000 in
theorem mF (w:World) (x:Value) (rx cx:Nat) (Mx:Nat→Nat→Int) (btx:Nat) (s1 s2 s3:Value) (rh ch ru cu rv cv:Nat) (Mh Mu Mv:Nat→Nat→Int) (bh bu bv:Nat) (b:Nat) (hx:bX w x rx cx Mx btx) (h65:rh≤65536∧ch≤65536∧ru≤65536∧cu≤65536∧rv≤65536∧cv≤65536) (hSha:ce w s1 rh ch Mh bh) (hShb:ce w s2 ru cu Mu bu) (hShc:ce w s3 rv cv Mv bv) (h16:rx≤16) (hb1:bu + btx + 5≤b) (hb2:bu + bv + 5≤b) (hl:b + 1≤bj):Calls Tryz.prog 17 #[x,.agg #[.int .i64 (rh:Nat),.int .i64 (ch:Nat),s1,.int .i64 (ru:Nat),.int .i64 (cu:Nat),s2,.int .i64 (rv:Nat),.int .i64 (cv:Nat),s3]] w (cc w fun v w'=>v= .bool (decide (bt rx cx rh ch ru cu rv cv Mx Mh Mu Mv))):=by
 have hLIM:bj=562949953421312:=rfl;have hmatx:=hx;obtain ⟨sx,rfl,hrx,hcx,hSx⟩:=hx.form;refine ai (N:=76) (rs:= #[.tmp 4]) Tryz.func17 rfl rfl rfl (Nat.le_of_ble_eq_true rfl) ?_;have hX:aA w w:=aA.refl w;refine ab ?_;refine RL.x rfl rfl (cQ.box [.int .i64 ((rx:Nat)),.int .i64 ((cx:Nat)),sx] rfl rfl) ?_;rintro _ w1 ⟨g1,rfl,hge1,hx1,hA1⟩;replace hX:=aA.trans hX hx1;refine RL.x rfl rfl (cQ.box [.int .i64 ((rh:Nat)),.int .i64 ((ch:Nat)),s1,.int .i64 ((ru:Nat)),.int .i64 ((cu:Nat)),s2,.int .i64 ((rv:Nat)),.int .i64 ((cv:Nat)),s3] rfl rfl) ?_;rintro _ w2 ⟨g2,rfl,hge2,hx2,hA2⟩;replace hA1:=aY.ext hA1 hx2;replace hX:=aA.trans hX hx2;refine RL.p rfl rfl (cj.assign rfl) ?_;refine RL.nil ?_;refine WP.seq ?_;refine aF (hmono:=⟨⟨ac _,ac _,ac _,ac _,bq.imp (ac _),bq.imp (ac _),bq.imp (ac _),bq.imp (ac _),ac _,ac _,bq.imp (ac _),bq.imp (ac _),bq.imp (ac _),bq.imp (ac _),bq.imp (ac _),bq.imp (ac _),ac _,ac _,bq.imp (ac _),bq.imp (ac _),bq.imp (ac _),bq.imp (ac _),bq.imp (ac _),bq.imp (ac _),ac _,ac _,bq.imp (ac _),bq.imp (ac _),bq.imp (ac _),bq.imp (ac _),bq.imp (ac _),bq.imp (ac _),ac _,ac _,bq.imp (ac _),bq.imp (ac _),bq.imp (ac _),bq.imp (ac _),bq.imp (ac _),bq.imp (ac _),ac _,trivial⟩⟩) am 41 (_::(fun v AW=>v= .bool (decide (True)))::_::(fun v AW=>v= .bool (decide (¬(True))))::_::_::(fun v AW=>(¬(¬(True)))→(v= .bool (decide (ck rh ch Mh))))::_::_::(fun v AW=>v= .bool (decide ((¬(True))∨(¬(ck rh ch Mh)))))::_:: [_,_,_,_,_,_,fun v AW=>v= .bool (decide (((¬(True))∨(¬(ck rh ch Mh)))∨(((rh:Nat):Int)≠((rx:Nat):Int)))),_,_,_,_,_,_,_,fun v AW=>v= .bool (decide ((((¬(True))∨(¬(ck rh ch Mh)))∨(((rh:Nat):Int)≠((rx:Nat):Int)))∨(((ch:Nat):Int)≠((cx:Nat):Int)))),_,_,_,_,fun v AW=>(¬((((¬(True))∨(¬(ck rh ch Mh)))∨(((rh:Nat):Int)≠((rx:Nat):Int)))∨(((ch:Nat):Int)≠((cx:Nat):Int))))→(v= .bool (decide (ru=rx∧cu=rx))),_,_,fun v AW=>v= .bool (decide (((((¬(True))∨(¬(ck rh ch Mh)))∨(((rh:Nat):Int)≠((rx:Nat):Int)))∨(((ch:Nat):Int)≠((cx:Nat):Int)))∨(¬(ru=rx∧cu=rx)))),_,_,_,_,fun v AW=>(¬(((((¬(True))∨(¬(ck rh ch Mh)))∨(((rh:Nat):Int)≠((rx:Nat):Int)))∨(((ch:Nat):Int)≠((cx:Nat):Int)))∨(¬(ru=rx∧cu=rx))))→(v= .bool (decide (rv=rx∧cv=rx))),_,_]) rfl rfl (fun e_ w_ AV AU=>⟨fun _=>aa (af [.int .i64 ((rx:Nat)),.int .i64 ((cx:Nat)),sx] aV ((AU 2 rfl rfl)) ((aY.ext hA1 AV).cells 0 _ rfl rfl)),fun AT=>cQ.call st (aL ((AT 0 rfl))) (nS _ _ _ _ _ _ (bX.mk (ce.ext (ce.ext hSx hX) AV) (by omega) (by omega))),fun AT=>aa (cj.not (p:=True) (AT 1 rfl)),fun AT=>aa (cj.move ((AT 2 rfl))),fun AT=>gF (AT 3 rfl) fun hg=>aa (cj.fieldAddr dS ((AU 3 rfl rfl))),fun AT=>gF (AT 3 rfl) fun hg=>aa (af [.int .i64 ((rh:Nat)),.int .i64 ((ch:Nat)),s1] aV ((AT 4 rfl hg)) ((aY.ext hA2 AV).cells 0 _ rfl rfl)),fun AT=>gF (AT 3 rfl) fun hg=>cQ.call nw (aL ((AT 5 rfl hg))) (qn _ _ _ _ _ _ (bX.mk (ce.ext (ce.ext hSha hX) AV) (by omega) (by omega))),fun AT=>gF (AT 3 rfl) fun hg=>aa (cj.not (p:=ck rh ch Mh) (AT 6 rfl hg)),fun AT=>aa (aP (p:=¬(True)) (q:=¬(ck rh ch Mh)) (AT 3 rfl) (fun hq=>(AT 7 rfl hq))),fun AT=>aa (cj.move ((AT 8 rfl))),fun AT=>gF (AT 9 rfl) fun hg=>aa (cj.fieldAddr dS ((AU 3 rfl rfl))),fun AT=>gF (AT 9 rfl) fun hg=>aa (cj.fieldAddr aX ((AT 10 rfl hg))),fun AT=>gF (AT 9 rfl) fun hg=>aa (cj.load bD ((AT 11 rfl hg)) ((aY.ext hA2 AV).at_ (i:=0) rfl rfl)),fun AT=>gF (AT 9 rfl) fun hg=>aa (cj.fieldAddr aX ((AU 2 rfl rfl))),fun AT=>gF (AT 9 rfl) fun hg=>aa (cj.load bD ((AT 13 rfl hg)) ((aY.ext hA1 AV).at_ (i:=0) rfl rfl)),fun AT=>gF (AT 9 rfl) fun hg=>aa (cj.neq ((AT 12 rfl hg)) ((AT 14 rfl hg))),fun AT=>aa (aP (p:=(¬(True))∨(¬(ck rh ch Mh))) (q:=((rh:Nat):Int)≠((rx:Nat):Int)) (AT 9 rfl) (fun hq=>(AT 15 rfl hq))),fun AT=>aa (cj.move ((AT 16 rfl))),fun AT=>gF (AT 17 rfl) fun hg=>aa (cj.fieldAddr dS ((AU 3 rfl rfl))),fun AT=>gF (AT 17 rfl) fun hg=>aa (cj.fieldAddr bC ((AT 18 rfl hg))),fun AT=>gF (AT 17 rfl) fun hg=>aa (cj.load bD ((AT 19 rfl hg)) ((aY.ext hA2 AV).at_ (i:=1) rfl rfl)),fun AT=>gF (AT 17 rfl) fun hg=>aa (cj.fieldAddr bC ((AU 2 rfl rfl))),fun AT=>gF (AT 17 rfl) fun hg=>aa (cj.load bD ((AT 21 rfl hg)) ((aY.ext hA1 AV).at_ (i:=1) rfl rfl)),fun AT=>gF (AT 17 rfl) fun hg=>aa (cj.neq ((AT 20 rfl hg)) ((AT 22 rfl hg))),fun AT=>aa (aP (p:=((¬(True))∨(¬(ck rh ch Mh)))∨(((rh:Nat):Int)≠((rx:Nat):Int))) (q:=((ch:Nat):Int)≠((cx:Nat):Int)) (AT 17 rfl) (fun hq=>(AT 23 rfl hq))),fun AT=>aa (cj.move ((AT 24 rfl))),fun AT=>gF (AT 25 rfl) fun hg=>aa (cj.fieldAddr fY ((AU 3 rfl rfl))),fun AT=>gF (AT 25 rfl) fun hg=>aa (af [.int .i64 ((ru:Nat)),.int .i64 ((cu:Nat)),s2] aV ((AT 26 rfl hg)) ((aY.ext hA2 AV).cells 3 _ rfl rfl)),fun AT=>gF (AT 25 rfl) fun hg=>aa (cj.fieldAddr aX ((AU 2 rfl rfl))),fun AT=>gF (AT 25 rfl) fun hg=>aa (cj.load bD ((AT 28 rfl hg)) ((aY.ext hA1 AV).at_ (i:=0) rfl rfl)),fun AT=>gF (AT 25 rfl) fun hg=>cQ.call wS (aC ((AT 27 rfl hg)) ((AT 29 rfl hg))) (ql _ _ _ _ _ _ rx (bX.mk (ce.ext (ce.ext hShb hX) AV) (by omega) (by omega))),fun AT=>gF (AT 25 rfl) fun hg=>aa (cj.not (p:=ru=rx∧cu=rx) (AT 30 rfl hg)),fun AT=>aa (aP (p:=(((¬(True))∨(¬(ck rh ch Mh)))∨(((rh:Nat):Int)≠((rx:Nat):Int)))∨(((ch:Nat):Int)≠((cx:Nat):Int))) (q:=¬(ru=rx∧cu=rx)) (AT 25 rfl) (fun hq=>(AT 31 rfl hq))),fun AT=>aa (cj.move ((AT 32 rfl))),fun AT=>gF (AT 33 rfl) fun hg=>aa (cj.fieldAddr jy ((AU 3 rfl rfl))),fun AT=>gF (AT 33 rfl) fun hg=>aa (af [.int .i64 ((rv:Nat)),.int .i64 ((cv:Nat)),s3] aV ((AT 34 rfl hg)) ((aY.ext hA2 AV).cells 6 _ rfl rfl)),fun AT=>gF (AT 33 rfl) fun hg=>aa (cj.fieldAddr aX ((AU 2 rfl rfl))),fun AT=>gF (AT 33 rfl) fun hg=>aa (cj.load bD ((AT 36 rfl hg)) ((aY.ext hA1 AV).at_ (i:=0) rfl rfl)),fun AT=>gF (AT 33 rfl) fun hg=>cQ.call wS (aC ((AT 35 rfl hg)) ((AT 37 rfl hg))) (ql _ _ _ _ _ _ rx (bX.mk (ce.ext (ce.ext hShc hX) AV) (by omega) (by omega))),fun AT=>gF (AT 33 rfl) fun hg=>aa (cj.not (p:=rv=rx∧cv=rx) (AT 38 rfl hg)),fun AT=>aa (aP (p:=((((¬(True))∨(¬(ck rh ch Mh)))∨(((rh:Nat):Int)≠((rx:Nat):Int)))∨(((ch:Nat):Int)≠((cx:Nat):Int)))∨(¬(ru=rx∧cu=rx))) (q:=¬(rv=rx∧cv=rx)) (AT 33 rfl) (fun hq=>(AT 39 rfl hq))),trivial⟩) ?_;intro e1 w3 hx3 ho1 hf1;replace hA1:=aY.ext hA1 hx3;replace hA2:=aY.ext hA2 hx3;replace hX:=aA.trans hX hx3;have s2_e1:e1 2=_:=ho1 2 rfl rfl;have s3_e1:e1 3=_:=ho1 3 rfl rfl;have s49_e1:e1 49=_:=hf1 40 rfl;refine RL.nil ?_;refine ae ((((((¬(True))∨(¬(ck rh ch Mh)))∨(((rh:Nat):Int)≠((rx:Nat):Int)))∨(((ch:Nat):Int)≠((cx:Nat):Int)))∨(¬(ru=rx∧cu=rx)))∨(¬(rv=rx∧cv=rx))) s49_e1 (fun c49=> ?_) (fun c49=> ?_)
 ·
  refine ab ?_;refine RL.p rfl rfl (cj.assign rfl) ?_;refine RL.nil ?_;refine WP.ret ?_;refine pl.ret ?_;refine ⟨.bool (false),Am.one (fw.tmp rfl),_,rfl,hX,?_⟩;dsimp only;exact congrArg _ (decide_eq_false fun h=>uE h c49).symm
 ·
  refine WP.skip ?_;refine pl.norm ?_;obtain ⟨hka,hkb,hkc,hkd,hke⟩:=wo c49;refine ab ?_;refine RL.p rfl rfl (cj.fieldAddr fY s3_e1) ?_;refine RL.p rfl rfl (af [.int .i64 ((ru:Nat)),.int .i64 ((cu:Nat)),s2] aV rfl (hA2.cells 3 _ rfl rfl)) ?_;refine RL.p rfl rfl (af [.int .i64 ((rx:Nat)),.int .i64 ((cx:Nat)),sx] aV s2_e1 (hA1.cells 0 _ rfl rfl)) ?_;refine RL.x rfl rfl (cQ.call wR (aC rfl rfl) (tP _ _ _ _ _ _ _ _ _ _ _ b (bX.mk (ce.ext hShb hX) (by omega) (by omega)) (bX.mk (ce.ext hSx hX) (by omega) (by omega)) (by omega) (by omega) (by omega) (jA (ce.bd hShb) (by rw [show cu=rx by omega];exact ce.bd hSx) (by omega) (by omega)))) ?_;rintro _ w4 ⟨hx4,v1,rfl,q1⟩;replace hA1:=aY.ext hA1 hx4;replace hA2:=aY.ext hA2 hx4;replace hX:=aA.trans hX hx4;refine RL.p rfl rfl (cj.move rfl) ?_;refine RL.p rfl rfl (cj.extract rfl rfl) ?_;refine RL.p rfl rfl (cj.extract rfl rfl) ?_;refine RL.x rfl rfl (cQ.alloc [.int .i64 (0),.int .i64 (0),.slice (none) (0) (0)] cn rfl) ?_;rintro _ w5 ⟨g3,rfl,hge3,hx5,hA3⟩;have ne2:g1≠g3:=Nat.ne_of_lt (Nat.lt_of_lt_of_le hA1.lt hge3);have ne3:g2≠g3:=Nat.ne_of_lt (Nat.lt_of_lt_of_le hA2.lt hge3);have hbs3:w.heap.size≤g3:=Nat.le_trans hX.size hge3;replace hA1:=aY.ext hA1 hx5;replace hA2:=aY.ext hA2 hx5;replace q1:=bX.ext q1 hx5;replace hX:=aA.trans hX hx5;obtain ⟨sv1,hq1,hr1,hc1,hS1⟩:=q1.form;refine RL.x rfl rfl (cQ.store [.int .i64 ((ru:Nat)),.int .i64 ((cx:Nat)),sv1] cR rfl hq1 rfl hA3 (Nat.le_of_ble_eq_true rfl) (cS rfl rfl hS1.one)) ?_;rintro _ w6 ⟨hk1,hnew⟩;replace hA1:=hA1.keep hk1 ne2;replace hA2:=hA2.keep hk1 ne3;replace hS1:=br hS1 hk1 hA3 (by decide);replace hX:=hX.step hk1 (fun b e=>by subst e;exact hbs3);replace hA3:=hnew.lit [.int .i64 ((ru:Nat)),.int .i64 ((cx:Nat)),sv1] rfl;clear hnew;refine RL.p rfl rfl (cj.assign rfl) ?_;refine RL.nil ?_;refine ab ?_;refine RL.p rfl rfl (cj.fieldAddr fY s3_e1) ?_;refine RL.p rfl rfl (af [.int .i64 ((ru:Nat)),.int .i64 ((cu:Nat)),s2] aV rfl (hA2.cells 3 _ rfl rfl)) ?_;refine RL.p rfl rfl (cj.fieldAddr jy s3_e1) ?_;refine RL.p rfl rfl (af [.int .i64 ((rv:Nat)),.int .i64 ((cv:Nat)),s3] aV rfl (hA2.cells 6 _ rfl rfl)) ?_;refine RL.x rfl rfl (cQ.call wR (aC rfl rfl) (tP _ _ _ _ _ _ _ _ _ _ _ b (bX.mk (ce.ext hShb hX) (by omega) (by omega)) (bX.mk (ce.ext hShc hX) (by omega) (by omega)) (by omega) (by omega) (by omega) (jA (ce.bd hShb) (by rw [show cu=rv by omega];exact ce.bd hShc) (by omega) (by omega)))) ?_;rintro _ w7 ⟨hx6,v2,rfl,q2⟩;replace hA1:=aY.ext hA1 hx6;replace hA2:=aY.ext hA2 hx6;replace hA3:=aY.ext hA3 hx6;replace hS1:=ce.ext hS1 hx6;replace hX:=aA.trans hX hx6;refine RL.p rfl rfl (cj.move rfl) ?_;refine RL.p rfl rfl (cj.extract rfl rfl) ?_;refine RL.p rfl rfl (cj.extract rfl rfl) ?_;refine RL.x rfl rfl (cQ.alloc [.int .i64 (0),.int .i64 (0),.slice (none) (0) (0)] cn rfl) ?_;rintro _ w8 ⟨g4,rfl,hge4,hx7,hA4⟩;have ne4:g1≠g4:=Nat.ne_of_lt (Nat.lt_of_lt_of_le hA1.lt hge4);have ne5:g2≠g4:=Nat.ne_of_lt (Nat.lt_of_lt_of_le hA2.lt hge4);have ne6:g3≠g4:=Nat.ne_of_lt (Nat.lt_of_lt_of_le hA3.lt hge4);have hbs4:w.heap.size≤g4:=Nat.le_trans hX.size hge4;replace hA1:=aY.ext hA1 hx7;replace hA2:=aY.ext hA2 hx7;replace hA3:=aY.ext hA3 hx7;replace hS1:=ce.ext hS1 hx7;replace q2:=bX.ext q2 hx7;replace hX:=aA.trans hX hx7;obtain ⟨sv2,hq2,hr2,hc2,hS2⟩:=q2.form;refine RL.x rfl rfl (cQ.store [.int .i64 ((ru:Nat)),.int .i64 ((cv:Nat)),sv2] cR rfl hq2 rfl hA4 (Nat.le_of_ble_eq_true rfl) (cS rfl rfl hS2.one)) ?_;rintro _ w9 ⟨hk2,hnew⟩;replace hA1:=hA1.keep hk2 ne4;replace hA2:=hA2.keep hk2 ne5;replace hA3:=hA3.keep hk2 ne6;replace hS1:=br hS1 hk2 hA4 (by decide);replace hS2:=br hS2 hk2 hA4 (by decide);replace hX:=hX.step hk2 (fun b e=>by subst e;exact hbs4);replace hA4:=hnew.lit [.int .i64 ((ru:Nat)),.int .i64 ((cv:Nat)),sv2] rfl;clear hnew;refine RL.p rfl rfl (cj.assign rfl) ?_;refine RL.nil ?_;have hBw1:w.heap.size≤w9.heap.size:=hX.size;refine aF am 11 [_,_,_,fun v AW=>v= .bool (decide (ao ru cx rh ch (bc cu Mu Mx) Mh)),fun v AW=>v= .bool (decide (ao ru cx rh ch (bc cu Mu Mx) Mh)),_,_,_,fun v AW=>(ao ru cx rh ch (bc cu Mu Mx) Mh)→(cO AW v w9.heap.size rx rx ct 1),fun v AW=>(ao ru cx rh ch (bc cu Mu Mx) Mh)→(v= .bool (decide (ao ru cv rx rx (bc cu Mu Mv) ct))),_] rfl rfl (fun e_ w_ AV AU=>⟨fun _=>aa (af [.int .i64 ((ru:Nat)),.int .i64 ((cx:Nat)),sv1] aV ((AU 5 rfl rfl)) ((aY.ext hA3 AV).cells 0 _ rfl rfl)),fun _=>aa (cj.fieldAddr dS ((AU 3 rfl s3_e1))),fun AT=>aa (af [.int .i64 ((rh:Nat)),.int .i64 ((ch:Nat)),s1] aV ((AT 1 rfl)) ((aY.ext hA2 AV).cells 0 _ rfl rfl)),fun AT=>cQ.call wQ (aC ((AT 0 rfl)) ((AT 2 rfl))) (qc _ _ _ _ _ _ _ _ _ _ _ (bX.mk (ce.ext hS1 AV) (by omega) (by omega)) (bX.mk (ce.ext (ce.ext hSha hX) AV) (by omega) (by omega))),fun AT=>aa (cj.move ((AT 3 rfl))),fun AT=>gT (AT 4 rfl) fun hg=>aa (af [.int .i64 ((ru:Nat)),.int .i64 ((cv:Nat)),sv2] aV ((AU 7 rfl rfl)) ((aY.ext hA4 AV).cells 0 _ rfl rfl)),fun AT=>gT (AT 4 rfl) fun hg=>aa (cj.fieldAddr aX ((AU 2 rfl s2_e1))),fun AT=>gT (AT 4 rfl) fun hg=>aa (cj.load bD ((AT 6 rfl hg)) ((aY.ext hA1 AV).at_ (i:=0) rfl rfl)),fun AT=>gT (AT 4 rfl) fun hg=>cQ.mono (cQ.call sw (aL ((AT 7 rfl hg))) (gI _ rx (by omega))) fun v AX hv=>⟨hv.1,cO.low hv.2 AV.size⟩,fun AT=>gT (AT 4 rfl) fun hg=>cQ.call wQ (aC ((AT 5 rfl hg)) rfl) (qc _ _ _ _ _ _ _ _ _ _ _ (bX.mk (ce.ext hS2 AV) (by omega) (by omega)) (cO.matV (AT 8 rfl hg))),fun AT=>aa (au (p:=ao ru cx rh ch (bc cu Mu Mx) Mh) (q:=ao ru cv rx rx (bc cu Mu Mv) ct) (AT 4 rfl) (fun hq=>(AT 9 rfl hq))),trivial⟩) ?_;intro e2 w10 hx8 ho2 hf2;replace hX:=aA.trans hX hx8;have s75_e2:e2 75=_:=hf2 10 rfl;refine RL.p rfl rfl (cj.assign s75_e2) ?_;refine RL.nil ?_;refine WP.ret ?_;refine ⟨.bool (decide ((ao ru cx rh ch (bc cu Mu Mx) Mh)∧(ao ru cv rx rx (bc cu Mu Mv) ct))),Am.one (fw.tmp rfl),_,rfl,hX,?_⟩;dsimp only;exact congrArg _ (decide_eq_decide.2 ⟨fun h=>⟨⟨hka,hkb,hkc,hkd,hke⟩,h⟩,fun h=>h.2⟩)
end Go.TL
namespace Go.TL
set_option linter.unusedVariables false
def yB (r c:Nat) (M0:Nat→Nat→Int) (v:Nat→Int):Prop:=∀u:Nat→Int,(∀i,i<r→av c (fun j=>u j*M0 i j)=0)→av c (fun j=>v j*u j)=0
theorem pL (u v:Nat→Int) (n:Nat):av n (fun j=>u j*v j)=av n (fun j=>v j*u j):=ar fun _ _=>Int.mul_comm _ _
theorem jk {r c k k1:Nat} {M0 K1 M:Nat→Nat→Int} (h1:∀u,fC k1 c K1 u↔yF c r (se M0) u) (h2:∀v,fC k c M v↔yF c k1 (se K1) v) (v:Nat→Int):fC k c M v↔yB r c M0 v:=by
  rw [h2]
  constructor
  · intro hk u hu
    obtain ⟨a,ha⟩:=(h1 u).2 fun j hj=>hu j hj
    have e1:av c (fun j=>v j*u j)=av c (fun j=>u j*v j):=pL _ _ _;have e2:av c (fun j=>u j*v j)=av c (fun j=>av k1 (fun x=>a x*K1 x j)*v j):=ar fun j hj=>by rw [ha j hj]
    have e3:av c (fun j=>av k1 (fun x=>a x*K1 x j)*v j)=av k1 (fun x=>a x*av c (fun j=>K1 x j*v j)):=(dG k1 c a K1 (fun j _=>v j) 0).symm;rw [e1,e2,e3];refine cI fun x hx=> ?_
    have e4:av c (fun j=>K1 x j*v j)=av c (fun j=>v j*se K1 j x):=pL _ _ _;rw [e4,hk x hx,Int.mul_zero]
  · intro hs x hx
    exact hs (K1 x) fun i hi=>(h1 (K1 x)).1 (fC.row hx) i hi
theorem qH.lat {r c e0 k:Nat} {M0 M:Nat→Nat→Int} (h:qH r c e0 M0 k M):(∃P,eI k c M P)∧∀v,fC k c M v↔yB r c M0 v:=by
  obtain ⟨k1,K1,a1,a2⟩:=h;exact ⟨a2.lat.1,jk a1.lat.2 a2.lat.2⟩
theorem Al.lat {r c e0 e1 k:Nat} {M0 M:Nat→Nat→Int} (h:Al r c e0 e1 M0 k M):(∃P,eI k c M P)∧∀v,fC k c M v↔yB r c M0 v:=by
  obtain ⟨k1,K1,a1,a2⟩:=h;exact ⟨a2.lat.1,jk a1.lat.2 a2.lat.2⟩
end Go.TL
namespace Go.TL
open Go.RowKit Go.Proofs
set_option linter.unusedVariables false
def qL (w:World) (v:Value) (r c e0:Nat) (M0:Nat→Nat→Int) (b:Nat):Prop:=∃k M,fU r c e0 M0 k M∧bX w v k r M b
theorem qL.ext {w w':World} {v:Value} {r c e0 b:Nat} {M0:Nat→Nat→Int} (h:qL w v r c e0 M0 b) (hx:aA w w'):qL w' v r c e0 M0 b:=by obtain ⟨k,S,h1,h2⟩:=h;exact ⟨k,S,h1,h2.ext hx⟩
theorem oV (r c e0:Nat) (M0:Nat→Nat→Int) (b:Nat):bq (fun v w=>qL w v r c e0 M0 b):=fun _ _ _ h hx=>h.ext hx
instance (r c e0:Nat) (M0:Nat→Nat→Int) (b:Nat):Nonempty (bq (fun v w=>qL w v r c e0 M0 b)):=⟨oV r c e0 M0 b⟩
def B1:Nat:=281474976710000
end Go.TL
namespace Go.TL
set_option linter.unusedVariables false
def an (a b:Int):Nat→Nat→Int:=fun _ j=>if j=0 then a else b
end Go.TL
namespace Go.TL
open Go.RowKit Go.Proofs
set_option linter.unusedVariables false
def f2 (a b:Int):Nat→Int:=fun i=>if i=0 then a else b
def f4 (a b c d:Int):Nat→Int:=fun i=>if i=0 then a else if i=1 then b else if i=2 then c else d
def wn (a b:Int):Nat→Nat→Int:=fun i _=>if i=0 then a else b
def aE (a b c d:Int):Nat→Nat→Int:=fun i j=>if i=0 then (if j=0 then a else b) else (if j=0 then c else d)
theorem pW {w:World} {g T m:Nat} {a b:Int} (hA:aY w g T 2 (bU [.int .i64 a,.int .i64 b])):eH .i64 m w (.slice (some ⟨g,0,none⟩) 2 2) 2 (f2 a b):=
  ⟨_,_,rfl,Nat.le_refl _,by decide,fun _=>⟨g,0,rfl,fun i hi=>by
    rw [Nat.zero_add];have:=hA.cell hi;rcases (by omega:i=0∨i=1) with rfl | rfl
    · exact this
    · exact this⟩⟩
theorem pV {w:World} {g T m:Nat} {a b c d:Int} (hA:aY w g T 4 (bU [.int .i64 a,.int .i64 b,.int .i64 c,.int .i64 d])):eH .i64 m w (.slice (some ⟨g,0,none⟩) 4 4) 4 (f4 a b c d):=
  ⟨_,_,rfl,Nat.le_refl _,by decide,fun _=>⟨g,0,rfl,fun i hi=>by
    rw [Nat.zero_add];have:=hA.cell hi;rcases (by omega:i=0∨i=1∨i=2∨i=3) with rfl | rfl | rfl | rfl
    · exact this
    · exact this
    · exact this
    · exact this⟩⟩
section
variable {w:World} {l x y:Value} {a b c d:Int}
theorem ke (hl:eH .i64 2 w l 2 (f2 a b)) (ha:a.natAbs<16) (hb:b.natAbs<16):Calls Tryz.prog 36 #[.int .i64 1,.int .i64 2,l] w (cc w fun v w'=>cO w' v w.heap.size 1 2 (an a b) 4):=by
  have hf:∀i,i<2→(f2 a b i).natAbs<16:=fun i _=>by unfold f2;split<;>assumption
  refine (mq w 1 2 l 2 (f2 a b) 4 (by decide) (by decide) hl (by decide) (fun i hi=>by have:=hf i hi;omega) (fun i hi=>hf i hi)).mono fun _ w' ⟨v,g1,g2,g3⟩=>⟨v,g1,g2,cO.congr g3 fun i j hi hj=> ?_⟩
  have:i=0:=by omega
  subst this
  unfold eL f2 an
  rw [if_pos (by omega),show 0*2 + j=j by omega]
theorem tl (hl:eH .i64 2 w l 2 (f2 a b)) (ha:a.natAbs<16) (hb:b.natAbs<16):Calls Tryz.prog 36 #[.int .i64 2,.int .i64 1,l] w (cc w fun v w'=>cO w' v w.heap.size 2 1 (wn a b) 4):=by
  have hf:∀i,i<2→(f2 a b i).natAbs<16:=fun i _=>by unfold f2;split<;>assumption
  refine (mq w 2 1 l 2 (f2 a b) 4 (by decide) (by decide) hl (by decide) (fun i hi=>by have:=hf i hi;omega) (fun i hi=>hf i hi)).mono fun _ w' ⟨v,g1,g2,g3⟩=>⟨v,g1,g2,cO.congr g3 fun i j hi hj=> ?_⟩
  have:j=0:=by omega
  subst this
  unfold eL f2 wn
  rw [if_pos (by omega),show i*1 + 0=i by omega]
theorem ik (hl:eH .i64 2 w l 4 (f4 a b c d)) (ha:a.natAbs<16∧b.natAbs<16) (hb:c.natAbs<16∧d.natAbs<16):Calls Tryz.prog 36 #[.int .i64 2,.int .i64 2,l] w (cc w fun v w'=>cO w' v w.heap.size 2 2 (aE a b c d) 4):=by
  have hf:∀i,i<4→(f4 a b c d i).natAbs<16:=fun i _=>by unfold f4;split<;>(try split)<;>(try split)<;>omega
  refine (mq w 2 2 l 4 (f4 a b c d) 4 (by decide) (by decide) hl (by decide) (fun i hi=>by have:=hf i hi;omega) (fun i hi=>hf i hi)).mono fun _ w' ⟨v,g1,g2,g3⟩=>⟨v,g1,g2,cO.congr g3 fun i j hi hj=> ?_⟩
  unfold eL f4 aE
  rw [if_pos (by omega)];rcases (by omega:i=0∨i=1) with rfl | rfl<;>rcases (by omega:j=0∨j=1) with rfl | rfl<;>rfl
end
theorem mu (w:World) (c:Nat) (hc:c≤65536):bX w (.agg #[.int .i64 ((0:Nat):Int),.int .i64 ((c:Nat):Int),.slice none 0 0]) 0 c (fun _ _=>0) 4:=
  bX.mk ⟨none,0,rfl,Nat.le_refl _,⟨by decide,by decide,by decide⟩,fun h=>by omega⟩ (by decide) hc
theorem mr {e:cl} {i j l m:Nat} {x y z o:Operand} {v u t s:Value} (h:ev e x=v) (k:ev e y=u) (n:ev e z=t) (q:ev e o=s):
    #[(i,x),(j,y),(l,z),(m,o)].toList.map (fun p:Nat×Operand=>(p.1,ev e p.2))= [(i,v),(j,u),(l,t),(m,s)]:=by simp [h,k,n,q]
end Go.TL
namespace Go.TL
open Go.RowKit Go.Proofs
set_option linter.unusedVariables false
set_option linter.unusedSimpArgs false
set_option maxRecDepth 10000 in
set_option maxHeartbeats 800000 in
theorem zO (w:World) (x:Value) (rx cx:Nat) (Mx:Nat→Nat→Int) (btx:Nat) (hx:bX w x rx cx Mx btx) (hb1:btx + 1≤bj):Calls Tryz.prog 19 #[x] w (cc w fun v w'=>v= .bool (decide (ck rx cx Mx))):=by
 have hLIM:bj=562949953421312:=rfl;have hmatx:=hx;obtain ⟨sx,rfl,hrx,hcx,hSx⟩:=hx.form;refine ai (N:=79) (rs:= #[.tmp 2]) Tryz.func19 rfl rfl rfl (Nat.le_of_ble_eq_true rfl) ?_;have hX:aA w w:=aA.refl w;refine ab ?_;refine RL.x rfl rfl (cQ.box [.int .i64 ((rx:Nat)),.int .i64 ((cx:Nat)),sx] rfl rfl) ?_;rintro _ w1 ⟨g1,rfl,hge1,hx1,hA1⟩;replace hX:=aA.trans hX hx1;refine RL.p rfl rfl (cj.assign rfl) ?_;refine RL.nil ?_;refine ab ?_;refine RL.p rfl rfl (af [.int .i64 ((rx:Nat)),.int .i64 ((cx:Nat)),sx] aV rfl (hA1.cells 0 _ rfl rfl)) ?_;refine RL.x rfl rfl (cQ.call su (aL rfl) (jZ _ _ _ _ _ _ (bX.mk (ce.ext hSx hX) (by omega) (by omega)))) ?_;rintro _ w2 ⟨hx2,rfl⟩;replace hA1:=aY.ext hA1 hx2;replace hX:=aA.trans hX hx2;refine RL.p rfl rfl (cj.assign rfl) ?_;refine RL.nil ?_;refine WP.seq ?_;refine ab ?_;refine RL.p rfl rfl (cj.move rfl) ?_;refine RL.p rfl rfl (cj.not (p:=True) rfl) ?_;refine RL.nil ?_;refine ae (¬(True)) rfl (fun c11=> ?_) (fun c11=> ?_)
 ·
  refine ab ?_;refine RL.p rfl rfl (cj.assign rfl) ?_;refine RL.nil ?_;refine WP.ret ?_;refine pl.ret ?_;refine ⟨.bool (false),Am.one (fw.tmp rfl),_,rfl,hX,?_⟩;dsimp only;exact absurd trivial c11
 ·
  refine WP.skip ?_;refine pl.norm ?_;refine ab ?_;refine RL.p rfl rfl (cj.assign rfl) ?_;refine RL.nil ?_;refine WP.seq ?_;refine ab ?_;refine RL.p rfl rfl (cj.assign rfl) ?_;refine RL.nil ?_;refine WP.block ?_;refine WP.loop (fun mz ez uz=>∃i:Nat,(mz=rx - i)∧(ez 1= .pointer (some ⟨g1,0,none⟩))∧(ez 4= .int .i64 (lastP Mx cx i))∧(ez 5= .int .i64 ((i:Nat)))∧(i≤rx)∧(∀a,a<i→iC Mx cx a)∧(aA w uz)∧(aY uz g1 28 3 (bU [.int .i64 ((rx:Nat)),.int .i64 ((cx:Nat)),sx]))) (rx - 0) ?_ ?_
  · exact ⟨0,rfl,rfl,rfl,rfl,(by omega),(fun a ha=>absurd ha (by omega)),hX,hA1⟩
  rintro m1 e1 w3 ⟨i,hm1,s1_e1,s4_e1,s5_e1,hi,hok,hX1,hA1⟩;refine WP.seq ?_;refine ab ?_;refine RL.p rfl rfl (cj.move s5_e1) ?_;refine RL.p rfl rfl (cj.fieldAddr aX s1_e1) ?_;refine RL.p rfl rfl (cj.load bD rfl (hA1.at_ (i:=0) rfl rfl)) ?_;refine RL.p rfl rfl (cj.lss rfl rfl) ?_;refine RL.nil ?_;refine ae (((i:Nat):Int)<((rx:Nat):Int)) rfl (fun c15=> ?_) (fun c15=> ?_)
  ·
   refine WP.skip ?_;refine pl.norm ?_;refine WP.seq ?_;refine WP.block ?_;refine ab ?_;refine RL.p rfl rfl (cj.fieldAddr aw s1_e1) ?_;refine RL.p rfl rfl (cj.load aU rfl (hA1.at_ (i:=2) rfl rfl)) ?_;refine RL.p rfl rfl (cj.move s5_e1) ?_;refine RL.x rfl rfl (aJ (j:=i) aK rfl (ce.ext hSx hX1) rfl (by omega) (by omega)) ?_;rintro v1 _ ⟨rfl,q1⟩;refine RL.x rfl rfl (aI bn rfl q1) ?_;rintro v2 _ ⟨rfl,q2⟩;refine RL.x rfl rfl (cQ.call zw (aL rfl) (vw _ _ _ _ _ q2)) ?_;rintro _ w4 ⟨hx3,rfl⟩;replace hA1:=aY.ext hA1 hx3;replace hX1:=aA.trans hX1 hx3;refine RL.p rfl rfl (cj.assign rfl) ?_;refine RL.nil ?_;refine WP.seq ?_;refine ab ?_;refine RL.p rfl rfl (cj.move rfl) ?_;refine RL.p rfl rfl (cj.lss rfl rfl) ?_;refine RL.nil ?_;refine ae ((piv (Mx i) cx:Int)<(0:Int)) rfl (fun c25=> ?_) (fun c25=> ?_)
   ·
    refine ab ?_;refine RL.p rfl rfl (cj.fieldAddr bC s1_e1) ?_;refine RL.p rfl rfl (cj.load bD rfl (hA1.at_ (i:=1) rfl rfl)) ?_;refine RL.p rfl rfl (cj.assign rfl) ?_;refine RL.nil ?_;refine WP.exit ?_;refine pl.exit ?_;refine iD.same ?_;refine pl.norm ?_;refine WP.region ?_;refine RL.p rfl rfl (cj.move s5_e1) ?_;refine RL.p rfl rfl (cj.add (c:=((i + 1:Nat):Int)) rfl rfl (bT (by omega))) ?_;refine RL.p rfl rfl (cj.assign rfl) ?_;refine RL.nil ?_;refine pl.norm ⟨_,(by omega),i + 1,rfl,s1_e1,(congrArg (Value.int .i64) (iR c25)),rfl,(by omega),(ef hok (.inl c25)),hX1,hA1⟩
   ·
    refine WP.skip ?_;refine pl.norm ?_;refine WP.seq ?_;have hpa:=kn c25;refine aF am 15 [_,_,_,fun v AW=>v= .bool (decide ((piv (Mx i) cx:Int)≤(lastP Mx cx i:Int))),_,_,_,_,_,_,_,_,_,_,_] rfl rfl (fun e_ w_ AV AU=>⟨fun _=>aa (cj.move ((AU 6 rfl rfl))),fun _=>aa (cj.move ((AU 4 rfl s4_e1))),fun AT=>aa (cj.leq ((AT 0 rfl)) ((AT 1 rfl))),fun AT=>aa (cj.move ((AT 2 rfl))),fun AT=>gF (AT 3 rfl) fun hg=>aa (cj.fieldAddr aw ((AU 1 rfl s1_e1))),fun AT=>gF (AT 3 rfl) fun hg=>aa (cj.load aU ((AT 4 rfl hg)) ((aY.ext hA1 AV).at_ (i:=2) rfl rfl)),fun AT=>gF (AT 3 rfl) fun hg=>aa (cj.move ((AU 5 rfl s5_e1))),fun AT=>gF (AT 3 rfl) fun hg=>ag (aJ (j:=i) aK (AT 5 rfl hg) (ce.ext (ce.ext hSx hX1) AV) (AT 6 rfl hg) (by omega) (by omega)),fun AT=>gF (AT 3 rfl) fun hg=>ag (aI bn rfl (AT 7 rfl hg)),fun AT=>gF (AT 3 rfl) fun hg=>aa (cj.move ((AU 6 rfl rfl))),fun AT=>gF (AT 3 rfl) fun hg=>ag (aM (j:=(piv (Mx i) cx).toNat) bE rfl (AT 8 rfl hg) (nh (a:=(((piv (Mx i) cx).toNat:Nat):Int)) (b:=piv (Mx i) cx) (AT 9 rfl hg) (by omega)) (by omega) (by omega)),fun AT=>gF (AT 3 rfl) fun hg=>ag (aO aq rfl (AT 10 rfl hg)),fun AT=>gF (AT 3 rfl) fun hg=>cQ.call pK (aL rfl) (mo _ _ _ _ ((AT 11 rfl hg))),fun AT=>gF (AT 3 rfl) fun hg=>aa (cj.leq ((AT 12 rfl hg)) rfl),fun AT=>aa (aP (p:=(piv (Mx i) cx:Int)≤(lastP Mx cx i:Int)) (q:=(((Mx i) ((piv (Mx i) cx).toNat):Int).sign:Int)≤(0:Int)) (AT 3 rfl) (fun hq=>(AT 13 rfl hq))),trivial⟩) ?_;intro e2 w5 hx4 ho1 hf1;replace hA1:=aY.ext hA1 hx4;replace hX1:=aA.trans hX1 hx4;have s1_e2:=ho1 1 rfl s1_e1;have s4_e2:=ho1 4 rfl s4_e1;have s5_e2:=ho1 5 rfl s5_e1;have s6_e2:e2 6=_:=ho1 6 rfl rfl;have s42_e2:e2 42=_:=hf1 14 rfl;refine RL.nil ?_;refine ae (((piv (Mx i) cx:Int)≤(lastP Mx cx i:Int))∨((((Mx i) ((piv (Mx i) cx).toNat):Int).sign:Int)≤(0:Int))) s42_e2 (fun c42=> ?_) (fun c42=> ?_)
    ·
     refine ab ?_;refine RL.p rfl rfl (cj.assign rfl) ?_;refine RL.nil ?_;refine WP.ret ?_;refine pl.ret ?_;refine iD.ret ?_;refine pl.ret ?_;refine pl.ret ?_;refine iD.ret ?_;refine pl.ret ?_;refine ⟨.bool (false),Am.one (fw.tmp rfl),_,rfl,hX1,?_⟩;dsimp only;refine congrArg _ (decide_eq_false fun h=> ?_).symm;rcases h i (by omega) with h1 | ⟨h1,h2,_⟩
     · exact absurd h1 c25
     · rcases c42 with h3 | h3
       · omega
       · have:=(jW _).1 h3;omega
    ·
     refine WP.skip ?_;refine pl.norm ?_;refine WP.seq ?_;refine ab ?_;refine RL.p rfl rfl (cj.assign rfl) ?_;refine RL.nil ?_;refine WP.block ?_;refine WP.loop (fun mz ez uz=>∃k:Nat,(mz=i - k)∧(ez 1= .pointer (some ⟨g1,0,none⟩))∧(ez 4= .int .i64 (lastP Mx cx i))∧(ez 5= .int .i64 ((i:Nat)))∧(ez 6= .int .i64 (piv (Mx i) cx))∧(ez 7= .int .i64 ((k:Nat)))∧(k≤i)∧(∀a,a<k→0≤Mx a (piv (Mx i) cx).toNat∧Mx a (piv (Mx i) cx).toNat<Mx i (piv (Mx i) cx).toNat)∧(aA w uz)∧(aY uz g1 28 3 (bU [.int .i64 ((rx:Nat)),.int .i64 ((cx:Nat)),sx]))) (i - 0) ?_ ?_
     · exact ⟨0,rfl,s1_e2,s4_e2,s5_e2,s6_e2,rfl,(by omega),(fun a ha=>absurd ha (by omega)),hX1,hA1⟩
     rintro m2 e3 w6 ⟨k,hm2,s1_e3,s4_e3,s5_e3,s6_e3,s7_e3,hk,hbel,hX2,hA1⟩;refine WP.seq ?_;refine ab ?_;refine RL.p rfl rfl (cj.move s7_e3) ?_;refine RL.p rfl rfl (cj.move s5_e3) ?_;refine RL.p rfl rfl (cj.lss rfl rfl) ?_;refine RL.nil ?_;refine ae (((k:Nat):Int)<((i:Nat):Int)) rfl (fun c45=> ?_) (fun c45=> ?_)
     ·
      refine WP.skip ?_;refine pl.norm ?_;refine WP.seq ?_;refine WP.block ?_;refine aF am 30 [_,_,_,_,_,_,_,_,_,_,fun v AW=>v= .bool (decide ((((Mx k) ((piv (Mx i) cx).toNat):Int).sign:Int)<(0:Int))),_,_,_,_,_,_,_,_,_,_,_,_,_,_,_,_,_,_,_] rfl rfl (fun e_ w_ AV AU=>⟨fun _=>aa (cj.fieldAddr aw ((AU 1 rfl s1_e3))),fun AT=>aa (cj.load aU ((AT 0 rfl)) ((aY.ext hA1 AV).at_ (i:=2) rfl rfl)),fun _=>aa (cj.move ((AU 7 rfl s7_e3))),fun AT=>ag (aJ (j:=k) aK (AT 1 rfl) (ce.ext (ce.ext hSx hX2) AV) (AT 2 rfl) (by omega) (by omega)),fun AT=>ag (aI bn rfl (AT 3 rfl)),fun _=>aa (cj.move ((AU 6 rfl s6_e3))),fun AT=>ag (aM (j:=(piv (Mx i) cx).toNat) bE rfl (AT 4 rfl) (nh (a:=(((piv (Mx i) cx).toNat:Nat):Int)) (b:=piv (Mx i) cx) (AT 5 rfl) (by omega)) (by omega) (by omega)),fun AT=>ag (aO aq rfl (AT 6 rfl)),fun AT=>cQ.call pK (aL rfl) (mo _ _ _ _ ((AT 7 rfl))),fun AT=>aa (cj.lss ((AT 8 rfl)) rfl),fun AT=>aa (cj.move ((AT 9 rfl))),fun AT=>gF (AT 10 rfl) fun hg=>aa (cj.fieldAddr aw ((AU 1 rfl s1_e3))),fun AT=>gF (AT 10 rfl) fun hg=>aa (cj.load aU ((AT 11 rfl hg)) ((aY.ext hA1 AV).at_ (i:=2) rfl rfl)),fun AT=>gF (AT 10 rfl) fun hg=>aa (cj.move ((AU 7 rfl s7_e3))),fun AT=>gF (AT 10 rfl) fun hg=>ag (aJ (j:=k) aK (AT 12 rfl hg) (ce.ext (ce.ext hSx hX2) AV) (AT 13 rfl hg) (by omega) (by omega)),fun AT=>gF (AT 10 rfl) fun hg=>ag (aI bn rfl (AT 14 rfl hg)),fun AT=>gF (AT 10 rfl) fun hg=>aa (cj.move ((AU 6 rfl s6_e3))),fun AT=>gF (AT 10 rfl) fun hg=>ag (aM (j:=(piv (Mx i) cx).toNat) bE rfl (AT 15 rfl hg) (nh (a:=(((piv (Mx i) cx).toNat:Nat):Int)) (b:=piv (Mx i) cx) (AT 16 rfl hg) (by omega)) (by omega) (by omega)),fun AT=>gF (AT 10 rfl) fun hg=>ag (aO aq rfl (AT 17 rfl hg)),fun AT=>gF (AT 10 rfl) fun hg=>aa (cj.fieldAddr aw ((AU 1 rfl s1_e3))),fun AT=>gF (AT 10 rfl) fun hg=>aa (cj.load aU ((AT 19 rfl hg)) ((aY.ext hA1 AV).at_ (i:=2) rfl rfl)),fun AT=>gF (AT 10 rfl) fun hg=>aa (cj.move ((AU 5 rfl s5_e3))),fun AT=>gF (AT 10 rfl) fun hg=>ag (aJ (j:=i) aK (AT 20 rfl hg) (ce.ext (ce.ext hSx hX2) AV) (AT 21 rfl hg) (by omega) (by omega)),fun AT=>gF (AT 10 rfl) fun hg=>ag (aI bn rfl (AT 22 rfl hg)),fun AT=>gF (AT 10 rfl) fun hg=>aa (cj.move ((AU 6 rfl s6_e3))),fun AT=>gF (AT 10 rfl) fun hg=>ag (aM (j:=(piv (Mx i) cx).toNat) bE rfl (AT 23 rfl hg) (nh (a:=(((piv (Mx i) cx).toNat:Nat):Int)) (b:=piv (Mx i) cx) (AT 24 rfl hg) (by omega)) (by omega) (by omega)),fun AT=>gF (AT 10 rfl) fun hg=>ag (aO aq rfl (AT 25 rfl hg)),fun AT=>gF (AT 10 rfl) fun hg=>cQ.call zt (aC rfl rfl) (zP _ _ _ _ _ _ _ ((AT 18 rfl hg)) ((AT 26 rfl hg)) (by omega) (by omega)),fun AT=>gF (AT 10 rfl) fun hg=>aa (cj.geq ((AT 27 rfl hg)) rfl),fun AT=>aa (aP (p:=(((Mx k) ((piv (Mx i) cx).toNat):Int).sign:Int)<(0:Int)) (q:=(0:Int)≤(bV ((Mx k) ((piv (Mx i) cx).toNat)) ((Mx i) ((piv (Mx i) cx).toNat)):Int)) (AT 10 rfl) (fun hq=>(AT 28 rfl hq))),trivial⟩) ?_;intro e4 w7 hx5 ho2 hf2;replace hA1:=aY.ext hA1 hx5;replace hX2:=aA.trans hX2 hx5;have s1_e4:=ho2 1 rfl s1_e3;have s4_e4:=ho2 4 rfl s4_e3;have s5_e4:=ho2 5 rfl s5_e3;have s6_e4:=ho2 6 rfl s6_e3;have s7_e4:=ho2 7 rfl s7_e3;have s77_e4:e4 77=_:=hf2 29 rfl;refine RL.nil ?_;refine ae (((((Mx k) ((piv (Mx i) cx).toNat):Int).sign:Int)<(0:Int))∨((0:Int)≤(bV ((Mx k) ((piv (Mx i) cx).toNat)) ((Mx i) ((piv (Mx i) cx).toNat)):Int))) s77_e4 (fun c77=> ?_) (fun c77=> ?_)
      ·
       refine ab ?_;refine RL.p rfl rfl (cj.assign rfl) ?_;refine RL.nil ?_;refine WP.ret ?_;refine iD.ret ?_;refine pl.ret ?_;refine pl.ret ?_;refine iD.ret ?_;refine pl.ret ?_;refine iD.ret ?_;refine pl.ret ?_;refine pl.ret ?_;refine iD.ret ?_;refine pl.ret ?_;refine ⟨.bool (false),Am.one (fw.tmp rfl),_,rfl,hX2,?_⟩;dsimp only;refine congrArg _ (decide_eq_false fun h=> ?_).symm;rcases h i (by omega) with h1 | ⟨_,_,h1⟩
       · exact absurd h1 c25
       · have h2:=h1 k (by omega)
         rcases c77 with h3 | h3
         · have:=(dn _).1 h3;omega
         · have:=(fq _ _).1 h3;omega
      ·
       refine WP.skip ?_;refine iD.norm ?_;refine pl.norm ?_;refine WP.region ?_;refine RL.p rfl rfl (cj.move s7_e4) ?_;refine RL.p rfl rfl (cj.add (c:=((k + 1:Nat):Int)) rfl rfl (bT (by omega))) ?_;refine RL.p rfl rfl (cj.assign rfl) ?_;refine RL.nil ?_;have hnb:0≤Mx k (piv (Mx i) cx).toNat∧Mx k (piv (Mx i) cx).toNat<Mx i (piv (Mx i) cx).toNat:=⟨by have:=mt (dn (Mx k (piv (Mx i) cx).toNat)).2 (fun h=>c77 (.inl h));omega,by have:=mt (fq (Mx k (piv (Mx i) cx).toNat) (Mx i (piv (Mx i) cx).toNat)).2 (fun h=>c77 (.inr h));omega⟩
       refine pl.norm ⟨_,(by omega),k + 1,rfl,s1_e4,s4_e4,s5_e4,s6_e4,rfl,(by omega),(ef hbel hnb),hX2,hA1⟩
     ·
      refine WP.exit ?_;refine pl.exit ?_;refine pl.exit ?_;refine iD.same ?_;refine pl.norm ?_;refine WP.region ?_;refine RL.p rfl rfl (cj.move s6_e3) ?_;refine RL.p rfl rfl (cj.assign rfl) ?_;refine RL.nil ?_;refine iD.norm ?_;refine pl.norm ?_;refine WP.region ?_;refine RL.p rfl rfl (cj.move s5_e3) ?_;refine RL.p rfl rfl (cj.add (c:=((i + 1:Nat):Int)) rfl rfl (bT (by omega))) ?_;refine RL.p rfl rfl (cj.assign rfl) ?_;refine RL.nil ?_;have hor:iC Mx cx i:= .inr ⟨by omega,by have:=mt (jW (Mx i (piv (Mx i) cx).toNat)).2 (fun h=>c42 (.inr h));omega,fun a ha=>hbel a (by omega)⟩;refine pl.norm ⟨_,(by omega),i + 1,rfl,s1_e3,(congrArg (Value.int .i64) (iQ c25)),rfl,(by omega),(ef hok hor),hX2,hA1⟩
  ·
   refine WP.exit ?_;refine pl.exit ?_;refine pl.exit ?_;refine iD.same ?_;refine pl.norm ?_;refine ab ?_;refine RL.p rfl rfl (cj.assign rfl) ?_;refine RL.nil ?_;refine WP.ret ?_;refine ⟨.bool (true),Am.one (fw.tmp rfl),_,rfl,hX1,?_⟩;dsimp only;exact congrArg _ (decide_eq_true fun a ha=>hok a (by omega)).symm
end Go.TL
namespace Go.TL
open Go.RowKit Go.Proofs
set_option linter.unusedVariables false
set_option linter.unusedSimpArgs false
set_option maxRecDepth 10000 in
set_option maxHeartbeats 800000 in
theorem vx (w:World) (x:Value) (rx cx:Nat) (Mx:Nat→Nat→Int) (btx:Nat) (s1 s2 s3:Value) (rh ch ru cu rv cv:Nat) (Mh Mu Mv:Nat→Nat→Int) (bh bu bv:Nat) (b:Nat) (hx:bX w x rx cx Mx btx) (h65:rh≤65536∧ch≤65536∧ru≤65536∧cu≤65536∧rv≤65536∧cv≤65536) (hSha:ce w s1 rh ch Mh bh) (hShb:ce w s2 ru cu Mu bu) (hShc:ce w s3 rv cv Mv bv) (h16:rx≤16) (hb1:bu + btx + 5≤b) (hb2:bu + bv + 5≤b) (hl:b + 1≤bj) (hbh:bh + 1≤bj):Calls Tryz.prog 12 #[x,.agg #[.int .i64 (rh:Nat),.int .i64 (ch:Nat),s1,.int .i64 (ru:Nat),.int .i64 (cu:Nat),s2,.int .i64 (rv:Nat),.int .i64 (cv:Nat),s3]] w (cc w fun v w'=>v= .bool (decide (bt rx cx rh ch ru cu rv cv Mx Mh Mu Mv))):=by
 have hLIM:bj=562949953421312:=rfl;have hmatx:=hx;obtain ⟨sx,rfl,hrx,hcx,hSx⟩:=hx.form;refine ai (N:=74) (rs:= #[.tmp 4]) Tryz.func12 rfl rfl rfl (Nat.le_of_ble_eq_true rfl) ?_;have hX:aA w w:=aA.refl w;refine ab ?_;refine RL.x rfl rfl (cQ.box [.int .i64 ((rx:Nat)),.int .i64 ((cx:Nat)),sx] rfl rfl) ?_;rintro _ w1 ⟨g1,rfl,hge1,hx1,hA1⟩;replace hX:=aA.trans hX hx1;refine RL.x rfl rfl (cQ.box [.int .i64 ((rh:Nat)),.int .i64 ((ch:Nat)),s1,.int .i64 ((ru:Nat)),.int .i64 ((cu:Nat)),s2,.int .i64 ((rv:Nat)),.int .i64 ((cv:Nat)),s3] rfl rfl) ?_;rintro _ w2 ⟨g2,rfl,hge2,hx2,hA2⟩;replace hA1:=aY.ext hA1 hx2;replace hX:=aA.trans hX hx2;refine RL.p rfl rfl (cj.assign rfl) ?_;refine RL.nil ?_;refine ab ?_;refine RL.p rfl rfl (af [.int .i64 ((rx:Nat)),.int .i64 ((cx:Nat)),sx] aV rfl (hA1.cells 0 _ rfl rfl)) ?_;refine RL.x rfl rfl (cQ.call su (aL rfl) (jZ _ _ _ _ _ _ (bX.mk (ce.ext hSx hX) (by omega) (by omega)))) ?_;rintro _ w3 ⟨hx3,rfl⟩;replace hA1:=aY.ext hA1 hx3;replace hA2:=aY.ext hA2 hx3;replace hX:=aA.trans hX hx3;refine RL.p rfl rfl (cj.assign rfl) ?_;refine RL.nil ?_;refine ab ?_;refine RL.p rfl rfl (cj.fieldAddr dS rfl) ?_;refine RL.p rfl rfl (af [.int .i64 ((rh:Nat)),.int .i64 ((ch:Nat)),s1] aV rfl (hA2.cells 0 _ rfl rfl)) ?_;refine RL.x rfl rfl (cQ.call xa (aL rfl) (zO _ _ _ _ _ _ (bX.mk (ce.ext hSha hX) (by omega) (by omega)) (by omega))) ?_;rintro _ w4 ⟨hx4,rfl⟩;replace hA1:=aY.ext hA1 hx4;replace hA2:=aY.ext hA2 hx4;replace hX:=aA.trans hX hx4;refine RL.p rfl rfl (cj.assign rfl) ?_;refine RL.nil ?_;refine WP.seq ?_;refine aF am 22 [fun v AW=>v= .bool (decide (True)),_,fun v AW=>v= .bool (decide (¬(True))),fun v AW=>(¬(¬(True)))→(v= .bool (decide (ck rh ch Mh))),_,_,fun v AW=>v= .bool (decide ((¬(True))∨(¬(ck rh ch Mh)))),_,_,_,_,_,_,_,fun v AW=>v= .bool (decide (((¬(True))∨(¬(ck rh ch Mh)))∨(((rh:Nat):Int)≠((rx:Nat):Int)))),_,_,_,_,_,_,_] rfl rfl (fun e_ w_ AV AU=>⟨fun _=>aa (cj.move ((AU 5 rfl rfl))),fun AT=>aa (cj.not (p:=True) (AT 0 rfl)),fun AT=>aa (cj.move ((AT 1 rfl))),fun AT=>gF (AT 2 rfl) fun hg=>aa (cj.move ((AU 6 rfl rfl))),fun AT=>gF (AT 2 rfl) fun hg=>aa (cj.not (p:=ck rh ch Mh) (AT 3 rfl hg)),fun AT=>aa (aP (p:=¬(True)) (q:=¬(ck rh ch Mh)) (AT 2 rfl) (fun hq=>(AT 4 rfl hq))),fun AT=>aa (cj.move ((AT 5 rfl))),fun AT=>gF (AT 6 rfl) fun hg=>aa (cj.fieldAddr dS ((AU 3 rfl rfl))),fun AT=>gF (AT 6 rfl) fun hg=>aa (cj.fieldAddr aX ((AT 7 rfl hg))),fun AT=>gF (AT 6 rfl) fun hg=>aa (cj.load bD ((AT 8 rfl hg)) ((aY.ext hA2 AV).at_ (i:=0) rfl rfl)),fun AT=>gF (AT 6 rfl) fun hg=>aa (cj.fieldAddr aX ((AU 2 rfl rfl))),fun AT=>gF (AT 6 rfl) fun hg=>aa (cj.load bD ((AT 10 rfl hg)) ((aY.ext hA1 AV).at_ (i:=0) rfl rfl)),fun AT=>gF (AT 6 rfl) fun hg=>aa (cj.neq ((AT 9 rfl hg)) ((AT 11 rfl hg))),fun AT=>aa (aP (p:=(¬(True))∨(¬(ck rh ch Mh))) (q:=((rh:Nat):Int)≠((rx:Nat):Int)) (AT 6 rfl) (fun hq=>(AT 12 rfl hq))),fun AT=>aa (cj.move ((AT 13 rfl))),fun AT=>gF (AT 14 rfl) fun hg=>aa (cj.fieldAddr dS ((AU 3 rfl rfl))),fun AT=>gF (AT 14 rfl) fun hg=>aa (cj.fieldAddr bC ((AT 15 rfl hg))),fun AT=>gF (AT 14 rfl) fun hg=>aa (cj.load bD ((AT 16 rfl hg)) ((aY.ext hA2 AV).at_ (i:=1) rfl rfl)),fun AT=>gF (AT 14 rfl) fun hg=>aa (cj.fieldAddr bC ((AU 2 rfl rfl))),fun AT=>gF (AT 14 rfl) fun hg=>aa (cj.load bD ((AT 18 rfl hg)) ((aY.ext hA1 AV).at_ (i:=1) rfl rfl)),fun AT=>gF (AT 14 rfl) fun hg=>aa (cj.neq ((AT 17 rfl hg)) ((AT 19 rfl hg))),fun AT=>aa (aP (p:=((¬(True))∨(¬(ck rh ch Mh)))∨(((rh:Nat):Int)≠((rx:Nat):Int))) (q:=((ch:Nat):Int)≠((cx:Nat):Int)) (AT 14 rfl) (fun hq=>(AT 20 rfl hq))),trivial⟩) ?_;intro e1 w5 hx5 ho1 hf1;replace hA1:=aY.ext hA1 hx5;replace hA2:=aY.ext hA2 hx5;replace hX:=aA.trans hX hx5;have s2_e1:e1 2=_:=ho1 2 rfl rfl;have s3_e1:e1 3=_:=ho1 3 rfl rfl;have s35_e1:e1 35=_:=hf1 21 rfl;refine RL.nil ?_;refine ae ((((¬(True))∨(¬(ck rh ch Mh)))∨(((rh:Nat):Int)≠((rx:Nat):Int)))∨(((ch:Nat):Int)≠((cx:Nat):Int))) s35_e1 (fun c35=> ?_) (fun c35=> ?_)
 ·
  refine ab ?_;refine RL.p rfl rfl (cj.assign rfl) ?_;refine RL.nil ?_;refine WP.ret ?_;refine pl.ret ?_;refine ⟨.bool (false),Am.one (fw.tmp rfl),_,rfl,hX,?_⟩;dsimp only;exact congrArg _ (decide_eq_false fun h=>yv h c35).symm
 ·
  refine WP.skip ?_;refine pl.norm ?_;have hck:=Ah c35;refine ab ?_;refine RL.p rfl rfl (cj.fieldAddr fY s3_e1) ?_;refine RL.p rfl rfl (af [.int .i64 ((ru:Nat)),.int .i64 ((cu:Nat)),s2] aV rfl (hA2.cells 3 _ rfl rfl)) ?_;refine RL.p rfl rfl (cj.fieldAddr aX s2_e1) ?_;refine RL.p rfl rfl (cj.load bD rfl (hA1.at_ (i:=0) rfl rfl)) ?_;refine RL.p rfl rfl (cj.fieldAddr aX s2_e1) ?_;refine RL.p rfl rfl (cj.load bD rfl (hA1.at_ (i:=0) rfl rfl)) ?_;refine RL.x rfl rfl (cQ.call wV (cH rfl rfl rfl) (pT _ _ _ _ _ _ rx rx (bX.mk (ce.ext hShb hX) (by omega) (by omega)))) ?_;rintro _ w6 ⟨hx6,rfl⟩;replace hA1:=aY.ext hA1 hx6;replace hA2:=aY.ext hA2 hx6;replace hX:=aA.trans hX hx6;refine RL.p rfl rfl (cj.assign rfl) ?_;refine RL.nil ?_;refine ab ?_;refine RL.p rfl rfl (cj.fieldAddr jy s3_e1) ?_;refine RL.p rfl rfl (af [.int .i64 ((rv:Nat)),.int .i64 ((cv:Nat)),s3] aV rfl (hA2.cells 6 _ rfl rfl)) ?_;refine RL.p rfl rfl (cj.fieldAddr aX s2_e1) ?_;refine RL.p rfl rfl (cj.load bD rfl (hA1.at_ (i:=0) rfl rfl)) ?_;refine RL.p rfl rfl (cj.fieldAddr aX s2_e1) ?_;refine RL.p rfl rfl (cj.load bD rfl (hA1.at_ (i:=0) rfl rfl)) ?_;refine RL.x rfl rfl (cQ.call wV (cH rfl rfl rfl) (pT _ _ _ _ _ _ rx rx (bX.mk (ce.ext hShc hX) (by omega) (by omega)))) ?_;rintro _ w7 ⟨hx7,rfl⟩;replace hA1:=aY.ext hA1 hx7;replace hA2:=aY.ext hA2 hx7;replace hX:=aA.trans hX hx7;refine RL.p rfl rfl (cj.assign rfl) ?_;refine RL.nil ?_;have hBw1:w.heap.size≤w7.heap.size:=hX.size;have hBw2:w.heap.size≤w7.heap.size:=hX.size;have hBw3:w.heap.size≤w7.heap.size:=hX.size;refine aF am 24 [fun v AW=>v= .bool (decide (((((ru:Nat):Int)=((rx:Nat):Int)∧((cu:Nat):Int)=((rx:Nat):Int))∧True))),fun v AW=>v= .bool (decide (((((ru:Nat):Int)=((rx:Nat):Int)∧((cu:Nat):Int)=((rx:Nat):Int))∧True))),fun v AW=>(((((ru:Nat):Int)=((rx:Nat):Int)∧((cu:Nat):Int)=((rx:Nat):Int))∧True))→(v= .bool (decide (((((rv:Nat):Int)=((rx:Nat):Int)∧((cv:Nat):Int)=((rx:Nat):Int))∧True)))),_,fun v AW=>v= .bool (decide ((((((ru:Nat):Int)=((rx:Nat):Int)∧((cu:Nat):Int)=((rx:Nat):Int))∧True))∧(((((rv:Nat):Int)=((rx:Nat):Int)∧((cv:Nat):Int)=((rx:Nat):Int))∧True)))),_,_,_,fun v AW=>((((((ru:Nat):Int)=((rx:Nat):Int)∧((cu:Nat):Int)=((rx:Nat):Int))∧True))∧(((((rv:Nat):Int)=((rx:Nat):Int)∧((cv:Nat):Int)=((rx:Nat):Int))∧True)))→(cO AW v w7.heap.size ru cx (bc cu Mu Mx) b),_,_,fun v AW=>((((((ru:Nat):Int)=((rx:Nat):Int)∧((cu:Nat):Int)=((rx:Nat):Int))∧True))∧(((((rv:Nat):Int)=((rx:Nat):Int)∧((cv:Nat):Int)=((rx:Nat):Int))∧True)))→(v= .bool (decide (ao ru cx rh ch (bc cu Mu Mx) Mh))),_,fun v AW=>v= .bool (decide (((((((ru:Nat):Int)=((rx:Nat):Int)∧((cu:Nat):Int)=((rx:Nat):Int))∧True))∧(((((rv:Nat):Int)=((rx:Nat):Int)∧((cv:Nat):Int)=((rx:Nat):Int))∧True)))∧(ao ru cx rh ch (bc cu Mu Mx) Mh))),_,_,_,_,fun v AW=>(((((((ru:Nat):Int)=((rx:Nat):Int)∧((cu:Nat):Int)=((rx:Nat):Int))∧True))∧(((((rv:Nat):Int)=((rx:Nat):Int)∧((cv:Nat):Int)=((rx:Nat):Int))∧True)))∧(ao ru cx rh ch (bc cu Mu Mx) Mh))→(cO AW v w7.heap.size ru cv (bc cu Mu Mv) b),_,_,fun v AW=>(((((((ru:Nat):Int)=((rx:Nat):Int)∧((cu:Nat):Int)=((rx:Nat):Int))∧True))∧(((((rv:Nat):Int)=((rx:Nat):Int)∧((cv:Nat):Int)=((rx:Nat):Int))∧True)))∧(ao ru cx rh ch (bc cu Mu Mx) Mh))→(cO AW v w7.heap.size rx rx ct 1),fun v AW=>(((((((ru:Nat):Int)=((rx:Nat):Int)∧((cu:Nat):Int)=((rx:Nat):Int))∧True))∧(((((rv:Nat):Int)=((rx:Nat):Int)∧((cv:Nat):Int)=((rx:Nat):Int))∧True)))∧(ao ru cx rh ch (bc cu Mu Mx) Mh))→(v= .bool (decide (ao ru cv rx rx (bc cu Mu Mv) ct))),_] rfl rfl (fun e_ w_ AV AU=>⟨fun _=>aa (cj.move ((AU 7 rfl rfl))),fun AT=>aa (cj.move ((AT 0 rfl))),fun AT=>gT (AT 1 rfl) fun hg=>aa (cj.move ((AU 8 rfl rfl))),fun AT=>aa (au (p:=((((ru:Nat):Int)=((rx:Nat):Int)∧((cu:Nat):Int)=((rx:Nat):Int))∧True)) (q:=((((rv:Nat):Int)=((rx:Nat):Int)∧((cv:Nat):Int)=((rx:Nat):Int))∧True)) (AT 1 rfl) (fun hq=>(AT 2 rfl hq))),fun AT=>aa (cj.move ((AT 3 rfl))),fun AT=>gT (AT 4 rfl) fun hg=>aa (cj.fieldAddr fY ((AU 3 rfl s3_e1))),fun AT=>gT (AT 4 rfl) fun hg=>aa (af [.int .i64 ((ru:Nat)),.int .i64 ((cu:Nat)),s2] aV ((AT 5 rfl hg)) ((aY.ext hA2 AV).cells 3 _ rfl rfl)),fun AT=>gT (AT 4 rfl) fun hg=>aa (af [.int .i64 ((rx:Nat)),.int .i64 ((cx:Nat)),sx] aV ((AU 2 rfl s2_e1)) ((aY.ext hA1 AV).cells 0 _ rfl rfl)),fun AT=>gT (AT 4 rfl) fun hg=>cQ.mono (cQ.call wU (aC ((AT 6 rfl hg)) ((AT 7 rfl hg))) (lB _ _ _ _ _ _ _ _ _ _ _ b (bX.mk (ce.ext (ce.ext hShb hX) AV) (by omega) (by omega)) (bX.mk (ce.ext (ce.ext hSx hX) AV) (by omega) (by omega)) (by omega) (by omega) (by omega) (jA (ce.bd hShb) (by rw [show cu=rx by omega];exact ce.bd hSx) (by omega) (by omega)))) fun v AX hv=>⟨hv.1,cO.low hv.2 AV.size⟩,fun AT=>gT (AT 4 rfl) fun hg=>aa (cj.fieldAddr dS ((AU 3 rfl s3_e1))),fun AT=>gT (AT 4 rfl) fun hg=>aa (af [.int .i64 ((rh:Nat)),.int .i64 ((ch:Nat)),s1] aV ((AT 9 rfl hg)) ((aY.ext hA2 AV).cells 0 _ rfl rfl)),fun AT=>gT (AT 4 rfl) fun hg=>cQ.call nz (aC rfl ((AT 10 rfl hg))) (ij _ _ _ _ _ _ _ _ _ _ _ (cO.matV (AT 8 rfl hg)) (bX.mk (ce.ext (ce.ext hSha hX) AV) (by omega) (by omega))),fun AT=>aa (au (p:=(((((ru:Nat):Int)=((rx:Nat):Int)∧((cu:Nat):Int)=((rx:Nat):Int))∧True))∧(((((rv:Nat):Int)=((rx:Nat):Int)∧((cv:Nat):Int)=((rx:Nat):Int))∧True))) (q:=ao ru cx rh ch (bc cu Mu Mx) Mh) (AT 4 rfl) (fun hq=>(AT 11 rfl hq))),fun AT=>aa (cj.move ((AT 12 rfl))),fun AT=>gT (AT 13 rfl) fun hg=>aa (cj.fieldAddr fY ((AU 3 rfl s3_e1))),fun AT=>gT (AT 13 rfl) fun hg=>aa (af [.int .i64 ((ru:Nat)),.int .i64 ((cu:Nat)),s2] aV ((AT 14 rfl hg)) ((aY.ext hA2 AV).cells 3 _ rfl rfl)),fun AT=>gT (AT 13 rfl) fun hg=>aa (cj.fieldAddr jy ((AU 3 rfl s3_e1))),fun AT=>gT (AT 13 rfl) fun hg=>aa (af [.int .i64 ((rv:Nat)),.int .i64 ((cv:Nat)),s3] aV ((AT 16 rfl hg)) ((aY.ext hA2 AV).cells 6 _ rfl rfl)),fun AT=>gT (AT 13 rfl) fun hg=>cQ.mono (cQ.call wU (aC ((AT 15 rfl hg)) ((AT 17 rfl hg))) (lB _ _ _ _ _ _ _ _ _ _ _ b (bX.mk (ce.ext (ce.ext hShb hX) AV) (by omega) (by omega)) (bX.mk (ce.ext (ce.ext hShc hX) AV) (by omega) (by omega)) (by omega) (by omega) (by omega) (jA (ce.bd hShb) (by rw [show cu=rv by omega];exact ce.bd hShc) (by omega) (by omega)))) fun v AX hv=>⟨hv.1,cO.low hv.2 AV.size⟩,fun AT=>gT (AT 13 rfl) fun hg=>aa (cj.fieldAddr aX ((AU 2 rfl s2_e1))),fun AT=>gT (AT 13 rfl) fun hg=>aa (cj.load bD ((AT 19 rfl hg)) ((aY.ext hA1 AV).at_ (i:=0) rfl rfl)),fun AT=>gT (AT 13 rfl) fun hg=>cQ.mono (cQ.call zz (aL ((AT 20 rfl hg))) (oN _ rx (by omega))) fun v AX hv=>⟨hv.1,cO.low hv.2 AV.size⟩,fun AT=>gT (AT 13 rfl) fun hg=>cQ.call nz (aC rfl rfl) (ij _ _ _ _ _ _ _ _ _ _ _ (cO.matV (AT 18 rfl hg)) (cO.matV (AT 21 rfl hg))),fun AT=>aa (au (p:=((((((ru:Nat):Int)=((rx:Nat):Int)∧((cu:Nat):Int)=((rx:Nat):Int))∧True))∧(((((rv:Nat):Int)=((rx:Nat):Int)∧((cv:Nat):Int)=((rx:Nat):Int))∧True)))∧(ao ru cx rh ch (bc cu Mu Mx) Mh)) (q:=ao ru cv rx rx (bc cu Mu Mv) ct) (AT 13 rfl) (fun hq=>(AT 22 rfl hq))),trivial⟩) ?_;intro e2 w8 hx8 ho2 hf2;replace hX:=aA.trans hX hx8;have s73_e2:e2 73=_:=hf2 23 rfl;refine RL.p rfl rfl (cj.assign s73_e2) ?_;refine RL.nil ?_;refine WP.ret ?_;refine ⟨.bool (decide ((((((((ru:Nat):Int)=((rx:Nat):Int)∧((cu:Nat):Int)=((rx:Nat):Int))∧True))∧(((((rv:Nat):Int)=((rx:Nat):Int)∧((cv:Nat):Int)=((rx:Nat):Int))∧True)))∧(ao ru cx rh ch (bc cu Mu Mx) Mh))∧(ao ru cv rx rx (bc cu Mu Mv) ct))),Am.one (fw.tmp rfl),_,rfl,hX,?_⟩;dsimp only;exact congrArg _ (decide_eq_decide.2 (wq hck))
end Go.TL
namespace Go.TL
open Go.RowKit
set_option linter.unusedVariables false
def AP (w:World) (v:Value) (B n:Nat) (z:Nat→Int) (b:Nat):Prop:=∃g k,v= .slice (some ⟨g,0,none⟩) n k∧n≤k∧k<9223372036854775808∧B≤g∧cw w g n z b
theorem AP.rowV {w:World} {v:Value} {B n b:Nat} {z:Nat→Int} (h:AP w v B n z b) (hn:n≤65536):bi w v n z b:=by
  obtain ⟨g,k,rfl,h1,h2,_,h3⟩:=h;exact h3.rowV h1 ⟨h2,hn⟩
end Go.TL
namespace Go.TL
set_option linter.unusedVariables false
theorem fU.isH {r c e0 k:Nat} {M0 M:Nat→Nat→Int} (h:fU r c e0 M0 k M):ck k r M:=by
  obtain ⟨⟨P,hP⟩,_⟩:=h.lat;exact hP.isH fun a h1 h2=>absurd h2 (by omega)
theorem vO {k c:Nat} {M:Nat→Nat→Int} {v:Nat→Int} (h:fC k c M v):yB k c M v:=by
  obtain ⟨a,ha⟩:=h;intro u hu;rw [ar (g:=fun j=>av k (fun i=>a i*M i j)*u j) fun j hj=>by rw [ha j hj]];rw [←dG k c a M (fun j _=>u j) 0];refine cI fun i hi=> ?_
  have:bc c M (fun j _=>u j) i 0=0:=by
    rw [←hu i hi];exact ar fun j _=>Int.mul_comm _ _
  rw [this,Int.mul_zero]
end Go.TL
namespace Go.TL
open Go.RowKit Go.Proofs
set_option linter.unusedVariables false
theorem zS {w:World} {g T m:Nat} {a:Int} (hA:aY w g T 1 (bU [.int .i64 a])):eH .i64 m w (.slice (some ⟨g,0,none⟩) 1 1) 1 (fun _=>a):=
  ⟨_,_,rfl,Nat.le_refl _,by decide,fun _=>⟨g,0,rfl,fun i hi=>by
    rw [Nat.zero_add];have:=hA.cell hi;obtain rfl:i=0:=by omega
    exact this⟩⟩
theorem tm {w:World} {l:Value} {a:Int} (hl:eH .i64 2 w l 1 (fun _=>a)) (ha:a.natAbs<16):Calls Tryz.prog 36 #[.int .i64 1,.int .i64 1,l] w (cc w fun v w'=>cO w' v w.heap.size 1 1 (fun _ _=>a) 4):=by
  refine (mq w 1 1 l 1 (fun _=>a) 4 (by decide) (by decide) hl (by decide) (fun i hi=>by omega) (fun i hi=>ha)).mono fun _ w' ⟨v,g1,g2,g3⟩=>⟨v,g1,g2,cO.congr g3 fun i j hi hj=> ?_⟩
  unfold eL
  rw [if_pos (by omega)]
def At (w:World) (v:Value) (r c:Nat) (M:Nat→Nat→Int) (b:Nat):Prop:=∃v1,v= .tuple #[v1,.int .i64 0]∧bX w v1 r c M b
theorem At.ext {w w':World} {v:Value} {r c b:Nat} {M:Nat→Nat→Int} (h:At w v r c M b) (hx:aA w w'):At w' v r c M b:=by obtain ⟨v1,h1,h2⟩:=h;exact ⟨v1,h1,h2.ext hx⟩
theorem tF (r c:Nat) (M:Nat→Nat→Int) (b:Nat):bq (fun v w=>At w v r c M b):=fun _ _ _ h hx=>h.ext hx
instance (r c:Nat) (M:Nat→Nat→Int) (b:Nat):Nonempty (bq (fun v w=>At w v r c M b)):=⟨tF r c M b⟩
def yG (w:World) (v:Value):Prop:=v= .int .i64 0
theorem yG.ext {w w':World} {v:Value} (h:yG w v) (hx:aA w w'):yG w' v:=h
theorem tG:bq (fun v w=>yG w v):=fun _ _ _ h _=>h
instance:Nonempty (bq (fun v w=>yG w v)):=⟨tG⟩
theorem fU.some {r c e0 k:Nat} {M0 M:Nat→Nat→Int} (h:fU r c e0 M0 k M) {i:Nat} (hi:i<k):0≤piv (M i) r:=by
  obtain ⟨k1,S1,S2,h1,h2,rfl⟩:=h;exact h2.ech.some hi
end Go.TL
namespace Go.TL
open Go.RowKit Go.Proofs
set_option linter.unusedVariables false
def mT (w:World) (v:Value) (n c:Nat) (q r:Nat→Int) (b:Nat):Prop:=∃vq vr,v= .tuple #[vq,vr,.int .i64 0]∧bi w vq n q b∧bi w vr c r b
theorem mT.ext {w w':World} {v:Value} {n c b:Nat} {q r:Nat→Int} (h:mT w v n c q r b) (hx:aA w w'):mT w' v n c q r b:=by
  obtain ⟨vq,vr,h1,h2,h3⟩:=h;exact ⟨vq,vr,h1,h2.ext hx,h3.ext hx⟩
theorem rp (n c:Nat) (q r:Nat→Int) (b:Nat):bq (fun v w=>mT w v n c q r b):=fun _ _ _ h hx=>h.ext hx
instance (n c:Nat) (q r:Nat→Int) (b:Nat):Nonempty (bq (fun v w=>mT w v n c q r b)):=⟨rp n c q r b⟩
def jg (w:World) (v:Value) (r c e0:Nat) (M0:Nat→Nat→Int) (b:Nat):Prop:=∃k S,Herm r c e0 M0 k S∧kU w v r c S b
theorem jg.ext {w w':World} {v:Value} {r c e0 b:Nat} {M0:Nat→Nat→Int} (h:jg w v r c e0 M0 b) (hx:aA w w'):jg w' v r c e0 M0 b:=by obtain ⟨k,S,h1,h2⟩:=h;exact ⟨k,S,h1,h2.ext hx⟩
theorem jn (r c e0:Nat) (M0:Nat→Nat→Int) (b:Nat):bq (fun v w=>jg w v r c e0 M0 b):=fun _ _ _ h hx=>h.ext hx
instance (r c e0:Nat) (M0:Nat→Nat→Int) (b:Nat):Nonempty (bq (fun v w=>jg w v r c e0 M0 b)):=⟨jn r c e0 M0 b⟩
section
variable {P:Program} {e:cl} {w:World} {d:Option Tmp} {ty:TypeId} {pos:String} {after:Array Edge} {gd:Option (Nat×Bool)} {x:Operand} {v:Value} {n c b:Nat} {q r:Nat→Int}
theorem uW (hx:ev e x=v) (h:mT w v n c q r b):cQ P ⟨d,.extract x 0,ty,pos,after,gd⟩ e w (fun v' w'=>w=w'∧bi w' v' n q b):=by
  obtain ⟨vq,vr,rfl,h2,h3⟩:=h;exact cT (φ:=fun v' w'=>bi w' v' n q b) (cj.extract hx rfl) h2
theorem uV (hx:ev e x=v) (h:mT w v n c q r b):cQ P ⟨d,.extract x 1,ty,pos,after,gd⟩ e w (fun v' w'=>w=w'∧bi w' v' c r b):=by
  obtain ⟨vq,vr,rfl,h2,h3⟩:=h;exact cT (φ:=fun v' w'=>bi w' v' c r b) (cj.extract hx rfl) h3
theorem uU (hx:ev e x=v) (h:mT w v n c q r b):cQ P ⟨d,.extract x 2,ty,pos,after,gd⟩ e w (fun v' w'=>w=w'∧v'= .int .i64 0):=by
  obtain ⟨vq,vr,rfl,h2,h3⟩:=h;exact cT (φ:=fun v' w'=>v'= .int .i64 0) (cj.extract hx rfl) rfl
end
theorem qi {r c:Nat} {M0:Nat→Nat→Int} {S:WS} (hl:Lin r c M0 S) (hi:ck r c S.M):bt r c r c r r r r M0 S.M S.U S.V:=
  ⟨⟨hi,rfl,rfl,⟨rfl,rfl⟩,⟨rfl,rfl⟩⟩,⟨rfl,rfl,fun i h j h2=>(hl.eq i j h h2).symm⟩,⟨rfl,rfl,fun i h j h2=>hl.uv i j h h2⟩⟩
theorem lW.isH {r k c:Nat} {M:Nat→Nat→Int} (h:lW r k c M):ck r c M:=by
  obtain ⟨⟨P,hP⟩,hz⟩:=h.toP;exact hP.isH hz
theorem Herm.chk {r c e0 k:Nat} {M0:Nat→Nat→Int} {S:WS} (h:Herm r c e0 M0 k S):bt r c r c r r r r M0 S.M S.U S.V:=qi h.lin h.ech.isH
theorem HermR.chk {r c e0 k:Nat} {M0:Nat→Nat→Int} {S:WS} (h:HermR r c e0 M0 k S):bt r c r c r r r r M0 S.M S.U S.V:=qi h.lin h.ech.isH
theorem pd {r c:Nat} {M N:Nat→Nat→Int} (hM:ck r c M) (hN:ck r c N) (hs:∀v,fC r c M v↔fC r c N v):ao r c r c M N:=by
  obtain ⟨k,P,hk,hE,hz,_⟩:=hM.ech;obtain ⟨k',P',hk',hE',hz',_⟩:=hN.ech;obtain ⟨rfl,e⟩:=hE.unique hE' fun v=>(fC.cut hk hz).symm.trans ((hs v).trans (fC.cut hk' hz'))
  refine ⟨rfl,rfl,fun i hi j hj=> ?_⟩;rcases Nat.lt_or_ge i k with h | h
  · exact e i j h hj
  · rw [hz i h hi j hj,hz' i h hi j hj]
theorem mD {r n c:Nat} {A B C:Nat→Nat→Int} (h:∀i,i<r→∀j,j<c→B i j=av n (fun x=>C i x*A x j)) {v:Nat→Int} (hv:fC r c B v):fC n c A v:=by
  obtain ⟨a,hv⟩:=hv;refine ⟨fun x=>av r (fun i=>a i*C i x),fun j hj=> ?_⟩;rw [hv j hj,←dG];exact ar fun i hi=>by rw [h i hi j hj];rfl
theorem qp {r c e0 k:Nat} {M0 N C D:Nat→Nat→Int} {S:WS} (h:Herm r c e0 M0 k S) (hN:ck r c N) (hC:∀i,i<r→∀j,j<c→M0 i j=av r (fun x=>C i x*N x j)) (hD:∀i,i<r→∀j,j<c→N i j=av r (fun x=>D i x*M0 x j)):
    ao r c r c S.M N:=pd h.ech.isH hN fun v=>h.lin.lat.symm.trans ⟨mD hC,mD hD⟩
theorem yz {r c e0 k n:Nat} {M0 N C D:Nat→Nat→Int} {P:Nat→Nat} {S:WS} (h:Herm r c e0 M0 k S) (hN:eI n c N P) (hC:∀i,i<r→∀j,j<c→M0 i j=av n (fun x=>C i x*N x j)) (hD:∀i,i<n→∀j,j<c→N i j=av r (fun x=>D i x*M0 x j)):
    ao k c n c S.M N:=by
  obtain ⟨P',hP'⟩:=h.ech.toP.1;obtain ⟨rfl,e⟩:=hP'.unique hN fun v=>(mC h.lin h.kr h.ech).symm.trans ⟨mD hC,mD hD⟩
  exact ⟨rfl,rfl,fun i hi j hj=>e i j hi hj⟩
theorem kU.mats {w:World} {v:Value} {r c b:Nat} {S:WS} (h:kU w v r c S b):∃s1 s2 s3,v= .agg #[.int .i64 (r:Nat),.int .i64 (c:Nat),s1,.int .i64 (r:Nat),.int .i64 (r:Nat),s2,.int .i64 (r:Nat),.int .i64 (r:Nat),s3]∧
    r≤65536∧c≤65536∧ce w s1 r c S.M b∧ce w s2 r r S.U b∧ce w s3 r r S.V b:=by
  obtain ⟨s1,s2,s3,h1,⟨d1,_⟩,d2,h2,h3,h4⟩:=h;exact ⟨s1,s2,s3,h1,by omega,by omega,h2,h3,h4⟩
theorem uf {w:World} {x v:Value} {r c e0 bx bv b:Nat} {M0:Nat→Nat→Int} (hx:bX w x r c M0 bx) (hv:jg w v r c e0 M0 bv) (h16:r≤16) (hb:bv + bx + 5≤b) (hb2:bv + bv + 5≤b) (hl:b + 1≤bj):
    Calls Tryz.prog 17 #[x,v] w (cc w fun v _=>v= .bool (decide True)):=by
  obtain ⟨k,S,hH,hS⟩:=hv;obtain ⟨s1,s2,s3,rfl,d1,d2,h1,h2,h3⟩:=hS.mats;refine (mF w x r c M0 bx s1 s2 s3 r c r r r r S.M S.U S.V bv bv bv b hx ⟨d1,d2,d1,d1,d1,d1⟩ h1 h2 h3 h16 hb hb2 hl).mono ?_;rintro e w' ⟨v,rfl,hx',h⟩;exact ⟨v,rfl,hx',h.trans (congrArg _ (decide_eq_decide.2 (iff_of_true hH.chk trivial)))⟩
theorem jz (w:World) (n c:Nat) (M:Nat→Nat→Int) (b:Nat) (hn:n=0) (hb:b≤bj):ce w (.slice none 0 0) n c M b:=by
  subst hn;exact ⟨none,0,rfl,Nat.le_refl _,⟨by decide,by decide,hb⟩,fun h=>absurd h (Nat.lt_irrefl _)⟩
theorem vB (w:World) (z:Nat→Int) (b:Nat) (hb:b≤bj):bi w (.slice none 0 0) 0 z b:=
  ⟨none,0,rfl,Nat.le_refl _,⟨by decide,by decide,hb⟩,fun h=>absurd h (Nat.lt_irrefl _)⟩
def f1 (a:Int):Nat→Int:=fun _=>a
theorem wc:eI 1 1 (fun _ _=>(2:Int)) (fun _=>0):=fun i hi=>⟨(by decide:0<1),(by decide:(0:Int)<2),fun j hj=>absurd hj (Nat.not_lt_zero _),fun n hn=>absurd hn (by omega)⟩
end Go.TL
