/-
  Lemmas towards the theorem of this claim (part 5).
  Conditions: those that each theorem names.
-/
import Derived.Test.YtknbpehdcgamaaaGreatPF4
namespace Go.TL
open Go.RowKit
set_option linter.unusedVariables false
def wy (l:List Oper):List Nat→Array Bool→Bool
  | [],_=>true
  | k::ks,listed=>Region.free .any l.toArray listed k&&(Region.ready .any l.toArray listed).contains k&&(match l[k]? with | some o=>o.guard.isNone&&o.after.toList.all (fun e=> !Region.binds .any e) | none=>false)&&
      wy l ks (listed.setIfInBounds k true)
def vv (P:Program) (l:List Oper) (n:Nat) (Φ:List ck) (A:Apart Φ) (e0:ct):List Nat→List Value→Prop
  | k::ks,v::vs=>(Nat.blt k n=true∧(∃o,l[k]? =some o∧∀w e,(∀t,dY l n t=false→e t=e0 t)→cI P o e w v)∧(∀w,cb Φ k v w)∧∀j,A.ap k j=false)∧vv P l n Φ A e0 ks vs
  | [], []=>True
  | _,_=>False
section
variable {P:Program} {N:Nat} {Q:Exit→Act→World→Prop} {l:List Oper}
theorem lJ {n:Nat} {tk:Nat→Bool} (G:Good N n l tk) {Φ:List ck} {A:Apart Φ} {e0:ct} {w0:World} (hs:Region.noSelect l.toArray=true) (hQ:∀c a w,¬Q (.panic c) a w):
    ∀(ks:List Nat) (vs:List Value) (fuel:Nat) (listed:Array Bool) (a:Act) (w:World),wy l ks listed=true→vv P l n Φ A e0 ks vs→Mid N n l (fun _=>false) Φ A e0 w0 listed a w→listed.toList.count false≤fuel→
      (∀listed' a' fuel',Mid N n l (fun _=>false) Φ A e0 w0 listed' a' w→(∀j,listed.getD j false=true∨j∈ks→listed'.getD j false=true)→listed'.toList.count false≤fuel'→wpAny P .any l.toArray Q fuel' listed' a' w)→
      wpAny P .any l.toArray Q fuel listed a w
  | [], [],fuel,listed,a,w,_,_,M,hc,hk=>hk listed a fuel M (fun j h=>h.elim id fun h=>by cases h) hc
  | [],_::_,_,_,_,_,_,h,_,_,_=>h.elim
  | _::_, [],_,_,_,_,_,h,_,_,_=>h.elim
  | k::ks,v::vs,fuel,listed,a,w,hf,⟨⟨hkn,⟨o,ho,hv⟩,hφ,hap⟩,hob⟩,M,hc,hk=>by
    simp only [wy,Bool.and_eq_true] at hf;obtain ⟨⟨⟨hfree,hready⟩,hgo⟩,hrest⟩:=hf;rw [ho] at hgo;simp only [Bool.and_eq_true,List.all_eq_true,Bool.not_eq_true'] at hgo;have hkn':k<n:=by simpa [Nat.blt_eq] using hkn
    have hkl:k<l.length:=Nat.lt_of_lt_of_le hkn' G.le;have hks:k<listed.size:=by rw [M.size];exact hkl
    obtain ⟨d,hd,hdN,hdist,_⟩:=G.dst k o hkn' ho;have hdk:aW l k=d:=by simp [aW,ho,hd]
    have hkf:listed.getD k true=false:=by
      have hr:=hready;rw [List.contains_iff_mem] at hr;exact (mem_ready.1 hr).1
    have hcnt:=dE hks hkf;obtain ⟨f,hff⟩:∃f,fuel=f + 1:=⟨fuel - 1,by omega⟩
    subst hff;obtain ⟨e',he,hother,hfct,hdj⟩:=M.env;have hne:∀j,j<n→j≠k→aW l j≠d:=by
      intro j hj hjk;rcases Nat.lt_trichotomy j k with h | h | h
      · exact hdist j h
      · exact absurd h hjk
      · intro heq
        have hjl:j<l.length:=Nat.lt_of_lt_of_le hj G.le;obtain ⟨d2,hd2,_,hdist2,_⟩:=G.dst j l[j] hj (List.getElem?_eq_getElem hjl);have:aW l j=d2:=by simp [aW,hjl,hd2]
        rw [heq] at this;exact hdist2 k h (by rw [hdk];exact this)
    have hval:∀j,j<n→j≠k→dV e' o.dst v (aW l j)=e' (aW l j):=fun j hj hjk=>by
      simp only [hd,dV];exact cG _ _ _ _ (hne j hj hjk)
    refine wpAny_take (by simpa using ho) hs hfree hready (fun c a w h=>absurd h (hQ c _ w)) (.inl ⟨by simp only [Region.wanted];cases hg:o.guard with | none=>rfl | some _=>rw [hg] at hgo;simp at hgo,fun w=>by have:=hv w e' hother;unfold cI at this;rw [he.eval];exact this⟩) ?_;refine lJ G hs hQ ks vs f _ _ w hrest hob ?_ (by omega) (fun listed' a' fuel' M' hall hc'=>hk listed' a' fuel' M' (fun j hj=>hall j ?_) hc')
    · refine ⟨by simp [M.size],?_,?_,(fun _ h=>by cases h),M.ext,dV e' o.dst v,he.put (by simp [hd,fK,Nat.blt_eq,hdN]) v,?_,?_,?_⟩
      · intro i oi hoi h e hem hb
        by_cases hik:i=k
        · subst hik
          rw [ho] at hoi;injection hoi with hoi;subst hoi;rw [hgo.2 e (Array.mem_def.1 hem)] at hb;cases hb
        · rw [getD_set_ne false (Ne.symm hik)] at h
          have:=M.closed i oi hoi h e hem hb
          by_cases hek:e.on=k
          · rw [hek];simp [hks]
          · rw [getD_set_ne false (Ne.symm hek)];exact this
      · intro j hj hjl
        rw [getD_set_ne true (by omega)];exact M.late j hj hjl
      · intro t ht
        simp only [hd,dV];rw [cG _ _ _ _ (fq ht hkn' ho hd)];exact hother t ht
      · intro i hi h
        by_cases hik:i=k
        · subst hik;rw [hdk];simp only [hd,dV,bV];exact hφ _
        · rw [getD_set_ne false (Ne.symm hik)] at h
          rw [hval i hi hik];exact hfct i hi h
      · intro i j hi hj hij h1 h2 hA
        by_cases hik:i=k
        · rw [hik,hap] at hA;cases hA
        · by_cases hjk:j=k
          · have:=A.symm _ _ hA;rw [hjk,hap] at this;cases this
          · rw [getD_set_ne false (Ne.symm hik)] at h1
            rw [getD_set_ne false (Ne.symm hjk)] at h2;rw [hval i hi hik,hval j hj hjk];exact hdj i j hi hj hij h1 h2 hA
    · rcases hj with h | h
      · left
        by_cases hjk:j=k
        · rw [hjk];simp [hks]
        · rw [getD_set_ne false (Ne.symm hjk)];exact h
      · rcases List.mem_cons.1 h with h | h
        · left;rw [h];simp [hks]
        · exact .inr h
end
theorem xc {P:Program} {N:Nat} {Q:cZ} {e:ct} {w:World} {id:Nat} {l:List Oper} (hm:P.follows .mixedOrders=true) (n:Nat) (Φ:List ck) (A:Apart Φ) (ks:List Nat) (vs:List Value)
    (hs:Region.noSelect l.toArray=true) (hfr:wy l ks (Array.replicate l.length false)=true) (hc:eA (fun j=>ks.contains j) N n l=true) (hlen:Φ.length=n) (hmono:ei Φ) (hob:fy P l n Φ A e w 0 l Φ) (hv:vv P l n Φ A e ks vs)
    (hkn:ks.all (fun k=>Nat.blt k n)=true)
    (htail:∀e' w',aF w w'→(∀t,dY l n t=false→e' t=e t)→(∀j,Nat.blt j n=true→cb Φ j (e' (aW l j)) w')→
      (∀i j,Nat.blt i n=true→Nat.blt j n=true→Nat.beq i j=false→A.disj l i j e' w')→
      RL P N l.toArray (fun e w=>Q .normal e w) (l.drop n) e' w'):WP P N (.region id l.toArray true) Q e w:=by
  intro a ha;have htk:∀j,(fun j=>ks.contains j) j=true→j<n:=fun j h=>by
    have h':j∈ks:=List.contains_iff_mem.1 h;have:=List.all_eq_true.1 hkn j h'
    simpa [Nat.blt_eq] using this
  have G:=ep (tk:=fun j=>ks.contains j) hc htk;refine Code.wp_mono (Q:=fun x a' w'=>x=Exit.normal∧∃e',IsE N a' e'∧Q x e' w') (fun x a' w' h=>h.2) ?_;refine wp_region_any hm ?_;simp only [List.size_toArray];have hrep:∀i,(Array.replicate l.length false).getD i false=false:=fun i=>by by_cases hi:i<l.length<;>simp [hi]
  refine lJ (Q:=fun x a' w'=>x=Exit.normal∧∃e',IsE N a' e'∧Q x e' w') G (Φ:=Φ) (A:=A) (e0:=e) (w0:=w) hs (fun c a w h=>by cases h.1) ks vs _ _ a _ hfr hv ?_ ?_ ?_
  · refine ⟨by simp,?_,?_,(fun _ h=>by cases h),⟨rfl,rfl,rfl,Nat.le_refl _,fun _ _=>rfl⟩,e,ha,fun _ _=>rfl,?_,?_⟩
    · intro i o _ h;rw [hrep] at h;cases h
    · intro j _ hj;simp [hj]
    · intro i _ h;rw [hrep] at h;cases h
    · intro i j _ _ _ h;rw [hrep] at h;cases h
  · simp
  · intro listed' a' fuel' M hall hcn
    refine nf G hlen hmono hob ?_ _ _ _ _ ⟨M.size,M.closed,M.late,fun j hj=>hall j (.inr (List.contains_iff_mem.1 hj)),M.ext,M.env⟩ hcn;intro a2 e' w' hae hext hoth hf hd;exact htail e' w' hext hoth (fun j hj=>hf j (by simpa [Nat.blt_eq] using hj)) (fun i j hi hj hij=>hd i j (by simpa [Nat.blt_eq] using hi) (by simpa [Nat.blt_eq] using hj) (eo hij)) a2 _ hae fun _ e'' _ h1 h2=>⟨rfl,e'',h1,h2⟩
end Go.TL
namespace Go.TL
open Go.RowKit Go.Proofs
set_option linter.unusedVariables false
set_option linter.unusedSimpArgs false
set_option maxRecDepth 10000 in
theorem uH (w:World) (x:Value) (rx cx:Nat) (Mx:Nat→Nat→Int) (btx:Nat) (hx:cc w x rx cx Mx btx) (hb:1 + btx≤br):Calls Tryz.prog 38 #[x] w (ci w fun v w'=>cH w' v w.heap.size rx cx Mx (1 + btx)):=by
 have hLIM:br=562949953421312:=rfl;have hmatx:=hx;obtain ⟨sx,rfl,hrx,hcx,hSx⟩:=hx.form;refine ak (N:=6) (rs:= #[.cell 2 28]) Tryz.func38 rfl rfl rfl (Nat.le_of_ble_eq_true rfl) ?_;have hX:aF w w:=aF.refl w;refine ab ?_;refine RL.x rfl rfl (dj.box [.int .i64 ((rx:Nat)),.int .i64 ((cx:Nat)),sx] rfl rfl) ?_;rintro _ w1 ⟨g1,rfl,hge1,hx1,hA1⟩;replace hX:=aF.trans hX hx1;refine RL.x rfl rfl (dj.alloc [.int .i64 (0),.int .i64 (0),.slice (none) (0) (0)] cf rfl) ?_;rintro _ w2 ⟨g2,rfl,hge2,hx2,hA2⟩;have hbs2:w.heap.size≤g2:=Nat.le_trans hX.size hge2;replace hA1:=be.ext hA1 hx2;replace hX:=aF.trans hX hx2;refine RL.nil ?_;have hBw1:w.heap.size≤w2.heap.size:=hX.size;refine aK am 3 [_,_,fun v BI=>cH BI v w2.heap.size rx cx ((fun i j=>1*Mx i j)) (1 + btx)] rfl rfl (fun e_ w_ BH BG=>⟨fun _=>aa (af [.int .i64 ((rx:Nat)),.int .i64 ((cx:Nat)),sx] aR ((BG 1 rfl rfl)) ((be.ext hA1 BH).cells 0 _ rfl rfl)),fun _=>dj.call qj (aI rfl) (wW (1) (1) _ (by decide) (by decide) (by decide)),fun BF=>dj.mono (dj.call Ah (ax ((BF 0 rfl)) rfl) (wh _ _ _ _ _ _ _ _ _ (cc.mk (co.ext (co.ext hSx hX) BH) (by omega) (by omega)) (BF 1 rfl) (by omega))) fun v BJ hv=>⟨hv.1,cH.low hv.2 BH.size⟩,trivial⟩) ?_;intro e1 w3 hx3 ho1 hf1;replace hA2:=be.ext hA2 hx3;replace hX:=aF.trans hX hx3;have s2_e1:e1 2=_:=ho1 2 rfl rfl;have s5_e1:cH w3 (e1 5) w2.heap.size rx cx ((fun i j=>1*Mx i j)) (1 + btx):=hf1 2 rfl;obtain ⟨gh1,kh1,ρ1,hq1,hM1⟩:=s5_e1;have hd1:=cD.dlim hM1;have hd2:=cD.clim hM1;refine RL.x rfl rfl (dj.store [.int .i64 ((rx:Nat)),.int .i64 ((cx:Nat)),.slice (some ⟨gh1,0,none⟩) (rx) (kh1)] cL s2_e1 hq1 rfl hA2 (Nat.le_of_ble_eq_true rfl) (cM rfl rfl rfl)) ?_;rintro _ w4 ⟨hk1,hnew⟩;replace hM1:=aE hM1 hk1 hA2 (by decide);replace hX:=hX.step hk1 (fun b e=>by subst e;exact hbs2);replace hA2:=hnew.lit [.int .i64 ((rx:Nat)),.int .i64 ((cx:Nat)),.slice (some ⟨gh1,0,none⟩) (rx) (kh1)] rfl;clear hnew;refine RL.nil ?_;refine WP.ret ?_;refine ⟨.agg #[.int .i64 ((rx:Nat)),.int .i64 ((cx:Nat)),.slice (some ⟨gh1,0,none⟩) (rx) (kh1)],Bb.one (aj [.int .i64 ((rx:Nat)),.int .i64 ((cx:Nat)),.slice (some ⟨gh1,0,none⟩) (rx) (kh1)] aR s2_e1 (hA2.cells 0 _ rfl rfl)),_,rfl,hX,?_⟩;dsimp only;exact cH.congr (⟨_,_,_,rfl,cD.low hM1 (hBw1)⟩) (fun i j _ _=>Int.one_mul _)
set_option maxRecDepth 10000 in
theorem iz (w:World) (x:Value) (zx:Int) (btx:Nat) (y:Value) (zy:Int) (bty:Nat) (hx:al w x zx btx) (hy:al w y zy bty) (hzy:zy≠0) (hl:btx + 1≤br):Calls Tryz.prog 43 #[x,y] w (ci w fun v w'=>al w' v (zx/zy) btx):=by
 have hLIM:br=562949953421312:=rfl;refine ak (N:=16) (rs:= #[.cell 4 49]) Tryz.func43 rfl rfl rfl (Nat.le_of_ble_eq_true rfl) ?_;have hX:aF w w:=aF.refl w;refine ab ?_;obtain ⟨ca1,cb1,hq1,ho1,ho2⟩:=al.cells (al.ext hx hX);have qi1:al w (.agg #[ca1,cb1]) zx btx:=hq1▸(al.ext hx hX);refine RL.x rfl rfl (dj.box [ca1,cb1] hq1 rfl) ?_;rintro _ w1 ⟨g1,rfl,hge1,hx1,hA1⟩;replace qi1:=al.ext qi1 hx1;replace hX:=aF.trans hX hx1;obtain ⟨ca2,cb2,hq2,ho3,ho4⟩:=al.cells (al.ext hy hX);have qi2:al w1 (.agg #[ca2,cb2]) zy bty:=hq2▸(al.ext hy hX);refine RL.x rfl rfl (dj.box [ca2,cb2] hq2 rfl) ?_;rintro _ w2 ⟨g2,rfl,hge2,hx2,hA2⟩;replace qi1:=al.ext qi1 hx2;replace hA1:=be.ext hA1 hx2;replace qi2:=al.ext qi2 hx2;replace hX:=aF.trans hX hx2;refine RL.x rfl rfl (dj.alloc [.bool (false),.slice (none) (0) (0)] bH rfl) ?_;rintro _ w3 ⟨g3,rfl,hge3,hx3,hA3⟩;have hbs3:w.heap.size≤g3:=Nat.le_trans hX.size hge3;replace qi1:=al.ext qi1 hx3;replace hA1:=be.ext hA1 hx3;replace qi2:=al.ext qi2 hx3;replace hA2:=be.ext hA2 hx3;replace hX:=aF.trans hX hx3;refine RL.nil ?_;refine ab ?_;refine RL.p rfl rfl (af [ca1,cb1] ao rfl (hA1.cells 0 _ rfl rfl)) ?_;refine RL.p rfl rfl (af [ca2,cb2] ao rfl (hA2.cells 0 _ rfl rfl)) ?_;refine RL.x rfl rfl (dj.call Ab (ax rfl rfl) (va _ _ _ _ _ _ _ qi1 qi2 hzy hl)) ?_;rintro _ w4 ⟨hx4,v1,v2,rfl,q1,q2⟩;replace hA3:=be.ext hA3 hx4;replace hX:=aF.trans hX hx4;refine RL.p rfl rfl (cI.move rfl) ?_;refine RL.p rfl rfl (cI.extract rfl rfl) ?_;refine RL.p rfl rfl (cI.extract rfl rfl) ?_;refine RL.p rfl rfl (cI.extract rfl rfl) ?_;refine RL.x rfl rfl (dj.alloc [.bool (false),.slice (none) (0) (0)] bH rfl) ?_;rintro _ w5 ⟨g4,rfl,hge4,hx5,hA4⟩;have ne6:g3≠g4:=Nat.ne_of_lt (Nat.lt_of_lt_of_le hA3.lt hge4);have hbs4:w.heap.size≤g4:=Nat.le_trans hX.size hge4;replace hA3:=be.ext hA3 hx5;replace q1:=al.ext q1 hx5;replace q2:=al.ext q2 hx5;replace hX:=aF.trans hX hx5;refine RL.x rfl rfl (dj.alloc [.bool (false),.slice (none) (0) (0)] bH rfl) ?_;rintro _ w6 ⟨g5,rfl,hge5,hx6,hA5⟩;have ne9:g3≠g5:=Nat.ne_of_lt (Nat.lt_of_lt_of_le hA3.lt hge5);have ne10:g4≠g5:=Nat.ne_of_lt (Nat.lt_of_lt_of_le hA4.lt hge5);have hbs5:w.heap.size≤g5:=Nat.le_trans hX.size hge5;replace hA3:=be.ext hA3 hx6;replace q1:=al.ext q1 hx6;replace q2:=al.ext q2 hx6;replace hA4:=be.ext hA4 hx6;replace hX:=aF.trans hX hx6;obtain ⟨ca3,cb3,hq3,ho5,ho6⟩:=al.cells q1;have qi3:al w6 (.agg #[ca3,cb3]) ((zx)/(zy)) btx:=hq3▸q1;refine RL.x rfl rfl (dj.store [ca3,cb3] aN rfl hq3 rfl hA4 (Nat.le_of_ble_eq_true rfl) (bj ho5 ho6)) ?_;rintro _ w7 ⟨hk1,hnew⟩;replace hA3:=hA3.keep hk1 ne6;replace q2:=ae q2 hk1 hA4 (by decide);replace hA5:=hA5.keep hk1 (Ne.symm ne10);replace qi3:=ae qi3 hk1 hA4 (by decide);replace hX:=hX.step hk1 (fun b e=>by subst e;exact hbs4);replace hA4:=hnew.lit [ca3,cb3] rfl;clear hnew;obtain ⟨ca4,cb4,hq4,ho7,ho8⟩:=al.cells q2;refine RL.x rfl rfl (dj.store [ca4,cb4] aN rfl hq4 rfl hA5 (Nat.le_of_ble_eq_true rfl) (bj ho7 ho8)) ?_;rintro _ w8 ⟨hk2,hnew⟩;replace hA3:=hA3.keep hk2 ne9;replace hA4:=hA4.keep hk2 ne10;replace qi3:=ae qi3 hk2 hA5 (by decide);replace hX:=hX.step hk2 (fun b e=>by subst e;exact hbs5);clear hnew;refine RL.p rfl rfl (cI.assign rfl) ?_;refine RL.nil ?_;refine ab ?_;refine RL.p rfl rfl (af [ca3,cb3] ao rfl (hA4.cells 0 _ rfl rfl)) ?_;refine RL.x rfl rfl (dj.store [ca3,cb3] aN rfl rfl rfl hA3 (Nat.le_of_ble_eq_true rfl) (bj ho5 ho6)) ?_;rintro _ w9 ⟨hk3,hnew⟩;replace qi3:=ae qi3 hk3 hA3 (by decide);replace hX:=hX.step hk3 (fun b e=>by subst e;exact hbs3);replace hA3:=hnew.lit [ca3,cb3] rfl;clear hnew;refine RL.nil ?_;refine WP.ret ?_;refine ⟨.agg #[ca3,cb3],Bb.one (aj [ca3,cb3] ao rfl (hA3.cells 0 _ rfl rfl)),_,rfl,hX,?_⟩;dsimp only;exact qi3
set_option maxRecDepth 10000 in
theorem qt (w:World) (x:Value) (nx:Nat) (zx:Nat→Int) (btx:Nat) (hx:bO w x nx zx btx) (hn:0<nx):Calls Tryz.prog 112 #[x] w (ci w fun v w'=>ee w' v w.heap.size nx zx btx):=by
 have hLIM:br=562949953421312:=rfl;have hlimx:=hx.lim;refine ak (N:=8) (rs:= #[.tmp 2]) Tryz.func112 rfl rfl rfl (Nat.le_of_ble_eq_true rfl) ?_;have hX:aF w w:=aF.refl w;refine ab ?_;refine RL.p rfl rfl (cI.assign rfl) ?_;refine RL.nil ?_;refine WP.seq ?_;refine ab ?_;refine RL.p rfl rfl (cI.move rfl) ?_;refine RL.p rfl rfl (lQ bi rfl (bO.ext hx hX) rfl hn) ?_;refine RL.nil ?_;refine WP.cond _ rfl (fun hf=>absurd hf (by decide)) (fun _=> ?_);refine WP.skip ?_;refine pR.norm ?_;refine ab ?_;refine RL.x rfl rfl (dF bi) ?_;rintro _ w1 ⟨g1,rfl,hge1,hx1,hA1⟩;replace hX:=aF.trans hX hx1;refine RL.p rfl rfl (cI.move rfl) ?_;have hBw1:w.heap.size≤w1.heap.size:=hX.size;refine RL.x rfl rfl (jj bi (by decide) bH rfl hA1 rfl (bO.ext hx hX) hn) ?_;rintro v1 w2 ⟨hx2,q1,_⟩;replace hX:=aF.trans hX hx2;refine RL.p rfl rfl (cI.assign rfl) ?_;refine RL.nil ?_;refine WP.ret ?_;refine ⟨v1,Bb.one (ge.tmp rfl),_,rfl,hX,?_⟩;dsimp only;obtain ⟨g,h1,h2,h3⟩:=q1;exact ⟨g,h1,Nat.le_trans hBw1 h2,h3⟩
set_option maxRecDepth 10000 in
theorem oF (w:World) (gx gy n:Nat) (zx zy:Nat→Int) (b:Nat) (x:Value) (y:Value) (k:Value) (zk:Int) (btk:Nat) (hx:fx w x gx n) (hy:fx w y gy n) (hk:al w k zk btk) (hX0:cN w gx n zx b) (hY0:cN w gy n zy b) (hxy:gx=gy→∀j,j<n→zx j=zy j) (hb:btk + b + 2≤br) (hfit:∀j,j<n→(zx j + zk*zy j).natAbs<2^b):Calls Tryz.prog 66 #[x,y,k] w (ma (fun b=>b=gx) w fun v w'=>cN w' gx n (fun j=>zx j + zk*zy j) b):=by
 have hLIM:br=562949953421312:=rfl;refine ak (N:=27) (rs:= #[]) Tryz.func66 rfl rfl rfl (Nat.le_of_ble_eq_true rfl) ?_;have hX:Keeps (fun b=>b=gx) w w:=Keeps.refl _ w;have hn16:=hx.dim;have hblim:=sL hX0;refine ab ?_;obtain ⟨ca1,cb1,hq1,ho1,ho2⟩:=al.cells hk;have qi1:al w (.agg #[ca1,cb1]) zk btk:=hq1▸hk;refine RL.x rfl rfl (dj.box [ca1,cb1] hq1 rfl) ?_;rintro _ w1 ⟨g1,rfl,hge1,hx1,hA1⟩;have ne1:gx≠g1:=Nat.ne_of_lt (Nat.lt_of_lt_of_le (cN.lt hX0) hge1);replace hx:=fx.ext hx hx1;replace hy:=fx.ext hy hx1;replace hX0:=cN.ext hX0 hx1;replace hY0:=cN.ext hY0 hx1;replace qi1:=al.ext qi1 hx1;replace hX:=aS hX hx1;refine RL.nil ?_;refine ab ?_;refine RL.p rfl rfl (cI.move rfl) ?_;refine RL.p rfl rfl (sP dk (bF hx w1) rfl) ?_;refine RL.p rfl rfl (cI.move rfl) ?_;refine RL.nil ?_;refine WP.block ?_;refine WP.loop (fun mz ez uz=>∃i:Nat,∃ζ:Nat→Int,(mz=n - i)∧(ez 0=x)∧(ez 1=y)∧(ez 5= .pointer (some ⟨g1,0,none⟩))∧(ez 8= .int .i64 ((n:Nat)))∧(ez 9= .int .i64 ((i:Nat)))∧(i≤n)∧(∀j,i≤j→j<n→ζ j=zy j)∧(Keeps (fun b=>b=gx) w uz)∧(fx uz x gx n)∧(fx uz y gy n)∧(cN uz gx n (lN zx zy zk i) b)∧(cN uz gy n ζ b)∧(al uz (.agg #[ca1,cb1]:Value) zk btk)∧(be uz g1 49 2 (bS [ca1,cb1]))) (n - 0) ?_ ?_
 · exact ⟨0,zy,rfl,rfl,rfl,rfl,rfl,rfl,(by omega),(fun j _ _=>rfl),hX,hx,hy,cN.congr hX0 (fun j _=>by simp [lN]),hY0,qi1,hA1⟩
 rintro m1 e1 w2 ⟨i,ζ,hm1,s0_e1,s1_e1,s5_e1,s8_e1,s9_e1,hi,hal,hX1,hx,hy,hX0,hY0,qi1,hA1⟩;refine ab ?_;refine RL.p rfl rfl (cI.lss s9_e1 s8_e1) ?_;refine RL.nil ?_;refine WP.seq ?_;refine ag (((i:Nat):Int)<((n:Nat):Int)) rfl (fun c10=> ?_) (fun c10=> ?_)
 ·
  refine WP.skip ?_;refine pR.norm ?_;refine WP.seq ?_;refine WP.block ?_;refine ab ?_;refine RL.p rfl rfl (cI.move s9_e1) ?_;refine RL.p rfl rfl (cI.assign rfl) ?_;refine RL.nil ?_;refine WP.ds am 14 [_,_,_,_,_,_,_,_,_,_,_,_,_,_] rfl rfl (fun e_ w_ BH BG=>⟨fun _=>aa (cI.move ((BG 0 rfl s0_e1))),fun _=>aa (cI.move ((BG 6 rfl rfl))),fun _=>aa (cI.move ((BG 0 rfl s0_e1))),fun _=>aa (cI.move ((BG 6 rfl rfl))),fun BF=>aa (av (j:=i) dk (bF hx w_) (BF 2 rfl) (BF 3 rfl) (by omega) (by omega)),fun BF=>ah (aP (j:=i) ao (BF 4 rfl) (cN.ext hX0 BH) (by omega)),fun _=>aa (af [ca1,cb1] ao ((BG 5 rfl s5_e1)) ((be.ext hA1 BH).cells 0 _ rfl rfl)),fun _=>aa (cI.move ((BG 1 rfl s1_e1))),fun _=>aa (cI.move ((BG 6 rfl rfl))),fun BF=>aa (av (j:=i) dk (bF hy w_) (BF 7 rfl) (BF 8 rfl) (by omega) (by omega)),fun BF=>ah (aP (j:=i) ao (BF 9 rfl) (cN.ext hY0 BH) (by omega)),fun BF=>dj.call qh (ax ((BF 6 rfl)) rfl) (ri _ _ _ _ _ _ _ ((btk) + (b)) ((al.ext qi1 BH)) ((BF 10 rfl)) (by omega) (by omega)),fun BF=>dj.call mR (ax rfl rfl) (rj _ _ _ _ _ _ _ (max (b) ((btk) + (b)) + 1) ((BF 5 rfl)) ((BF 11 rfl)) (by omega) (by omega) (by omega)),fun BF=>aa (av (j:=i) dk (bF hx w_) (BF 0 rfl) (BF 1 rfl) (by omega) (by omega)),trivial⟩) ?_;intro e2 w3 hx2 ho3 hf1;replace hx:=fx.ext hx hx2;replace hy:=fx.ext hy hx2;replace hX0:=cN.ext hX0 hx2;replace hY0:=cN.ext hY0 hx2;replace qi1:=al.ext qi1 hx2;replace hA1:=be.ext hA1 hx2;replace hX1:=aS hX1 hx2;have s0_e2:=ho3 0 rfl s0_e1;have s1_e2:=ho3 1 rfl s1_e1;have s5_e2:=ho3 5 rfl s5_e1;have s8_e2:=ho3 8 rfl s8_e1;have s9_e2:=ho3 9 rfl s9_e1;have s24_e2:al w3 (e2 24) (((lN zx zy zk i) i:Int) + ((zk:Int)*(ζ i:Int):Int)) (max (b) ((btk) + (b)) + 1):=hf1 12 rfl;have s25_e2:e2 25=_:=hf1 13 rfl;refine RL.x rfl rfl (iC (j:=i) aN s25_e2 rfl (al.eq s24_e2 (vh hal (by omega)) (hfit i (by omega)) (by omega)) hX0 (by omega)) ?_;rintro _ w4 ⟨hk1,hN1⟩;replace qi1:=bZ qi1 hk1 hX0;replace hA1:=hA1.keep hk1 (Ne.symm ne1);replace hX1:=hX1.step hk1 (fun b e=>by subst e;exact .inl rfl);obtain ⟨ζ2,hY1,hal2⟩:=pT hY0 hN1 hk1 hX0;replace hY0:=hY1;replace hX0:=hN1;refine RL.nil ?_;refine jm.norm ?_;refine pR.norm ?_;refine WP.region ?_;refine RL.p rfl rfl (cI.add (c:=((i + 1:Nat):Int)) s9_e2 rfl (bU (by omega))) ?_;refine RL.p rfl rfl (cI.move rfl) ?_;refine RL.nil ?_;refine pR.norm ⟨_,(by omega),i + 1,ζ2,rfl,s0_e2,s1_e2,s5_e2,s8_e2,rfl,(by omega),(zq hal hal2 hxy),hX1,hx,hy,gD hX0 (vi zx zy zk i),hY0,qi1,hA1⟩
 ·
  refine WP.exit ?_;refine pR.exit ?_;refine pR.exit ?_;refine jm.same ?_;refine ⟨.tuple #[],Bb.zero,_,rfl,hX1,?_⟩;dsimp only;exact cN.congr hX0 (fun j hj=>by unfold lN;rw [if_pos (by omega)])
set_option maxRecDepth 10000 in
theorem qT (w:World) (B gw r c:Nat) (M U V:Nat→Nat→Int) (b:Nat) (i:Nat) (j:Nat) (k:Value) (zk:Int) (btk:Nat) (hW:bT 74 w B gw r c M U V b) (hi:i<r) (hj:j<r) (hk:al w k zk btk) (hij:i≠j) (hb:btk + b + 2≤br) (hfM:∀a,a<c→(M i a + zk*M j a).natAbs<2^b) (hfU:∀a,a<r→(U i a + zk*U j a).natAbs<2^b) (hfV:∀a,a<r→(V a j - zk*V a i).natAbs<2^b):Calls Tryz.prog 41 #[.pointer (some ⟨gw,0,none⟩),.int .i64 (i:Nat),.int .i64 (j:Nat),k] w (ma (dx B w) w fun v w'=>bT 74 w' B gw r c (cX M i j zk) (cX U i j zk) (dR V i j zk) b):=by
 have hLIM:br=562949953421312:=rfl;obtain ⟨hm,hu,hv,km,ku,kv,ρm,ρu,ρv,hBg,hG,hMm,hMu,hMv,nmu,nmv,nuv,dmu,dmv,duv⟩:=hW;have hdm:=cD.dlim hMm;have hcm:=cD.clim hMm;have hdu:=cD.dlim hMu;have hdv:=cD.dlim hMv;have h0m:=hMm;have h0u:=hMu;have h0v:=hMv;refine ak (N:=74) (rs:= #[]) Tryz.func41 rfl rfl rfl (Nat.le_of_ble_eq_true rfl) ?_;have hX:Keeps (dx B w) w w:=Keeps.refl _ w;refine ab ?_;obtain ⟨ca1,cb1,hq1,ho1,ho2⟩:=al.cells hk;have qi1:al w (.agg #[ca1,cb1]) zk btk:=hq1▸hk;refine RL.x rfl rfl (dj.box [ca1,cb1] hq1 rfl) ?_;rintro _ w1 ⟨g1,rfl,hge1,hx1,hA1⟩;have ne2:∀ii,ii<r→ρm ii≠g1:=fun ii hi=>Nat.ne_of_lt (Nat.lt_of_lt_of_le (cD.rowlt hMm hi) hge1)
 have ne4:∀ii,ii<r→ρu ii≠g1:=fun ii hi=>Nat.ne_of_lt (Nat.lt_of_lt_of_le (cD.rowlt hMu hi) hge1)
 have ne6:∀ii,ii<r→ρv ii≠g1:=fun ii hi=>Nat.ne_of_lt (Nat.lt_of_lt_of_le (cD.rowlt hMv hi) hge1)
 replace hG:=be.ext hG hx1;replace hMm:=cD.ext hMm hx1;replace hMu:=cD.ext hMu hx1;replace hMv:=cD.ext hMv hx1;replace hk:=al.ext hk hx1;replace qi1:=al.ext qi1 hx1;replace hX:=aS hX hx1;refine RL.nil ?_;refine WP.seq ?_;refine ab ?_;refine RL.p rfl rfl (af [ca1,cb1] ao rfl (hA1.cells 0 _ rfl rfl)) ?_;refine RL.x rfl rfl (dj.call jS (aI rfl) (gz _ _ _ _ qi1)) ?_;rintro _ w2 ⟨hx2,rfl⟩;replace hG:=be.ext hG hx2;replace hMm:=cD.ext hMm hx2;replace hMu:=cD.ext hMu hx2;replace hMv:=cD.ext hMv hx2;replace hk:=al.ext hk hx2;replace qi1:=al.ext qi1 hx2;replace hA1:=be.ext hA1 hx2;replace hX:=aS hX hx2;refine RL.p rfl rfl (cI.eql rfl rfl) ?_;refine RL.nil ?_;refine ag (((zk:Int).sign:Int)=(0:Int)) rfl (fun c12=> ?_) (fun c12=> ?_)
 ·
  refine WP.ret ?_;refine pR.ret ?_;refine ⟨.tuple #[],Bb.zero,_,rfl,hX,?_⟩;dsimp only;have hz0:zk=0:=by simpa [Int.sign_eq_zero_iff_zero] using c12
  exact ⟨hm,hu,hv,km,ku,kv,_,_,_,hBg,hG,bA hMm (iP M i j hz0).symm,bA hMu (iP U i j hz0).symm,bA hMv (A8 V i j hz0).symm,nmu,nmv,nuv,dmu,dmv,duv⟩
 ·
  refine WP.skip ?_;refine pR.norm ?_;refine aK am 17 [_,_,_,_,_,_,_,_,_,_,_,_,_,_,_,_,_] rfl rfl (fun e_ w_ BH BG=>⟨fun _=>aa (cI.move ((BG 0 rfl rfl))),fun BF=>aa (cI.nilCheck ((BF 0 rfl))),fun BF=>aa (cI.fieldAddr cQ ((BF 1 rfl))),fun BF=>aa (cI.fieldAddr aq ((BF 2 rfl))),fun BF=>aa (cI.load aH ((BF 3 rfl)) ((be.ext hG BH).at_ (i:=2) rfl rfl)),fun _=>aa (cI.move ((BG 1 rfl rfl))),fun BF=>aa (cI.index (j:=i) aB ((BF 4 rfl)) ((BF 5 rfl)) rfl (by omega) (by omega)),fun BF=>ah (an (i:=i) aU (BF 6 rfl) (cD.ext hMm BH) (by omega)),fun _=>aa (cI.move ((BG 0 rfl rfl))),fun BF=>aa (cI.nilCheck ((BF 8 rfl))),fun BF=>aa (cI.fieldAddr cQ ((BF 9 rfl))),fun BF=>aa (cI.fieldAddr aq ((BF 10 rfl))),fun BF=>aa (cI.load aH ((BF 11 rfl)) ((be.ext hG BH).at_ (i:=2) rfl rfl)),fun _=>aa (cI.move ((BG 2 rfl rfl))),fun BF=>aa (cI.index (j:=j) aB ((BF 12 rfl)) ((BF 13 rfl)) rfl (by omega) (by omega)),fun BF=>ah (an (i:=j) aU (BF 14 rfl) (cD.ext hMm BH) (by omega)),fun _=>aa (af [ca1,cb1] ao ((BG 7 rfl rfl)) ((be.ext hA1 BH).cells 0 _ rfl rfl)),trivial⟩) ?_;intro e1 w3 hx3 ho3 hf1;replace hG:=be.ext hG hx3;replace hMm:=cD.ext hMm hx3;replace hMu:=cD.ext hMu hx3;replace hMv:=cD.ext hMv hx3;replace hk:=al.ext hk hx3;replace qi1:=al.ext qi1 hx3;replace hA1:=be.ext hA1 hx3;replace hX:=aS hX hx3;have s0_e1:e1 0=_:=ho3 0 rfl rfl;have s1_e1:e1 1=_:=ho3 1 rfl rfl;have s2_e1:e1 2=_:=ho3 2 rfl rfl;have s7_e1:e1 7=_:=ho3 7 rfl rfl;have s20_e1:fx w3 (e1 20) (ρm i) c:=hf1 7 rfl;have s28_e1:fx w3 (e1 28) (ρm j) c:=hf1 15 rfl;have s29_e1:e1 29=_:=hf1 16 rfl;refine RL.x rfl rfl (cT nW (cS rfl rfl s29_e1) (oF _ _ _ _ _ _ _ _ _ _ _ _ (bF s20_e1 w3) (bF s28_e1 w3) qi1 (cD.row (i:=i) hMm (by omega)) (cD.row (i:=j) hMm (by omega)) (fun e=>absurd (cD.inj hMm (by omega) (by omega) e) hij) (by omega) hfM)) ?_;rintro _ w5 ⟨hk1,hN1⟩;have hR1:=cD.row (i:=i) hMm (by omega);replace hG:=aT hG hk1 hR1 (by decide);replace hMu:=aX hMu hk1 hR1 (fun ii hii=>Ne.symm (dmu i ii (by omega) hii));replace hMv:=aX hMv hk1 hR1 (fun ii hii=>Ne.symm (dmv i ii (by omega) hii));replace hk:=bZ hk hk1 hR1;replace qi1:=bZ qi1 hk1 hR1;replace hA1:=hA1.keep hk1 (Ne.symm (ne2 i (by omega)));replace hX:=hX.step hk1 (fun b e=>by subst e;exact (.inl (dh (i:=i) h0m (by omega))));replace hMm:=cD.setRow (i:=i) hMm (by omega) hk1 hN1;refine RL.nil ?_;refine aK am 17 [_,_,_,_,_,_,_,_,_,_,_,_,_,_,_,_,_] rfl rfl (fun e_ w_ BH BG=>⟨fun _=>aa (cI.move ((BG 0 rfl s0_e1))),fun BF=>aa (cI.nilCheck ((BF 0 rfl))),fun BF=>aa (cI.fieldAddr ea ((BF 1 rfl))),fun BF=>aa (cI.fieldAddr aq ((BF 2 rfl))),fun BF=>aa (cI.load aH ((BF 3 rfl)) ((be.ext hG BH).at_ (i:=5) rfl rfl)),fun _=>aa (cI.move ((BG 1 rfl s1_e1))),fun BF=>aa (cI.index (j:=i) aB ((BF 4 rfl)) ((BF 5 rfl)) rfl (by omega) (by omega)),fun BF=>ah (an (i:=i) aU (BF 6 rfl) (cD.ext hMu BH) (by omega)),fun _=>aa (cI.move ((BG 0 rfl s0_e1))),fun BF=>aa (cI.nilCheck ((BF 8 rfl))),fun BF=>aa (cI.fieldAddr ea ((BF 9 rfl))),fun BF=>aa (cI.fieldAddr aq ((BF 10 rfl))),fun BF=>aa (cI.load aH ((BF 11 rfl)) ((be.ext hG BH).at_ (i:=5) rfl rfl)),fun _=>aa (cI.move ((BG 2 rfl s2_e1))),fun BF=>aa (cI.index (j:=j) aB ((BF 12 rfl)) ((BF 13 rfl)) rfl (by omega) (by omega)),fun BF=>ah (an (i:=j) aU (BF 14 rfl) (cD.ext hMu BH) (by omega)),fun _=>aa (af [ca1,cb1] ao ((BG 7 rfl s7_e1)) ((be.ext hA1 BH).cells 0 _ rfl rfl)),trivial⟩) ?_;intro e2 w6 hx5 ho4 hf2;replace hG:=be.ext hG hx5;replace hMm:=cD.ext hMm hx5;replace hMu:=cD.ext hMu hx5;replace hMv:=cD.ext hMv hx5;replace hk:=al.ext hk hx5;replace qi1:=al.ext qi1 hx5;replace hA1:=be.ext hA1 hx5;replace hX:=aS hX hx5;have s0_e2:=ho4 0 rfl s0_e1;have s1_e2:=ho4 1 rfl s1_e1;have s2_e2:=ho4 2 rfl s2_e1;have s7_e2:=ho4 7 rfl s7_e1;have s38_e2:fx w6 (e2 38) (ρu i) r:=hf2 7 rfl;have s46_e2:fx w6 (e2 46) (ρu j) r:=hf2 15 rfl;have s47_e2:e2 47=_:=hf2 16 rfl;refine RL.x rfl rfl (cT nW (cS rfl rfl s47_e2) (oF _ _ _ _ _ _ _ _ _ _ _ _ (bF s38_e2 w6) (bF s46_e2 w6) qi1 (cD.row (i:=i) hMu (by omega)) (cD.row (i:=j) hMu (by omega)) (fun e=>absurd (cD.inj hMu (by omega) (by omega) e) hij) (by omega) hfU)) ?_;rintro _ w8 ⟨hk2,hN2⟩;have hR2:=cD.row (i:=i) hMu (by omega);replace hG:=aT hG hk2 hR2 (by decide);replace hMm:=aX hMm hk2 hR2 (fun ii hii=>dmu ii i hii (by omega));replace hMv:=aX hMv hk2 hR2 (fun ii hii=>Ne.symm (duv i ii (by omega) hii));replace hk:=bZ hk hk2 hR2;replace qi1:=bZ qi1 hk2 hR2;replace hA1:=hA1.keep hk2 (Ne.symm (ne4 i (by omega)));replace hX:=hX.step hk2 (fun b e=>by subst e;exact (.inl (dh (i:=i) h0u (by omega))));replace hMu:=cD.setRow (i:=i) hMu (by omega) hk2 hN2;refine RL.nil ?_;refine ab ?_;refine RL.p rfl rfl (cI.move s0_e2) ?_;refine RL.p rfl rfl (cI.nilCheck rfl) ?_;refine RL.p rfl rfl (cI.fieldAddr ko rfl) ?_;refine RL.p rfl rfl (cI.fieldAddr aq rfl) ?_;refine RL.p rfl rfl (cI.load aH rfl (hG.at_ (i:=8) rfl rfl)) ?_;refine RL.p rfl rfl (cI.len aB rfl) ?_;refine RL.p rfl rfl (cI.move rfl) ?_;refine RL.nil ?_;refine WP.block ?_;refine WP.loop (fun mz ez uz=>∃a:Nat,(mz=r - a)∧(ez 1= .int .i64 ((i:Nat)))∧(ez 2= .int .i64 ((j:Nat)))∧(ez 7= .pointer (some ⟨g1,0,none⟩))∧(ez 53= .slice (some ⟨hv,0,none⟩) (r) (kv))∧(ez 54= .int .i64 ((r:Nat)))∧(ez 55= .int .i64 ((a:Nat)))∧(a≤r)∧(Keeps (dx B w) w uz)∧(be uz gw 74 9 (bS [.int .i64 ((r:Nat)),.int .i64 ((c:Nat)),.slice (some ⟨hm,0,none⟩) (r) (km),.int .i64 ((r:Nat)),.int .i64 ((r:Nat)),.slice (some ⟨hu,0,none⟩) (r) (ku),.int .i64 ((r:Nat)),.int .i64 ((r:Nat)),.slice (some ⟨hv,0,none⟩) (r) (kv)]))∧(cD uz B hm km r c ρm (setRow M i (fun c=>M i c + zk*M j c)) b)∧(cD uz B hu ku r r ρu (setRow U i (fun c=>U i c + zk*U j c)) b)∧(cD uz B hv kv r r ρv (en V (dR V i j zk) a) b)∧(al uz k zk btk)∧(al uz (.agg #[ca1,cb1]:Value) zk btk)∧(be uz g1 49 2 (bS [ca1,cb1]))) (r - 0) ?_ ?_
  · exact ⟨0,rfl,s1_e2,s2_e2,s7_e2,rfl,rfl,rfl,(by omega),hX,hG,hMm,hMu,bA hMv (eT V (dR V i j zk)).symm,hk,qi1,hA1⟩
  rintro m1 e3 w9 ⟨a,hm1,s1_e3,s2_e3,s7_e3,s53_e3,s54_e3,s55_e3,ha,hX1,hG,hMm,hMu,hMv,hk,qi1,hA1⟩;refine ab ?_;refine RL.p rfl rfl (cI.lss s55_e3 s54_e3) ?_;refine RL.nil ?_;refine WP.seq ?_;refine ag (((a:Nat):Int)<((r:Nat):Int)) rfl (fun c56=> ?_) (fun c56=> ?_)
  ·
   refine WP.skip ?_;refine pR.norm ?_;refine WP.seq ?_;refine WP.block ?_;refine ab ?_;refine RL.p rfl rfl (cI.index (j:=a) aB s53_e3 s55_e3 rfl (by omega) (by omega)) ?_;refine RL.x rfl rfl (an (i:=a) aU rfl hMv (by omega)) ?_;rintro v1 _ ⟨rfl,q1⟩;refine RL.p rfl rfl (cI.assign rfl) ?_;refine RL.nil ?_;refine WP.ds am 14 [_,_,_,_,_,_,_,_,_,_,_,_,_,_] rfl rfl (fun e_ w_ BH BG=>⟨fun _=>aa (cI.move ((BG 9 rfl rfl))),fun _=>aa (cI.move ((BG 2 rfl s2_e3))),fun _=>aa (cI.move ((BG 9 rfl rfl))),fun _=>aa (cI.move ((BG 2 rfl s2_e3))),fun BF=>aa (av (j:=j) bi (bF q1 w_) (BF 2 rfl) (BF 3 rfl) (by omega) (by omega)),fun BF=>ah (aP (j:=j) ao (BF 4 rfl) (cD.row (cD.ext hMv BH) (by omega)) (by omega)),fun _=>aa (af [ca1,cb1] ao ((BG 7 rfl s7_e3)) ((be.ext hA1 BH).cells 0 _ rfl rfl)),fun _=>aa (cI.move ((BG 9 rfl rfl))),fun _=>aa (cI.move ((BG 1 rfl s1_e3))),fun BF=>aa (av (j:=i) bi (bF q1 w_) (BF 7 rfl) (BF 8 rfl) (by omega) (by omega)),fun BF=>ah (aP (j:=i) ao (BF 9 rfl) (cD.row (cD.ext hMv BH) (by omega)) (by omega)),fun BF=>dj.call qh (ax ((BF 6 rfl)) rfl) (ri _ _ _ _ _ _ _ ((btk) + (b)) ((al.ext qi1 BH)) ((BF 10 rfl)) (by omega) (by omega)),fun BF=>dj.call Ac (ax rfl rfl) (A7 _ _ _ _ _ _ _ (max (b) ((btk) + (b)) + 1) ((BF 5 rfl)) ((BF 11 rfl)) (by omega) (by omega) (by omega)),fun BF=>aa (av (j:=j) bi (bF q1 w_) (BF 0 rfl) (BF 1 rfl) (by omega) (by omega)),trivial⟩) ?_;intro e4 w10 hx7 ho5 hf3;replace hG:=be.ext hG hx7;replace hMm:=cD.ext hMm hx7;replace hMu:=cD.ext hMu hx7;replace hMv:=cD.ext hMv hx7;replace hk:=al.ext hk hx7;replace qi1:=al.ext qi1 hx7;replace hA1:=be.ext hA1 hx7;replace hX1:=aS hX1 hx7;have s1_e4:=ho5 1 rfl s1_e3;have s2_e4:=ho5 2 rfl s2_e3;have s7_e4:=ho5 7 rfl s7_e3;have s53_e4:=ho5 53 rfl s53_e3;have s54_e4:=ho5 54 rfl s54_e3;have s55_e4:=ho5 55 rfl s55_e3;have s71_e4:al w10 (e4 71) (((en V (dR V i j zk) a) a j:Int) - ((zk:Int)*((en V (dR V i j zk) a) a i:Int):Int)) (max (b) ((btk) + (b)) + 1):=hf3 12 rfl;have s72_e4:e4 72=_:=hf3 13 rfl;refine RL.x rfl rfl (bM (i:=a) (j:=j) aN s72_e4 rfl (al.eq s71_e4 (by rw [dt,dt]) (hfV a (by omega)) (by omega)) hMv (by omega) (by omega)) ?_;rintro _ w11 ⟨hk3,hN3⟩;have hR3:=cD.row (i:=a) hMv (by omega);replace hG:=aT hG hk3 hR3 (by decide);replace hMm:=aX hMm hk3 hR3 (fun ii hii=>dmv ii a hii (by omega));replace hMu:=aX hMu hk3 hR3 (fun ii hii=>duv ii a hii (by omega));replace hk:=bZ hk hk3 hR3;replace qi1:=bZ qi1 hk3 hR3;replace hA1:=hA1.keep hk3 (Ne.symm (ne6 a (by omega)));replace hX1:=hX1.step hk3 (fun b e=>by subst e;exact (.inl (dh (i:=a) h0v (by omega))));replace hMv:=hN3;clear hR3;refine RL.nil ?_;refine jm.norm ?_;refine pR.norm ?_;refine WP.region ?_;refine RL.p rfl rfl (cI.add (c:=((a + 1:Nat):Int)) s55_e4 rfl (bU (by omega))) ?_;refine RL.p rfl rfl (cI.move rfl) ?_;refine RL.nil ?_;refine pR.norm ⟨_,(by omega),a + 1,rfl,s1_e4,s2_e4,s7_e4,s53_e4,s54_e4,rfl,(by omega),hX1,hG,hMm,hMu,bA hMv (gZ (by simp [dR]) (fun c hc=>by simp [dR,hc])),hk,qi1,hA1⟩
  ·
   refine WP.exit ?_;refine pR.exit ?_;refine pR.exit ?_;refine jm.same ?_;refine ⟨.tuple #[],Bb.zero,_,rfl,hX1,?_⟩;dsimp only;exact ⟨hm,hu,hv,km,ku,kv,_,_,_,hBg,hG,(bA hMm (li M i j zk)),(bA hMu (li U i j zk)),(cD.congr hMv (fun a c ha hc=>fM V _ c (by omega))),nmu,nmv,nuv,dmu,dmv,duv⟩
set_option maxRecDepth 10000 in
theorem za (w:World) (B gw r c:Nat) (M U V:Nat→Nat→Int) (b:Nat) (i:Nat) (j:Nat) (hW:bT 74 w B gw r c M U V b) (hi:i<r) (hj:j<r):Calls Tryz.prog 84 #[.pointer (some ⟨gw,0,none⟩),.int .i64 (i:Nat),.int .i64 (j:Nat)] w (ma (dx B w) w fun v w'=>bT 74 w' B gw r c (cE M i j) (cE U i j) (cY V i j) b):=by
 have hLIM:br=562949953421312:=rfl;obtain ⟨hm,hu,hv,km,ku,kv,ρm,ρu,ρv,hBg,hG,hMm,hMu,hMv,nmu,nmv,nuv,dmu,dmv,duv⟩:=hW;have hdm:=cD.dlim hMm;have hcm:=cD.clim hMm;have hdu:=cD.dlim hMu;have hdv:=cD.dlim hMv;have h0m:=hMm;have h0u:=hMu;have h0v:=hMv;refine ak (N:=93) (rs:= #[]) Tryz.func84 rfl rfl rfl (Nat.le_of_ble_eq_true rfl) ?_;have hX:Keeps (dx B w) w w:=Keeps.refl _ w;refine gb am 29 [_,_,_,_,_,_,_,_,_,_,_,_,_,_,_,_,_,_,_,_,_,_,_,_,_,_,_,_,_] (Apart.of (fun _ _ _=>False) [] rfl ⟨(fun h=>by cases h),(fun h=>by cases h),(fun h=>by cases h),(fun h=>by cases h),(fun h=>by cases h),(fun h=>by cases h),(fun h=>by cases h),(fun h=>by cases h),(fun h=>by cases h),(fun h=>by cases h),(fun h=>by cases h),(fun h=>by cases h),(fun h=>by cases h),(fun h=>by cases h),(fun h=>by cases h),(fun h=>by cases h),(fun h=>by cases h),(fun h=>by cases h),(fun h=>by cases h),(fun h=>by cases h),(fun h=>by cases h),(fun h=>by cases h),(fun h=>by cases h),(fun h=>by cases h),(fun h=>by cases h),(fun h=>by cases h),(fun h=>by cases h),(fun h=>by cases h),(fun h=>by cases h),trivial⟩) 11 (vk:= .int .i64 ((j:Nat))) rfl rfl rfl (by kernel_rfl) (by kernel_rfl) (by kernel_rfl) (by kernel_rfl) rfl rfl ⟨ac _,ac _,ac _,ac _,ac _,ac _,ac _,ac _,ac _,ac _,ac _,ac _,ac _,ac _,ac _,ac _,ac _,ac _,ac _,cm _ _,ac _,ac _,ac _,ac _,ac _,ac _,ac _,cm _ _,ac _,trivial⟩ ⟨fun e_ w_ BH BG BF=>aM rfl (aa (cI.move (((BG 0 rfl).trans rfl)))),fun e_ w_ BH BG BF=>aM rfl (aa (cI.nilCheck ((BF 0 rfl)))),fun e_ w_ BH BG BF=>aM rfl (aa (cI.fieldAddr cQ ((BF 1 rfl)))),fun e_ w_ BH BG BF=>aM rfl (aa (cI.fieldAddr aq ((BF 2 rfl)))),fun e_ w_ BH BG BF=>aM rfl (aa (cI.load aH ((BF 3 rfl)) ((be.ext hG BH).at_ (i:=2) rfl rfl))),fun e_ w_ BH BG BF=>aM rfl (aa (cI.move (((BG 1 rfl).trans rfl)))),fun e_ w_ BH BG BF=>aM rfl (aa (cI.move (((BG 0 rfl).trans rfl)))),fun e_ w_ BH BG BF=>aM rfl (aa (cI.nilCheck ((BF 6 rfl)))),fun e_ w_ BH BG BF=>aM rfl (aa (cI.fieldAddr cQ ((BF 7 rfl)))),fun e_ w_ BH BG BF=>aM rfl (aa (cI.fieldAddr aq ((BF 8 rfl)))),fun e_ w_ BH BG BF=>aM rfl (aa (cI.load aH ((BF 9 rfl)) ((be.ext hG BH).at_ (i:=2) rfl rfl))),fun e_ w_ BH BG BF=>aM rfl (aa (cI.move (((BG 2 rfl).trans rfl)))),fun e_ w_ BH BG BF=>aM rfl (aa (cI.move (((BG 0 rfl).trans rfl)))),fun e_ w_ BH BG BF=>aM rfl (aa (cI.nilCheck ((BF 12 rfl)))),fun e_ w_ BH BG BF=>aM rfl (aa (cI.fieldAddr cQ ((BF 13 rfl)))),fun e_ w_ BH BG BF=>aM rfl (aa (cI.fieldAddr aq ((BF 14 rfl)))),fun e_ w_ BH BG BF=>aM rfl (aa (cI.load aH ((BF 15 rfl)) ((be.ext hG BH).at_ (i:=2) rfl rfl))),fun e_ w_ BH BG BF=>aM rfl (aa (cI.move (((BG 2 rfl).trans rfl)))),fun e_ w_ BH BG BF=>aM rfl (aa (cI.index (j:=j) aB ((BF 16 rfl)) ((BF 17 rfl)) rfl (by omega) (by omega))),fun e_ w_ BH BG BF=>aM rfl (ah (an (i:=j) aU (BF 18 rfl) (cD.ext hMm BH) (by omega))),fun e_ w_ BH BG BF=>aM rfl (aa (cI.move (((BG 0 rfl).trans rfl)))),fun e_ w_ BH BG BF=>aM rfl (aa (cI.nilCheck ((BF 20 rfl)))),fun e_ w_ BH BG BF=>aM rfl (aa (cI.fieldAddr cQ ((BF 21 rfl)))),fun e_ w_ BH BG BF=>aM rfl (aa (cI.fieldAddr aq ((BF 22 rfl)))),fun e_ w_ BH BG BF=>aM rfl (aa (cI.load aH ((BF 23 rfl)) ((be.ext hG BH).at_ (i:=2) rfl rfl))),fun e_ w_ BH BG BF=>aM rfl (aa (cI.move (((BG 1 rfl).trans rfl)))),fun e_ w_ BH BG BF=>aM rfl (aa (cI.index (j:=i) aB ((BF 24 rfl)) ((BF 25 rfl)) rfl (by omega) (by omega))),fun e_ w_ BH BG BF=>aM rfl (ah (an (i:=i) aU (BF 26 rfl) (cD.ext hMm BH) (by omega))),fun e_ w_ BH BG BF=>aM rfl (aa (cI.index (j:=i) aB ((BF 4 rfl)) ((BF 5 rfl)) rfl (by omega) (by omega))),trivial⟩ (fun _=>cI.move rfl) (fun _=>rfl) (fw rfl) ?_;intro e1 w1 hx1 ho1 hf1 hp1;replace hG:=be.ext hG hx1;replace hMm:=cD.ext hMm hx1;replace hMu:=cD.ext hMu hx1;replace hMv:=cD.ext hMv hx1;replace hX:=aS hX hx1;have s0_e1:e1 0= .pointer (some ⟨gw,0,none⟩):=(ho1 0 rfl).trans rfl;have s1_e1:e1 1= .int .i64 ((i:Nat)):=(ho1 1 rfl).trans rfl;have s2_e1:e1 2= .int .i64 ((j:Nat)):=(ho1 2 rfl).trans rfl;have s18_e1:e1 18=_:=hf1 10 rfl;have s19_e1:e1 19=_:=hf1 11 rfl;have s27_e1:fx w1 (e1 27) (ρm j) c:=hf1 19 rfl;have s35_e1:fx w1 (e1 35) (ρm i) c:=hf1 27 rfl;have s36_e1:e1 36=_:=hf1 28 rfl;obtain ⟨fh1,hH1⟩:=cD.split hMm;refine RL.x rfl rfl (cK (i:=i) (g:=(ρm j)) (n:=c) (f:=fh1) gf s36_e1 rfl (bF s27_e1 w1) hH1 (by omega)) ?_;rintro _ w2 ⟨hk1,hN1⟩;have hMo1:=hMm;have hH01:=hH1;replace hG:=hG.keep hk1 (hG.ne hH01 (by decide));replace hMu:=bW hMu hk1 hH01 (Ne.symm nmu);replace hMv:=bW hMv hk1 hH01 (Ne.symm nmv);replace hX:=hX.step hk1 (fun b e=>by subst e;exact (.inl (dS h0m)));refine RL.p rfl rfl (cI.index (j:=j) aB s18_e1 s19_e1 rfl (by omega) (by omega)) ?_;refine RL.x rfl rfl (cK (i:=j) (g:=(ρm i)) (n:=c) (f:=(dZ fh1 (0 + i*1) [(e1 27)])) gf rfl rfl (bF s35_e1 w2) hN1 (by omega)) ?_;rintro _ w3 ⟨hk2,hN2⟩;have hH02:=hN1;replace hG:=hG.keep hk2 (hG.ne hH02 (by decide));replace hMu:=bW hMu hk2 hH02 (Ne.symm nmu);replace hMv:=bW hMv hk2 hH02 (Ne.symm nmv);replace hX:=hX.step hk2 (fun b e=>by subst e;exact (.inl (dS h0m)));have hk3:=hk1.step hk2 (fun b e=> .inl e);have hMm:=fz (i:=i) (j:=j) hMo1 hH1 hk3 hN2 (bF s27_e1 w1) (bF s35_e1 w2) (by omega) (by omega);replace dmu:=gO (i:=i) (j:=j) dmu (by omega) (by omega);replace dmv:=gO (i:=i) (j:=j) dmv (by omega) (by omega);refine RL.nil ?_;refine gb am 29 [_,_,_,_,_,_,_,_,_,_,_,_,_,_,_,_,_,_,_,_,_,_,_,_,_,_,_,_,_] (Apart.of (fun _ _ _=>False) [] rfl ⟨(fun h=>by cases h),(fun h=>by cases h),(fun h=>by cases h),(fun h=>by cases h),(fun h=>by cases h),(fun h=>by cases h),(fun h=>by cases h),(fun h=>by cases h),(fun h=>by cases h),(fun h=>by cases h),(fun h=>by cases h),(fun h=>by cases h),(fun h=>by cases h),(fun h=>by cases h),(fun h=>by cases h),(fun h=>by cases h),(fun h=>by cases h),(fun h=>by cases h),(fun h=>by cases h),(fun h=>by cases h),(fun h=>by cases h),(fun h=>by cases h),(fun h=>by cases h),(fun h=>by cases h),(fun h=>by cases h),(fun h=>by cases h),(fun h=>by cases h),(fun h=>by cases h),(fun h=>by cases h),trivial⟩) 11 (vk:= .int .i64 ((j:Nat))) rfl rfl rfl (by kernel_rfl) (by kernel_rfl) (by kernel_rfl) (by kernel_rfl) rfl rfl ⟨ac _,ac _,ac _,ac _,ac _,ac _,ac _,ac _,ac _,ac _,ac _,ac _,ac _,ac _,ac _,ac _,ac _,ac _,ac _,cm _ _,ac _,ac _,ac _,ac _,ac _,ac _,ac _,cm _ _,ac _,trivial⟩ ⟨fun e_ w_ BH BG BF=>aM rfl (aa (cI.move (((BG 0 rfl).trans s0_e1)))),fun e_ w_ BH BG BF=>aM rfl (aa (cI.nilCheck ((BF 0 rfl)))),fun e_ w_ BH BG BF=>aM rfl (aa (cI.fieldAddr ea ((BF 1 rfl)))),fun e_ w_ BH BG BF=>aM rfl (aa (cI.fieldAddr aq ((BF 2 rfl)))),fun e_ w_ BH BG BF=>aM rfl (aa (cI.load aH ((BF 3 rfl)) ((be.ext hG BH).at_ (i:=5) rfl rfl))),fun e_ w_ BH BG BF=>aM rfl (aa (cI.move (((BG 1 rfl).trans s1_e1)))),fun e_ w_ BH BG BF=>aM rfl (aa (cI.move (((BG 0 rfl).trans s0_e1)))),fun e_ w_ BH BG BF=>aM rfl (aa (cI.nilCheck ((BF 6 rfl)))),fun e_ w_ BH BG BF=>aM rfl (aa (cI.fieldAddr ea ((BF 7 rfl)))),fun e_ w_ BH BG BF=>aM rfl (aa (cI.fieldAddr aq ((BF 8 rfl)))),fun e_ w_ BH BG BF=>aM rfl (aa (cI.load aH ((BF 9 rfl)) ((be.ext hG BH).at_ (i:=5) rfl rfl))),fun e_ w_ BH BG BF=>aM rfl (aa (cI.move (((BG 2 rfl).trans s2_e1)))),fun e_ w_ BH BG BF=>aM rfl (aa (cI.move (((BG 0 rfl).trans s0_e1)))),fun e_ w_ BH BG BF=>aM rfl (aa (cI.nilCheck ((BF 12 rfl)))),fun e_ w_ BH BG BF=>aM rfl (aa (cI.fieldAddr ea ((BF 13 rfl)))),fun e_ w_ BH BG BF=>aM rfl (aa (cI.fieldAddr aq ((BF 14 rfl)))),fun e_ w_ BH BG BF=>aM rfl (aa (cI.load aH ((BF 15 rfl)) ((be.ext hG BH).at_ (i:=5) rfl rfl))),fun e_ w_ BH BG BF=>aM rfl (aa (cI.move (((BG 2 rfl).trans s2_e1)))),fun e_ w_ BH BG BF=>aM rfl (aa (cI.index (j:=j) aB ((BF 16 rfl)) ((BF 17 rfl)) rfl (by omega) (by omega))),fun e_ w_ BH BG BF=>aM rfl (ah (an (i:=j) aU (BF 18 rfl) (cD.ext hMu BH) (by omega))),fun e_ w_ BH BG BF=>aM rfl (aa (cI.move (((BG 0 rfl).trans s0_e1)))),fun e_ w_ BH BG BF=>aM rfl (aa (cI.nilCheck ((BF 20 rfl)))),fun e_ w_ BH BG BF=>aM rfl (aa (cI.fieldAddr ea ((BF 21 rfl)))),fun e_ w_ BH BG BF=>aM rfl (aa (cI.fieldAddr aq ((BF 22 rfl)))),fun e_ w_ BH BG BF=>aM rfl (aa (cI.load aH ((BF 23 rfl)) ((be.ext hG BH).at_ (i:=5) rfl rfl))),fun e_ w_ BH BG BF=>aM rfl (aa (cI.move (((BG 1 rfl).trans s1_e1)))),fun e_ w_ BH BG BF=>aM rfl (aa (cI.index (j:=i) aB ((BF 24 rfl)) ((BF 25 rfl)) rfl (by omega) (by omega))),fun e_ w_ BH BG BF=>aM rfl (ah (an (i:=i) aU (BF 26 rfl) (cD.ext hMu BH) (by omega))),fun e_ w_ BH BG BF=>aM rfl (aa (cI.index (j:=i) aB ((BF 4 rfl)) ((BF 5 rfl)) rfl (by omega) (by omega))),trivial⟩ (fun _=>cI.move s2_e1) (fun _=>rfl) (fw rfl) ?_;intro e2 w4 hx2 ho2 hf2 hp2;replace hG:=be.ext hG hx2;replace hMm:=cD.ext hMm hx2;replace hMu:=cD.ext hMu hx2;replace hMv:=cD.ext hMv hx2;replace hX:=aS hX hx2;have s0_e2:e2 0= .pointer (some ⟨gw,0,none⟩):=(ho2 0 rfl).trans s0_e1;have s1_e2:e2 1= .int .i64 ((i:Nat)):=(ho2 1 rfl).trans s1_e1;have s2_e2:e2 2= .int .i64 ((j:Nat)):=(ho2 2 rfl).trans s2_e1;have s48_e2:e2 48=_:=hf2 10 rfl;have s49_e2:e2 49=_:=hf2 11 rfl;have s57_e2:fx w4 (e2 57) (ρu j) r:=hf2 19 rfl;have s65_e2:fx w4 (e2 65) (ρu i) r:=hf2 27 rfl;have s66_e2:e2 66=_:=hf2 28 rfl;obtain ⟨fh2,hH2⟩:=cD.split hMu;refine RL.x rfl rfl (cK (i:=i) (g:=(ρu j)) (n:=r) (f:=fh2) gf s66_e2 rfl (bF s57_e2 w4) hH2 (by omega)) ?_;rintro _ w5 ⟨hk4,hN3⟩;have hMo2:=hMu;have hH03:=hH2;replace hG:=hG.keep hk4 (hG.ne hH03 (by decide));replace hMm:=bW hMm hk4 hH03 nmu;replace hMv:=bW hMv hk4 hH03 (Ne.symm nuv);replace hX:=hX.step hk4 (fun b e=>by subst e;exact (.inl (dS h0u)));refine RL.p rfl rfl (cI.index (j:=j) aB s48_e2 s49_e2 rfl (by omega) (by omega)) ?_;refine RL.x rfl rfl (cK (i:=j) (g:=(ρu i)) (n:=r) (f:=(dZ fh2 (0 + i*1) [(e2 57)])) gf rfl rfl (bF s65_e2 w5) hN3 (by omega)) ?_;rintro _ w6 ⟨hk5,hN4⟩;have hH04:=hN3;replace hG:=hG.keep hk5 (hG.ne hH04 (by decide));replace hMm:=bW hMm hk5 hH04 nmu;replace hMv:=bW hMv hk5 hH04 (Ne.symm nuv);replace hX:=hX.step hk5 (fun b e=>by subst e;exact (.inl (dS h0u)));have hk6:=hk4.step hk5 (fun b e=> .inl e);have hMu:=fz (i:=i) (j:=j) hMo2 hH2 hk6 hN4 (bF s57_e2 w4) (bF s65_e2 w5) (by omega) (by omega);replace dmu:=qo (i:=i) (j:=j) dmu (by omega) (by omega);replace duv:=gO (i:=i) (j:=j) duv (by omega) (by omega);refine RL.nil ?_;refine ab ?_;refine RL.p rfl rfl (cI.move s0_e2) ?_;refine RL.p rfl rfl (cI.nilCheck rfl) ?_;refine RL.p rfl rfl (cI.fieldAddr ko rfl) ?_;refine RL.p rfl rfl (cI.fieldAddr aq rfl) ?_;refine RL.p rfl rfl (cI.load aH rfl (hG.at_ (i:=8) rfl rfl)) ?_;refine RL.p rfl rfl (cI.len aB rfl) ?_;refine RL.p rfl rfl (cI.move rfl) ?_;refine RL.nil ?_;refine WP.block ?_;refine WP.loop (fun mz ez uz=>∃a:Nat,(mz=r - a)∧(ez 1= .int .i64 ((i:Nat)))∧(ez 2= .int .i64 ((j:Nat)))∧(ez 72= .slice (some ⟨hv,0,none⟩) (r) (kv))∧(ez 73= .int .i64 ((r:Nat)))∧(ez 74= .int .i64 ((a:Nat)))∧(a≤r)∧(Keeps (dx B w) w uz)∧(be uz gw 74 9 (bS [.int .i64 ((r:Nat)),.int .i64 ((c:Nat)),.slice (some ⟨hm,0,none⟩) (r) (km),.int .i64 ((r:Nat)),.int .i64 ((r:Nat)),.slice (some ⟨hu,0,none⟩) (r) (ku),.int .i64 ((r:Nat)),.int .i64 ((r:Nat)),.slice (some ⟨hv,0,none⟩) (r) (kv)]))∧(cD uz B hm km r c (fQ ρm i j) (cE M i j) b)∧(cD uz B hu ku r r (fQ ρu i j) (cE U i j) b)∧(cD uz B hv kv r r ρv (en V (cY V i j) a) b)) (r - 0) ?_ ?_
 · exact ⟨0,rfl,s1_e2,s2_e2,rfl,rfl,rfl,(by omega),hX,hG,hMm,hMu,bA hMv (eT V (cY V i j)).symm⟩
 rintro m1 e3 w7 ⟨a,hm1,s1_e3,s2_e3,s72_e3,s73_e3,s74_e3,ha,hX1,hG,hMm,hMu,hMv⟩;refine ab ?_;refine RL.p rfl rfl (cI.lss s74_e3 s73_e3) ?_;refine RL.nil ?_;refine WP.seq ?_;refine ag (((a:Nat):Int)<((r:Nat):Int)) rfl (fun c75=> ?_) (fun c75=> ?_)
 ·
  refine WP.skip ?_;refine pR.norm ?_;refine WP.seq ?_;refine WP.block ?_;refine ab ?_;refine RL.p rfl rfl (cI.index (j:=a) aB s72_e3 s74_e3 rfl (by omega) (by omega)) ?_;refine RL.x rfl rfl (an (i:=a) aU rfl hMv (by omega)) ?_;rintro v1 _ ⟨rfl,q1⟩;refine RL.p rfl rfl (cI.assign rfl) ?_;refine RL.nil ?_;refine xc am 13 [_,_,_,_,_,_,_,_,_,_,_,_,_] (Apart.of (fun _ _ _=>False) [] rfl ⟨(fun h=>by cases h),(fun h=>by cases h),(fun h=>by cases h),(fun h=>by cases h),(fun h=>by cases h),(fun h=>by cases h),(fun h=>by cases h),(fun h=>by cases h),(fun h=>by cases h),(fun h=>by cases h),(fun h=>by cases h),(fun h=>by cases h),(fun h=>by cases h),trivial⟩) [2,3] [v1,.int .i64 ((j:Nat))] (by kernel_rfl) (by kernel_rfl) (by kernel_rfl) rfl ⟨ac _,ac _,ac _,ac _,ac _,ac _,ac _,bD _ _,ac _,ac _,ac _,bD _ _,ac _,trivial⟩ ⟨fun e_ w_ BH BG BF=>aM rfl (aa (cI.move (((BG 7 rfl).trans rfl)))),fun e_ w_ BH BG BF=>aM rfl (aa (cI.move (((BG 1 rfl).trans s1_e3)))),fun e_ w_ BH BG BF=>aM rfl (aa (cI.move (((BG 7 rfl).trans rfl)))),fun e_ w_ BH BG BF=>aM rfl (aa (cI.move (((BG 2 rfl).trans s2_e3)))),fun e_ w_ BH BG BF=>aM rfl (aa (cI.move (((BG 7 rfl).trans rfl)))),fun e_ w_ BH BG BF=>aM rfl (aa (cI.move (((BG 2 rfl).trans s2_e3)))),fun e_ w_ BH BG BF=>aM rfl (aa (av (j:=j) bi (bF q1 w_) (BF 4 rfl) (BF 5 rfl) (by omega) (by omega))),fun e_ w_ BH BG BF=>aM rfl (ah (aP (j:=j) ao (BF 6 rfl) (cD.row (cD.ext hMv BH) (by omega)) (by omega))),fun e_ w_ BH BG BF=>aM rfl (aa (cI.move (((BG 7 rfl).trans rfl)))),fun e_ w_ BH BG BF=>aM rfl (aa (cI.move (((BG 1 rfl).trans s1_e3)))),fun e_ w_ BH BG BF=>aM rfl (aa (av (j:=i) bi (bF q1 w_) (BF 8 rfl) (BF 9 rfl) (by omega) (by omega))),fun e_ w_ BH BG BF=>aM rfl (ah (aP (j:=i) ao (BF 10 rfl) (cD.row (cD.ext hMv BH) (by omega)) (by omega))),fun e_ w_ BH BG BF=>aM rfl (aa (av (j:=i) bi (bF q1 w_) (BF 0 rfl) (BF 1 rfl) (by omega) (by omega))),trivial⟩ ⟨⟨rfl,⟨_,rfl,fun w_ e_ BG=>cI.move (((BG 7 rfl).trans rfl))⟩,fun _=>rfl,fw rfl⟩,⟨rfl,⟨_,rfl,fun w_ e_ BG=>cI.move (((BG 2 rfl).trans s2_e3))⟩,fun _=>rfl,fw rfl⟩,trivial⟩ rfl ?_;intro e4 w8 hx3 ho3 hf3 hp3;replace hG:=be.ext hG hx3;replace hMm:=cD.ext hMm hx3;replace hMu:=cD.ext hMu hx3;replace hMv:=cD.ext hMv hx3;replace q1:=fx.ext q1 hx3;replace hX1:=aS hX1 hx3;have s1_e4:e4 1= .int .i64 ((i:Nat)):=(ho3 1 rfl).trans s1_e3;have s2_e4:e4 2= .int .i64 ((j:Nat)):=(ho3 2 rfl).trans s2_e3;have s72_e4:e4 72= .slice (some ⟨hv,0,none⟩) (r) (kv):=(ho3 72 rfl).trans s72_e3;have s73_e4:e4 73= .int .i64 ((r:Nat)):=(ho3 73 rfl).trans s73_e3;have s74_e4:e4 74= .int .i64 ((a:Nat)):=(ho3 74 rfl).trans s74_e3;have s80_e4:e4 80=_:=hf3 2 rfl;have s81_e4:e4 81=_:=hf3 3 rfl;have s85_e4:al w8 (e4 85) ((en V (cY V i j) a) a j) b:=hf3 7 rfl;have s89_e4:al w8 (e4 89) ((en V (cY V i j) a) a i) b:=hf3 11 rfl;have s90_e4:e4 90=_:=hf3 12 rfl;refine RL.x rfl rfl (bM (i:=a) (j:=i) aN s90_e4 rfl s85_e4 hMv (by omega) (by omega)) ?_;rintro _ w9 ⟨hk7,hN5⟩;have hR1:=cD.row (i:=a) hMv (by omega);replace hG:=aT hG hk7 hR1 (by decide);replace hMm:=aX hMm hk7 hR1 (fun ii hii=>dmv ii a hii (by omega));replace hMu:=aX hMu hk7 hR1 (fun ii hii=>duv ii a hii (by omega));replace s89_e4:=bZ s89_e4 hk7 hR1;replace hX1:=hX1.step hk7 (fun b e=>by subst e;exact (.inl (dh (i:=a) h0v (by omega))));replace hMv:=hN5;clear hR1;refine RL.p rfl rfl (av (j:=j) bi (bF q1 w9) s80_e4 s81_e4 (by omega) (by omega)) ?_;refine RL.x rfl rfl (bM (i:=a) (j:=j) aN rfl rfl s89_e4 hMv (by omega) (by omega)) ?_;rintro _ w10 ⟨hk8,hN6⟩;have hR2:=cD.row (i:=a) hMv (by omega);replace hG:=aT hG hk8 hR2 (by decide);replace hMm:=aX hMm hk8 hR2 (fun ii hii=>dmv ii a hii (by omega));replace hMu:=aX hMu hk8 hR2 (fun ii hii=>duv ii a hii (by omega));replace hX1:=hX1.step hk8 (fun b e=>by subst e;exact (.inl (dh (i:=a) h0v (by omega))));replace hMv:=hN6;clear hR2;refine RL.nil ?_;refine jm.norm ?_;refine pR.norm ?_;refine WP.region ?_;refine RL.p rfl rfl (cI.add (c:=((a + 1:Nat):Int)) s74_e4 rfl (bU (by omega))) ?_;refine RL.p rfl rfl (cI.move rfl) ?_;refine RL.nil ?_;refine pR.norm ⟨_,(by omega),a + 1,rfl,s1_e4,s2_e4,s72_e4,s73_e4,rfl,(by omega),hX1,hG,hMm,hMu,bA hMv (lL (fun h=>by rw [dt];simp [cY]) (by rw [dt];by_cases e:j=i<;>simp [cY,e]) (fun c h1 h2=>by simp [cY,h1,h2]))⟩
 ·
  refine WP.exit ?_;refine pR.exit ?_;refine pR.exit ?_;refine jm.same ?_;refine ⟨.tuple #[],Bb.zero,_,rfl,hX1,?_⟩;dsimp only;exact ⟨hm,hu,hv,km,ku,kv,_,_,_,hBg,hG,hMm,hMu,(cD.congr hMv (fun a c ha hc=>fM V _ c (by omega))),nmu,nmv,nuv,dmu,dmv,duv⟩
set_option maxRecDepth 10000 in
theorem uG (w:World) (B gw r c:Nat) (M U V:Nat→Nat→Int) (b:Nat) (i:Nat) (hW:bT 74 w B gw r c M U V b) (hi:i<r) (hc:0<c) (hb:b + 4≤br):Calls Tryz.prog 85 #[.pointer (some ⟨gw,0,none⟩),.int .i64 (i:Nat)] w (ma (dx B w) w fun v w'=>bT 74 w' B gw r c (dq M i) (dq U i) (eJ V i) b):=by
 have hLIM:br=562949953421312:=rfl;obtain ⟨hm,hu,hv,km,ku,kv,ρm,ρu,ρv,hBg,hG,hMm,hMu,hMv,nmu,nmv,nuv,dmu,dmv,duv⟩:=hW;have hdm:=cD.dlim hMm;have hcm:=cD.clim hMm;have hdu:=cD.dlim hMu;have hdv:=cD.dlim hMv;have h0m:=hMm;have h0u:=hMu;have h0v:=hMv;have h0G:=hG;have hbM:=fun a (ha:a<c)=>cD.bd hMm hi ha
 have hbU:=fun a (ha:a<r)=>cD.bd hMu hi ha
 refine ak (N:=95) (rs:= #[]) Tryz.func85 rfl rfl rfl (Nat.le_of_ble_eq_true rfl) ?_;have hX:Keeps (dx B w) w w:=Keeps.refl _ w;refine ab ?_;refine RL.x rfl rfl (dj.call qj (aI rfl) (wW (-2) (2) _ (by decide) (by decide) (by decide))) ?_;rintro v1 w1 ⟨hx1,q1⟩;replace hG:=be.ext hG hx1;replace hMm:=cD.ext hMm hx1;replace hMu:=cD.ext hMu hx1;replace hMv:=cD.ext hMv hx1;replace hX:=aS hX hx1;refine RL.x rfl rfl (dj.alloc [.bool (false),.slice (none) (0) (0)] bH rfl) ?_;rintro _ w2 ⟨g1,rfl,hge1,hx2,hA1⟩;have ne1:gw≠g1:=Nat.ne_of_lt (Nat.lt_of_lt_of_le hG.lt hge1);have ne2:∀ii,ii<r→ρm ii≠g1:=fun ii hi=>Nat.ne_of_lt (Nat.lt_of_lt_of_le (cD.rowlt hMm hi) hge1)
 have ne4:∀ii,ii<r→ρu ii≠g1:=fun ii hi=>Nat.ne_of_lt (Nat.lt_of_lt_of_le (cD.rowlt hMu hi) hge1)
 have ne6:∀ii,ii<r→ρv ii≠g1:=fun ii hi=>Nat.ne_of_lt (Nat.lt_of_lt_of_le (cD.rowlt hMv hi) hge1)
 have hbs1:w.heap.size≤g1:=Nat.le_trans hX.size hge1;replace hG:=be.ext hG hx2;replace hMm:=cD.ext hMm hx2;replace hMu:=cD.ext hMu hx2;replace hMv:=cD.ext hMv hx2;replace q1:=al.ext q1 hx2;replace hX:=aS hX hx2;obtain ⟨ca1,cb1,hq1,ho1,ho2⟩:=al.cells q1;have qi1:al w2 (.agg #[ca1,cb1]) (-2) 2:=hq1▸q1;refine RL.x rfl rfl (dj.store [ca1,cb1] aN rfl hq1 rfl hA1 (Nat.le_of_ble_eq_true rfl) (bj ho1 ho2)) ?_;rintro _ w3 ⟨hk1,hnew⟩;replace hMm:=em hMm hk1 hA1 ne2;replace hMu:=em hMu hk1 hA1 ne4;replace hMv:=em hMv hk1 hA1 ne6;replace hG:=hG.keep hk1 ne1;replace qi1:=ae qi1 hk1 hA1 (by decide);replace hX:=hX.step hk1 (fun b e=>by subst e;exact .inr hbs1);replace hA1:=hnew.lit [ca1,cb1] rfl;clear hnew;refine RL.nil ?_;have hXr:=hX;have hBw:B≤w.heap.size:=Nat.le_trans hBg (Nat.le_of_lt (h0G.lt));have hro_m:=fun ii (hi:ii<r)=>cD.rowlt hMm hi
 have hro_u:=fun ii (hi:ii<r)=>cD.rowlt hMu hi
 have hro_v:=fun ii (hi:ii<r)=>cD.rowlt hMv hi
 have hlt_g1:=hA1.lt;refine gb am 31 [_,_,_,_,_,_,_,_,_,_,_,_,_,_,_,_,_,_,_,_,fun v BI=>ee BI v w3.heap.size c (M i) b,_,_,_,_,_,_,_,_,fun v BI=>ee BI v w3.heap.size r (U i) b,_] (Apart.of (fun v _ b=>b=dl v) [(20,29)] rfl ⟨(fun h=>by cases h),(fun h=>by cases h),(fun h=>by cases h),(fun h=>by cases h),(fun h=>by cases h),(fun h=>by cases h),(fun h=>by cases h),(fun h=>by cases h),(fun h=>by cases h),(fun h=>by cases h),(fun h=>by cases h),(fun h=>by cases h),(fun h=>by cases h),(fun h=>by cases h),(fun h=>by cases h),(fun h=>by cases h),(fun h=>by cases h),(fun h=>by cases h),(fun h=>by cases h),(fun h=>by cases h),(fun _=>jD _ _ _ _),(fun h=>by cases h),(fun h=>by cases h),(fun h=>by cases h),(fun h=>by cases h),(fun h=>by cases h),(fun h=>by cases h),(fun h=>by cases h),(fun h=>by cases h),(fun _=>jD _ _ _ _),(fun h=>by cases h),trivial⟩) 11 (vk:= .int .i64 ((i:Nat))) rfl rfl rfl (by kernel_rfl) (by kernel_rfl) (by kernel_rfl) (by kernel_rfl) rfl rfl ⟨ac _,ac _,ac _,ac _,ac _,ac _,ac _,ac _,ac _,ac _,ac _,ac _,ac _,ac _,ac _,ac _,ac _,ac _,ac _,cm _ _,fp _ _ _ _,ac _,ac _,ac _,ac _,ac _,ac _,ac _,cm _ _,fp _ _ _ _,ac _,trivial⟩ ⟨fun e_ w_ BH BG BF=>aM rfl (aa (cI.move (((BG 0 rfl).trans rfl)))),fun e_ w_ BH BG BF=>aM rfl (aa (cI.nilCheck ((BF 0 rfl)))),fun e_ w_ BH BG BF=>aM rfl (aa (cI.fieldAddr cQ ((BF 1 rfl)))),fun e_ w_ BH BG BF=>aM rfl (aa (cI.fieldAddr aq ((BF 2 rfl)))),fun e_ w_ BH BG BF=>aM rfl (aa (cI.load aH ((BF 3 rfl)) ((be.ext hG BH).at_ (i:=2) rfl rfl))),fun e_ w_ BH BG BF=>aM rfl (aa (cI.move (((BG 1 rfl).trans rfl)))),fun e_ w_ BH BG BF=>aM rfl (aa (cI.move (((BG 0 rfl).trans rfl)))),fun e_ w_ BH BG BF=>aM rfl (aa (cI.nilCheck ((BF 6 rfl)))),fun e_ w_ BH BG BF=>aM rfl (aa (cI.fieldAddr ea ((BF 7 rfl)))),fun e_ w_ BH BG BF=>aM rfl (aa (cI.fieldAddr aq ((BF 8 rfl)))),fun e_ w_ BH BG BF=>aM rfl (aa (cI.load aH ((BF 9 rfl)) ((be.ext hG BH).at_ (i:=5) rfl rfl))),fun e_ w_ BH BG BF=>aM rfl (aa (cI.move (((BG 1 rfl).trans rfl)))),fun e_ w_ BH BG BF=>aM rfl (aa (cI.move (((BG 0 rfl).trans rfl)))),fun e_ w_ BH BG BF=>aM rfl (aa (cI.nilCheck ((BF 12 rfl)))),fun e_ w_ BH BG BF=>aM rfl (aa (cI.fieldAddr cQ ((BF 13 rfl)))),fun e_ w_ BH BG BF=>aM rfl (aa (cI.fieldAddr aq ((BF 14 rfl)))),fun e_ w_ BH BG BF=>aM rfl (aa (cI.load aH ((BF 15 rfl)) ((be.ext hG BH).at_ (i:=2) rfl rfl))),fun e_ w_ BH BG BF=>aM rfl (aa (cI.move (((BG 1 rfl).trans rfl)))),fun e_ w_ BH BG BF=>aM rfl (aa (cI.index (j:=i) aB ((BF 16 rfl)) ((BF 17 rfl)) rfl (by omega) (by omega))),fun e_ w_ BH BG BF=>aM rfl (ah (an (i:=i) aU (BF 18 rfl) (cD.ext hMm BH) (by omega))),fun e_ w_ BH BG BF=>dj.mono (dj.call tm (aI rfl) (qt _ _ _ _ _ (fx.rowV (w':=w_) (BF 19 rfl) (cD.row (i:=i) (cD.ext hMm BH) (by omega))) (by omega))) fun v BJ hv=>⟨hv.1,(by obtain ⟨g,h1,h2,h3⟩:=hv.2;exact ⟨g,h1,Nat.le_trans BH.size h2,h3⟩),dD fun b hb=>hb▸(by obtain ⟨g,h1,h2,h3⟩:=hv.2;rw [fu h1];exact h2)⟩,fun e_ w_ BH BG BF=>aM rfl (aa (cI.move (((BG 0 rfl).trans rfl)))),fun e_ w_ BH BG BF=>aM rfl (aa (cI.nilCheck ((BF 21 rfl)))),fun e_ w_ BH BG BF=>aM rfl (aa (cI.fieldAddr ea ((BF 22 rfl)))),fun e_ w_ BH BG BF=>aM rfl (aa (cI.fieldAddr aq ((BF 23 rfl)))),fun e_ w_ BH BG BF=>aM rfl (aa (cI.load aH ((BF 24 rfl)) ((be.ext hG BH).at_ (i:=5) rfl rfl))),fun e_ w_ BH BG BF=>aM rfl (aa (cI.move (((BG 1 rfl).trans rfl)))),fun e_ w_ BH BG BF=>aM rfl (aa (cI.index (j:=i) aB ((BF 25 rfl)) ((BF 26 rfl)) rfl (by omega) (by omega))),fun e_ w_ BH BG BF=>aM rfl (ah (an (i:=i) aU (BF 27 rfl) (cD.ext hMu BH) (by omega))),fun e_ w_ BH BG BF=>dj.mono (dj.call tm (aI rfl) (qt _ _ _ _ _ (fx.rowV (w':=w_) (BF 28 rfl) (cD.row (i:=i) (cD.ext hMu BH) (by omega))) (by omega))) fun v BJ hv=>⟨hv.1,(by obtain ⟨g,h1,h2,h3⟩:=hv.2;exact ⟨g,h1,Nat.le_trans BH.size h2,h3⟩),dD fun b hb=>hb▸(by obtain ⟨g,h1,h2,h3⟩:=hv.2;rw [fu h1];exact h2)⟩,fun e_ w_ BH BG BF=>aM rfl (aa (cI.index (j:=i) aB ((BF 4 rfl)) ((BF 5 rfl)) rfl (by omega) (by omega))),trivial⟩ (fun _=>cI.move rfl) (fun _=>rfl) (fw rfl) ?_;intro e1 w4 hx3 ho3 hf1 hp1;replace hG:=be.ext hG hx3;replace hA1:=be.ext hA1 hx3;replace qi1:=al.ext qi1 hx3;replace hMm:=cD.ext hMm hx3;replace hMu:=cD.ext hMu hx3;replace hMv:=cD.ext hMv hx3;replace hX:=aS hX hx3;have s0_e1:e1 0= .pointer (some ⟨gw,0,none⟩):=(ho3 0 rfl).trans rfl;have s1_e1:e1 1= .int .i64 ((i:Nat)):=(ho3 1 rfl).trans rfl;have s4_e1:e1 4= .pointer (some ⟨g1,0,none⟩):=(ho3 4 rfl).trans rfl;have s18_e1:e1 18=_:=hf1 10 rfl;have s19_e1:e1 19=_:=hf1 11 rfl;have s28_e1:ee w4 (e1 28) w3.heap.size c (M i) b:=hf1 20 rfl;have s37_e1:ee w4 (e1 37) w3.heap.size r (U i) b:=hf1 29 rfl;have s38_e1:e1 38=_:=hf1 30 rfl;obtain ⟨gc1,hSc1,hBc1,hRc1⟩:=s28_e1;obtain ⟨gc2,hSc2,hBc2,hRc2⟩:=s37_e1;have ne8:gc1≠gc2:=by
   have hd:=hp1 20 29 rfl rfl rfl rfl (dl (e1 28)) rfl;intro he
   apply hd
   show dl (e1 28)=dl (e1 37);rw [fu hSc1,fu hSc2];exact he
 have ne9:∀ii,ii<r→ρm ii≠gc1:=fun ii hi=>Nat.ne_of_lt (Nat.lt_of_lt_of_le (hro_m ii hi) hBc1)
 have ne10:∀ii,ii<r→ρu ii≠gc1:=fun ii hi=>Nat.ne_of_lt (Nat.lt_of_lt_of_le (hro_u ii hi) hBc1)
 have ne11:∀ii,ii<r→ρv ii≠gc1:=fun ii hi=>Nat.ne_of_lt (Nat.lt_of_lt_of_le (hro_v ii hi) hBc1)
 have hbs2:w.heap.size≤gc1:=Nat.le_trans hXr.size hBc1;have hbB1:B≤gc1:=Nat.le_trans hBw hbs2;have ne12:g1≠gc1:=Nat.ne_of_lt (Nat.lt_of_lt_of_le hlt_g1 hBc1);have ne13:∀ii,ii<r→ρm ii≠gc2:=fun ii hi=>Nat.ne_of_lt (Nat.lt_of_lt_of_le (hro_m ii hi) hBc2)
 have ne14:∀ii,ii<r→ρu ii≠gc2:=fun ii hi=>Nat.ne_of_lt (Nat.lt_of_lt_of_le (hro_u ii hi) hBc2)
 have ne15:∀ii,ii<r→ρv ii≠gc2:=fun ii hi=>Nat.ne_of_lt (Nat.lt_of_lt_of_le (hro_v ii hi) hBc2)
 have hbs3:w.heap.size≤gc2:=Nat.le_trans hXr.size hBc2;have hbB2:B≤gc2:=Nat.le_trans hBw hbs3;obtain ⟨fh1,hH1⟩:=cD.split hMm;refine RL.x rfl rfl (cK (i:=i) (g:=gc1) (n:=c) (f:=fh1) gf s38_e1 rfl (bF hSc1 w4) hH1 (by omega)) ?_;rintro _ w5 ⟨hk2,hN1⟩;have hMo1:=hMm;have hH01:=hH1;have hRo1:=hRc1;replace hG:=hG.keep hk2 (hG.ne hH01 (by decide));replace hA1:=hA1.keep hk2 (hA1.ne hH01 (by decide));replace qi1:=ae qi1 hk2 hH01 (by decide);replace hMu:=bW hMu hk2 hH01 (Ne.symm nmu);replace hMv:=bW hMv hk2 hH01 (Ne.symm nmv);replace hRc2:=pl hRc2 hk2 hH01;replace hX:=hX.step hk2 (fun b e=>by subst e;exact (.inl (dS h0m)));replace hMm:=pc hMo1 hH1 hk2 hN1 (bF hSc1 w4) hRo1 hbB1 ne9 (by omega);replace dmu:=mJ (i:=i) dmu ne10;replace dmv:=mJ (i:=i) dmv ne11;have ne17:=nS (i:=i) ne2 (Ne.symm ne12);have ne18:=nS (i:=i) ne13 ne8;refine RL.p rfl rfl (cI.index (j:=i) aB s18_e1 s19_e1 rfl (by omega) (by omega)) ?_;obtain ⟨fh2,hH2⟩:=cD.split hMu;refine RL.x rfl rfl (cK (i:=i) (g:=gc2) (n:=r) (f:=fh2) gf rfl rfl (bF hSc2 w5) hH2 (by omega)) ?_;rintro _ w6 ⟨hk3,hN2⟩;have hMo2:=hMu;have hH02:=hH2;have hRo2:=hRc2;replace hG:=hG.keep hk3 (hG.ne hH02 (by decide));replace hA1:=hA1.keep hk3 (hA1.ne hH02 (by decide));replace qi1:=ae qi1 hk3 hH02 (by decide);replace hMm:=bW hMm hk3 hH02 nmu;replace hMv:=bW hMv hk3 hH02 (Ne.symm nuv);replace hX:=hX.step hk3 (fun b e=>by subst e;exact (.inl (dS h0u)));replace hMu:=pc hMo2 hH2 hk3 hN2 (bF hSc2 w5) hRo2 hbB2 ne14 (by omega);replace dmu:=vB (i:=i) dmu ne18;replace duv:=mJ (i:=i) duv ne15;refine RL.nil ?_;refine aK am 17 [_,_,_,_,_,_,_,_,_,_,_,_,_,_,_,_,_] rfl rfl (fun e_ w_ BH BG=>⟨fun _=>aa (cI.move ((BG 0 rfl s0_e1))),fun BF=>aa (cI.nilCheck ((BF 0 rfl))),fun BF=>aa (cI.fieldAddr cQ ((BF 1 rfl))),fun BF=>aa (cI.fieldAddr aq ((BF 2 rfl))),fun BF=>aa (cI.load aH ((BF 3 rfl)) ((be.ext hG BH).at_ (i:=2) rfl rfl)),fun _=>aa (cI.move ((BG 1 rfl s1_e1))),fun BF=>aa (cI.index (j:=i) aB ((BF 4 rfl)) ((BF 5 rfl)) rfl (by omega) (by omega)),fun BF=>ah (an (i:=i) aU (BF 6 rfl) (cD.ext hMm BH) (by omega)),fun _=>aa (cI.move ((BG 0 rfl s0_e1))),fun BF=>aa (cI.nilCheck ((BF 8 rfl))),fun BF=>aa (cI.fieldAddr cQ ((BF 9 rfl))),fun BF=>aa (cI.fieldAddr aq ((BF 10 rfl))),fun BF=>aa (cI.load aH ((BF 11 rfl)) ((be.ext hG BH).at_ (i:=2) rfl rfl)),fun _=>aa (cI.move ((BG 1 rfl s1_e1))),fun BF=>aa (cI.index (j:=i) aB ((BF 12 rfl)) ((BF 13 rfl)) rfl (by omega) (by omega)),fun BF=>ah (an (i:=i) aU (BF 14 rfl) (cD.ext hMm BH) (by omega)),fun _=>aa (af [ca1,cb1] ao ((BG 4 rfl s4_e1)) ((be.ext hA1 BH).cells 0 _ rfl rfl)),trivial⟩) ?_;intro e2 w7 hx4 ho4 hf2;replace hG:=be.ext hG hx4;replace hA1:=be.ext hA1 hx4;replace qi1:=al.ext qi1 hx4;replace hMm:=cD.ext hMm hx4;replace hMu:=cD.ext hMu hx4;replace hMv:=cD.ext hMv hx4;replace hX:=aS hX hx4;have s0_e2:=ho4 0 rfl s0_e1;have s1_e2:=ho4 1 rfl s1_e1;have s4_e2:=ho4 4 rfl s4_e1;have s47_e2:fx w7 (e2 47) ((cC ρm i gc1) i) c:=hf2 7 rfl;have s55_e2:fx w7 (e2 55) ((cC ρm i gc1) i) c:=hf2 15 rfl;have s56_e2:e2 56=_:=hf2 16 rfl;refine RL.x rfl rfl (cT nW (cS rfl rfl s56_e2) (oF _ _ _ _ _ _ _ _ _ _ _ _ (bF s47_e2 w7) (bF s55_e2 w7) qi1 (cD.row (i:=i) hMm (by omega)) (cD.row (i:=i) hMm (by omega)) (fun _ _ _=>rfl) (by omega) (fun a ha=>ox (hbM a (by omega))))) ?_;rintro _ w9 ⟨hk4,hN3⟩;have hR1:=cD.row (i:=i) hMm (by omega);replace hG:=aT hG hk4 hR1 (by decide);replace hA1:=hA1.keep hk4 (Ne.symm (ne17 i (by omega)));replace qi1:=bZ qi1 hk4 hR1;replace hMu:=aX hMu hk4 hR1 (fun ii hii=>Ne.symm (dmu i ii (by omega) hii));replace hMv:=aX hMv hk4 hR1 (fun ii hii=>Ne.symm (dmv i ii (by omega) hii));replace hX:=hX.step hk4 (fun b e=>by subst e;exact (.inr (by rw [bs];exact hbs2)));replace hMm:=cD.setRow (i:=i) hMm (by omega) hk4 hN3;refine RL.nil ?_;refine aK am 17 [_,_,_,_,_,_,_,_,_,_,_,_,_,_,_,_,_] rfl rfl (fun e_ w_ BH BG=>⟨fun _=>aa (cI.move ((BG 0 rfl s0_e2))),fun BF=>aa (cI.nilCheck ((BF 0 rfl))),fun BF=>aa (cI.fieldAddr ea ((BF 1 rfl))),fun BF=>aa (cI.fieldAddr aq ((BF 2 rfl))),fun BF=>aa (cI.load aH ((BF 3 rfl)) ((be.ext hG BH).at_ (i:=5) rfl rfl)),fun _=>aa (cI.move ((BG 1 rfl s1_e2))),fun BF=>aa (cI.index (j:=i) aB ((BF 4 rfl)) ((BF 5 rfl)) rfl (by omega) (by omega)),fun BF=>ah (an (i:=i) aU (BF 6 rfl) (cD.ext hMu BH) (by omega)),fun _=>aa (cI.move ((BG 0 rfl s0_e2))),fun BF=>aa (cI.nilCheck ((BF 8 rfl))),fun BF=>aa (cI.fieldAddr ea ((BF 9 rfl))),fun BF=>aa (cI.fieldAddr aq ((BF 10 rfl))),fun BF=>aa (cI.load aH ((BF 11 rfl)) ((be.ext hG BH).at_ (i:=5) rfl rfl)),fun _=>aa (cI.move ((BG 1 rfl s1_e2))),fun BF=>aa (cI.index (j:=i) aB ((BF 12 rfl)) ((BF 13 rfl)) rfl (by omega) (by omega)),fun BF=>ah (an (i:=i) aU (BF 14 rfl) (cD.ext hMu BH) (by omega)),fun _=>aa (af [ca1,cb1] ao ((BG 4 rfl s4_e2)) ((be.ext hA1 BH).cells 0 _ rfl rfl)),trivial⟩) ?_;intro e3 w10 hx6 ho5 hf3;replace hG:=be.ext hG hx6;replace qi1:=al.ext qi1 hx6;replace hMm:=cD.ext hMm hx6;replace hMu:=cD.ext hMu hx6;replace hMv:=cD.ext hMv hx6;replace hX:=aS hX hx6;have s0_e3:=ho5 0 rfl s0_e2;have s1_e3:=ho5 1 rfl s1_e2;have s65_e3:fx w10 (e3 65) ((cC ρu i gc2) i) r:=hf3 7 rfl;have s73_e3:fx w10 (e3 73) ((cC ρu i gc2) i) r:=hf3 15 rfl;have s74_e3:e3 74=_:=hf3 16 rfl;refine RL.x rfl rfl (cT nW (cS rfl rfl s74_e3) (oF _ _ _ _ _ _ _ _ _ _ _ _ (bF s65_e3 w10) (bF s73_e3 w10) qi1 (cD.row (i:=i) hMu (by omega)) (cD.row (i:=i) hMu (by omega)) (fun _ _ _=>rfl) (by omega) (fun a ha=>ox (hbU a (by omega))))) ?_;rintro _ w12 ⟨hk5,hN4⟩;have hR2:=cD.row (i:=i) hMu (by omega);replace hG:=aT hG hk5 hR2 (by decide);replace hMm:=aX hMm hk5 hR2 (fun ii hii=>dmu ii i hii (by omega));replace hMv:=aX hMv hk5 hR2 (fun ii hii=>Ne.symm (duv i ii (by omega) hii));replace hX:=hX.step hk5 (fun b e=>by subst e;exact (.inr (by rw [bs];exact hbs3)));replace hMu:=cD.setRow (i:=i) hMu (by omega) hk5 hN4;refine RL.nil ?_;refine ab ?_;refine RL.p rfl rfl (cI.move s0_e3) ?_;refine RL.p rfl rfl (cI.nilCheck rfl) ?_;refine RL.p rfl rfl (cI.fieldAddr ko rfl) ?_;refine RL.p rfl rfl (cI.fieldAddr aq rfl) ?_;refine RL.p rfl rfl (cI.load aH rfl (hG.at_ (i:=8) rfl rfl)) ?_;refine RL.p rfl rfl (cI.len aB rfl) ?_;refine RL.p rfl rfl (cI.move rfl) ?_;refine RL.nil ?_;refine WP.block ?_;refine WP.loop (fun mz ez uz=>∃a:Nat,(mz=r - a)∧(ez 1= .int .i64 ((i:Nat)))∧(ez 80= .slice (some ⟨hv,0,none⟩) (r) (kv))∧(ez 81= .int .i64 ((r:Nat)))∧(ez 82= .int .i64 ((a:Nat)))∧(a≤r)∧(Keeps (dx B w) w uz)∧(be uz gw 74 9 (bS [.int .i64 ((r:Nat)),.int .i64 ((c:Nat)),.slice (some ⟨hm,0,none⟩) (r) (km),.int .i64 ((r:Nat)),.int .i64 ((r:Nat)),.slice (some ⟨hu,0,none⟩) (r) (ku),.int .i64 ((r:Nat)),.int .i64 ((r:Nat)),.slice (some ⟨hv,0,none⟩) (r) (kv)]))∧(cD uz B hm km r c (cC ρm i gc1) (setRow (setRow M i (M i)) i (fun c=>(setRow M i (M i)) i c + (-2)*(setRow M i (M i)) i c)) b)∧(cD uz B hu ku r r (cC ρu i gc2) (setRow (setRow U i (U i)) i (fun c=>(setRow U i (U i)) i c + (-2)*(setRow U i (U i)) i c)) b)∧(cD uz B hv kv r r ρv (en V (eJ V i) a) b)) (r - 0) ?_ ?_
 · exact ⟨0,rfl,s1_e3,rfl,rfl,rfl,(by omega),hX,hG,hMm,hMu,bA hMv (eT V (eJ V i)).symm⟩
 rintro m1 e4 w13 ⟨a,hm1,s1_e4,s80_e4,s81_e4,s82_e4,ha,hX1,hG,hMm,hMu,hMv⟩;refine ab ?_;refine RL.p rfl rfl (cI.lss s82_e4 s81_e4) ?_;refine RL.nil ?_;refine WP.seq ?_;refine ag (((a:Nat):Int)<((r:Nat):Int)) rfl (fun c83=> ?_) (fun c83=> ?_)
 ·
  refine WP.skip ?_;refine pR.norm ?_;refine WP.seq ?_;refine WP.block ?_;refine ab ?_;refine RL.p rfl rfl (cI.index (j:=a) aB s80_e4 s82_e4 rfl (by omega) (by omega)) ?_;refine RL.x rfl rfl (an (i:=a) aU rfl hMv (by omega)) ?_;rintro v2 _ ⟨rfl,q2⟩;refine RL.p rfl rfl (cI.assign rfl) ?_;refine RL.nil ?_;refine WP.region ?_;refine RL.p rfl rfl (cI.move rfl) ?_;refine RL.p rfl rfl (cI.move s1_e4) ?_;refine RL.p rfl rfl (cI.move rfl) ?_;refine RL.p rfl rfl (cI.move s1_e4) ?_;refine RL.p rfl rfl (av (j:=i) bi (bF q2 w13) rfl rfl (by omega) (by omega)) ?_;refine RL.x rfl rfl (aP (j:=i) ao rfl (cD.row hMv (by omega)) (by omega)) ?_;rintro v3 _ ⟨rfl,q3⟩;refine RL.x rfl rfl (dj.call me (aI rfl) (mC _ _ _ _ q3)) ?_;rintro v4 w14 ⟨hx8,q4⟩;replace hG:=be.ext hG hx8;replace hMm:=cD.ext hMm hx8;replace hMu:=cD.ext hMu hx8;replace hMv:=cD.ext hMv hx8;replace q2:=fx.ext q2 hx8;replace hX1:=aS hX1 hx8;refine RL.p rfl rfl (av (j:=i) bi (bF q2 w14) rfl rfl (by omega) (by omega)) ?_;refine RL.x rfl rfl (bM (i:=a) (j:=i) aN rfl rfl q4 hMv (by omega) (by omega)) ?_;rintro _ w15 ⟨hk6,hN5⟩;have hR3:=cD.row (i:=a) hMv (by omega);replace hG:=aT hG hk6 hR3 (by decide);replace hMm:=aX hMm hk6 hR3 (fun ii hii=>dmv ii a hii (by omega));replace hMu:=aX hMu hk6 hR3 (fun ii hii=>duv ii a hii (by omega));replace hX1:=hX1.step hk6 (fun b e=>by subst e;exact (.inl (dh (i:=a) h0v (by omega))));replace hMv:=hN5;clear hR3;refine RL.nil ?_;refine jm.norm ?_;refine pR.norm ?_;refine WP.region ?_;refine RL.p rfl rfl (cI.add (c:=((a + 1:Nat):Int)) s82_e4 rfl (bU (by omega))) ?_;refine RL.p rfl rfl (cI.move rfl) ?_;refine RL.nil ?_;refine pR.norm ⟨_,(by omega),a + 1,rfl,s1_e4,s80_e4,s81_e4,rfl,(by omega),hX1,hG,hMm,hMu,bA hMv (gZ (by rw [dt];simp [eJ]) (fun c hc=>by simp [eJ,hc]))⟩
 ·
  refine WP.exit ?_;refine pR.exit ?_;refine pR.exit ?_;refine jm.same ?_;refine ⟨.tuple #[],Bb.zero,_,rfl,hX1,?_⟩;dsimp only;exact ⟨hm,hu,hv,km,ku,kv,_,_,_,hBg,hG,(bA hMm (qG M i)),(bA hMu (qG U i)),(cD.congr hMv (fun a c ha hc=>fM V _ c (by omega))),nmu,nmv,nuv,dmu,dmv,duv⟩
end Go.TL
namespace Go.TL
set_option linter.unusedVariables false
structure WS where
  M:Nat→Nat→Int
  U:Nat→Nat→Int
  V:Nat→Nat→Int
def cU (S:WS) (i j:Nat) (k:Int):WS:=⟨cX S.M i j k,cX S.U i j k,dR S.V i j k⟩
def bQ (S:WS) (i j:Nat):WS:=⟨cE S.M i j,cE S.U i j,cY S.V i j⟩
def fC (S:WS) (i:Nat):WS:=⟨dq S.M i,dq S.U i,eJ S.V i⟩
def sn (S:WS) (p top q:Nat):WS:=if (bQ S p top).M top q<0 then fC (bQ S p top) top else bQ S p top
def el (S:WS) (top q:Nat):Nat→WS
  | 0=>S
  | n + 1=>cU (el S top q n) (top + 1 + n) top (-((el S top q n).M (top + 1 + n) q/(el S top q n).M top q))
def jo (r c b:Nat) (S:WS):Prop:=(∀i j,i<r→j<c→(S.M i j).natAbs<2^b)∧(∀i j,i<r→j<r→(S.U i j).natAbs<2^b)∧∀i j,i<r→j<r→(S.V i j).natAbs<2^b
theorem lp (M:Nat→Nat→Int) (i:Nat):cE M i i=M:=by
  funext a;unfold cE
  split
  · subst_vars;rfl
  · rfl
theorem pO (M:Nat→Nat→Int) (i:Nat):cY M i i=M:=by
  funext a c;unfold cY
  split
  · subst_vars;rfl
  · rfl
theorem kL (S:WS) (i:Nat):bQ S i i=S:=by unfold bQ;rw [lp,lp,pO]
theorem js {S:WS} {p top q:Nat} (h:(bQ S p top).M top q<0):sn S p top q=fC (bQ S p top) top:=by unfold sn;rw [if_pos h]
theorem jr {S:WS} {p top q:Nat} (h:¬(bQ S p top).M top q<0):sn S p top q=bQ S p top:=by unfold sn;rw [if_neg h]
theorem qL {x:Nat→Int} {top n:Nat} (h:x (top + n)=0):bN x top (n + 1)=bN x top n:=by simp only [bN];rw [if_pos h]
theorem qN {x:Nat→Int} {top n:Nat} (h:¬x (top + n)=0) (hc:(bN x top n).1<0∨(x (top + n)).natAbs<(x (bN x top n).1.toNat).natAbs):bN x top (n + 1)=(((top + n:Nat):Int),decide (0≤(bN x top n).1)):=by
  simp only [bN];rw [if_neg h,if_pos hc]
theorem qO {x:Nat→Int} {top n:Nat} (h:¬x (top + n)=0) (hc:¬((bN x top n).1<0∨(x (top + n)).natAbs<(x (bN x top n).1.toNat).natAbs)):bN x top (n + 1)=((bN x top n).1,decide (0≤(bN x top n).1)):=by
  simp only [bN];rw [if_neg h,if_neg hc]
theorem nt (a b:Int):cj a b<0↔a<b:=by unfold cj;split<;>(try split)<;>omega
theorem oN (a b:Nat):cj ((a:Nat):Int) ((b:Nat):Int)<0↔a<b:=by rw [nt];omega
theorem iY {x:Nat→Int} {top:Nat}:∀{n:Nat},(bN x top n).1<0→(bN x top n).2=false∧∀i,top≤i→i<top + n→x i=0
  | 0,_=>⟨rfl,fun i h1 h2=>by omega⟩
  | n + 1,h=>by
    by_cases hz:x (top + n)=0
    · rw [qL hz] at h⊢
      obtain ⟨h1,h2⟩:=iY h;refine ⟨h1,fun i h3 h4=> ?_⟩
      by_cases e:i=top + n
      · subst e;exact hz
      · exact h2 i h3 (by omega)
    · by_cases hc:(bN x top n).1<0∨(x (top + n)).natAbs<(x (bN x top n).1.toNat).natAbs
      · rw [qN hz hc] at h;simp only at h;omega
      · rw [qO hz hc] at h;simp only at h;omega
theorem fj {x:Nat→Int} {top:Nat}:∀{n:Nat},0≤(bN x top n).1→top≤(bN x top n).1.toNat∧(bN x top n).1.toNat<top + n∧x (bN x top n).1.toNat≠0∧
      (∀i,top≤i→i<top + n→x i≠0→(x (bN x top n).1.toNat).natAbs≤(x i).natAbs)∧((bN x top n).2=false→∀i,top≤i→i<top + n→i≠(bN x top n).1.toNat→x i=0)
  | 0,h=>by simp [bN] at h
  | n + 1,h=>by
    by_cases hz:x (top + n)=0
    · rw [qL hz] at h⊢
      obtain ⟨h1,h2,h3,h4,h5⟩:=fj h;refine ⟨h1,by omega,h3,fun i h6 h7 h8=> ?_,fun h6 i h7 h8 h9=> ?_⟩
      · by_cases e:i=top + n
        · subst e;exact absurd hz h8
        · exact h4 i h6 (by omega) h8
      · by_cases e:i=top + n
        · subst e;exact hz
        · exact h5 h6 i h7 (by omega) h9
    · have hr:=kw x top n
      by_cases hc:(bN x top n).1<0∨(x (top + n)).natAbs<(x (bN x top n).1.toNat).natAbs
      · rw [qN hz hc] at h⊢
        simp only [Int.toNat_natCast];refine ⟨by omega,by omega,hz,fun i h6 h7 h8=> ?_,fun h6 i h7 h8 h9=> ?_⟩
        · by_cases e:i=top + n
          · subst e;exact Nat.le_refl _
          · by_cases hn:(bN x top n).1<0
            · exact absurd ((iY hn).2 i h6 (by omega)) h8
            · have h3:=(fj (n:=n) (by omega)).2.2.2.1 i h6 (by omega) h8
              rcases hc with hc | hc
              · exact absurd hc hn
              · omega
        · have hn:(bN x top n).1<0:=by simpa using h6
          exact (iY hn).2 i h7 (by omega)
      · rw [qO hz hc] at h⊢
        have hn:0≤(bN x top n).1:=by simpa using h
        obtain ⟨h1,h2,h3,h4,h5⟩:=fj (n:=n) hn;simp only;refine ⟨h1,by omega,h3,fun i h6 h7 h8=> ?_,fun h6=> ?_⟩
        · by_cases e:i=top + n
          · subst e;omega
          · exact h4 i h6 (by omega) h8
        · simp at h6;omega
theorem uP (S:WS) (top q:Nat):∀n a,a≤top→(el S top q n).M a=S.M a
  | 0,a,_=>rfl
  | n + 1,a,h=>by
    have:=uP S top q n a h;simp only [el,cU]
    funext c
    unfold cX
    rw [if_neg (by omega)];exact congrFun this c
theorem mn (M:Nat→Nat→Int) (p top:Nat):cE M p top top=M p:=by
  unfold cE;by_cases e:top=p
  · rw [if_pos e,e]
  · rw [if_neg e,if_pos rfl]
theorem jq (S:WS) (p top q:Nat):(sn S p top q).M top q=((S.M p q).natAbs:Int):=by
  have h0:(bQ S p top).M top q=S.M p q:=congrFun (mn S.M p top) q
  by_cases h:(bQ S p top).M top q<0
  · rw [js h];simp only [fC,dq,if_true];rw [h0] at h⊢;omega
  · rw [jr h];rw [h0] at h⊢;omega
theorem qZ {r c b i j:Nat} {k:Int} {S:WS} (h:jo r c b (cU S i j k)) (hi:i<r):∀a,a<c→(S.M i a + k*S.M j a).natAbs<2^b:=fun a ha=>by
  have:=h.1 i a hi ha
  simpa [cU,cX] using this
theorem qY {r c b i j:Nat} {k:Int} {S:WS} (h:jo r c b (cU S i j k)) (hi:i<r):∀a,a<r→(S.U i a + k*S.U j a).natAbs<2^b:=fun a ha=>by
  have:=h.2.1 i a hi ha
  simpa [cU,cX] using this
theorem qX {r c b i j:Nat} {k:Int} {S:WS} (h:jo r c b (cU S i j k)) (hj:j<r):∀a,a<r→(S.V a j - k*S.V a i).natAbs<2^b:=fun a ha=>by
  have:=h.2.2 a j ha hj
  simpa [cU,dR] using this
theorem de (z:Int):z.sign<0↔z<0:=by
  rcases Int.lt_trichotomy z 0 with h | h | h
  · rw [Int.sign_eq_neg_one_of_neg h];omega
  · subst h;simp
  · rw [Int.sign_eq_one_of_pos h];omega
theorem fN {T:Nat} {w:World} {B gw r c b:Nat} {S S':WS} (h:bT T w B gw r c S.M S.U S.V b) (e:S=S'):bT T w B gw r c S'.M S'.U S'.V b:=e▸h
theorem bT.bgw {T:Nat} {w:World} {B gw r c b:Nat} {M U V:Nat→Nat→Int} (h:bT T w B gw r c M U V b):B≤gw∧r≤65536∧c≤65536∧b≤br:=by
  obtain ⟨hm,hu,hv,km,ku,kv,ρm,ρu,ρv,h1,h2,h3,h4,h5,h6⟩:=h;exact ⟨h1,h3.dlim.2.2,h3.clim.1,h3.clim.2⟩
end Go.TL
namespace Go.TL
open Go.RowKit Go.Proofs
set_option linter.unusedVariables false
set_option linter.unusedSimpArgs false
set_option maxRecDepth 10000 in
theorem ws (w:World) (B gw r c:Nat) (M U V:Nat→Nat→Int) (b:Nat) (top:Nat) (q:Nat) (hW:bT 74 w B gw r c M U V b) (htop:top<r) (hq:q<c):Calls Tryz.prog 83 #[.pointer (some ⟨gw,0,none⟩),.int .i64 (top:Nat),.int .i64 (q:Nat)] w (ci w fun v w'=>v= .tuple #[.int .i64 (bN (fun a=>M a q) top (r - top)).1,.bool (bN (fun a=>M a q) top (r - top)).2]):=by
 have hLIM:br=562949953421312:=rfl;obtain ⟨hm,hu,hv,km,ku,kv,ρm,ρu,ρv,hBg,hG,hMm,hMu,hMv,nmu,nmv,nuv,dmu,dmv,duv⟩:=hW;have hdm:=cD.dlim hMm;have hcm:=cD.clim hMm;have hdu:=cD.dlim hMu;have hdv:=cD.dlim hMv;have h0m:=hMm;have h0u:=hMu;have h0v:=hMv;refine ak (N:=61) (rs:= #[.tmp 6,.tmp 7]) Tryz.func83 rfl rfl rfl (Nat.le_of_ble_eq_true rfl) ?_;have hX:aF w w:=aF.refl w;refine ab ?_;refine RL.p rfl rfl (cI.assign rfl) ?_;refine RL.p rfl rfl (cI.assign rfl) ?_;refine RL.nil ?_;refine ab ?_;refine RL.p rfl rfl (cI.assign rfl) ?_;refine RL.p rfl rfl (cI.assign rfl) ?_;refine RL.nil ?_;refine WP.seq ?_;refine ab ?_;refine RL.p rfl rfl (cI.move rfl) ?_;refine RL.p rfl rfl (cI.assign rfl) ?_;refine RL.nil ?_;refine WP.block ?_;refine WP.loop (fun mz ez uz=>∃n:Nat,(mz=r - (top + n))∧(ez 0= .pointer (some ⟨gw,0,none⟩))∧(ez 2= .int .i64 ((q:Nat)))∧(ez 6= .int .i64 (0))∧(ez 7= .bool (false))∧(ez 8= .int .i64 ((bN (fun a=>M a q) top n).1))∧(ez 9= .bool ((bN (fun a=>M a q) top n).2))∧(ez 10= .int .i64 ((top + n:Nat)))∧(top + n≤r)∧(aF w uz)) (r - (top + 0)) ?_ ?_
 · exact ⟨0,rfl,rfl,rfl,rfl,rfl,rfl,rfl,rfl,(by omega),hX⟩
 rintro m1 e1 w1 ⟨n,hm1,s0_e1,s2_e1,s6_e1,s7_e1,s8_e1,s9_e1,s10_e1,hn,hX1⟩;have hrng:=kw (fun a=>M a q) top n;refine WP.seq ?_;refine ab ?_;refine RL.p rfl rfl (cI.move s10_e1) ?_;refine RL.p rfl rfl (cI.move s0_e1) ?_;refine RL.p rfl rfl (cI.nilCheck rfl) ?_;refine RL.p rfl rfl (cI.fieldAddr cQ rfl) ?_;refine RL.p rfl rfl (cI.fieldAddr bg rfl) ?_;refine RL.p rfl rfl (cI.load bG rfl ((be.ext hG hX1).at_ (i:=0) rfl rfl)) ?_;refine RL.p rfl rfl (cI.lss rfl rfl) ?_;refine RL.nil ?_;refine ag (((top + n:Nat):Int)<((r:Nat):Int)) rfl (fun c19=> ?_) (fun c19=> ?_)
 ·
  refine WP.skip ?_;refine pR.norm ?_;refine WP.seq ?_;refine WP.block ?_;refine ab ?_;refine RL.p rfl rfl (cI.move s0_e1) ?_;refine RL.p rfl rfl (cI.nilCheck rfl) ?_;refine RL.p rfl rfl (cI.fieldAddr cQ rfl) ?_;refine RL.p rfl rfl (cI.fieldAddr aq rfl) ?_;refine RL.p rfl rfl (cI.load aH rfl ((be.ext hG hX1).at_ (i:=2) rfl rfl)) ?_;refine RL.p rfl rfl (cI.move s10_e1) ?_;refine RL.p rfl rfl (cI.index (j:=top + n) aB rfl rfl rfl (by omega) (by omega)) ?_;refine RL.x rfl rfl (an (i:=top + n) aU rfl (cD.ext hMm hX1) (by omega)) ?_;rintro v1 _ ⟨rfl,q1⟩;refine RL.p rfl rfl (cI.move s2_e1) ?_;refine RL.p rfl rfl (av (j:=q) bi (bF q1 w1) rfl rfl (by omega) (by omega)) ?_;refine RL.x rfl rfl (aP (j:=q) ao rfl (cD.row (cD.ext hMm hX1) (by omega)) (by omega)) ?_;rintro v2 _ ⟨rfl,q2⟩;refine RL.x rfl rfl (dj.alloc [.bool (false),.slice (none) (0) (0)] bH rfl) ?_;rintro _ w2 ⟨g1,rfl,hge1,hx1,hA1⟩;have hbs1:w.heap.size≤g1:=Nat.le_trans hX1.size hge1;replace q2:=al.ext q2 hx1;replace hX1:=aF.trans hX1 hx1;obtain ⟨ca1,cb1,hq1,ho1,ho2⟩:=al.cells q2;have qi1:al w2 (.agg #[ca1,cb1]) (M (top + n) q) b:=hq1▸q2;refine RL.x rfl rfl (dj.store [ca1,cb1] aN rfl hq1 rfl hA1 (Nat.le_of_ble_eq_true rfl) (bj ho1 ho2)) ?_;rintro _ w3 ⟨hk1,hnew⟩;replace qi1:=ae qi1 hk1 hA1 (by decide);replace hX1:=hX1.step hk1 (fun b e=>by subst e;exact hbs1);replace hA1:=hnew.lit [ca1,cb1] rfl;clear hnew;refine RL.nil ?_;refine WP.seq ?_;refine ab ?_;refine RL.p rfl rfl (af [ca1,cb1] ao rfl (hA1.cells 0 _ rfl rfl)) ?_;refine RL.x rfl rfl (dj.call jS (aI rfl) (gz _ _ _ _ qi1)) ?_;rintro _ w4 ⟨hx2,rfl⟩;replace hA1:=be.ext hA1 hx2;replace qi1:=al.ext qi1 hx2;replace hX1:=aF.trans hX1 hx2;refine RL.p rfl rfl (cI.eql rfl rfl) ?_;refine RL.nil ?_;refine ag (((M (top + n) q:Int).sign:Int)=(0:Int)) rfl (fun c35=> ?_) (fun c35=> ?_)
  ·
   refine WP.exit ?_;refine pR.exit ?_;refine jm.same ?_;refine pR.norm ?_;refine WP.region ?_;refine RL.p rfl rfl (cI.move s10_e1) ?_;refine RL.p rfl rfl (cI.add (c:=(((top + n) + 1:Nat):Int)) rfl rfl (bU (by omega))) ?_;refine RL.p rfl rfl (cI.assign rfl) ?_;refine RL.nil ?_;have hst:=qL (x:=(fun a=>M a q)) (top:=top) (n:=n) (Int.sign_eq_zero_iff_zero.1 c35);refine pR.norm ⟨_,(by omega),n + 1,rfl,s0_e1,s2_e1,s6_e1,s7_e1,(Eq.trans (b:=(.int .i64 ((bN (fun a=>M a q) top n).1):Value)) s8_e1 (by rw [hst])),(Eq.trans (b:=(.bool ((bN (fun a=>M a q) top n).2):Value)) s9_e1 (by rw [hst])),(kN rfl (by omega)),(by omega),hX1⟩
  ·
   refine WP.skip ?_;refine pR.norm ?_;refine ab ?_;refine RL.p rfl rfl (cI.move s8_e1) ?_;refine RL.p rfl rfl (cI.geq rfl rfl) ?_;refine RL.p rfl rfl (cI.assign rfl) ?_;refine RL.nil ?_;refine aK am 20 [_,_,fun v BI=>v= .bool (decide (((bN (fun a=>M a q) top n).1:Int)<(0:Int))),_,_,_,_,_,_,_,_,_,_,_,_,_,_,_,_,_] rfl rfl (fun e_ w_ BH BG=>⟨fun _=>aa (cI.move ((BG 8 rfl s8_e1))),fun BF=>aa (cI.lss ((BF 0 rfl)) rfl),fun BF=>aa (cI.move ((BF 1 rfl))),fun BF=>gF (BF 2 rfl) fun hg=>aa (af [ca1,cb1] ao ((BG 11 rfl rfl)) ((be.ext hA1 BH).cells 0 _ rfl rfl)),fun BF=>gF (BF 2 rfl) fun hg=>dj.call tn (aI ((BF 3 rfl hg))) (xW _ _ _ _ ((al.ext qi1 BH))),fun BF=>gF (BF 2 rfl) fun hg=>aa (cI.move ((BG 0 rfl s0_e1))),fun BF=>gF (BF 2 rfl) fun hg=>aa (cI.nilCheck ((BF 5 rfl hg))),fun BF=>gF (BF 2 rfl) fun hg=>aa (cI.fieldAddr cQ ((BF 6 rfl hg))),fun BF=>gF (BF 2 rfl) fun hg=>aa (cI.fieldAddr aq ((BF 7 rfl hg))),fun BF=>gF (BF 2 rfl) fun hg=>aa (cI.load aH ((BF 8 rfl hg)) ((be.ext (be.ext hG hX1) BH).at_ (i:=2) rfl rfl)),fun BF=>gF (BF 2 rfl) fun hg=>aa (cI.move ((BG 8 rfl s8_e1))),fun BF=>gF (BF 2 rfl) fun hg=>aa (cI.index (j:=((bN (fun a=>M a q) top n).1).toNat) aB ((BF 9 rfl hg)) ((BF 10 rfl hg)) rfl (by omega) (by omega)),fun BF=>gF (BF 2 rfl) fun hg=>ah (an (i:=((bN (fun a=>M a q) top n).1).toNat) aU (BF 11 rfl hg) (cD.ext (cD.ext hMm hX1) BH) (by omega)),fun BF=>gF (BF 2 rfl) fun hg=>aa (cI.move ((BG 2 rfl s2_e1))),fun BF=>gF (BF 2 rfl) fun hg=>aa (av (j:=q) bi (BF 12 rfl hg) rfl (BF 13 rfl hg) (by omega) (by omega)),fun BF=>gF (BF 2 rfl) fun hg=>ah (aP (j:=q) ao (BF 14 rfl hg) (cD.row (cD.ext (cD.ext hMm hX1) BH) (by omega)) (by omega)),fun BF=>gF (BF 2 rfl) fun hg=>dj.call tn (aI rfl) (xW _ _ _ _ ((BF 15 rfl hg))),fun BF=>gF (BF 2 rfl) fun hg=>dj.call sX (ax rfl rfl) (vb _ _ _ _ _ _ _ ((BF 4 rfl hg)) ((BF 16 rfl hg))),fun BF=>gF (BF 2 rfl) fun hg=>aa (cI.lss ((BF 17 rfl hg)) rfl),fun BF=>aa (bq (p:=((bN (fun a=>M a q) top n).1:Int)<(0:Int)) (q:=(cj (((M (top + n) q:Int).natAbs:Int)) (((M (((bN (fun a=>M a q) top n).1).toNat) q:Int).natAbs:Int)):Int)<(0:Int)) (BF 2 rfl) (fun hq=>(BF 18 rfl hq))),trivial⟩) ?_;intro e2 w5 hx3 ho3 hf1;replace hX1:=aF.trans hX1 hx3;have s0_e2:=ho3 0 rfl s0_e1;have s2_e2:=ho3 2 rfl s2_e1;have s6_e2:=ho3 6 rfl s6_e1;have s7_e2:=ho3 7 rfl s7_e1;have s8_e2:=ho3 8 rfl s8_e1;have s9_e2:e2 9=_:=ho3 9 rfl rfl;have s10_e2:=ho3 10 rfl s10_e1;have s57_e2:e2 57=_:=hf1 19 rfl;refine RL.nil ?_;refine ag ((((bN (fun a=>M a q) top n).1:Int)<(0:Int))∨((cj (((M (top + n) q:Int).natAbs:Int)) (((M (((bN (fun a=>M a q) top n).1).toNat) q:Int).natAbs:Int)):Int)<(0:Int))) s57_e2 (fun c57=> ?_) (fun c57=> ?_)
   ·
    refine WP.region ?_;refine RL.p rfl rfl (cI.move s10_e2) ?_;refine RL.p rfl rfl (cI.assign rfl) ?_;refine RL.nil ?_;refine jm.norm ?_;refine pR.norm ?_;refine WP.region ?_;refine RL.p rfl rfl (cI.move s10_e2) ?_;refine RL.p rfl rfl (cI.add (c:=(((top + n) + 1:Nat):Int)) rfl rfl (bU (by omega))) ?_;refine RL.p rfl rfl (cI.assign rfl) ?_;refine RL.nil ?_;have hst:=qN (x:=(fun a=>M a q)) (top:=top) (n:=n) (fun h=>c35 (Int.sign_eq_zero_iff_zero.2 h)) (c57.imp id (oN _ _).1);refine pR.norm ⟨_,(by omega),n + 1,rfl,s0_e2,s2_e2,s6_e2,s7_e2,(Eq.trans (b:=(.int .i64 ((top + n:Nat)):Value)) rfl (by rw [hst])),(Eq.trans (b:=(.bool (decide ((0:Int)≤((bN (fun a=>M a q) top n).1:Int))):Value)) s9_e2 (by rw [hst])),(kN rfl (by omega)),(by omega),hX1⟩
   ·
    refine WP.skip ?_;refine jm.norm ?_;refine pR.norm ?_;refine WP.region ?_;refine RL.p rfl rfl (cI.move s10_e2) ?_;refine RL.p rfl rfl (cI.add (c:=(((top + n) + 1:Nat):Int)) rfl rfl (bU (by omega))) ?_;refine RL.p rfl rfl (cI.assign rfl) ?_;refine RL.nil ?_;have hst:=qO (x:=(fun a=>M a q)) (top:=top) (n:=n) (fun h=>c35 (Int.sign_eq_zero_iff_zero.2 h)) (fun h=>c57 (h.imp id (oN _ _).2));refine pR.norm ⟨_,(by omega),n + 1,rfl,s0_e2,s2_e2,s6_e2,s7_e2,(Eq.trans (b:=(.int .i64 ((bN (fun a=>M a q) top n).1):Value)) s8_e2 (by rw [hst])),(Eq.trans (b:=(.bool (decide ((0:Int)≤((bN (fun a=>M a q) top n).1:Int))):Value)) s9_e2 (by rw [hst])),(kN rfl (by omega)),(by omega),hX1⟩
 ·
  refine WP.exit ?_;refine pR.exit ?_;refine pR.exit ?_;refine jm.same ?_;refine pR.norm ?_;refine ab ?_;refine RL.p rfl rfl (cI.move s8_e1) ?_;refine RL.p rfl rfl (cI.move s9_e1) ?_;refine RL.p rfl rfl (cI.assign rfl) ?_;refine RL.p rfl rfl (cI.assign rfl) ?_;refine RL.nil ?_;refine WP.ret ?_;refine ⟨.tuple #[.int .i64 ((bN (fun a=>M a q) top n).1),.bool ((bN (fun a=>M a q) top n).2)],dn (ge.tmp rfl) (ge.tmp rfl),_,rfl,hX1,?_⟩;dsimp only;rw [show r - top=n by omega]
set_option maxRecDepth 10000 in
set_option maxHeartbeats 800000 in
theorem wt (w:World) (B gw r c:Nat) (S0:WS) (b:Nat) (top:Nat) (q:Nat) (J:Nat→WS→Prop) (m0:Nat) (hW:bT 74 w B gw r c S0.M S0.U S0.V b) (htop:top<r) (hq:q<c) (hb:2*b + 4≤br) (hJ0:J m0 S0) (hfit:∀m S,J m S→0≤(bN (fun a=>S.M a q) top (r - top)).1→(bN (fun a=>S.M a q) top (r - top)).2=true→∀n,top + 1 + n<r→jo r c b (el (sn S ((bN (fun a=>S.M a q) top (r - top)).1.toNat) top q) top q (n + 1))) (hnext:∀m S,J m S→0≤(bN (fun a=>S.M a q) top (r - top)).1→(bN (fun a=>S.M a q) top (r - top)).2=true→∃m2,m2<m∧J m2 (el (sn S ((bN (fun a=>S.M a q) top (r - top)).1.toNat) top q) top q (r - top - 1))):Calls Tryz.prog 40 #[.pointer (some ⟨gw,0,none⟩),.int .i64 (top:Nat),.int .i64 (q:Nat)] w (ma (dx B w) w fun v w'=>∃m S S',J m S∧bT 74 w' B gw r c S'.M S'.U S'.V b∧v= .bool (decide (0≤(bN (fun a=>S.M a q) top (r - top)).1))∧(((bN (fun a=>S.M a q) top (r - top)).1<0∧S'=S)∨(0≤(bN (fun a=>S.M a q) top (r - top)).1∧(bN (fun a=>S.M a q) top (r - top)).2=false∧S'=sn S ((bN (fun a=>S.M a q) top (r - top)).1.toNat) top q))):=by
 have hLIM:br=562949953421312:=rfl;have hdims:=hW.bgw;refine ak (N:=86) (rs:= #[.tmp 6]) Tryz.func40 rfl rfl rfl (Nat.le_of_ble_eq_true rfl) ?_;have hX:Keeps (dx B w) w w:=Keeps.refl _ w;refine ab ?_;refine RL.p rfl rfl (cI.assign rfl) ?_;refine RL.nil ?_;refine mE ?_;refine ab ?_;refine RL.p rfl rfl (cI.move rfl) ?_;refine RL.p rfl rfl (cI.makeFunc (aI rfl) (mD)) ?_;refine RL.p rfl rfl (cI.assign rfl) ?_;refine RL.nil ?_;refine WP.seq ?_;refine WP.label ?_;refine pR.norm ?_;refine WP.seq ?_;refine WP.block ?_;refine WP.loop (fun mz ez uz=>∃S:WS,∃m:Nat,(mz=m)∧(ez 0= .pointer (some ⟨gw,0,none⟩))∧(ez 1= .int .i64 ((top:Nat)))∧(ez 2= .int .i64 ((q:Nat)))∧(ez 7= .func (.func 41) #[.pointer (some ⟨gw,0,none⟩)] #[])∧(J m S)∧(Keeps (dx B w) w uz)∧(bT 74 uz B gw r c (S).M (S).U (S).V b)) (m0) ?_ ?_
 · exact ⟨S0,m0,rfl,rfl,rfl,rfl,rfl,hJ0,hX,hW⟩
 rintro m1 e1 w1 ⟨S,m,hm1,s0_e1,s1_e1,s2_e1,s7_e1,hJ,hX1,hW⟩;have hrng:=kw (fun a=>S.M a q) top (r - top);refine WP.block ?_;refine ab ?_;refine RL.p rfl rfl (cI.move s0_e1) ?_;refine RL.p rfl rfl (cI.move s1_e1) ?_;refine RL.p rfl rfl (cI.move s2_e1) ?_;refine RL.x rfl rfl (dj.call Af (cS rfl rfl rfl) (ws _ _ _ _ _ _ _ _ _ top q hW (by omega) (by omega))) ?_;rintro _ w2 ⟨hx1,rfl⟩;replace hW:=bT.ext hW hx1;replace hX1:=aS hX1 hx1;refine RL.p rfl rfl (cI.move rfl) ?_;refine RL.p rfl rfl (cI.extract rfl rfl) ?_;refine RL.p rfl rfl (cI.extract rfl rfl) ?_;refine RL.p rfl rfl (cI.assign rfl) ?_;refine RL.p rfl rfl (cI.assign rfl) ?_;refine RL.nil ?_;refine WP.seq ?_;refine ab ?_;refine RL.p rfl rfl (cI.move rfl) ?_;refine RL.p rfl rfl (cI.lss rfl rfl) ?_;refine RL.nil ?_;refine ag (((bN (fun a=>S.M a q) top (r - top)).1:Int)<(0:Int)) rfl (fun c21=> ?_) (fun c21=> ?_)
 ·
  refine ab ?_;refine RL.p rfl rfl (cI.assign rfl) ?_;refine RL.nil ?_;refine WP.ret ?_;refine pR.ret ?_;refine jm.ret ?_;refine pR.ret ?_;refine jm.ret ?_;refine pR.ret ?_;refine kI.ret ?_;refine ⟨.bool (false),Bb.one (ge.tmp rfl),_,rfl,hX1,?_⟩;dsimp only;exact ⟨m,S,S,hJ,hW,by simp;omega,.inl ⟨by omega,rfl⟩⟩
 ·
  refine WP.skip ?_;refine pR.norm ?_;refine WP.cut (fun ez uz=>(ez 0= .pointer (some ⟨gw,0,none⟩))∧(ez 1= .int .i64 ((top:Nat)))∧(ez 2= .int .i64 ((q:Nat)))∧(ez 7= .func (.func 41) #[.pointer (some ⟨gw,0,none⟩)] #[])∧(ez 9= .bool ((bN (fun a=>S.M a q) top (r - top)).2))∧(Keeps (dx B w) w uz)∧(bT 74 uz B gw r c (bQ S ((bN (fun a=>S.M a q) top (r - top)).1.toNat) top).M (bQ S ((bN (fun a=>S.M a q) top (r - top)).1.toNat) top).U (bQ S ((bN (fun a=>S.M a q) top (r - top)).1.toNat) top).V b)) ?_ ?_
  ·
   refine ab ?_;refine RL.p rfl rfl (cI.move rfl) ?_;refine RL.p rfl rfl (cI.move s1_e1) ?_;refine RL.p rfl rfl (cI.neq rfl rfl) ?_;refine RL.nil ?_;refine ag (((bN (fun a=>S.M a q) top (r - top)).1:Int)≠((top:Nat):Int)) rfl (fun c24=> ?_) (fun c24=> ?_)
   ·
    refine WP.region ?_;refine RL.p rfl rfl (cI.move s0_e1) ?_;refine RL.p rfl rfl (cI.move rfl) ?_;refine RL.p rfl rfl (cI.move s1_e1) ?_;refine RL.x rfl rfl (cT Ae (cS rfl ((nP (a:=(((bN (fun a=>S.M a q) top (r - top)).1.toNat:Nat):Int)) (b:=(bN (fun a=>S.M a q) top (r - top)).1) rfl (by omega))) rfl) (za _ _ _ _ _ _ _ _ _ ((bN (fun a=>S.M a q) top (r - top)).1.toNat) top hW (by omega) (by omega))) ?_;rintro _ w4 ⟨hk1,hN1⟩;replace hX1:=Keeps.own hX1 hk1;replace hW:bT 74 w4 B gw r c (bQ S ((bN (fun a=>S.M a q) top (r - top)).1.toNat) top).M (bQ S ((bN (fun a=>S.M a q) top (r - top)).1.toNat) top).U (bQ S ((bN (fun a=>S.M a q) top (r - top)).1.toNat) top).V b:=hN1;refine RL.nil ?_;refine pR.norm ⟨s0_e1,s1_e1,s2_e1,s7_e1,rfl,hX1,hW⟩
   ·
    refine WP.skip ?_;have hpt:(bN (fun a=>S.M a q) top (r - top)).1.toNat=top:=by omega
    refine pR.norm ⟨s0_e1,s1_e1,s2_e1,s7_e1,rfl,hX1,fN hW (by rw [hpt,kL])⟩
  rintro e2 w5 ⟨s0_e2,s1_e2,s2_e2,s7_e2,s9_e2,hX2,hW⟩;refine WP.cut (fun ez uz=>(ez 0= .pointer (some ⟨gw,0,none⟩))∧(ez 1= .int .i64 ((top:Nat)))∧(ez 2= .int .i64 ((q:Nat)))∧(ez 7= .func (.func 41) #[.pointer (some ⟨gw,0,none⟩)] #[])∧(ez 9= .bool ((bN (fun a=>S.M a q) top (r - top)).2))∧(Keeps (dx B w) w uz)∧(bT 74 uz B gw r c (sn S ((bN (fun a=>S.M a q) top (r - top)).1.toNat) top q).M (sn S ((bN (fun a=>S.M a q) top (r - top)).1.toNat) top q).U (sn S ((bN (fun a=>S.M a q) top (r - top)).1.toNat) top q).V b)) ?_ ?_
  ·
   have hWc:=hW;obtain ⟨hm_1,hu_1,hv_1,km_1,ku_1,kv_1,ρm_1,ρu_1,ρv_1,_,hG_1,hMm_1,hMu_1,hMv_1,_⟩:=hWc;have hdm_1:=cD.dlim hMm_1;have hcm_1:=cD.clim hMm_1
   skip
   refine ab ?_;refine RL.p rfl rfl (cI.move s0_e2) ?_;refine RL.p rfl rfl (cI.nilCheck rfl) ?_;refine RL.p rfl rfl (cI.fieldAddr cQ rfl) ?_;refine RL.p rfl rfl (cI.fieldAddr aq rfl) ?_;refine RL.p rfl rfl (cI.load aH rfl (hG_1.at_ (i:=2) rfl rfl)) ?_;refine RL.p rfl rfl (cI.move s1_e2) ?_;refine RL.p rfl rfl (cI.index (j:=top) aB rfl rfl rfl (by omega) (by omega)) ?_;refine RL.x rfl rfl (an (i:=top) aU rfl hMm_1 (by omega)) ?_;rintro v1 _ ⟨rfl,q1⟩;refine RL.p rfl rfl (cI.move s2_e2) ?_;refine RL.p rfl rfl (av (j:=q) bi (bF q1 w5) rfl rfl (by omega) (by omega)) ?_;refine RL.x rfl rfl (aP (j:=q) ao rfl (cD.row hMm_1 (by omega)) (by omega)) ?_;rintro v2 _ ⟨rfl,q2⟩;refine RL.x rfl rfl (dj.call jS (aI rfl) (gz _ _ _ _ q2)) ?_;rintro _ w6 ⟨hx3,rfl⟩;replace hW:=bT.ext hW hx3;replace hX2:=aS hX2 hx3;refine RL.p rfl rfl (cI.lss rfl rfl) ?_;refine RL.nil ?_;refine ag (((((bQ S ((bN (fun a=>S.M a q) top (r - top)).1.toNat) top).M) top q:Int).sign:Int)<(0:Int)) rfl (fun c41=> ?_) (fun c41=> ?_)
   ·
    refine WP.region ?_;refine RL.p rfl rfl (cI.move s0_e2) ?_;refine RL.p rfl rfl (cI.move s1_e2) ?_;refine RL.x rfl rfl (cT Ad (ax rfl rfl) (uG _ _ _ _ _ _ _ _ _ top hW (by omega) (by omega) (by omega))) ?_;rintro _ w8 ⟨hk2,hN2⟩;replace hX2:=Keeps.own hX2 hk2;replace hW:bT 74 w8 B gw r c (fC (bQ S ((bN (fun a=>S.M a q) top (r - top)).1.toNat) top) top).M (fC (bQ S ((bN (fun a=>S.M a q) top (r - top)).1.toNat) top) top).U (fC (bQ S ((bN (fun a=>S.M a q) top (r - top)).1.toNat) top) top).V b:=hN2;refine RL.nil ?_;refine pR.norm ⟨s0_e2,s1_e2,s2_e2,s7_e2,s9_e2,hX2,fN hW (js ((de _).1 c41)).symm⟩
   ·
    refine WP.skip ?_;refine pR.norm ⟨s0_e2,s1_e2,s2_e2,s7_e2,s9_e2,hX2,fN hW (jr (fun h=>c41 ((de _).2 h))).symm⟩
  rintro e3 w9 ⟨s0_e3,s1_e3,s2_e3,s7_e3,s9_e3,hX3,hW⟩;refine WP.seq ?_;refine ab ?_;refine RL.p rfl rfl (cI.move s9_e3) ?_;refine RL.p rfl rfl (cI.not (p:=(bN (fun a=>S.M a q) top (r - top)).2=true) (sH rfl)) ?_;refine RL.nil ?_;refine ag (¬((bN (fun a=>S.M a q) top (r - top)).2=true)) rfl (fun c46=> ?_) (fun c46=> ?_)
  ·
   refine WP.exit ?_;refine pR.exit ?_;refine gI rfl ?_;refine pR.exit ?_;refine jm.same ?_;refine pR.norm ?_;refine ab ?_;refine RL.p rfl rfl (cI.assign rfl) ?_;refine RL.nil ?_;refine WP.ret ?_;refine kI.ret ?_;refine ⟨.bool (true),Bb.one (ge.tmp rfl),_,rfl,hX3,?_⟩;dsimp only;exact ⟨m,S,sn S ((bN (fun a=>S.M a q) top (r - top)).1.toNat) top q,hJ,hW,by simp;omega,.inr ⟨by omega,by simpa using c46,rfl⟩⟩
  ·
   refine WP.skip ?_;refine pR.norm ?_;have hp0:S.M ((bN (fun a=>S.M a q) top (r - top)).1.toNat) q≠0:=(fj (x:=fun a=>S.M a q) (top:=top) (n:=r - top) (by omega)).2.2.1;have hq0:(sn S ((bN (fun a=>S.M a q) top (r - top)).1.toNat) top q).M top q≠0:=by rw [jq];omega
   refine ab ?_;refine RL.p rfl rfl (cI.move s1_e3) ?_;refine RL.p rfl rfl (cI.add (c:=((top + 1:Nat):Int)) rfl rfl (bU (by omega))) ?_;refine RL.p rfl rfl (cI.assign rfl) ?_;refine RL.nil ?_;refine WP.block ?_;refine WP.loop (fun mz ez uz=>∃n:Nat,(mz=r - (top + 1 + n))∧(ez 0= .pointer (some ⟨gw,0,none⟩))∧(ez 1= .int .i64 ((top:Nat)))∧(ez 2= .int .i64 ((q:Nat)))∧(ez 7= .func (.func 41) #[.pointer (some ⟨gw,0,none⟩)] #[])∧(ez 10= .int .i64 ((top + 1 + n:Nat)))∧(top + 1 + n≤r)∧(Keeps (dx B w) w uz)∧(bT 74 uz B gw r c (el (sn S ((bN (fun a=>S.M a q) top (r - top)).1.toNat) top q) top q n).M (el (sn S ((bN (fun a=>S.M a q) top (r - top)).1.toNat) top q) top q n).U (el (sn S ((bN (fun a=>S.M a q) top (r - top)).1.toNat) top q) top q n).V b)) (r - (top + 1 + 0)) ?_ ?_
   · exact ⟨0,rfl,s0_e3,s1_e3,s2_e3,s7_e3,rfl,(by omega),hX3,hW⟩
   rintro m2 e4 w10 ⟨n,hm2,s0_e4,s1_e4,s2_e4,s7_e4,s10_e4,hn,hX4,hW⟩;have hqz:(el (sn S ((bN (fun a=>S.M a q) top (r - top)).1.toNat) top q) top q n).M top q≠0:=by rw [uP _ _ _ _ _ (Nat.le_refl _)];exact hq0
   refine WP.seq ?_;have hWc:=hW;obtain ⟨hm_2,hu_2,hv_2,km_2,ku_2,kv_2,ρm_2,ρu_2,ρv_2,_,hG_2,hMm_2,hMu_2,hMv_2,_⟩:=hWc;have hdm_2:=cD.dlim hMm_2;have hcm_2:=cD.clim hMm_2
   skip
   refine ab ?_;refine RL.p rfl rfl (cI.move s10_e4) ?_;refine RL.p rfl rfl (cI.move s0_e4) ?_;refine RL.p rfl rfl (cI.nilCheck rfl) ?_;refine RL.p rfl rfl (cI.fieldAddr cQ rfl) ?_;refine RL.p rfl rfl (cI.fieldAddr bg rfl) ?_;refine RL.p rfl rfl (cI.load bG rfl (hG_2.at_ (i:=0) rfl rfl)) ?_;refine RL.p rfl rfl (cI.lss rfl rfl) ?_;refine RL.nil ?_;refine ag (((top + 1 + n:Nat):Int)<((r:Nat):Int)) rfl (fun c55=> ?_) (fun c55=> ?_)
   ·
    refine WP.skip ?_;refine pR.norm ?_;refine WP.seq ?_;refine WP.block ?_;have hfitn:jo r c b (cU (el (sn S ((bN (fun a=>S.M a q) top (r - top)).1.toNat) top q) top q n) (top + 1 + n) top (-((el (sn S ((bN (fun a=>S.M a q) top (r - top)).1.toNat) top q) top q n).M (top + 1 + n) q/(el (sn S ((bN (fun a=>S.M a q) top (r - top)).1.toNat) top q) top q n).M top q))):=hfit m S hJ (by omega) (by simpa using c46) n (by omega);refine WP.ds am 27 [_,_,_,_,_,_,_,_,_,_,_,_,_,_,_,_,_,_,_,_,_,_,_,_,_,_,_] rfl rfl (fun e_ w_ BH BG=>⟨fun _=>aa (cI.move ((BG 7 rfl s7_e4))),fun _=>aa (cI.move ((BG 10 rfl s10_e4))),fun _=>aa (cI.move ((BG 1 rfl s1_e4))),fun _=>aa (cI.move ((BG 0 rfl s0_e4))),fun BF=>aa (cI.nilCheck ((BF 3 rfl))),fun BF=>aa (cI.fieldAddr cQ ((BF 4 rfl))),fun BF=>aa (cI.fieldAddr aq ((BF 5 rfl))),fun BF=>aa (cI.load aH ((BF 6 rfl)) ((be.ext hG_2 BH).at_ (i:=2) rfl rfl)),fun _=>aa (cI.move ((BG 10 rfl s10_e4))),fun BF=>aa (cI.index (j:=top + 1 + n) aB ((BF 7 rfl)) ((BF 8 rfl)) rfl (by omega) (by omega)),fun BF=>ah (an (i:=top + 1 + n) aU (BF 9 rfl) (cD.ext hMm_2 BH) (by omega)),fun _=>aa (cI.move ((BG 2 rfl s2_e4))),fun BF=>aa (av (j:=q) bi (BF 10 rfl) rfl (BF 11 rfl) (by omega) (by omega)),fun BF=>ah (aP (j:=q) ao (BF 12 rfl) (cD.row (cD.ext hMm_2 BH) (by omega)) (by omega)),fun _=>aa (cI.move ((BG 0 rfl s0_e4))),fun BF=>aa (cI.nilCheck ((BF 14 rfl))),fun BF=>aa (cI.fieldAddr cQ ((BF 15 rfl))),fun BF=>aa (cI.fieldAddr aq ((BF 16 rfl))),fun BF=>aa (cI.load aH ((BF 17 rfl)) ((be.ext hG_2 BH).at_ (i:=2) rfl rfl)),fun _=>aa (cI.move ((BG 1 rfl s1_e4))),fun BF=>aa (cI.index (j:=top) aB ((BF 18 rfl)) ((BF 19 rfl)) rfl (by omega) (by omega)),fun BF=>ah (an (i:=top) aU (BF 20 rfl) (cD.ext hMm_2 BH) (by omega)),fun _=>aa (cI.move ((BG 2 rfl s2_e4))),fun BF=>aa (av (j:=q) bi (BF 21 rfl) rfl (BF 22 rfl) (by omega) (by omega)),fun BF=>ah (aP (j:=q) ao (BF 23 rfl) (cD.row (cD.ext hMm_2 BH) (by omega)) (by omega)),fun BF=>dj.call tc (ax rfl rfl) (iz _ _ _ _ _ _ _ (BF 13 rfl) (BF 24 rfl) hqz (by omega)),fun BF=>dj.call me (aI rfl) (mC _ _ _ _ ((BF 25 rfl))),trivial⟩) ?_;intro e5 w11 hx5 ho1 hf1;replace hW:=bT.ext hW hx5;replace hX4:=aS hX4 hx5;have s0_e5:=ho1 0 rfl s0_e4;have s1_e5:=ho1 1 rfl s1_e4;have s2_e5:=ho1 2 rfl s2_e4;have s7_e5:=ho1 7 rfl s7_e4;have s10_e5:=ho1 10 rfl s10_e4;have s58_e5:e5 58=_:=hf1 0 rfl;have s59_e5:e5 59=_:=hf1 1 rfl;have s60_e5:e5 60=_:=hf1 2 rfl;have s84_e5:al w11 (e5 84) (-((((el (sn S ((bN (fun a=>S.M a q) top (r - top)).1.toNat) top q) top q n).M) (top + 1 + n) q)/(((el (sn S ((bN (fun a=>S.M a q) top (r - top)).1.toNat) top q) top q n).M) top q))) b:=hf1 26 rfl;refine RL.x rfl rfl (pW xJ s58_e5 (Eq.trans (congrArg (fun z=>(#[.pointer (some ⟨gw,0,none⟩)]:Array Value) ++ z ++ (#[]:Array Value)) (cS s59_e5 s60_e5 rfl)) rfl) (qT _ _ _ _ _ _ _ _ _ (top + 1 + n) top _ _ _ hW (by omega) (by omega) s84_e5 (by omega) (by omega) (qZ hfitn (by omega)) (qY hfitn (by omega)) (qX hfitn (by omega)))) ?_;rintro _ w13 ⟨hk3,hN3⟩;replace hX4:=Keeps.own hX4 hk3;replace hW:bT 74 w13 B gw r c (cU (el (sn S ((bN (fun a=>S.M a q) top (r - top)).1.toNat) top q) top q n) (top + 1 + n) top (-((((el (sn S ((bN (fun a=>S.M a q) top (r - top)).1.toNat) top q) top q n).M) (top + 1 + n) q)/(((el (sn S ((bN (fun a=>S.M a q) top (r - top)).1.toNat) top q) top q n).M) top q)))).M (cU (el (sn S ((bN (fun a=>S.M a q) top (r - top)).1.toNat) top q) top q n) (top + 1 + n) top (-((((el (sn S ((bN (fun a=>S.M a q) top (r - top)).1.toNat) top q) top q n).M) (top + 1 + n) q)/(((el (sn S ((bN (fun a=>S.M a q) top (r - top)).1.toNat) top q) top q n).M) top q)))).U (cU (el (sn S ((bN (fun a=>S.M a q) top (r - top)).1.toNat) top q) top q n) (top + 1 + n) top (-((((el (sn S ((bN (fun a=>S.M a q) top (r - top)).1.toNat) top q) top q n).M) (top + 1 + n) q)/(((el (sn S ((bN (fun a=>S.M a q) top (r - top)).1.toNat) top q) top q n).M) top q)))).V b:=hN3;refine RL.nil ?_;refine jm.norm ?_;refine pR.norm ?_;refine WP.region ?_;refine RL.p rfl rfl (cI.move s10_e5) ?_;refine RL.p rfl rfl (cI.add (c:=(((top + 1 + n) + 1:Nat):Int)) rfl rfl (bU (by omega))) ?_;refine RL.p rfl rfl (cI.assign rfl) ?_;refine RL.nil ?_;refine pR.norm ⟨_,(by omega),n + 1,rfl,s0_e5,s1_e5,s2_e5,s7_e5,(kN rfl (by omega)),(by omega),hX4,hW⟩
   ·
    refine WP.exit ?_;refine pR.exit ?_;refine pR.exit ?_;refine jm.same ?_;refine jm.norm ?_;rw [show n=r - top - 1 by omega] at hW;obtain ⟨m2,hm2,hJ2⟩:=hnext m S hJ (by omega) (by simpa using c46);refine pR.norm ⟨_,(by omega),_,m2,rfl,s0_e4,s1_e4,s2_e4,s7_e4,hJ2,hX4,hW⟩
end Go.TL
namespace Go.TL
open Go.RowKit
set_option linter.unusedVariables false
def jC (v:Value) (w:World) (b:Nat):Prop:=
  ∃x y gh n k,v= .agg #[x,y,.slice (some ⟨gh,0,none⟩) n k]∧(b=gh∨∃i u,i<n∧w.cell? ⟨gh,i,none⟩=some u∧b=dl u)
section
variable {w w':World} {v:Value} {B r c b:Nat} {M:Nat→Nat→Int}
theorem cD.cellAt {gh m d:Nat} {ρ:Nat→Nat} (h:cD w B gh m d c ρ M b) {i:Nat} (hi:i<d):∃u,w.cell? ⟨gh,i,none⟩=some u∧dl u=ρ i:=by
  obtain ⟨_,_,⟨h3,_,f,ha,hf⟩,_⟩:=h;exact ⟨f i,ha.cell (by omega),fu (hf i hi)⟩
theorem gX (B r c:Nat) (M:Nat→Nat→Int) (b:Nat):fA jC (fun v w=>cH w v B r c M b):=by
  refine ⟨fun v w x h hb=> ?_,fun v w w' x h hx hb=> ?_⟩
  · obtain ⟨gh,k,ρ,rfl,hM⟩:=h
    obtain ⟨_,_,gh',n,k',he,hb⟩:=hb;simp only [Value.agg.injEq,Array.mk.injEq,List.cons.injEq,Value.slice.injEq,Option.some.injEq,Addr.mk.injEq,and_true] at he;obtain ⟨_,_,h1,h2,h3⟩:=he;subst h1;subst h2;rcases hb with hb | ⟨i,u,hi,hu,hb⟩
    · subst hb;exact hM.ghlt
    · obtain ⟨u',hu',hbu⟩:=hM.cellAt hi
      rw [hu] at hu';injection hu' with hu';subst hu';rw [hb,hbu];exact hM.rowlt hi
  · obtain ⟨gh,k,ρ,rfl,hM⟩:=h
    obtain ⟨x1,x2,gh',n,k',he,hb⟩:=hb;refine ⟨x1,x2,gh',n,k',he,?_⟩;simp only [Value.agg.injEq,Array.mk.injEq,List.cons.injEq,Value.slice.injEq,Option.some.injEq,Addr.mk.injEq,and_true] at he;obtain ⟨_,_,h1,h2,h3⟩:=he;subst h1;subst h2;rcases hb with hb | ⟨i,u,hi,hu,hb⟩
    · exact .inl hb
    · obtain ⟨u',hu',hbu⟩:=hM.cellAt hi
      have:=aF.cell hu' hx;rw [hu] at this;injection this with this;subst this;exact .inr ⟨i,u,hi,hu',hb⟩
theorem eU {x:Nat} (h:cH w v B r c M b) (hb:jC v w x):B≤x:=by
  obtain ⟨gh,k,ρ,rfl,hM⟩:=h;obtain ⟨_,_,gh',n,k',he,hb⟩:=hb;simp only [Value.agg.injEq,Array.mk.injEq,List.cons.injEq,Value.slice.injEq,Option.some.injEq,Addr.mk.injEq,and_true] at he;obtain ⟨_,_,h1,h2,h3⟩:=he;subst h1;subst h2;rcases hb with hb | ⟨i,u,hi,hu,hb⟩
  · subst hb;exact hM.1
  · obtain ⟨u',hu',hbu⟩:=hM.cellAt hi
    rw [hu] at hu';injection hu' with hu';subst hu';rw [hb,hbu];exact hM.rowB hi
theorem eQ {gh gh' k k' r' c' b' B':Nat} {x y x' y':Value} {ρ ρ':Nat→Nat} {M':Nat→Nat→Int} (h:cD w B gh k r c ρ M b) (h':cD w B' gh' k' r' c' ρ' M' b')
    (hd:∀b,jC (.agg #[x,y,.slice (some ⟨gh,0,none⟩) r k]) w b→¬jC (.agg #[x',y',.slice (some ⟨gh',0,none⟩) r' k']) w b):gh≠gh'∧∀i j,i<r→j<r'→ρ i≠ρ' j:=by
  refine ⟨fun e=>hd gh ⟨_,_,_,_,_,rfl,.inl rfl⟩ ⟨_,_,_,_,_,rfl,.inl e⟩,fun i j hi hj e=> ?_⟩;obtain ⟨u,hu,hbu⟩:=h.cellAt hi;obtain ⟨u',hu',hbu'⟩:=h'.cellAt hj;exact hd (ρ i) ⟨_,_,_,_,_,rfl,.inr ⟨i,u,hi,hu,hbu.symm⟩⟩ ⟨_,_,_,_,_,rfl,.inr ⟨j,u',hj,hu',by rw [hbu',e]⟩⟩
theorem cD.up {gh m d b':Nat} {ρ:Nat→Nat} (h:cD w B gh m d c ρ M b) (hb:b≤b') (hl:b'≤br):cD w B gh m d c ρ M b':=by
  refine h.more (fun i j hi hj=> ?_) hl;exact Nat.lt_of_lt_of_le (h.bd hi hj) (Nat.pow_le_pow_right (by omega) hb)
theorem co.more {n b':Nat} (h:co w v n c M b) (hb:∀i j,i<n→j<c→(M i j).natAbs<2^b') (hl:b'≤br):co w v n c M b':=by
  obtain ⟨A,k,h1,h2,h3,h4⟩:=h;refine ⟨A,k,h1,h2,⟨h3.1,h3.2.1,hl⟩,fun hn=> ?_⟩;obtain ⟨h,o,m,f,hA,hm,ha,hf⟩:=h4 hn;refine ⟨h,o,m,f,hA,hm,ha,fun i hi=> ?_⟩;obtain ⟨A2,k2,g1,g2,g3,g4⟩:=hf i hi;refine ⟨A2,k2,g1,g2,⟨g3.1,g3.2.1,hl⟩,fun hc=> ?_⟩;obtain ⟨g,e1,m2,f2,e2,e3,e4⟩:=g4 hc;exact ⟨g,e1,m2,f2,⟨e2.1,hl⟩,e3,fun j hj=>(e4 j hj).more (hb i j hi hj) hl⟩
theorem cc.more {b':Nat} (h:cc w v r c M b) (hb:∀i j,i<r→j<c→(M i j).natAbs<2^b') (hl:b'≤br):cc w v r c M b':=by
  obtain ⟨s,h1,h2,h3,h4⟩:=h;exact ⟨s,h1,h2,h3,h4.more hb hl⟩
theorem bO.more {n b':Nat} {z:Nat→Int} (h:bO w v n z b) (hb:∀j,j<n→(z j).natAbs<2^b') (hl:b'≤br):bO w v n z b':=by
  obtain ⟨A2,k2,g1,g2,g3,g4⟩:=h;refine ⟨A2,k2,g1,g2,⟨g3.1,g3.2.1,hl⟩,fun hc=> ?_⟩;obtain ⟨g,e1,m2,f2,e2,e3,e4⟩:=g4 hc;exact ⟨g,e1,m2,f2,⟨e2.1,hl⟩,e3,fun j hj=>(e4 j hj).more (hb j hj) hl⟩
end
theorem AS {w:World} {v:Value} {n c b:Nat} {M:Nat→Nat→Int} {i j:Int} (h:co w v n c M b):
    Instr.fill (([(0,1),(1,1),(2,1)]:List (Nat×Nat))[·]?) (Value.agg #[.int .i64 0,.int .i64 0,.slice none 0 0]).cells [(0,.int .i64 i),(1,.int .i64 j),(2,v)]=some #[.int .i64 i,.int .i64 j,v]:=by
  obtain ⟨A,k,rfl,_⟩:=h;simp [Instr.fill,Value.cells]
theorem it {a b c d e f g h i:Value} (ha:a.oneCell'=true) (hb:b.oneCell'=true) (hc:c.oneCell'=true) (hd:d.oneCell'=true) (he:e.oneCell'=true) (hf:f.oneCell'=true) (hg:g.oneCell'=true) (hh:h.oneCell'=true) (hi:i.oneCell'=true):
    ∀u∈ [a,b,c,d,e,f,g,h,i],u.oneCell'=true:=by simp [ha,hb,hc,hd,he,hf,hg,hh,hi]
theorem jY {a b c d e f g h i:Value} {zs:Array Value} (hz:zs.size=9):
    Instr.fill (([(0,3),(3,3),(6,3)]:List (Nat×Nat))[·]?) zs [(0,.agg #[a,b,c]),(1,.agg #[d,e,f]),(2,.agg #[g,h,i])]=some #[a,b,c,d,e,f,g,h,i]:=by
  obtain ⟨l⟩:=zs;simp only [List.size_toArray] at hz
  match l,hz with
  | [x0,x1,x2,x3,x4,x5,x6,x7,x8],_=>simp [Instr.fill,Value.cells]
def ra (S:WS) (top q:Nat):Nat→WS
  | 0=>S
  | n + 1=>cU (ra S top q n) n top (-((ra S top q n).M n q/(ra S top q n).M top q))
theorem pn (S:WS) (top q:Nat):∀n a,n≤a→(ra S top q n).M a=S.M a
  | 0,a,_=>rfl
  | n + 1,a,h=>by
    have:=pn S top q n a (by omega);simp only [ra,cU]
    funext c
    unfold cX
    rw [if_neg (by omega)];exact congrFun this c
def jn (w:World) (v:Value) (r c:Nat) (S:WS) (b:Nat):Prop:=∃s1 s2 s3,v= .agg #[.int .i64 (r:Nat),.int .i64 (c:Nat),s1,.int .i64 (r:Nat),.int .i64 (r:Nat),s2,.int .i64 (r:Nat),.int .i64 (r:Nat),s3]∧
  (r≤65536∧b≤br)∧c≤65536∧co w s1 r c S.M b∧co w s2 r r S.U b∧co w s3 r r S.V b
theorem jn.ext {w w':World} {v:Value} {r c b:Nat} {S:WS} (h:jn w v r c S b) (hx:aF w w'):jn w' v r c S b:=by
  obtain ⟨s1,s2,s3,h1,h2,h3,h4,h5,h6⟩:=h;exact ⟨s1,s2,s3,h1,h2,h3,h4.ext hx,h5.ext hx,h6.ext hx⟩
end Go.TL
namespace Go.TL
open Go.RowKit Go.Proofs
set_option linter.unusedVariables false
set_option linter.unusedSimpArgs false
set_option maxRecDepth 10000 in
set_option maxHeartbeats 800000 in
theorem zb (w:World) (x:Value) (r c:Nat) (M:Nat→Nat→Int) (b0 b:Nat) (F:Nat→Nat→WS→Prop) (J:Nat→Nat→Nat→WS→Prop) (hx:cc w x r c M b0) (hb0:1 + b0≤b) (hb:2*b + 4≤br) (hF0:F 0 0 ⟨M,dA,dA⟩) (hstart:∀top q S,top<r→q<c→F top q S→∃m,J top q m S) (hfit:∀top q m S,top<r→q<c→J top q m S→0≤(bN (fun a=>S.M a q) top (r - top)).1→(bN (fun a=>S.M a q) top (r - top)).2=true→∀n,top + 1 + n<r→jo r c b (el (sn S ((bN (fun a=>S.M a q) top (r - top)).1.toNat) top q) top q (n + 1))) (hnext:∀top q m S,top<r→q<c→J top q m S→0≤(bN (fun a=>S.M a q) top (r - top)).1→(bN (fun a=>S.M a q) top (r - top)).2=true→∃m2,m2<m∧J top q m2 (el (sn S ((bN (fun a=>S.M a q) top (r - top)).1.toNat) top q) top q (r - top - 1))) (hno:∀top q m S,top<r→q<c→J top q m S→(bN (fun a=>S.M a q) top (r - top)).1<0→F top (q + 1) S) (hra:∀top q m S,top<r→q<c→J top q m S→0≤(bN (fun a=>S.M a q) top (r - top)).1→(bN (fun a=>S.M a q) top (r - top)).2=false→(∀n,n<top→jo r c b (ra (sn S ((bN (fun a=>S.M a q) top (r - top)).1.toNat) top q) top q (n + 1)))∧F (top + 1) (q + 1) (ra (sn S ((bN (fun a=>S.M a q) top (r - top)).1.toNat) top q) top q top)):Calls Tryz.prog 11 #[x] w (ci w fun v w'=>∃top q S,F top q S∧(c≤q∨r≤top)∧top≤r∧q≤c∧jn w' v r c S b):=by
 have hLIM:br=562949953421312:=rfl;obtain ⟨sx,rfl,hr,hc,hSx⟩:=hx.form;obtain ⟨B,hBe⟩:∃B:Nat,B=w.heap.size:=⟨_,rfl⟩
 have hBle:w.heap.size≤B:=by omega
 refine ak (N:=82) (rs:= #[.cell 2 31]) Tryz.func11 rfl rfl rfl (Nat.le_of_ble_eq_true rfl) ?_;have hX:aF w w:=aF.refl w;refine ab ?_;refine RL.x rfl rfl (dj.box [.int .i64 ((r:Nat)),.int .i64 ((c:Nat)),sx] rfl rfl) ?_;rintro _ w1 ⟨g1,rfl,hge1,hx1,hA1⟩;replace hX:=aF.trans hX hx1;refine RL.x rfl rfl (dj.alloc [.int .i64 (0),.int .i64 (0),.slice (none) (0) (0),.int .i64 (0),.int .i64 (0),.slice (none) (0) (0),.int .i64 (0),.int .i64 (0),.slice (none) (0) (0)] ef rfl) ?_;rintro _ w2 ⟨g2,rfl,hge2,hx2,hA2⟩;have hbs2:w.heap.size≤g2:=Nat.le_trans hX.size hge2;replace hA1:=be.ext hA1 hx2;replace hX:=aF.trans hX hx2;refine RL.nil ?_;have hX1s:B≤w2.heap.size:=by rw [hBe];exact hX.size
 have hBw1:w.heap.size≤w2.heap.size:=hX.size;have hBw2:w.heap.size≤w2.heap.size:=hX.size;have hBw3:w.heap.size≤w2.heap.size:=hX.size;refine ig am 8 [_,fun v BI=>cH BI v w2.heap.size r c M (1 + b0),_,_,fun v BI=>cH BI v w2.heap.size r r dA 1,_,_,fun v BI=>cH BI v w2.heap.size r r dA 1] (Apart.of (jC) [(1,4),(1,7),(4,7)] rfl ⟨(fun h=>by cases h),(fun _=>gX _ _ _ _ _),(fun h=>by cases h),(fun h=>by cases h),(fun _=>gX _ _ _ _ _),(fun h=>by cases h),(fun h=>by cases h),(fun _=>gX _ _ _ _ _),trivial⟩) rfl rfl ⟨ac _,dK _ _ _ _ _,ac _,ac _,dK _ _ _ _ _,ac _,ac _,dK _ _ _ _ _,trivial⟩ ⟨fun e_ w_ BH BG BF=>aM rfl (aa (af [.int .i64 ((r:Nat)),.int .i64 ((c:Nat)),sx] aR (((BG 1 rfl).trans rfl)) ((be.ext hA1 BH).cells 0 _ rfl rfl))),fun e_ w_ BH BG BF=>dj.mono (dj.call Av (aI ((BF 0 rfl))) (uH _ _ _ _ _ _ (cc.mk (co.ext (co.ext hSx hX) BH) (by omega) (by omega)) (by omega))) fun v BJ hv=>⟨hv.1,cH.low hv.2 BH.size,dD fun b hb=>eU hv.2 hb⟩,fun e_ w_ BH BG BF=>aM rfl (aa (cI.fieldAddr bg (((BG 1 rfl).trans rfl)))),fun e_ w_ BH BG BF=>aM rfl (aa (cI.load bG ((BF 2 rfl)) ((be.ext hA1 BH).at_ (i:=0) rfl rfl))),fun e_ w_ BH BG BF=>dj.mono (dj.call td (aI ((BF 3 rfl))) (iy _ r (by omega))) fun v BJ hv=>⟨hv.1,cH.low hv.2 BH.size,dD fun b hb=>eU hv.2 hb⟩,fun e_ w_ BH BG BF=>aM rfl (aa (cI.fieldAddr bg (((BG 1 rfl).trans rfl)))),fun e_ w_ BH BG BF=>aM rfl (aa (cI.load bG ((BF 5 rfl)) ((be.ext hA1 BH).at_ (i:=0) rfl rfl))),fun e_ w_ BH BG BF=>dj.mono (dj.call td (aI ((BF 6 rfl))) (iy _ r (by omega))) fun v BJ hv=>⟨hv.1,cH.low hv.2 BH.size,dD fun b hb=>eU hv.2 hb⟩,trivial⟩ ?_;intro e1 w3 hx3 ho1 hf1 hp1;replace hA1:=be.ext hA1 hx3;replace hA2:=be.ext hA2 hx3;replace hX:=aF.trans hX hx3;have s1_e1:e1 1= .pointer (some ⟨g1,0,none⟩):=(ho1 1 rfl).trans rfl;have s2_e1:e1 2= .pointer (some ⟨g2,0,none⟩):=(ho1 2 rfl).trans rfl;have s8_e1:cH w3 (e1 8) w2.heap.size r c M (1 + b0):=hf1 1 rfl;have s11_e1:cH w3 (e1 11) w2.heap.size r r dA 1:=hf1 4 rfl;have s14_e1:cH w3 (e1 14) w2.heap.size r r dA 1:=hf1 7 rfl;obtain ⟨hm,km,ρm,hqm,hMm⟩:=s8_e1;have hdm:=cD.dlim hMm;obtain ⟨hu,ku,ρu,hqu,hMu⟩:=s11_e1;have hdu:=cD.dlim hMu;obtain ⟨hv,kv,ρv,hqv,hMv⟩:=s14_e1;have hdv:=cD.dlim hMv;obtain ⟨nmu,dmu⟩:=eQ hMm hMu (by rw [←hqm,←hqu];exact hp1 1 4 rfl rfl rfl rfl);obtain ⟨nmv,dmv⟩:=eQ hMm hMv (by rw [←hqm,←hqv];exact hp1 1 7 rfl rfl rfl rfl);obtain ⟨nuv,duv⟩:=eQ hMu hMv (by rw [←hqu,←hqv];exact hp1 4 7 rfl rfl rfl rfl);refine RL.p rfl rfl (cI.build (vs:= [(0,.agg #[.int .i64 ((r:Nat)),.int .i64 ((c:Nat)),.slice (some ⟨hm,0,none⟩) (r) (km)]),(1,.agg #[.int .i64 ((r:Nat)),.int .i64 ((r:Nat)),.slice (some ⟨hu,0,none⟩) (r) (ku)]),(2,.agg #[.int .i64 ((r:Nat)),.int .i64 ((r:Nat)),.slice (some ⟨hv,0,none⟩) (r) (kv)])]) [(0,3),(3,3),(6,3)] zN zL (eC hqm hqu hqv) (jY rfl)) ?_;refine RL.x rfl rfl (dj.box [.int .i64 ((r:Nat)),.int .i64 ((c:Nat)),.slice (some ⟨hm,0,none⟩) (r) (km),.int .i64 ((r:Nat)),.int .i64 ((r:Nat)),.slice (some ⟨hu,0,none⟩) (r) (ku),.int .i64 ((r:Nat)),.int .i64 ((r:Nat)),.slice (some ⟨hv,0,none⟩) (r) (kv)] rfl rfl) ?_;rintro _ w4 ⟨gw,rfl,hge3,hx4,hA3⟩;have hbs3:w.heap.size≤gw:=Nat.le_trans hX.size hge3;replace hA1:=be.ext hA1 hx4;replace hA2:=be.ext hA2 hx4;replace hMm:=cD.ext hMm hx4;replace hMu:=cD.ext hMu hx4;replace hMv:=cD.ext hMv hx4;replace hX:=aF.trans hX hx4;refine RL.p rfl rfl (cI.assign rfl) ?_;refine RL.nil ?_;have hW:bT 74 w4 B gw r c M dA dA b:=⟨hm,hu,hv,km,ku,kv,ρm,ρu,ρv,(by rw [hBe];exact hbs3),hA3,cD.up (cD.low hMm hX1s) (by omega) (by omega),cD.up (cD.low hMu hX1s) (by omega) (by omega),cD.up (cD.low hMv hX1s) (by omega) (by omega),nmu,nmv,nuv,dmu,dmv,duv⟩
 skip
 refine ab ?_;refine RL.p rfl rfl (cI.assign rfl) ?_;refine RL.nil ?_;refine WP.seq ?_;refine ab ?_;refine RL.p rfl rfl (cI.assign rfl) ?_;refine RL.nil ?_;refine WP.block ?_;refine WP.loop (fun mz ez uz=>∃top:Nat,∃q:Nat,∃S:WS,(mz=c - q)∧(ez 1= .pointer (some ⟨g1,0,none⟩))∧(ez 2= .pointer (some ⟨g2,0,none⟩))∧(ez 3= .pointer (some ⟨gw,0,none⟩))∧(ez 4= .int .i64 ((top:Nat)))∧(ez 5= .int .i64 ((q:Nat)))∧(top≤r)∧(q≤c)∧(F top q S)∧(aF w uz)∧(be uz g1 28 3 (bS [.int .i64 ((r:Nat)),.int .i64 ((c:Nat)),sx]))∧(be uz g2 31 9 (bS [.int .i64 (0),.int .i64 (0),.slice (none) (0) (0),.int .i64 (0),.int .i64 (0),.slice (none) (0) (0),.int .i64 (0),.int .i64 (0),.slice (none) (0) (0)]))∧(bT 74 uz B gw r c (S).M (S).U (S).V b)) (c - 0) ?_ ?_
 · exact ⟨0,0,⟨M,dA,dA⟩,rfl,s1_e1,s2_e1,rfl,rfl,rfl,(by omega),(by omega),hF0,hX,hA1,hA2,hW⟩
 rintro m1 e2 w5 ⟨top,q,S,hm1,s1_e2,s2_e2,s3_e2,s4_e2,s5_e2,htop,hq,hF,hX1,hA1,hA2,hW⟩;refine WP.seq ?_;refine aK am 10 [_,_,_,_,fun v BI=>v= .bool (decide (((q:Nat):Int)<((c:Nat):Int))),_,_,_,_,_] rfl rfl (fun e_ w_ BH BG=>⟨fun _=>aa (cI.move ((BG 5 rfl s5_e2))),fun _=>aa (cI.fieldAddr bE ((BG 1 rfl s1_e2))),fun BF=>aa (cI.load bG ((BF 1 rfl)) ((be.ext hA1 BH).at_ (i:=1) rfl rfl)),fun BF=>aa (cI.lss ((BF 0 rfl)) ((BF 2 rfl))),fun BF=>aa (cI.move ((BF 3 rfl))),fun BF=>gT (BF 4 rfl) fun hg=>aa (cI.move ((BG 4 rfl s4_e2))),fun BF=>gT (BF 4 rfl) fun hg=>aa (cI.fieldAddr bg ((BG 1 rfl s1_e2))),fun BF=>gT (BF 4 rfl) fun hg=>aa (cI.load bG ((BF 6 rfl hg)) ((be.ext hA1 BH).at_ (i:=0) rfl rfl)),fun BF=>gT (BF 4 rfl) fun hg=>aa (cI.lss ((BF 5 rfl hg)) ((BF 7 rfl hg))),fun BF=>aa (ay (p:=((q:Nat):Int)<((c:Nat):Int)) (q:=((top:Nat):Int)<((r:Nat):Int)) (BF 4 rfl) (fun hq=>(BF 8 rfl hq))),trivial⟩) ?_;intro e3 w6 hx5 ho2 hf2;replace hA1:=be.ext hA1 hx5;replace hA2:=be.ext hA2 hx5;replace hW:=bT.ext hW hx5;replace hX1:=aF.trans hX1 hx5;have s1_e3:=ho2 1 rfl s1_e2;have s2_e3:=ho2 2 rfl s2_e2;have s3_e3:=ho2 3 rfl s3_e2;have s4_e3:=ho2 4 rfl s4_e2;have s5_e3:=ho2 5 rfl s5_e2;have s26_e3:e3 26=_:=hf2 9 rfl;refine RL.nil ?_;refine ag ((((q:Nat):Int)<((c:Nat):Int))∧(((top:Nat):Int)<((r:Nat):Int))) s26_e3 (fun c26=> ?_) (fun c26=> ?_)
 ·
  refine WP.skip ?_;refine pR.norm ?_;refine WP.seq ?_;refine WP.block ?_;refine WP.seq ?_;obtain ⟨m0,hJ0⟩:=hstart top q S (by omega) (by omega) hF;refine ab ?_;refine RL.p rfl rfl (cI.move s3_e3) ?_;refine RL.p rfl rfl (cI.move s4_e3) ?_;refine RL.p rfl rfl (cI.move s5_e3) ?_;refine RL.x rfl rfl (cT Au (cS rfl rfl rfl) (wt _ _ _ _ _ _ _ top q (J top q) m0 hW (by omega) (by omega) (by omega) hJ0 (fun m S hJ h0 ho n hn=>hfit top q m S (by omega) (by omega) hJ h0 ho n hn) (fun m S hJ h0 ho=>hnext top q m S (by omega) (by omega) hJ h0 ho))) ?_;rintro _ w8 ⟨hk1,m1,S1,S2,hJ1,hN,rfl,hcase⟩;replace hA1:=dz hA1 hk1 (by decide);replace hA2:=dz hA2 hk1 (by decide);replace hX1:=dW hX1 hk1 hBle;replace hW:bT 74 w8 B gw r c (S2).M (S2).U (S2).V b:=hN;refine RL.p rfl rfl (cI.not (p:=0≤(bN (fun a=>S1.M a q) top (r - top)).1) rfl) ?_;refine RL.nil ?_;refine ag (¬(0≤(bN (fun a=>S1.M a q) top (r - top)).1)) rfl (fun c33=> ?_) (fun c33=> ?_)
  ·
   refine WP.exit ?_;refine pR.exit ?_;refine jm.same ?_;refine pR.norm ?_;refine WP.region ?_;refine RL.p rfl rfl (cI.move s5_e3) ?_;refine RL.p rfl rfl (cI.add (c:=((q + 1:Nat):Int)) rfl rfl (bU (by omega))) ?_;refine RL.p rfl rfl (cI.assign rfl) ?_;refine RL.nil ?_;have hS:S2=S1:=by
     rcases hcase with h | h
     · exact h.2
     · omega
   refine pR.norm ⟨_,(by omega),_,_,S2,rfl,s1_e3,s2_e3,s3_e3,s4_e3,rfl,(by omega),(by omega),(hS▸hno top q m1 S1 (by omega) (by omega) hJ1 (by omega)),hX1,hA1,hA2,hW⟩
  ·
   refine WP.skip ?_;refine pR.norm ?_;refine WP.seq ?_;obtain ⟨hp0,ho,hS⟩:0≤(bN (fun a=>S1.M a q) top (r - top)).1∧(bN (fun a=>S1.M a q) top (r - top)).2=false∧S2=sn S1 ((bN (fun a=>S1.M a q) top (r - top)).1.toNat) top q:=by
     rcases hcase with h | h
     · omega
     · exact h
   subst hS;have hpz:S1.M ((bN (fun a=>S1.M a q) top (r - top)).1.toNat) q≠0:=(fj (x:=fun a=>S1.M a q) (top:=top) (n:=r - top) (by omega)).2.2.1;have hq0:(sn S1 ((bN (fun a=>S1.M a q) top (r - top)).1.toNat) top q).M top q≠0:=by rw [jq];omega
   obtain ⟨hfr,hF2⟩:=hra top q m1 S1 (by omega) (by omega) hJ1 hp0 ho;refine ab ?_;refine RL.p rfl rfl (cI.move s4_e3) ?_;refine RL.p rfl rfl (cI.move rfl) ?_;refine RL.nil ?_;refine WP.block ?_;refine WP.loop (fun mz ez uz=>∃n:Nat,(mz=top - n)∧(ez 1= .pointer (some ⟨g1,0,none⟩))∧(ez 2= .pointer (some ⟨g2,0,none⟩))∧(ez 3= .pointer (some ⟨gw,0,none⟩))∧(ez 4= .int .i64 ((top:Nat)))∧(ez 5= .int .i64 ((q:Nat)))∧(ez 34= .int .i64 ((top:Nat)))∧(ez 35= .int .i64 ((n:Nat)))∧(n≤top)∧(aF w uz)∧(be uz g1 28 3 (bS [.int .i64 ((r:Nat)),.int .i64 ((c:Nat)),sx]))∧(be uz g2 31 9 (bS [.int .i64 (0),.int .i64 (0),.slice (none) (0) (0),.int .i64 (0),.int .i64 (0),.slice (none) (0) (0),.int .i64 (0),.int .i64 (0),.slice (none) (0) (0)]))∧(bT 74 uz B gw r c (ra (sn S1 ((bN (fun a=>S1.M a q) top (r - top)).1.toNat) top q) top q n).M (ra (sn S1 ((bN (fun a=>S1.M a q) top (r - top)).1.toNat) top q) top q n).U (ra (sn S1 ((bN (fun a=>S1.M a q) top (r - top)).1.toNat) top q) top q n).V b)) (top - 0) ?_ ?_
   · exact ⟨0,rfl,s1_e3,s2_e3,s3_e3,s4_e3,s5_e3,rfl,rfl,(by omega),hX1,hA1,hA2,hW⟩
   rintro m2 e4 w9 ⟨n,hm2,s1_e4,s2_e4,s3_e4,s4_e4,s5_e4,s34_e4,s35_e4,hn,hX2,hA1,hA2,hW⟩;have hqz:(ra (sn S1 ((bN (fun a=>S1.M a q) top (r - top)).1.toNat) top q) top q n).M top q≠0:=by rw [pn _ _ _ _ _ (by omega)];exact hq0
   refine ab ?_;refine RL.p rfl rfl (cI.lss s35_e4 s34_e4) ?_;refine RL.nil ?_;refine WP.seq ?_;refine ag (((n:Nat):Int)<((top:Nat):Int)) rfl (fun c36=> ?_) (fun c36=> ?_)
   ·
    refine WP.skip ?_;refine pR.norm ?_;refine WP.seq ?_;refine WP.block ?_;refine ab ?_;refine RL.p rfl rfl (cI.move s35_e4) ?_;refine RL.p rfl rfl (cI.assign rfl) ?_;refine RL.nil ?_;have hWc:=hW;obtain ⟨hm_1,hu_1,hv_1,km_1,ku_1,kv_1,ρm_1,ρu_1,ρv_1,_,hG_1,hMm_1,hMu_1,hMv_1,_⟩:=hWc;have hdm_1:=cD.dlim hMm_1;have hcm_1:=cD.clim hMm_1;have hfitn:jo r c b (cU (ra (sn S1 ((bN (fun a=>S1.M a q) top (r - top)).1.toNat) top q) top q n) n top (-((ra (sn S1 ((bN (fun a=>S1.M a q) top (r - top)).1.toNat) top q) top q n).M n q/(ra (sn S1 ((bN (fun a=>S1.M a q) top (r - top)).1.toNat) top q) top q n).M top q))):=hfr n (by omega);have hij:n≠top:=by omega
    refine WP.ds am 27 [_,_,_,_,_,_,_,_,_,_,_,_,_,_,_,_,_,_,_,_,_,_,_,_,_,_,_] rfl rfl (fun e_ w_ BH BG=>⟨fun _=>aa (cI.move ((BG 3 rfl s3_e4))),fun _=>aa (cI.move ((BG 6 rfl rfl))),fun _=>aa (cI.move ((BG 4 rfl s4_e4))),fun _=>aa (cI.move ((BG 3 rfl s3_e4))),fun BF=>aa (cI.nilCheck ((BF 3 rfl))),fun BF=>aa (cI.fieldAddr cQ ((BF 4 rfl))),fun BF=>aa (cI.fieldAddr aq ((BF 5 rfl))),fun BF=>aa (cI.load aH ((BF 6 rfl)) ((be.ext hG_1 BH).at_ (i:=2) rfl rfl)),fun _=>aa (cI.move ((BG 6 rfl rfl))),fun BF=>aa (cI.index (j:=n) aB ((BF 7 rfl)) ((BF 8 rfl)) rfl (by omega) (by omega)),fun BF=>ah (an (i:=n) aU (BF 9 rfl) (cD.ext hMm_1 BH) (by omega)),fun _=>aa (cI.move ((BG 5 rfl s5_e4))),fun BF=>aa (av (j:=q) bi (BF 10 rfl) rfl (BF 11 rfl) (by omega) (by omega)),fun BF=>ah (aP (j:=q) ao (BF 12 rfl) (cD.row (cD.ext hMm_1 BH) (by omega)) (by omega)),fun _=>aa (cI.move ((BG 3 rfl s3_e4))),fun BF=>aa (cI.nilCheck ((BF 14 rfl))),fun BF=>aa (cI.fieldAddr cQ ((BF 15 rfl))),fun BF=>aa (cI.fieldAddr aq ((BF 16 rfl))),fun BF=>aa (cI.load aH ((BF 17 rfl)) ((be.ext hG_1 BH).at_ (i:=2) rfl rfl)),fun _=>aa (cI.move ((BG 4 rfl s4_e4))),fun BF=>aa (cI.index (j:=top) aB ((BF 18 rfl)) ((BF 19 rfl)) rfl (by omega) (by omega)),fun BF=>ah (an (i:=top) aU (BF 20 rfl) (cD.ext hMm_1 BH) (by omega)),fun _=>aa (cI.move ((BG 5 rfl s5_e4))),fun BF=>aa (av (j:=q) bi (BF 21 rfl) rfl (BF 22 rfl) (by omega) (by omega)),fun BF=>ah (aP (j:=q) ao (BF 23 rfl) (cD.row (cD.ext hMm_1 BH) (by omega)) (by omega)),fun BF=>dj.call tc (ax rfl rfl) (iz _ _ _ _ _ _ _ (BF 13 rfl) (BF 24 rfl) hqz (by omega)),fun BF=>dj.call me (aI rfl) (mC _ _ _ _ ((BF 25 rfl))),trivial⟩) ?_;intro e5 w10 hx7 ho3 hf3;replace hA1:=be.ext hA1 hx7;replace hA2:=be.ext hA2 hx7;replace hW:=bT.ext hW hx7;replace hX2:=aF.trans hX2 hx7;have s1_e5:=ho3 1 rfl s1_e4;have s2_e5:=ho3 2 rfl s2_e4;have s3_e5:=ho3 3 rfl s3_e4;have s4_e5:=ho3 4 rfl s4_e4;have s5_e5:=ho3 5 rfl s5_e4;have s34_e5:=ho3 34 rfl s34_e4;have s35_e5:=ho3 35 rfl s35_e4;have s38_e5:e5 38=_:=hf3 0 rfl;have s39_e5:e5 39=_:=hf3 1 rfl;have s40_e5:e5 40=_:=hf3 2 rfl;have s64_e5:al w10 (e5 64) (-((((ra (sn S1 ((bN (fun a=>S1.M a q) top (r - top)).1.toNat) top q) top q n).M) n q)/(((ra (sn S1 ((bN (fun a=>S1.M a q) top (r - top)).1.toNat) top q) top q n).M) top q))) b:=hf3 26 rfl;refine RL.x rfl rfl (cT xJ (rl s38_e5 s39_e5 s40_e5 rfl) (qT _ _ _ _ _ _ _ _ _ n top _ _ _ hW (by omega) (by omega) s64_e5 (by omega) (by omega) (qZ hfitn (by omega)) (qY hfitn (by omega)) (qX hfitn (by omega)))) ?_;rintro _ w12 ⟨hk2,hN1⟩;replace hA1:=dz hA1 hk2 (by decide);replace hA2:=dz hA2 hk2 (by decide);replace hX2:=dW hX2 hk2 hBle;replace hW:bT 74 w12 B gw r c (cU (ra (sn S1 ((bN (fun a=>S1.M a q) top (r - top)).1.toNat) top q) top q n) n top (-((((ra (sn S1 ((bN (fun a=>S1.M a q) top (r - top)).1.toNat) top q) top q n).M) n q)/(((ra (sn S1 ((bN (fun a=>S1.M a q) top (r - top)).1.toNat) top q) top q n).M) top q)))).M (cU (ra (sn S1 ((bN (fun a=>S1.M a q) top (r - top)).1.toNat) top q) top q n) n top (-((((ra (sn S1 ((bN (fun a=>S1.M a q) top (r - top)).1.toNat) top q) top q n).M) n q)/(((ra (sn S1 ((bN (fun a=>S1.M a q) top (r - top)).1.toNat) top q) top q n).M) top q)))).U (cU (ra (sn S1 ((bN (fun a=>S1.M a q) top (r - top)).1.toNat) top q) top q n) n top (-((((ra (sn S1 ((bN (fun a=>S1.M a q) top (r - top)).1.toNat) top q) top q n).M) n q)/(((ra (sn S1 ((bN (fun a=>S1.M a q) top (r - top)).1.toNat) top q) top q n).M) top q)))).V b:=hN1;refine RL.nil ?_;refine jm.norm ?_;refine pR.norm ?_;refine WP.region ?_;refine RL.p rfl rfl (cI.add (c:=((n + 1:Nat):Int)) s35_e5 rfl (bU (by omega))) ?_;refine RL.p rfl rfl (cI.move rfl) ?_;refine RL.nil ?_;refine pR.norm ⟨_,(by omega),n + 1,rfl,s1_e5,s2_e5,s3_e5,s4_e5,s5_e5,s34_e5,rfl,(by omega),hX2,hA1,hA2,hW⟩
   ·
    refine WP.exit ?_;refine pR.exit ?_;refine pR.exit ?_;refine jm.same ?_;refine pR.norm ?_;refine WP.region ?_;refine RL.p rfl rfl (cI.move s4_e4) ?_;refine RL.p rfl rfl (cI.add (c:=((top + 1:Nat):Int)) rfl rfl (bU (by omega))) ?_;refine RL.p rfl rfl (cI.assign rfl) ?_;refine RL.nil ?_;refine jm.norm ?_;refine pR.norm ?_;refine WP.region ?_;refine RL.p rfl rfl (cI.move s5_e4) ?_;refine RL.p rfl rfl (cI.add (c:=((q + 1:Nat):Int)) rfl rfl (bU (by omega))) ?_;refine RL.p rfl rfl (cI.assign rfl) ?_;refine RL.nil ?_;have hnt:n=top:=by omega
    rw [hnt] at hW;refine pR.norm ⟨_,(by omega),_,_,_,rfl,s1_e4,s2_e4,s3_e4,rfl,rfl,(by omega),(by omega),hF2,hX2,hA1,hA2,hW⟩
 ·
  refine WP.exit ?_;refine pR.exit ?_;refine pR.exit ?_;refine jm.same ?_;refine pR.norm ?_;have hWc:=hW;obtain ⟨hm_2,hu_2,hv_2,km_2,ku_2,kv_2,ρm_2,ρu_2,ρv_2,_,hG_2,hMm_2,hMu_2,hMv_2,_⟩:=hWc;have hdm_2:=cD.dlim hMm_2;have hcm_2:=cD.clim hMm_2;have hdu_2:=cD.dlim hMu_2;have hdv_2:=cD.dlim hMv_2
  skip
  refine aK am 12 [_,_,_,_,_,_,_,_,_,_,_,_] rfl rfl (fun e_ w_ BH BG=>⟨fun _=>aa (cI.move ((BG 3 rfl s3_e3))),fun BF=>aa (cI.nilCheck ((BF 0 rfl))),fun BF=>aa (cI.fieldAddr cQ ((BF 1 rfl))),fun BF=>aa (af [.int .i64 ((r:Nat)),.int .i64 ((c:Nat)),.slice (some ⟨hm_2,0,none⟩) (r) (km_2)] aR ((BF 2 rfl)) ((be.ext hG_2 BH).cells 0 _ rfl rfl)),fun _=>aa (cI.move ((BG 3 rfl s3_e3))),fun BF=>aa (cI.nilCheck ((BF 4 rfl))),fun BF=>aa (cI.fieldAddr ea ((BF 5 rfl))),fun BF=>aa (af [.int .i64 ((r:Nat)),.int .i64 ((r:Nat)),.slice (some ⟨hu_2,0,none⟩) (r) (ku_2)] aR ((BF 6 rfl)) ((be.ext hG_2 BH).cells 3 _ rfl rfl)),fun _=>aa (cI.move ((BG 3 rfl s3_e3))),fun BF=>aa (cI.nilCheck ((BF 8 rfl))),fun BF=>aa (cI.fieldAddr ko ((BF 9 rfl))),fun BF=>aa (af [.int .i64 ((r:Nat)),.int .i64 ((r:Nat)),.slice (some ⟨hv_2,0,none⟩) (r) (kv_2)] aR ((BF 10 rfl)) ((be.ext hG_2 BH).cells 6 _ rfl rfl)),trivial⟩) ?_;intro e6 w13 hx9 ho4 hf4;replace hA2:=be.ext hA2 hx9;replace hMm_2:=cD.ext hMm_2 hx9;replace hMu_2:=cD.ext hMu_2 hx9;replace hMv_2:=cD.ext hMv_2 hx9;replace hX1:=aF.trans hX1 hx9;have s2_e6:=ho4 2 rfl s2_e3;have s72_e6:e6 72=_:=hf4 3 rfl;have s76_e6:e6 76=_:=hf4 7 rfl;have s80_e6:e6 80=_:=hf4 11 rfl;refine RL.p rfl rfl (cI.build (vs:= [(0,.agg #[.int .i64 ((r:Nat)),.int .i64 ((c:Nat)),.slice (some ⟨hm_2,0,none⟩) (r) (km_2)]),(1,.agg #[.int .i64 ((r:Nat)),.int .i64 ((r:Nat)),.slice (some ⟨hu_2,0,none⟩) (r) (ku_2)]),(2,.agg #[.int .i64 ((r:Nat)),.int .i64 ((r:Nat)),.slice (some ⟨hv_2,0,none⟩) (r) (kv_2)])]) [(0,3),(3,3),(6,3)] jR ef (eC s72_e6 s76_e6 s80_e6) (jY rfl)) ?_;refine RL.x rfl rfl (dj.store [.int .i64 ((r:Nat)),.int .i64 ((c:Nat)),.slice (some ⟨hm_2,0,none⟩) (r) (km_2),.int .i64 ((r:Nat)),.int .i64 ((r:Nat)),.slice (some ⟨hu_2,0,none⟩) (r) (ku_2),.int .i64 ((r:Nat)),.int .i64 ((r:Nat)),.slice (some ⟨hv_2,0,none⟩) (r) (kv_2)] ik s2_e6 rfl rfl hA2 (Nat.le_of_ble_eq_true rfl) (it rfl rfl rfl rfl rfl rfl rfl rfl rfl)) ?_;rintro _ w14 ⟨hk3,hnew⟩;replace hMm_2:=aE hMm_2 hk3 hA2 (by decide);replace hMu_2:=aE hMu_2 hk3 hA2 (by decide);replace hMv_2:=aE hMv_2 hk3 hA2 (by decide);replace hX1:=hX1.step hk3 (fun b e=>by subst e;exact hbs2);replace hA2:=hnew.lit [.int .i64 ((r:Nat)),.int .i64 ((c:Nat)),.slice (some ⟨hm_2,0,none⟩) (r) (km_2),.int .i64 ((r:Nat)),.int .i64 ((r:Nat)),.slice (some ⟨hu_2,0,none⟩) (r) (ku_2),.int .i64 ((r:Nat)),.int .i64 ((r:Nat)),.slice (some ⟨hv_2,0,none⟩) (r) (kv_2)] rfl;clear hnew;refine RL.nil ?_;refine WP.ret ?_;refine ⟨.agg #[.int .i64 ((r:Nat)),.int .i64 ((c:Nat)),.slice (some ⟨hm_2,0,none⟩) (r) (km_2),.int .i64 ((r:Nat)),.int .i64 ((r:Nat)),.slice (some ⟨hu_2,0,none⟩) (r) (ku_2),.int .i64 ((r:Nat)),.int .i64 ((r:Nat)),.slice (some ⟨hv_2,0,none⟩) (r) (kv_2)],Bb.one (aj [.int .i64 ((r:Nat)),.int .i64 ((c:Nat)),.slice (some ⟨hm_2,0,none⟩) (r) (km_2),.int .i64 ((r:Nat)),.int .i64 ((r:Nat)),.slice (some ⟨hu_2,0,none⟩) (r) (ku_2),.int .i64 ((r:Nat)),.int .i64 ((r:Nat)),.slice (some ⟨hv_2,0,none⟩) (r) (kv_2)] iq s2_e6 (hA2.cells 0 _ rfl rfl)),_,rfl,hX1,?_⟩;dsimp only;exact ⟨top,q,S,hF,by omega,htop,hq,_,_,_,rfl,⟨by omega,by omega⟩,by omega,cD.hdrV hMm_2 (by omega) (by omega),cD.hdrV hMu_2 (by omega) (by omega),cD.hdrV hMv_2 (by omega) (by omega)⟩
end Go.TL
namespace Go.TL
set_option linter.unusedVariables false
def aO:Nat→(Nat→Int)→Int
  | 0,_=>0
  | n + 1,f=>aO n f + f n
section
variable {f g:Nat→Int} {n:Nat}
theorem aL:∀{n:Nat},(∀i,i<n→f i=g i)→aO n f=aO n g
  | 0,_=>rfl
  | n + 1,h=>by simp only [aO];rw [aL (n:=n) fun i hi=>h i (by omega),h n (by omega)]
theorem dc:∀{n:Nat},(∀i,i<n→f i=0)→aO n f=0
  | 0,_=>rfl
  | n + 1,h=>by simp only [aO];rw [dc (n:=n) fun i hi=>h i (by omega),h n (by omega)];rfl
theorem eZ (f g:Nat→Int):∀n,aO n (fun i=>f i + g i)=aO n f + aO n g
  | 0=>rfl
  | n + 1=>by simp only [aO];rw [eZ f g n];omega
theorem iM (f g:Nat→Int):∀n,aO n (fun i=>f i - g i)=aO n f - aO n g
  | 0=>rfl
  | n + 1=>by simp only [aO];rw [iM f g n];omega
theorem ew (k:Int) (f:Nat→Int):∀n,aO n (fun i=>k*f i)=k*aO n f
  | 0=>by simp [aO]
  | n + 1=>by simp only [aO];rw [ew k f n,Int.mul_add]
theorem rN (k:Int) (f:Nat→Int) (n:Nat):aO n (fun i=>f i*k)=aO n f*k:=by
  rw [Int.mul_comm,←ew];exact aL fun i _=>Int.mul_comm _ _
theorem nZ (f:Nat→Int) (n:Nat):aO n (fun i=> -f i)= -aO n f:=by
  have:=ew (-1) f n;rw [show (-1:Int)*aO n f= -aO n f by omega] at this;rw [←this];exact aL fun i _=>by omega
theorem eY {i:Nat}:∀{n:Nat},i<n→aO n (fun x=>if x=i then f x else 0)=f i
  | 0,h=>by omega
  | n + 1,h=>by
    simp only [aO]
    by_cases e:i=n
    · subst e
      rw [dc fun x hx=>by rw [if_neg (by omega)],if_pos rfl];omega
    · rw [eY (n:=n) (by omega),if_neg (by omega)];omega
theorem jp {i:Nat} (hi:i<n) (h:∀x,x<n→x≠i→f x=0):aO n f=f i:=by
  rw [←eY (f:=f) hi];exact aL fun x hx=>by
    by_cases e:x=i
    · rw [if_pos e]
    · rw [if_neg e,h x hx e]
theorem mg (F:Nat→Nat→Int) (m:Nat):∀n,aO n (fun i=>aO m (fun j=>F i j))=aO m (fun j=>aO n (fun i=>F i j))
  | 0=>by simp only [aO];rw [dc fun _ _=>rfl]
  | n + 1=>by simp only [aO];rw [mg F m n,←eZ]
theorem rM {i j:Nat} (hi:i<n) (hj:j<n):aO n (fun x=>f (fQ id i j x))=aO n f:=by
  by_cases e:i=j
  · subst e
    refine aL fun x _=> ?_
    unfold fQ
    split
    · rename_i h;rw [h];rfl
    · rfl
  · have h1:aO n (fun x=>f (fQ id i j x))=aO n (fun x=>f x + ((if x=i then (fun _=>f j - f i) x else 0) + (if x=j then (fun _=>f i - f j) x else 0))):=by
      refine aL fun x _=> ?_
      unfold fQ
      by_cases e1:x=i
      · subst e1;rw [if_pos rfl,if_pos rfl,if_neg e];simp only [id];omega
      · rw [if_neg e1,if_neg e1]
        by_cases e2:x=j
        · subst e2;rw [if_pos rfl,if_pos rfl];simp only [id];omega
        · rw [if_neg e2,if_neg e2];simp only [id];omega
    rw [h1,eZ,eZ,eY hi,eY hj];omega
theorem kZ {B:Nat}:∀{n:Nat},(∀i,i<n→(f i).natAbs≤B)→(aO n f).natAbs≤n*B
  | 0,_=>by simp [aO]
  | n + 1,h=>by
    have h1:=kZ (n:=n) (B:=B) fun i hi=>h i (by omega)
    have h2:=h n (by omega);simp only [aO];rw [Nat.add_mul];omega
end
def bK (n:Nat) (A B:Nat→Nat→Int):Nat→Nat→Int:=fun i j=>aO n fun a=>A i a*B a j
theorem lC {n:Nat} {A A' B B':Nat→Nat→Int} {i j:Nat} (hA:∀a,a<n→A i a=A' i a) (hB:∀a,a<n→B a j=B' a j):bK n A B i j=bK n A' B' i j:=
  aL fun a ha=>by rw [hA a ha,hB a ha]
theorem lD (n m:Nat) (A B C:Nat→Nat→Int) (i j:Nat):bK m (bK n A B) C i j=bK n A (bK m B C) i j:=by
  unfold bK
  have h1:aO m (fun a=>aO n (fun b=>A i b*B b a)*C a j)=aO m (fun a=>aO n (fun b=>A i b*B b a*C a j)):=aL fun a _=>(rN _ _ _).symm
  have h2:aO n (fun b=>A i b*aO m (fun a=>B b a*C a j))=aO n (fun b=>aO m (fun a=>A i b*B b a*C a j)):=
    aL fun b _=>by rw [←ew];exact aL fun a _=>by rw [Int.mul_assoc]
  rw [h1,h2,mg]
theorem kB {n:Nat} (A:Nat→Nat→Int) {i j:Nat} (hi:i<n):bK n dA A i j=A i j:=by
  unfold bK dA
  rw [jp hi fun x hx e=>by rw [if_neg (fun h=>e h.symm)];omega,if_pos rfl];omega
theorem ms {n:Nat} (U B:Nat→Nat→Int) (i j:Nat) (k:Int) (a b:Nat):bK n (cX U i j k) B a b=cX (bK n U B) i j k a b:=by
  unfold bK cX
  by_cases e:a=i
  · simp only [if_pos e]
    rw [←ew,←eZ];exact aL fun x _=>by rw [Int.add_mul,Int.mul_assoc]
  · simp only [if_neg e]
theorem rV {n:Nat} (A V:Nat→Nat→Int) (i j:Nat) (k:Int) (a b:Nat):bK n A (dR V i j k) a b=dR (bK n A V) i j k a b:=by
  unfold bK dR
  by_cases e:b=j
  · simp only [if_pos e]
    rw [←ew,←iM];exact aL fun x _=>by rw [Int.mul_sub,Int.mul_left_comm]
  · simp only [if_neg e]
theorem lB {n:Nat} (U B:Nat→Nat→Int) (i j a b:Nat):bK n (cE U i j) B a b=cE (bK n U B) i j a b:=by
  unfold bK cE
  by_cases e:a=i
  · simp only [if_pos e]
  · simp only [if_neg e]
    by_cases e2:a=j
    · simp only [if_pos e2]
    · simp only [if_neg e2]
theorem px {n:Nat} (A V:Nat→Nat→Int) (i j a b:Nat):bK n A (cY V i j) a b=cY (bK n A V) i j a b:=by
  unfold bK cY
  by_cases e:b=i
  · simp only [if_pos e]
  · simp only [if_neg e]
    by_cases e2:b=j
    · simp only [if_pos e2]
    · simp only [if_neg e2]
theorem mr {n:Nat} (U B:Nat→Nat→Int) (i a b:Nat):bK n (dq U i) B a b=dq (bK n U B) i a b:=by
  unfold bK dq
  by_cases e:a=i
  · simp only [if_pos e]
    rw [←nZ];exact aL fun x _=>by rw [Int.neg_mul]
  · simp only [if_neg e]
theorem rW {n:Nat} (A V:Nat→Nat→Int) (i a b:Nat):bK n A (eJ V i) a b=eJ (bK n A V) i a b:=by
  unfold bK eJ
  by_cases e:b=i
  · simp only [if_pos e]
    rw [←nZ];exact aL fun x _=>by rw [Int.mul_neg]
  · simp only [if_neg e]
structure Lin (r c:Nat) (M0:Nat→Nat→Int) (S:WS):Prop where
  eq:∀i j,i<r→j<c→S.M i j=bK r S.U M0 i j
  uv:∀i j,i<r→j<r→bK r S.U S.V i j=dA i j
  vu:∀i j,i<r→j<r→bK r S.V S.U i j=dA i j
section
variable {r c:Nat} {M0:Nat→Nat→Int} {S:WS}
theorem Lin.start (M0:Nat→Nat→Int):Lin r c M0 ⟨M0,dA,dA⟩:=
  ⟨fun i j hi _=>(kB M0 hi).symm,fun i j hi _=>kB dA hi,fun i j hi _=>kB dA hi⟩
theorem Lin.add (h:Lin r c M0 S) {i j:Nat} (k:Int) (hi:i<r) (hj:j<r) (hij:i≠j):Lin r c M0 (cU S i j k):=by
  refine ⟨fun a b ha hb=> ?_,fun a b ha hb=> ?_,fun a b ha hb=> ?_⟩
  · show cX S.M i j k a b=bK r (cX S.U i j k) M0 a b
    rw [ms];unfold cX;rw [h.eq i b hi hb,h.eq j b hj hb,h.eq a b ha hb]
  · show bK r (cX S.U i j k) (dR S.V i j k) a b=_
    rw [ms];unfold cX;have e1:∀x,x<r→bK r S.U (dR S.V i j k) x b=dR dA i j k x b:=fun x hx=>by
      rw [rV];unfold dR;rw [h.uv x j hx hj,h.uv x i hx hi,h.uv x b hx hb]
    rw [e1 i hi,e1 j hj,e1 a ha]
    unfold dR dA
    by_cases c1:a=i
    · subst c1
      by_cases c2:b=j
      · subst c2;simp [hij];split<;>(simp_all<;>omega)
      · simp [c2];rw [if_neg (fun h=>c2 h.symm:¬j=b)];omega
    · by_cases c2:b=j
      · subst c2;simp [c1]
      · simp [c1,c2]
  · show bK r (dR S.V i j k) (cX S.U i j k) a b=_
    rw [←h.vu a b ha hb];have e1:bK r (dR S.V i j k) (cX S.U i j k) a b=aO r (fun x=>S.V a x*S.U x b + ((if x=i then (fun _=>k*(S.V a i*S.U j b)) x else 0) + (if x=j then (fun _=> -(k*(S.V a i*S.U j b))) x else 0))):=by
      refine aL fun x _=> ?_
      unfold dR cX
      by_cases c1:x=i
      · subst c1
        simp [hij,Int.mul_add,Int.mul_left_comm]
      · by_cases c2:x=j
        · subst c2
          simp [c1,Int.sub_mul,Int.mul_assoc];omega
        · simp [c1,c2]
    rw [e1,eZ,eZ,eY hi,eY hj]
    unfold bK;omega
theorem wq {i j a b:Nat}:cE (cY dA i j) i j a b=dA a b:=by
  unfold cE cY dA
  by_cases h1:a=i<;>by_cases h2:a=j<;>by_cases h3:b=i<;>by_cases h4:b=j<;>simp_all
  all_goals (try split)<;>(try split)<;>simp_all<;>omega
theorem Lin.swap (h:Lin r c M0 S) {i j:Nat} (hi:i<r) (hj:j<r):Lin r c M0 (bQ S i j):=by
  refine ⟨fun a b ha hb=> ?_,fun a b ha hb=> ?_,fun a b ha hb=> ?_⟩
  · show cE S.M i j a b=bK r (cE S.U i j) M0 a b
    rw [lB];unfold cE
    split
    · exact h.eq j b hj hb
    · split
      · exact h.eq i b hi hb
      · exact h.eq a b ha hb
  · show bK r (cE S.U i j) (cY S.V i j) a b=_
    rw [lB,←wq (i:=i) (j:=j)];have e1:∀x,x<r→bK r S.U (cY S.V i j) x b=cY dA i j x b:=fun x hx=>by
      rw [px];unfold cY;rw [h.uv x j hx hj,h.uv x i hx hi,h.uv x b hx hb]
    unfold cE
    split
    · exact e1 j hj
    · split
      · exact e1 i hi
      · exact e1 a ha
  · show bK r (cY S.V i j) (cE S.U i j) a b=_
    rw [←h.vu a b ha hb]
    unfold bK
    rw [←rM (f:=fun x=>S.V a x*S.U x b) hi hj];refine aL fun x _=> ?_
    unfold cY cE fQ
    by_cases e1:x=i
    · simp [e1]
    · simp only [if_neg e1]
      by_cases e2:x=j
      · simp [e2]
      · simp [e2]
theorem Lin.neg (h:Lin r c M0 S) {i:Nat} (hi:i<r):Lin r c M0 (fC S i):=by
  refine ⟨fun a b ha hb=> ?_,fun a b ha hb=> ?_,fun a b ha hb=> ?_⟩
  · show dq S.M i a b=bK r (dq S.U i) M0 a b
    rw [mr];unfold dq;rw [h.eq i b hi hb,h.eq a b ha hb]
  · show bK r (dq S.U i) (eJ S.V i) a b=_
    rw [mr];unfold dq;have e1:∀x,x<r→bK r S.U (eJ S.V i) x b=eJ dA i x b:=fun x hx=>by
      rw [rW];unfold eJ;rw [h.uv x i hx hi,h.uv x b hx hb]
    rw [e1 i hi,e1 a ha]
    unfold eJ dA
    by_cases c1:a=i<;>by_cases c2:b=i<;>simp_all
    rw [if_neg (fun h=>c2 h.symm:¬i=b)];rfl
  · show bK r (eJ S.V i) (dq S.U i) a b=_
    rw [←h.vu a b ha hb];refine aL fun x _=> ?_
    unfold eJ dq
    by_cases e:x=i
    · simp [e,Int.neg_mul_neg]
    · simp [e]
theorem Lin.back (h:Lin r c M0 S) {i j:Nat} (hi:i<r) (hj:j<c):M0 i j=bK r S.V S.M i j:=by
  have h1:bK r S.V S.M i j=bK r S.V (bK r S.U M0) i j:=lC (fun _ _=>rfl) fun a ha=>h.eq a j ha hj
  rw [h1,←lD,lC (A':=dA) (B':=M0) (fun a ha=>h.vu i a hi ha) (fun _ _=>rfl),kB M0 hi]
end
end Go.TL
namespace Go.TL
open Go.RowKit Go.Proofs
set_option linter.unusedVariables false
def nN (R C n c:Nat):Prop:=R=n∧(n=0∨C=c)
instance (R C n c:Nat):Decidable (nN R C n c):=inferInstanceAs (Decidable (R=n∧(n=0∨C=c)))
theorem nN.same {n c:Nat}:nN n c n c:=⟨rfl,.inr rfl⟩
theorem qa {w:World} {s:Value} {n c C b:Nat} {M:Nat→Nat→Int} (h:co w s n c M b) (he:n=0∨C=c):co w s n C M b:=by
  rcases he with he | he
  · subst he
    obtain ⟨A,k,h1,h2,h3,_⟩:=h;exact ⟨A,k,h1,h2,h3,fun h0=>absurd h0 (by omega)⟩
  · subst he;exact h
def iR (p:(Nat→Int)→Prop) [DecidablePred p] (M:Nat→Nat→Int) (n:Nat):Int:=da (fun b=>b=1) (fun i=>if p (M i) then 1 else 0) n
section
variable {p:(Nat→Int)→Prop} [DecidablePred p] {M:Nat→Nat→Int}
theorem rR {n:Nat} (h:iR p M n= -1) (hp:¬p (M n)):iR p M (n + 1)= -1:=gV h (by simp [hp])
theorem pk {i n:Nat} (h:iR p M i= -1) (hp:p (M i)) (hi:i<n):iR p M n=(i:Int):=ek h (by simp [hp]) hi
theorem vO {n:Nat} (h:¬0≤iR p M n) {i:Nat} (hi:i<n):¬p (M i):=fun hp=>by
  have h1:=(eI (p:=fun b=>b=1) (z:=fun i=>if p (M i) then (1:Int) else 0) n).2;have h2:da (fun b=>b=1) (fun i=>if p (M i) then (1:Int) else 0) n= -1:=by unfold iR at h;omega
  exact eN h2 i hi (by simp [hp])
theorem tH {n:Nat} (h:0≤iR p M n):∃i,i<n∧p (M i):=by
  obtain ⟨i,h1,_,h3,_⟩:=gU h;refine ⟨i,h1,?_⟩
  by_cases hp:p (M i)
  · exact hp
  · simp [hp] at h3
end
def vw (P:Program) (w:World) (fv:Value) (n B:Nat) (p:(Nat→Int)→Prop) [DecidablePred p]:Prop:=∃fid vs us,fv= .func (.func fid) vs us∧aD P fid=true∧
  ∀w',aF w w'→∀x z,bO w' x n z B→Calls P fid (vs ++ #[x] ++ us) w' (ci w' fun v _=>v= .bool (decide (p z)))
def Bh (P:Program) (w:World) (fv:Value) (bx bz b:Nat):Prop:=∃fid vs us,fv= .func (.func fid) vs us∧aD P fid=true∧
  ∀w',aF w w'→∀o x y zo zx zy,al w' o zo b→al w' x zx bx→al w' y zy bz→(zo + zx*zy).natAbs<2^b→Calls P fid (vs ++ #[o,x,y] ++ us) w' (ci w' fun v w''=>al w'' v (zo + zx*zy) b)
section
variable {P:Program} {w w':World} {fv:Value} {n B b bx bz:Nat} {p:(Nat→Int)→Prop} [DecidablePred p]
theorem vw.ext (h:vw P w fv n B p) (hx:aF w w'):vw P w' fv n B p:=by
  obtain ⟨fid,vs,us,h1,h2,h3⟩:=h;exact ⟨fid,vs,us,h1,h2,fun w1 hw=>h3 w1 (hx.trans hw)⟩
theorem Bh.ext (h:Bh P w fv bx bz b) (hx:aF w w'):Bh P w' fv bx bz b:=by
  obtain ⟨fid,vs,us,h1,h2,h3⟩:=h;exact ⟨fid,vs,us,h1,h2,fun w1 hw=>h3 w1 (hx.trans hw)⟩
variable {e:ct} {d:Option Tmp} {ty:TypeId} {pos:String} {after:Array Edge} {gd:Option (Nat×Bool)}
theorem nG {cal x:Operand} {ts:Array TypeId} {u:Value} {z:Nat→Int} (hf:ev e cal=fv) (hF:vw P w fv n B p) (hx:ev e x=u) (hI:bO w u n z B):
    dj P ⟨d,.call {callee:= .value cal,args:= #[x],argTypes:=ts},ty,pos,after,gd⟩ e w (fun v w'=>aF w w'∧v= .bool (decide (p z))):=by
  obtain ⟨fid,vs,us,rfl,hc,hF⟩:=hF;exact dL hc hf (by rw [aI hx]) (hF w (aF.refl w) u z hI) fun _ _ ⟨v,h1,h2,h3⟩=>⟨v,h1,h2,h3⟩
theorem oV {cal o x y:Operand} {ts:Array TypeId} {uo ux uy:Value} {zo zx zy:Int} (hf:ev e cal=fv) (hF:Bh P w fv bx bz b) (ho:ev e o=uo) (hx:ev e x=ux) (hy:ev e y=uy)
    (hO:al w uo zo b) (hX:al w ux zx bx) (hY:al w uy zy bz) (hb:(zo + zx*zy).natAbs<2^b):
    dj P ⟨d,.call {callee:= .value cal,args:= #[o,x,y],argTypes:=ts},ty,pos,after,gd⟩ e w (fun v w'=>aF w w'∧al w' v (zo + zx*zy) b):=by
  obtain ⟨fid,vs,us,rfl,hc,hF⟩:=hF;exact dL hc hf (by rw [cS ho hx hy]) (hF w (aF.refl w) uo ux uy zo zx zy hO hX hY hb) fun _ _ ⟨v,h1,h2,h3⟩=>⟨v,h1,h2,h3⟩
end
def vX (z:Int):Prop:=¬True
instance:DecidablePred vX:=fun z=>inferInstanceAs (Decidable (¬True))
theorem vW (z:Nat→Int) (n:Nat):¬0≤da vX z n:=fun h=>by obtain ⟨i,_,_,h3,_⟩:=gU h;exact h3 trivial
theorem wv {C c n:Nat} {z:Nat→Int} (h:¬(((c:Nat):Int)≠((C:Nat):Int)∨0≤da vX z n)):C=c:=by
  by_cases e:C=c
  · exact e
  · exact absurd (.inl (by omega)) h
theorem ww {R C n c m i:Nat} {z:Nat→Int} (h:nN R C n c) (hi:i<n) (hc:((c:Nat):Int)≠((C:Nat):Int)∨0≤da vX z m):False:=by
  rcases hc with e | e
  · rcases h.2 with h2 | h2
    · omega
    · exact e (by rw [h2])
  · exact vW z m e
theorem uS {o x y:Int} (h:x.sign=0∨y.sign=0):o=o + x*y:=by
  rcases h with h | h
  · rw [Int.sign_eq_zero_iff_zero.1 h,Int.zero_mul,Int.add_zero]
  · rw [Int.sign_eq_zero_iff_zero.1 h,Int.mul_zero,Int.add_zero]
theorem ng (w:World) (x:Value) (rx cx:Nat) (Mx:Nat→Nat→Int) (btx:Nat) (hx:cc w x rx cx Mx btx):
    Calls Tryz.prog 97 #[x] w (ci w fun v w'=>cc w' v cx rx (fun i j=>Mx j i) btx):=by
  refine (oD w x rx cx Mx btx hx).mono ?_;rintro e w' ⟨v,rfl,hx',h⟩;exact ⟨v,rfl,hx',cH.matV h⟩
theorem sQ {w:World} {a b:Value} {z:Int} {n:Nat} (h:al w (.agg #[a,b]) z n):a.oneCell'=true:=by
  obtain ⟨c0,c1,h1,h2,h3⟩:=al.cells h
  injection h1 with h1
  have:=congrArg (fun x:Array Value=>x[0]?) h1;simp at this;rw [this];exact h2
theorem al.oneB {w:World} {a b:Value} {z:Int} {n:Nat} (h:al w (.agg #[a,b]) z n):b.oneCell'=true:=by
  obtain ⟨c0,c1,h1,h2,h3⟩:=al.cells h
  injection h1 with h1
  have:=congrArg (fun x:Array Value=>x[1]?) h1;simp at this;rw [this];exact h3
end Go.TL
namespace Go.TL
set_option linter.unusedVariables false
def kq (S:WS) (top q a:Nat):Int:= -(S.M a q/S.M top q)
theorem ns (S:WS) (top q:Nat):∀n a c,(el S top q n).M a c=if top<a∧a≤top + n then S.M a c + kq S top q a*S.M top c else S.M a c
  | 0,a,c=>by rw [if_neg (by omega)];rfl
  | n + 1,a,c=>by
    have ih:=ns S top q n;simp only [el,cU,cX]
    by_cases e:a=top + 1 + n
    · subst e
      rw [if_pos rfl,if_pos (by omega),ih,ih,ih,ih,if_neg (by omega),if_neg (by omega),if_neg (by omega),if_neg (by omega)];rfl
    · rw [if_neg e,ih]
      by_cases e2:top<a∧a≤top + n
      · rw [if_pos e2,if_pos (by omega)]
      · rw [if_neg e2,if_neg (by omega)]
theorem AV (S:WS) (top q:Nat):∀n a c,(el S top q n).U a c=if top<a∧a≤top + n then S.U a c + kq S top q a*S.U top c else S.U a c
  | 0,a,c=>by rw [if_neg (by omega)];rfl
  | n + 1,a,c=>by
    have ih:=AV S top q n;have im:=ns S top q n;simp only [el,cU,cX]
    by_cases e:a=top + 1 + n
    · subst e
      rw [if_pos rfl,if_pos (by omega),ih,ih,im,im,if_neg (by omega),if_neg (by omega),if_neg (by omega),if_neg (by omega)];rfl
    · rw [if_neg e,ih]
      by_cases e2:top<a∧a≤top + n
      · rw [if_pos e2,if_pos (by omega)]
      · rw [if_neg e2,if_neg (by omega)]
theorem AU (S:WS) (top q:Nat):∀n a c,(el S top q n).V a c=if c=top then S.V a top - aO n (fun x=>kq S top q (top + 1 + x)*S.V a (top + 1 + x)) else S.V a c
  | 0,a,c=>by by_cases e:c=top<;>simp [el,aO,e]
  | n + 1,a,c=>by
    have ih:=AU S top q n;have im:=ns S top q n;simp only [el,cU,dR]
    by_cases e:c=top
    · subst e
      rw [if_pos rfl,if_pos rfl,ih,ih,im,im,if_pos rfl,if_neg (by omega),if_neg (by omega),if_neg (by omega)];simp only [aO,kq];omega
    · rw [if_neg e,if_neg e,ih,if_neg e]
theorem lU (S:WS) (top q:Nat):∀n a c,n≤top→(ra S top q n).M a c=if a<n then S.M a c + kq S top q a*S.M top c else S.M a c
  | 0,a,c,_=>by rw [if_neg (by omega)];rfl
  | n + 1,a,c,hn=>by
    have ih:=fun a c=>lU S top q n a c (by omega)
    simp only [ra,cU,cX]
    by_cases e:a=n
    · subst e
      rw [if_pos rfl,if_pos (by omega),ih,ih,ih,ih,if_neg (by omega),if_neg (by omega),if_neg (by omega),if_neg (by omega)];rfl
    · rw [if_neg e,ih]
      by_cases e2:a<n
      · rw [if_pos e2,if_pos (by omega)]
      · rw [if_neg e2,if_neg (by omega)]
theorem AF (S:WS) (top q:Nat):∀n a c,n≤top→(ra S top q n).U a c=if a<n then S.U a c + kq S top q a*S.U top c else S.U a c
  | 0,a,c,_=>by rw [if_neg (by omega)];rfl
  | n + 1,a,c,hn=>by
    have ih:=fun a c=>AF S top q n a c (by omega)
    have im:=fun a c=>lU S top q n a c (by omega)
    simp only [ra,cU,cX]
    by_cases e:a=n
    · subst e
      rw [if_pos rfl,if_pos (by omega),ih,ih,im,im,if_neg (by omega),if_neg (by omega),if_neg (by omega),if_neg (by omega)];rfl
    · rw [if_neg e,ih]
      by_cases e2:a<n
      · rw [if_pos e2,if_pos (by omega)]
      · rw [if_neg e2,if_neg (by omega)]
theorem AE (S:WS) (top q:Nat):∀n a c,n≤top→(ra S top q n).V a c=if c=top then S.V a top - aO n (fun x=>kq S top q x*S.V a x) else S.V a c
  | 0,a,c,_=>by by_cases e:c=top<;>simp [ra,aO,e]
  | n + 1,a,c,hn=>by
    have ih:=fun a c=>AE S top q n a c (by omega)
    have im:=fun a c=>lU S top q n a c (by omega)
    simp only [ra,cU,dR]
    by_cases e:c=top
    · subst e
      rw [if_pos rfl,if_pos rfl,ih,ih,im,im,if_pos rfl,if_neg (by omega),if_neg (by omega),if_neg (by omega)];simp only [aO,kq];omega
    · rw [if_neg e,if_neg e,ih,if_neg e]
theorem rP (S:WS) (p top q a c:Nat):(a≠top→(sn S p top q).M a c=if a=p then S.M top c else S.M a c)∧((sn S p top q).M top c).natAbs=(S.M p c).natAbs:=by
  have h0:∀c,(bQ S p top).M top c=S.M p c:=fun c=>congrFun (mn S.M p top) c
  constructor
  · intro ha
    have h1:(bQ S p top).M a c=if a=p then S.M top c else S.M a c:=by
      simp only [bQ,cE]
      by_cases e:a=p
      · rw [if_pos e,if_pos e]
      · rw [if_neg e,if_neg ha,if_neg e]
    by_cases h:(bQ S p top).M top q<0
    · rw [js h,←h1];simp only [fC,dq];rw [if_neg ha]
    · rw [jr h,←h1]
  · by_cases h:(bQ S p top).M top q<0
    · rw [js h];simp only [fC,dq,if_true];rw [h0];omega
    · rw [jr h,h0]
theorem tr {r c:Nat} {S:WS} {p top q EM EU EV:Nat} (hp:p<r) (ht:top<r) (hM:∀i j,i<r→j<c→(S.M i j).natAbs≤EM) (hU:∀i j,i<r→j<r→(S.U i j).natAbs≤EU) (hV:∀i j,i<r→j<r→(S.V i j).natAbs≤EV):
    (∀i j,i<r→j<c→((sn S p top q).M i j).natAbs≤EM)∧(∀i j,i<r→j<r→((sn S p top q).U i j).natAbs≤EU)∧∀i j,i<r→j<r→((sn S p top q).V i j).natAbs≤EV:=by
  have h1:∀i j,i<r→j<c→((bQ S p top).M i j).natAbs≤EM:=fun i j hi hj=>by
    simp only [bQ,cE];split
    · exact hM _ _ ht hj
    · split
      · exact hM _ _ hp hj
      · exact hM _ _ hi hj
  have h2:∀i j,i<r→j<r→((bQ S p top).U i j).natAbs≤EU:=fun i j hi hj=>by
    simp only [bQ,cE];split
    · exact hU _ _ ht hj
    · split
      · exact hU _ _ hp hj
      · exact hU _ _ hi hj
  have h3:∀i j,i<r→j<r→((bQ S p top).V i j).natAbs≤EV:=fun i j hi hj=>by
    simp only [bQ,cY];split
    · exact hV _ _ hi ht
    · split
      · exact hV _ _ hi hp
      · exact hV _ _ hi hj
  by_cases h:(bQ S p top).M top q<0
  · rw [js h]
    refine ⟨fun i j hi hj=> ?_,fun i j hi hj=> ?_,fun i j hi hj=> ?_⟩
    · simp only [fC,dq];split
      · rename_i e;subst e;rw [Int.natAbs_neg];exact h1 _ _ hi hj
      · exact h1 _ _ hi hj
    · simp only [fC,dq];split
      · rename_i e;subst e;rw [Int.natAbs_neg];exact h2 _ _ hi hj
      · exact h2 _ _ hi hj
    · simp only [fC,eJ];split
      · rename_i e;subst e;rw [Int.natAbs_neg];exact h3 _ _ hi hj
      · exact h3 _ _ hi hj
  · rw [jr h];exact ⟨h1,h2,h3⟩
theorem ga {x y k:Int} {E K:Nat} (hx:x.natAbs≤E) (hy:y.natAbs≤E) (hk:k.natAbs≤K):(x + k*y).natAbs≤E*(1 + K):=by
  have h1:=Int.natAbs_add_le x (k*y);rw [Int.natAbs_mul] at h1;have h2:=Nat.mul_le_mul hk hy;rw [Nat.mul_add,Nat.mul_one,Nat.mul_comm E K];omega
theorem qq {x:Int} {f:Nat→Int} {E K n R:Nat} (hx:x.natAbs≤E) (hf:∀i,i<n→(f i).natAbs≤K*E) (hn:n≤R):(x - aO n f).natAbs≤E*(1 + R*K):=by
  have h1:=kZ hf;have h2:n*(K*E)≤R*(K*E):=Nat.mul_le_mul_right _ hn;have h3:E*(1 + R*K)=E + R*(K*E):=by rw [Nat.mul_add,Nat.mul_one,Nat.mul_left_comm,Nat.mul_comm E K]
  omega
theorem AT {r c:Nat} {S:WS} {top q n EM EU EV K:Nat} (ht:top<r) (hn:top + n<r) (h7:n≤7) (hK:∀a,top<a→a<r→(kq S top q a).natAbs≤K) (hM:∀i j,i<r→j<c→(S.M i j).natAbs≤EM) (hU:∀i j,i<r→j<r→(S.U i j).natAbs≤EU) (hV:∀i j,i<r→j<r→(S.V i j).natAbs≤EV):
    (∀i j,i<r→j<c→((el S top q n).M i j).natAbs≤EM*(1 + K))∧(∀i j,i<r→j<r→((el S top q n).U i j).natAbs≤EU*(1 + K))∧∀i j,i<r→j<r→((el S top q n).V i j).natAbs≤EV*(1 + 7*K):=by
  have hle:∀E L:Nat,E≤E*(1 + L):=fun E L=>by rw [Nat.mul_add,Nat.mul_one];omega
  refine ⟨fun i j hi hj=> ?_,fun i j hi hj=> ?_,fun i j hi hj=> ?_⟩
  · rw [ns];split
    · rename_i h;exact ga (hM _ _ hi hj) (hM _ _ ht hj) (hK i h.1 hi)
    · exact Nat.le_trans (hM _ _ hi hj) (hle _ _)
  · rw [AV];split
    · rename_i h;exact ga (hU _ _ hi hj) (hU _ _ ht hj) (hK i h.1 hi)
    · exact Nat.le_trans (hU _ _ hi hj) (hle _ _)
  · rw [AU];split
    · exact qq (hV _ _ hi ht) (fun x hx=>by rw [Int.natAbs_mul];exact Nat.mul_le_mul (hK _ (by omega) (by omega)) (hV _ _ hi (by omega))) h7
    · exact Nat.le_trans (hV _ _ hi hj) (hle _ _)
theorem xQ {r c:Nat} {S:WS} {top q n EM EU EV K:Nat} (ht:top<r) (hn:n≤top) (h7:n≤7) (hK:∀a,a<top→(kq S top q a).natAbs≤K) (hM:∀i j,i<r→j<c→(S.M i j).natAbs≤EM) (hU:∀i j,i<r→j<r→(S.U i j).natAbs≤EU) (hV:∀i j,i<r→j<r→(S.V i j).natAbs≤EV):
    (∀i j,i<r→j<c→((ra S top q n).M i j).natAbs≤EM*(1 + K))∧(∀i j,i<r→j<r→((ra S top q n).U i j).natAbs≤EU*(1 + K))∧∀i j,i<r→j<r→((ra S top q n).V i j).natAbs≤EV*(1 + 7*K):=by
  have hle:∀E L:Nat,E≤E*(1 + L):=fun E L=>by rw [Nat.mul_add,Nat.mul_one];omega
  refine ⟨fun i j hi hj=> ?_,fun i j hi hj=> ?_,fun i j hi hj=> ?_⟩
  · rw [lU _ _ _ _ _ _ hn];split
    · rename_i h;exact ga (hM _ _ hi hj) (hM _ _ ht hj) (hK i (by omega))
    · exact Nat.le_trans (hM _ _ hi hj) (hle _ _)
  · rw [AF _ _ _ _ _ _ hn];split
    · rename_i h;exact ga (hU _ _ hi hj) (hU _ _ ht hj) (hK i (by omega))
    · exact Nat.le_trans (hU _ _ hi hj) (hle _ _)
  · rw [AE _ _ _ _ _ _ hn];split
    · exact qq (hV _ _ hi ht) (fun x hx=>by rw [Int.natAbs_mul];exact Nat.mul_le_mul (hK _ (by omega)) (hV _ _ hi (by omega))) h7
    · exact Nat.le_trans (hV _ _ hi hj) (hle _ _)
section
variable {r c:Nat} {M0:Nat→Nat→Int} {S:WS}
theorem Lin.sn (h:Lin r c M0 S) {p top:Nat} (q:Nat) (hp:p<r) (ht:top<r):Lin r c M0 (sn S p top q):=by
  by_cases hn:(bQ S p top).M top q<0
  · rw [js hn];exact (h.swap hp ht).neg ht
  · rw [jr hn];exact h.swap hp ht
theorem Lin.el (h:Lin r c M0 S) {top:Nat} (q:Nat) (ht:top<r):∀n,top + n<r→Lin r c M0 (el S top q n)
  | 0,_=>h
  | n + 1,hn=>(Lin.el h q ht n (by omega)).add _ (by omega) ht (by omega)
theorem Lin.ra (h:Lin r c M0 S) {top:Nat} (q:Nat) (ht:top<r):∀n,n≤top→Lin r c M0 (ra S top q n)
  | 0,_=>h
  | n + 1,hn=>(Lin.ra h q ht n (by omega)).add _ (by omega) ht (by omega)
end
theorem Br {k x y u:Nat} (hk:1≤k) (hky:k*y≤x) (hu:u≤y) (hx:u + y≤x):(1 + k)*y*u≤x*x:=by
  by_cases h1:k=1
  · subst h1
    have h2:(u + y)*(u + y)≤x*x:=Nat.mul_le_mul hx hx;have h3:(u + y)*(u + y)=u*u + u*y + (y*u + y*y):=by rw [Nat.add_mul,Nat.mul_add,Nat.mul_add]
    have h4:(1 + 1)*y*u=y*u + y*u:=by rw [Nat.mul_assoc];omega
    have h5:u*y=y*u:=Nat.mul_comm _ _;omega
  · have h2:(1 + k)*y*u≤(1 + k)*y*y:=Nat.mul_le_mul_left _ hu
    have h3:k*y*(k*y)≤x*x:=Nat.mul_le_mul hky hky;have h4:1 + k≤k*k:=by
      have:2*k≤k*k:=Nat.mul_le_mul_right _ (by omega);omega
    have h5:(1 + k)*(y*y)≤k*k*(y*y):=Nat.mul_le_mul_right _ h4;have h6:(1 + k)*y*y=(1 + k)*(y*y):=Nat.mul_assoc _ _ _;have h7:k*y*(k*y)=k*k*(y*y):=by ac_rfl
    omega
theorem A9 (y u:Nat):∀n,y^n*(y + (n + 1)*u)≤(y + u)^(n + 1)
  | 0=>by simp
  | n + 1=>by
    have h1:=Nat.mul_le_mul_right (y + u) (A9 y u n);rw [Nat.pow_succ (y + u) (n + 1)];refine Nat.le_trans ?_ h1;rw [Nat.pow_succ,Nat.mul_assoc,Nat.mul_assoc];refine Nat.mul_le_mul_left _ ?_;have e1:(y + (n + 1)*u)*(y + u)=y*y + (n + 1 + 1)*(y*u) + (n + 1)*(u*u):=by
      rw [Nat.add_mul,Nat.mul_add,Nat.mul_add,Nat.add_mul (n + 1) 1 (y*u),Nat.one_mul,Nat.mul_assoc,Nat.mul_assoc,Nat.mul_comm u y];omega
    have e2:y*(y + (n + 1 + 1)*u)=y*y + (n + 1 + 1)*(y*u):=by
      rw [Nat.mul_add,Nat.mul_left_comm]
    omega
theorem Bq {k x y u:Nat} (hk:1≤k) (hky:k*y≤x) (hu:u≤y) (hx:u + y≤x):(1 + 7*k)*y^6*u≤x^7:=by
  by_cases h1:k=1
  · subst h1
    have h2:y^6*(y + (6 + 1)*u)≤(y + u)^7:=A9 y u 6;have h3:(y + u)^7≤x^7:=Nat.pow_le_pow_left (by omega) 7;have h4:(1 + 7*1)*y^6*u=y^6*(u + 7*u):=by rw [Nat.mul_assoc,Nat.mul_left_comm];congr 1;omega
    have h5:y^6*(u + 7*u)≤y^6*(y + (6 + 1)*u):=Nat.mul_le_mul_left _ (by omega);omega
  · have h2:(1 + 7*k)*y^6*u≤(1 + 7*k)*y^6*y:=Nat.mul_le_mul_left _ hu
    have h3:(k*y)^7≤x^7:=Nat.pow_le_pow_left hky 7;rw [Nat.mul_pow] at h3;have h4:1 + 7*k≤k^7:=by
      have h5:2^6≤k^6:=Nat.pow_le_pow_left (by omega) 6;have h6:2^6*k≤k^6*k:=Nat.mul_le_mul_right _ h5;have h7:k^7=k^6*k:=Nat.pow_succ k 6;have h8:(2:Nat)^6=64:=by decide
      omega
    have h5:(1 + 7*k)*y^7≤k^7*y^7:=Nat.mul_le_mul_right _ h4;have h6:(1 + 7*k)*y^6*y=(1 + 7*k)*y^7:=by rw [Nat.mul_assoc,←Nat.pow_succ]
    omega
theorem no {x y:Int} (hy:0<y):(-(x/y)).natAbs≤x.natAbs:=by
  rw [Int.natAbs_neg];have h1:=Int.ediv_mul_le x (show y≠0 by omega);have h2:=Int.lt_ediv_add_one_mul_self x hy
  by_cases h:0≤x
  · have h3:0≤x/y:=Int.ediv_nonneg h (by omega)
    have h4:x/y*1≤x/y*y:=Int.mul_le_mul_of_nonneg_left (by omega) h3;omega
  · have h3:x/y<0:=Int.ediv_neg_of_neg_of_pos (by omega) hy
    by_cases h5:x/y<x
    · have h6:(x/y + 1)*y≤(x/y + 1)*1:=by
        have h7:x/y + 1≤0:=by omega
        have:=Int.mul_le_mul_of_nonpos_left (a:=x/y + 1) (b:=y) (c:=1) h7 (by omega);exact this
      omega
    · omega
theorem qM {x:Nat→Int} {top:Nat}:∀{n:Nat},(bN x top n).2=true→∃i j,i≠j∧top≤i∧i<top + n∧top≤j∧j<top + n∧x i≠0∧x j≠0
  | 0,h=>by simp [bN] at h
  | n + 1,h=>by
    by_cases hz:x (top + n)=0
    · rw [qL hz] at h
      obtain ⟨i,j,h1,h2,h3,h4,h5,h6⟩:=qM h;exact ⟨i,j,h1,h2,by omega,h4,by omega,h6⟩
    · have hb:0≤(bN x top n).1:=by
        by_cases hc:(bN x top n).1<0∨(x (top + n)).natAbs<(x (bN x top n).1.toNat).natAbs
        · rw [qN hz hc] at h;simpa using h
        · rw [qO hz hc] at h;simpa using h
      obtain ⟨h1,h2,h3,_⟩:=fj hb;exact ⟨_,top + n,by omega,h1,by omega,by omega,by omega,h3,hz⟩
end Go.TL
