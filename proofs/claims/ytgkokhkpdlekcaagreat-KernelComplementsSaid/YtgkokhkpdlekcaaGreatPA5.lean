/-
  Lemmas towards the theorem of this claim (part 5).
  Conditions: those that each theorem names.
-/
import Derived.Test.YtgkokhkpdlekcaaGreatPA4
namespace Go.TL
open Go.RowKit
set_option linter.unusedVariables false
def vE (l:List Oper):List Nat→Array Bool→Bool
  | [],_=>true
  | k::ks,listed=>Region.free .any l.toArray listed k&&(Region.ready .any l.toArray listed).contains k&&(match l[k]? with | some o=>o.guard.isNone&&o.after.toList.all (fun e=> !Region.binds .any e) | none=>false)&&
      vE l ks (listed.setIfInBounds k true)
def uD (P:Program) (l:List Oper) (n:Nat) (Φ:List bW) (A:Apart Φ) (e0:cA):List Nat→List Value→Prop
  | k::ks,v::vs=>(Nat.blt k n=true∧(∃o,l[k]? =some o∧∀w e,(∀t,dG l n t=false→e t=e0 t)→cn P o e w v)∧(∀w,bP Φ k v w)∧∀j,A.ap k j=false)∧uD P l n Φ A e0 ks vs
  | [], []=>True
  | _,_=>False
section
variable {P:Program} {N:Nat} {Q:Exit→Act→World→Prop} {l:List Oper}
theorem kJ {n:Nat} {tk:Nat→Bool} (G:Good N n l tk) {Φ:List bW} {A:Apart Φ} {e0:cA} {w0:World} (hs:Region.noSelect l.toArray=true) (hQ:∀c a w,¬Q (.panic c) a w):
    ∀(ks:List Nat) (vs:List Value) (fuel:Nat) (listed:Array Bool) (a:Act) (w:World),vE l ks listed=true→uD P l n Φ A e0 ks vs→Mid N n l (fun _=>false) Φ A e0 w0 listed a w→listed.toList.count false≤fuel→
      (∀listed' a' fuel',Mid N n l (fun _=>false) Φ A e0 w0 listed' a' w→(∀j,listed.getD j false=true∨j∈ks→listed'.getD j false=true)→listed'.toList.count false≤fuel'→wpAny P .any l.toArray Q fuel' listed' a' w)→
      wpAny P .any l.toArray Q fuel listed a w
  | [], [],fuel,listed,a,w,_,_,M,hc,hk=>hk listed a fuel M (fun j h=>h.elim id fun h=>by cases h) hc
  | [],_::_,_,_,_,_,_,h,_,_,_=>h.elim
  | _::_, [],_,_,_,_,_,h,_,_,_=>h.elim
  | k::ks,v::vs,fuel,listed,a,w,hf,⟨⟨hkn,⟨o,ho,hv⟩,hφ,hap⟩,hob⟩,M,hc,hk=>by
    simp only [vE,Bool.and_eq_true] at hf;obtain ⟨⟨⟨hfree,hready⟩,hgo⟩,hrest⟩:=hf;rw [ho] at hgo;simp only [Bool.and_eq_true,List.all_eq_true,Bool.not_eq_true'] at hgo;have hkn':k<n:=by simpa [Nat.blt_eq] using hkn
    have hkl:k<l.length:=Nat.lt_of_lt_of_le hkn' G.le;have hks:k<listed.size:=by rw [M.size];exact hkl
    obtain ⟨d,hd,hdN,hdist,_⟩:=G.dst k o hkn' ho;have hdk:aN l k=d:=by simp [aN,ho,hd]
    have hkf:listed.getD k true=false:=by
      have hr:=hready;rw [List.contains_iff_mem] at hr;exact (mem_ready.1 hr).1
    have hcnt:=dn hks hkf;obtain ⟨f,hff⟩:∃f,fuel=f + 1:=⟨fuel - 1,by omega⟩
    subst hff;obtain ⟨e',he,hother,hfct,hdj⟩:=M.env;have hne:∀j,j<n→j≠k→aN l j≠d:=by
      intro j hj hjk;rcases Nat.lt_trichotomy j k with h | h | h
      · exact hdist j h
      · exact absurd h hjk
      · intro heq
        have hjl:j<l.length:=Nat.lt_of_lt_of_le hj G.le;obtain ⟨d2,hd2,_,hdist2,_⟩:=G.dst j l[j] hj (List.getElem?_eq_getElem hjl);have:aN l j=d2:=by simp [aN,hjl,hd2]
        rw [heq] at this;exact hdist2 k h (by rw [hdk];exact this)
    have hval:∀j,j<n→j≠k→dM e' o.dst v (aN l j)=e' (aN l j):=fun j hj hjk=>by
      simp only [hd,dM];exact cl _ _ _ _ (hne j hj hjk)
    refine wpAny_take (by simpa using ho) hs hfree hready (fun c a w h=>absurd h (hQ c _ w)) (.inl ⟨by simp only [Region.wanted];cases hg:o.guard with | none=>rfl | some _=>rw [hg] at hgo;simp at hgo,fun w=>by have:=hv w e' hother;unfold cn at this;rw [he.eval];exact this⟩) ?_;refine kJ G hs hQ ks vs f _ _ w hrest hob ?_ (by omega) (fun listed' a' fuel' M' hall hc'=>hk listed' a' fuel' M' (fun j hj=>hall j ?_) hc')
    · refine ⟨by simp [M.size],?_,?_,(fun _ h=>by cases h),M.ext,dM e' o.dst v,he.put (by simp [hd,gQ,Nat.blt_eq,hdN]) v,?_,?_,?_⟩
      · intro i oi hoi h e hem hb
        by_cases hik:i=k
        · subst hik
          rw [ho] at hoi;injection hoi with hoi;subst hoi;rw [hgo.2 e (Array.mem_def.1 hem)] at hb;cases hb
        · rw [getD_set_ne false (Ne.symm hik)] at h
          have:=M.closed i oi hoi h e hem hb
          by_cases hek:e.on=k
          · rw [hek];simp [hks]
          · rw [getD_set_ne false (Ne.symm hek)];exact this
      · intro j hj hjl
        rw [getD_set_ne true (by omega)];exact M.late j hj hjl
      · intro t ht
        simp only [hd,dM];rw [cl _ _ _ _ (eW ht hkn' ho hd)];exact hother t ht
      · intro i hi h
        by_cases hik:i=k
        · subst hik;rw [hdk];simp only [hd,dM,bI];exact hφ _
        · rw [getD_set_ne false (Ne.symm hik)] at h
          rw [hval i hi hik];exact hfct i hi h
      · intro i j hi hj hij h1 h2 hA
        by_cases hik:i=k
        · rw [hik,hap] at hA;cases hA
        · by_cases hjk:j=k
          · have:=A.symm _ _ hA;rw [hjk,hap] at this;cases this
          · rw [getD_set_ne false (Ne.symm hik)] at h1
            rw [getD_set_ne false (Ne.symm hjk)] at h2;rw [hval i hi hik,hval j hj hjk];exact hdj i j hi hj hij h1 h2 hA
    · rcases hj with h | h
      · left
        by_cases hjk:j=k
        · rw [hjk];simp [hks]
        · rw [getD_set_ne false (Ne.symm hjk)];exact h
      · rcases List.mem_cons.1 h with h | h
        · left;rw [h];simp [hks]
        · exact .inr h
end
theorem we {P:Program} {N:Nat} {Q:cP} {e:cA} {w:World} {id:Nat} {l:List Oper} (hm:P.follows .mixedOrders=true) (n:Nat) (Φ:List bW) (A:Apart Φ) (ks:List Nat) (vs:List Value)
    (hs:Region.noSelect l.toArray=true) (hfr:vE l ks (Array.replicate l.length false)=true) (hc:ef (fun j=>ks.contains j) N n l=true) (hlen:Φ.length=n) (hmono:dQ Φ) (hob:eY P l n Φ A e w 0 l Φ) (hv:uD P l n Φ A e ks vs)
    (hkn:ks.all (fun k=>Nat.blt k n)=true)
    (htail:∀e' w',aG w w'→(∀t,dG l n t=false→e' t=e t)→(∀j,Nat.blt j n=true→bP Φ j (e' (aN l j)) w')→
      (∀i j,Nat.blt i n=true→Nat.blt j n=true→Nat.beq i j=false→A.disj l i j e' w')→
      RL P N l.toArray (fun e w=>Q .normal e w) (l.drop n) e' w'):WP P N (.region id l.toArray true) Q e w:=by
  intro a ha;have htk:∀j,(fun j=>ks.contains j) j=true→j<n:=fun j h=>by
    have h':j∈ks:=List.contains_iff_mem.1 h;have:=List.all_eq_true.1 hkn j h'
    simpa [Nat.blt_eq] using this
  have G:=ea (tk:=fun j=>ks.contains j) hc htk;refine Code.wp_mono (Q:=fun x a' w'=>x=Exit.normal∧∃e',IsE N a' e'∧Q x e' w') (fun x a' w' h=>h.2) ?_;refine wp_region_any hm ?_;simp only [List.size_toArray];have hrep:∀i,(Array.replicate l.length false).getD i false=false:=fun i=>by by_cases hi:i<l.length<;>simp [hi]
  refine kJ (Q:=fun x a' w'=>x=Exit.normal∧∃e',IsE N a' e'∧Q x e' w') G (Φ:=Φ) (A:=A) (e0:=e) (w0:=w) hs (fun c a w h=>by cases h.1) ks vs _ _ a _ hfr hv ?_ ?_ ?_
  · refine ⟨by simp,?_,?_,(fun _ h=>by cases h),⟨rfl,rfl,rfl,Nat.le_refl _,fun _ _=>rfl⟩,e,ha,fun _ _=>rfl,?_,?_⟩
    · intro i o _ h;rw [hrep] at h;cases h
    · intro j _ hj;simp [hj]
    · intro i _ h;rw [hrep] at h;cases h
    · intro i j _ _ _ h;rw [hrep] at h;cases h
  · simp
  · intro listed' a' fuel' M hall hcn
    refine mA G hlen hmono hob ?_ _ _ _ _ ⟨M.size,M.closed,M.late,fun j hj=>hall j (.inr (List.contains_iff_mem.1 hj)),M.ext,M.env⟩ hcn;intro a2 e' w' hae hext hoth hf hd;exact htail e' w' hext hoth (fun j hj=>hf j (by simpa [Nat.blt_eq] using hj)) (fun i j hi hj hij=>hd i j (by simpa [Nat.blt_eq] using hi) (by simpa [Nat.blt_eq] using hj) (dW hij)) a2 _ hae fun _ e'' _ h1 h2=>⟨rfl,e'',h1,h2⟩
end Go.TL
namespace Go.TL
open Go.RowKit Go.Proofs
set_option linter.unusedVariables false
set_option linter.unusedSimpArgs false
set_option maxRecDepth 10000 in
theorem tP (w:World) (x:Value) (rx cx:Nat) (Mx:Nat→Nat→Int) (btx:Nat) (hx:bf w x rx cx Mx btx) (hb:1 + btx≤aZ):Calls Tryz.prog 66 #[x] w (cb w fun v w'=>cz w' v w.heap.size rx cx Mx (1 + btx)):=by
 have hLIM:aZ=562949953421312:=rfl;have hmatx:=hx;obtain ⟨sx,rfl,hrx,hcx,hSx⟩:=hx.form;refine aj (N:=6) (rs:= #[.cell 2 28]) Tryz.func66 rfl rfl rfl (Nat.le_of_ble_eq_true rfl) ?_;have hX:aG w w:=aG.refl w;refine ab ?_;refine RL.x rfl rfl (cX.box [.int .i64 ((rx:Nat)),.int .i64 ((cx:Nat)),sx] rfl rfl) ?_;rintro _ w1 ⟨g1,rfl,hge1,hx1,hA1⟩;replace hX:=aG.trans hX hx1;refine RL.x rfl rfl (cX.alloc [.int .i64 (0),.int .i64 (0),.slice (none) (0) (0)] bo rfl) ?_;rintro _ w2 ⟨g2,rfl,hge2,hx2,hA2⟩;have hbs2:w.heap.size≤g2:=Nat.le_trans hX.size hge2;replace hA1:=aR.ext hA1 hx2;replace hX:=aG.trans hX hx2;refine RL.nil ?_;have hBw1:w.heap.size≤w2.heap.size:=hX.size;refine aJ am 3 [_,_,fun v AC=>cz AC v w2.heap.size rx cx ((fun i j=>1*Mx i j)) (1 + btx)] rfl rfl (fun e_ w_ AB AA=>⟨fun _=>aa (ae [.int .i64 ((rx:Nat)),.int .i64 ((cx:Nat)),sx] aM ((AA 1 rfl rfl)) ((aR.ext hA1 AB).cells 0 _ rfl rfl)),fun _=>cX.call ns (aE rfl) (uf (1) (1) _ (by decide) (by decide) (by decide)),fun Az=>cX.mono (cX.call yN (aA ((Az 0 rfl)) rfl) (vt _ _ _ _ _ _ _ _ _ (bf.mk (cE.ext (cE.ext hSx hX) AB) (by omega) (by omega)) (Az 1 rfl) (by omega))) fun v AD hv=>⟨hv.1,cz.low hv.2 AB.size⟩,trivial⟩) ?_;intro e1 w3 hx3 ho1 hf1;replace hA2:=aR.ext hA2 hx3;replace hX:=aG.trans hX hx3;have s2_e1:e1 2=_:=ho1 2 rfl rfl;have s5_e1:cz w3 (e1 5) w2.heap.size rx cx ((fun i j=>1*Mx i j)) (1 + btx):=hf1 2 rfl;obtain ⟨gh1,kh1,ρ1,hq1,hM1⟩:=s5_e1;have hd1:=cu.dlim hM1;have hd2:=cu.clim hM1;refine RL.x rfl rfl (cX.store [.int .i64 ((rx:Nat)),.int .i64 ((cx:Nat)),.slice (some ⟨gh1,0,none⟩) (rx) (kh1)] bE s2_e1 hq1 rfl hA2 (Nat.le_of_ble_eq_true rfl) (bG rfl rfl rfl)) ?_;rintro _ w4 ⟨hk1,hnew⟩;replace hM1:=bc hM1 hk1 hA2 (by decide);replace hX:=hX.step hk1 (fun b e=>by subst e;exact hbs2);replace hA2:=hnew.lit [.int .i64 ((rx:Nat)),.int .i64 ((cx:Nat)),.slice (some ⟨gh1,0,none⟩) (rx) (kh1)] rfl;clear hnew;refine RL.nil ?_;refine WP.ret ?_;refine ⟨.agg #[.int .i64 ((rx:Nat)),.int .i64 ((cx:Nat)),.slice (some ⟨gh1,0,none⟩) (rx) (kh1)],zP.one (ag [.int .i64 ((rx:Nat)),.int .i64 ((cx:Nat)),.slice (some ⟨gh1,0,none⟩) (rx) (kh1)] aM s2_e1 (hA2.cells 0 _ rfl rfl)),_,rfl,hX,?_⟩;dsimp only;exact cz.congr (⟨_,_,_,rfl,cu.low hM1 (hBw1)⟩) (fun i j _ _=>Int.one_mul _)
set_option maxRecDepth 10000 in
theorem kI (w:World) (x:Value) (zx:Int) (btx:Nat) (y:Value) (zy:Int) (bty:Nat) (hx:ak w x zx btx) (hy:ak w y zy bty) (hzy:zy≠0) (hl:btx + 1≤aZ):Calls Tryz.prog 71 #[x,y] w (cb w fun v w'=>ak w' v (zx/zy) btx):=by
 have hLIM:aZ=562949953421312:=rfl;refine aj (N:=16) (rs:= #[.cell 4 51]) Tryz.func71 rfl rfl rfl (Nat.le_of_ble_eq_true rfl) ?_;have hX:aG w w:=aG.refl w;refine ab ?_;obtain ⟨ca1,cb1,hq1,ho1,ho2⟩:=ak.cells (ak.ext hx hX);have qi1:ak w (.agg #[ca1,cb1]) zx btx:=hq1▸(ak.ext hx hX);refine RL.x rfl rfl (cX.box [ca1,cb1] hq1 rfl) ?_;rintro _ w1 ⟨g1,rfl,hge1,hx1,hA1⟩;replace qi1:=ak.ext qi1 hx1;replace hX:=aG.trans hX hx1;obtain ⟨ca2,cb2,hq2,ho3,ho4⟩:=ak.cells (ak.ext hy hX);have qi2:ak w1 (.agg #[ca2,cb2]) zy bty:=hq2▸(ak.ext hy hX);refine RL.x rfl rfl (cX.box [ca2,cb2] hq2 rfl) ?_;rintro _ w2 ⟨g2,rfl,hge2,hx2,hA2⟩;replace qi1:=ak.ext qi1 hx2;replace hA1:=aR.ext hA1 hx2;replace qi2:=ak.ext qi2 hx2;replace hX:=aG.trans hX hx2;refine RL.x rfl rfl (cX.alloc [.bool (false),.slice (none) (0) (0)] bq rfl) ?_;rintro _ w3 ⟨g3,rfl,hge3,hx3,hA3⟩;have hbs3:w.heap.size≤g3:=Nat.le_trans hX.size hge3;replace qi1:=ak.ext qi1 hx3;replace hA1:=aR.ext hA1 hx3;replace qi2:=ak.ext qi2 hx3;replace hA2:=aR.ext hA2 hx3;replace hX:=aG.trans hX hx3;refine RL.nil ?_;refine ab ?_;refine RL.p rfl rfl (ae [ca1,cb1] aw rfl (hA1.cells 0 _ rfl rfl)) ?_;refine RL.p rfl rfl (ae [ca2,cb2] aw rfl (hA2.cells 0 _ rfl rfl)) ?_;refine RL.x rfl rfl (cX.call yH (aA rfl rfl) (uh _ _ _ _ _ _ _ qi1 qi2 hzy hl)) ?_;rintro _ w4 ⟨hx4,v1,v2,rfl,q1,q2⟩;replace hA3:=aR.ext hA3 hx4;replace hX:=aG.trans hX hx4;refine RL.p rfl rfl (cn.move rfl) ?_;refine RL.p rfl rfl (cn.extract rfl rfl) ?_;refine RL.p rfl rfl (cn.extract rfl rfl) ?_;refine RL.p rfl rfl (cn.extract rfl rfl) ?_;refine RL.x rfl rfl (cX.alloc [.bool (false),.slice (none) (0) (0)] bq rfl) ?_;rintro _ w5 ⟨g4,rfl,hge4,hx5,hA4⟩;have ne6:g3≠g4:=Nat.ne_of_lt (Nat.lt_of_lt_of_le hA3.lt hge4);have hbs4:w.heap.size≤g4:=Nat.le_trans hX.size hge4;replace hA3:=aR.ext hA3 hx5;replace q1:=ak.ext q1 hx5;replace q2:=ak.ext q2 hx5;replace hX:=aG.trans hX hx5;refine RL.x rfl rfl (cX.alloc [.bool (false),.slice (none) (0) (0)] bq rfl) ?_;rintro _ w6 ⟨g5,rfl,hge5,hx6,hA5⟩;have ne9:g3≠g5:=Nat.ne_of_lt (Nat.lt_of_lt_of_le hA3.lt hge5);have ne10:g4≠g5:=Nat.ne_of_lt (Nat.lt_of_lt_of_le hA4.lt hge5);have hbs5:w.heap.size≤g5:=Nat.le_trans hX.size hge5;replace hA3:=aR.ext hA3 hx6;replace q1:=ak.ext q1 hx6;replace q2:=ak.ext q2 hx6;replace hA4:=aR.ext hA4 hx6;replace hX:=aG.trans hX hx6;obtain ⟨ca3,cb3,hq3,ho5,ho6⟩:=ak.cells q1;have qi3:ak w6 (.agg #[ca3,cb3]) ((zx)/(zy)) btx:=hq3▸q1;refine RL.x rfl rfl (cX.store [ca3,cb3] aL rfl hq3 rfl hA4 (Nat.le_of_ble_eq_true rfl) (aS ho5 ho6)) ?_;rintro _ w7 ⟨hk1,hnew⟩;replace hA3:=hA3.keep hk1 ne6;replace q2:=ac q2 hk1 hA4 (by decide);replace hA5:=hA5.keep hk1 (Ne.symm ne10);replace qi3:=ac qi3 hk1 hA4 (by decide);replace hX:=hX.step hk1 (fun b e=>by subst e;exact hbs4);replace hA4:=hnew.lit [ca3,cb3] rfl;clear hnew;obtain ⟨ca4,cb4,hq4,ho7,ho8⟩:=ak.cells q2;refine RL.x rfl rfl (cX.store [ca4,cb4] aL rfl hq4 rfl hA5 (Nat.le_of_ble_eq_true rfl) (aS ho7 ho8)) ?_;rintro _ w8 ⟨hk2,hnew⟩;replace hA3:=hA3.keep hk2 ne9;replace hA4:=hA4.keep hk2 ne10;replace qi3:=ac qi3 hk2 hA5 (by decide);replace hX:=hX.step hk2 (fun b e=>by subst e;exact hbs5);clear hnew;refine RL.p rfl rfl (cn.assign rfl) ?_;refine RL.nil ?_;refine ab ?_;refine RL.p rfl rfl (ae [ca3,cb3] aw rfl (hA4.cells 0 _ rfl rfl)) ?_;refine RL.x rfl rfl (cX.store [ca3,cb3] aL rfl rfl rfl hA3 (Nat.le_of_ble_eq_true rfl) (aS ho5 ho6)) ?_;rintro _ w9 ⟨hk3,hnew⟩;replace qi3:=ac qi3 hk3 hA3 (by decide);replace hX:=hX.step hk3 (fun b e=>by subst e;exact hbs3);replace hA3:=hnew.lit [ca3,cb3] rfl;clear hnew;refine RL.nil ?_;refine WP.ret ?_;refine ⟨.agg #[ca3,cb3],zP.one (ag [ca3,cb3] aw rfl (hA3.cells 0 _ rfl rfl)),_,rfl,hX,?_⟩;dsimp only;exact qi3
set_option maxRecDepth 10000 in
theorem qc (w:World) (x:Value) (nx:Nat) (zx:Nat→Int) (btx:Nat) (hx:cV w x nx zx btx) (hn:0<nx):Calls Tryz.prog 113 #[x] w (cb w fun v w'=>eT w' v w.heap.size nx zx btx):=by
 have hLIM:aZ=562949953421312:=rfl;have hlimx:=hx.lim;refine aj (N:=8) (rs:= #[.tmp 2]) Tryz.func113 rfl rfl rfl (Nat.le_of_ble_eq_true rfl) ?_;have hX:aG w w:=aG.refl w;refine ab ?_;refine RL.p rfl rfl (cn.assign rfl) ?_;refine RL.nil ?_;refine WP.seq ?_;refine ab ?_;refine RL.p rfl rfl (cn.move rfl) ?_;refine RL.p rfl rfl (pH be rfl (cV.ext hx hX) rfl hn) ?_;refine RL.nil ?_;refine WP.cond _ rfl (fun hf=>absurd hf (by decide)) (fun _=> ?_);refine WP.skip ?_;refine pA.norm ?_;refine ab ?_;refine RL.x rfl rfl (dY be) ?_;rintro _ w1 ⟨g1,rfl,hge1,hx1,hA1⟩;replace hX:=aG.trans hX hx1;refine RL.p rfl rfl (cn.move rfl) ?_;have hBw1:w.heap.size≤w1.heap.size:=hX.size;refine RL.x rfl rfl (mW be (by decide) bq rfl hA1 rfl (cV.ext hx hX) hn) ?_;rintro v1 w2 ⟨hx2,q1,_⟩;replace hX:=aG.trans hX hx2;refine RL.p rfl rfl (cn.assign rfl) ?_;refine RL.nil ?_;refine WP.ret ?_;refine ⟨v1,zP.one (fN.tmp rfl),_,rfl,hX,?_⟩;dsimp only;obtain ⟨g,h1,h2,h3⟩:=q1;exact ⟨g,h1,Nat.le_trans hBw1 h2,h3⟩
set_option maxRecDepth 10000 in
theorem qw (w:World) (gx gy n:Nat) (zx zy:Nat→Int) (b:Nat) (x:Value) (y:Value) (k:Value) (zk:Int) (btk:Nat) (hx:fe w x gx n) (hy:fe w y gy n) (hk:ak w k zk btk) (hX0:cK w gx n zx b) (hY0:cK w gy n zy b) (hxy:gx=gy→∀j,j<n→zx j=zy j) (hb:btk + b + 2≤aZ) (hfit:∀j,j<n→(zx j + zk*zy j).natAbs<2^b):Calls Tryz.prog 96 #[x,y,k] w (iI (fun b=>b=gx) w fun v w'=>cK w' gx n (fun j=>zx j + zk*zy j) b):=by
 have hLIM:aZ=562949953421312:=rfl;refine aj (N:=27) (rs:= #[]) Tryz.func96 rfl rfl rfl (Nat.le_of_ble_eq_true rfl) ?_;have hX:Keeps (fun b=>b=gx) w w:=Keeps.refl _ w;have hn16:=hx.dim;have hblim:=rL hX0;refine ab ?_;obtain ⟨ca1,cb1,hq1,ho1,ho2⟩:=ak.cells hk;have qi1:ak w (.agg #[ca1,cb1]) zk btk:=hq1▸hk;refine RL.x rfl rfl (cX.box [ca1,cb1] hq1 rfl) ?_;rintro _ w1 ⟨g1,rfl,hge1,hx1,hA1⟩;have ne1:gx≠g1:=Nat.ne_of_lt (Nat.lt_of_lt_of_le (cK.lt hX0) hge1);replace hx:=fe.ext hx hx1;replace hy:=fe.ext hy hx1;replace hX0:=cK.ext hX0 hx1;replace hY0:=cK.ext hY0 hx1;replace qi1:=ak.ext qi1 hx1;replace hX:=aC hX hx1;refine RL.nil ?_;refine ab ?_;refine RL.p rfl rfl (cn.move rfl) ?_;refine RL.p rfl rfl (rV eH (bg hx w1) rfl) ?_;refine RL.p rfl rfl (cn.move rfl) ?_;refine RL.nil ?_;refine WP.block ?_;refine WP.loop (fun mz ez uz=>∃i:Nat,∃ζ:Nat→Int,(mz=n - i)∧(ez 0=x)∧(ez 1=y)∧(ez 5= .pointer (some ⟨g1,0,none⟩))∧(ez 8= .int .i64 ((n:Nat)))∧(ez 9= .int .i64 ((i:Nat)))∧(i≤n)∧(∀j,i≤j→j<n→ζ j=zy j)∧(Keeps (fun b=>b=gx) w uz)∧(fe uz x gx n)∧(fe uz y gy n)∧(cK uz gx n (kO zx zy zk i) b)∧(cK uz gy n ζ b)∧(ak uz (.agg #[ca1,cb1]:Value) zk btk)∧(aR uz g1 51 2 (bt [ca1,cb1]))) (n - 0) ?_ ?_
 · exact ⟨0,zy,rfl,rfl,rfl,rfl,rfl,rfl,(by omega),(fun j _ _=>rfl),hX,hx,hy,cK.congr hX0 (fun j _=>by simp [kO]),hY0,qi1,hA1⟩
 rintro m1 e1 w2 ⟨i,ζ,hm1,s0_e1,s1_e1,s5_e1,s8_e1,s9_e1,hi,hal,hX1,hx,hy,hX0,hY0,qi1,hA1⟩;refine ab ?_;refine RL.p rfl rfl (cn.lss s9_e1 s8_e1) ?_;refine RL.nil ?_;refine WP.seq ?_;refine af (((i:Nat):Int)<((n:Nat):Int)) rfl (fun c10=> ?_) (fun c10=> ?_)
 ·
  refine WP.skip ?_;refine pA.norm ?_;refine WP.seq ?_;refine WP.block ?_;refine ab ?_;refine RL.p rfl rfl (cn.move s9_e1) ?_;refine RL.p rfl rfl (cn.assign rfl) ?_;refine RL.nil ?_;refine WP.ds am 14 [_,_,_,_,_,_,_,_,_,_,_,_,_,_] rfl rfl (fun e_ w_ AB AA=>⟨fun _=>aa (cn.move ((AA 0 rfl s0_e1))),fun _=>aa (cn.move ((AA 6 rfl rfl))),fun _=>aa (cn.move ((AA 0 rfl s0_e1))),fun _=>aa (cn.move ((AA 6 rfl rfl))),fun Az=>aa (av (j:=i) eH (bg hx w_) (Az 2 rfl) (Az 3 rfl) (by omega) (by omega)),fun Az=>ai (aO (j:=i) aw (Az 4 rfl) (cK.ext hX0 AB) (by omega)),fun _=>aa (ae [ca1,cb1] aw ((AA 5 rfl s5_e1)) ((aR.ext hA1 AB).cells 0 _ rfl rfl)),fun _=>aa (cn.move ((AA 1 rfl s1_e1))),fun _=>aa (cn.move ((AA 6 rfl rfl))),fun Az=>aa (av (j:=i) eH (bg hy w_) (Az 7 rfl) (Az 8 rfl) (by omega) (by omega)),fun Az=>ai (aO (j:=i) aw (Az 9 rfl) (cK.ext hY0 AB) (by omega)),fun Az=>cX.call sh (aA ((Az 6 rfl)) rfl) (ug _ _ _ _ _ _ _ ((btk) + (b)) ((ak.ext qi1 AB)) ((Az 10 rfl)) (by omega) (by omega)),fun Az=>cX.call oS (aA rfl rfl) (uj _ _ _ _ _ _ _ (max (b) ((btk) + (b)) + 1) ((Az 5 rfl)) ((Az 11 rfl)) (by omega) (by omega) (by omega)),fun Az=>aa (av (j:=i) eH (bg hx w_) (Az 0 rfl) (Az 1 rfl) (by omega) (by omega)),trivial⟩) ?_;intro e2 w3 hx2 ho3 hf1;replace hx:=fe.ext hx hx2;replace hy:=fe.ext hy hx2;replace hX0:=cK.ext hX0 hx2;replace hY0:=cK.ext hY0 hx2;replace qi1:=ak.ext qi1 hx2;replace hA1:=aR.ext hA1 hx2;replace hX1:=aC hX1 hx2;have s0_e2:=ho3 0 rfl s0_e1;have s1_e2:=ho3 1 rfl s1_e1;have s5_e2:=ho3 5 rfl s5_e1;have s8_e2:=ho3 8 rfl s8_e1;have s9_e2:=ho3 9 rfl s9_e1;have s24_e2:ak w3 (e2 24) (((kO zx zy zk i) i:Int) + ((zk:Int)*(ζ i:Int):Int)) (max (b) ((btk) + (b)) + 1):=hf1 12 rfl;have s25_e2:e2 25=_:=hf1 13 rfl;refine RL.x rfl rfl (kR (j:=i) aL s25_e2 rfl (ak.eq s24_e2 (ur hal (by omega)) (hfit i (by omega)) (by omega)) hX0 (by omega)) ?_;rintro _ w4 ⟨hk1,hN1⟩;replace qi1:=bN qi1 hk1 hX0;replace hA1:=hA1.keep hk1 (Ne.symm ne1);replace hX1:=hX1.step hk1 (fun b e=>by subst e;exact .inl rfl);obtain ⟨ζ2,hY1,hal2⟩:=pD hY0 hN1 hk1 hX0;replace hY0:=hY1;replace hX0:=hN1;refine RL.nil ?_;refine iM.norm ?_;refine pA.norm ?_;refine WP.region ?_;refine RL.p rfl rfl (cn.add (c:=((i + 1:Nat):Int)) s9_e2 rfl (bA (by omega))) ?_;refine RL.p rfl rfl (cn.move rfl) ?_;refine RL.nil ?_;refine pA.norm ⟨_,(by omega),i + 1,ζ2,rfl,s0_e2,s1_e2,s5_e2,s8_e2,rfl,(by omega),(yo hal hal2 hxy),hX1,hx,hy,ux hX0 (ut zx zy zk i),hY0,qi1,hA1⟩
 ·
  refine WP.exit ?_;refine pA.exit ?_;refine pA.exit ?_;refine iM.same ?_;refine ⟨.tuple #[],zP.zero,_,rfl,hX1,?_⟩;dsimp only;exact cK.congr hX0 (fun j hj=>by unfold kO;rw [if_pos (by omega)])
set_option maxRecDepth 10000 in
theorem qv (w:World) (B gw r c:Nat) (M U V:Nat→Nat→Int) (b:Nat) (i:Nat) (j:Nat) (k:Value) (zk:Int) (btk:Nat) (hW:bJ 95 w B gw r c M U V b) (hi:i<r) (hj:j<r) (hk:ak w k zk btk) (hij:i≠j) (hb:btk + b + 2≤aZ) (hfM:∀a,a<c→(M i a + zk*M j a).natAbs<2^b) (hfU:∀a,a<r→(U i a + zk*U j a).natAbs<2^b) (hfV:∀a,a<r→(V a j - zk*V a i).natAbs<2^b):Calls Tryz.prog 69 #[.pointer (some ⟨gw,0,none⟩),.int .i64 (i:Nat),.int .i64 (j:Nat),k] w (iI (di B w) w fun v w'=>bJ 95 w' B gw r c (cL M i j zk) (cL U i j zk) (dz V i j zk) b):=by
 have hLIM:aZ=562949953421312:=rfl;obtain ⟨hm,hu,hv,km,ku,kv,ρm,ρu,ρv,hBg,hG,hMm,hMu,hMv,nmu,nmv,nuv,dmu,dmv,duv⟩:=hW;have hdm:=cu.dlim hMm;have hcm:=cu.clim hMm;have hdu:=cu.dlim hMu;have hdv:=cu.dlim hMv;have h0m:=hMm;have h0u:=hMu;have h0v:=hMv;refine aj (N:=74) (rs:= #[]) Tryz.func69 rfl rfl rfl (Nat.le_of_ble_eq_true rfl) ?_;have hX:Keeps (di B w) w w:=Keeps.refl _ w;refine ab ?_;obtain ⟨ca1,cb1,hq1,ho1,ho2⟩:=ak.cells hk;have qi1:ak w (.agg #[ca1,cb1]) zk btk:=hq1▸hk;refine RL.x rfl rfl (cX.box [ca1,cb1] hq1 rfl) ?_;rintro _ w1 ⟨g1,rfl,hge1,hx1,hA1⟩;have ne2:∀ii,ii<r→ρm ii≠g1:=fun ii hi=>Nat.ne_of_lt (Nat.lt_of_lt_of_le (cu.rowlt hMm hi) hge1)
 have ne4:∀ii,ii<r→ρu ii≠g1:=fun ii hi=>Nat.ne_of_lt (Nat.lt_of_lt_of_le (cu.rowlt hMu hi) hge1)
 have ne6:∀ii,ii<r→ρv ii≠g1:=fun ii hi=>Nat.ne_of_lt (Nat.lt_of_lt_of_le (cu.rowlt hMv hi) hge1)
 replace hG:=aR.ext hG hx1;replace hMm:=cu.ext hMm hx1;replace hMu:=cu.ext hMu hx1;replace hMv:=cu.ext hMv hx1;replace hk:=ak.ext hk hx1;replace qi1:=ak.ext qi1 hx1;replace hX:=aC hX hx1;refine RL.nil ?_;refine WP.seq ?_;refine ab ?_;refine RL.p rfl rfl (ae [ca1,cb1] aw rfl (hA1.cells 0 _ rfl rfl)) ?_;refine RL.x rfl rfl (cX.call lC (aE rfl) (iZ _ _ _ _ qi1)) ?_;rintro _ w2 ⟨hx2,rfl⟩;replace hG:=aR.ext hG hx2;replace hMm:=cu.ext hMm hx2;replace hMu:=cu.ext hMu hx2;replace hMv:=cu.ext hMv hx2;replace hk:=ak.ext hk hx2;replace qi1:=ak.ext qi1 hx2;replace hA1:=aR.ext hA1 hx2;replace hX:=aC hX hx2;refine RL.p rfl rfl (cn.eql rfl rfl) ?_;refine RL.nil ?_;refine af (((zk:Int).sign:Int)=(0:Int)) rfl (fun c12=> ?_) (fun c12=> ?_)
 ·
  refine WP.ret ?_;refine pA.ret ?_;refine ⟨.tuple #[],zP.zero,_,rfl,hX,?_⟩;dsimp only;have hz0:zk=0:=by simpa [Int.sign_eq_zero_iff_zero] using c12
  exact ⟨hm,hu,hv,km,ku,kv,_,_,_,hBg,hG,bh hMm (it M i j hz0).symm,bh hMu (it U i j hz0).symm,bh hMv (zN V i j hz0).symm,nmu,nmv,nuv,dmu,dmv,duv⟩
 ·
  refine WP.skip ?_;refine pA.norm ?_;refine aJ am 17 [_,_,_,_,_,_,_,_,_,_,_,_,_,_,_,_,_] rfl rfl (fun e_ w_ AB AA=>⟨fun _=>aa (cn.move ((AA 0 rfl rfl))),fun Az=>aa (cn.nilCheck ((Az 0 rfl))),fun Az=>aa (cn.fieldAddr cF ((Az 1 rfl))),fun Az=>aa (cn.fieldAddr au ((Az 2 rfl))),fun Az=>aa (cn.load aK ((Az 3 rfl)) ((aR.ext hG AB).at_ (i:=2) rfl rfl)),fun _=>aa (cn.move ((AA 1 rfl rfl))),fun Az=>aa (cn.index (j:=i) aF ((Az 4 rfl)) ((Az 5 rfl)) rfl (by omega) (by omega)),fun Az=>ai (al (i:=i) aU (Az 6 rfl) (cu.ext hMm AB) (by omega)),fun _=>aa (cn.move ((AA 0 rfl rfl))),fun Az=>aa (cn.nilCheck ((Az 8 rfl))),fun Az=>aa (cn.fieldAddr cF ((Az 9 rfl))),fun Az=>aa (cn.fieldAddr au ((Az 10 rfl))),fun Az=>aa (cn.load aK ((Az 11 rfl)) ((aR.ext hG AB).at_ (i:=2) rfl rfl)),fun _=>aa (cn.move ((AA 2 rfl rfl))),fun Az=>aa (cn.index (j:=j) aF ((Az 12 rfl)) ((Az 13 rfl)) rfl (by omega) (by omega)),fun Az=>ai (al (i:=j) aU (Az 14 rfl) (cu.ext hMm AB) (by omega)),fun _=>aa (ae [ca1,cb1] aw ((AA 7 rfl rfl)) ((aR.ext hA1 AB).cells 0 _ rfl rfl)),trivial⟩) ?_;intro e1 w3 hx3 ho3 hf1;replace hG:=aR.ext hG hx3;replace hMm:=cu.ext hMm hx3;replace hMu:=cu.ext hMu hx3;replace hMv:=cu.ext hMv hx3;replace hk:=ak.ext hk hx3;replace qi1:=ak.ext qi1 hx3;replace hA1:=aR.ext hA1 hx3;replace hX:=aC hX hx3;have s0_e1:e1 0=_:=ho3 0 rfl rfl;have s1_e1:e1 1=_:=ho3 1 rfl rfl;have s2_e1:e1 2=_:=ho3 2 rfl rfl;have s7_e1:e1 7=_:=ho3 7 rfl rfl;have s20_e1:fe w3 (e1 20) (ρm i) c:=hf1 7 rfl;have s28_e1:fe w3 (e1 28) (ρm j) c:=hf1 15 rfl;have s29_e1:e1 29=_:=hf1 16 rfl;refine RL.x rfl rfl (ca pT (cO rfl rfl s29_e1) (qw _ _ _ _ _ _ _ _ _ _ _ _ (bg s20_e1 w3) (bg s28_e1 w3) qi1 (cu.row (i:=i) hMm (by omega)) (cu.row (i:=j) hMm (by omega)) (fun e=>absurd (cu.inj hMm (by omega) (by omega) e) hij) (by omega) hfM)) ?_;rintro _ w5 ⟨hk1,hN1⟩;have hR1:=cu.row (i:=i) hMm (by omega);replace hG:=aX hG hk1 hR1 (by decide);replace hMu:=aT hMu hk1 hR1 (fun ii hii=>Ne.symm (dmu i ii (by omega) hii));replace hMv:=aT hMv hk1 hR1 (fun ii hii=>Ne.symm (dmv i ii (by omega) hii));replace hk:=bN hk hk1 hR1;replace qi1:=bN qi1 hk1 hR1;replace hA1:=hA1.keep hk1 (Ne.symm (ne2 i (by omega)));replace hX:=hX.step hk1 (fun b e=>by subst e;exact (.inl (cT (i:=i) h0m (by omega))));replace hMm:=cu.setRow (i:=i) hMm (by omega) hk1 hN1;refine RL.nil ?_;refine aJ am 17 [_,_,_,_,_,_,_,_,_,_,_,_,_,_,_,_,_] rfl rfl (fun e_ w_ AB AA=>⟨fun _=>aa (cn.move ((AA 0 rfl s0_e1))),fun Az=>aa (cn.nilCheck ((Az 0 rfl))),fun Az=>aa (cn.fieldAddr dJ ((Az 1 rfl))),fun Az=>aa (cn.fieldAddr au ((Az 2 rfl))),fun Az=>aa (cn.load aK ((Az 3 rfl)) ((aR.ext hG AB).at_ (i:=5) rfl rfl)),fun _=>aa (cn.move ((AA 1 rfl s1_e1))),fun Az=>aa (cn.index (j:=i) aF ((Az 4 rfl)) ((Az 5 rfl)) rfl (by omega) (by omega)),fun Az=>ai (al (i:=i) aU (Az 6 rfl) (cu.ext hMu AB) (by omega)),fun _=>aa (cn.move ((AA 0 rfl s0_e1))),fun Az=>aa (cn.nilCheck ((Az 8 rfl))),fun Az=>aa (cn.fieldAddr dJ ((Az 9 rfl))),fun Az=>aa (cn.fieldAddr au ((Az 10 rfl))),fun Az=>aa (cn.load aK ((Az 11 rfl)) ((aR.ext hG AB).at_ (i:=5) rfl rfl)),fun _=>aa (cn.move ((AA 2 rfl s2_e1))),fun Az=>aa (cn.index (j:=j) aF ((Az 12 rfl)) ((Az 13 rfl)) rfl (by omega) (by omega)),fun Az=>ai (al (i:=j) aU (Az 14 rfl) (cu.ext hMu AB) (by omega)),fun _=>aa (ae [ca1,cb1] aw ((AA 7 rfl s7_e1)) ((aR.ext hA1 AB).cells 0 _ rfl rfl)),trivial⟩) ?_;intro e2 w6 hx5 ho4 hf2;replace hG:=aR.ext hG hx5;replace hMm:=cu.ext hMm hx5;replace hMu:=cu.ext hMu hx5;replace hMv:=cu.ext hMv hx5;replace hk:=ak.ext hk hx5;replace qi1:=ak.ext qi1 hx5;replace hA1:=aR.ext hA1 hx5;replace hX:=aC hX hx5;have s0_e2:=ho4 0 rfl s0_e1;have s1_e2:=ho4 1 rfl s1_e1;have s2_e2:=ho4 2 rfl s2_e1;have s7_e2:=ho4 7 rfl s7_e1;have s38_e2:fe w6 (e2 38) (ρu i) r:=hf2 7 rfl;have s46_e2:fe w6 (e2 46) (ρu j) r:=hf2 15 rfl;have s47_e2:e2 47=_:=hf2 16 rfl;refine RL.x rfl rfl (ca pT (cO rfl rfl s47_e2) (qw _ _ _ _ _ _ _ _ _ _ _ _ (bg s38_e2 w6) (bg s46_e2 w6) qi1 (cu.row (i:=i) hMu (by omega)) (cu.row (i:=j) hMu (by omega)) (fun e=>absurd (cu.inj hMu (by omega) (by omega) e) hij) (by omega) hfU)) ?_;rintro _ w8 ⟨hk2,hN2⟩;have hR2:=cu.row (i:=i) hMu (by omega);replace hG:=aX hG hk2 hR2 (by decide);replace hMm:=aT hMm hk2 hR2 (fun ii hii=>dmu ii i hii (by omega));replace hMv:=aT hMv hk2 hR2 (fun ii hii=>Ne.symm (duv i ii (by omega) hii));replace hk:=bN hk hk2 hR2;replace qi1:=bN qi1 hk2 hR2;replace hA1:=hA1.keep hk2 (Ne.symm (ne4 i (by omega)));replace hX:=hX.step hk2 (fun b e=>by subst e;exact (.inl (cT (i:=i) h0u (by omega))));replace hMu:=cu.setRow (i:=i) hMu (by omega) hk2 hN2;refine RL.nil ?_;refine ab ?_;refine RL.p rfl rfl (cn.move s0_e2) ?_;refine RL.p rfl rfl (cn.nilCheck rfl) ?_;refine RL.p rfl rfl (cn.fieldAddr jv rfl) ?_;refine RL.p rfl rfl (cn.fieldAddr au rfl) ?_;refine RL.p rfl rfl (cn.load aK rfl (hG.at_ (i:=8) rfl rfl)) ?_;refine RL.p rfl rfl (cn.len aF rfl) ?_;refine RL.p rfl rfl (cn.move rfl) ?_;refine RL.nil ?_;refine WP.block ?_;refine WP.loop (fun mz ez uz=>∃a:Nat,(mz=r - a)∧(ez 1= .int .i64 ((i:Nat)))∧(ez 2= .int .i64 ((j:Nat)))∧(ez 7= .pointer (some ⟨g1,0,none⟩))∧(ez 53= .slice (some ⟨hv,0,none⟩) (r) (kv))∧(ez 54= .int .i64 ((r:Nat)))∧(ez 55= .int .i64 ((a:Nat)))∧(a≤r)∧(Keeps (di B w) w uz)∧(aR uz gw 95 9 (bt [.int .i64 ((r:Nat)),.int .i64 ((c:Nat)),.slice (some ⟨hm,0,none⟩) (r) (km),.int .i64 ((r:Nat)),.int .i64 ((r:Nat)),.slice (some ⟨hu,0,none⟩) (r) (ku),.int .i64 ((r:Nat)),.int .i64 ((r:Nat)),.slice (some ⟨hv,0,none⟩) (r) (kv)]))∧(cu uz B hm km r c ρm (setRow M i (fun c=>M i c + zk*M j c)) b)∧(cu uz B hu ku r r ρu (setRow U i (fun c=>U i c + zk*U j c)) b)∧(cu uz B hv kv r r ρv (dV V (dz V i j zk) a) b)∧(ak uz k zk btk)∧(ak uz (.agg #[ca1,cb1]:Value) zk btk)∧(aR uz g1 51 2 (bt [ca1,cb1]))) (r - 0) ?_ ?_
  · exact ⟨0,rfl,s1_e2,s2_e2,s7_e2,rfl,rfl,rfl,(by omega),hX,hG,hMm,hMu,bh hMv (eA V (dz V i j zk)).symm,hk,qi1,hA1⟩
  rintro m1 e3 w9 ⟨a,hm1,s1_e3,s2_e3,s7_e3,s53_e3,s54_e3,s55_e3,ha,hX1,hG,hMm,hMu,hMv,hk,qi1,hA1⟩;refine ab ?_;refine RL.p rfl rfl (cn.lss s55_e3 s54_e3) ?_;refine RL.nil ?_;refine WP.seq ?_;refine af (((a:Nat):Int)<((r:Nat):Int)) rfl (fun c56=> ?_) (fun c56=> ?_)
  ·
   refine WP.skip ?_;refine pA.norm ?_;refine WP.seq ?_;refine WP.block ?_;refine ab ?_;refine RL.p rfl rfl (cn.index (j:=a) aF s53_e3 s55_e3 rfl (by omega) (by omega)) ?_;refine RL.x rfl rfl (al (i:=a) aU rfl hMv (by omega)) ?_;rintro v1 _ ⟨rfl,q1⟩;refine RL.p rfl rfl (cn.assign rfl) ?_;refine RL.nil ?_;refine WP.ds am 14 [_,_,_,_,_,_,_,_,_,_,_,_,_,_] rfl rfl (fun e_ w_ AB AA=>⟨fun _=>aa (cn.move ((AA 9 rfl rfl))),fun _=>aa (cn.move ((AA 2 rfl s2_e3))),fun _=>aa (cn.move ((AA 9 rfl rfl))),fun _=>aa (cn.move ((AA 2 rfl s2_e3))),fun Az=>aa (av (j:=j) be (bg q1 w_) (Az 2 rfl) (Az 3 rfl) (by omega) (by omega)),fun Az=>ai (aO (j:=j) aw (Az 4 rfl) (cu.row (cu.ext hMv AB) (by omega)) (by omega)),fun _=>aa (ae [ca1,cb1] aw ((AA 7 rfl s7_e3)) ((aR.ext hA1 AB).cells 0 _ rfl rfl)),fun _=>aa (cn.move ((AA 9 rfl rfl))),fun _=>aa (cn.move ((AA 1 rfl s1_e3))),fun Az=>aa (av (j:=i) be (bg q1 w_) (Az 7 rfl) (Az 8 rfl) (by omega) (by omega)),fun Az=>ai (aO (j:=i) aw (Az 9 rfl) (cu.row (cu.ext hMv AB) (by omega)) (by omega)),fun Az=>cX.call sh (aA ((Az 6 rfl)) rfl) (ug _ _ _ _ _ _ _ ((btk) + (b)) ((ak.ext qi1 AB)) ((Az 10 rfl)) (by omega) (by omega)),fun Az=>cX.call yI (aA rfl rfl) (zM _ _ _ _ _ _ _ (max (b) ((btk) + (b)) + 1) ((Az 5 rfl)) ((Az 11 rfl)) (by omega) (by omega) (by omega)),fun Az=>aa (av (j:=j) be (bg q1 w_) (Az 0 rfl) (Az 1 rfl) (by omega) (by omega)),trivial⟩) ?_;intro e4 w10 hx7 ho5 hf3;replace hG:=aR.ext hG hx7;replace hMm:=cu.ext hMm hx7;replace hMu:=cu.ext hMu hx7;replace hMv:=cu.ext hMv hx7;replace hk:=ak.ext hk hx7;replace qi1:=ak.ext qi1 hx7;replace hA1:=aR.ext hA1 hx7;replace hX1:=aC hX1 hx7;have s1_e4:=ho5 1 rfl s1_e3;have s2_e4:=ho5 2 rfl s2_e3;have s7_e4:=ho5 7 rfl s7_e3;have s53_e4:=ho5 53 rfl s53_e3;have s54_e4:=ho5 54 rfl s54_e3;have s55_e4:=ho5 55 rfl s55_e3;have s71_e4:ak w10 (e4 71) (((dV V (dz V i j zk) a) a j:Int) - ((zk:Int)*((dV V (dz V i j zk) a) a i:Int):Int)) (max (b) ((btk) + (b)) + 1):=hf3 12 rfl;have s72_e4:e4 72=_:=hf3 13 rfl;refine RL.x rfl rfl (br (i:=a) (j:=j) aL s72_e4 rfl (ak.eq s71_e4 (by rw [de,de]) (hfV a (by omega)) (by omega)) hMv (by omega) (by omega)) ?_;rintro _ w11 ⟨hk3,hN3⟩;have hR3:=cu.row (i:=a) hMv (by omega);replace hG:=aX hG hk3 hR3 (by decide);replace hMm:=aT hMm hk3 hR3 (fun ii hii=>dmv ii a hii (by omega));replace hMu:=aT hMu hk3 hR3 (fun ii hii=>duv ii a hii (by omega));replace hk:=bN hk hk3 hR3;replace qi1:=bN qi1 hk3 hR3;replace hA1:=hA1.keep hk3 (Ne.symm (ne6 a (by omega)));replace hX1:=hX1.step hk3 (fun b e=>by subst e;exact (.inl (cT (i:=a) h0v (by omega))));replace hMv:=hN3;clear hR3;refine RL.nil ?_;refine iM.norm ?_;refine pA.norm ?_;refine WP.region ?_;refine RL.p rfl rfl (cn.add (c:=((a + 1:Nat):Int)) s55_e4 rfl (bA (by omega))) ?_;refine RL.p rfl rfl (cn.move rfl) ?_;refine RL.nil ?_;refine pA.norm ⟨_,(by omega),a + 1,rfl,s1_e4,s2_e4,s7_e4,s53_e4,s54_e4,rfl,(by omega),hX1,hG,hMm,hMu,bh hMv (gH (by simp [dz]) (fun c hc=>by simp [dz,hc])),hk,qi1,hA1⟩
  ·
   refine WP.exit ?_;refine pA.exit ?_;refine pA.exit ?_;refine iM.same ?_;refine ⟨.tuple #[],zP.zero,_,rfl,hX1,?_⟩;dsimp only;exact ⟨hm,hu,hv,km,ku,kv,_,_,_,hBg,hG,(bh hMm (jZ M i j zk)),(bh hMu (jZ U i j zk)),(cu.congr hMv (fun a c ha hc=>fq V _ c (by omega))),nmu,nmv,nuv,dmu,dmv,duv⟩
set_option maxRecDepth 10000 in
theorem xZ (w:World) (B gw r c:Nat) (M U V:Nat→Nat→Int) (b:Nat) (i:Nat) (j:Nat) (hW:bJ 95 w B gw r c M U V b) (hi:i<r) (hj:j<r):Calls Tryz.prog 94 #[.pointer (some ⟨gw,0,none⟩),.int .i64 (i:Nat),.int .i64 (j:Nat)] w (iI (di B w) w fun v w'=>bJ 95 w' B gw r c (cj M i j) (cj U i j) (cM V i j) b):=by
 have hLIM:aZ=562949953421312:=rfl;obtain ⟨hm,hu,hv,km,ku,kv,ρm,ρu,ρv,hBg,hG,hMm,hMu,hMv,nmu,nmv,nuv,dmu,dmv,duv⟩:=hW;have hdm:=cu.dlim hMm;have hcm:=cu.clim hMm;have hdu:=cu.dlim hMu;have hdv:=cu.dlim hMv;have h0m:=hMm;have h0u:=hMu;have h0v:=hMv;refine aj (N:=93) (rs:= #[]) Tryz.func94 rfl rfl rfl (Nat.le_of_ble_eq_true rfl) ?_;have hX:Keeps (di B w) w w:=Keeps.refl _ w;refine fM am 29 [_,_,_,_,_,_,_,_,_,_,_,_,_,_,_,_,_,_,_,_,_,_,_,_,_,_,_,_,_] (Apart.of (fun _ _ _=>False) [] rfl ⟨(fun h=>by cases h),(fun h=>by cases h),(fun h=>by cases h),(fun h=>by cases h),(fun h=>by cases h),(fun h=>by cases h),(fun h=>by cases h),(fun h=>by cases h),(fun h=>by cases h),(fun h=>by cases h),(fun h=>by cases h),(fun h=>by cases h),(fun h=>by cases h),(fun h=>by cases h),(fun h=>by cases h),(fun h=>by cases h),(fun h=>by cases h),(fun h=>by cases h),(fun h=>by cases h),(fun h=>by cases h),(fun h=>by cases h),(fun h=>by cases h),(fun h=>by cases h),(fun h=>by cases h),(fun h=>by cases h),(fun h=>by cases h),(fun h=>by cases h),(fun h=>by cases h),(fun h=>by cases h),trivial⟩) 11 (vk:= .int .i64 ((j:Nat))) rfl rfl rfl (by kernel_rfl) (by kernel_rfl) (by kernel_rfl) (by kernel_rfl) rfl rfl ⟨ad _,ad _,ad _,ad _,ad _,ad _,ad _,ad _,ad _,ad _,ad _,ad _,ad _,ad _,ad _,ad _,ad _,ad _,ad _,cm _ _,ad _,ad _,ad _,ad _,ad _,ad _,ad _,cm _ _,ad _,trivial⟩ ⟨fun e_ w_ AB AA Az=>aI rfl (aa (cn.move (((AA 0 rfl).trans rfl)))),fun e_ w_ AB AA Az=>aI rfl (aa (cn.nilCheck ((Az 0 rfl)))),fun e_ w_ AB AA Az=>aI rfl (aa (cn.fieldAddr cF ((Az 1 rfl)))),fun e_ w_ AB AA Az=>aI rfl (aa (cn.fieldAddr au ((Az 2 rfl)))),fun e_ w_ AB AA Az=>aI rfl (aa (cn.load aK ((Az 3 rfl)) ((aR.ext hG AB).at_ (i:=2) rfl rfl))),fun e_ w_ AB AA Az=>aI rfl (aa (cn.move (((AA 1 rfl).trans rfl)))),fun e_ w_ AB AA Az=>aI rfl (aa (cn.move (((AA 0 rfl).trans rfl)))),fun e_ w_ AB AA Az=>aI rfl (aa (cn.nilCheck ((Az 6 rfl)))),fun e_ w_ AB AA Az=>aI rfl (aa (cn.fieldAddr cF ((Az 7 rfl)))),fun e_ w_ AB AA Az=>aI rfl (aa (cn.fieldAddr au ((Az 8 rfl)))),fun e_ w_ AB AA Az=>aI rfl (aa (cn.load aK ((Az 9 rfl)) ((aR.ext hG AB).at_ (i:=2) rfl rfl))),fun e_ w_ AB AA Az=>aI rfl (aa (cn.move (((AA 2 rfl).trans rfl)))),fun e_ w_ AB AA Az=>aI rfl (aa (cn.move (((AA 0 rfl).trans rfl)))),fun e_ w_ AB AA Az=>aI rfl (aa (cn.nilCheck ((Az 12 rfl)))),fun e_ w_ AB AA Az=>aI rfl (aa (cn.fieldAddr cF ((Az 13 rfl)))),fun e_ w_ AB AA Az=>aI rfl (aa (cn.fieldAddr au ((Az 14 rfl)))),fun e_ w_ AB AA Az=>aI rfl (aa (cn.load aK ((Az 15 rfl)) ((aR.ext hG AB).at_ (i:=2) rfl rfl))),fun e_ w_ AB AA Az=>aI rfl (aa (cn.move (((AA 2 rfl).trans rfl)))),fun e_ w_ AB AA Az=>aI rfl (aa (cn.index (j:=j) aF ((Az 16 rfl)) ((Az 17 rfl)) rfl (by omega) (by omega))),fun e_ w_ AB AA Az=>aI rfl (ai (al (i:=j) aU (Az 18 rfl) (cu.ext hMm AB) (by omega))),fun e_ w_ AB AA Az=>aI rfl (aa (cn.move (((AA 0 rfl).trans rfl)))),fun e_ w_ AB AA Az=>aI rfl (aa (cn.nilCheck ((Az 20 rfl)))),fun e_ w_ AB AA Az=>aI rfl (aa (cn.fieldAddr cF ((Az 21 rfl)))),fun e_ w_ AB AA Az=>aI rfl (aa (cn.fieldAddr au ((Az 22 rfl)))),fun e_ w_ AB AA Az=>aI rfl (aa (cn.load aK ((Az 23 rfl)) ((aR.ext hG AB).at_ (i:=2) rfl rfl))),fun e_ w_ AB AA Az=>aI rfl (aa (cn.move (((AA 1 rfl).trans rfl)))),fun e_ w_ AB AA Az=>aI rfl (aa (cn.index (j:=i) aF ((Az 24 rfl)) ((Az 25 rfl)) rfl (by omega) (by omega))),fun e_ w_ AB AA Az=>aI rfl (ai (al (i:=i) aU (Az 26 rfl) (cu.ext hMm AB) (by omega))),fun e_ w_ AB AA Az=>aI rfl (aa (cn.index (j:=i) aF ((Az 4 rfl)) ((Az 5 rfl)) rfl (by omega) (by omega))),trivial⟩ (fun _=>cn.move rfl) (fun _=>rfl) (eX rfl) ?_;intro e1 w1 hx1 ho1 hf1 hp1;replace hG:=aR.ext hG hx1;replace hMm:=cu.ext hMm hx1;replace hMu:=cu.ext hMu hx1;replace hMv:=cu.ext hMv hx1;replace hX:=aC hX hx1;have s0_e1:e1 0= .pointer (some ⟨gw,0,none⟩):=(ho1 0 rfl).trans rfl;have s1_e1:e1 1= .int .i64 ((i:Nat)):=(ho1 1 rfl).trans rfl;have s2_e1:e1 2= .int .i64 ((j:Nat)):=(ho1 2 rfl).trans rfl;have s18_e1:e1 18=_:=hf1 10 rfl;have s19_e1:e1 19=_:=hf1 11 rfl;have s27_e1:fe w1 (e1 27) (ρm j) c:=hf1 19 rfl;have s35_e1:fe w1 (e1 35) (ρm i) c:=hf1 27 rfl;have s36_e1:e1 36=_:=hf1 28 rfl;obtain ⟨fh1,hH1⟩:=cu.split hMm;refine RL.x rfl rfl (cw (i:=i) (g:=(ρm j)) (n:=c) (f:=fh1) fT s36_e1 rfl (bg s27_e1 w1) hH1 (by omega)) ?_;rintro _ w2 ⟨hk1,hN1⟩;have hMo1:=hMm;have hH01:=hH1;replace hG:=hG.keep hk1 (hG.ne hH01 (by decide));replace hMu:=bL hMu hk1 hH01 (Ne.symm nmu);replace hMv:=bL hMv hk1 hH01 (Ne.symm nmv);replace hX:=hX.step hk1 (fun b e=>by subst e;exact (.inl (dA h0m)));refine RL.p rfl rfl (cn.index (j:=j) aF s18_e1 s19_e1 rfl (by omega) (by omega)) ?_;refine RL.x rfl rfl (cw (i:=j) (g:=(ρm i)) (n:=c) (f:=(dI fh1 (0 + i*1) [(e1 27)])) fT rfl rfl (bg s35_e1 w2) hN1 (by omega)) ?_;rintro _ w3 ⟨hk2,hN2⟩;have hH02:=hN1;replace hG:=hG.keep hk2 (hG.ne hH02 (by decide));replace hMu:=bL hMu hk2 hH02 (Ne.symm nmu);replace hMv:=bL hMv hk2 hH02 (Ne.symm nmv);replace hX:=hX.step hk2 (fun b e=>by subst e;exact (.inl (dA h0m)));have hk3:=hk1.step hk2 (fun b e=> .inl e);have hMm:=eZ (i:=i) (j:=j) hMo1 hH1 hk3 hN2 (bg s27_e1 w1) (bg s35_e1 w2) (by omega) (by omega);replace dmu:=go (i:=i) (j:=j) dmu (by omega) (by omega);replace dmv:=go (i:=i) (j:=j) dmv (by omega) (by omega);refine RL.nil ?_;refine fM am 29 [_,_,_,_,_,_,_,_,_,_,_,_,_,_,_,_,_,_,_,_,_,_,_,_,_,_,_,_,_] (Apart.of (fun _ _ _=>False) [] rfl ⟨(fun h=>by cases h),(fun h=>by cases h),(fun h=>by cases h),(fun h=>by cases h),(fun h=>by cases h),(fun h=>by cases h),(fun h=>by cases h),(fun h=>by cases h),(fun h=>by cases h),(fun h=>by cases h),(fun h=>by cases h),(fun h=>by cases h),(fun h=>by cases h),(fun h=>by cases h),(fun h=>by cases h),(fun h=>by cases h),(fun h=>by cases h),(fun h=>by cases h),(fun h=>by cases h),(fun h=>by cases h),(fun h=>by cases h),(fun h=>by cases h),(fun h=>by cases h),(fun h=>by cases h),(fun h=>by cases h),(fun h=>by cases h),(fun h=>by cases h),(fun h=>by cases h),(fun h=>by cases h),trivial⟩) 11 (vk:= .int .i64 ((j:Nat))) rfl rfl rfl (by kernel_rfl) (by kernel_rfl) (by kernel_rfl) (by kernel_rfl) rfl rfl ⟨ad _,ad _,ad _,ad _,ad _,ad _,ad _,ad _,ad _,ad _,ad _,ad _,ad _,ad _,ad _,ad _,ad _,ad _,ad _,cm _ _,ad _,ad _,ad _,ad _,ad _,ad _,ad _,cm _ _,ad _,trivial⟩ ⟨fun e_ w_ AB AA Az=>aI rfl (aa (cn.move (((AA 0 rfl).trans s0_e1)))),fun e_ w_ AB AA Az=>aI rfl (aa (cn.nilCheck ((Az 0 rfl)))),fun e_ w_ AB AA Az=>aI rfl (aa (cn.fieldAddr dJ ((Az 1 rfl)))),fun e_ w_ AB AA Az=>aI rfl (aa (cn.fieldAddr au ((Az 2 rfl)))),fun e_ w_ AB AA Az=>aI rfl (aa (cn.load aK ((Az 3 rfl)) ((aR.ext hG AB).at_ (i:=5) rfl rfl))),fun e_ w_ AB AA Az=>aI rfl (aa (cn.move (((AA 1 rfl).trans s1_e1)))),fun e_ w_ AB AA Az=>aI rfl (aa (cn.move (((AA 0 rfl).trans s0_e1)))),fun e_ w_ AB AA Az=>aI rfl (aa (cn.nilCheck ((Az 6 rfl)))),fun e_ w_ AB AA Az=>aI rfl (aa (cn.fieldAddr dJ ((Az 7 rfl)))),fun e_ w_ AB AA Az=>aI rfl (aa (cn.fieldAddr au ((Az 8 rfl)))),fun e_ w_ AB AA Az=>aI rfl (aa (cn.load aK ((Az 9 rfl)) ((aR.ext hG AB).at_ (i:=5) rfl rfl))),fun e_ w_ AB AA Az=>aI rfl (aa (cn.move (((AA 2 rfl).trans s2_e1)))),fun e_ w_ AB AA Az=>aI rfl (aa (cn.move (((AA 0 rfl).trans s0_e1)))),fun e_ w_ AB AA Az=>aI rfl (aa (cn.nilCheck ((Az 12 rfl)))),fun e_ w_ AB AA Az=>aI rfl (aa (cn.fieldAddr dJ ((Az 13 rfl)))),fun e_ w_ AB AA Az=>aI rfl (aa (cn.fieldAddr au ((Az 14 rfl)))),fun e_ w_ AB AA Az=>aI rfl (aa (cn.load aK ((Az 15 rfl)) ((aR.ext hG AB).at_ (i:=5) rfl rfl))),fun e_ w_ AB AA Az=>aI rfl (aa (cn.move (((AA 2 rfl).trans s2_e1)))),fun e_ w_ AB AA Az=>aI rfl (aa (cn.index (j:=j) aF ((Az 16 rfl)) ((Az 17 rfl)) rfl (by omega) (by omega))),fun e_ w_ AB AA Az=>aI rfl (ai (al (i:=j) aU (Az 18 rfl) (cu.ext hMu AB) (by omega))),fun e_ w_ AB AA Az=>aI rfl (aa (cn.move (((AA 0 rfl).trans s0_e1)))),fun e_ w_ AB AA Az=>aI rfl (aa (cn.nilCheck ((Az 20 rfl)))),fun e_ w_ AB AA Az=>aI rfl (aa (cn.fieldAddr dJ ((Az 21 rfl)))),fun e_ w_ AB AA Az=>aI rfl (aa (cn.fieldAddr au ((Az 22 rfl)))),fun e_ w_ AB AA Az=>aI rfl (aa (cn.load aK ((Az 23 rfl)) ((aR.ext hG AB).at_ (i:=5) rfl rfl))),fun e_ w_ AB AA Az=>aI rfl (aa (cn.move (((AA 1 rfl).trans s1_e1)))),fun e_ w_ AB AA Az=>aI rfl (aa (cn.index (j:=i) aF ((Az 24 rfl)) ((Az 25 rfl)) rfl (by omega) (by omega))),fun e_ w_ AB AA Az=>aI rfl (ai (al (i:=i) aU (Az 26 rfl) (cu.ext hMu AB) (by omega))),fun e_ w_ AB AA Az=>aI rfl (aa (cn.index (j:=i) aF ((Az 4 rfl)) ((Az 5 rfl)) rfl (by omega) (by omega))),trivial⟩ (fun _=>cn.move s2_e1) (fun _=>rfl) (eX rfl) ?_;intro e2 w4 hx2 ho2 hf2 hp2;replace hG:=aR.ext hG hx2;replace hMm:=cu.ext hMm hx2;replace hMu:=cu.ext hMu hx2;replace hMv:=cu.ext hMv hx2;replace hX:=aC hX hx2;have s0_e2:e2 0= .pointer (some ⟨gw,0,none⟩):=(ho2 0 rfl).trans s0_e1;have s1_e2:e2 1= .int .i64 ((i:Nat)):=(ho2 1 rfl).trans s1_e1;have s2_e2:e2 2= .int .i64 ((j:Nat)):=(ho2 2 rfl).trans s2_e1;have s48_e2:e2 48=_:=hf2 10 rfl;have s49_e2:e2 49=_:=hf2 11 rfl;have s57_e2:fe w4 (e2 57) (ρu j) r:=hf2 19 rfl;have s65_e2:fe w4 (e2 65) (ρu i) r:=hf2 27 rfl;have s66_e2:e2 66=_:=hf2 28 rfl;obtain ⟨fh2,hH2⟩:=cu.split hMu;refine RL.x rfl rfl (cw (i:=i) (g:=(ρu j)) (n:=r) (f:=fh2) fT s66_e2 rfl (bg s57_e2 w4) hH2 (by omega)) ?_;rintro _ w5 ⟨hk4,hN3⟩;have hMo2:=hMu;have hH03:=hH2;replace hG:=hG.keep hk4 (hG.ne hH03 (by decide));replace hMm:=bL hMm hk4 hH03 nmu;replace hMv:=bL hMv hk4 hH03 (Ne.symm nuv);replace hX:=hX.step hk4 (fun b e=>by subst e;exact (.inl (dA h0u)));refine RL.p rfl rfl (cn.index (j:=j) aF s48_e2 s49_e2 rfl (by omega) (by omega)) ?_;refine RL.x rfl rfl (cw (i:=j) (g:=(ρu i)) (n:=r) (f:=(dI fh2 (0 + i*1) [(e2 57)])) fT rfl rfl (bg s65_e2 w5) hN3 (by omega)) ?_;rintro _ w6 ⟨hk5,hN4⟩;have hH04:=hN3;replace hG:=hG.keep hk5 (hG.ne hH04 (by decide));replace hMm:=bL hMm hk5 hH04 nmu;replace hMv:=bL hMv hk5 hH04 (Ne.symm nuv);replace hX:=hX.step hk5 (fun b e=>by subst e;exact (.inl (dA h0u)));have hk6:=hk4.step hk5 (fun b e=> .inl e);have hMu:=eZ (i:=i) (j:=j) hMo2 hH2 hk6 hN4 (bg s57_e2 w4) (bg s65_e2 w5) (by omega) (by omega);replace dmu:=pX (i:=i) (j:=j) dmu (by omega) (by omega);replace duv:=go (i:=i) (j:=j) duv (by omega) (by omega);refine RL.nil ?_;refine ab ?_;refine RL.p rfl rfl (cn.move s0_e2) ?_;refine RL.p rfl rfl (cn.nilCheck rfl) ?_;refine RL.p rfl rfl (cn.fieldAddr jv rfl) ?_;refine RL.p rfl rfl (cn.fieldAddr au rfl) ?_;refine RL.p rfl rfl (cn.load aK rfl (hG.at_ (i:=8) rfl rfl)) ?_;refine RL.p rfl rfl (cn.len aF rfl) ?_;refine RL.p rfl rfl (cn.move rfl) ?_;refine RL.nil ?_;refine WP.block ?_;refine WP.loop (fun mz ez uz=>∃a:Nat,(mz=r - a)∧(ez 1= .int .i64 ((i:Nat)))∧(ez 2= .int .i64 ((j:Nat)))∧(ez 72= .slice (some ⟨hv,0,none⟩) (r) (kv))∧(ez 73= .int .i64 ((r:Nat)))∧(ez 74= .int .i64 ((a:Nat)))∧(a≤r)∧(Keeps (di B w) w uz)∧(aR uz gw 95 9 (bt [.int .i64 ((r:Nat)),.int .i64 ((c:Nat)),.slice (some ⟨hm,0,none⟩) (r) (km),.int .i64 ((r:Nat)),.int .i64 ((r:Nat)),.slice (some ⟨hu,0,none⟩) (r) (ku),.int .i64 ((r:Nat)),.int .i64 ((r:Nat)),.slice (some ⟨hv,0,none⟩) (r) (kv)]))∧(cu uz B hm km r c (fz ρm i j) (cj M i j) b)∧(cu uz B hu ku r r (fz ρu i j) (cj U i j) b)∧(cu uz B hv kv r r ρv (dV V (cM V i j) a) b)) (r - 0) ?_ ?_
 · exact ⟨0,rfl,s1_e2,s2_e2,rfl,rfl,rfl,(by omega),hX,hG,hMm,hMu,bh hMv (eA V (cM V i j)).symm⟩
 rintro m1 e3 w7 ⟨a,hm1,s1_e3,s2_e3,s72_e3,s73_e3,s74_e3,ha,hX1,hG,hMm,hMu,hMv⟩;refine ab ?_;refine RL.p rfl rfl (cn.lss s74_e3 s73_e3) ?_;refine RL.nil ?_;refine WP.seq ?_;refine af (((a:Nat):Int)<((r:Nat):Int)) rfl (fun c75=> ?_) (fun c75=> ?_)
 ·
  refine WP.skip ?_;refine pA.norm ?_;refine WP.seq ?_;refine WP.block ?_;refine ab ?_;refine RL.p rfl rfl (cn.index (j:=a) aF s72_e3 s74_e3 rfl (by omega) (by omega)) ?_;refine RL.x rfl rfl (al (i:=a) aU rfl hMv (by omega)) ?_;rintro v1 _ ⟨rfl,q1⟩;refine RL.p rfl rfl (cn.assign rfl) ?_;refine RL.nil ?_;refine we am 13 [_,_,_,_,_,_,_,_,_,_,_,_,_] (Apart.of (fun _ _ _=>False) [] rfl ⟨(fun h=>by cases h),(fun h=>by cases h),(fun h=>by cases h),(fun h=>by cases h),(fun h=>by cases h),(fun h=>by cases h),(fun h=>by cases h),(fun h=>by cases h),(fun h=>by cases h),(fun h=>by cases h),(fun h=>by cases h),(fun h=>by cases h),(fun h=>by cases h),trivial⟩) [2,3] [v1,.int .i64 ((j:Nat))] (by kernel_rfl) (by kernel_rfl) (by kernel_rfl) rfl ⟨ad _,ad _,ad _,ad _,ad _,ad _,ad _,bs _ _,ad _,ad _,ad _,bs _ _,ad _,trivial⟩ ⟨fun e_ w_ AB AA Az=>aI rfl (aa (cn.move (((AA 7 rfl).trans rfl)))),fun e_ w_ AB AA Az=>aI rfl (aa (cn.move (((AA 1 rfl).trans s1_e3)))),fun e_ w_ AB AA Az=>aI rfl (aa (cn.move (((AA 7 rfl).trans rfl)))),fun e_ w_ AB AA Az=>aI rfl (aa (cn.move (((AA 2 rfl).trans s2_e3)))),fun e_ w_ AB AA Az=>aI rfl (aa (cn.move (((AA 7 rfl).trans rfl)))),fun e_ w_ AB AA Az=>aI rfl (aa (cn.move (((AA 2 rfl).trans s2_e3)))),fun e_ w_ AB AA Az=>aI rfl (aa (av (j:=j) be (bg q1 w_) (Az 4 rfl) (Az 5 rfl) (by omega) (by omega))),fun e_ w_ AB AA Az=>aI rfl (ai (aO (j:=j) aw (Az 6 rfl) (cu.row (cu.ext hMv AB) (by omega)) (by omega))),fun e_ w_ AB AA Az=>aI rfl (aa (cn.move (((AA 7 rfl).trans rfl)))),fun e_ w_ AB AA Az=>aI rfl (aa (cn.move (((AA 1 rfl).trans s1_e3)))),fun e_ w_ AB AA Az=>aI rfl (aa (av (j:=i) be (bg q1 w_) (Az 8 rfl) (Az 9 rfl) (by omega) (by omega))),fun e_ w_ AB AA Az=>aI rfl (ai (aO (j:=i) aw (Az 10 rfl) (cu.row (cu.ext hMv AB) (by omega)) (by omega))),fun e_ w_ AB AA Az=>aI rfl (aa (av (j:=i) be (bg q1 w_) (Az 0 rfl) (Az 1 rfl) (by omega) (by omega))),trivial⟩ ⟨⟨rfl,⟨_,rfl,fun w_ e_ AA=>cn.move (((AA 7 rfl).trans rfl))⟩,fun _=>rfl,eX rfl⟩,⟨rfl,⟨_,rfl,fun w_ e_ AA=>cn.move (((AA 2 rfl).trans s2_e3))⟩,fun _=>rfl,eX rfl⟩,trivial⟩ rfl ?_;intro e4 w8 hx3 ho3 hf3 hp3;replace hG:=aR.ext hG hx3;replace hMm:=cu.ext hMm hx3;replace hMu:=cu.ext hMu hx3;replace hMv:=cu.ext hMv hx3;replace q1:=fe.ext q1 hx3;replace hX1:=aC hX1 hx3;have s1_e4:e4 1= .int .i64 ((i:Nat)):=(ho3 1 rfl).trans s1_e3;have s2_e4:e4 2= .int .i64 ((j:Nat)):=(ho3 2 rfl).trans s2_e3;have s72_e4:e4 72= .slice (some ⟨hv,0,none⟩) (r) (kv):=(ho3 72 rfl).trans s72_e3;have s73_e4:e4 73= .int .i64 ((r:Nat)):=(ho3 73 rfl).trans s73_e3;have s74_e4:e4 74= .int .i64 ((a:Nat)):=(ho3 74 rfl).trans s74_e3;have s80_e4:e4 80=_:=hf3 2 rfl;have s81_e4:e4 81=_:=hf3 3 rfl;have s85_e4:ak w8 (e4 85) ((dV V (cM V i j) a) a j) b:=hf3 7 rfl;have s89_e4:ak w8 (e4 89) ((dV V (cM V i j) a) a i) b:=hf3 11 rfl;have s90_e4:e4 90=_:=hf3 12 rfl;refine RL.x rfl rfl (br (i:=a) (j:=i) aL s90_e4 rfl s85_e4 hMv (by omega) (by omega)) ?_;rintro _ w9 ⟨hk7,hN5⟩;have hR1:=cu.row (i:=a) hMv (by omega);replace hG:=aX hG hk7 hR1 (by decide);replace hMm:=aT hMm hk7 hR1 (fun ii hii=>dmv ii a hii (by omega));replace hMu:=aT hMu hk7 hR1 (fun ii hii=>duv ii a hii (by omega));replace s89_e4:=bN s89_e4 hk7 hR1;replace hX1:=hX1.step hk7 (fun b e=>by subst e;exact (.inl (cT (i:=a) h0v (by omega))));replace hMv:=hN5;clear hR1;refine RL.p rfl rfl (av (j:=j) be (bg q1 w9) s80_e4 s81_e4 (by omega) (by omega)) ?_;refine RL.x rfl rfl (br (i:=a) (j:=j) aL rfl rfl s89_e4 hMv (by omega) (by omega)) ?_;rintro _ w10 ⟨hk8,hN6⟩;have hR2:=cu.row (i:=a) hMv (by omega);replace hG:=aX hG hk8 hR2 (by decide);replace hMm:=aT hMm hk8 hR2 (fun ii hii=>dmv ii a hii (by omega));replace hMu:=aT hMu hk8 hR2 (fun ii hii=>duv ii a hii (by omega));replace hX1:=hX1.step hk8 (fun b e=>by subst e;exact (.inl (cT (i:=a) h0v (by omega))));replace hMv:=hN6;clear hR2;refine RL.nil ?_;refine iM.norm ?_;refine pA.norm ?_;refine WP.region ?_;refine RL.p rfl rfl (cn.add (c:=((a + 1:Nat):Int)) s74_e4 rfl (bA (by omega))) ?_;refine RL.p rfl rfl (cn.move rfl) ?_;refine RL.nil ?_;refine pA.norm ⟨_,(by omega),a + 1,rfl,s1_e4,s2_e4,s72_e4,s73_e4,rfl,(by omega),hX1,hG,hMm,hMu,bh hMv (kM (fun h=>by rw [de];simp [cM]) (by rw [de];by_cases e:j=i<;>simp [cM,e]) (fun c h1 h2=>by simp [cM,h1,h2]))⟩
 ·
  refine WP.exit ?_;refine pA.exit ?_;refine pA.exit ?_;refine iM.same ?_;refine ⟨.tuple #[],zP.zero,_,rfl,hX1,?_⟩;dsimp only;exact ⟨hm,hu,hv,km,ku,kv,_,_,_,hBg,hG,hMm,hMu,(cu.congr hMv (fun a c ha hc=>fq V _ c (by omega))),nmu,nmv,nuv,dmu,dmv,duv⟩
set_option maxRecDepth 10000 in
theorem tO (w:World) (B gw r c:Nat) (M U V:Nat→Nat→Int) (b:Nat) (i:Nat) (hW:bJ 95 w B gw r c M U V b) (hi:i<r) (hc:0<c) (hb:b + 4≤aZ):Calls Tryz.prog 95 #[.pointer (some ⟨gw,0,none⟩),.int .i64 (i:Nat)] w (iI (di B w) w fun v w'=>bJ 95 w' B gw r c (db M i) (db U i) (ek V i) b):=by
 have hLIM:aZ=562949953421312:=rfl;obtain ⟨hm,hu,hv,km,ku,kv,ρm,ρu,ρv,hBg,hG,hMm,hMu,hMv,nmu,nmv,nuv,dmu,dmv,duv⟩:=hW;have hdm:=cu.dlim hMm;have hcm:=cu.clim hMm;have hdu:=cu.dlim hMu;have hdv:=cu.dlim hMv;have h0m:=hMm;have h0u:=hMu;have h0v:=hMv;have h0G:=hG;have hbM:=fun a (ha:a<c)=>cu.bd hMm hi ha
 have hbU:=fun a (ha:a<r)=>cu.bd hMu hi ha
 refine aj (N:=95) (rs:= #[]) Tryz.func95 rfl rfl rfl (Nat.le_of_ble_eq_true rfl) ?_;have hX:Keeps (di B w) w w:=Keeps.refl _ w;refine ab ?_;refine RL.x rfl rfl (cX.call ns (aE rfl) (uf (-2) (2) _ (by decide) (by decide) (by decide))) ?_;rintro v1 w1 ⟨hx1,q1⟩;replace hG:=aR.ext hG hx1;replace hMm:=cu.ext hMm hx1;replace hMu:=cu.ext hMu hx1;replace hMv:=cu.ext hMv hx1;replace hX:=aC hX hx1;refine RL.x rfl rfl (cX.alloc [.bool (false),.slice (none) (0) (0)] bq rfl) ?_;rintro _ w2 ⟨g1,rfl,hge1,hx2,hA1⟩;have ne1:gw≠g1:=Nat.ne_of_lt (Nat.lt_of_lt_of_le hG.lt hge1);have ne2:∀ii,ii<r→ρm ii≠g1:=fun ii hi=>Nat.ne_of_lt (Nat.lt_of_lt_of_le (cu.rowlt hMm hi) hge1)
 have ne4:∀ii,ii<r→ρu ii≠g1:=fun ii hi=>Nat.ne_of_lt (Nat.lt_of_lt_of_le (cu.rowlt hMu hi) hge1)
 have ne6:∀ii,ii<r→ρv ii≠g1:=fun ii hi=>Nat.ne_of_lt (Nat.lt_of_lt_of_le (cu.rowlt hMv hi) hge1)
 have hbs1:w.heap.size≤g1:=Nat.le_trans hX.size hge1;replace hG:=aR.ext hG hx2;replace hMm:=cu.ext hMm hx2;replace hMu:=cu.ext hMu hx2;replace hMv:=cu.ext hMv hx2;replace q1:=ak.ext q1 hx2;replace hX:=aC hX hx2;obtain ⟨ca1,cb1,hq1,ho1,ho2⟩:=ak.cells q1;have qi1:ak w2 (.agg #[ca1,cb1]) (-2) 2:=hq1▸q1;refine RL.x rfl rfl (cX.store [ca1,cb1] aL rfl hq1 rfl hA1 (Nat.le_of_ble_eq_true rfl) (aS ho1 ho2)) ?_;rintro _ w3 ⟨hk1,hnew⟩;replace hMm:=dU hMm hk1 hA1 ne2;replace hMu:=dU hMu hk1 hA1 ne4;replace hMv:=dU hMv hk1 hA1 ne6;replace hG:=hG.keep hk1 ne1;replace qi1:=ac qi1 hk1 hA1 (by decide);replace hX:=hX.step hk1 (fun b e=>by subst e;exact .inr hbs1);replace hA1:=hnew.lit [ca1,cb1] rfl;clear hnew;refine RL.nil ?_;have hXr:=hX;have hBw:B≤w.heap.size:=Nat.le_trans hBg (Nat.le_of_lt (h0G.lt));have hro_m:=fun ii (hi:ii<r)=>cu.rowlt hMm hi
 have hro_u:=fun ii (hi:ii<r)=>cu.rowlt hMu hi
 have hro_v:=fun ii (hi:ii<r)=>cu.rowlt hMv hi
 have hlt_g1:=hA1.lt;refine fM am 31 [_,_,_,_,_,_,_,_,_,_,_,_,_,_,_,_,_,_,_,_,fun v AC=>eT AC v w3.heap.size c (M i) b,_,_,_,_,_,_,_,_,fun v AC=>eT AC v w3.heap.size r (U i) b,_] (Apart.of (fun v _ b=>b=df v) [(20,29)] rfl ⟨(fun h=>by cases h),(fun h=>by cases h),(fun h=>by cases h),(fun h=>by cases h),(fun h=>by cases h),(fun h=>by cases h),(fun h=>by cases h),(fun h=>by cases h),(fun h=>by cases h),(fun h=>by cases h),(fun h=>by cases h),(fun h=>by cases h),(fun h=>by cases h),(fun h=>by cases h),(fun h=>by cases h),(fun h=>by cases h),(fun h=>by cases h),(fun h=>by cases h),(fun h=>by cases h),(fun h=>by cases h),(fun _=>lS _ _ _ _),(fun h=>by cases h),(fun h=>by cases h),(fun h=>by cases h),(fun h=>by cases h),(fun h=>by cases h),(fun h=>by cases h),(fun h=>by cases h),(fun h=>by cases h),(fun _=>lS _ _ _ _),(fun h=>by cases h),trivial⟩) 11 (vk:= .int .i64 ((i:Nat))) rfl rfl rfl (by kernel_rfl) (by kernel_rfl) (by kernel_rfl) (by kernel_rfl) rfl rfl ⟨ad _,ad _,ad _,ad _,ad _,ad _,ad _,ad _,ad _,ad _,ad _,ad _,ad _,ad _,ad _,ad _,ad _,ad _,ad _,cm _ _,fX _ _ _ _,ad _,ad _,ad _,ad _,ad _,ad _,ad _,cm _ _,fX _ _ _ _,ad _,trivial⟩ ⟨fun e_ w_ AB AA Az=>aI rfl (aa (cn.move (((AA 0 rfl).trans rfl)))),fun e_ w_ AB AA Az=>aI rfl (aa (cn.nilCheck ((Az 0 rfl)))),fun e_ w_ AB AA Az=>aI rfl (aa (cn.fieldAddr cF ((Az 1 rfl)))),fun e_ w_ AB AA Az=>aI rfl (aa (cn.fieldAddr au ((Az 2 rfl)))),fun e_ w_ AB AA Az=>aI rfl (aa (cn.load aK ((Az 3 rfl)) ((aR.ext hG AB).at_ (i:=2) rfl rfl))),fun e_ w_ AB AA Az=>aI rfl (aa (cn.move (((AA 1 rfl).trans rfl)))),fun e_ w_ AB AA Az=>aI rfl (aa (cn.move (((AA 0 rfl).trans rfl)))),fun e_ w_ AB AA Az=>aI rfl (aa (cn.nilCheck ((Az 6 rfl)))),fun e_ w_ AB AA Az=>aI rfl (aa (cn.fieldAddr dJ ((Az 7 rfl)))),fun e_ w_ AB AA Az=>aI rfl (aa (cn.fieldAddr au ((Az 8 rfl)))),fun e_ w_ AB AA Az=>aI rfl (aa (cn.load aK ((Az 9 rfl)) ((aR.ext hG AB).at_ (i:=5) rfl rfl))),fun e_ w_ AB AA Az=>aI rfl (aa (cn.move (((AA 1 rfl).trans rfl)))),fun e_ w_ AB AA Az=>aI rfl (aa (cn.move (((AA 0 rfl).trans rfl)))),fun e_ w_ AB AA Az=>aI rfl (aa (cn.nilCheck ((Az 12 rfl)))),fun e_ w_ AB AA Az=>aI rfl (aa (cn.fieldAddr cF ((Az 13 rfl)))),fun e_ w_ AB AA Az=>aI rfl (aa (cn.fieldAddr au ((Az 14 rfl)))),fun e_ w_ AB AA Az=>aI rfl (aa (cn.load aK ((Az 15 rfl)) ((aR.ext hG AB).at_ (i:=2) rfl rfl))),fun e_ w_ AB AA Az=>aI rfl (aa (cn.move (((AA 1 rfl).trans rfl)))),fun e_ w_ AB AA Az=>aI rfl (aa (cn.index (j:=i) aF ((Az 16 rfl)) ((Az 17 rfl)) rfl (by omega) (by omega))),fun e_ w_ AB AA Az=>aI rfl (ai (al (i:=i) aU (Az 18 rfl) (cu.ext hMm AB) (by omega))),fun e_ w_ AB AA Az=>cX.mono (cX.call sC (aE rfl) (qc _ _ _ _ _ (fe.rowV (w':=w_) (Az 19 rfl) (cu.row (i:=i) (cu.ext hMm AB) (by omega))) (by omega))) fun v AD hv=>⟨hv.1,(by obtain ⟨g,h1,h2,h3⟩:=hv.2;exact ⟨g,h1,Nat.le_trans AB.size h2,h3⟩),dD fun b hb=>hb▸(by obtain ⟨g,h1,h2,h3⟩:=hv.2;rw [gJ h1];exact h2)⟩,fun e_ w_ AB AA Az=>aI rfl (aa (cn.move (((AA 0 rfl).trans rfl)))),fun e_ w_ AB AA Az=>aI rfl (aa (cn.nilCheck ((Az 21 rfl)))),fun e_ w_ AB AA Az=>aI rfl (aa (cn.fieldAddr dJ ((Az 22 rfl)))),fun e_ w_ AB AA Az=>aI rfl (aa (cn.fieldAddr au ((Az 23 rfl)))),fun e_ w_ AB AA Az=>aI rfl (aa (cn.load aK ((Az 24 rfl)) ((aR.ext hG AB).at_ (i:=5) rfl rfl))),fun e_ w_ AB AA Az=>aI rfl (aa (cn.move (((AA 1 rfl).trans rfl)))),fun e_ w_ AB AA Az=>aI rfl (aa (cn.index (j:=i) aF ((Az 25 rfl)) ((Az 26 rfl)) rfl (by omega) (by omega))),fun e_ w_ AB AA Az=>aI rfl (ai (al (i:=i) aU (Az 27 rfl) (cu.ext hMu AB) (by omega))),fun e_ w_ AB AA Az=>cX.mono (cX.call sC (aE rfl) (qc _ _ _ _ _ (fe.rowV (w':=w_) (Az 28 rfl) (cu.row (i:=i) (cu.ext hMu AB) (by omega))) (by omega))) fun v AD hv=>⟨hv.1,(by obtain ⟨g,h1,h2,h3⟩:=hv.2;exact ⟨g,h1,Nat.le_trans AB.size h2,h3⟩),dD fun b hb=>hb▸(by obtain ⟨g,h1,h2,h3⟩:=hv.2;rw [gJ h1];exact h2)⟩,fun e_ w_ AB AA Az=>aI rfl (aa (cn.index (j:=i) aF ((Az 4 rfl)) ((Az 5 rfl)) rfl (by omega) (by omega))),trivial⟩ (fun _=>cn.move rfl) (fun _=>rfl) (eX rfl) ?_;intro e1 w4 hx3 ho3 hf1 hp1;replace hG:=aR.ext hG hx3;replace hA1:=aR.ext hA1 hx3;replace qi1:=ak.ext qi1 hx3;replace hMm:=cu.ext hMm hx3;replace hMu:=cu.ext hMu hx3;replace hMv:=cu.ext hMv hx3;replace hX:=aC hX hx3;have s0_e1:e1 0= .pointer (some ⟨gw,0,none⟩):=(ho3 0 rfl).trans rfl;have s1_e1:e1 1= .int .i64 ((i:Nat)):=(ho3 1 rfl).trans rfl;have s4_e1:e1 4= .pointer (some ⟨g1,0,none⟩):=(ho3 4 rfl).trans rfl;have s18_e1:e1 18=_:=hf1 10 rfl;have s19_e1:e1 19=_:=hf1 11 rfl;have s28_e1:eT w4 (e1 28) w3.heap.size c (M i) b:=hf1 20 rfl;have s37_e1:eT w4 (e1 37) w3.heap.size r (U i) b:=hf1 29 rfl;have s38_e1:e1 38=_:=hf1 30 rfl;obtain ⟨gc1,hSc1,hBc1,hRc1⟩:=s28_e1;obtain ⟨gc2,hSc2,hBc2,hRc2⟩:=s37_e1;have ne8:gc1≠gc2:=by
   have hd:=hp1 20 29 rfl rfl rfl rfl (df (e1 28)) rfl;intro he
   apply hd
   show df (e1 28)=df (e1 37);rw [gJ hSc1,gJ hSc2];exact he
 have ne9:∀ii,ii<r→ρm ii≠gc1:=fun ii hi=>Nat.ne_of_lt (Nat.lt_of_lt_of_le (hro_m ii hi) hBc1)
 have ne10:∀ii,ii<r→ρu ii≠gc1:=fun ii hi=>Nat.ne_of_lt (Nat.lt_of_lt_of_le (hro_u ii hi) hBc1)
 have ne11:∀ii,ii<r→ρv ii≠gc1:=fun ii hi=>Nat.ne_of_lt (Nat.lt_of_lt_of_le (hro_v ii hi) hBc1)
 have hbs2:w.heap.size≤gc1:=Nat.le_trans hXr.size hBc1;have hbB1:B≤gc1:=Nat.le_trans hBw hbs2;have ne12:g1≠gc1:=Nat.ne_of_lt (Nat.lt_of_lt_of_le hlt_g1 hBc1);have ne13:∀ii,ii<r→ρm ii≠gc2:=fun ii hi=>Nat.ne_of_lt (Nat.lt_of_lt_of_le (hro_m ii hi) hBc2)
 have ne14:∀ii,ii<r→ρu ii≠gc2:=fun ii hi=>Nat.ne_of_lt (Nat.lt_of_lt_of_le (hro_u ii hi) hBc2)
 have ne15:∀ii,ii<r→ρv ii≠gc2:=fun ii hi=>Nat.ne_of_lt (Nat.lt_of_lt_of_le (hro_v ii hi) hBc2)
 have hbs3:w.heap.size≤gc2:=Nat.le_trans hXr.size hBc2;have hbB2:B≤gc2:=Nat.le_trans hBw hbs3;obtain ⟨fh1,hH1⟩:=cu.split hMm;refine RL.x rfl rfl (cw (i:=i) (g:=gc1) (n:=c) (f:=fh1) fT s38_e1 rfl (bg hSc1 w4) hH1 (by omega)) ?_;rintro _ w5 ⟨hk2,hN1⟩;have hMo1:=hMm;have hH01:=hH1;have hRo1:=hRc1;replace hG:=hG.keep hk2 (hG.ne hH01 (by decide));replace hA1:=hA1.keep hk2 (hA1.ne hH01 (by decide));replace qi1:=ac qi1 hk2 hH01 (by decide);replace hMu:=bL hMu hk2 hH01 (Ne.symm nmu);replace hMv:=bL hMv hk2 hH01 (Ne.symm nmv);replace hRc2:=oW hRc2 hk2 hH01;replace hX:=hX.step hk2 (fun b e=>by subst e;exact (.inl (dA h0m)));replace hMm:=oJ hMo1 hH1 hk2 hN1 (bg hSc1 w4) hRo1 hbB1 ne9 (by omega);replace dmu:=md (i:=i) dmu ne10;replace dmv:=md (i:=i) dmv ne11;have ne17:=nh (i:=i) ne2 (Ne.symm ne12);have ne18:=nh (i:=i) ne13 ne8;refine RL.p rfl rfl (cn.index (j:=i) aF s18_e1 s19_e1 rfl (by omega) (by omega)) ?_;obtain ⟨fh2,hH2⟩:=cu.split hMu;refine RL.x rfl rfl (cw (i:=i) (g:=gc2) (n:=r) (f:=fh2) fT rfl rfl (bg hSc2 w5) hH2 (by omega)) ?_;rintro _ w6 ⟨hk3,hN2⟩;have hMo2:=hMu;have hH02:=hH2;have hRo2:=hRc2;replace hG:=hG.keep hk3 (hG.ne hH02 (by decide));replace hA1:=hA1.keep hk3 (hA1.ne hH02 (by decide));replace qi1:=ac qi1 hk3 hH02 (by decide);replace hMm:=bL hMm hk3 hH02 nmu;replace hMv:=bL hMv hk3 hH02 (Ne.symm nuv);replace hX:=hX.step hk3 (fun b e=>by subst e;exact (.inl (dA h0u)));replace hMu:=oJ hMo2 hH2 hk3 hN2 (bg hSc2 w5) hRo2 hbB2 ne14 (by omega);replace dmu:=uJ (i:=i) dmu ne18;replace duv:=md (i:=i) duv ne15;refine RL.nil ?_;refine aJ am 17 [_,_,_,_,_,_,_,_,_,_,_,_,_,_,_,_,_] rfl rfl (fun e_ w_ AB AA=>⟨fun _=>aa (cn.move ((AA 0 rfl s0_e1))),fun Az=>aa (cn.nilCheck ((Az 0 rfl))),fun Az=>aa (cn.fieldAddr cF ((Az 1 rfl))),fun Az=>aa (cn.fieldAddr au ((Az 2 rfl))),fun Az=>aa (cn.load aK ((Az 3 rfl)) ((aR.ext hG AB).at_ (i:=2) rfl rfl)),fun _=>aa (cn.move ((AA 1 rfl s1_e1))),fun Az=>aa (cn.index (j:=i) aF ((Az 4 rfl)) ((Az 5 rfl)) rfl (by omega) (by omega)),fun Az=>ai (al (i:=i) aU (Az 6 rfl) (cu.ext hMm AB) (by omega)),fun _=>aa (cn.move ((AA 0 rfl s0_e1))),fun Az=>aa (cn.nilCheck ((Az 8 rfl))),fun Az=>aa (cn.fieldAddr cF ((Az 9 rfl))),fun Az=>aa (cn.fieldAddr au ((Az 10 rfl))),fun Az=>aa (cn.load aK ((Az 11 rfl)) ((aR.ext hG AB).at_ (i:=2) rfl rfl)),fun _=>aa (cn.move ((AA 1 rfl s1_e1))),fun Az=>aa (cn.index (j:=i) aF ((Az 12 rfl)) ((Az 13 rfl)) rfl (by omega) (by omega)),fun Az=>ai (al (i:=i) aU (Az 14 rfl) (cu.ext hMm AB) (by omega)),fun _=>aa (ae [ca1,cb1] aw ((AA 4 rfl s4_e1)) ((aR.ext hA1 AB).cells 0 _ rfl rfl)),trivial⟩) ?_;intro e2 w7 hx4 ho4 hf2;replace hG:=aR.ext hG hx4;replace hA1:=aR.ext hA1 hx4;replace qi1:=ak.ext qi1 hx4;replace hMm:=cu.ext hMm hx4;replace hMu:=cu.ext hMu hx4;replace hMv:=cu.ext hMv hx4;replace hX:=aC hX hx4;have s0_e2:=ho4 0 rfl s0_e1;have s1_e2:=ho4 1 rfl s1_e1;have s4_e2:=ho4 4 rfl s4_e1;have s47_e2:fe w7 (e2 47) ((cg ρm i gc1) i) c:=hf2 7 rfl;have s55_e2:fe w7 (e2 55) ((cg ρm i gc1) i) c:=hf2 15 rfl;have s56_e2:e2 56=_:=hf2 16 rfl;refine RL.x rfl rfl (ca pT (cO rfl rfl s56_e2) (qw _ _ _ _ _ _ _ _ _ _ _ _ (bg s47_e2 w7) (bg s55_e2 w7) qi1 (cu.row (i:=i) hMm (by omega)) (cu.row (i:=i) hMm (by omega)) (fun _ _ _=>rfl) (by omega) (fun a ha=>nR (hbM a (by omega))))) ?_;rintro _ w9 ⟨hk4,hN3⟩;have hR1:=cu.row (i:=i) hMm (by omega);replace hG:=aX hG hk4 hR1 (by decide);replace hA1:=hA1.keep hk4 (Ne.symm (ne17 i (by omega)));replace qi1:=bN qi1 hk4 hR1;replace hMu:=aT hMu hk4 hR1 (fun ii hii=>Ne.symm (dmu i ii (by omega) hii));replace hMv:=aT hMv hk4 hR1 (fun ii hii=>Ne.symm (dmv i ii (by omega) hii));replace hX:=hX.step hk4 (fun b e=>by subst e;exact (.inr (by rw [aW];exact hbs2)));replace hMm:=cu.setRow (i:=i) hMm (by omega) hk4 hN3;refine RL.nil ?_;refine aJ am 17 [_,_,_,_,_,_,_,_,_,_,_,_,_,_,_,_,_] rfl rfl (fun e_ w_ AB AA=>⟨fun _=>aa (cn.move ((AA 0 rfl s0_e2))),fun Az=>aa (cn.nilCheck ((Az 0 rfl))),fun Az=>aa (cn.fieldAddr dJ ((Az 1 rfl))),fun Az=>aa (cn.fieldAddr au ((Az 2 rfl))),fun Az=>aa (cn.load aK ((Az 3 rfl)) ((aR.ext hG AB).at_ (i:=5) rfl rfl)),fun _=>aa (cn.move ((AA 1 rfl s1_e2))),fun Az=>aa (cn.index (j:=i) aF ((Az 4 rfl)) ((Az 5 rfl)) rfl (by omega) (by omega)),fun Az=>ai (al (i:=i) aU (Az 6 rfl) (cu.ext hMu AB) (by omega)),fun _=>aa (cn.move ((AA 0 rfl s0_e2))),fun Az=>aa (cn.nilCheck ((Az 8 rfl))),fun Az=>aa (cn.fieldAddr dJ ((Az 9 rfl))),fun Az=>aa (cn.fieldAddr au ((Az 10 rfl))),fun Az=>aa (cn.load aK ((Az 11 rfl)) ((aR.ext hG AB).at_ (i:=5) rfl rfl)),fun _=>aa (cn.move ((AA 1 rfl s1_e2))),fun Az=>aa (cn.index (j:=i) aF ((Az 12 rfl)) ((Az 13 rfl)) rfl (by omega) (by omega)),fun Az=>ai (al (i:=i) aU (Az 14 rfl) (cu.ext hMu AB) (by omega)),fun _=>aa (ae [ca1,cb1] aw ((AA 4 rfl s4_e2)) ((aR.ext hA1 AB).cells 0 _ rfl rfl)),trivial⟩) ?_;intro e3 w10 hx6 ho5 hf3;replace hG:=aR.ext hG hx6;replace qi1:=ak.ext qi1 hx6;replace hMm:=cu.ext hMm hx6;replace hMu:=cu.ext hMu hx6;replace hMv:=cu.ext hMv hx6;replace hX:=aC hX hx6;have s0_e3:=ho5 0 rfl s0_e2;have s1_e3:=ho5 1 rfl s1_e2;have s65_e3:fe w10 (e3 65) ((cg ρu i gc2) i) r:=hf3 7 rfl;have s73_e3:fe w10 (e3 73) ((cg ρu i gc2) i) r:=hf3 15 rfl;have s74_e3:e3 74=_:=hf3 16 rfl;refine RL.x rfl rfl (ca pT (cO rfl rfl s74_e3) (qw _ _ _ _ _ _ _ _ _ _ _ _ (bg s65_e3 w10) (bg s73_e3 w10) qi1 (cu.row (i:=i) hMu (by omega)) (cu.row (i:=i) hMu (by omega)) (fun _ _ _=>rfl) (by omega) (fun a ha=>nR (hbU a (by omega))))) ?_;rintro _ w12 ⟨hk5,hN4⟩;have hR2:=cu.row (i:=i) hMu (by omega);replace hG:=aX hG hk5 hR2 (by decide);replace hMm:=aT hMm hk5 hR2 (fun ii hii=>dmu ii i hii (by omega));replace hMv:=aT hMv hk5 hR2 (fun ii hii=>Ne.symm (duv i ii (by omega) hii));replace hX:=hX.step hk5 (fun b e=>by subst e;exact (.inr (by rw [aW];exact hbs3)));replace hMu:=cu.setRow (i:=i) hMu (by omega) hk5 hN4;refine RL.nil ?_;refine ab ?_;refine RL.p rfl rfl (cn.move s0_e3) ?_;refine RL.p rfl rfl (cn.nilCheck rfl) ?_;refine RL.p rfl rfl (cn.fieldAddr jv rfl) ?_;refine RL.p rfl rfl (cn.fieldAddr au rfl) ?_;refine RL.p rfl rfl (cn.load aK rfl (hG.at_ (i:=8) rfl rfl)) ?_;refine RL.p rfl rfl (cn.len aF rfl) ?_;refine RL.p rfl rfl (cn.move rfl) ?_;refine RL.nil ?_;refine WP.block ?_;refine WP.loop (fun mz ez uz=>∃a:Nat,(mz=r - a)∧(ez 1= .int .i64 ((i:Nat)))∧(ez 80= .slice (some ⟨hv,0,none⟩) (r) (kv))∧(ez 81= .int .i64 ((r:Nat)))∧(ez 82= .int .i64 ((a:Nat)))∧(a≤r)∧(Keeps (di B w) w uz)∧(aR uz gw 95 9 (bt [.int .i64 ((r:Nat)),.int .i64 ((c:Nat)),.slice (some ⟨hm,0,none⟩) (r) (km),.int .i64 ((r:Nat)),.int .i64 ((r:Nat)),.slice (some ⟨hu,0,none⟩) (r) (ku),.int .i64 ((r:Nat)),.int .i64 ((r:Nat)),.slice (some ⟨hv,0,none⟩) (r) (kv)]))∧(cu uz B hm km r c (cg ρm i gc1) (setRow (setRow M i (M i)) i (fun c=>(setRow M i (M i)) i c + (-2)*(setRow M i (M i)) i c)) b)∧(cu uz B hu ku r r (cg ρu i gc2) (setRow (setRow U i (U i)) i (fun c=>(setRow U i (U i)) i c + (-2)*(setRow U i (U i)) i c)) b)∧(cu uz B hv kv r r ρv (dV V (ek V i) a) b)) (r - 0) ?_ ?_
 · exact ⟨0,rfl,s1_e3,rfl,rfl,rfl,(by omega),hX,hG,hMm,hMu,bh hMv (eA V (ek V i)).symm⟩
 rintro m1 e4 w13 ⟨a,hm1,s1_e4,s80_e4,s81_e4,s82_e4,ha,hX1,hG,hMm,hMu,hMv⟩;refine ab ?_;refine RL.p rfl rfl (cn.lss s82_e4 s81_e4) ?_;refine RL.nil ?_;refine WP.seq ?_;refine af (((a:Nat):Int)<((r:Nat):Int)) rfl (fun c83=> ?_) (fun c83=> ?_)
 ·
  refine WP.skip ?_;refine pA.norm ?_;refine WP.seq ?_;refine WP.block ?_;refine ab ?_;refine RL.p rfl rfl (cn.index (j:=a) aF s80_e4 s82_e4 rfl (by omega) (by omega)) ?_;refine RL.x rfl rfl (al (i:=a) aU rfl hMv (by omega)) ?_;rintro v2 _ ⟨rfl,q2⟩;refine RL.p rfl rfl (cn.assign rfl) ?_;refine RL.nil ?_;refine WP.region ?_;refine RL.p rfl rfl (cn.move rfl) ?_;refine RL.p rfl rfl (cn.move s1_e4) ?_;refine RL.p rfl rfl (cn.move rfl) ?_;refine RL.p rfl rfl (cn.move s1_e4) ?_;refine RL.p rfl rfl (av (j:=i) be (bg q2 w13) rfl rfl (by omega) (by omega)) ?_;refine RL.x rfl rfl (aO (j:=i) aw rfl (cu.row hMv (by omega)) (by omega)) ?_;rintro v3 _ ⟨rfl,q3⟩;refine RL.x rfl rfl (cX.call no (aE rfl) (ot _ _ _ _ q3)) ?_;rintro v4 w14 ⟨hx8,q4⟩;replace hG:=aR.ext hG hx8;replace hMm:=cu.ext hMm hx8;replace hMu:=cu.ext hMu hx8;replace hMv:=cu.ext hMv hx8;replace q2:=fe.ext q2 hx8;replace hX1:=aC hX1 hx8;refine RL.p rfl rfl (av (j:=i) be (bg q2 w14) rfl rfl (by omega) (by omega)) ?_;refine RL.x rfl rfl (br (i:=a) (j:=i) aL rfl rfl q4 hMv (by omega) (by omega)) ?_;rintro _ w15 ⟨hk6,hN5⟩;have hR3:=cu.row (i:=a) hMv (by omega);replace hG:=aX hG hk6 hR3 (by decide);replace hMm:=aT hMm hk6 hR3 (fun ii hii=>dmv ii a hii (by omega));replace hMu:=aT hMu hk6 hR3 (fun ii hii=>duv ii a hii (by omega));replace hX1:=hX1.step hk6 (fun b e=>by subst e;exact (.inl (cT (i:=a) h0v (by omega))));replace hMv:=hN5;clear hR3;refine RL.nil ?_;refine iM.norm ?_;refine pA.norm ?_;refine WP.region ?_;refine RL.p rfl rfl (cn.add (c:=((a + 1:Nat):Int)) s82_e4 rfl (bA (by omega))) ?_;refine RL.p rfl rfl (cn.move rfl) ?_;refine RL.nil ?_;refine pA.norm ⟨_,(by omega),a + 1,rfl,s1_e4,s80_e4,s81_e4,rfl,(by omega),hX1,hG,hMm,hMu,bh hMv (gH (by rw [de];simp [ek]) (fun c hc=>by simp [ek,hc]))⟩
 ·
  refine WP.exit ?_;refine pA.exit ?_;refine pA.exit ?_;refine iM.same ?_;refine ⟨.tuple #[],zP.zero,_,rfl,hX1,?_⟩;dsimp only;exact ⟨hm,hu,hv,km,ku,kv,_,_,_,hBg,hG,(bh hMm (qk M i)),(bh hMu (qk U i)),(cu.congr hMv (fun a c ha hc=>fq V _ c (by omega))),nmu,nmv,nuv,dmu,dmv,duv⟩
end Go.TL
namespace Go.TL
set_option linter.unusedVariables false
structure WS where
  M:Nat→Nat→Int
  U:Nat→Nat→Int
  V:Nat→Nat→Int
def co (S:WS) (i j:Nat) (k:Int):WS:=⟨cL S.M i j k,cL S.U i j k,dz S.V i j k⟩
def bk (S:WS) (i j:Nat):WS:=⟨cj S.M i j,cj S.U i j,cM S.V i j⟩
def ei (S:WS) (i:Nat):WS:=⟨db S.M i,db S.U i,ek S.V i⟩
def sn (S:WS) (p top q:Nat):WS:=if (bk S p top).M top q<0 then ei (bk S p top) top else bk S p top
def el (S:WS) (top q:Nat):Nat→WS
  | 0=>S
  | n + 1=>co (el S top q n) (top + 1 + n) top (-((el S top q n).M (top + 1 + n) q/(el S top q n).M top q))
def gM (r c b:Nat) (S:WS):Prop:=(∀i j,i<r→j<c→(S.M i j).natAbs<2^b)∧(∀i j,i<r→j<r→(S.U i j).natAbs<2^b)∧∀i j,i<r→j<r→(S.V i j).natAbs<2^b
theorem kn (M:Nat→Nat→Int) (i:Nat):cj M i i=M:=by
  funext a;unfold cj
  split
  · subst_vars;rfl
  · rfl
theorem py (M:Nat→Nat→Int) (i:Nat):cM M i i=M:=by
  funext a c;unfold cM
  split
  · subst_vars;rfl
  · rfl
theorem jI (S:WS) (i:Nat):bk S i i=S:=by unfold bk;rw [kn,kn,py]
theorem iS {S:WS} {p top q:Nat} (h:(bk S p top).M top q<0):sn S p top q=ei (bk S p top) top:=by unfold sn;rw [if_pos h]
theorem iR {S:WS} {p top q:Nat} (h:¬(bk S p top).M top q<0):sn S p top q=bk S p top:=by unfold sn;rw [if_neg h]
theorem qn {x:Nat→Int} {top n:Nat} (h:x (top + n)=0):bn x top (n + 1)=bn x top n:=by simp only [bn];rw [if_pos h]
theorem qp {x:Nat→Int} {top n:Nat} (h:¬x (top + n)=0) (hc:(bn x top n).1<0∨(x (top + n)).natAbs<(x (bn x top n).1.toNat).natAbs):bn x top (n + 1)=(((top + n:Nat):Int),decide (0≤(bn x top n).1)):=by
  simp only [bn];rw [if_neg h,if_pos hc]
theorem qq {x:Nat→Int} {top n:Nat} (h:¬x (top + n)=0) (hc:¬((bn x top n).1<0∨(x (top + n)).natAbs<(x (bn x top n).1.toNat).natAbs)):bn x top (n + 1)=((bn x top n).1,decide (0≤(bn x top n).1)):=by
  simp only [bn];rw [if_neg h,if_neg hc]
theorem mO (a b:Int):bV a b<0↔a<b:=by unfold bV;split<;>(try split)<;>omega
theorem oq (a b:Nat):bV ((a:Nat):Int) ((b:Nat):Int)<0↔a<b:=by rw [mO];omega
theorem iy {x:Nat→Int} {top:Nat}:∀{n:Nat},(bn x top n).1<0→(bn x top n).2=false∧∀i,top≤i→i<top + n→x i=0
  | 0,_=>⟨rfl,fun i h1 h2=>by omega⟩
  | n + 1,h=>by
    by_cases hz:x (top + n)=0
    · rw [qn hz] at h⊢
      obtain ⟨h1,h2⟩:=iy h;refine ⟨h1,fun i h3 h4=> ?_⟩
      by_cases e:i=top + n
      · subst e;exact hz
      · exact h2 i h3 (by omega)
    · by_cases hc:(bn x top n).1<0∨(x (top + n)).natAbs<(x (bn x top n).1.toNat).natAbs
      · rw [qp hz hc] at h;simp only at h;omega
      · rw [qq hz hc] at h;simp only at h;omega
theorem eP {x:Nat→Int} {top:Nat}:∀{n:Nat},0≤(bn x top n).1→top≤(bn x top n).1.toNat∧(bn x top n).1.toNat<top + n∧x (bn x top n).1.toNat≠0∧
      (∀i,top≤i→i<top + n→x i≠0→(x (bn x top n).1.toNat).natAbs≤(x i).natAbs)∧((bn x top n).2=false→∀i,top≤i→i<top + n→i≠(bn x top n).1.toNat→x i=0)
  | 0,h=>by simp [bn] at h
  | n + 1,h=>by
    by_cases hz:x (top + n)=0
    · rw [qn hz] at h⊢
      obtain ⟨h1,h2,h3,h4,h5⟩:=eP h;refine ⟨h1,by omega,h3,fun i h6 h7 h8=> ?_,fun h6 i h7 h8 h9=> ?_⟩
      · by_cases e:i=top + n
        · subst e;exact absurd hz h8
        · exact h4 i h6 (by omega) h8
      · by_cases e:i=top + n
        · subst e;exact hz
        · exact h5 h6 i h7 (by omega) h9
    · have hr:=jw x top n
      by_cases hc:(bn x top n).1<0∨(x (top + n)).natAbs<(x (bn x top n).1.toNat).natAbs
      · rw [qp hz hc] at h⊢
        simp only [Int.toNat_natCast];refine ⟨by omega,by omega,hz,fun i h6 h7 h8=> ?_,fun h6 i h7 h8 h9=> ?_⟩
        · by_cases e:i=top + n
          · subst e;exact Nat.le_refl _
          · by_cases hn:(bn x top n).1<0
            · exact absurd ((iy hn).2 i h6 (by omega)) h8
            · have h3:=(eP (n:=n) (by omega)).2.2.2.1 i h6 (by omega) h8
              rcases hc with hc | hc
              · exact absurd hc hn
              · omega
        · have hn:(bn x top n).1<0:=by simpa using h6
          exact (iy hn).2 i h7 (by omega)
      · rw [qq hz hc] at h⊢
        have hn:0≤(bn x top n).1:=by simpa using h
        obtain ⟨h1,h2,h3,h4,h5⟩:=eP (n:=n) hn;simp only;refine ⟨h1,by omega,h3,fun i h6 h7 h8=> ?_,fun h6=> ?_⟩
        · by_cases e:i=top + n
          · subst e;omega
          · exact h4 i h6 (by omega) h8
        · simp at h6;omega
theorem tW (S:WS) (top q:Nat):∀n a,a≤top→(el S top q n).M a=S.M a
  | 0,a,_=>rfl
  | n + 1,a,h=>by
    have:=tW S top q n a h;simp only [el,co]
    funext c
    unfold cL
    rw [if_neg (by omega)];exact congrFun this c
theorem lI (M:Nat→Nat→Int) (p top:Nat):cj M p top top=M p:=by
  unfold cj;by_cases e:top=p
  · rw [if_pos e,e]
  · rw [if_neg e,if_pos rfl]
theorem iQ (S:WS) (p top q:Nat):(sn S p top q).M top q=((S.M p q).natAbs:Int):=by
  have h0:(bk S p top).M top q=S.M p q:=congrFun (lI S.M p top) q
  by_cases h:(bk S p top).M top q<0
  · rw [iS h];simp only [ei,db,if_true];rw [h0] at h⊢;omega
  · rw [iR h];rw [h0] at h⊢;omega
theorem od {r c b i j:Nat} {k:Int} {S:WS} (h:gM r c b (co S i j k)) (hi:i<r):∀a,a<c→(S.M i a + k*S.M j a).natAbs<2^b:=fun a ha=>by
  have:=h.1 i a hi ha
  simpa [co,cL] using this
theorem oc {r c b i j:Nat} {k:Int} {S:WS} (h:gM r c b (co S i j k)) (hi:i<r):∀a,a<r→(S.U i a + k*S.U j a).natAbs<2^b:=fun a ha=>by
  have:=h.2.1 i a hi ha
  simpa [co,cL] using this
theorem ob {r c b i j:Nat} {k:Int} {S:WS} (h:gM r c b (co S i j k)) (hj:j<r):∀a,a<r→(S.V a j - k*S.V a i).natAbs<2^b:=fun a ha=>by
  have:=h.2.2 a j ha hj
  simpa [co,dz] using this
theorem eU (z:Int):z.sign<0↔z<0:=by
  rcases Int.lt_trichotomy z 0 with h | h | h
  · rw [Int.sign_eq_neg_one_of_neg h];omega
  · subst h;simp
  · rw [Int.sign_eq_one_of_pos h];omega
theorem fu {T:Nat} {w:World} {B gw r c b:Nat} {S S':WS} (h:bJ T w B gw r c S.M S.U S.V b) (e:S=S'):bJ T w B gw r c S'.M S'.U S'.V b:=e▸h
theorem bJ.bgw {T:Nat} {w:World} {B gw r c b:Nat} {M U V:Nat→Nat→Int} (h:bJ T w B gw r c M U V b):B≤gw∧r≤65536∧c≤65536∧b≤aZ:=by
  obtain ⟨hm,hu,hv,km,ku,kv,ρm,ρu,ρv,h1,h2,h3,h4,h5,h6⟩:=h;exact ⟨h1,h3.dlim.2.2,h3.clim.1,h3.clim.2⟩
end Go.TL
namespace Go.TL
open Go.RowKit Go.Proofs
set_option linter.unusedVariables false
set_option linter.unusedSimpArgs false
set_option maxRecDepth 10000 in
theorem vA (w:World) (B gw r c:Nat) (M U V:Nat→Nat→Int) (b:Nat) (top:Nat) (q:Nat) (hW:bJ 95 w B gw r c M U V b) (htop:top<r) (hq:q<c):Calls Tryz.prog 93 #[.pointer (some ⟨gw,0,none⟩),.int .i64 (top:Nat),.int .i64 (q:Nat)] w (cb w fun v w'=>v= .tuple #[.int .i64 (bn (fun a=>M a q) top (r - top)).1,.bool (bn (fun a=>M a q) top (r - top)).2]):=by
 have hLIM:aZ=562949953421312:=rfl;obtain ⟨hm,hu,hv,km,ku,kv,ρm,ρu,ρv,hBg,hG,hMm,hMu,hMv,nmu,nmv,nuv,dmu,dmv,duv⟩:=hW;have hdm:=cu.dlim hMm;have hcm:=cu.clim hMm;have hdu:=cu.dlim hMu;have hdv:=cu.dlim hMv;have h0m:=hMm;have h0u:=hMu;have h0v:=hMv;refine aj (N:=61) (rs:= #[.tmp 6,.tmp 7]) Tryz.func93 rfl rfl rfl (Nat.le_of_ble_eq_true rfl) ?_;have hX:aG w w:=aG.refl w;refine ab ?_;refine RL.p rfl rfl (cn.assign rfl) ?_;refine RL.p rfl rfl (cn.assign rfl) ?_;refine RL.nil ?_;refine ab ?_;refine RL.p rfl rfl (cn.assign rfl) ?_;refine RL.p rfl rfl (cn.assign rfl) ?_;refine RL.nil ?_;refine WP.seq ?_;refine ab ?_;refine RL.p rfl rfl (cn.move rfl) ?_;refine RL.p rfl rfl (cn.assign rfl) ?_;refine RL.nil ?_;refine WP.block ?_;refine WP.loop (fun mz ez uz=>∃n:Nat,(mz=r - (top + n))∧(ez 0= .pointer (some ⟨gw,0,none⟩))∧(ez 2= .int .i64 ((q:Nat)))∧(ez 6= .int .i64 (0))∧(ez 7= .bool (false))∧(ez 8= .int .i64 ((bn (fun a=>M a q) top n).1))∧(ez 9= .bool ((bn (fun a=>M a q) top n).2))∧(ez 10= .int .i64 ((top + n:Nat)))∧(top + n≤r)∧(aG w uz)) (r - (top + 0)) ?_ ?_
 · exact ⟨0,rfl,rfl,rfl,rfl,rfl,rfl,rfl,rfl,(by omega),hX⟩
 rintro m1 e1 w1 ⟨n,hm1,s0_e1,s2_e1,s6_e1,s7_e1,s8_e1,s9_e1,s10_e1,hn,hX1⟩;have hrng:=jw (fun a=>M a q) top n;refine WP.seq ?_;refine ab ?_;refine RL.p rfl rfl (cn.move s10_e1) ?_;refine RL.p rfl rfl (cn.move s0_e1) ?_;refine RL.p rfl rfl (cn.nilCheck rfl) ?_;refine RL.p rfl rfl (cn.fieldAddr cF rfl) ?_;refine RL.p rfl rfl (cn.fieldAddr aY rfl) ?_;refine RL.p rfl rfl (cn.load bO rfl ((aR.ext hG hX1).at_ (i:=0) rfl rfl)) ?_;refine RL.p rfl rfl (cn.lss rfl rfl) ?_;refine RL.nil ?_;refine af (((top + n:Nat):Int)<((r:Nat):Int)) rfl (fun c19=> ?_) (fun c19=> ?_)
 ·
  refine WP.skip ?_;refine pA.norm ?_;refine WP.seq ?_;refine WP.block ?_;refine ab ?_;refine RL.p rfl rfl (cn.move s0_e1) ?_;refine RL.p rfl rfl (cn.nilCheck rfl) ?_;refine RL.p rfl rfl (cn.fieldAddr cF rfl) ?_;refine RL.p rfl rfl (cn.fieldAddr au rfl) ?_;refine RL.p rfl rfl (cn.load aK rfl ((aR.ext hG hX1).at_ (i:=2) rfl rfl)) ?_;refine RL.p rfl rfl (cn.move s10_e1) ?_;refine RL.p rfl rfl (cn.index (j:=top + n) aF rfl rfl rfl (by omega) (by omega)) ?_;refine RL.x rfl rfl (al (i:=top + n) aU rfl (cu.ext hMm hX1) (by omega)) ?_;rintro v1 _ ⟨rfl,q1⟩;refine RL.p rfl rfl (cn.move s2_e1) ?_;refine RL.p rfl rfl (av (j:=q) be (bg q1 w1) rfl rfl (by omega) (by omega)) ?_;refine RL.x rfl rfl (aO (j:=q) aw rfl (cu.row (cu.ext hMm hX1) (by omega)) (by omega)) ?_;rintro v2 _ ⟨rfl,q2⟩;refine RL.x rfl rfl (cX.alloc [.bool (false),.slice (none) (0) (0)] bq rfl) ?_;rintro _ w2 ⟨g1,rfl,hge1,hx1,hA1⟩;have hbs1:w.heap.size≤g1:=Nat.le_trans hX1.size hge1;replace q2:=ak.ext q2 hx1;replace hX1:=aG.trans hX1 hx1;obtain ⟨ca1,cb1,hq1,ho1,ho2⟩:=ak.cells q2;have qi1:ak w2 (.agg #[ca1,cb1]) (M (top + n) q) b:=hq1▸q2;refine RL.x rfl rfl (cX.store [ca1,cb1] aL rfl hq1 rfl hA1 (Nat.le_of_ble_eq_true rfl) (aS ho1 ho2)) ?_;rintro _ w3 ⟨hk1,hnew⟩;replace qi1:=ac qi1 hk1 hA1 (by decide);replace hX1:=hX1.step hk1 (fun b e=>by subst e;exact hbs1);replace hA1:=hnew.lit [ca1,cb1] rfl;clear hnew;refine RL.nil ?_;refine WP.seq ?_;refine ab ?_;refine RL.p rfl rfl (ae [ca1,cb1] aw rfl (hA1.cells 0 _ rfl rfl)) ?_;refine RL.x rfl rfl (cX.call lC (aE rfl) (iZ _ _ _ _ qi1)) ?_;rintro _ w4 ⟨hx2,rfl⟩;replace hA1:=aR.ext hA1 hx2;replace qi1:=ak.ext qi1 hx2;replace hX1:=aG.trans hX1 hx2;refine RL.p rfl rfl (cn.eql rfl rfl) ?_;refine RL.nil ?_;refine af (((M (top + n) q:Int).sign:Int)=(0:Int)) rfl (fun c35=> ?_) (fun c35=> ?_)
  ·
   refine WP.exit ?_;refine pA.exit ?_;refine iM.same ?_;refine pA.norm ?_;refine WP.region ?_;refine RL.p rfl rfl (cn.move s10_e1) ?_;refine RL.p rfl rfl (cn.add (c:=(((top + n) + 1:Nat):Int)) rfl rfl (bA (by omega))) ?_;refine RL.p rfl rfl (cn.assign rfl) ?_;refine RL.nil ?_;have hst:=qn (x:=(fun a=>M a q)) (top:=top) (n:=n) (Int.sign_eq_zero_iff_zero.1 c35);refine pA.norm ⟨_,(by omega),n + 1,rfl,s0_e1,s2_e1,s6_e1,s7_e1,(Eq.trans (b:=(.int .i64 ((bn (fun a=>M a q) top n).1):Value)) s8_e1 (by rw [hst])),(Eq.trans (b:=(.bool ((bn (fun a=>M a q) top n).2):Value)) s9_e1 (by rw [hst])),(jK rfl (by omega)),(by omega),hX1⟩
  ·
   refine WP.skip ?_;refine pA.norm ?_;refine ab ?_;refine RL.p rfl rfl (cn.move s8_e1) ?_;refine RL.p rfl rfl (cn.geq rfl rfl) ?_;refine RL.p rfl rfl (cn.assign rfl) ?_;refine RL.nil ?_;refine aJ am 20 [_,_,fun v AC=>v= .bool (decide (((bn (fun a=>M a q) top n).1:Int)<(0:Int))),_,_,_,_,_,_,_,_,_,_,_,_,_,_,_,_,_] rfl rfl (fun e_ w_ AB AA=>⟨fun _=>aa (cn.move ((AA 8 rfl s8_e1))),fun Az=>aa (cn.lss ((Az 0 rfl)) rfl),fun Az=>aa (cn.move ((Az 1 rfl))),fun Az=>gF (Az 2 rfl) fun hg=>aa (ae [ca1,cb1] aw ((AA 11 rfl rfl)) ((aR.ext hA1 AB).cells 0 _ rfl rfl)),fun Az=>gF (Az 2 rfl) fun hg=>cX.call sD (aE ((Az 3 rfl hg))) (xc _ _ _ _ ((ak.ext qi1 AB))),fun Az=>gF (Az 2 rfl) fun hg=>aa (cn.move ((AA 0 rfl s0_e1))),fun Az=>gF (Az 2 rfl) fun hg=>aa (cn.nilCheck ((Az 5 rfl hg))),fun Az=>gF (Az 2 rfl) fun hg=>aa (cn.fieldAddr cF ((Az 6 rfl hg))),fun Az=>gF (Az 2 rfl) fun hg=>aa (cn.fieldAddr au ((Az 7 rfl hg))),fun Az=>gF (Az 2 rfl) fun hg=>aa (cn.load aK ((Az 8 rfl hg)) ((aR.ext (aR.ext hG hX1) AB).at_ (i:=2) rfl rfl)),fun Az=>gF (Az 2 rfl) fun hg=>aa (cn.move ((AA 8 rfl s8_e1))),fun Az=>gF (Az 2 rfl) fun hg=>aa (cn.index (j:=((bn (fun a=>M a q) top n).1).toNat) aF ((Az 9 rfl hg)) ((Az 10 rfl hg)) rfl (by omega) (by omega)),fun Az=>gF (Az 2 rfl) fun hg=>ai (al (i:=((bn (fun a=>M a q) top n).1).toNat) aU (Az 11 rfl hg) (cu.ext (cu.ext hMm hX1) AB) (by omega)),fun Az=>gF (Az 2 rfl) fun hg=>aa (cn.move ((AA 2 rfl s2_e1))),fun Az=>gF (Az 2 rfl) fun hg=>aa (av (j:=q) be (Az 12 rfl hg) rfl (Az 13 rfl hg) (by omega) (by omega)),fun Az=>gF (Az 2 rfl) fun hg=>ai (aO (j:=q) aw (Az 14 rfl hg) (cu.row (cu.ext (cu.ext hMm hX1) AB) (by omega)) (by omega)),fun Az=>gF (Az 2 rfl) fun hg=>cX.call sD (aE rfl) (xc _ _ _ _ ((Az 15 rfl hg))),fun Az=>gF (Az 2 rfl) fun hg=>cX.call ss (aA rfl rfl) (ui _ _ _ _ _ _ _ ((Az 4 rfl hg)) ((Az 16 rfl hg))),fun Az=>gF (Az 2 rfl) fun hg=>aa (cn.lss ((Az 17 rfl hg)) rfl),fun Az=>aa (cJ (p:=((bn (fun a=>M a q) top n).1:Int)<(0:Int)) (q:=(bV (((M (top + n) q:Int).natAbs:Int)) (((M (((bn (fun a=>M a q) top n).1).toNat) q:Int).natAbs:Int)):Int)<(0:Int)) (Az 2 rfl) (fun hq=>(Az 18 rfl hq))),trivial⟩) ?_;intro e2 w5 hx3 ho3 hf1;replace hX1:=aG.trans hX1 hx3;have s0_e2:=ho3 0 rfl s0_e1;have s2_e2:=ho3 2 rfl s2_e1;have s6_e2:=ho3 6 rfl s6_e1;have s7_e2:=ho3 7 rfl s7_e1;have s8_e2:=ho3 8 rfl s8_e1;have s9_e2:e2 9=_:=ho3 9 rfl rfl;have s10_e2:=ho3 10 rfl s10_e1;have s57_e2:e2 57=_:=hf1 19 rfl;refine RL.nil ?_;refine af ((((bn (fun a=>M a q) top n).1:Int)<(0:Int))∨((bV (((M (top + n) q:Int).natAbs:Int)) (((M (((bn (fun a=>M a q) top n).1).toNat) q:Int).natAbs:Int)):Int)<(0:Int))) s57_e2 (fun c57=> ?_) (fun c57=> ?_)
   ·
    refine WP.region ?_;refine RL.p rfl rfl (cn.move s10_e2) ?_;refine RL.p rfl rfl (cn.assign rfl) ?_;refine RL.nil ?_;refine iM.norm ?_;refine pA.norm ?_;refine WP.region ?_;refine RL.p rfl rfl (cn.move s10_e2) ?_;refine RL.p rfl rfl (cn.add (c:=(((top + n) + 1:Nat):Int)) rfl rfl (bA (by omega))) ?_;refine RL.p rfl rfl (cn.assign rfl) ?_;refine RL.nil ?_;have hst:=qp (x:=(fun a=>M a q)) (top:=top) (n:=n) (fun h=>c35 (Int.sign_eq_zero_iff_zero.2 h)) (c57.imp id (oq _ _).1);refine pA.norm ⟨_,(by omega),n + 1,rfl,s0_e2,s2_e2,s6_e2,s7_e2,(Eq.trans (b:=(.int .i64 ((top + n:Nat)):Value)) rfl (by rw [hst])),(Eq.trans (b:=(.bool (decide ((0:Int)≤((bn (fun a=>M a q) top n).1:Int))):Value)) s9_e2 (by rw [hst])),(jK rfl (by omega)),(by omega),hX1⟩
   ·
    refine WP.skip ?_;refine iM.norm ?_;refine pA.norm ?_;refine WP.region ?_;refine RL.p rfl rfl (cn.move s10_e2) ?_;refine RL.p rfl rfl (cn.add (c:=(((top + n) + 1:Nat):Int)) rfl rfl (bA (by omega))) ?_;refine RL.p rfl rfl (cn.assign rfl) ?_;refine RL.nil ?_;have hst:=qq (x:=(fun a=>M a q)) (top:=top) (n:=n) (fun h=>c35 (Int.sign_eq_zero_iff_zero.2 h)) (fun h=>c57 (h.imp id (oq _ _).2));refine pA.norm ⟨_,(by omega),n + 1,rfl,s0_e2,s2_e2,s6_e2,s7_e2,(Eq.trans (b:=(.int .i64 ((bn (fun a=>M a q) top n).1):Value)) s8_e2 (by rw [hst])),(Eq.trans (b:=(.bool (decide ((0:Int)≤((bn (fun a=>M a q) top n).1:Int))):Value)) s9_e2 (by rw [hst])),(jK rfl (by omega)),(by omega),hX1⟩
 ·
  refine WP.exit ?_;refine pA.exit ?_;refine pA.exit ?_;refine iM.same ?_;refine pA.norm ?_;refine ab ?_;refine RL.p rfl rfl (cn.move s8_e1) ?_;refine RL.p rfl rfl (cn.move s9_e1) ?_;refine RL.p rfl rfl (cn.assign rfl) ?_;refine RL.p rfl rfl (cn.assign rfl) ?_;refine RL.nil ?_;refine WP.ret ?_;refine ⟨.tuple #[.int .i64 ((bn (fun a=>M a q) top n).1),.bool ((bn (fun a=>M a q) top n).2)],cR (fN.tmp rfl) (fN.tmp rfl),_,rfl,hX1,?_⟩;dsimp only;rw [show r - top=n by omega]
set_option maxRecDepth 10000 in
set_option maxHeartbeats 800000 in
theorem vB (w:World) (B gw r c:Nat) (S0:WS) (b:Nat) (top:Nat) (q:Nat) (J:Nat→WS→Prop) (m0:Nat) (hW:bJ 95 w B gw r c S0.M S0.U S0.V b) (htop:top<r) (hq:q<c) (hb:2*b + 4≤aZ) (hJ0:J m0 S0) (hfit:∀m S,J m S→0≤(bn (fun a=>S.M a q) top (r - top)).1→(bn (fun a=>S.M a q) top (r - top)).2=true→∀n,top + 1 + n<r→gM r c b (el (sn S ((bn (fun a=>S.M a q) top (r - top)).1.toNat) top q) top q (n + 1))) (hnext:∀m S,J m S→0≤(bn (fun a=>S.M a q) top (r - top)).1→(bn (fun a=>S.M a q) top (r - top)).2=true→∃m2,m2<m∧J m2 (el (sn S ((bn (fun a=>S.M a q) top (r - top)).1.toNat) top q) top q (r - top - 1))):Calls Tryz.prog 68 #[.pointer (some ⟨gw,0,none⟩),.int .i64 (top:Nat),.int .i64 (q:Nat)] w (iI (di B w) w fun v w'=>∃m S S',J m S∧bJ 95 w' B gw r c S'.M S'.U S'.V b∧v= .bool (decide (0≤(bn (fun a=>S.M a q) top (r - top)).1))∧(((bn (fun a=>S.M a q) top (r - top)).1<0∧S'=S)∨(0≤(bn (fun a=>S.M a q) top (r - top)).1∧(bn (fun a=>S.M a q) top (r - top)).2=false∧S'=sn S ((bn (fun a=>S.M a q) top (r - top)).1.toNat) top q))):=by
 have hLIM:aZ=562949953421312:=rfl;have hdims:=hW.bgw;refine aj (N:=86) (rs:= #[.tmp 6]) Tryz.func68 rfl rfl rfl (Nat.le_of_ble_eq_true rfl) ?_;have hX:Keeps (di B w) w w:=Keeps.refl _ w;refine ab ?_;refine RL.p rfl rfl (cn.assign rfl) ?_;refine RL.nil ?_;refine ma ?_;refine ab ?_;refine RL.p rfl rfl (cn.move rfl) ?_;refine RL.p rfl rfl (cn.makeFunc (aE rfl) (ov)) ?_;refine RL.p rfl rfl (cn.assign rfl) ?_;refine RL.nil ?_;refine WP.seq ?_;refine WP.label ?_;refine pA.norm ?_;refine WP.seq ?_;refine WP.block ?_;refine WP.loop (fun mz ez uz=>∃S:WS,∃m:Nat,(mz=m)∧(ez 0= .pointer (some ⟨gw,0,none⟩))∧(ez 1= .int .i64 ((top:Nat)))∧(ez 2= .int .i64 ((q:Nat)))∧(ez 7= .func (.func 69) #[.pointer (some ⟨gw,0,none⟩)] #[])∧(J m S)∧(Keeps (di B w) w uz)∧(bJ 95 uz B gw r c (S).M (S).U (S).V b)) (m0) ?_ ?_
 · exact ⟨S0,m0,rfl,rfl,rfl,rfl,rfl,hJ0,hX,hW⟩
 rintro m1 e1 w1 ⟨S,m,hm1,s0_e1,s1_e1,s2_e1,s7_e1,hJ,hX1,hW⟩;have hrng:=jw (fun a=>S.M a q) top (r - top);refine WP.block ?_;refine ab ?_;refine RL.p rfl rfl (cn.move s0_e1) ?_;refine RL.p rfl rfl (cn.move s1_e1) ?_;refine RL.p rfl rfl (cn.move s2_e1) ?_;refine RL.x rfl rfl (cX.call yL (cO rfl rfl rfl) (vA _ _ _ _ _ _ _ _ _ top q hW (by omega) (by omega))) ?_;rintro _ w2 ⟨hx1,rfl⟩;replace hW:=bJ.ext hW hx1;replace hX1:=aC hX1 hx1;refine RL.p rfl rfl (cn.move rfl) ?_;refine RL.p rfl rfl (cn.extract rfl rfl) ?_;refine RL.p rfl rfl (cn.extract rfl rfl) ?_;refine RL.p rfl rfl (cn.assign rfl) ?_;refine RL.p rfl rfl (cn.assign rfl) ?_;refine RL.nil ?_;refine WP.seq ?_;refine ab ?_;refine RL.p rfl rfl (cn.move rfl) ?_;refine RL.p rfl rfl (cn.lss rfl rfl) ?_;refine RL.nil ?_;refine af (((bn (fun a=>S.M a q) top (r - top)).1:Int)<(0:Int)) rfl (fun c21=> ?_) (fun c21=> ?_)
 ·
  refine ab ?_;refine RL.p rfl rfl (cn.assign rfl) ?_;refine RL.nil ?_;refine WP.ret ?_;refine pA.ret ?_;refine iM.ret ?_;refine pA.ret ?_;refine iM.ret ?_;refine pA.ret ?_;refine jF.ret ?_;refine ⟨.bool (false),zP.one (fN.tmp rfl),_,rfl,hX1,?_⟩;dsimp only;exact ⟨m,S,S,hJ,hW,by simp;omega,.inl ⟨by omega,rfl⟩⟩
 ·
  refine WP.skip ?_;refine pA.norm ?_;refine WP.cut (fun ez uz=>(ez 0= .pointer (some ⟨gw,0,none⟩))∧(ez 1= .int .i64 ((top:Nat)))∧(ez 2= .int .i64 ((q:Nat)))∧(ez 7= .func (.func 69) #[.pointer (some ⟨gw,0,none⟩)] #[])∧(ez 9= .bool ((bn (fun a=>S.M a q) top (r - top)).2))∧(Keeps (di B w) w uz)∧(bJ 95 uz B gw r c (bk S ((bn (fun a=>S.M a q) top (r - top)).1.toNat) top).M (bk S ((bn (fun a=>S.M a q) top (r - top)).1.toNat) top).U (bk S ((bn (fun a=>S.M a q) top (r - top)).1.toNat) top).V b)) ?_ ?_
  ·
   refine ab ?_;refine RL.p rfl rfl (cn.move rfl) ?_;refine RL.p rfl rfl (cn.move s1_e1) ?_;refine RL.p rfl rfl (cn.neq rfl rfl) ?_;refine RL.nil ?_;refine af (((bn (fun a=>S.M a q) top (r - top)).1:Int)≠((top:Nat):Int)) rfl (fun c24=> ?_) (fun c24=> ?_)
   ·
    refine WP.region ?_;refine RL.p rfl rfl (cn.move s0_e1) ?_;refine RL.p rfl rfl (cn.move rfl) ?_;refine RL.p rfl rfl (cn.move s1_e1) ?_;refine RL.x rfl rfl (ca yK (cO rfl ((tK (a:=(((bn (fun a=>S.M a q) top (r - top)).1.toNat:Nat):Int)) (b:=(bn (fun a=>S.M a q) top (r - top)).1) rfl (by omega))) rfl) (xZ _ _ _ _ _ _ _ _ _ ((bn (fun a=>S.M a q) top (r - top)).1.toNat) top hW (by omega) (by omega))) ?_;rintro _ w4 ⟨hk1,hN1⟩;replace hX1:=Keeps.own hX1 hk1;replace hW:bJ 95 w4 B gw r c (bk S ((bn (fun a=>S.M a q) top (r - top)).1.toNat) top).M (bk S ((bn (fun a=>S.M a q) top (r - top)).1.toNat) top).U (bk S ((bn (fun a=>S.M a q) top (r - top)).1.toNat) top).V b:=hN1;refine RL.nil ?_;refine pA.norm ⟨s0_e1,s1_e1,s2_e1,s7_e1,rfl,hX1,hW⟩
   ·
    refine WP.skip ?_;have hpt:(bn (fun a=>S.M a q) top (r - top)).1.toNat=top:=by omega
    refine pA.norm ⟨s0_e1,s1_e1,s2_e1,s7_e1,rfl,hX1,fu hW (by rw [hpt,jI])⟩
  rintro e2 w5 ⟨s0_e2,s1_e2,s2_e2,s7_e2,s9_e2,hX2,hW⟩;refine WP.cut (fun ez uz=>(ez 0= .pointer (some ⟨gw,0,none⟩))∧(ez 1= .int .i64 ((top:Nat)))∧(ez 2= .int .i64 ((q:Nat)))∧(ez 7= .func (.func 69) #[.pointer (some ⟨gw,0,none⟩)] #[])∧(ez 9= .bool ((bn (fun a=>S.M a q) top (r - top)).2))∧(Keeps (di B w) w uz)∧(bJ 95 uz B gw r c (sn S ((bn (fun a=>S.M a q) top (r - top)).1.toNat) top q).M (sn S ((bn (fun a=>S.M a q) top (r - top)).1.toNat) top q).U (sn S ((bn (fun a=>S.M a q) top (r - top)).1.toNat) top q).V b)) ?_ ?_
  ·
   have hWc:=hW;obtain ⟨hm_1,hu_1,hv_1,km_1,ku_1,kv_1,ρm_1,ρu_1,ρv_1,_,hG_1,hMm_1,hMu_1,hMv_1,_⟩:=hWc;have hdm_1:=cu.dlim hMm_1;have hcm_1:=cu.clim hMm_1
   skip
   refine ab ?_;refine RL.p rfl rfl (cn.move s0_e2) ?_;refine RL.p rfl rfl (cn.nilCheck rfl) ?_;refine RL.p rfl rfl (cn.fieldAddr cF rfl) ?_;refine RL.p rfl rfl (cn.fieldAddr au rfl) ?_;refine RL.p rfl rfl (cn.load aK rfl (hG_1.at_ (i:=2) rfl rfl)) ?_;refine RL.p rfl rfl (cn.move s1_e2) ?_;refine RL.p rfl rfl (cn.index (j:=top) aF rfl rfl rfl (by omega) (by omega)) ?_;refine RL.x rfl rfl (al (i:=top) aU rfl hMm_1 (by omega)) ?_;rintro v1 _ ⟨rfl,q1⟩;refine RL.p rfl rfl (cn.move s2_e2) ?_;refine RL.p rfl rfl (av (j:=q) be (bg q1 w5) rfl rfl (by omega) (by omega)) ?_;refine RL.x rfl rfl (aO (j:=q) aw rfl (cu.row hMm_1 (by omega)) (by omega)) ?_;rintro v2 _ ⟨rfl,q2⟩;refine RL.x rfl rfl (cX.call lC (aE rfl) (iZ _ _ _ _ q2)) ?_;rintro _ w6 ⟨hx3,rfl⟩;replace hW:=bJ.ext hW hx3;replace hX2:=aC hX2 hx3;refine RL.p rfl rfl (cn.lss rfl rfl) ?_;refine RL.nil ?_;refine af (((((bk S ((bn (fun a=>S.M a q) top (r - top)).1.toNat) top).M) top q:Int).sign:Int)<(0:Int)) rfl (fun c41=> ?_) (fun c41=> ?_)
   ·
    refine WP.region ?_;refine RL.p rfl rfl (cn.move s0_e2) ?_;refine RL.p rfl rfl (cn.move s1_e2) ?_;refine RL.x rfl rfl (ca yJ (aA rfl rfl) (tO _ _ _ _ _ _ _ _ _ top hW (by omega) (by omega) (by omega))) ?_;rintro _ w8 ⟨hk2,hN2⟩;replace hX2:=Keeps.own hX2 hk2;replace hW:bJ 95 w8 B gw r c (ei (bk S ((bn (fun a=>S.M a q) top (r - top)).1.toNat) top) top).M (ei (bk S ((bn (fun a=>S.M a q) top (r - top)).1.toNat) top) top).U (ei (bk S ((bn (fun a=>S.M a q) top (r - top)).1.toNat) top) top).V b:=hN2;refine RL.nil ?_;refine pA.norm ⟨s0_e2,s1_e2,s2_e2,s7_e2,s9_e2,hX2,fu hW (iS ((eU _).1 c41)).symm⟩
   ·
    refine WP.skip ?_;refine pA.norm ⟨s0_e2,s1_e2,s2_e2,s7_e2,s9_e2,hX2,fu hW (iR (fun h=>c41 ((eU _).2 h))).symm⟩
  rintro e3 w9 ⟨s0_e3,s1_e3,s2_e3,s7_e3,s9_e3,hX3,hW⟩;refine WP.seq ?_;refine ab ?_;refine RL.p rfl rfl (cn.move s9_e3) ?_;refine RL.p rfl rfl (cn.not (p:=(bn (fun a=>S.M a q) top (r - top)).2=true) (rH rfl)) ?_;refine RL.nil ?_;refine af (¬((bn (fun a=>S.M a q) top (r - top)).2=true)) rfl (fun c46=> ?_) (fun c46=> ?_)
  ·
   refine WP.exit ?_;refine pA.exit ?_;refine gg rfl ?_;refine pA.exit ?_;refine iM.same ?_;refine pA.norm ?_;refine ab ?_;refine RL.p rfl rfl (cn.assign rfl) ?_;refine RL.nil ?_;refine WP.ret ?_;refine jF.ret ?_;refine ⟨.bool (true),zP.one (fN.tmp rfl),_,rfl,hX3,?_⟩;dsimp only;exact ⟨m,S,sn S ((bn (fun a=>S.M a q) top (r - top)).1.toNat) top q,hJ,hW,by simp;omega,.inr ⟨by omega,by simpa using c46,rfl⟩⟩
  ·
   refine WP.skip ?_;refine pA.norm ?_;have hp0:S.M ((bn (fun a=>S.M a q) top (r - top)).1.toNat) q≠0:=(eP (x:=fun a=>S.M a q) (top:=top) (n:=r - top) (by omega)).2.2.1;have hq0:(sn S ((bn (fun a=>S.M a q) top (r - top)).1.toNat) top q).M top q≠0:=by rw [iQ];omega
   refine ab ?_;refine RL.p rfl rfl (cn.move s1_e3) ?_;refine RL.p rfl rfl (cn.add (c:=((top + 1:Nat):Int)) rfl rfl (bA (by omega))) ?_;refine RL.p rfl rfl (cn.assign rfl) ?_;refine RL.nil ?_;refine WP.block ?_;refine WP.loop (fun mz ez uz=>∃n:Nat,(mz=r - (top + 1 + n))∧(ez 0= .pointer (some ⟨gw,0,none⟩))∧(ez 1= .int .i64 ((top:Nat)))∧(ez 2= .int .i64 ((q:Nat)))∧(ez 7= .func (.func 69) #[.pointer (some ⟨gw,0,none⟩)] #[])∧(ez 10= .int .i64 ((top + 1 + n:Nat)))∧(top + 1 + n≤r)∧(Keeps (di B w) w uz)∧(bJ 95 uz B gw r c (el (sn S ((bn (fun a=>S.M a q) top (r - top)).1.toNat) top q) top q n).M (el (sn S ((bn (fun a=>S.M a q) top (r - top)).1.toNat) top q) top q n).U (el (sn S ((bn (fun a=>S.M a q) top (r - top)).1.toNat) top q) top q n).V b)) (r - (top + 1 + 0)) ?_ ?_
   · exact ⟨0,rfl,s0_e3,s1_e3,s2_e3,s7_e3,rfl,(by omega),hX3,hW⟩
   rintro m2 e4 w10 ⟨n,hm2,s0_e4,s1_e4,s2_e4,s7_e4,s10_e4,hn,hX4,hW⟩;have hqz:(el (sn S ((bn (fun a=>S.M a q) top (r - top)).1.toNat) top q) top q n).M top q≠0:=by rw [tW _ _ _ _ _ (Nat.le_refl _)];exact hq0
   refine WP.seq ?_;have hWc:=hW;obtain ⟨hm_2,hu_2,hv_2,km_2,ku_2,kv_2,ρm_2,ρu_2,ρv_2,_,hG_2,hMm_2,hMu_2,hMv_2,_⟩:=hWc;have hdm_2:=cu.dlim hMm_2;have hcm_2:=cu.clim hMm_2
   skip
   refine ab ?_;refine RL.p rfl rfl (cn.move s10_e4) ?_;refine RL.p rfl rfl (cn.move s0_e4) ?_;refine RL.p rfl rfl (cn.nilCheck rfl) ?_;refine RL.p rfl rfl (cn.fieldAddr cF rfl) ?_;refine RL.p rfl rfl (cn.fieldAddr aY rfl) ?_;refine RL.p rfl rfl (cn.load bO rfl (hG_2.at_ (i:=0) rfl rfl)) ?_;refine RL.p rfl rfl (cn.lss rfl rfl) ?_;refine RL.nil ?_;refine af (((top + 1 + n:Nat):Int)<((r:Nat):Int)) rfl (fun c55=> ?_) (fun c55=> ?_)
   ·
    refine WP.skip ?_;refine pA.norm ?_;refine WP.seq ?_;refine WP.block ?_;have hfitn:gM r c b (co (el (sn S ((bn (fun a=>S.M a q) top (r - top)).1.toNat) top q) top q n) (top + 1 + n) top (-((el (sn S ((bn (fun a=>S.M a q) top (r - top)).1.toNat) top q) top q n).M (top + 1 + n) q/(el (sn S ((bn (fun a=>S.M a q) top (r - top)).1.toNat) top q) top q n).M top q))):=hfit m S hJ (by omega) (by simpa using c46) n (by omega);refine WP.ds am 27 [_,_,_,_,_,_,_,_,_,_,_,_,_,_,_,_,_,_,_,_,_,_,_,_,_,_,_] rfl rfl (fun e_ w_ AB AA=>⟨fun _=>aa (cn.move ((AA 7 rfl s7_e4))),fun _=>aa (cn.move ((AA 10 rfl s10_e4))),fun _=>aa (cn.move ((AA 1 rfl s1_e4))),fun _=>aa (cn.move ((AA 0 rfl s0_e4))),fun Az=>aa (cn.nilCheck ((Az 3 rfl))),fun Az=>aa (cn.fieldAddr cF ((Az 4 rfl))),fun Az=>aa (cn.fieldAddr au ((Az 5 rfl))),fun Az=>aa (cn.load aK ((Az 6 rfl)) ((aR.ext hG_2 AB).at_ (i:=2) rfl rfl)),fun _=>aa (cn.move ((AA 10 rfl s10_e4))),fun Az=>aa (cn.index (j:=top + 1 + n) aF ((Az 7 rfl)) ((Az 8 rfl)) rfl (by omega) (by omega)),fun Az=>ai (al (i:=top + 1 + n) aU (Az 9 rfl) (cu.ext hMm_2 AB) (by omega)),fun _=>aa (cn.move ((AA 2 rfl s2_e4))),fun Az=>aa (av (j:=q) be (Az 10 rfl) rfl (Az 11 rfl) (by omega) (by omega)),fun Az=>ai (aO (j:=q) aw (Az 12 rfl) (cu.row (cu.ext hMm_2 AB) (by omega)) (by omega)),fun _=>aa (cn.move ((AA 0 rfl s0_e4))),fun Az=>aa (cn.nilCheck ((Az 14 rfl))),fun Az=>aa (cn.fieldAddr cF ((Az 15 rfl))),fun Az=>aa (cn.fieldAddr au ((Az 16 rfl))),fun Az=>aa (cn.load aK ((Az 17 rfl)) ((aR.ext hG_2 AB).at_ (i:=2) rfl rfl)),fun _=>aa (cn.move ((AA 1 rfl s1_e4))),fun Az=>aa (cn.index (j:=top) aF ((Az 18 rfl)) ((Az 19 rfl)) rfl (by omega) (by omega)),fun Az=>ai (al (i:=top) aU (Az 20 rfl) (cu.ext hMm_2 AB) (by omega)),fun _=>aa (cn.move ((AA 2 rfl s2_e4))),fun Az=>aa (av (j:=q) be (Az 21 rfl) rfl (Az 22 rfl) (by omega) (by omega)),fun Az=>ai (aO (j:=q) aw (Az 23 rfl) (cu.row (cu.ext hMm_2 AB) (by omega)) (by omega)),fun Az=>cX.call wA (aA rfl rfl) (kI _ _ _ _ _ _ _ (Az 13 rfl) (Az 24 rfl) hqz (by omega)),fun Az=>cX.call no (aE rfl) (ot _ _ _ _ ((Az 25 rfl))),trivial⟩) ?_;intro e5 w11 hx5 ho1 hf1;replace hW:=bJ.ext hW hx5;replace hX4:=aC hX4 hx5;have s0_e5:=ho1 0 rfl s0_e4;have s1_e5:=ho1 1 rfl s1_e4;have s2_e5:=ho1 2 rfl s2_e4;have s7_e5:=ho1 7 rfl s7_e4;have s10_e5:=ho1 10 rfl s10_e4;have s58_e5:e5 58=_:=hf1 0 rfl;have s59_e5:e5 59=_:=hf1 1 rfl;have s60_e5:e5 60=_:=hf1 2 rfl;have s84_e5:ak w11 (e5 84) (-((((el (sn S ((bn (fun a=>S.M a q) top (r - top)).1.toNat) top q) top q n).M) (top + 1 + n) q)/(((el (sn S ((bn (fun a=>S.M a q) top (r - top)).1.toNat) top q) top q n).M) top q))) b:=hf1 26 rfl;refine RL.x rfl rfl (kT wB s58_e5 (Eq.trans (congrArg (fun z=>(#[.pointer (some ⟨gw,0,none⟩)]:Array Value) ++ z ++ (#[]:Array Value)) (cO s59_e5 s60_e5 rfl)) rfl) (qv _ _ _ _ _ _ _ _ _ (top + 1 + n) top _ _ _ hW (by omega) (by omega) s84_e5 (by omega) (by omega) (od hfitn (by omega)) (oc hfitn (by omega)) (ob hfitn (by omega)))) ?_;rintro _ w13 ⟨hk3,hN3⟩;replace hX4:=Keeps.own hX4 hk3;replace hW:bJ 95 w13 B gw r c (co (el (sn S ((bn (fun a=>S.M a q) top (r - top)).1.toNat) top q) top q n) (top + 1 + n) top (-((((el (sn S ((bn (fun a=>S.M a q) top (r - top)).1.toNat) top q) top q n).M) (top + 1 + n) q)/(((el (sn S ((bn (fun a=>S.M a q) top (r - top)).1.toNat) top q) top q n).M) top q)))).M (co (el (sn S ((bn (fun a=>S.M a q) top (r - top)).1.toNat) top q) top q n) (top + 1 + n) top (-((((el (sn S ((bn (fun a=>S.M a q) top (r - top)).1.toNat) top q) top q n).M) (top + 1 + n) q)/(((el (sn S ((bn (fun a=>S.M a q) top (r - top)).1.toNat) top q) top q n).M) top q)))).U (co (el (sn S ((bn (fun a=>S.M a q) top (r - top)).1.toNat) top q) top q n) (top + 1 + n) top (-((((el (sn S ((bn (fun a=>S.M a q) top (r - top)).1.toNat) top q) top q n).M) (top + 1 + n) q)/(((el (sn S ((bn (fun a=>S.M a q) top (r - top)).1.toNat) top q) top q n).M) top q)))).V b:=hN3;refine RL.nil ?_;refine iM.norm ?_;refine pA.norm ?_;refine WP.region ?_;refine RL.p rfl rfl (cn.move s10_e5) ?_;refine RL.p rfl rfl (cn.add (c:=(((top + 1 + n) + 1:Nat):Int)) rfl rfl (bA (by omega))) ?_;refine RL.p rfl rfl (cn.assign rfl) ?_;refine RL.nil ?_;refine pA.norm ⟨_,(by omega),n + 1,rfl,s0_e5,s1_e5,s2_e5,s7_e5,(jK rfl (by omega)),(by omega),hX4,hW⟩
   ·
    refine WP.exit ?_;refine pA.exit ?_;refine pA.exit ?_;refine iM.same ?_;refine iM.norm ?_;rw [show n=r - top - 1 by omega] at hW;obtain ⟨m2,hm2,hJ2⟩:=hnext m S hJ (by omega) (by simpa using c46);refine pA.norm ⟨_,(by omega),_,m2,rfl,s0_e4,s1_e4,s2_e4,s7_e4,hJ2,hX4,hW⟩
end Go.TL
namespace Go.TL
open Go.RowKit
set_option linter.unusedVariables false
def iX (v:Value) (w:World) (b:Nat):Prop:=
  ∃x y gh n k,v= .agg #[x,y,.slice (some ⟨gh,0,none⟩) n k]∧(b=gh∨∃i u,i<n∧w.cell? ⟨gh,i,none⟩=some u∧b=df u)
section
variable {w w':World} {v:Value} {B r c b:Nat} {M:Nat→Nat→Int}
theorem cu.cellAt {gh m d:Nat} {ρ:Nat→Nat} (h:cu w B gh m d c ρ M b) {i:Nat} (hi:i<d):∃u,w.cell? ⟨gh,i,none⟩=some u∧df u=ρ i:=by
  obtain ⟨_,_,⟨h3,_,f,ha,hf⟩,_⟩:=h;exact ⟨f i,ha.cell (by omega),gJ (hf i hi)⟩
theorem gz (B r c:Nat) (M:Nat→Nat→Int) (b:Nat):fO iX (fun v w=>cz w v B r c M b):=by
  refine ⟨fun v w x h hb=> ?_,fun v w w' x h hx hb=> ?_⟩
  · obtain ⟨gh,k,ρ,rfl,hM⟩:=h
    obtain ⟨_,_,gh',n,k',he,hb⟩:=hb;simp only [Value.agg.injEq,Array.mk.injEq,List.cons.injEq,Value.slice.injEq,Option.some.injEq,Addr.mk.injEq,and_true] at he;obtain ⟨_,_,h1,h2,h3⟩:=he;subst h1;subst h2;rcases hb with hb | ⟨i,u,hi,hu,hb⟩
    · subst hb;exact hM.ghlt
    · obtain ⟨u',hu',hbu⟩:=hM.cellAt hi
      rw [hu] at hu';injection hu' with hu';subst hu';rw [hb,hbu];exact hM.rowlt hi
  · obtain ⟨gh,k,ρ,rfl,hM⟩:=h
    obtain ⟨x1,x2,gh',n,k',he,hb⟩:=hb;refine ⟨x1,x2,gh',n,k',he,?_⟩;simp only [Value.agg.injEq,Array.mk.injEq,List.cons.injEq,Value.slice.injEq,Option.some.injEq,Addr.mk.injEq,and_true] at he;obtain ⟨_,_,h1,h2,h3⟩:=he;subst h1;subst h2;rcases hb with hb | ⟨i,u,hi,hu,hb⟩
    · exact .inl hb
    · obtain ⟨u',hu',hbu⟩:=hM.cellAt hi
      have:=aG.cell hu' hx;rw [hu] at this;injection this with this;subst this;exact .inr ⟨i,u,hi,hu',hb⟩
theorem eD {x:Nat} (h:cz w v B r c M b) (hb:iX v w x):B≤x:=by
  obtain ⟨gh,k,ρ,rfl,hM⟩:=h;obtain ⟨_,_,gh',n,k',he,hb⟩:=hb;simp only [Value.agg.injEq,Array.mk.injEq,List.cons.injEq,Value.slice.injEq,Option.some.injEq,Addr.mk.injEq,and_true] at he;obtain ⟨_,_,h1,h2,h3⟩:=he;subst h1;subst h2;rcases hb with hb | ⟨i,u,hi,hu,hb⟩
  · subst hb;exact hM.1
  · obtain ⟨u',hu',hbu⟩:=hM.cellAt hi
    rw [hu] at hu';injection hu' with hu';subst hu';rw [hb,hbu];exact hM.rowB hi
theorem ew {gh gh' k k' r' c' b' B':Nat} {x y x' y':Value} {ρ ρ':Nat→Nat} {M':Nat→Nat→Int} (h:cu w B gh k r c ρ M b) (h':cu w B' gh' k' r' c' ρ' M' b')
    (hd:∀b,iX (.agg #[x,y,.slice (some ⟨gh,0,none⟩) r k]) w b→¬iX (.agg #[x',y',.slice (some ⟨gh',0,none⟩) r' k']) w b):gh≠gh'∧∀i j,i<r→j<r'→ρ i≠ρ' j:=by
  refine ⟨fun e=>hd gh ⟨_,_,_,_,_,rfl,.inl rfl⟩ ⟨_,_,_,_,_,rfl,.inl e⟩,fun i j hi hj e=> ?_⟩;obtain ⟨u,hu,hbu⟩:=h.cellAt hi;obtain ⟨u',hu',hbu'⟩:=h'.cellAt hj;exact hd (ρ i) ⟨_,_,_,_,_,rfl,.inr ⟨i,u,hi,hu,hbu.symm⟩⟩ ⟨_,_,_,_,_,rfl,.inr ⟨j,u',hj,hu',by rw [hbu',e]⟩⟩
theorem cu.up {gh m d b':Nat} {ρ:Nat→Nat} (h:cu w B gh m d c ρ M b) (hb:b≤b') (hl:b'≤aZ):cu w B gh m d c ρ M b':=by
  refine h.more (fun i j hi hj=> ?_) hl;exact Nat.lt_of_lt_of_le (h.bd hi hj) (Nat.pow_le_pow_right (by omega) hb)
theorem cE.more {n b':Nat} (h:cE w v n c M b) (hb:∀i j,i<n→j<c→(M i j).natAbs<2^b') (hl:b'≤aZ):cE w v n c M b':=by
  obtain ⟨A,k,h1,h2,h3,h4⟩:=h;refine ⟨A,k,h1,h2,⟨h3.1,h3.2.1,hl⟩,fun hn=> ?_⟩;obtain ⟨h,o,m,f,hA,hm,ha,hf⟩:=h4 hn;refine ⟨h,o,m,f,hA,hm,ha,fun i hi=> ?_⟩;obtain ⟨A2,k2,g1,g2,g3,g4⟩:=hf i hi;refine ⟨A2,k2,g1,g2,⟨g3.1,g3.2.1,hl⟩,fun hc=> ?_⟩;obtain ⟨g,e1,m2,f2,e2,e3,e4⟩:=g4 hc;exact ⟨g,e1,m2,f2,⟨e2.1,hl⟩,e3,fun j hj=>(e4 j hj).more (hb i j hi hj) hl⟩
theorem bf.more {b':Nat} (h:bf w v r c M b) (hb:∀i j,i<r→j<c→(M i j).natAbs<2^b') (hl:b'≤aZ):bf w v r c M b':=by
  obtain ⟨s,h1,h2,h3,h4⟩:=h;exact ⟨s,h1,h2,h3,h4.more hb hl⟩
theorem cV.more {n b':Nat} {z:Nat→Int} (h:cV w v n z b) (hb:∀j,j<n→(z j).natAbs<2^b') (hl:b'≤aZ):cV w v n z b':=by
  obtain ⟨A2,k2,g1,g2,g3,g4⟩:=h;refine ⟨A2,k2,g1,g2,⟨g3.1,g3.2.1,hl⟩,fun hc=> ?_⟩;obtain ⟨g,e1,m2,f2,e2,e3,e4⟩:=g4 hc;exact ⟨g,e1,m2,f2,⟨e2.1,hl⟩,e3,fun j hj=>(e4 j hj).more (hb j hj) hl⟩
end
theorem qz {w:World} {v:Value} {n c b:Nat} {M:Nat→Nat→Int} {i j:Int} (h:cE w v n c M b):
    Instr.fill (([(0,1),(1,1),(2,1)]:List (Nat×Nat))[·]?) (Value.agg #[.int .i64 0,.int .i64 0,.slice none 0 0]).cells [(0,.int .i64 i),(1,.int .i64 j),(2,v)]=some #[.int .i64 i,.int .i64 j,v]:=by
  obtain ⟨A,k,rfl,_⟩:=h;simp [Instr.fill,Value.cells]
theorem lM {a b c d e f g h i:Value} (ha:a.oneCell'=true) (hb:b.oneCell'=true) (hc:c.oneCell'=true) (hd:d.oneCell'=true) (he:e.oneCell'=true) (hf:f.oneCell'=true) (hg:g.oneCell'=true) (hh:h.oneCell'=true) (hi:i.oneCell'=true):
    ∀u∈ [a,b,c,d,e,f,g,h,i],u.oneCell'=true:=by simp [ha,hb,hc,hd,he,hf,hg,hh,hi]
theorem qA {a b c d e f g h i:Value} {zs:Array Value} (hz:zs.size=9):
    Instr.fill (([(0,3),(3,3),(6,3)]:List (Nat×Nat))[·]?) zs [(0,.agg #[a,b,c]),(1,.agg #[d,e,f]),(2,.agg #[g,h,i])]=some #[a,b,c,d,e,f,g,h,i]:=by
  obtain ⟨l⟩:=zs;simp only [List.size_toArray] at hz
  match l,hz with
  | [x0,x1,x2,x3,x4,x5,x6,x7,x8],_=>simp [Instr.fill,Value.cells]
def ra (S:WS) (top q:Nat):Nat→WS
  | 0=>S
  | n + 1=>co (ra S top q n) n top (-((ra S top q n).M n q/(ra S top q n).M top q))
theorem oX (S:WS) (top q:Nat):∀n a,n≤a→(ra S top q n).M a=S.M a
  | 0,a,_=>rfl
  | n + 1,a,h=>by
    have:=oX S top q n a (by omega);simp only [ra,co]
    funext c
    unfold cL
    rw [if_neg (by omega)];exact congrFun this c
def lc (w:World) (v:Value) (r c:Nat) (S:WS) (b:Nat):Prop:=∃s1 s2 s3,v= .agg #[.int .i64 (r:Nat),.int .i64 (c:Nat),s1,.int .i64 (r:Nat),.int .i64 (r:Nat),s2,.int .i64 (r:Nat),.int .i64 (r:Nat),s3]∧
  (r≤65536∧b≤aZ)∧c≤65536∧cE w s1 r c S.M b∧cE w s2 r r S.U b∧cE w s3 r r S.V b
theorem lc.ext {w w':World} {v:Value} {r c b:Nat} {S:WS} (h:lc w v r c S b) (hx:aG w w'):lc w' v r c S b:=by
  obtain ⟨s1,s2,s3,h1,h2,h3,h4,h5,h6⟩:=h;exact ⟨s1,s2,s3,h1,h2,h3,h4.ext hx,h5.ext hx,h6.ext hx⟩
end Go.TL
namespace Go.TL
open Go.RowKit Go.Proofs
set_option linter.unusedVariables false
set_option linter.unusedSimpArgs false
set_option maxRecDepth 10000 in
set_option maxHeartbeats 800000 in
theorem ya (w:World) (x:Value) (r c:Nat) (M:Nat→Nat→Int) (b0 b:Nat) (F:Nat→Nat→WS→Prop) (J:Nat→Nat→Nat→WS→Prop) (hx:bf w x r c M b0) (hb0:1 + b0≤b) (hb:2*b + 4≤aZ) (hF0:F 0 0 ⟨M,bH,bH⟩) (hstart:∀top q S,top<r→q<c→F top q S→∃m,J top q m S) (hfit:∀top q m S,top<r→q<c→J top q m S→0≤(bn (fun a=>S.M a q) top (r - top)).1→(bn (fun a=>S.M a q) top (r - top)).2=true→∀n,top + 1 + n<r→gM r c b (el (sn S ((bn (fun a=>S.M a q) top (r - top)).1.toNat) top q) top q (n + 1))) (hnext:∀top q m S,top<r→q<c→J top q m S→0≤(bn (fun a=>S.M a q) top (r - top)).1→(bn (fun a=>S.M a q) top (r - top)).2=true→∃m2,m2<m∧J top q m2 (el (sn S ((bn (fun a=>S.M a q) top (r - top)).1.toNat) top q) top q (r - top - 1))) (hno:∀top q m S,top<r→q<c→J top q m S→(bn (fun a=>S.M a q) top (r - top)).1<0→F top (q + 1) S) (hra:∀top q m S,top<r→q<c→J top q m S→0≤(bn (fun a=>S.M a q) top (r - top)).1→(bn (fun a=>S.M a q) top (r - top)).2=false→(∀n,n<top→gM r c b (ra (sn S ((bn (fun a=>S.M a q) top (r - top)).1.toNat) top q) top q (n + 1)))∧F (top + 1) (q + 1) (ra (sn S ((bn (fun a=>S.M a q) top (r - top)).1.toNat) top q) top q top)):Calls Tryz.prog 39 #[x] w (cb w fun v w'=>∃top q S,F top q S∧(c≤q∨r≤top)∧top≤r∧q≤c∧lc w' v r c S b):=by
 have hLIM:aZ=562949953421312:=rfl;obtain ⟨sx,rfl,hr,hc,hSx⟩:=hx.form;obtain ⟨B,hBe⟩:∃B:Nat,B=w.heap.size:=⟨_,rfl⟩
 have hBle:w.heap.size≤B:=by omega
 refine aj (N:=82) (rs:= #[.cell 2 64]) Tryz.func39 rfl rfl rfl (Nat.le_of_ble_eq_true rfl) ?_;have hX:aG w w:=aG.refl w;refine ab ?_;refine RL.x rfl rfl (cX.box [.int .i64 ((r:Nat)),.int .i64 ((c:Nat)),sx] rfl rfl) ?_;rintro _ w1 ⟨g1,rfl,hge1,hx1,hA1⟩;replace hX:=aG.trans hX hx1;refine RL.x rfl rfl (cX.alloc [.int .i64 (0),.int .i64 (0),.slice (none) (0) (0),.int .i64 (0),.int .i64 (0),.slice (none) (0) (0),.int .i64 (0),.int .i64 (0),.slice (none) (0) (0)] ji rfl) ?_;rintro _ w2 ⟨g2,rfl,hge2,hx2,hA2⟩;have hbs2:w.heap.size≤g2:=Nat.le_trans hX.size hge2;replace hA1:=aR.ext hA1 hx2;replace hX:=aG.trans hX hx2;refine RL.nil ?_;have hX1s:B≤w2.heap.size:=by rw [hBe];exact hX.size
 have hBw1:w.heap.size≤w2.heap.size:=hX.size;have hBw2:w.heap.size≤w2.heap.size:=hX.size;have hBw3:w.heap.size≤w2.heap.size:=hX.size;refine je am 8 [_,fun v AC=>cz AC v w2.heap.size r c M (1 + b0),_,_,fun v AC=>cz AC v w2.heap.size r r bH 1,_,_,fun v AC=>cz AC v w2.heap.size r r bH 1] (Apart.of (iX) [(1,4),(1,7),(4,7)] rfl ⟨(fun h=>by cases h),(fun _=>gz _ _ _ _ _),(fun h=>by cases h),(fun h=>by cases h),(fun _=>gz _ _ _ _ _),(fun h=>by cases h),(fun h=>by cases h),(fun _=>gz _ _ _ _ _),trivial⟩) rfl rfl ⟨ad _,cG _ _ _ _ _,ad _,ad _,cG _ _ _ _ _,ad _,ad _,cG _ _ _ _ _,trivial⟩ ⟨fun e_ w_ AB AA Az=>aI rfl (aa (ae [.int .i64 ((r:Nat)),.int .i64 ((c:Nat)),sx] aM (((AA 1 rfl).trans rfl)) ((aR.ext hA1 AB).cells 0 _ rfl rfl))),fun e_ w_ AB AA Az=>cX.mono (cX.call za (aE ((Az 0 rfl))) (tP _ _ _ _ _ _ (bf.mk (cE.ext (cE.ext hSx hX) AB) (by omega) (by omega)) (by omega))) fun v AD hv=>⟨hv.1,cz.low hv.2 AB.size,dD fun b hb=>eD hv.2 hb⟩,fun e_ w_ AB AA Az=>aI rfl (aa (cn.fieldAddr aY (((AA 1 rfl).trans rfl)))),fun e_ w_ AB AA Az=>aI rfl (aa (cn.load bO ((Az 2 rfl)) ((aR.ext hA1 AB).at_ (i:=0) rfl rfl))),fun e_ w_ AB AA Az=>cX.mono (cX.call wC (aE ((Az 3 rfl))) (kD _ r (by omega))) fun v AD hv=>⟨hv.1,cz.low hv.2 AB.size,dD fun b hb=>eD hv.2 hb⟩,fun e_ w_ AB AA Az=>aI rfl (aa (cn.fieldAddr aY (((AA 1 rfl).trans rfl)))),fun e_ w_ AB AA Az=>aI rfl (aa (cn.load bO ((Az 5 rfl)) ((aR.ext hA1 AB).at_ (i:=0) rfl rfl))),fun e_ w_ AB AA Az=>cX.mono (cX.call wC (aE ((Az 6 rfl))) (kD _ r (by omega))) fun v AD hv=>⟨hv.1,cz.low hv.2 AB.size,dD fun b hb=>eD hv.2 hb⟩,trivial⟩ ?_;intro e1 w3 hx3 ho1 hf1 hp1;replace hA1:=aR.ext hA1 hx3;replace hA2:=aR.ext hA2 hx3;replace hX:=aG.trans hX hx3;have s1_e1:e1 1= .pointer (some ⟨g1,0,none⟩):=(ho1 1 rfl).trans rfl;have s2_e1:e1 2= .pointer (some ⟨g2,0,none⟩):=(ho1 2 rfl).trans rfl;have s8_e1:cz w3 (e1 8) w2.heap.size r c M (1 + b0):=hf1 1 rfl;have s11_e1:cz w3 (e1 11) w2.heap.size r r bH 1:=hf1 4 rfl;have s14_e1:cz w3 (e1 14) w2.heap.size r r bH 1:=hf1 7 rfl;obtain ⟨hm,km,ρm,hqm,hMm⟩:=s8_e1;have hdm:=cu.dlim hMm;obtain ⟨hu,ku,ρu,hqu,hMu⟩:=s11_e1;have hdu:=cu.dlim hMu;obtain ⟨hv,kv,ρv,hqv,hMv⟩:=s14_e1;have hdv:=cu.dlim hMv;obtain ⟨nmu,dmu⟩:=ew hMm hMu (by rw [←hqm,←hqu];exact hp1 1 4 rfl rfl rfl rfl);obtain ⟨nmv,dmv⟩:=ew hMm hMv (by rw [←hqm,←hqv];exact hp1 1 7 rfl rfl rfl rfl);obtain ⟨nuv,duv⟩:=ew hMu hMv (by rw [←hqu,←hqv];exact hp1 4 7 rfl rfl rfl rfl);refine RL.p rfl rfl (cn.build (vs:= [(0,.agg #[.int .i64 ((r:Nat)),.int .i64 ((c:Nat)),.slice (some ⟨hm,0,none⟩) (r) (km)]),(1,.agg #[.int .i64 ((r:Nat)),.int .i64 ((r:Nat)),.slice (some ⟨hu,0,none⟩) (r) (ku)]),(2,.agg #[.int .i64 ((r:Nat)),.int .i64 ((r:Nat)),.slice (some ⟨hv,0,none⟩) (r) (kv)])]) [(0,3),(3,3),(6,3)] yD yB (fa hqm hqu hqv) (qA rfl)) ?_;refine RL.x rfl rfl (cX.box [.int .i64 ((r:Nat)),.int .i64 ((c:Nat)),.slice (some ⟨hm,0,none⟩) (r) (km),.int .i64 ((r:Nat)),.int .i64 ((r:Nat)),.slice (some ⟨hu,0,none⟩) (r) (ku),.int .i64 ((r:Nat)),.int .i64 ((r:Nat)),.slice (some ⟨hv,0,none⟩) (r) (kv)] rfl rfl) ?_;rintro _ w4 ⟨gw,rfl,hge3,hx4,hA3⟩;have hbs3:w.heap.size≤gw:=Nat.le_trans hX.size hge3;replace hA1:=aR.ext hA1 hx4;replace hA2:=aR.ext hA2 hx4;replace hMm:=cu.ext hMm hx4;replace hMu:=cu.ext hMu hx4;replace hMv:=cu.ext hMv hx4;replace hX:=aG.trans hX hx4;refine RL.p rfl rfl (cn.assign rfl) ?_;refine RL.nil ?_;have hW:bJ 95 w4 B gw r c M bH bH b:=⟨hm,hu,hv,km,ku,kv,ρm,ρu,ρv,(by rw [hBe];exact hbs3),hA3,cu.up (cu.low hMm hX1s) (by omega) (by omega),cu.up (cu.low hMu hX1s) (by omega) (by omega),cu.up (cu.low hMv hX1s) (by omega) (by omega),nmu,nmv,nuv,dmu,dmv,duv⟩
 skip
 refine ab ?_;refine RL.p rfl rfl (cn.assign rfl) ?_;refine RL.nil ?_;refine WP.seq ?_;refine ab ?_;refine RL.p rfl rfl (cn.assign rfl) ?_;refine RL.nil ?_;refine WP.block ?_;refine WP.loop (fun mz ez uz=>∃top:Nat,∃q:Nat,∃S:WS,(mz=c - q)∧(ez 1= .pointer (some ⟨g1,0,none⟩))∧(ez 2= .pointer (some ⟨g2,0,none⟩))∧(ez 3= .pointer (some ⟨gw,0,none⟩))∧(ez 4= .int .i64 ((top:Nat)))∧(ez 5= .int .i64 ((q:Nat)))∧(top≤r)∧(q≤c)∧(F top q S)∧(aG w uz)∧(aR uz g1 28 3 (bt [.int .i64 ((r:Nat)),.int .i64 ((c:Nat)),sx]))∧(aR uz g2 64 9 (bt [.int .i64 (0),.int .i64 (0),.slice (none) (0) (0),.int .i64 (0),.int .i64 (0),.slice (none) (0) (0),.int .i64 (0),.int .i64 (0),.slice (none) (0) (0)]))∧(bJ 95 uz B gw r c (S).M (S).U (S).V b)) (c - 0) ?_ ?_
 · exact ⟨0,0,⟨M,bH,bH⟩,rfl,s1_e1,s2_e1,rfl,rfl,rfl,(by omega),(by omega),hF0,hX,hA1,hA2,hW⟩
 rintro m1 e2 w5 ⟨top,q,S,hm1,s1_e2,s2_e2,s3_e2,s4_e2,s5_e2,htop,hq,hF,hX1,hA1,hA2,hW⟩;refine WP.seq ?_;refine aJ am 10 [_,_,_,_,fun v AC=>v= .bool (decide (((q:Nat):Int)<((c:Nat):Int))),_,_,_,_,_] rfl rfl (fun e_ w_ AB AA=>⟨fun _=>aa (cn.move ((AA 5 rfl s5_e2))),fun _=>aa (cn.fieldAddr bC ((AA 1 rfl s1_e2))),fun Az=>aa (cn.load bO ((Az 1 rfl)) ((aR.ext hA1 AB).at_ (i:=1) rfl rfl)),fun Az=>aa (cn.lss ((Az 0 rfl)) ((Az 2 rfl))),fun Az=>aa (cn.move ((Az 3 rfl))),fun Az=>gT (Az 4 rfl) fun hg=>aa (cn.move ((AA 4 rfl s4_e2))),fun Az=>gT (Az 4 rfl) fun hg=>aa (cn.fieldAddr aY ((AA 1 rfl s1_e2))),fun Az=>gT (Az 4 rfl) fun hg=>aa (cn.load bO ((Az 6 rfl hg)) ((aR.ext hA1 AB).at_ (i:=0) rfl rfl)),fun Az=>gT (Az 4 rfl) fun hg=>aa (cn.lss ((Az 5 rfl hg)) ((Az 7 rfl hg))),fun Az=>aa (aB (p:=((q:Nat):Int)<((c:Nat):Int)) (q:=((top:Nat):Int)<((r:Nat):Int)) (Az 4 rfl) (fun hq=>(Az 8 rfl hq))),trivial⟩) ?_;intro e3 w6 hx5 ho2 hf2;replace hA1:=aR.ext hA1 hx5;replace hA2:=aR.ext hA2 hx5;replace hW:=bJ.ext hW hx5;replace hX1:=aG.trans hX1 hx5;have s1_e3:=ho2 1 rfl s1_e2;have s2_e3:=ho2 2 rfl s2_e2;have s3_e3:=ho2 3 rfl s3_e2;have s4_e3:=ho2 4 rfl s4_e2;have s5_e3:=ho2 5 rfl s5_e2;have s26_e3:e3 26=_:=hf2 9 rfl;refine RL.nil ?_;refine af ((((q:Nat):Int)<((c:Nat):Int))∧(((top:Nat):Int)<((r:Nat):Int))) s26_e3 (fun c26=> ?_) (fun c26=> ?_)
 ·
  refine WP.skip ?_;refine pA.norm ?_;refine WP.seq ?_;refine WP.block ?_;refine WP.seq ?_;obtain ⟨m0,hJ0⟩:=hstart top q S (by omega) (by omega) hF;refine ab ?_;refine RL.p rfl rfl (cn.move s3_e3) ?_;refine RL.p rfl rfl (cn.move s4_e3) ?_;refine RL.p rfl rfl (cn.move s5_e3) ?_;refine RL.x rfl rfl (ca yZ (cO rfl rfl rfl) (vB _ _ _ _ _ _ _ top q (J top q) m0 hW (by omega) (by omega) (by omega) hJ0 (fun m S hJ h0 ho n hn=>hfit top q m S (by omega) (by omega) hJ h0 ho n hn) (fun m S hJ h0 ho=>hnext top q m S (by omega) (by omega) hJ h0 ho))) ?_;rintro _ w8 ⟨hk1,m1,S1,S2,hJ1,hN,rfl,hcase⟩;replace hA1:=cH hA1 hk1 (by decide);replace hA2:=cH hA2 hk1 (by decide);replace hX1:=cW hX1 hk1 hBle;replace hW:bJ 95 w8 B gw r c (S2).M (S2).U (S2).V b:=hN;refine RL.p rfl rfl (cn.not (p:=0≤(bn (fun a=>S1.M a q) top (r - top)).1) rfl) ?_;refine RL.nil ?_;refine af (¬(0≤(bn (fun a=>S1.M a q) top (r - top)).1)) rfl (fun c33=> ?_) (fun c33=> ?_)
  ·
   refine WP.exit ?_;refine pA.exit ?_;refine iM.same ?_;refine pA.norm ?_;refine WP.region ?_;refine RL.p rfl rfl (cn.move s5_e3) ?_;refine RL.p rfl rfl (cn.add (c:=((q + 1:Nat):Int)) rfl rfl (bA (by omega))) ?_;refine RL.p rfl rfl (cn.assign rfl) ?_;refine RL.nil ?_;have hS:S2=S1:=by
     rcases hcase with h | h
     · exact h.2
     · omega
   refine pA.norm ⟨_,(by omega),_,_,S2,rfl,s1_e3,s2_e3,s3_e3,s4_e3,rfl,(by omega),(by omega),(hS▸hno top q m1 S1 (by omega) (by omega) hJ1 (by omega)),hX1,hA1,hA2,hW⟩
  ·
   refine WP.skip ?_;refine pA.norm ?_;refine WP.seq ?_;obtain ⟨hp0,ho,hS⟩:0≤(bn (fun a=>S1.M a q) top (r - top)).1∧(bn (fun a=>S1.M a q) top (r - top)).2=false∧S2=sn S1 ((bn (fun a=>S1.M a q) top (r - top)).1.toNat) top q:=by
     rcases hcase with h | h
     · omega
     · exact h
   subst hS;have hpz:S1.M ((bn (fun a=>S1.M a q) top (r - top)).1.toNat) q≠0:=(eP (x:=fun a=>S1.M a q) (top:=top) (n:=r - top) (by omega)).2.2.1;have hq0:(sn S1 ((bn (fun a=>S1.M a q) top (r - top)).1.toNat) top q).M top q≠0:=by rw [iQ];omega
   obtain ⟨hfr,hF2⟩:=hra top q m1 S1 (by omega) (by omega) hJ1 hp0 ho;refine ab ?_;refine RL.p rfl rfl (cn.move s4_e3) ?_;refine RL.p rfl rfl (cn.move rfl) ?_;refine RL.nil ?_;refine WP.block ?_;refine WP.loop (fun mz ez uz=>∃n:Nat,(mz=top - n)∧(ez 1= .pointer (some ⟨g1,0,none⟩))∧(ez 2= .pointer (some ⟨g2,0,none⟩))∧(ez 3= .pointer (some ⟨gw,0,none⟩))∧(ez 4= .int .i64 ((top:Nat)))∧(ez 5= .int .i64 ((q:Nat)))∧(ez 34= .int .i64 ((top:Nat)))∧(ez 35= .int .i64 ((n:Nat)))∧(n≤top)∧(aG w uz)∧(aR uz g1 28 3 (bt [.int .i64 ((r:Nat)),.int .i64 ((c:Nat)),sx]))∧(aR uz g2 64 9 (bt [.int .i64 (0),.int .i64 (0),.slice (none) (0) (0),.int .i64 (0),.int .i64 (0),.slice (none) (0) (0),.int .i64 (0),.int .i64 (0),.slice (none) (0) (0)]))∧(bJ 95 uz B gw r c (ra (sn S1 ((bn (fun a=>S1.M a q) top (r - top)).1.toNat) top q) top q n).M (ra (sn S1 ((bn (fun a=>S1.M a q) top (r - top)).1.toNat) top q) top q n).U (ra (sn S1 ((bn (fun a=>S1.M a q) top (r - top)).1.toNat) top q) top q n).V b)) (top - 0) ?_ ?_
   · exact ⟨0,rfl,s1_e3,s2_e3,s3_e3,s4_e3,s5_e3,rfl,rfl,(by omega),hX1,hA1,hA2,hW⟩
   rintro m2 e4 w9 ⟨n,hm2,s1_e4,s2_e4,s3_e4,s4_e4,s5_e4,s34_e4,s35_e4,hn,hX2,hA1,hA2,hW⟩;have hqz:(ra (sn S1 ((bn (fun a=>S1.M a q) top (r - top)).1.toNat) top q) top q n).M top q≠0:=by rw [oX _ _ _ _ _ (by omega)];exact hq0
   refine ab ?_;refine RL.p rfl rfl (cn.lss s35_e4 s34_e4) ?_;refine RL.nil ?_;refine WP.seq ?_;refine af (((n:Nat):Int)<((top:Nat):Int)) rfl (fun c36=> ?_) (fun c36=> ?_)
   ·
    refine WP.skip ?_;refine pA.norm ?_;refine WP.seq ?_;refine WP.block ?_;refine ab ?_;refine RL.p rfl rfl (cn.move s35_e4) ?_;refine RL.p rfl rfl (cn.assign rfl) ?_;refine RL.nil ?_;have hWc:=hW;obtain ⟨hm_1,hu_1,hv_1,km_1,ku_1,kv_1,ρm_1,ρu_1,ρv_1,_,hG_1,hMm_1,hMu_1,hMv_1,_⟩:=hWc;have hdm_1:=cu.dlim hMm_1;have hcm_1:=cu.clim hMm_1;have hfitn:gM r c b (co (ra (sn S1 ((bn (fun a=>S1.M a q) top (r - top)).1.toNat) top q) top q n) n top (-((ra (sn S1 ((bn (fun a=>S1.M a q) top (r - top)).1.toNat) top q) top q n).M n q/(ra (sn S1 ((bn (fun a=>S1.M a q) top (r - top)).1.toNat) top q) top q n).M top q))):=hfr n (by omega);have hij:n≠top:=by omega
    refine WP.ds am 27 [_,_,_,_,_,_,_,_,_,_,_,_,_,_,_,_,_,_,_,_,_,_,_,_,_,_,_] rfl rfl (fun e_ w_ AB AA=>⟨fun _=>aa (cn.move ((AA 3 rfl s3_e4))),fun _=>aa (cn.move ((AA 6 rfl rfl))),fun _=>aa (cn.move ((AA 4 rfl s4_e4))),fun _=>aa (cn.move ((AA 3 rfl s3_e4))),fun Az=>aa (cn.nilCheck ((Az 3 rfl))),fun Az=>aa (cn.fieldAddr cF ((Az 4 rfl))),fun Az=>aa (cn.fieldAddr au ((Az 5 rfl))),fun Az=>aa (cn.load aK ((Az 6 rfl)) ((aR.ext hG_1 AB).at_ (i:=2) rfl rfl)),fun _=>aa (cn.move ((AA 6 rfl rfl))),fun Az=>aa (cn.index (j:=n) aF ((Az 7 rfl)) ((Az 8 rfl)) rfl (by omega) (by omega)),fun Az=>ai (al (i:=n) aU (Az 9 rfl) (cu.ext hMm_1 AB) (by omega)),fun _=>aa (cn.move ((AA 5 rfl s5_e4))),fun Az=>aa (av (j:=q) be (Az 10 rfl) rfl (Az 11 rfl) (by omega) (by omega)),fun Az=>ai (aO (j:=q) aw (Az 12 rfl) (cu.row (cu.ext hMm_1 AB) (by omega)) (by omega)),fun _=>aa (cn.move ((AA 3 rfl s3_e4))),fun Az=>aa (cn.nilCheck ((Az 14 rfl))),fun Az=>aa (cn.fieldAddr cF ((Az 15 rfl))),fun Az=>aa (cn.fieldAddr au ((Az 16 rfl))),fun Az=>aa (cn.load aK ((Az 17 rfl)) ((aR.ext hG_1 AB).at_ (i:=2) rfl rfl)),fun _=>aa (cn.move ((AA 4 rfl s4_e4))),fun Az=>aa (cn.index (j:=top) aF ((Az 18 rfl)) ((Az 19 rfl)) rfl (by omega) (by omega)),fun Az=>ai (al (i:=top) aU (Az 20 rfl) (cu.ext hMm_1 AB) (by omega)),fun _=>aa (cn.move ((AA 5 rfl s5_e4))),fun Az=>aa (av (j:=q) be (Az 21 rfl) rfl (Az 22 rfl) (by omega) (by omega)),fun Az=>ai (aO (j:=q) aw (Az 23 rfl) (cu.row (cu.ext hMm_1 AB) (by omega)) (by omega)),fun Az=>cX.call wA (aA rfl rfl) (kI _ _ _ _ _ _ _ (Az 13 rfl) (Az 24 rfl) hqz (by omega)),fun Az=>cX.call no (aE rfl) (ot _ _ _ _ ((Az 25 rfl))),trivial⟩) ?_;intro e5 w10 hx7 ho3 hf3;replace hA1:=aR.ext hA1 hx7;replace hA2:=aR.ext hA2 hx7;replace hW:=bJ.ext hW hx7;replace hX2:=aG.trans hX2 hx7;have s1_e5:=ho3 1 rfl s1_e4;have s2_e5:=ho3 2 rfl s2_e4;have s3_e5:=ho3 3 rfl s3_e4;have s4_e5:=ho3 4 rfl s4_e4;have s5_e5:=ho3 5 rfl s5_e4;have s34_e5:=ho3 34 rfl s34_e4;have s35_e5:=ho3 35 rfl s35_e4;have s38_e5:e5 38=_:=hf3 0 rfl;have s39_e5:e5 39=_:=hf3 1 rfl;have s40_e5:e5 40=_:=hf3 2 rfl;have s64_e5:ak w10 (e5 64) (-((((ra (sn S1 ((bn (fun a=>S1.M a q) top (r - top)).1.toNat) top q) top q n).M) n q)/(((ra (sn S1 ((bn (fun a=>S1.M a q) top (r - top)).1.toNat) top q) top q n).M) top q))) b:=hf3 26 rfl;refine RL.x rfl rfl (ca wB (qI s38_e5 s39_e5 s40_e5 rfl) (qv _ _ _ _ _ _ _ _ _ n top _ _ _ hW (by omega) (by omega) s64_e5 (by omega) (by omega) (od hfitn (by omega)) (oc hfitn (by omega)) (ob hfitn (by omega)))) ?_;rintro _ w12 ⟨hk2,hN1⟩;replace hA1:=cH hA1 hk2 (by decide);replace hA2:=cH hA2 hk2 (by decide);replace hX2:=cW hX2 hk2 hBle;replace hW:bJ 95 w12 B gw r c (co (ra (sn S1 ((bn (fun a=>S1.M a q) top (r - top)).1.toNat) top q) top q n) n top (-((((ra (sn S1 ((bn (fun a=>S1.M a q) top (r - top)).1.toNat) top q) top q n).M) n q)/(((ra (sn S1 ((bn (fun a=>S1.M a q) top (r - top)).1.toNat) top q) top q n).M) top q)))).M (co (ra (sn S1 ((bn (fun a=>S1.M a q) top (r - top)).1.toNat) top q) top q n) n top (-((((ra (sn S1 ((bn (fun a=>S1.M a q) top (r - top)).1.toNat) top q) top q n).M) n q)/(((ra (sn S1 ((bn (fun a=>S1.M a q) top (r - top)).1.toNat) top q) top q n).M) top q)))).U (co (ra (sn S1 ((bn (fun a=>S1.M a q) top (r - top)).1.toNat) top q) top q n) n top (-((((ra (sn S1 ((bn (fun a=>S1.M a q) top (r - top)).1.toNat) top q) top q n).M) n q)/(((ra (sn S1 ((bn (fun a=>S1.M a q) top (r - top)).1.toNat) top q) top q n).M) top q)))).V b:=hN1;refine RL.nil ?_;refine iM.norm ?_;refine pA.norm ?_;refine WP.region ?_;refine RL.p rfl rfl (cn.add (c:=((n + 1:Nat):Int)) s35_e5 rfl (bA (by omega))) ?_;refine RL.p rfl rfl (cn.move rfl) ?_;refine RL.nil ?_;refine pA.norm ⟨_,(by omega),n + 1,rfl,s1_e5,s2_e5,s3_e5,s4_e5,s5_e5,s34_e5,rfl,(by omega),hX2,hA1,hA2,hW⟩
   ·
    refine WP.exit ?_;refine pA.exit ?_;refine pA.exit ?_;refine iM.same ?_;refine pA.norm ?_;refine WP.region ?_;refine RL.p rfl rfl (cn.move s4_e4) ?_;refine RL.p rfl rfl (cn.add (c:=((top + 1:Nat):Int)) rfl rfl (bA (by omega))) ?_;refine RL.p rfl rfl (cn.assign rfl) ?_;refine RL.nil ?_;refine iM.norm ?_;refine pA.norm ?_;refine WP.region ?_;refine RL.p rfl rfl (cn.move s5_e4) ?_;refine RL.p rfl rfl (cn.add (c:=((q + 1:Nat):Int)) rfl rfl (bA (by omega))) ?_;refine RL.p rfl rfl (cn.assign rfl) ?_;refine RL.nil ?_;have hnt:n=top:=by omega
    rw [hnt] at hW;refine pA.norm ⟨_,(by omega),_,_,_,rfl,s1_e4,s2_e4,s3_e4,rfl,rfl,(by omega),(by omega),hF2,hX2,hA1,hA2,hW⟩
 ·
  refine WP.exit ?_;refine pA.exit ?_;refine pA.exit ?_;refine iM.same ?_;refine pA.norm ?_;have hWc:=hW;obtain ⟨hm_2,hu_2,hv_2,km_2,ku_2,kv_2,ρm_2,ρu_2,ρv_2,_,hG_2,hMm_2,hMu_2,hMv_2,_⟩:=hWc;have hdm_2:=cu.dlim hMm_2;have hcm_2:=cu.clim hMm_2;have hdu_2:=cu.dlim hMu_2;have hdv_2:=cu.dlim hMv_2
  skip
  refine aJ am 12 [_,_,_,_,_,_,_,_,_,_,_,_] rfl rfl (fun e_ w_ AB AA=>⟨fun _=>aa (cn.move ((AA 3 rfl s3_e3))),fun Az=>aa (cn.nilCheck ((Az 0 rfl))),fun Az=>aa (cn.fieldAddr cF ((Az 1 rfl))),fun Az=>aa (ae [.int .i64 ((r:Nat)),.int .i64 ((c:Nat)),.slice (some ⟨hm_2,0,none⟩) (r) (km_2)] aM ((Az 2 rfl)) ((aR.ext hG_2 AB).cells 0 _ rfl rfl)),fun _=>aa (cn.move ((AA 3 rfl s3_e3))),fun Az=>aa (cn.nilCheck ((Az 4 rfl))),fun Az=>aa (cn.fieldAddr dJ ((Az 5 rfl))),fun Az=>aa (ae [.int .i64 ((r:Nat)),.int .i64 ((r:Nat)),.slice (some ⟨hu_2,0,none⟩) (r) (ku_2)] aM ((Az 6 rfl)) ((aR.ext hG_2 AB).cells 3 _ rfl rfl)),fun _=>aa (cn.move ((AA 3 rfl s3_e3))),fun Az=>aa (cn.nilCheck ((Az 8 rfl))),fun Az=>aa (cn.fieldAddr jv ((Az 9 rfl))),fun Az=>aa (ae [.int .i64 ((r:Nat)),.int .i64 ((r:Nat)),.slice (some ⟨hv_2,0,none⟩) (r) (kv_2)] aM ((Az 10 rfl)) ((aR.ext hG_2 AB).cells 6 _ rfl rfl)),trivial⟩) ?_;intro e6 w13 hx9 ho4 hf4;replace hA2:=aR.ext hA2 hx9;replace hMm_2:=cu.ext hMm_2 hx9;replace hMu_2:=cu.ext hMu_2 hx9;replace hMv_2:=cu.ext hMv_2 hx9;replace hX1:=aG.trans hX1 hx9;have s2_e6:=ho4 2 rfl s2_e3;have s72_e6:e6 72=_:=hf4 3 rfl;have s76_e6:e6 76=_:=hf4 7 rfl;have s80_e6:e6 80=_:=hf4 11 rfl;refine RL.p rfl rfl (cn.build (vs:= [(0,.agg #[.int .i64 ((r:Nat)),.int .i64 ((c:Nat)),.slice (some ⟨hm_2,0,none⟩) (r) (km_2)]),(1,.agg #[.int .i64 ((r:Nat)),.int .i64 ((r:Nat)),.slice (some ⟨hu_2,0,none⟩) (r) (ku_2)]),(2,.agg #[.int .i64 ((r:Nat)),.int .i64 ((r:Nat)),.slice (some ⟨hv_2,0,none⟩) (r) (kv_2)])]) [(0,3),(3,3),(6,3)] wu ji (fa s72_e6 s76_e6 s80_e6) (qA rfl)) ?_;refine RL.x rfl rfl (cX.store [.int .i64 ((r:Nat)),.int .i64 ((c:Nat)),.slice (some ⟨hm_2,0,none⟩) (r) (km_2),.int .i64 ((r:Nat)),.int .i64 ((r:Nat)),.slice (some ⟨hu_2,0,none⟩) (r) (ku_2),.int .i64 ((r:Nat)),.int .i64 ((r:Nat)),.slice (some ⟨hv_2,0,none⟩) (r) (kv_2)] lA s2_e6 rfl rfl hA2 (Nat.le_of_ble_eq_true rfl) (lM rfl rfl rfl rfl rfl rfl rfl rfl rfl)) ?_;rintro _ w14 ⟨hk3,hnew⟩;replace hMm_2:=bc hMm_2 hk3 hA2 (by decide);replace hMu_2:=bc hMu_2 hk3 hA2 (by decide);replace hMv_2:=bc hMv_2 hk3 hA2 (by decide);replace hX1:=hX1.step hk3 (fun b e=>by subst e;exact hbs2);replace hA2:=hnew.lit [.int .i64 ((r:Nat)),.int .i64 ((c:Nat)),.slice (some ⟨hm_2,0,none⟩) (r) (km_2),.int .i64 ((r:Nat)),.int .i64 ((r:Nat)),.slice (some ⟨hu_2,0,none⟩) (r) (ku_2),.int .i64 ((r:Nat)),.int .i64 ((r:Nat)),.slice (some ⟨hv_2,0,none⟩) (r) (kv_2)] rfl;clear hnew;refine RL.nil ?_;refine WP.ret ?_;refine ⟨.agg #[.int .i64 ((r:Nat)),.int .i64 ((c:Nat)),.slice (some ⟨hm_2,0,none⟩) (r) (km_2),.int .i64 ((r:Nat)),.int .i64 ((r:Nat)),.slice (some ⟨hu_2,0,none⟩) (r) (ku_2),.int .i64 ((r:Nat)),.int .i64 ((r:Nat)),.slice (some ⟨hv_2,0,none⟩) (r) (kv_2)],zP.one (ag [.int .i64 ((r:Nat)),.int .i64 ((c:Nat)),.slice (some ⟨hm_2,0,none⟩) (r) (km_2),.int .i64 ((r:Nat)),.int .i64 ((r:Nat)),.slice (some ⟨hu_2,0,none⟩) (r) (ku_2),.int .i64 ((r:Nat)),.int .i64 ((r:Nat)),.slice (some ⟨hv_2,0,none⟩) (r) (kv_2)] wR s2_e6 (hA2.cells 0 _ rfl rfl)),_,rfl,hX1,?_⟩;dsimp only;exact ⟨top,q,S,hF,by omega,htop,hq,_,_,_,rfl,⟨by omega,by omega⟩,by omega,cu.hdrV hMm_2 (by omega) (by omega),cu.hdrV hMu_2 (by omega) (by omega),cu.hdrV hMv_2 (by omega) (by omega)⟩
end Go.TL
namespace Go.TL
set_option linter.unusedVariables false
def aq:Nat→(Nat→Int)→Int
  | 0,_=>0
  | n + 1,f=>aq n f + f n
section
variable {f g:Nat→Int} {n:Nat}
theorem an:∀{n:Nat},(∀i,i<n→f i=g i)→aq n f=aq n g
  | 0,_=>rfl
  | n + 1,h=>by simp only [aq];rw [an (n:=n) fun i hi=>h i (by omega),h n (by omega)]
theorem bX:∀{n:Nat},(∀i,i<n→f i=0)→aq n f=0
  | 0,_=>rfl
  | n + 1,h=>by simp only [aq];rw [bX (n:=n) fun i hi=>h i (by omega),h n (by omega)];rfl
theorem eK (f g:Nat→Int):∀n,aq n (fun i=>f i + g i)=aq n f + aq n g
  | 0=>rfl
  | n + 1=>by simp only [aq];rw [eK f g n];omega
theorem fh (f g:Nat→Int):∀n,aq n (fun i=>f i - g i)=aq n f - aq n g
  | 0=>rfl
  | n + 1=>by simp only [aq];rw [fh f g n];omega
theorem ed (k:Int) (f:Nat→Int):∀n,aq n (fun i=>k*f i)=k*aq n f
  | 0=>by simp [aq]
  | n + 1=>by simp only [aq];rw [ed k f n,Int.mul_add]
theorem lF (k:Int) (f:Nat→Int) (n:Nat):aq n (fun i=>f i*k)=aq n f*k:=by
  rw [Int.mul_comm,←ed];exact an fun i _=>Int.mul_comm _ _
theorem nw (f:Nat→Int) (n:Nat):aq n (fun i=> -f i)= -aq n f:=by
  have:=ed (-1) f n;rw [show (-1:Int)*aq n f= -aq n f by omega] at this;rw [←this];exact an fun i _=>by omega
theorem eI {i:Nat}:∀{n:Nat},i<n→aq n (fun x=>if x=i then f x else 0)=f i
  | 0,h=>by omega
  | n + 1,h=>by
    simp only [aq]
    by_cases e:i=n
    · subst e
      rw [bX fun x hx=>by rw [if_neg (by omega)],if_pos rfl];omega
    · rw [eI (n:=n) (by omega),if_neg (by omega)];omega
theorem cf {i:Nat} (hi:i<n) (h:∀x,x<n→x≠i→f x=0):aq n f=f i:=by
  rw [←eI (f:=f) hi];exact an fun x hx=>by
    by_cases e:x=i
    · rw [if_pos e]
    · rw [if_neg e,h x hx e]
theorem gp (F:Nat→Nat→Int) (m:Nat):∀n,aq n (fun i=>aq m (fun j=>F i j))=aq m (fun j=>aq n (fun i=>F i j))
  | 0=>by simp only [aq];rw [bX fun _ _=>rfl]
  | n + 1=>by simp only [aq];rw [gp F m n,←eK]
theorem qR {i j:Nat} (hi:i<n) (hj:j<n):aq n (fun x=>f (fz id i j x))=aq n f:=by
  by_cases e:i=j
  · subst e
    refine an fun x _=> ?_
    unfold fz
    split
    · rename_i h;rw [h];rfl
    · rfl
  · have h1:aq n (fun x=>f (fz id i j x))=aq n (fun x=>f x + ((if x=i then (fun _=>f j - f i) x else 0) + (if x=j then (fun _=>f i - f j) x else 0))):=by
      refine an fun x _=> ?_
      unfold fz
      by_cases e1:x=i
      · subst e1;rw [if_pos rfl,if_pos rfl,if_neg e];simp only [id];omega
      · rw [if_neg e1,if_neg e1]
        by_cases e2:x=j
        · subst e2;rw [if_pos rfl,if_pos rfl];simp only [id];omega
        · rw [if_neg e2,if_neg e2];simp only [id];omega
    rw [h1,eK,eK,eI hi,eI hj];omega
theorem nz {B:Nat}:∀{n:Nat},(∀i,i<n→(f i).natAbs≤B)→(aq n f).natAbs≤n*B
  | 0,_=>by simp [aq]
  | n + 1,h=>by
    have h1:=nz (n:=n) (B:=B) fun i hi=>h i (by omega)
    have h2:=h n (by omega);simp only [aq];rw [Nat.add_mul];omega
end
def ci (n:Nat) (A B:Nat→Nat→Int):Nat→Nat→Int:=fun i j=>aq n fun a=>A i a*B a j
theorem kz {n:Nat} {A A' B B':Nat→Nat→Int} {i j:Nat} (hA:∀a,a<n→A i a=A' i a) (hB:∀a,a<n→B a j=B' a j):ci n A B i j=ci n A' B' i j:=
  an fun a ha=>by rw [hA a ha,hB a ha]
theorem kA (n m:Nat) (A B C:Nat→Nat→Int) (i j:Nat):ci m (ci n A B) C i j=ci n A (ci m B C) i j:=by
  unfold ci
  have h1:aq m (fun a=>aq n (fun b=>A i b*B b a)*C a j)=aq m (fun a=>aq n (fun b=>A i b*B b a*C a j)):=an fun a _=>(lF _ _ _).symm
  have h2:aq n (fun b=>A i b*aq m (fun a=>B b a*C a j))=aq n (fun b=>aq m (fun a=>A i b*B b a*C a j)):=
    an fun b _=>by rw [←ed];exact an fun a _=>by rw [Int.mul_assoc]
  rw [h1,h2,gp]
theorem jA {n:Nat} (A:Nat→Nat→Int) {i j:Nat} (hi:i<n):ci n bH A i j=A i j:=by
  unfold ci bH
  rw [cf hi fun x hx e=>by rw [if_neg (fun h=>e h.symm)];omega,if_pos rfl];omega
theorem lQ {n:Nat} (U B:Nat→Nat→Int) (i j:Nat) (k:Int) (a b:Nat):ci n (cL U i j k) B a b=cL (ci n U B) i j k a b:=by
  unfold ci cL
  by_cases e:a=i
  · simp only [if_pos e]
    rw [←ed,←eK];exact an fun x _=>by rw [Int.add_mul,Int.mul_assoc]
  · simp only [if_neg e]
theorem qY {n:Nat} (A V:Nat→Nat→Int) (i j:Nat) (k:Int) (a b:Nat):ci n A (dz V i j k) a b=dz (ci n A V) i j k a b:=by
  unfold ci dz
  by_cases e:b=j
  · simp only [if_pos e]
    rw [←ed,←fh];exact an fun x _=>by rw [Int.mul_sub,Int.mul_left_comm]
  · simp only [if_neg e]
theorem ky {n:Nat} (U B:Nat→Nat→Int) (i j a b:Nat):ci n (cj U i j) B a b=cj (ci n U B) i j a b:=by
  unfold ci cj
  by_cases e:a=i
  · simp only [if_pos e]
  · simp only [if_neg e]
    by_cases e2:a=j
    · simp only [if_pos e2]
    · simp only [if_neg e2]
theorem pf {n:Nat} (A V:Nat→Nat→Int) (i j a b:Nat):ci n A (cM V i j) a b=cM (ci n A V) i j a b:=by
  unfold ci cM
  by_cases e:b=i
  · simp only [if_pos e]
  · simp only [if_neg e]
    by_cases e2:b=j
    · simp only [if_pos e2]
    · simp only [if_neg e2]
theorem lP {n:Nat} (U B:Nat→Nat→Int) (i a b:Nat):ci n (db U i) B a b=db (ci n U B) i a b:=by
  unfold ci db
  by_cases e:a=i
  · simp only [if_pos e]
    rw [←nw];exact an fun x _=>by rw [Int.neg_mul]
  · simp only [if_neg e]
theorem qZ {n:Nat} (A V:Nat→Nat→Int) (i a b:Nat):ci n A (ek V i) a b=ek (ci n A V) i a b:=by
  unfold ci ek
  by_cases e:b=i
  · simp only [if_pos e]
    rw [←nw];exact an fun x _=>by rw [Int.mul_neg]
  · simp only [if_neg e]
structure Lin (r c:Nat) (M0:Nat→Nat→Int) (S:WS):Prop where
  eq:∀i j,i<r→j<c→S.M i j=ci r S.U M0 i j
  uv:∀i j,i<r→j<r→ci r S.U S.V i j=bH i j
  vu:∀i j,i<r→j<r→ci r S.V S.U i j=bH i j
section
variable {r c:Nat} {M0:Nat→Nat→Int} {S:WS}
theorem Lin.start (M0:Nat→Nat→Int):Lin r c M0 ⟨M0,bH,bH⟩:=
  ⟨fun i j hi _=>(jA M0 hi).symm,fun i j hi _=>jA bH hi,fun i j hi _=>jA bH hi⟩
theorem Lin.add (h:Lin r c M0 S) {i j:Nat} (k:Int) (hi:i<r) (hj:j<r) (hij:i≠j):Lin r c M0 (co S i j k):=by
  refine ⟨fun a b ha hb=> ?_,fun a b ha hb=> ?_,fun a b ha hb=> ?_⟩
  · show cL S.M i j k a b=ci r (cL S.U i j k) M0 a b
    rw [lQ];unfold cL;rw [h.eq i b hi hb,h.eq j b hj hb,h.eq a b ha hb]
  · show ci r (cL S.U i j k) (dz S.V i j k) a b=_
    rw [lQ];unfold cL;have e1:∀x,x<r→ci r S.U (dz S.V i j k) x b=dz bH i j k x b:=fun x hx=>by
      rw [qY];unfold dz;rw [h.uv x j hx hj,h.uv x i hx hi,h.uv x b hx hb]
    rw [e1 i hi,e1 j hj,e1 a ha]
    unfold dz bH
    by_cases c1:a=i
    · subst c1
      by_cases c2:b=j
      · subst c2;simp [hij];split<;>(simp_all<;>omega)
      · simp [c2];rw [if_neg (fun h=>c2 h.symm:¬j=b)];omega
    · by_cases c2:b=j
      · subst c2;simp [c1]
      · simp [c1,c2]
  · show ci r (dz S.V i j k) (cL S.U i j k) a b=_
    rw [←h.vu a b ha hb];have e1:ci r (dz S.V i j k) (cL S.U i j k) a b=aq r (fun x=>S.V a x*S.U x b + ((if x=i then (fun _=>k*(S.V a i*S.U j b)) x else 0) + (if x=j then (fun _=> -(k*(S.V a i*S.U j b))) x else 0))):=by
      refine an fun x _=> ?_
      unfold dz cL
      by_cases c1:x=i
      · subst c1
        simp [hij,Int.mul_add,Int.mul_left_comm]
      · by_cases c2:x=j
        · subst c2
          simp [c1,Int.sub_mul,Int.mul_assoc];omega
        · simp [c1,c2]
    rw [e1,eK,eK,eI hi,eI hj]
    unfold ci;omega
theorem vx {i j a b:Nat}:cj (cM bH i j) i j a b=bH a b:=by
  unfold cj cM bH
  by_cases h1:a=i<;>by_cases h2:a=j<;>by_cases h3:b=i<;>by_cases h4:b=j<;>simp_all
  all_goals (try split)<;>(try split)<;>simp_all<;>omega
theorem Lin.swap (h:Lin r c M0 S) {i j:Nat} (hi:i<r) (hj:j<r):Lin r c M0 (bk S i j):=by
  refine ⟨fun a b ha hb=> ?_,fun a b ha hb=> ?_,fun a b ha hb=> ?_⟩
  · show cj S.M i j a b=ci r (cj S.U i j) M0 a b
    rw [ky];unfold cj
    split
    · exact h.eq j b hj hb
    · split
      · exact h.eq i b hi hb
      · exact h.eq a b ha hb
  · show ci r (cj S.U i j) (cM S.V i j) a b=_
    rw [ky,←vx (i:=i) (j:=j)];have e1:∀x,x<r→ci r S.U (cM S.V i j) x b=cM bH i j x b:=fun x hx=>by
      rw [pf];unfold cM;rw [h.uv x j hx hj,h.uv x i hx hi,h.uv x b hx hb]
    unfold cj
    split
    · exact e1 j hj
    · split
      · exact e1 i hi
      · exact e1 a ha
  · show ci r (cM S.V i j) (cj S.U i j) a b=_
    rw [←h.vu a b ha hb]
    unfold ci
    rw [←qR (f:=fun x=>S.V a x*S.U x b) hi hj];refine an fun x _=> ?_
    unfold cM cj fz
    by_cases e1:x=i
    · simp [e1]
    · simp only [if_neg e1]
      by_cases e2:x=j
      · simp [e2]
      · simp [e2]
theorem Lin.neg (h:Lin r c M0 S) {i:Nat} (hi:i<r):Lin r c M0 (ei S i):=by
  refine ⟨fun a b ha hb=> ?_,fun a b ha hb=> ?_,fun a b ha hb=> ?_⟩
  · show db S.M i a b=ci r (db S.U i) M0 a b
    rw [lP];unfold db;rw [h.eq i b hi hb,h.eq a b ha hb]
  · show ci r (db S.U i) (ek S.V i) a b=_
    rw [lP];unfold db;have e1:∀x,x<r→ci r S.U (ek S.V i) x b=ek bH i x b:=fun x hx=>by
      rw [qZ];unfold ek;rw [h.uv x i hx hi,h.uv x b hx hb]
    rw [e1 i hi,e1 a ha]
    unfold ek bH
    by_cases c1:a=i<;>by_cases c2:b=i<;>simp_all
    rw [if_neg (fun h=>c2 h.symm:¬i=b)];rfl
  · show ci r (ek S.V i) (db S.U i) a b=_
    rw [←h.vu a b ha hb];refine an fun x _=> ?_
    unfold ek db
    by_cases e:x=i
    · simp [e,Int.neg_mul_neg]
    · simp [e]
theorem Lin.back (h:Lin r c M0 S) {i j:Nat} (hi:i<r) (hj:j<c):M0 i j=ci r S.V S.M i j:=by
  have h1:ci r S.V S.M i j=ci r S.V (ci r S.U M0) i j:=kz (fun _ _=>rfl) fun a ha=>h.eq a j ha hj
  rw [h1,←kA,kz (A':=bH) (B':=M0) (fun a ha=>h.vu i a hi ha) (fun _ _=>rfl),jA M0 hi]
end
end Go.TL
namespace Go.TL
set_option linter.unusedVariables false
def kq (S:WS) (top q a:Nat):Int:= -(S.M a q/S.M top q)
theorem mK (S:WS) (top q:Nat):∀n a c,(el S top q n).M a c=if top<a∧a≤top + n then S.M a c + kq S top q a*S.M top c else S.M a c
  | 0,a,c=>by rw [if_neg (by omega)];rfl
  | n + 1,a,c=>by
    have ih:=mK S top q n;simp only [el,co,cL]
    by_cases e:a=top + 1 + n
    · subst e
      rw [if_pos rfl,if_pos (by omega),ih,ih,ih,ih,if_neg (by omega),if_neg (by omega),if_neg (by omega),if_neg (by omega)];rfl
    · rw [if_neg e,ih]
      by_cases e2:top<a∧a≤top + n
      · rw [if_pos e2,if_pos (by omega)]
      · rw [if_neg e2,if_neg (by omega)]
theorem zC (S:WS) (top q:Nat):∀n a c,(el S top q n).U a c=if top<a∧a≤top + n then S.U a c + kq S top q a*S.U top c else S.U a c
  | 0,a,c=>by rw [if_neg (by omega)];rfl
  | n + 1,a,c=>by
    have ih:=zC S top q n;have im:=mK S top q n;simp only [el,co,cL]
    by_cases e:a=top + 1 + n
    · subst e
      rw [if_pos rfl,if_pos (by omega),ih,ih,im,im,if_neg (by omega),if_neg (by omega),if_neg (by omega),if_neg (by omega)];rfl
    · rw [if_neg e,ih]
      by_cases e2:top<a∧a≤top + n
      · rw [if_pos e2,if_pos (by omega)]
      · rw [if_neg e2,if_neg (by omega)]
theorem zB (S:WS) (top q:Nat):∀n a c,(el S top q n).V a c=if c=top then S.V a top - aq n (fun x=>kq S top q (top + 1 + x)*S.V a (top + 1 + x)) else S.V a c
  | 0,a,c=>by by_cases e:c=top<;>simp [el,aq,e]
  | n + 1,a,c=>by
    have ih:=zB S top q n;have im:=mK S top q n;simp only [el,co,dz]
    by_cases e:c=top
    · subst e
      rw [if_pos rfl,if_pos rfl,ih,ih,im,im,if_pos rfl,if_neg (by omega),if_neg (by omega),if_neg (by omega)];simp only [aq,kq];omega
    · rw [if_neg e,if_neg e,ih,if_neg e]
theorem lg (S:WS) (top q:Nat):∀n a c,n≤top→(ra S top q n).M a c=if a<n then S.M a c + kq S top q a*S.M top c else S.M a c
  | 0,a,c,_=>by rw [if_neg (by omega)];rfl
  | n + 1,a,c,hn=>by
    have ih:=fun a c=>lg S top q n a c (by omega)
    simp only [ra,co,cL]
    by_cases e:a=n
    · subst e
      rw [if_pos rfl,if_pos (by omega),ih,ih,ih,ih,if_neg (by omega),if_neg (by omega),if_neg (by omega),if_neg (by omega)];rfl
    · rw [if_neg e,ih]
      by_cases e2:a<n
      · rw [if_pos e2,if_pos (by omega)]
      · rw [if_neg e2,if_neg (by omega)]
theorem zq (S:WS) (top q:Nat):∀n a c,n≤top→(ra S top q n).U a c=if a<n then S.U a c + kq S top q a*S.U top c else S.U a c
  | 0,a,c,_=>by rw [if_neg (by omega)];rfl
  | n + 1,a,c,hn=>by
    have ih:=fun a c=>zq S top q n a c (by omega)
    have im:=fun a c=>lg S top q n a c (by omega)
    simp only [ra,co,cL]
    by_cases e:a=n
    · subst e
      rw [if_pos rfl,if_pos (by omega),ih,ih,im,im,if_neg (by omega),if_neg (by omega),if_neg (by omega),if_neg (by omega)];rfl
    · rw [if_neg e,ih]
      by_cases e2:a<n
      · rw [if_pos e2,if_pos (by omega)]
      · rw [if_neg e2,if_neg (by omega)]
theorem zp (S:WS) (top q:Nat):∀n a c,n≤top→(ra S top q n).V a c=if c=top then S.V a top - aq n (fun x=>kq S top q x*S.V a x) else S.V a c
  | 0,a,c,_=>by by_cases e:c=top<;>simp [ra,aq,e]
  | n + 1,a,c,hn=>by
    have ih:=fun a c=>zp S top q n a c (by omega)
    have im:=fun a c=>lg S top q n a c (by omega)
    simp only [ra,co,dz]
    by_cases e:c=top
    · subst e
      rw [if_pos rfl,if_pos rfl,ih,ih,im,im,if_pos rfl,if_neg (by omega),if_neg (by omega),if_neg (by omega)];simp only [aq,kq];omega
    · rw [if_neg e,if_neg e,ih,if_neg e]
theorem qT (S:WS) (p top q a c:Nat):(a≠top→(sn S p top q).M a c=if a=p then S.M top c else S.M a c)∧((sn S p top q).M top c).natAbs=(S.M p c).natAbs:=by
  have h0:∀c,(bk S p top).M top c=S.M p c:=fun c=>congrFun (lI S.M p top) c
  constructor
  · intro ha
    have h1:(bk S p top).M a c=if a=p then S.M top c else S.M a c:=by
      simp only [bk,cj]
      by_cases e:a=p
      · rw [if_pos e,if_pos e]
      · rw [if_neg e,if_neg ha,if_neg e]
    by_cases h:(bk S p top).M top q<0
    · rw [iS h,←h1];simp only [ei,db];rw [if_neg ha]
    · rw [iR h,←h1]
  · by_cases h:(bk S p top).M top q<0
    · rw [iS h];simp only [ei,db,if_true];rw [h0];omega
    · rw [iR h,h0]
theorem sI {r c:Nat} {S:WS} {p top q EM EU EV:Nat} (hp:p<r) (ht:top<r) (hM:∀i j,i<r→j<c→(S.M i j).natAbs≤EM) (hU:∀i j,i<r→j<r→(S.U i j).natAbs≤EU) (hV:∀i j,i<r→j<r→(S.V i j).natAbs≤EV):
    (∀i j,i<r→j<c→((sn S p top q).M i j).natAbs≤EM)∧(∀i j,i<r→j<r→((sn S p top q).U i j).natAbs≤EU)∧∀i j,i<r→j<r→((sn S p top q).V i j).natAbs≤EV:=by
  have h1:∀i j,i<r→j<c→((bk S p top).M i j).natAbs≤EM:=fun i j hi hj=>by
    simp only [bk,cj];split
    · exact hM _ _ ht hj
    · split
      · exact hM _ _ hp hj
      · exact hM _ _ hi hj
  have h2:∀i j,i<r→j<r→((bk S p top).U i j).natAbs≤EU:=fun i j hi hj=>by
    simp only [bk,cj];split
    · exact hU _ _ ht hj
    · split
      · exact hU _ _ hp hj
      · exact hU _ _ hi hj
  have h3:∀i j,i<r→j<r→((bk S p top).V i j).natAbs≤EV:=fun i j hi hj=>by
    simp only [bk,cM];split
    · exact hV _ _ hi ht
    · split
      · exact hV _ _ hi hp
      · exact hV _ _ hi hj
  by_cases h:(bk S p top).M top q<0
  · rw [iS h]
    refine ⟨fun i j hi hj=> ?_,fun i j hi hj=> ?_,fun i j hi hj=> ?_⟩
    · simp only [ei,db];split
      · rename_i e;subst e;rw [Int.natAbs_neg];exact h1 _ _ hi hj
      · exact h1 _ _ hi hj
    · simp only [ei,db];split
      · rename_i e;subst e;rw [Int.natAbs_neg];exact h2 _ _ hi hj
      · exact h2 _ _ hi hj
    · simp only [ei,ek];split
      · rename_i e;subst e;rw [Int.natAbs_neg];exact h3 _ _ hi hj
      · exact h3 _ _ hi hj
  · rw [iR h];exact ⟨h1,h2,h3⟩
theorem fL {x y k:Int} {E K:Nat} (hx:x.natAbs≤E) (hy:y.natAbs≤E) (hk:k.natAbs≤K):(x + k*y).natAbs≤E*(1 + K):=by
  have h1:=Int.natAbs_add_le x (k*y);rw [Int.natAbs_mul] at h1;have h2:=Nat.mul_le_mul hk hy;rw [Nat.mul_add,Nat.mul_one,Nat.mul_comm E K];omega
theorem pY {x:Int} {f:Nat→Int} {E K n R:Nat} (hx:x.natAbs≤E) (hf:∀i,i<n→(f i).natAbs≤K*E) (hn:n≤R):(x - aq n f).natAbs≤E*(1 + R*K):=by
  have h1:=nz hf;have h2:n*(K*E)≤R*(K*E):=Nat.mul_le_mul_right _ hn;have h3:E*(1 + R*K)=E + R*(K*E):=by rw [Nat.mul_add,Nat.mul_one,Nat.mul_left_comm,Nat.mul_comm E K]
  omega
theorem zA {r c:Nat} {S:WS} {top q n EM EU EV K:Nat} (ht:top<r) (hn:top + n<r) (h7:n≤7) (hK:∀a,top<a→a<r→(kq S top q a).natAbs≤K) (hM:∀i j,i<r→j<c→(S.M i j).natAbs≤EM) (hU:∀i j,i<r→j<r→(S.U i j).natAbs≤EU) (hV:∀i j,i<r→j<r→(S.V i j).natAbs≤EV):
    (∀i j,i<r→j<c→((el S top q n).M i j).natAbs≤EM*(1 + K))∧(∀i j,i<r→j<r→((el S top q n).U i j).natAbs≤EU*(1 + K))∧∀i j,i<r→j<r→((el S top q n).V i j).natAbs≤EV*(1 + 7*K):=by
  have hle:∀E L:Nat,E≤E*(1 + L):=fun E L=>by rw [Nat.mul_add,Nat.mul_one];omega
  refine ⟨fun i j hi hj=> ?_,fun i j hi hj=> ?_,fun i j hi hj=> ?_⟩
  · rw [mK];split
    · rename_i h;exact fL (hM _ _ hi hj) (hM _ _ ht hj) (hK i h.1 hi)
    · exact Nat.le_trans (hM _ _ hi hj) (hle _ _)
  · rw [zC];split
    · rename_i h;exact fL (hU _ _ hi hj) (hU _ _ ht hj) (hK i h.1 hi)
    · exact Nat.le_trans (hU _ _ hi hj) (hle _ _)
  · rw [zB];split
    · exact pY (hV _ _ hi ht) (fun x hx=>by rw [Int.natAbs_mul];exact Nat.mul_le_mul (hK _ (by omega) (by omega)) (hV _ _ hi (by omega))) h7
    · exact Nat.le_trans (hV _ _ hi hj) (hle _ _)
theorem wU {r c:Nat} {S:WS} {top q n EM EU EV K:Nat} (ht:top<r) (hn:n≤top) (h7:n≤7) (hK:∀a,a<top→(kq S top q a).natAbs≤K) (hM:∀i j,i<r→j<c→(S.M i j).natAbs≤EM) (hU:∀i j,i<r→j<r→(S.U i j).natAbs≤EU) (hV:∀i j,i<r→j<r→(S.V i j).natAbs≤EV):
    (∀i j,i<r→j<c→((ra S top q n).M i j).natAbs≤EM*(1 + K))∧(∀i j,i<r→j<r→((ra S top q n).U i j).natAbs≤EU*(1 + K))∧∀i j,i<r→j<r→((ra S top q n).V i j).natAbs≤EV*(1 + 7*K):=by
  have hle:∀E L:Nat,E≤E*(1 + L):=fun E L=>by rw [Nat.mul_add,Nat.mul_one];omega
  refine ⟨fun i j hi hj=> ?_,fun i j hi hj=> ?_,fun i j hi hj=> ?_⟩
  · rw [lg _ _ _ _ _ _ hn];split
    · rename_i h;exact fL (hM _ _ hi hj) (hM _ _ ht hj) (hK i (by omega))
    · exact Nat.le_trans (hM _ _ hi hj) (hle _ _)
  · rw [zq _ _ _ _ _ _ hn];split
    · rename_i h;exact fL (hU _ _ hi hj) (hU _ _ ht hj) (hK i (by omega))
    · exact Nat.le_trans (hU _ _ hi hj) (hle _ _)
  · rw [zp _ _ _ _ _ _ hn];split
    · exact pY (hV _ _ hi ht) (fun x hx=>by rw [Int.natAbs_mul];exact Nat.mul_le_mul (hK _ (by omega)) (hV _ _ hi (by omega))) h7
    · exact Nat.le_trans (hV _ _ hi hj) (hle _ _)
section
variable {r c:Nat} {M0:Nat→Nat→Int} {S:WS}
theorem Lin.sn (h:Lin r c M0 S) {p top:Nat} (q:Nat) (hp:p<r) (ht:top<r):Lin r c M0 (sn S p top q):=by
  by_cases hn:(bk S p top).M top q<0
  · rw [iS hn];exact (h.swap hp ht).neg ht
  · rw [iR hn];exact h.swap hp ht
theorem Lin.el (h:Lin r c M0 S) {top:Nat} (q:Nat) (ht:top<r):∀n,top + n<r→Lin r c M0 (el S top q n)
  | 0,_=>h
  | n + 1,hn=>(Lin.el h q ht n (by omega)).add _ (by omega) ht (by omega)
theorem Lin.ra (h:Lin r c M0 S) {top:Nat} (q:Nat) (ht:top<r):∀n,n≤top→Lin r c M0 (ra S top q n)
  | 0,_=>h
  | n + 1,hn=>(Lin.ra h q ht n (by omega)).add _ (by omega) ht (by omega)
end
theorem Ae {k x y u:Nat} (hk:1≤k) (hky:k*y≤x) (hu:u≤y) (hx:u + y≤x):(1 + k)*y*u≤x*x:=by
  by_cases h1:k=1
  · subst h1
    have h2:(u + y)*(u + y)≤x*x:=Nat.mul_le_mul hx hx;have h3:(u + y)*(u + y)=u*u + u*y + (y*u + y*y):=by rw [Nat.add_mul,Nat.mul_add,Nat.mul_add]
    have h4:(1 + 1)*y*u=y*u + y*u:=by rw [Nat.mul_assoc];omega
    have h5:u*y=y*u:=Nat.mul_comm _ _;omega
  · have h2:(1 + k)*y*u≤(1 + k)*y*y:=Nat.mul_le_mul_left _ hu
    have h3:k*y*(k*y)≤x*x:=Nat.mul_le_mul hky hky;have h4:1 + k≤k*k:=by
      have:2*k≤k*k:=Nat.mul_le_mul_right _ (by omega);omega
    have h5:(1 + k)*(y*y)≤k*k*(y*y):=Nat.mul_le_mul_right _ h4;have h6:(1 + k)*y*y=(1 + k)*(y*y):=Nat.mul_assoc _ _ _;have h7:k*y*(k*y)=k*k*(y*y):=by ac_rfl
    omega
theorem zO (y u:Nat):∀n,y^n*(y + (n + 1)*u)≤(y + u)^(n + 1)
  | 0=>by simp
  | n + 1=>by
    have h1:=Nat.mul_le_mul_right (y + u) (zO y u n);rw [Nat.pow_succ (y + u) (n + 1)];refine Nat.le_trans ?_ h1;rw [Nat.pow_succ,Nat.mul_assoc,Nat.mul_assoc];refine Nat.mul_le_mul_left _ ?_;have e1:(y + (n + 1)*u)*(y + u)=y*y + (n + 1 + 1)*(y*u) + (n + 1)*(u*u):=by
      rw [Nat.add_mul,Nat.mul_add,Nat.mul_add,Nat.add_mul (n + 1) 1 (y*u),Nat.one_mul,Nat.mul_assoc,Nat.mul_assoc,Nat.mul_comm u y];omega
    have e2:y*(y + (n + 1 + 1)*u)=y*y + (n + 1 + 1)*(y*u):=by
      rw [Nat.mul_add,Nat.mul_left_comm]
    omega
theorem Ad {k x y u:Nat} (hk:1≤k) (hky:k*y≤x) (hu:u≤y) (hx:u + y≤x):(1 + 7*k)*y^6*u≤x^7:=by
  by_cases h1:k=1
  · subst h1
    have h2:y^6*(y + (6 + 1)*u)≤(y + u)^7:=zO y u 6;have h3:(y + u)^7≤x^7:=Nat.pow_le_pow_left (by omega) 7;have h4:(1 + 7*1)*y^6*u=y^6*(u + 7*u):=by rw [Nat.mul_assoc,Nat.mul_left_comm];congr 1;omega
    have h5:y^6*(u + 7*u)≤y^6*(y + (6 + 1)*u):=Nat.mul_le_mul_left _ (by omega);omega
  · have h2:(1 + 7*k)*y^6*u≤(1 + 7*k)*y^6*y:=Nat.mul_le_mul_left _ hu
    have h3:(k*y)^7≤x^7:=Nat.pow_le_pow_left hky 7;rw [Nat.mul_pow] at h3;have h4:1 + 7*k≤k^7:=by
      have h5:2^6≤k^6:=Nat.pow_le_pow_left (by omega) 6;have h6:2^6*k≤k^6*k:=Nat.mul_le_mul_right _ h5;have h7:k^7=k^6*k:=Nat.pow_succ k 6;have h8:(2:Nat)^6=64:=by decide
      omega
    have h5:(1 + 7*k)*y^7≤k^7*y^7:=Nat.mul_le_mul_right _ h4;have h6:(1 + 7*k)*y^6*y=(1 + 7*k)*y^7:=by rw [Nat.mul_assoc,←Nat.pow_succ]
    omega
theorem mJ {x y:Int} (hy:0<y):(-(x/y)).natAbs≤x.natAbs:=by
  rw [Int.natAbs_neg];have h1:=Int.ediv_mul_le x (show y≠0 by omega);have h2:=Int.lt_ediv_add_one_mul_self x hy
  by_cases h:0≤x
  · have h3:0≤x/y:=Int.ediv_nonneg h (by omega)
    have h4:x/y*1≤x/y*y:=Int.mul_le_mul_of_nonneg_left (by omega) h3;omega
  · have h3:x/y<0:=Int.ediv_neg_of_neg_of_pos (by omega) hy
    by_cases h5:x/y<x
    · have h6:(x/y + 1)*y≤(x/y + 1)*1:=by
        have h7:x/y + 1≤0:=by omega
        have:=Int.mul_le_mul_of_nonpos_left (a:=x/y + 1) (b:=y) (c:=1) h7 (by omega);exact this
      omega
    · omega
theorem qo {x:Nat→Int} {top:Nat}:∀{n:Nat},(bn x top n).2=true→∃i j,i≠j∧top≤i∧i<top + n∧top≤j∧j<top + n∧x i≠0∧x j≠0
  | 0,h=>by simp [bn] at h
  | n + 1,h=>by
    by_cases hz:x (top + n)=0
    · rw [qn hz] at h
      obtain ⟨i,j,h1,h2,h3,h4,h5,h6⟩:=qo h;exact ⟨i,j,h1,h2,by omega,h4,by omega,h6⟩
    · have hb:0≤(bn x top n).1:=by
        by_cases hc:(bn x top n).1<0∨(x (top + n)).natAbs<(x (bn x top n).1.toNat).natAbs
        · rw [qp hz hc] at h;simpa using h
        · rw [qq hz hc] at h;simpa using h
      obtain ⟨h1,h2,h3,_⟩:=eP hb;exact ⟨_,top + n,by omega,h1,by omega,by omega,by omega,h3,hz⟩
end Go.TL
