/-
  Lemmas towards the theorem of this claim (part 6).
  Conditions: those that each theorem names.
-/
import Derived.Test.YtknbpehdcgamaaaGreatPD5
namespace Go.TL
set_option linter.unusedVariables false
def lS (r top q:Nat) (M:Nat→Nat→Int):Prop:=∃P:Nat→Nat,(∀i,i<top→P i<q∧0<M i (P i)∧(∀j,j<P i→M i j=0)∧∀k,k<i→P k<P i∧0≤M k (P i)∧M k (P i)<M i (P i))∧
  ∀a,top≤a→a<r→∀j,j<q→M a j=0
def eB (e0:Nat):Nat→Nat
  | 0=>e0
  | t + 1=>6*eB e0 t + 2
def gB (e0:Nat):Nat→Nat
  | 0=>0
  | t + 1=>gB e0 t + 10*eB e0 t + 6
structure FI (r c e0:Nat) (M0:Nat→Nat→Int) (top q:Nat) (S:WS):Prop where
  lin:Lin r c M0 S
  ech:lS r top q S.M
  bm:∀i j,i<r→j<c→(S.M i j).natAbs≤2^eB e0 top
  bu:∀i j,i<r→j<r→(S.U i j).natAbs≤2^eB e0 top
  bv:∀i j,i<r→j<r→(S.V i j).natAbs≤2^gB e0 top
structure JI (r c e0:Nat) (M0:Nat→Nat→Int) (top q m:Nat) (S:WS):Prop where
  lin:Lin r c M0 S
  ech:lS r top q S.M
  above:∀i,i<top→(S.M i q).natAbs≤2^eB e0 top
  run:∃a b u:Nat,(∀i j,i<r→j<c→(S.M i j).natAbs≤2^eB e0 top*a)∧(∀i j,i<r→j<r→(S.U i j).natAbs≤2^eB e0 top*a)∧(∀i j,i<r→j<r→(S.V i j).natAbs≤2^gB e0 top*b)∧
    ((a=1∧b=1∧m=2^eB e0 top + 2∧∀i,top≤i→i<r→(S.M i q).natAbs≤2^eB e0 top)∨
     (0<m∧S.M top q=(m:Int)∧m≤2^eB e0 top∧(∀i,top<i→i<r→0≤S.M i q∧S.M i q<(m:Int)∧S.M i q≤(u:Int))∧1≤u∧
      a*(m*m)*u≤(1 + 2^eB e0 top)*(2^eB e0 top)^3∧b*m^7*u≤(1 + 7*2^eB e0 top)*(2^eB e0 top)^8))
section
variable {r c e0:Nat} {M0:Nat→Nat→Int} {top q m:Nat} {S:WS}
theorem kt (e0:Nat):∀{s t:Nat},s≤t→eB e0 s≤eB e0 t
  | s,0,h=>by rw [show s=0 by omega];exact Nat.le_refl _
  | s,t + 1,h=>by
    by_cases e:s=t + 1
    · rw [e];exact Nat.le_refl _
    · have:=kt e0 (s:=s) (t:=t) (by omega);simp only [eB];omega
theorem qA (e0:Nat):∀{s t:Nat},s≤t→gB e0 s≤gB e0 t
  | s,0,h=>by rw [show s=0 by omega];exact Nat.le_refl _
  | s,t + 1,h=>by
    by_cases e:s=t + 1
    · rw [e];exact Nat.le_refl _
    · have:=qA e0 (s:=s) (t:=t) (by omega);simp only [gB];omega
theorem ql (e:Nat):2^e*((1 + 2^e)*(2^e)^3)*(1 + 2^e)≤2^(6*e + 2):=by
  have h0:0<2^e:=Nat.two_pow_pos e;have h1:1 + 2^e≤2*2^e:=by omega
  have h2:2^(6*e + 2)=2^e*(2*2^e*(2^e)^3)*(2*2^e):=by
    have:2^(6*e + 2)=(2^e)^6*4:=by rw [Nat.pow_add,Nat.mul_comm 6 e,Nat.pow_mul]
    rw [this]
    generalize 2^e=x
    simp only [Nat.pow_succ,Nat.pow_zero,Nat.one_mul];rw [show (4:Nat)=2*2 by decide]
    ac_rfl
  rw [h2];exact Nat.mul_le_mul (Nat.mul_le_mul_left _ (Nat.mul_le_mul_right _ h1)) h1
theorem xu (g e:Nat):2^g*((1 + 7*2^e)*(2^e)^8)*(1 + 7*2^e)≤2^(g + 10*e + 6):=by
  have h0:0<2^e:=Nat.two_pow_pos e;have h1:1 + 7*2^e≤8*2^e:=by omega
  have h2:2^(g + 10*e + 6)=2^g*(8*2^e*(2^e)^8)*(8*2^e):=by
    have:2^(g + 10*e + 6)=2^g*(2^e)^10*64:=by rw [Nat.pow_add,Nat.pow_add,Nat.mul_comm 10 e,Nat.pow_mul]
    rw [this]
    generalize 2^e=x
    simp only [Nat.pow_succ,Nat.pow_zero,Nat.one_mul];rw [show (64:Nat)=8*8 by decide]
    ac_rfl
  rw [h2];exact Nat.mul_le_mul (Nat.mul_le_mul_left _ (Nat.mul_le_mul_right _ h1)) h1
theorem FI.start (hM:∀i j,i<r→j<c→(M0 i j).natAbs≤2^e0):FI r c e0 M0 0 0 ⟨M0,dA,dA⟩:=by
  have hid:∀(e i j:Nat),(dA i j).natAbs≤2^e:=fun e i j=>by
    have:=Nat.two_pow_pos e
    unfold dA;split<;>simp<;>omega
  exact ⟨Lin.start M0,⟨fun _=>0,fun i hi=>by omega,fun a _ _ j hj=>by omega⟩,hM,fun i j _ _=>hid _ i j,fun i j _ _=>hid _ i j⟩
theorem JI.of (h:FI r c e0 M0 top q S) (ht:top<r) (hq:q<c):JI r c e0 M0 top q (2^eB e0 top + 2) S:=
  ⟨h.lin,h.ech,fun i hi=>h.bm i q (by omega) hq,1,1,0,fun i j hi hj=>by rw [Nat.mul_one];exact h.bm i j hi hj,fun i j hi hj=>by rw [Nat.mul_one];exact h.bu i j hi hj,fun i j hi hj=>by rw [Nat.mul_one];exact h.bv i j hi hj,.inl ⟨rfl,rfl,rfl,fun i _ hi=>h.bm i q hi hq⟩⟩
theorem lS.sn (h:lS r top q S.M) {p:Nat} (hp:p<r) (hpt:top≤p) (ht:top<r):lS r top q (TL.sn S p top q).M:=by
  obtain ⟨P,h1,h2⟩:=h;have hlow:∀i,i<top→∀j,(TL.sn S p top q).M i j=S.M i j:=fun i hi j=>by
    rw [(rp S p top q i j).1 (by omega),if_neg (by omega)]
  refine ⟨P,fun i hi=> ?_,fun a ha har j hj=> ?_⟩
  · obtain ⟨g1,g2,g3,g4⟩:=h1 i hi
    refine ⟨g1,by rw [hlow i hi];exact g2,fun j hj=>by rw [hlow i hi];exact g3 j hj,fun k hk=> ?_⟩;rw [hlow i hi,hlow k (by omega)];exact g4 k hk
  · by_cases e:a=top
    · subst e
      have:=(rp S p a q a j).2;rw [h2 p hpt hp j hj] at this;omega
    · rw [(rp S p top q a j).1 e];split
      · exact h2 top (Nat.le_refl _) ht j hj
      · exact h2 a ha har j hj
theorem lS.el (h:lS r top q S.M) (ht:top<r) {n:Nat}:lS r top q (TL.el S top q n).M:=by
  obtain ⟨P,h1,h2⟩:=h;have hlow:∀i,i<top→∀j,(TL.el S top q n).M i j=S.M i j:=fun i hi j=>by rw [na,if_neg (by omega)]
  refine ⟨P,fun i hi=> ?_,fun a ha har j hj=> ?_⟩
  · obtain ⟨g1,g2,g3,g4⟩:=h1 i hi
    refine ⟨g1,by rw [hlow i hi];exact g2,fun j hj=>by rw [hlow i hi];exact g3 j hj,fun k hk=> ?_⟩;rw [hlow i hi,hlow k (by omega)];exact g4 k hk
  · rw [na,h2 a ha har j hj,h2 top (Nat.le_refl _) ht j hj];simp
theorem lead (hp:0≤(bK (fun a=>S.M a q) top (r - top)).1) (ht:top<r):top≤(bK (fun a=>S.M a q) top (r - top)).1.toNat∧(bK (fun a=>S.M a q) top (r - top)).1.toNat<r∧S.M (bK (fun a=>S.M a q) top (r - top)).1.toNat q≠0∧
    (∀i,top≤i→i<r→S.M i q≠0→(S.M (bK (fun a=>S.M a q) top (r - top)).1.toNat q).natAbs≤(S.M i q).natAbs)∧((bK (fun a=>S.M a q) top (r - top)).2=false→∀i,top≤i→i<r→i≠(bK (fun a=>S.M a q) top (r - top)).1.toNat→S.M i q=0):=by
  obtain ⟨h1,h2,h3,h4,h5⟩:=eZ (x:=fun a=>S.M a q) (top:=top) (n:=r - top) hp;exact ⟨h1,by omega,h3,fun i hi hr hz=>h4 i hi (by omega) hz,fun ho i hi hr hne=>h5 ho i hi (by omega) hne⟩
theorem JI.round (h:JI r c e0 M0 top q m S) (ht:top<r) (hq:q<c) (h8:r≤8) (hp:0≤(bK (fun a=>S.M a q) top (r - top)).1) (ho:(bK (fun a=>S.M a q) top (r - top)).2=true):
    ∃m2,m2<m∧JI r c e0 M0 top q m2 (el (sn S (bK (fun a=>S.M a q) top (r - top)).1.toNat top q) top q (r - top - 1))∧
      ∀n,top + 1 + n<r→(∀i j,i<r→j<c→((el (sn S (bK (fun a=>S.M a q) top (r - top)).1.toNat top q) top q (n + 1)).M i j).natAbs≤2^eB e0 (top + 1))∧
        (∀i j,i<r→j<r→((el (sn S (bK (fun a=>S.M a q) top (r - top)).1.toNat top q) top q (n + 1)).U i j).natAbs≤2^eB e0 (top + 1))∧
        ∀i j,i<r→j<r→((el (sn S (bK (fun a=>S.M a q) top (r - top)).1.toNat top q) top q (n + 1)).V i j).natAbs≤2^gB e0 (top + 1):=by
  obtain ⟨hl1,hl2,hl3,hl4,_⟩:=lead hp ht;obtain ⟨i1,i2,hi12,hi1,hi1r,hi2,hi2r,hz1,hz2⟩:=qs (x:=fun a=>S.M a q) (top:=top) (n:=r - top) ho
  generalize hpe:(bK (fun a=>S.M a q) top (r - top)).1.toNat=p at*
  have hE0:0<2^eB e0 top:=Nat.two_pow_pos _;obtain ⟨a,b,u,hM,hU,hV,hc⟩:=h.run;have htop:=jg S p top q;obtain ⟨hM2,hU2,hV2⟩:=sW (q:=q) hl2 ht hM hU hV;have hlin:=h.lin.sn q hl2 ht;have hech:=h.ech.sn (q:=q) hl2 hl1 ht;have hcol:∀i,i≠top→(sn S p top q).M i q=if i=p then S.M top q else S.M i q:=fun i hi=>(rp S p top q i q).1 hi
  have hab:∀i,i<top→((sn S p top q).M i q).natAbs≤2^eB e0 top:=fun i hi=>by rw [hcol i (by omega),if_neg (by omega)];exact h.above i hi
  generalize sn S p top q=S2 at*
  generalize hy:(S.M p q).natAbs=y at*
  have hy0:0<y:=by omega
  have key:∃K a' b' u':Nat,(∀i,top<i→i<r→(kq S2 top q i).natAbs≤K)∧y<m∧y≤2^eB e0 top∧(∀i,top<i→i<r→S2.M i q % (y:Int)≤(u':Int))∧1≤u'∧a'=a*(1 + K)∧b'=b*(1 + 7*K)∧
      a'*(y*y)*u'≤(1 + 2^eB e0 top)*(2^eB e0 top)^3∧b'*y^7*u'≤(1 + 7*2^eB e0 top)*(2^eB e0 top)^8:=by
    rcases hc with ⟨ha1,hb1,hm,hcE⟩ | ⟨hm0,hmt,hmE,hoth,hu1,hpa,hpb⟩
    · have hyE:y≤2^eB e0 top:=by rw [←hy];exact hcE p hl1 hl2
      refine ⟨2^eB e0 top,_,_,y,fun i hi hir=> ?_,by omega,hyE,fun i hi hir=> ?_,by omega,rfl,rfl,?_,?_⟩
      · unfold kq
        rw [htop];refine Nat.le_trans (mZ (by omega)) ?_;rw [hcol i (by omega)];split
        · exact hcE top (Nat.le_refl _) ht
        · exact hcE i (by omega) hir
      · have:=Int.emod_lt_of_pos (S2.M i q) (show (0:Int)<y by omega);omega
      · subst ha1
        rw [Nat.one_mul,Nat.mul_assoc];refine Nat.mul_le_mul_left _ ?_;have:y*y*y≤2^eB e0 top*2^eB e0 top*2^eB e0 top:=Nat.mul_le_mul (Nat.mul_le_mul hyE hyE) hyE;simp only [Nat.pow_succ,Nat.pow_zero,Nat.one_mul];exact this
      · subst hb1
        rw [Nat.one_mul,Nat.mul_assoc];refine Nat.mul_le_mul_left _ ?_;rw [←Nat.pow_succ];exact Nat.pow_le_pow_left hyE 8
    ·
      have hex:∃i,top<i∧i<r∧S.M i q≠0:=by
        by_cases e:i1=top
        · exact ⟨i2,by omega,by omega,hz2⟩
        · exact ⟨i1,by omega,by omega,hz1⟩
      obtain ⟨i,hi,hir,hiz⟩:=hex;have hio:=hoth i hi hir;have hyi:y≤(S.M i q).natAbs:=hl4 i (by omega) hir hiz;have hym:y<m:=by omega
      have hyu:y≤u:=by omega
      have hpt:p≠top:=by intro e;subst e;omega
      have hrange:∀i,top<i→i<r→0≤S2.M i q∧S2.M i q≤(m:Int)∧(S2.M i q≠0→(y:Int)≤S2.M i q):=fun i hi hir=>by
        rw [hcol i (by omega)];split
        · exact ⟨by omega,by omega,fun _=>by omega⟩
        · have h1:=hoth i hi hir
          exact ⟨h1.1,by omega,fun hz=>by have:=hl4 i (by omega) hir hz;omega⟩
      have hk1:1≤m/y:=Nat.div_pos (by omega) hy0;have hky:m/y*y≤m:=Nat.div_mul_le_self _ _;refine ⟨m/y,_,_,min y (m - y),fun i hi hir=> ?_,hym,by omega,fun i hi hir=> ?_,by omega,rfl,rfl,?_,?_⟩
      · obtain ⟨g1,g2,_⟩:=hrange i hi hir
        unfold kq
        rw [htop,Int.natAbs_neg];have e1:S2.M i q=((S2.M i q).toNat:Int):=by omega
        rw [e1,←Int.natCast_ediv,Int.natAbs_natCast];exact Nat.div_le_div_right (by omega)
      · obtain ⟨g1,g2,g3⟩:=hrange i hi hir
        have h1:=Int.emod_lt_of_pos (S2.M i q) (show (0:Int)<y by omega)
        by_cases hz:S2.M i q=0
        · rw [hz,Int.zero_emod];omega
        · have h2:=g3 hz
          have h3:S2.M i q % (y:Int)≤S2.M i q - y:=by
            have h4:=Int.mul_ediv_add_emod (S2.M i q) (y:Int);have h5:1≤S2.M i q/(y:Int):=by
              rw [Int.le_ediv_iff_mul_le (by omega)];omega
            have h6:(y:Int)*1≤(y:Int)*(S2.M i q/(y:Int)):=Int.mul_le_mul_of_nonneg_left h5 (by omega);omega
          omega
      · have h1:=A3 hk1 hky (Nat.min_le_left y (m - y)) (by have:=Nat.min_le_right y (m - y);omega)
        have h2:a*(1 + m/y)*(y*y)*min y (m - y)=a*((1 + m/y)*y*min y (m - y))*y:=by ac_rfl
        rw [h2];refine Nat.le_trans ?_ hpa;exact Nat.mul_le_mul (Nat.mul_le_mul_left _ h1) hyu
      · have h1:=A1 hk1 hky (Nat.min_le_left y (m - y)) (by have:=Nat.min_le_right y (m - y);omega)
        have h2:b*(1 + 7*(m/y))*y^7*min y (m - y)=b*((1 + 7*(m/y))*y^6*min y (m - y))*y:=by
          rw [Nat.pow_succ y 6];ac_rfl
        rw [h2];refine Nat.le_trans ?_ hpb;exact Nat.mul_le_mul (Nat.mul_le_mul_left _ h1) hyu
  obtain ⟨K,a',b',u',hK,hym,hyE,hres,hu',ha',hb',hpa,hpb⟩:=key;have hbd:=fun n (hn:top + n<r)=>Au (n:=n) ht hn (by omega) hK hM2 hU2 hV2
  have ha1:a'≤(1 + 2^eB e0 top)*(2^eB e0 top)^3:=by
    refine Nat.le_trans ?_ hpa;rw [Nat.mul_assoc];exact Nat.le_mul_of_pos_right _ (Nat.mul_pos (Nat.mul_pos hy0 hy0) hu')
  have hb1:b'≤(1 + 7*2^eB e0 top)*(2^eB e0 top)^8:=by
    refine Nat.le_trans ?_ hpb;rw [Nat.mul_assoc];exact Nat.le_mul_of_pos_right _ (Nat.mul_pos (Nat.pow_pos hy0) hu')
  have hmul:∀E:Nat,E*a*(1 + K)=E*a':=fun E=>by rw [ha',Nat.mul_assoc]
  have hmulb:∀E:Nat,E*b*(1 + 7*K)=E*b':=fun E=>by rw [hb',Nat.mul_assoc]
  have hone:∀x:Nat,x≤x*(1 + 2^eB e0 top):=fun x=>Nat.le_mul_of_pos_right _ (by omega)
  have honeg:∀x:Nat,x≤x*(1 + 7*2^eB e0 top):=fun x=>Nat.le_mul_of_pos_right _ (by omega)
  refine ⟨y,hym,⟨hlin.el q ht _ (by omega),hech.el ht,fun i hi=>by rw [na,if_neg (by omega)];exact hab i hi,a',b',u',?_,?_,?_,.inr ⟨hy0,by rw [na,if_neg (by omega)];exact htop,hyE,fun i hi hir=> ?_,hu',hpa,hpb⟩⟩,fun n hn=>⟨?_,?_,?_⟩⟩
  · intro i j hi hj;rw [←hmul];exact (hbd _ (by omega)).1 i j hi hj
  · intro i j hi hj;rw [←hmul];exact (hbd _ (by omega)).2.1 i j hi hj
  · intro i j hi hj;rw [←hmulb];exact (hbd _ (by omega)).2.2 i j hi hj
  · have e1:(el S2 top q (r - top - 1)).M i q=S2.M i q % (y:Int):=by
      rw [na,if_pos (by omega)]
      unfold kq
      rw [htop];have:=Int.mul_ediv_add_emod (S2.M i q) (y:Int);rw [Int.neg_mul,Int.mul_comm (S2.M i q/(y:Int))];omega
    rw [e1];exact ⟨Int.emod_nonneg _ (by omega),Int.emod_lt_of_pos _ (by omega),hres i hi hir⟩
  · intro i j hi hj
    refine Nat.le_trans ((hbd (n + 1) (by omega)).1 i j hi hj) ?_;rw [hmul];refine Nat.le_trans (Nat.mul_le_mul_left _ ha1) (Nat.le_trans (hone _) ?_);exact ql (eB e0 top)
  · intro i j hi hj
    refine Nat.le_trans ((hbd (n + 1) (by omega)).2.1 i j hi hj) ?_;rw [hmul];refine Nat.le_trans (Nat.mul_le_mul_left _ ha1) (Nat.le_trans (hone _) ?_);exact ql (eB e0 top)
  · intro i j hi hj
    refine Nat.le_trans ((hbd (n + 1) (by omega)).2.2 i j hi hj) ?_;rw [hmulb];refine Nat.le_trans (Nat.mul_le_mul_left _ hb1) (Nat.le_trans (honeg _) ?_);exact xu (gB e0 top) (eB e0 top)
theorem JI.none (h:JI r c e0 M0 top q m S) (ht:top<r) (hn:(bK (fun a=>S.M a q) top (r - top)).1<0):FI r c e0 M0 top (q + 1) S:=by
  have hz:=(iO (x:=fun a=>S.M a q) hn).2;obtain ⟨a,b,u,hM,hU,hV,hc⟩:=h.run;rcases hc with ⟨ha1,hb1,_,_⟩ | ⟨hm0,hmt,_⟩
  · subst ha1;subst hb1
    simp only [Nat.mul_one] at hM hU hV;refine ⟨h.lin,?_,hM,hU,hV⟩;obtain ⟨P,h1,h2⟩:=h.ech;refine ⟨P,fun i hi=> ?_,fun a ha har j hj=> ?_⟩
    · obtain ⟨g1,g2⟩:=h1 i hi;exact ⟨by omega,g2⟩
    · by_cases e:j=q
      · subst e;exact hz a ha (by omega)
      · exact h2 a ha har j (by omega)
  · have:S.M top q=0:=hz top (Nat.le_refl _) (by omega)
    omega
theorem JI.pivot (h:JI r c e0 M0 top q m S) (ht:top<r) (hq:q<c) (h8:r≤8) (hp:0≤(bK (fun a=>S.M a q) top (r - top)).1) (ho:(bK (fun a=>S.M a q) top (r - top)).2=false):
    (∀n,n≤top→(∀i j,i<r→j<c→((ra (sn S (bK (fun a=>S.M a q) top (r - top)).1.toNat top q) top q n).M i j).natAbs≤2^eB e0 (top + 1))∧
        (∀i j,i<r→j<r→((ra (sn S (bK (fun a=>S.M a q) top (r - top)).1.toNat top q) top q n).U i j).natAbs≤2^eB e0 (top + 1))∧
        ∀i j,i<r→j<r→((ra (sn S (bK (fun a=>S.M a q) top (r - top)).1.toNat top q) top q n).V i j).natAbs≤2^gB e0 (top + 1))∧
      FI r c e0 M0 (top + 1) (q + 1) (ra (sn S (bK (fun a=>S.M a q) top (r - top)).1.toNat top q) top q top):=by
  obtain ⟨hl1,hl2,hl3,hl4,hl5⟩:=lead hp ht;replace hl5:=hl5 ho
  generalize hpe:(bK (fun a=>S.M a q) top (r - top)).1.toNat=p at*
  have hE0:0<2^eB e0 top:=Nat.two_pow_pos _;obtain ⟨a,b,u,hM,hU,hV,hc⟩:=h.run;have hab1:a≤(1 + 2^eB e0 top)*(2^eB e0 top)^3∧b≤(1 + 7*2^eB e0 top)*(2^eB e0 top)^8:=by
    rcases hc with ⟨ha1,hb1,_⟩ | ⟨hm0,_,_,_,hu1,hpa,hpb⟩
    · subst ha1;subst hb1
      exact ⟨Nat.mul_pos (by omega) (Nat.pow_pos hE0),Nat.mul_pos (by omega) (Nat.pow_pos hE0)⟩
    · refine ⟨Nat.le_trans ?_ hpa,Nat.le_trans ?_ hpb⟩
      · rw [Nat.mul_assoc];exact Nat.le_mul_of_pos_right _ (Nat.mul_pos (Nat.mul_pos hm0 hm0) hu1)
      · rw [Nat.mul_assoc];exact Nat.le_mul_of_pos_right _ (Nat.mul_pos (Nat.pow_pos hm0) hu1)
  have htop:=jg S p top q;obtain ⟨hM2,hU2,hV2⟩:=sW (q:=q) hl2 ht hM hU hV;have hlin:=h.lin.sn q hl2 ht;have hech:=h.ech.sn (q:=q) hl2 hl1 ht;have hcol:∀i,i≠top→(sn S p top q).M i q=if i=p then S.M top q else S.M i q:=fun i hi=>(rp S p top q i q).1 hi
  have hab:∀i,i<top→((sn S p top q).M i q).natAbs≤2^eB e0 top:=fun i hi=>by rw [hcol i (by omega),if_neg (by omega)];exact h.above i hi
  have hbelow:∀i,top<i→i<r→(sn S p top q).M i q=0:=fun i hi hir=>by
    rw [hcol i (by omega)];split
    · rename_i e;subst e;exact hl5 top (Nat.le_refl _) ht (by omega)
    · rename_i e;exact hl5 i (by omega) hir e
  generalize sn S p top q=S2 at*
  generalize hy:(S.M p q).natAbs=y at*
  have hy0:0<y:=by omega
  have hK:∀i,i<top→(kq S2 top q i).natAbs≤2^eB e0 top:=fun i hi=>by
    unfold kq;rw [htop]
    exact Nat.le_trans (mZ (by omega)) (hab i hi)
  have hbd:=fun n (hn:n≤top)=>xq (n:=n) ht hn (by omega) hK hM2 hU2 hV2
  have hfin:∀n,n≤top→(∀i j,i<r→j<c→((ra S2 top q n).M i j).natAbs≤2^eB e0 (top + 1))∧(∀i j,i<r→j<r→((ra S2 top q n).U i j).natAbs≤2^eB e0 (top + 1))∧
      ∀i j,i<r→j<r→((ra S2 top q n).V i j).natAbs≤2^gB e0 (top + 1):=fun n hn=>by
    refine ⟨fun i j hi hj=> ?_,fun i j hi hj=> ?_,fun i j hi hj=> ?_⟩
    · exact Nat.le_trans ((hbd n hn).1 i j hi hj) (Nat.le_trans (Nat.mul_le_mul_right _ (Nat.mul_le_mul_left _ hab1.1)) (ql _))
    · exact Nat.le_trans ((hbd n hn).2.1 i j hi hj) (Nat.le_trans (Nat.mul_le_mul_right _ (Nat.mul_le_mul_left _ hab1.1)) (ql _))
    · exact Nat.le_trans ((hbd n hn).2.2 i j hi hj) (Nat.le_trans (Nat.mul_le_mul_right _ (Nat.mul_le_mul_left _ hab1.2)) (xu _ _))
  refine ⟨hfin,hlin.ra q ht top (Nat.le_refl _),?_,(hfin top (Nat.le_refl _)).1,(hfin top (Nat.le_refl _)).2.1,(hfin top (Nat.le_refl _)).2.2⟩;obtain ⟨P,h1,h2⟩:=hech;have hrow:∀i,i<top→∀j,j<q→(ra S2 top q top).M i j=S2.M i j:=fun i hi j hj=>by
    rw [lL _ _ _ _ _ _ (Nat.le_refl _),if_pos hi,h2 top (Nat.le_refl _) ht j hj,Int.mul_zero,Int.add_zero]
  have hrest:∀i,top≤i→∀j,(ra S2 top q top).M i j=S2.M i j:=fun i hi j=>by rw [lL _ _ _ _ _ _ (Nat.le_refl _),if_neg (by omega)]
  refine ⟨cB P top q,fun i hi=> ?_,fun a ha har j hj=> ?_⟩
  · by_cases e:i=top
    · subst e
      rw [bq];refine ⟨by omega,by rw [hrest i (Nat.le_refl _),htop];omega,fun j hj=>by rw [hrest i (Nat.le_refl _)];exact h2 i (Nat.le_refl _) ht j hj,fun k hk=> ?_⟩;rw [bo _ _ _ _ (by omega),hrest i (Nat.le_refl _),htop,lL _ _ _ _ _ _ (Nat.le_refl _),if_pos hk]
      unfold kq
      rw [htop];have e1:S2.M k q + -(S2.M k q/(y:Int))*(y:Int)=S2.M k q % (y:Int):=by
        have:=Int.mul_ediv_add_emod (S2.M k q) (y:Int);rw [Int.neg_mul,Int.mul_comm (S2.M k q/(y:Int))];omega
      rw [e1];exact ⟨(h1 k hk).1,Int.emod_nonneg _ (by omega),Int.emod_lt_of_pos _ (by omega)⟩
    · rw [bo _ _ _ _ e]
      obtain ⟨g1,g2,g3,g4⟩:=h1 i (by omega);refine ⟨by omega,by rw [hrow i (by omega) _ g1];exact g2,fun j hj=>by rw [hrow i (by omega) _ (by omega)];exact g3 j hj,fun k hk=> ?_⟩;rw [bo _ _ _ _ (by omega),hrow k (by omega) _ g1,hrow i (by omega) _ g1];exact g4 k hk
  · rw [hrest a (by omega)]
    by_cases e:j=q
    · subst e;exact hbelow a (by omega) har
    · exact h2 a (by omega) har j (by omega)
end
end Go.TL
namespace Go.TL
open Go.RowKit Go.Proofs
set_option linter.unusedVariables false
def bB (e0 r:Nat):Nat:=eB e0 r + gB e0 r + 2
theorem eS {z:Int} {e b:Nat} (h:z.natAbs≤2^e) (hb:e<b):z.natAbs<2^b:=Nat.lt_of_le_of_lt h (Nat.pow_lt_pow_right (by omega) hb)
structure Herm (r c e0:Nat) (M0:Nat→Nat→Int) (k:Nat) (S:WS):Prop where
  lin:Lin r c M0 S
  kr:k≤r
  kc:k≤c
  ech:lS r k c S.M
  bm:∀i j,i<r→j<c→(S.M i j).natAbs≤2^eB e0 k
  bu:∀i j,i<r→j<r→(S.U i j).natAbs≤2^eB e0 k
  bv:∀i j,i<r→j<r→(S.V i j).natAbs≤2^gB e0 k
theorem lS.kc {r k c q:Nat} {M:Nat→Nat→Int} (h:lS r k q M) (hq:q≤c):k≤q:=by
  obtain ⟨P,h1,_⟩:=h;have:∀n,n≤k→∀i,i<n→i≤P i:=by
    intro n
    induction n with
    | zero=>intro _ i hi;omega
    | succ n ih=>
      intro hn i hi
      by_cases e:i=n
      · subst e
        rcases Nat.eq_zero_or_pos i with h0 | h0
        · omega
        · have:=ih (by omega) (i - 1) (by omega)
          have:=((h1 i (by omega)).2.2.2 (i - 1) (by omega)).1;omega
      · exact ih (by omega) i (by omega)
  rcases Nat.eq_zero_or_pos k with h0 | h0
  · omega
  · have:=this k (Nat.le_refl _) (k - 1) (by omega)
    have:=(h1 (k - 1) (by omega)).1;omega
theorem kn (w:World) (x:Value) (r c:Nat) (M:Nat→Nat→Int) (b0 e0 b:Nat) (hx:cc w x r c M b0) (h8:r≤8) (hM:∀i j,i<r→j<c→(M i j).natAbs≤2^e0) (hb:bB e0 r≤b) (hb1:1 + e0≤b) (hl:2*b + 4≤bp):
    Calls Tryz.prog 11 #[x] w (cg w fun v w'=>∃k S,Herm r c e0 M k S∧jd w' v r c S b):=by
  have hfit:∀{top:Nat} {S:WS},top<r→(∀i j,i<r→j<c→(S.M i j).natAbs≤2^eB e0 (top + 1))→(∀i j,i<r→j<r→(S.U i j).natAbs≤2^eB e0 (top + 1))→(∀i j,i<r→j<r→(S.V i j).natAbs≤2^gB e0 (top + 1))→je r c b S:=by
    intro top S ht h1 h2 h3;have e1:=kt e0 (s:=top + 1) (t:=r) (by omega);have e2:=qA e0 (s:=top + 1) (t:=r) (by omega)
    unfold bB at hb
    exact ⟨fun i j hi hj=>eS (h1 i j hi hj) (by omega),fun i j hi hj=>eS (h2 i j hi hj) (by omega),fun i j hi hj=>eS (h3 i j hi hj) (by omega)⟩
  have e0r:=kt e0 (s:=0) (t:=r) (by omega);have hbb:=hb
  unfold bB at hbb
  simp only [eB] at e0r;have hx0:cc w x r c M (e0 + 1):=hx.more (fun i j hi hj=>eS (hM i j hi hj) (by omega)) (by omega);refine (yG w x r c M (e0 + 1) b (FI r c e0 M) (JI r c e0 M) hx0 (by omega) hl (FI.start hM) (fun top q S ht hq h=>⟨_,JI.of h ht hq⟩) ?_ ?_ ?_ ?_).mono ?_
  · intro top q m S ht hq hJ hp ho n hn
    obtain ⟨_,_,_,h3⟩:=hJ.round ht hq h8 hp ho;obtain ⟨g1,g2,g3⟩:=h3 n hn;exact hfit ht g1 g2 g3
  · intro top q m S ht hq hJ hp ho
    obtain ⟨m2,hm,hJ2,_⟩:=hJ.round ht hq h8 hp ho;exact ⟨m2,hm,hJ2⟩
  · intro top q m S ht hq hJ hp
    exact hJ.none ht hp
  · intro top q m S ht hq hJ hp ho
    obtain ⟨h1,h2⟩:=hJ.pivot ht hq h8 hp ho;exact ⟨fun n hn=>by obtain ⟨g1,g2,g3⟩:=h1 (n + 1) (by omega);exact hfit ht g1 g2 g3,h2⟩
  · rintro e w' ⟨v,rfl,hx',top,q,S,hF,hex,ht,hq,hH⟩
    have hech:lS r top c S.M:=by
      obtain ⟨P,h1,h2⟩:=hF.ech;refine ⟨P,fun i hi=> ?_,fun a ha har j hj=> ?_⟩
      · obtain ⟨g1,g2⟩:=h1 i hi;exact ⟨by omega,g2⟩
      · rcases hex with h | h
        · exact h2 a ha har j (by omega)
        · omega
    exact ⟨v,rfl,hx',top,S,⟨hF.lin,ht,hech.kc (Nat.le_refl _),hech,hF.bm,hF.bu,hF.bv⟩,hH⟩
end Go.TL
namespace Go.TL
set_option linter.unusedVariables false
theorem Herm.some {r c e0 k:Nat} {M0:Nat→Nat→Int} {S:WS} (h:Herm r c e0 M0 k S) {i:Nat} (hi:i<k):0≤piv (S.M i) c:=by
  obtain ⟨P,h1,_⟩:=h.ech;obtain ⟨g1,g2,_⟩:=h1 i hi
  by_cases hn:0≤piv (S.M i) c
  · exact hn
  · have h3:cZ iy (S.M i) c= -1:=by have:=(eC (p:=iy) (z:=S.M i) c).2;unfold piv at hn;omega
    have:=eI h3 (P i) g1
    unfold iy at this
    omega
theorem Herm.none {r c e0 k:Nat} {M0:Nat→Nat→Int} {S:WS} (h:Herm r c e0 M0 k S) {i:Nat} (hi:k≤i) (hr:i<r):¬0≤piv (S.M i) c:=by
  obtain ⟨P,_,h2⟩:=h.ech
  unfold piv
  rw [iN fun j hj=>by unfold iy;exact fun hne=>hne (h2 i hi hr j hj)];omega
theorem uu (e0 s:Nat):∀t,eB (eB e0 s) t=eB e0 (s + t)
  | 0=>rfl
  | t + 1=>by rw [show s + (t + 1)=s + t + 1 by omega];simp only [eB];rw [uu e0 s t]
end Go.TL
namespace Go.TL
open Go.RowKit Go.Proofs
set_option linter.unusedVariables false
set_option linter.unusedSimpArgs false
set_option maxRecDepth 10000 in
theorem vV (w:World) (x:Value) (rx cx:Nat) (Mx:Nat→Nat→Int) (btx:Nat) (e0 b:Nat) (hx:cc w x rx cx Mx btx) (h8:rx≤8) (hM:∀i j,i<rx→j<cx→(Mx i j).natAbs≤2^e0) (hb:bB e0 rx≤b) (hb1:1 + e0≤b) (hl:2*b + 4≤bp):Calls Tryz.prog 15 #[x] w (cg w fun v w'=>∃k S,Herm rx cx e0 Mx k S∧cc w' v k cx S.M b):=by
 have hLIM:bp=562949953421312:=rfl;have hmatx:=hx;obtain ⟨sx,rfl,hrx,hcx,hSx⟩:=hx.form;refine aj (N:=31) (rs:= #[.cell 2 28]) Tryz.func15 rfl rfl rfl (Nat.le_of_ble_eq_true rfl) ?_;have hX:aF w w:=aF.refl w;refine ab ?_;refine RL.x rfl rfl (dl.box [.int .i64 ((rx:Nat)),.int .i64 ((cx:Nat)),sx] rfl rfl) ?_;rintro _ w1 ⟨g1,rfl,hge1,hx1,hA1⟩;replace hX:=aF.trans hX hx1;refine RL.x rfl rfl (dl.alloc [.int .i64 (0),.int .i64 (0),.slice (none) (0) (0)] cm rfl) ?_;rintro _ w2 ⟨g2,rfl,hge2,hx2,hA2⟩;have hbs2:w.heap.size≤g2:=Nat.le_trans hX.size hge2;replace hA1:=bf.ext hA1 hx2;replace hX:=aF.trans hX hx2;refine RL.nil ?_;refine ab ?_;refine RL.p rfl rfl (ah [.int .i64 ((rx:Nat)),.int .i64 ((cx:Nat)),sx] aW rfl (hA1.cells 0 _ rfl rfl)) ?_;refine RL.x rfl rfl (dl.call pR (aI rfl) (kn _ _ rx cx Mx _ e0 b (cc.mk (ct.ext hSx hX) (by omega) (by omega)) h8 hM hb hb1 hl)) ?_;rintro _ w3 ⟨hx3,kf_1,Sf_1,hHf_1,sa_1,sb_1,sc_1,rfl,hdr_1,hdc_1,hSa_1,hSb_1,hSc_1⟩;replace hA2:=bf.ext hA2 hx3;replace hX:=aF.trans hX hx3;refine RL.p rfl rfl (lI pI aW rfl (by rfl)) ?_;refine RL.x rfl rfl (dl.alloc [.int .i64 (0),.int .i64 (0),.slice (none) (0) (0)] cm rfl) ?_;rintro _ w4 ⟨g3,rfl,hge3,hx4,hA3⟩;have ne3:g2≠g3:=Nat.ne_of_lt (Nat.lt_of_lt_of_le hA2.lt hge3);have hbs3:w.heap.size≤g3:=Nat.le_trans hX.size hge3;replace hA2:=bf.ext hA2 hx4;replace hSa_1:=ct.ext hSa_1 hx4;replace hX:=aF.trans hX hx4;refine RL.x rfl rfl (dl.store [.int .i64 ((rx:Nat)),.int .i64 ((cx:Nat)),sa_1] cT rfl rfl rfl hA3 (Nat.le_of_ble_eq_true rfl) (cU rfl rfl (hSa_1.one))) ?_;rintro _ w5 ⟨hk1,hnew⟩;replace hA2:=hA2.keep hk1 ne3;replace hSa_1:=bQ hSa_1 hk1 hA3 (by decide);replace hX:=hX.step hk1 (fun b e=>by subst e;exact hbs3);replace hA3:=hnew.lit [.int .i64 ((rx:Nat)),.int .i64 ((cx:Nat)),sa_1] rfl;clear hnew;refine RL.nil ?_;have hkr:=hHf_1.kr;refine ab ?_;refine RL.p rfl rfl (cG.assign rfl) ?_;refine RL.nil ?_;refine WP.seq ?_;refine WP.block ?_;refine WP.loop (fun mz ez uz=>∃n:Nat,(mz=kf_1 - n)∧(ez 2= .pointer (some ⟨g2,0,none⟩))∧(ez 3= .pointer (some ⟨g3,0,none⟩))∧(ez 4= .int .i64 ((n:Nat)))∧(n≤kf_1)∧(aF w uz)∧(bf uz g2 28 3 (bP [.int .i64 (0),.int .i64 (0),.slice (none) (0) (0)]))∧(ct uz sa_1 rx cx Sf_1.M b)∧(bf uz g3 28 3 (bP [.int .i64 ((rx:Nat)),.int .i64 ((cx:Nat)),sa_1]))) (kf_1 - 0) ?_ ?_
 · exact ⟨0,rfl,rfl,rfl,rfl,(by omega),hX,hA2,hSa_1,hA3⟩
 rintro m1 e1 w6 ⟨n,hm1,s2_e1,s3_e1,s4_e1,hn,hX1,hA2,hSa_1,hA3⟩;refine WP.seq ?_;refine aH am 13 [_,_,_,_,fun v Bk=>v= .bool (decide (((n:Nat):Int)<((rx:Nat):Int))),_,_,_,_,_,_,_,_] rfl rfl (fun e_ w_ Bj Bi=>⟨fun _=>aa (cG.move ((Bi 4 rfl s4_e1))),fun _=>aa (cG.fieldAddr aV ((Bi 3 rfl s3_e1))),fun Bh=>aa (cG.load bA ((Bh 1 rfl)) ((bf.ext hA3 Bj).at_ (i:=0) rfl rfl)),fun Bh=>aa (cG.lss ((Bh 0 rfl)) ((Bh 2 rfl))),fun Bh=>aa (cG.move ((Bh 3 rfl))),fun Bh=>gT (Bh 4 rfl) fun hg=>aa (cG.fieldAddr ao ((Bi 3 rfl s3_e1))),fun Bh=>gT (Bh 4 rfl) fun hg=>aa (cG.load aE ((Bh 5 rfl hg)) ((bf.ext hA3 Bj).at_ (i:=2) rfl rfl)),fun Bh=>gT (Bh 4 rfl) fun hg=>aa (cG.move ((Bi 4 rfl s4_e1))),fun Bh=>gT (Bh 4 rfl) fun hg=>ag (aS (j:=n) az (Bh 6 rfl hg) (ct.ext hSa_1 Bj) (Bh 7 rfl hg) (by omega) (by omega)),fun Bh=>gT (Bh 4 rfl) fun hg=>ag (bi aP rfl (Bh 8 rfl hg)),fun Bh=>gT (Bh 4 rfl) fun hg=>dl.call pO (aI rfl) (kl _ _ _ _ _ (Bh 9 rfl hg)),fun Bh=>gT (Bh 4 rfl) fun hg=>aa (cG.geq ((Bh 10 rfl hg)) rfl),fun Bh=>aa (ay (p:=((n:Nat):Int)<((rx:Nat):Int)) (q:=(0:Int)≤(piv (Sf_1.M n) cx:Int)) (Bh 4 rfl) (fun hq=>(Bh 11 rfl hq))),trivial⟩) ?_;intro e2 w7 hx5 ho1 hf1;replace hA2:=bf.ext hA2 hx5;replace hSa_1:=ct.ext hSa_1 hx5;replace hA3:=bf.ext hA3 hx5;replace hX1:=aF.trans hX1 hx5;have s2_e2:=ho1 2 rfl s2_e1;have s3_e2:=ho1 3 rfl s3_e1;have s4_e2:=ho1 4 rfl s4_e1;have s20_e2:e2 20=_:=hf1 12 rfl;refine RL.nil ?_;refine af ((((n:Nat):Int)<((rx:Nat):Int))∧((0:Int)≤(piv (Sf_1.M n) cx:Int))) s20_e2 (fun c20=> ?_) (fun c20=> ?_)
 ·
  refine WP.skip ?_;refine pv.norm ?_;refine WP.block ?_;refine WP.region ?_;refine RL.p rfl rfl (cG.move s4_e2) ?_;refine RL.p rfl rfl (cG.add (c:=((n + 1:Nat):Int)) rfl rfl (bS (by omega))) ?_;refine RL.p rfl rfl (cG.assign rfl) ?_;refine RL.nil ?_;refine jc.norm ?_;have hnk:n<kf_1:=by
    rcases Nat.lt_or_ge n kf_1 with h | h
    · exact h
    · exact absurd c20.2 (hHf_1.none h (by omega))
  refine pv.norm ⟨_,(by omega),n + 1,rfl,s2_e2,s3_e2,rfl,(by omega),hX1,hA2,hSa_1,hA3⟩
 ·
  refine WP.exit ?_;refine pv.exit ?_;refine pv.exit ?_;refine jc.same ?_;refine pv.norm ?_;refine aH am 7 [_,_,_,_,_,_,_] rfl rfl (fun e_ w_ Bj Bi=>⟨fun _=>aa (cG.move ((Bi 4 rfl s4_e2))),fun _=>aa (cG.fieldAddr bs ((Bi 3 rfl s3_e2))),fun Bh=>aa (cG.load bA ((Bh 1 rfl)) ((bf.ext hA3 Bj).at_ (i:=1) rfl rfl)),fun _=>aa (cG.fieldAddr ao ((Bi 3 rfl s3_e2))),fun Bh=>aa (cG.load aE ((Bh 3 rfl)) ((bf.ext hA3 Bj).at_ (i:=2) rfl rfl)),fun _=>aa (cG.move ((Bi 4 rfl s4_e2))),fun Bh=>ag (ic (j:=n) az (Bh 4 rfl) (ct.ext hSa_1 Bj) (Bh 5 rfl) (by omega) (by omega)),trivial⟩) ?_;intro e3 w8 hx6 ho2 hf2;replace hA2:=bf.ext hA2 hx6;replace hX1:=aF.trans hX1 hx6;have s2_e3:=ho2 2 rfl s2_e2;have s23_e3:e3 23=_:=hf2 0 rfl;have s25_e3:e3 25=_:=hf2 2 rfl;have s29_e3:ct w8 (e3 29) n cx Sf_1.M b:=hf2 6 rfl;refine RL.p rfl rfl (cG.build (vs:= [(0,.int .i64 ((n:Nat))),(1,.int .i64 ((cx:Nat))),(2,(e3 29))]) [(0,1),(1,1),(2,1)] jH cm (fZ s23_e3 s25_e3 rfl) (xw s29_e3)) ?_;refine RL.x rfl rfl (dl.store [.int .i64 ((n:Nat)),.int .i64 ((cx:Nat)),(e3 29)] cT s2_e3 rfl rfl hA2 (Nat.le_of_ble_eq_true rfl) (cU rfl rfl (s29_e3.one))) ?_;rintro _ w9 ⟨hk2,hnew⟩;replace s29_e3:=bQ s29_e3 hk2 hA2 (by decide);replace hX1:=hX1.step hk2 (fun b e=>by subst e;exact hbs2);replace hA2:=hnew.lit [.int .i64 ((n:Nat)),.int .i64 ((cx:Nat)),(e3 29)] rfl;clear hnew;refine RL.nil ?_;refine WP.ret ?_;refine ⟨.agg #[.int .i64 ((n:Nat)),.int .i64 ((cx:Nat)),(e3 29)],AO.one (ak [.int .i64 ((n:Nat)),.int .i64 ((cx:Nat)),(e3 29)] aW s2_e3 (hA2.cells 0 _ rfl rfl)),_,rfl,hX1,?_⟩;dsimp only;have hnk:n=kf_1:=by
    rcases Nat.lt_or_ge n kf_1 with h | h
    · exact absurd ⟨by omega,hHf_1.some h⟩ c20
    · omega
  exact ⟨kf_1,Sf_1,hHf_1,hnk▸(cc.mk s29_e3 (by omega) (by omega))⟩
end Go.TL
namespace Go.TL
open Go.RowKit Go.Proofs
set_option linter.unusedVariables false
def xF (M:Nat→Nat→Int):Nat→Nat→Int:=fun i j=>M j i
def go (r c e0:Nat) (M0:Nat→Nat→Int) (k:Nat) (M:Nat→Nat→Int):Prop:=
  ∃k1 S1 S2,Herm r c e0 M0 k1 S1∧Herm (r - k1) r (eB e0 k1) (fun i=>S1.U (k1 + i)) k S2∧M=S2.M
theorem go.bd {r c e0 k:Nat} {M0 M:Nat→Nat→Int} (h:go r c e0 M0 k M) {i j:Nat} (hi:i<k) (hj:j<r):(M i j).natAbs≤2^eB e0 r:=by
  obtain ⟨k1,S1,S2,h1,h2,rfl⟩:=h;have g1:=h2.kr;have g2:=h1.kr;refine Nat.le_trans (h2.bm i j (by omega) hj) (Nat.pow_le_pow_right (by omega) ?_);rw [uu];exact kt e0 (by omega)
theorem go.kr {r c e0 k:Nat} {M0 M:Nat→Nat→Int} (h:go r c e0 M0 k M):k≤r:=by
  obtain ⟨k1,S1,S2,h1,h2,rfl⟩:=h;have g1:=h2.kr;omega
def qT (r c e0:Nat) (M0:Nat→Nat→Int) (k:Nat) (M:Nat→Nat→Int):Prop:=∃k1 K1,go c r e0 (xF M0) k1 K1∧go c k1 (eB e0 c) (xF K1) k M
theorem qT.bd {r c e0 k:Nat} {M0 M:Nat→Nat→Int} (h:qT r c e0 M0 k M) {i j:Nat} (hi:i<k) (hj:j<c):(M i j).natAbs≤2^eB (eB e0 c) c:=by
  obtain ⟨k1,K1,h1,h2⟩:=h;exact h2.bd hi hj
end Go.TL
namespace Go.TL
open Go.RowKit Go.Proofs
set_option linter.unusedVariables false
def wT (w:World) (v:Value) (r c e0:Nat) (M0:Nat→Nat→Int) (b:Nat):Prop:=∃k S,Herm r c e0 M0 k S∧cc w v k c S.M b
def wI (w:World) (v:Value) (r c e0:Nat) (M0:Nat→Nat→Int) (b:Nat):Prop:=∃k M,qT r c e0 M0 k M∧cc w v k c M b
def qS (w:World) (v:Value) (r c e0:Nat) (M0:Nat→Nat→Int):Prop:=∃k S k2 M2,Herm r c e0 M0 k S∧qT r c e0 M0 k2 M2∧v= .bool (decide (aB k c k2 c S.M M2))
theorem wT.ext {w w':World} {v:Value} {r c e0 b:Nat} {M0:Nat→Nat→Int} (h:wT w v r c e0 M0 b) (hx:aF w w'):wT w' v r c e0 M0 b:=by obtain ⟨k,S,h1,h2⟩:=h;exact ⟨k,S,h1,h2.ext hx⟩
theorem wI.ext {w w':World} {v:Value} {r c e0 b:Nat} {M0:Nat→Nat→Int} (h:wI w v r c e0 M0 b) (hx:aF w w'):wI w' v r c e0 M0 b:=by obtain ⟨k,S,h1,h2⟩:=h;exact ⟨k,S,h1,h2.ext hx⟩
theorem qS.ext {w w':World} {v:Value} {r c e0:Nat} {M0:Nat→Nat→Int} (h:qS w v r c e0 M0) (hx:aF w w'):qS w' v r c e0 M0:=h
theorem rP (r c e0:Nat) (M0:Nat→Nat→Int) (b:Nat):bM (fun v w=>wT w v r c e0 M0 b):=fun _ _ _ h hx=>h.ext hx
instance (r c e0:Nat) (M0:Nat→Nat→Int) (b:Nat):Nonempty (bM (fun v w=>wT w v r c e0 M0 b)):=⟨rP r c e0 M0 b⟩
theorem rE (r c e0:Nat) (M0:Nat→Nat→Int) (b:Nat):bM (fun v w=>wI w v r c e0 M0 b):=fun _ _ _ h hx=>h.ext hx
instance (r c e0:Nat) (M0:Nat→Nat→Int) (b:Nat):Nonempty (bM (fun v w=>wI w v r c e0 M0 b)):=⟨rE r c e0 M0 b⟩
theorem pc (r c e0:Nat) (M0:Nat→Nat→Int):bM (fun v w=>qS w v r c e0 M0):=fun _ _ _ h _=>h
instance (r c e0:Nat) (M0:Nat→Nat→Int):Nonempty (bM (fun v w=>qS w v r c e0 M0)):=⟨pc r c e0 M0⟩
def qX (w:World) (g r c:Nat) (S:WS) (b:Nat):Prop:=∃s1 s2 s3,bf w g 31 9 (bP [.int .i64 (r:Nat),.int .i64 (c:Nat),s1,.int .i64 (r:Nat),.int .i64 (r:Nat),s2,.int .i64 (r:Nat),.int .i64 (r:Nat),s3])∧
  (r≤65536∧b≤bp)∧c≤65536∧ct w s1 r c S.M b∧ct w s2 r r S.U b∧ct w s3 r r S.V b
end Go.TL
namespace Go.TL
open Go.RowKit Go.Proofs
set_option linter.unusedVariables false
theorem qX.keep {w w':World} {g r c b g2 m:Nat} {f:Nat→Value} {S:WS} (h:qX w g r c S b) (hk:Keeps (fun k=>k=g2) w w') (hA:bf w g2 28 m f):qX w' g r c S b:=by
  obtain ⟨s1,s2,s3,h1,h2,h3,h4,h5,h6⟩:=h;exact ⟨s1,s2,s3,h1.keep hk (h1.ne hA (by decide)),h2,h3,bQ h4 hk hA (by decide),bQ h5 hk hA (by decide),bQ h6 hk hA (by decide)⟩
theorem qX.ext {w w':World} {g r c b:Nat} {S:WS} (h:qX w g r c S b) (hx:aF w w'):qX w' g r c S b:=by
  obtain ⟨s1,s2,s3,h1,h2,h3,h4,h5,h6⟩:=h;exact ⟨s1,s2,s3,h1.ext hx,h2,h3,h4.ext hx,h5.ext hx,h6.ext hx⟩
end Go.TL
namespace Go.TL
open Go.RowKit
set_option linter.unusedVariables false
section
variable {P:Program} {e:cH} {w:World} {d:Option Tmp} {ty:TypeId} {pos:String} {after:Array Edge} {gd:Option (Nat×Bool)}
theorem oA {t bb g1 c1 g gh m dd c b B:Nat} {x y:Operand} {v:Value} {z:Nat→Int} {M:Nat→Nat→Int} {ρ:Nat→Nat} (ht:sliceB P t 41 1 bb=true) (hb:bb≤32) (hz:(P.info? 41).bind (·.zero)=some (.slice none 0 0))
    (hx:ev e x= .slice (some ⟨gh,0,none⟩) dd m) (hy:ev e y= .slice (some ⟨g1,0,none⟩) 1 c1) (hM:cJ w B gh m dd c ρ M b) (hT:bf w g1 41 1 (bP [v])) (hS:fj w v g c) (hR:cL w g c z b) (hzz:∀j,j<c→M dd j=z j) (hB:B≤g)
    (hBw:B≤w.heap.size) (hnew:∀i,i<dd→ρ i≠g) (hd:dd<65536):
    dl P ⟨d,.call {callee:= .builtin .append,args:= #[x,y],argTypes:= #[t,t]},ty,pos,after,gd⟩ e w
      (fun v' w'=>Keeps (fun b=>b=gh) w w'∧∃gh' m',v'= .slice (some ⟨gh',0,none⟩) (dd + 1) m'∧cJ w' B gh' m' (dd + 1) c (cB ρ dd g) M b):=by
  have hne:=fun k (hk:k<dd)=>hM.ne hk
  have hnu:=hM.nu;obtain ⟨h1,h2,⟨h3,h3b,f,h6,h7⟩,h4,h5⟩:=hM;have hgne:g≠gh:=by
    obtain ⟨m',f',_,ha',_⟩:=hR;exact ha'.ne h6 (by decide)
  obtain ⟨kk,hvk,_,_⟩:=id hS;refine dl.mono (jR (n:=dd) (cap:=m) (kk:=1) (h:=fun _=>v) (f:=f) [.slice none 0 0] ht hb hz rfl rfl (by decide) hx hy (by rw [Nat.mul_one];exact h6) h3 h3b.1 (fun i hi=> ?_) (fun i hi=>hS.one) (by omega)) ?_
  · have:i=0:=by omega
    subst this;exact hT.cell (i:=0) (by decide)
  · rintro v' w' ⟨hk,gh',m',f',rfl,g5,g6,g7,g8,g9,g10⟩
    simp only [Nat.mul_one] at g8 g9 g10;refine ⟨hk,gh',m',rfl,?_,h2,⟨g5,⟨g6,by omega⟩,f',g8,fun i hi=> ?_⟩,fun i hi=> ?_,fun i j hi hj e=> ?_⟩
    · rcases g7 with g7 | g7
      · rw [g7.1];exact h1
      · omega
    · by_cases e:i=dd
      · subst e;rw [bq]
        have:=g10 0 (by decide);rw [Nat.add_zero] at this;rw [this];exact hS
      · rw [bo _ _ _ _ e,g9 i (by omega)];exact h7 i (by omega)
    · by_cases e:i=dd
      · subst e;rw [bq];exact ⟨hB,(hR.keep hk hgne hnu).congr fun j hj=>(hzz j hj).symm⟩
      · rw [bo _ _ _ _ e];exact ⟨(h4 i (by omega)).1,(h4 i (by omega)).2.keep hk (fun e2=>hne i (by omega) e2.symm) hnu⟩
    · by_cases e1:i=dd<;>by_cases e2:j=dd
      · omega
      · rw [e1,bq,bo _ _ _ _ e2] at e;exact absurd e.symm (hnew j (by omega))
      · rw [e2,bq,bo _ _ _ _ e1] at e;exact absurd e (hnew i (by omega))
      · rw [bo _ _ _ _ e1,bo _ _ _ _ e2] at e;exact h5 i j (by omega) (by omega) e
def wQ (w:World) (v:Value) (B r c:Nat) (M:Nat→Nat→Int) (b:Nat):Prop:=∃gh k ρ,v= .slice (some ⟨gh,0,none⟩) r k∧cJ w B gh k r c ρ M b
theorem wQ.ext {w w':World} {v:Value} {B r c b:Nat} {M:Nat→Nat→Int} (h:wQ w v B r c M b) (hx:aF w w'):wQ w' v B r c M b:=by obtain ⟨gh,k,ρ,h1,h2⟩:=h;exact ⟨gh,k,ρ,h1,h2.ext hx⟩
theorem tM (B r c:Nat) (M:Nat→Nat→Int) (b:Nat):bM (fun v w=>wQ w v B r c M b):=fun _ _ _ h hx=>h.ext hx
instance (B r c:Nat) (M:Nat→Nat→Int) (b:Nat):Nonempty (bM (fun v w=>wQ w v B r c M b)):=⟨tM B r c M b⟩
theorem wQ.hdrV {v:Value} {B r c b:Nat} {M:Nat→Nat→Int} (h:wQ w v B r c M b):ct w v r c M b:=by obtain ⟨gh,k,ρ,rfl,h2⟩:=h;exact h2.hdrV h2.dlim.1 h2.dlim.2.1
theorem fw {t i ft B r c b:Nat} {x:Operand} {v:Value} {M:Nat→Nat→Int} (hf:jw P t i ft 2=true) (ho:oneB P ft=true) (hx:ev e x=v) (hM:cF w v B r c M b):
    dl P ⟨d,.field t x i,ty,pos,after,gd⟩ e w (fun v' w'=>w=w'∧wQ w' v' B r c M b):=by
  obtain ⟨gh,k',ρ,rfl,hMx⟩:=hM;refine dm (φ:=fun v' w'=>wQ w' v' B r c M b) (v:= .slice (some ⟨gh,0,none⟩) r k') ?_ ⟨gh,k',ρ,rfl,hMx⟩
  unfold jw at hf
  split at hf
  · rename_i fs hs
    split at hf
    · rename_i fd hfd
      simp only [Bool.and_eq_true] at hf;have e1:=Nat.eq_of_beq_eq_true hf.1;have e2:=Nat.eq_of_beq_eq_true hf.2;subst e2;have hn:(isAgg fd.type).run P w= .ok false w:=by
        unfold oneB at ho
        cases hu:P.underlying fd.type with
        | none=>rw [hu] at ho;cases ho
        | some dsc=>
          rw [hu] at ho;cases dsc<;>first | (simp at ho;done) | simp [isAgg,run_underlying hu]
      simp only [cG,execOp,hx,Instr.field,Sem.run_bind,run_underlying hs,Result.andThen_ok,hfd,asAgg,Sem.run_pure,part,hn,Bool.false_eq_true,if_false,e1]
      rfl
    · cases hf
  · cases hf
theorem ct.cells1 {v:Value} {n c b:Nat} {M:Nat→Nat→Int} (h:ct w v n c M b):v.cells= [v].toArray:=by obtain ⟨A,k,rfl,_⟩:=h;rfl
theorem bL.cells1 {v:Value} {n b:Nat} {z:Nat→Int} (h:bL w v n z b):v.cells= [v].toArray:=by obtain ⟨A,k,rfl,_⟩:=h;rfl
end
theorem rf (M:Nat→Nat→Int) (i j:Nat) (x y:Int):eh (eh M i j x) i j y=eh M i j y:=by
  funext a c;unfold eh;split<;>rfl
theorem ri (M:Nat→Nat→Int) (i j:Nat) (x:Int):eh M i j x i j=x:=by unfold eh;rw [if_pos ⟨rfl,rfl⟩]
theorem rg (M:Nat→Nat→Int) (i j:Nat):eh M i j (M i j)=M:=by
  funext a c;unfold eh;split
  · rename_i h;rw [h.1,h.2]
  · rfl
theorem gL (F:Nat→Nat→Int):(fun _ _=>0)=cP F 0 0:=by funext a c;rw [oZ]
theorem tC (F:Nat→Nat→Int) (i j:Nat):cP F i j i j=0:=by unfold cP;rw [if_neg (by omega)]
def xy (n:Nat):Nat→Nat→Int:=fun a c=>if a<n∧a=c then 1 else 0
theorem wt:(fun _ _=>0)=xy 0:=by funext a c;unfold xy;rw [if_neg (by omega)]
theorem ws (i:Nat):eh (xy i) i i 1=xy (i + 1):=by
  funext a c;unfold eh xy
  by_cases h:a=i∧c=i
  · rw [if_pos h,if_pos (by omega)]
  · rw [if_neg h]
    by_cases h2:a<i∧a=c
    · rw [if_pos h2,if_pos (by omega)]
    · rw [if_neg h2,if_neg (by omega)]
theorem wu {n a:Nat} (c:Nat) (h:a<n):xy n a c=dA a c:=by unfold xy dA;by_cases e:a=c<;>simp [e,h];omega
theorem mul_zero (F:Nat→Nat→Int) (i j:Nat):cP F i j=eh (cP F i j) i j 0:=by
  have:=rg (cP F i j) i j;rw [tC] at this;exact this.symm
theorem wQ.up {w:World} {v:Value} {B r c b b':Nat} {M:Nat→Nat→Int} (h:wQ w v B r c M b) (hb:b≤b') (hl:b'≤bp):wQ w v B r c M b':=by
  obtain ⟨gh,k,ρ,h1,h2⟩:=h;exact ⟨gh,k,ρ,h1,h2.up hb hl⟩
def cV (f:Nat→Int) (n c:Nat):Nat→Nat→Int:=fun i j=>if i*c + j<n then (f (i*c + j)).tmod 10 else 0
def fg (f:Nat→Int) (n c:Nat):Nat→Nat→Int:=fun i j=>if i*c + j<n then f (i*c + j) else 0
theorem sG (x:Int):(x.tmod 10).natAbs<10:=by rw [Int.natAbs_tmod];exact Nat.mod_lt _ (by decide)
theorem oM (x:Int): -9223372036854775808≤x.tmod 10∧x.tmod 10<9223372036854775808:=by have:=sG x;omega
theorem wX (x:Int):(x.tmod 10).natAbs<2^4:=by have:=sG x;omega
theorem om (f:Nat→Int) (n c i j:Nat):(cV f n c i j).natAbs<2^4:=by
  unfold cV;split
  · exact wX _
  · decide
theorem um {f:Nat→Int} {n c i j:Nat} (h:i*c + j<n):(f (i*c + j)).tmod 10=cV f n c i j:=by unfold cV;rw [if_pos h]
theorem tZ {f:Nat→Int} {n c i j:Nat} (h:i*c + j<n):f (i*c + j)=fg f n c i j:=by unfold fg;rw [if_pos h]
theorem tP {r c r' c':Nat} {M M':Nat→Nat→Int} (h:¬(r=r'∧c=c')):decide (aB r c r' c' M M')=false:=decide_eq_false fun e=>h ⟨e.1,e.2.1⟩
theorem tQ {r c r' c' i:Nat} {M M':Nat→Nat→Int} (hi:i<r) (h:¬aG c c' (M i) (M' i)):decide (aB r c r' c' M M')=false:=
  decide_eq_false fun e=>h ⟨e.2.1,fun j hj=>e.2.2 i hi j hj⟩
theorem rR {r c r' c':Nat} {M M':Nat→Nat→Int} (h:r=r'∧c=c') (he:∀i,i<r→aG c c' (M i) (M' i)):decide (aB r c r' c' M M')=true:=
  decide_eq_true ⟨h.1,h.2,fun i hi j hj=>(he i hi).2 j hj⟩
theorem ua {f:Nat→Int} {n b:Nat} (h:∀i,i<n→(f i).natAbs<2^b) (c i j:Nat):(fg f n c i j).natAbs<2^b:=by
  unfold fg;split
  · rename_i h1;exact h _ h1
  · exact Nat.pow_pos (by decide)
theorem tmN (x k:Nat):((x:Nat):Int).tmod ((k:Nat):Int)=((x % k:Nat):Int):=rfl
theorem md {F:Nat→Nat→Int} {i j n:Nat} (h:∀c,j≤c→c<n→F i c=0) {a c:Nat} (hc:c<n):cP F i j a c=cP F (i + 1) 0 a c:=by
  unfold cP
  by_cases h1:a<i
  · rw [if_pos (by omega),if_pos (by omega)]
  · by_cases h2:a=i
    · subst h2
      by_cases h3:c<j
      · rw [if_pos (by omega),if_pos (by omega)]
      · rw [if_neg (by omega),if_pos (by omega),h c (by omega) hc]
    · rw [if_neg (by omega),if_neg (by omega)]
def eG (k:IntKind) (T:Nat) (w:World) (v:Value) (n:Nat) (f:Nat→Int):Prop:=∃A c,v= .slice A n c∧n≤c∧c<9223372036854775808∧(0<n→∃g o,A=some ⟨g,o,none⟩∧∀i,i<n→w.cell? ⟨g,o + i,none⟩=some (.int k (f i)))
theorem eG.ext {k:IntKind} {T:Nat} {w w':World} {v:Value} {n:Nat} {f:Nat→Int} (h:eG k T w v n f) (hx:aF w w'):eG k T w' v n f:=by
  obtain ⟨A,c,h1,h2,h3,h4⟩:=h;exact ⟨A,c,h1,h2,h3,fun hn=>by obtain ⟨g,o,hA,hc⟩:=h4 hn;exact ⟨g,o,hA,fun i hi=>aF.cell (hc i hi) hx⟩⟩
instance (k:IntKind) (T n:Nat) (f:Nat→Int):Nonempty (bM (fun v w=>eG k T w v n f)):=⟨fun _ _ _ h hx=>eG.ext h hx⟩
def oJ (k:IntKind) (w:World) (v:Value) (x:Int):Prop:=∃g o,v= .pointer (some ⟨g,o,none⟩)∧w.cell? ⟨g,o,none⟩=some (.int k x)
theorem oJ.ext {k:IntKind} {w w':World} {v:Value} {x:Int} (h:oJ k w v x) (hx:aF w w'):oJ k w' v x:=by obtain ⟨g,o,h1,h2⟩:=h;exact ⟨g,o,h1,aF.cell h2 hx⟩
theorem rH (k:IntKind) (x:Int):bM (fun v w=>oJ k w v x):=fun _ _ _ h hx=>h.ext hx
instance (k:IntKind) (x:Int):Nonempty (bM (fun v w=>oJ k w v x)):=⟨rH k x⟩
section
variable {P:Program} {e:cH} {w:World} {d:Option Tmp} {ty:TypeId} {pos:String} {after:Array Edge} {gd:Option (Nat×Bool)}
theorem iW {k:IntKind} {T t n j m:Nat} {x ix:Operand} {v:Value} {f:Nat→Int} {i:Int} {k2:IntKind} (ht:sliceB P t T 1 m=true) (hx:ev e x=v) (hN:eG k T w v n f) (hi:ev e ix= .int k2 i) (hij:i=(j:Int)) (hj:j<n):
    dl P ⟨d,.indexAddr t x ix,ty,pos,after,gd⟩ e w (fun v' w'=>w=w'∧oJ k w' v' (f j)):=by
  obtain ⟨A,c,rfl,h2,h3,h4⟩:=hN;obtain ⟨g,o,rfl,hc⟩:=h4 (by omega);refine dm (φ:=fun v' w'=>oJ k w' v' (f j)) (cG.index (j:=j) ht hx hi rfl hij hj) ⟨g,_,rfl,?_⟩;rw [Nat.mul_one];exact hc j hj
theorem jP {k:IntKind} {t:Nat} {x:Operand} {v:Value} {q:Int} (ht:oneB P t=true) (hx:ev e x=v) (hP:oJ k w v q):cG P ⟨d,.load t x,ty,pos,after,gd⟩ e w (.int k q):=by
  obtain ⟨g,o,rfl,hc⟩:=hP;exact cG.load ht hx hc
theorem lH {k:IntKind} {T t n m:Nat} {x:Operand} {v:Value} {f:Nat→Int} (ht:sliceB P t T 1 m=true) (hx:ev e x=v) (hN:eG k T w v n f):
    cG P ⟨d,.call {callee:= .builtin .len,args:= #[x],argTypes:= #[t]},ty,pos,after,gd⟩ e w (.int .i64 (n:Nat)):=by
  obtain ⟨A,c,rfl,h2,h3,h4⟩:=hN;exact cG.len ht hx
end
end Go.TL
namespace Go.TL
open Go.RowKit
set_option linter.unusedVariables false
def lQ (w:World) (g cap n:Nat) (z:Nat→Int) (b:Nat):Prop:=
  (n≤cap∧cap<9223372036854775808∧b≤bp∧n≤65536)∧∃f,bf w g 49 (cap*2) f∧∀j,j<n→al w (.agg #[f (2*j),f (2*j + 1)]) (z j) b
section
variable {w w':World} {g cap n b:Nat} {z:Nat→Int}
theorem lQ.lt (h:lQ w g cap n z b):g<w.heap.size:=by obtain ⟨_,f,ha,_⟩:=h;exact ha.lt
theorem lQ.keep {S:Nat→Prop} (h:lQ w g cap n z b) (hk:Keeps S w w') (hg:¬S g) (hs:∀k m f,S k→¬bf w k 101 m f):lQ w' g cap n z b:=by
  obtain ⟨h1,f,ha,hf⟩:=h;exact ⟨h1,f,ha.keep hk hg,fun j hj=>(hf j hj).keep hk hs⟩
theorem lQ.ext (h:lQ w g cap n z b) (hx:aF w w'):lQ w' g cap n z b:=h.keep (hx.keeps (fun _=>False)) id fun _ _ _ hf=>hf.elim
theorem lQ.rowB (h:lQ w g cap n z b):cL w g n z b:=by
  obtain ⟨h1,f,ha,hf⟩:=h;exact ⟨cap*2,f,⟨by omega,h1.2.2.1⟩,ha,hf⟩
theorem lQ.rowV (h:lQ w g cap n z b):bL w (.slice (some ⟨g,0,none⟩) n cap) n z b:=h.rowB.rowV h.1.1 ⟨h.1.2.1,h.1.2.2.2⟩
theorem lQ.congr {z':Nat→Int} (h:lQ w g cap n z b) (he:∀j,j<n→z j=z' j):lQ w g cap n z' b:=by
  obtain ⟨h1,f,ha,hf⟩:=h;exact ⟨h1,f,ha,fun j hj=>he j hj▸hf j hj⟩
theorem lQ.born {f:Nat→Value} (ha:bf w g 49 0 f) (z:Nat→Int) (hb:b≤bp):lQ w g 0 0 z b:=
  ⟨⟨Nat.le_refl _,by decide,hb,by decide⟩,f,ha,fun j hj=>absurd hj (by omega)⟩
end
theorem cL.up {w:World} {g n b b':Nat} {z:Nat→Int} (h:cL w g n z b) (hb:b≤b') (hl:b'≤bp):cL w g n z b':=by
  obtain ⟨m,f,h1,h2,h3⟩:=h;exact ⟨m,f,⟨h1.1,hl⟩,h2,fun j hj=>(h3 j hj).up hb hl⟩
theorem bL.bd {w:World} {v:Value} {n b:Nat} {z:Nat→Int} (h:bL w v n z b):∀j,j<n→(z j).natAbs<2^b:=by
  intro j hj;obtain ⟨A,k,h1,h2,h3,h4⟩:=h;obtain ⟨g,_,m,f,_,_,hf⟩:=h4 (by omega);exact (hf j hj).2.1
theorem ct.bd {w:World} {v:Value} {n c b:Nat} {M:Nat→Nat→Int} (h:ct w v n c M b):∀i j,i<n→j<c→(M i j).natAbs<2^b:=by
  intro i j hi hj;obtain ⟨A,k,h1,h2,h3,h4⟩:=h;obtain ⟨g,o,m,f,_,_,_,hf⟩:=h4 (by omega);exact (hf i hi).bd j hj
section
variable {P:Program} {e:cH} {w:World} {d:Option Tmp} {ty:TypeId} {pos:String} {after:Array Edge} {gd:Option (Nat×Bool)}
theorem oE {t T m b g cap c1:Nat} {A:Option Addr} {x y:Operand} (ht:sliceB P t T m b=true)
    (hx:ev e x= .slice (some ⟨g,0,none⟩) 0 cap) (hy:ev e y= .slice A 0 c1):
    cG P ⟨d,.call {callee:= .builtin .append,args:= #[x,y],argTypes:= #[t,t]},ty,pos,after,gd⟩ e w (.slice (some ⟨g,0,none⟩) 0 cap):=by
  obtain ⟨hu,i0,hi0,hm,hbb⟩:=bW ht;have hrun:(Builtin.append_ #[t,t] ty #[.slice (some ⟨g,0,none⟩) 0 cap,.slice A 0 c1]).run P w= .ok (.slice (some ⟨g,0,none⟩) 0 cap) w:=by
    cases A with
    | none=>simp [Builtin.append_,run_underlying hu,sizeOf,typeInfo,hi0,Builtin.lenOf,Builtin.firstCells,storeCells]
    | some ad=>simp [Builtin.append_,run_underlying hu,sizeOf,typeInfo,hi0,Builtin.lenOf,Builtin.firstCells,storeCells,loadCells,loadCellsFrom]
  simp [cG,execOp,resolve,invoke,builtin,hx,hy,hrun,Result.andThen]
end
end Go.TL
namespace Go.TL
open Go.RowKit Go.Proofs
set_option linter.unusedVariables false
set_option linter.unusedSimpArgs false
set_option maxRecDepth 10000 in
theorem nR (w:World) (r:Nat) (c:Nat) (b:Nat) (hr:r≤65536) (hc:c≤65536) (hb:b≤bp):Calls Tryz.prog 78 #[.int .i64 (r:Nat),.int .i64 (c:Nat)] w (cg w fun v w'=>cF w' v w.heap.size r c (fun _ _=>0) b):=by
 have hLIM:bp=562949953421312:=rfl;refine aj (N:=22) (rs:= #[.cell 4 28]) Tryz.func78 rfl rfl rfl (Nat.le_of_ble_eq_true rfl) ?_;have hX:aF w w:=aF.refl w;refine ab ?_;refine RL.x rfl rfl (dl.alloc [.int .i64 (0),.int .i64 (0),.slice (none) (0) (0)] cm rfl) ?_;rintro _ w1 ⟨g1,rfl,hge1,hx1,hA1⟩;have hbs1:w.heap.size≤g1:=Nat.le_trans hX.size hge1;replace hX:=aF.trans hX hx1;refine RL.nil ?_;refine ab ?_;refine RL.x rfl rfl (dF az) ?_;rintro _ w2 ⟨g2,rfl,hge2,hx2,hA2⟩;have hbs2:w.heap.size≤g2:=Nat.le_trans hX.size hge2;replace hA1:=bf.ext hA1 hx2;replace hX:=aF.trans hX hx2;replace hA2:=cJ.born (c:=c) hA2 hbs2 (by decide) (by omega) (fun _ _=>0) (b) (by omega);refine RL.p rfl rfl (cG.assign rfl) ?_;refine RL.nil ?_;refine WP.seq ?_;refine ab ?_;refine RL.p rfl rfl (cG.assign rfl) ?_;refine RL.nil ?_;refine WP.block ?_;refine WP.loop (fun mz ez uz=>∃i:Nat,∃gh:Nat,∃kh:Nat,∃ρ:Nat→Nat,(mz=r - i)∧(ez 0= .int .i64 ((r:Nat)))∧(ez 1= .int .i64 ((c:Nat)))∧(ez 4= .pointer (some ⟨g1,0,none⟩))∧(ez 5= .slice (some ⟨gh,0,none⟩) (i) (kh))∧(ez 6= .int .i64 ((i:Nat)))∧(i≤r)∧(w.heap.size≤gh)∧(aF w uz)∧(bf uz g1 28 3 (bP [.int .i64 (0),.int .i64 (0),.slice (none) (0) (0)]))∧(cJ uz w.heap.size gh kh i c ρ (fun _ _=>0) b)) (r - 0) ?_ ?_
 · exact ⟨0,_,_,_,rfl,rfl,rfl,rfl,rfl,rfl,(by omega),hbs2,hX,hA1,hA2⟩
 rintro m1 e1 w3 ⟨i,gh,kh,ρ,hm1,s0_e1,s1_e1,s4_e1,s5_e1,s6_e1,hi,hgh,hX1,hA1,hA2⟩;have hdl:=cJ.dlim hA2;refine WP.seq ?_;refine ab ?_;refine RL.p rfl rfl (cG.move s6_e1) ?_;refine RL.p rfl rfl (cG.move s0_e1) ?_;refine RL.p rfl rfl (cG.lss rfl rfl) ?_;refine RL.nil ?_;refine af (((i:Nat):Int)<((r:Nat):Int)) rfl (fun c10=> ?_) (fun c10=> ?_)
 ·
  refine WP.skip ?_;refine pv.norm ?_;refine WP.seq ?_;refine WP.block ?_;refine WP.region ?_;refine RL.p rfl rfl (cG.move s5_e1) ?_;refine RL.p rfl rfl (cG.move s1_e1) ?_;refine RL.x rfl rfl (df (c) [.bool (false),.slice (none) (0) (0)] be bE rfl rfl rfl (by omega) (by omega) (by omega) (by omega) (by decide)) ?_;rintro _ w4 ⟨g3,rfl,hge3,hx3,hA3⟩;have ne3:∀ii,ii<i→ρ ii≠g3:=fun ii hi=>Nat.ne_of_lt (Nat.lt_of_lt_of_le (cJ.rowlt hA2 hi) hge3)
  have hbs3:w.heap.size≤g3:=Nat.le_trans hX1.size hge3;replace hA1:=bf.ext hA1 hx3;replace hA2:=cJ.ext hA2 hx3;replace hX1:=aF.trans hX1 hx3;replace hA3:=lE hA3 (b) (by omega);refine RL.x rfl rfl (dl.buildSlice (vs:= [(0,.slice (some ⟨g3,0,none⟩) (c) (c))]) [.slice (none) (0) (0)] [.slice (some ⟨g3,0,none⟩) (c) (c)] az pH rfl (eX rfl) rfl (by decide) vf rfl) ?_;rintro _ w5 ⟨g4,rfl,hge4,hx4,hA4⟩;replace hA1:=bf.ext hA1 hx4;replace hA2:=cJ.ext hA2 hx4;replace hA3:=cL.ext hA3 hx4;replace hX1:=aF.trans hX1 hx4;refine RL.x rfl rfl (oA az (by decide) pH rfl rfl hA2 hA4 (AZ _ _ _ _ (Nat.le_refl _) (by omega)) hA3 (fun j hj=>rfl) hbs3 hX1.size ne3 (by omega)) ?_;rintro _ w6 ⟨hk1,gh1,km1,rfl,hN1⟩;replace hA1:=jA hA1 hk1 hA2 (by decide);replace hX1:=hX1.step hk1 (fun b e=>by subst e;exact hgh);have hbs5:w.heap.size≤gh1:=hN1.1;refine RL.p rfl rfl (cG.assign rfl) ?_;refine RL.nil ?_;refine jc.norm ?_;refine pv.norm ?_;refine WP.region ?_;refine RL.p rfl rfl (cG.move s6_e1) ?_;refine RL.p rfl rfl (cG.add (c:=((i + 1:Nat):Int)) rfl rfl (bS (by omega))) ?_;refine RL.p rfl rfl (cG.assign rfl) ?_;refine RL.nil ?_;refine pv.norm ⟨_,(by omega),i + 1,_,_,_,rfl,s0_e1,s1_e1,s4_e1,rfl,rfl,(by omega),hbs5,hX1,hA1,hN1⟩
 ·
  refine WP.exit ?_;refine pv.exit ?_;refine pv.exit ?_;refine jc.same ?_;refine pv.norm ?_;refine ab ?_;refine RL.p rfl rfl (cG.move s0_e1) ?_;refine RL.p rfl rfl (cG.move s1_e1) ?_;refine RL.p rfl rfl (cG.move s5_e1) ?_;refine RL.p rfl rfl (cG.build (vs:= [(0,.int .i64 ((r:Nat))),(1,.int .i64 ((c:Nat))),(2,.slice (some ⟨gh,0,none⟩) (i) (kh))]) [(0,1),(1,1),(2,1)] jH cm (fZ rfl rfl rfl) rfl) ?_;refine RL.x rfl rfl (dl.store [.int .i64 ((r:Nat)),.int .i64 ((c:Nat)),.slice (some ⟨gh,0,none⟩) (i) (kh)] cT s4_e1 rfl rfl hA1 (Nat.le_of_ble_eq_true rfl) (cU rfl rfl rfl)) ?_;rintro _ w7 ⟨hk2,hnew⟩;replace hA2:=bk hA2 hk2 hA1 (by decide);replace hX1:=hX1.step hk2 (fun b e=>by subst e;exact hbs1);replace hA1:=hnew.lit [.int .i64 ((r:Nat)),.int .i64 ((c:Nat)),.slice (some ⟨gh,0,none⟩) (i) (kh)] rfl;clear hnew;refine RL.nil ?_;refine WP.ret ?_;refine ⟨.agg #[.int .i64 ((r:Nat)),.int .i64 ((c:Nat)),.slice (some ⟨gh,0,none⟩) (i) (kh)],AO.one (ak [.int .i64 ((r:Nat)),.int .i64 ((c:Nat)),.slice (some ⟨gh,0,none⟩) (i) (kh)] aW s4_e1 (hA1.cells 0 _ rfl rfl)),_,rfl,hX1,?_⟩;dsimp only;have hir:i=r:=by omega
  subst hir;exact ⟨_,_,_,rfl,hA2⟩
set_option maxRecDepth 10000 in
theorem vv (w:World) (x:Value) (rx cx:Nat) (Mx:Nat→Nat→Int) (btx:Nat) (k:Value) (zk:Int) (btk:Nat) (hx:cc w x rx cx Mx btx) (hk:al w k zk btk) (hb:btx + btk≤bp):Calls Tryz.prog 73 #[x,k] w (cg w fun v w'=>cF w' v w.heap.size rx cx (fun i j=>Mx i j*zk) (btx + btk)):=by
 have hLIM:bp=562949953421312:=rfl;have hmatx:=hx;obtain ⟨sx,rfl,hrx,hcx,hSx⟩:=hx.form;refine aj (N:=43) (rs:= #[.cell 4 28]) Tryz.func73 rfl rfl rfl (Nat.le_of_ble_eq_true rfl) ?_;have hX:aF w w:=aF.refl w;refine ab ?_;refine RL.x rfl rfl (dl.box [.int .i64 ((rx:Nat)),.int .i64 ((cx:Nat)),sx] rfl rfl) ?_;rintro _ w1 ⟨g1,rfl,hge1,hx1,hA1⟩;replace hX:=aF.trans hX hx1;obtain ⟨ca1,cb1,hq1,ho1,ho2⟩:=al.cells (al.ext hk hX);have qi1:al w1 (.agg #[ca1,cb1]) zk btk:=hq1▸(al.ext hk hX);refine RL.x rfl rfl (dl.box [ca1,cb1] hq1 rfl) ?_;rintro _ w2 ⟨g2,rfl,hge2,hx2,hA2⟩;replace hA1:=bf.ext hA1 hx2;replace qi1:=al.ext qi1 hx2;replace hX:=aF.trans hX hx2;refine RL.x rfl rfl (dl.alloc [.int .i64 (0),.int .i64 (0),.slice (none) (0) (0)] cm rfl) ?_;rintro _ w3 ⟨g3,rfl,hge3,hx3,hA3⟩;have hbs3:w.heap.size≤g3:=Nat.le_trans hX.size hge3;replace hA1:=bf.ext hA1 hx3;replace qi1:=al.ext qi1 hx3;replace hA2:=bf.ext hA2 hx3;replace hX:=aF.trans hX hx3;refine RL.nil ?_;refine ab ?_;refine RL.p rfl rfl (cG.fieldAddr aV rfl) ?_;refine RL.p rfl rfl (cG.load bA rfl (hA1.at_ (i:=0) rfl rfl)) ?_;refine RL.p rfl rfl (cG.fieldAddr bs rfl) ?_;refine RL.p rfl rfl (cG.load bA rfl (hA1.at_ (i:=1) rfl rfl)) ?_;have hBw1:w.heap.size≤w3.heap.size:=hX.size;have hlt1:g2<w3.heap.size:=hA2.lt;refine RL.x rfl rfl (dl.call nG (ax rfl rfl) (nR _ rx cx (btx + btk) (by omega) (by omega) (by omega))) ?_;rintro v1 w4 ⟨hx4,q1⟩;replace hA1:=bf.ext hA1 hx4;replace qi1:=al.ext qi1 hx4;replace hA2:=bf.ext hA2 hx4;replace hA3:=bf.ext hA3 hx4;replace hX:=aF.trans hX hx4;refine RL.x rfl rfl (dl.alloc [.int .i64 (0),.int .i64 (0),.slice (none) (0) (0)] cm rfl) ?_;rintro _ w5 ⟨g4,rfl,hge4,hx5,hA4⟩;have ne4:g1≠g4:=Nat.ne_of_lt (Nat.lt_of_lt_of_le hA1.lt hge4);have ne5:g2≠g4:=Nat.ne_of_lt (Nat.lt_of_lt_of_le hA2.lt hge4);have ne6:g3≠g4:=Nat.ne_of_lt (Nat.lt_of_lt_of_le hA3.lt hge4);have hbs4:w.heap.size≤g4:=Nat.le_trans hX.size hge4;replace hA1:=bf.ext hA1 hx5;replace qi1:=al.ext qi1 hx5;replace hA2:=bf.ext hA2 hx5;replace hA3:=bf.ext hA3 hx5;replace q1:=cF.ext q1 hx5;replace hX:=aF.trans hX hx5;obtain ⟨gh1,kh1,ρ1,hq2,hM1⟩:=q1;have hd1:=cJ.dlim hM1;have hd2:=cJ.clim hM1;have ne7:∀ii,ii<rx→ρ1 ii≠g2:=fun ii hi e=>by have:=cJ.rowB hM1 hi;omega
 refine RL.x rfl rfl (dl.store [.int .i64 ((rx:Nat)),.int .i64 ((cx:Nat)),.slice (some ⟨gh1,0,none⟩) (rx) (kh1)] cT rfl hq2 rfl hA4 (Nat.le_of_ble_eq_true rfl) (cU rfl rfl rfl)) ?_;rintro _ w6 ⟨hk1,hnew⟩;replace hM1:=bk hM1 hk1 hA4 (by decide);replace hA1:=hA1.keep hk1 ne4;replace qi1:=ae qi1 hk1 hA4 (by decide);replace hA2:=hA2.keep hk1 ne5;replace hA3:=hA3.keep hk1 ne6;replace hX:=hX.step hk1 (fun b e=>by subst e;exact hbs4);replace hA4:=hnew.lit [.int .i64 ((rx:Nat)),.int .i64 ((cx:Nat)),.slice (some ⟨gh1,0,none⟩) (rx) (kh1)] rfl;clear hnew;refine RL.nil ?_;refine WP.seq ?_;refine ab ?_;refine RL.p rfl rfl (cG.assign rfl) ?_;refine RL.nil ?_;refine WP.block ?_;refine WP.loop (fun mz ez uz=>∃i:Nat,(mz=rx - i)∧(ez 2= .pointer (some ⟨g1,0,none⟩))∧(ez 3= .pointer (some ⟨g2,0,none⟩))∧(ez 4= .pointer (some ⟨g3,0,none⟩))∧(ez 5= .pointer (some ⟨g4,0,none⟩))∧(ez 6= .int .i64 ((i:Nat)))∧(i≤rx)∧(aF w uz)∧(bf uz g1 28 3 (bP [.int .i64 ((rx:Nat)),.int .i64 ((cx:Nat)),sx]))∧(al uz (.agg #[ca1,cb1]:Value) zk btk)∧(bf uz g2 49 2 (bP [ca1,cb1]))∧(bf uz g3 28 3 (bP [.int .i64 (0),.int .i64 (0),.slice (none) (0) (0)]))∧(bf uz g4 28 3 (bP [.int .i64 ((rx:Nat)),.int .i64 ((cx:Nat)),.slice (some ⟨gh1,0,none⟩) (rx) (kh1)]))∧(cJ uz w3.heap.size gh1 kh1 rx cx ρ1 (cP (fun i j=>Mx i j*zk) i 0) (btx + btk))) (rx - 0) ?_ ?_
 · exact ⟨0,rfl,rfl,rfl,rfl,rfl,rfl,(by omega),hX,hA1,qi1,hA2,hA3,hA4,bt hM1 (gL (fun i j=>Mx i j*zk))⟩
 rintro m1 e1 w7 ⟨i,hm1,s2_e1,s3_e1,s4_e1,s5_e1,s6_e1,hi,hX1,hA1,qi1,hA2,hA3,hA4,hM1⟩;refine WP.seq ?_;refine ab ?_;refine RL.p rfl rfl (cG.move s6_e1) ?_;refine RL.p rfl rfl (cG.fieldAddr aV s2_e1) ?_;refine RL.p rfl rfl (cG.load bA rfl (hA1.at_ (i:=0) rfl rfl)) ?_;refine RL.p rfl rfl (cG.lss rfl rfl) ?_;refine RL.nil ?_;refine af (((i:Nat):Int)<((rx:Nat):Int)) rfl (fun c16=> ?_) (fun c16=> ?_)
 ·
  refine WP.skip ?_;refine pv.norm ?_;refine WP.seq ?_;refine WP.block ?_;refine ab ?_;refine RL.p rfl rfl (cG.assign rfl) ?_;refine RL.nil ?_;refine WP.block ?_;refine WP.loop (fun mz ez uz=>∃j:Nat,(mz=cx - j)∧(ez 2= .pointer (some ⟨g1,0,none⟩))∧(ez 3= .pointer (some ⟨g2,0,none⟩))∧(ez 4= .pointer (some ⟨g3,0,none⟩))∧(ez 5= .pointer (some ⟨g4,0,none⟩))∧(ez 6= .int .i64 ((i:Nat)))∧(ez 7= .int .i64 ((j:Nat)))∧(j≤cx)∧(aF w uz)∧(bf uz g1 28 3 (bP [.int .i64 ((rx:Nat)),.int .i64 ((cx:Nat)),sx]))∧(al uz (.agg #[ca1,cb1]:Value) zk btk)∧(bf uz g2 49 2 (bP [ca1,cb1]))∧(bf uz g3 28 3 (bP [.int .i64 (0),.int .i64 (0),.slice (none) (0) (0)]))∧(bf uz g4 28 3 (bP [.int .i64 ((rx:Nat)),.int .i64 ((cx:Nat)),.slice (some ⟨gh1,0,none⟩) (rx) (kh1)]))∧(cJ uz w3.heap.size gh1 kh1 rx cx ρ1 (cP (fun i j=>Mx i j*zk) i j) (btx + btk))) (cx - 0) ?_ ?_
  · exact ⟨0,rfl,s2_e1,s3_e1,s4_e1,s5_e1,s6_e1,rfl,(by omega),hX1,hA1,qi1,hA2,hA3,hA4,hM1⟩
  rintro m2 e2 w8 ⟨j,hm2,s2_e2,s3_e2,s4_e2,s5_e2,s6_e2,s7_e2,hj,hX2,hA1,qi1,hA2,hA3,hA4,hM1⟩;refine WP.seq ?_;refine ab ?_;refine RL.p rfl rfl (cG.move s7_e2) ?_;refine RL.p rfl rfl (cG.fieldAddr bs s2_e2) ?_;refine RL.p rfl rfl (cG.load bA rfl (hA1.at_ (i:=1) rfl rfl)) ?_;refine RL.p rfl rfl (cG.lss rfl rfl) ?_;refine RL.nil ?_;refine af (((j:Nat):Int)<((cx:Nat):Int)) rfl (fun c22=> ?_) (fun c22=> ?_)
  ·
   refine WP.skip ?_;refine pv.norm ?_;refine WP.seq ?_;refine WP.block ?_;refine WP.ds am 17 [_,_,_,_,_,_,_,_,_,_,_,_,_,_,_,_,_] rfl rfl (fun e_ w_ Bj Bi=>⟨fun _=>aa (cG.fieldAddr ao ((Bi 5 rfl s5_e2))),fun Bh=>aa (cG.load aE ((Bh 0 rfl)) ((bf.ext hA4 Bj).at_ (i:=2) rfl rfl)),fun _=>aa (cG.move ((Bi 6 rfl s6_e2))),fun Bh=>aa (cG.index (j:=i) az ((Bh 1 rfl)) ((Bh 2 rfl)) rfl (by omega) (by omega)),fun Bh=>ag (an (i:=i) aP (Bh 3 rfl) (cJ.ext hM1 Bj) (by omega)),fun _=>aa (cG.move ((Bi 7 rfl s7_e2))),fun _=>aa (cG.fieldAddr ao ((Bi 2 rfl s2_e2))),fun Bh=>aa (cG.load aE ((Bh 6 rfl)) ((bf.ext hA1 Bj).at_ (i:=2) rfl rfl)),fun _=>aa (cG.move ((Bi 6 rfl s6_e2))),fun Bh=>ag (aS (j:=i) az (Bh 7 rfl) (ct.ext (ct.ext hSx hX2) Bj) (Bh 8 rfl) (by omega) (by omega)),fun Bh=>ag (bi aP rfl (Bh 9 rfl)),fun _=>aa (cG.move ((Bi 7 rfl s7_e2))),fun Bh=>ag (bj (j:=j) be rfl (Bh 10 rfl) (Bh 11 rfl) (by omega) (by omega)),fun Bh=>ag (bl aq rfl (Bh 12 rfl)),fun _=>aa (ah [ca1,cb1] aq ((Bi 3 rfl s3_e2)) ((bf.ext hA2 Bj).cells 0 _ rfl rfl)),fun Bh=>dl.call jJ (ax rfl ((Bh 14 rfl))) (jL _ _ _ _ _ _ _ ((btx) + (btk)) ((Bh 13 rfl)) ((al.ext qi1 Bj)) (by omega) (by omega)),fun Bh=>aa (av (j:=j) be (Bh 4 rfl) rfl (Bh 5 rfl) (by omega) (by omega)),trivial⟩) ?_;intro e3 w9 hx6 ho3 hf1;replace hA1:=bf.ext hA1 hx6;replace qi1:=al.ext qi1 hx6;replace hA2:=bf.ext hA2 hx6;replace hA3:=bf.ext hA3 hx6;replace hA4:=bf.ext hA4 hx6;replace hM1:=cJ.ext hM1 hx6;replace hX2:=aF.trans hX2 hx6;have s2_e3:=ho3 2 rfl s2_e2;have s3_e3:=ho3 3 rfl s3_e2;have s4_e3:=ho3 4 rfl s4_e2;have s5_e3:=ho3 5 rfl s5_e2;have s6_e3:=ho3 6 rfl s6_e2;have s7_e3:=ho3 7 rfl s7_e2;have s40_e3:al w9 (e3 40) (((Mx i) j:Int)*(zk:Int)) ((btx) + (btk)):=hf1 15 rfl;have s41_e3:e3 41=_:=hf1 16 rfl;refine RL.x rfl rfl (bJ (i:=i) (j:=j) aM s41_e3 rfl s40_e3 hM1 (by omega) (by omega)) ?_;rintro _ w10 ⟨hk2,hN1⟩;have hR1:=cJ.row (i:=i) hM1 (by omega);replace hA1:=aY hA1 hk2 hR1 (by decide);replace qi1:=bY qi1 hk2 hR1;replace hA2:=hA2.keep hk2 (Ne.symm (ne7 i (by omega)));replace hA3:=aY hA3 hk2 hR1 (by decide);replace hA4:=aY hA4 hk2 hR1 (by decide);replace hX2:=hX2.step hk2 (fun b e=>by subst e;exact (Nat.le_trans hBw1 (cJ.rowB (i:=i) hM1 (by omega))));replace hM1:=hN1;clear hR1;refine RL.nil ?_;refine jc.norm ?_;refine pv.norm ?_;refine WP.region ?_;refine RL.p rfl rfl (cG.move s7_e3) ?_;refine RL.p rfl rfl (cG.add (c:=((j + 1:Nat):Int)) rfl rfl (bS (by omega))) ?_;refine RL.p rfl rfl (cG.assign rfl) ?_;refine RL.nil ?_;refine pv.norm ⟨_,(by omega),j + 1,rfl,s2_e3,s3_e3,s4_e3,s5_e3,s6_e3,rfl,(by omega),hX2,hA1,qi1,hA2,hA3,hA4,bt hM1 (fz (fun i j=>Mx i j*zk) i j)⟩
  ·
   refine WP.exit ?_;refine pv.exit ?_;refine pv.exit ?_;refine jc.same ?_;refine jc.norm ?_;refine pv.norm ?_;refine WP.region ?_;refine RL.p rfl rfl (cG.move s6_e2) ?_;refine RL.p rfl rfl (cG.add (c:=((i + 1:Nat):Int)) rfl rfl (bS (by omega))) ?_;refine RL.p rfl rfl (cG.assign rfl) ?_;refine RL.nil ?_;refine pv.norm ⟨_,(by omega),i + 1,rfl,s2_e2,s3_e2,s4_e2,s5_e2,rfl,(by omega),hX2,hA1,qi1,hA2,hA3,hA4,cJ.congr hM1 fun a c2 ha hc2=>jo _ i (by omega)⟩
 ·
  refine WP.exit ?_;refine pv.exit ?_;refine pv.exit ?_;refine jc.same ?_;refine pv.norm ?_;refine ab ?_;refine RL.p rfl rfl (ah [.int .i64 ((rx:Nat)),.int .i64 ((cx:Nat)),.slice (some ⟨gh1,0,none⟩) (rx) (kh1)] aW s5_e1 (hA4.cells 0 _ rfl rfl)) ?_;refine RL.x rfl rfl (dl.store [.int .i64 ((rx:Nat)),.int .i64 ((cx:Nat)),.slice (some ⟨gh1,0,none⟩) (rx) (kh1)] cT s4_e1 rfl rfl hA3 (Nat.le_of_ble_eq_true rfl) (cU rfl rfl rfl)) ?_;rintro _ w11 ⟨hk3,hnew⟩;replace hM1:=bk hM1 hk3 hA3 (by decide);replace hX1:=hX1.step hk3 (fun b e=>by subst e;exact hbs3);replace hA3:=hnew.lit [.int .i64 ((rx:Nat)),.int .i64 ((cx:Nat)),.slice (some ⟨gh1,0,none⟩) (rx) (kh1)] rfl;clear hnew;refine RL.nil ?_;refine WP.ret ?_;refine ⟨.agg #[.int .i64 ((rx:Nat)),.int .i64 ((cx:Nat)),.slice (some ⟨gh1,0,none⟩) (rx) (kh1)],AO.one (ak [.int .i64 ((rx:Nat)),.int .i64 ((cx:Nat)),.slice (some ⟨gh1,0,none⟩) (rx) (kh1)] aW s4_e1 (hA3.cells 0 _ rfl rfl)),_,rfl,hX1,?_⟩;dsimp only;exact ⟨_,_,_,rfl,cJ.congr (cJ.low hM1 hBw1) fun a c2 ha hc2=>by rw [show i=rx by omega];exact eY _ c2 ha⟩
set_option maxRecDepth 10000 in
theorem nT (w:World) (x:Value) (rx cx:Nat) (Mx:Nat→Nat→Int) (btx:Nat) (hx:cc w x rx cx Mx btx) (hb:btx + 1≤bp):Calls Tryz.prog 28 #[x] w (cg w fun v w'=>cF w' v w.heap.size rx cx Mx (btx + 1)):=by
 have hLIM:bp=562949953421312:=rfl;have hmatx:=hx;obtain ⟨sx,rfl,hrx,hcx,hSx⟩:=hx.form;refine aj (N:=6) (rs:= #[.cell 2 28]) Tryz.func28 rfl rfl rfl (Nat.le_of_ble_eq_true rfl) ?_;have hX:aF w w:=aF.refl w;refine ab ?_;refine RL.x rfl rfl (dl.box [.int .i64 ((rx:Nat)),.int .i64 ((cx:Nat)),sx] rfl rfl) ?_;rintro _ w1 ⟨g1,rfl,hge1,hx1,hA1⟩;replace hX:=aF.trans hX hx1;refine RL.x rfl rfl (dl.alloc [.int .i64 (0),.int .i64 (0),.slice (none) (0) (0)] cm rfl) ?_;rintro _ w2 ⟨g2,rfl,hge2,hx2,hA2⟩;have hbs2:w.heap.size≤g2:=Nat.le_trans hX.size hge2;replace hA1:=bf.ext hA1 hx2;replace hX:=aF.trans hX hx2;refine RL.nil ?_;have hBw1:w.heap.size≤w2.heap.size:=hX.size;refine aH am 3 [_,_,fun v Bk=>cF Bk v w2.heap.size rx cx ((fun i j=>Mx i j*1)) (btx + 1)] rfl rfl (fun e_ w_ Bj Bi=>⟨fun _=>aa (ah [.int .i64 ((rx:Nat)),.int .i64 ((cx:Nat)),sx] aW ((Bi 1 rfl rfl)) ((bf.ext hA1 Bj).cells 0 _ rfl rfl)),fun _=>dl.call kM (aI rfl) (oV (1) (1) _ (by decide) (by decide) (by decide)),fun Bh=>dl.mono (dl.call zN (ax ((Bh 0 rfl)) rfl) (vv _ _ _ _ _ _ _ _ _ (cc.mk (ct.ext (ct.ext hSx hX) Bj) (by omega) (by omega)) (Bh 1 rfl) (by omega))) fun v Bl hv=>⟨hv.1,cF.low hv.2 Bj.size⟩,trivial⟩) ?_;intro e1 w3 hx3 ho1 hf1;replace hA2:=bf.ext hA2 hx3;replace hX:=aF.trans hX hx3;have s2_e1:e1 2=_:=ho1 2 rfl rfl;have s5_e1:cF w3 (e1 5) w2.heap.size rx cx ((fun i j=>Mx i j*1)) (btx + 1):=hf1 2 rfl;obtain ⟨gh1,kh1,ρ1,hq1,hM1⟩:=s5_e1;have hd1:=cJ.dlim hM1;have hd2:=cJ.clim hM1;refine RL.x rfl rfl (dl.store [.int .i64 ((rx:Nat)),.int .i64 ((cx:Nat)),.slice (some ⟨gh1,0,none⟩) (rx) (kh1)] cT s2_e1 hq1 rfl hA2 (Nat.le_of_ble_eq_true rfl) (cU rfl rfl rfl)) ?_;rintro _ w4 ⟨hk1,hnew⟩;replace hM1:=bk hM1 hk1 hA2 (by decide);replace hX:=hX.step hk1 (fun b e=>by subst e;exact hbs2);replace hA2:=hnew.lit [.int .i64 ((rx:Nat)),.int .i64 ((cx:Nat)),.slice (some ⟨gh1,0,none⟩) (rx) (kh1)] rfl;clear hnew;refine RL.nil ?_;refine WP.ret ?_;refine ⟨.agg #[.int .i64 ((rx:Nat)),.int .i64 ((cx:Nat)),.slice (some ⟨gh1,0,none⟩) (rx) (kh1)],AO.one (ak [.int .i64 ((rx:Nat)),.int .i64 ((cx:Nat)),.slice (some ⟨gh1,0,none⟩) (rx) (kh1)] aW s2_e1 (hA2.cells 0 _ rfl rfl)),_,rfl,hX,?_⟩;dsimp only;exact cF.congr (⟨_,_,_,rfl,cJ.low hM1 (hBw1)⟩) (fun i j _ _=>Int.mul_one _)
end Go.TL
namespace Go.TL
open Go.RowKit Go.Proofs
set_option linter.unusedVariables false
set_option linter.unusedSimpArgs false
set_option maxRecDepth 10000 in
theorem ij (w:World) (n:Nat) (hn:n≤65536):Calls Tryz.prog 47 #[.int .i64 (n:Nat)] w (cg w fun v w'=>cF w' v w.heap.size n n dA 1):=by
 have hLIM:bp=562949953421312:=rfl;refine aj (N:=22) (rs:= #[.cell 2 28]) Tryz.func47 rfl rfl rfl (Nat.le_of_ble_eq_true rfl) ?_;have hX:aF w w:=aF.refl w;refine ab ?_;refine RL.x rfl rfl (dl.alloc [.int .i64 (0),.int .i64 (0),.slice (none) (0) (0)] cm rfl) ?_;rintro _ w1 ⟨g1,rfl,hge1,hx1,hA1⟩;have hbs1:w.heap.size≤g1:=Nat.le_trans hX.size hge1;replace hX:=aF.trans hX hx1;refine RL.nil ?_;refine ab ?_;refine RL.p rfl rfl (cG.move rfl) ?_;refine RL.p rfl rfl (cG.move rfl) ?_;have hBw1:w.heap.size≤w1.heap.size:=hX.size;refine RL.x rfl rfl (dl.call nG (ax rfl rfl) (nR _ n n 1 (by omega) (by omega) (by omega))) ?_;rintro v1 w2 ⟨hx2,q1⟩;replace hA1:=bf.ext hA1 hx2;replace hX:=aF.trans hX hx2;refine RL.x rfl rfl (dl.alloc [.int .i64 (0),.int .i64 (0),.slice (none) (0) (0)] cm rfl) ?_;rintro _ w3 ⟨g2,rfl,hge2,hx3,hA2⟩;have ne1:g1≠g2:=Nat.ne_of_lt (Nat.lt_of_lt_of_le hA1.lt hge2);have hbs2:w.heap.size≤g2:=Nat.le_trans hX.size hge2;replace hA1:=bf.ext hA1 hx3;replace q1:=cF.ext q1 hx3;replace hX:=aF.trans hX hx3;obtain ⟨gh1,kh1,ρ1,hq1,hM1⟩:=q1;have hd1:=cJ.dlim hM1;have hd2:=cJ.clim hM1;refine RL.x rfl rfl (dl.store [.int .i64 ((n:Nat)),.int .i64 ((n:Nat)),.slice (some ⟨gh1,0,none⟩) (n) (kh1)] cT rfl hq1 rfl hA2 (Nat.le_of_ble_eq_true rfl) (cU rfl rfl rfl)) ?_;rintro _ w4 ⟨hk1,hnew⟩;replace hM1:=bk hM1 hk1 hA2 (by decide);replace hA1:=hA1.keep hk1 ne1;replace hX:=hX.step hk1 (fun b e=>by subst e;exact hbs2);replace hA2:=hnew.lit [.int .i64 ((n:Nat)),.int .i64 ((n:Nat)),.slice (some ⟨gh1,0,none⟩) (n) (kh1)] rfl;clear hnew;refine RL.nil ?_;refine WP.seq ?_;refine ab ?_;refine RL.p rfl rfl (cG.assign rfl) ?_;refine RL.nil ?_;refine WP.block ?_;refine WP.loop (fun mz ez uz=>∃i:Nat,(mz=n - i)∧(ez 0= .int .i64 ((n:Nat)))∧(ez 2= .pointer (some ⟨g1,0,none⟩))∧(ez 3= .pointer (some ⟨g2,0,none⟩))∧(ez 4= .int .i64 ((i:Nat)))∧(i≤n)∧(aF w uz)∧(bf uz g1 28 3 (bP [.int .i64 (0),.int .i64 (0),.slice (none) (0) (0)]))∧(bf uz g2 28 3 (bP [.int .i64 ((n:Nat)),.int .i64 ((n:Nat)),.slice (some ⟨gh1,0,none⟩) (n) (kh1)]))∧(cJ uz w1.heap.size gh1 kh1 n n ρ1 (xy i) 1)) (n - 0) ?_ ?_
 · exact ⟨0,rfl,rfl,rfl,rfl,rfl,(by omega),hX,hA1,hA2,bt hM1 wt⟩
 rintro m1 e1 w5 ⟨i,hm1,s0_e1,s2_e1,s3_e1,s4_e1,hi,hX1,hA1,hA2,hM1⟩;refine WP.seq ?_;refine ab ?_;refine RL.p rfl rfl (cG.move s4_e1) ?_;refine RL.p rfl rfl (cG.move s0_e1) ?_;refine RL.p rfl rfl (cG.lss rfl rfl) ?_;refine RL.nil ?_;refine af (((i:Nat):Int)<((n:Nat):Int)) rfl (fun c10=> ?_) (fun c10=> ?_)
 ·
  refine WP.skip ?_;refine pv.norm ?_;refine WP.seq ?_;refine WP.block ?_;refine WP.ds am 8 [_,_,_,_,_,_,_,_] rfl rfl (fun e_ w_ Bj Bi=>⟨fun _=>aa (cG.fieldAddr ao ((Bi 3 rfl s3_e1))),fun Bh=>aa (cG.load aE ((Bh 0 rfl)) ((bf.ext hA2 Bj).at_ (i:=2) rfl rfl)),fun _=>aa (cG.move ((Bi 4 rfl s4_e1))),fun Bh=>aa (cG.index (j:=i) az ((Bh 1 rfl)) ((Bh 2 rfl)) rfl (by omega) (by omega)),fun Bh=>ag (an (i:=i) aP (Bh 3 rfl) (cJ.ext hM1 Bj) (by omega)),fun _=>aa (cG.move ((Bi 4 rfl s4_e1))),fun _=>dl.call kM (aI rfl) (oV (1) (1) _ (by decide) (by decide) (by decide)),fun Bh=>aa (av (j:=i) be (Bh 4 rfl) rfl (Bh 5 rfl) (by omega) (by omega)),trivial⟩) ?_;intro e2 w6 hx4 ho1 hf1;replace hA1:=bf.ext hA1 hx4;replace hA2:=bf.ext hA2 hx4;replace hM1:=cJ.ext hM1 hx4;replace hX1:=aF.trans hX1 hx4;have s0_e2:=ho1 0 rfl s0_e1;have s2_e2:=ho1 2 rfl s2_e1;have s3_e2:=ho1 3 rfl s3_e1;have s4_e2:=ho1 4 rfl s4_e1;have s19_e2:al w6 (e2 19) 1 1:=hf1 6 rfl;have s20_e2:e2 20=_:=hf1 7 rfl;refine RL.x rfl rfl (bJ (i:=i) (j:=i) aM s20_e2 rfl s19_e2 hM1 (by omega) (by omega)) ?_;rintro _ w7 ⟨hk2,hN1⟩;have hR1:=cJ.row (i:=i) hM1 (by omega);replace hA1:=aY hA1 hk2 hR1 (by decide);replace hA2:=aY hA2 hk2 hR1 (by decide);replace hX1:=hX1.step hk2 (fun b e=>by subst e;exact (Nat.le_trans hBw1 (cJ.rowB (i:=i) hM1 (by omega))));replace hM1:=hN1;clear hR1;refine RL.nil ?_;refine jc.norm ?_;refine pv.norm ?_;refine WP.region ?_;refine RL.p rfl rfl (cG.move s4_e2) ?_;refine RL.p rfl rfl (cG.add (c:=((i + 1:Nat):Int)) rfl rfl (bS (by omega))) ?_;refine RL.p rfl rfl (cG.assign rfl) ?_;refine RL.nil ?_;refine pv.norm ⟨_,(by omega),i + 1,rfl,s0_e2,s2_e2,s3_e2,rfl,(by omega),hX1,hA1,hA2,bt hM1 (ws i)⟩
 ·
  refine WP.exit ?_;refine pv.exit ?_;refine pv.exit ?_;refine jc.same ?_;refine pv.norm ?_;refine ab ?_;refine RL.p rfl rfl (ah [.int .i64 ((n:Nat)),.int .i64 ((n:Nat)),.slice (some ⟨gh1,0,none⟩) (n) (kh1)] aW s3_e1 (hA2.cells 0 _ rfl rfl)) ?_;refine RL.x rfl rfl (dl.store [.int .i64 ((n:Nat)),.int .i64 ((n:Nat)),.slice (some ⟨gh1,0,none⟩) (n) (kh1)] cT s2_e1 rfl rfl hA1 (Nat.le_of_ble_eq_true rfl) (cU rfl rfl rfl)) ?_;rintro _ w8 ⟨hk3,hnew⟩;replace hM1:=bk hM1 hk3 hA1 (by decide);replace hX1:=hX1.step hk3 (fun b e=>by subst e;exact hbs1);replace hA1:=hnew.lit [.int .i64 ((n:Nat)),.int .i64 ((n:Nat)),.slice (some ⟨gh1,0,none⟩) (n) (kh1)] rfl;clear hnew;refine RL.nil ?_;refine WP.ret ?_;refine ⟨.agg #[.int .i64 ((n:Nat)),.int .i64 ((n:Nat)),.slice (some ⟨gh1,0,none⟩) (n) (kh1)],AO.one (ak [.int .i64 ((n:Nat)),.int .i64 ((n:Nat)),.slice (some ⟨gh1,0,none⟩) (n) (kh1)] aW s2_e1 (hA1.cells 0 _ rfl rfl)),_,rfl,hX1,?_⟩;dsimp only;exact ⟨_,_,_,rfl,cJ.congr (cJ.low hM1 hBw1) fun a c2 ha hc2=>wu c2 (by omega)⟩
set_option maxRecDepth 10000 in
theorem ys (w:World) (x:Value) (rx cx:Nat) (Mx:Nat→Nat→Int) (btx:Nat) (y:Value) (ry cy:Nat) (My:Nat→Nat→Int) (bty:Nat) (b:Nat) (hx:cc w x rx cx Mx btx) (hy:cc w y ry cy My bty) (hxy:cx=ry) (hb:btx + bty + 1≤bp) (hb2:b + 1≤bp) (hfit:∀i j k,i<rx→j<cy→k≤cx→(aN k (fun x=>Mx i x*My x j)).natAbs<2^b):Calls Tryz.prog 90 #[x,y] w (cg w fun v w'=>∃v1,v= .tuple #[v1,.int .i64 0]∧cF w' v1 w.heap.size rx cy (bH cx Mx My) b):=by
 have hLIM:bp=562949953421312:=rfl;have hmatx:=hx;obtain ⟨sx,rfl,hrx,hcx,hSx⟩:=hx.form;have hmaty:=hy;obtain ⟨sy,rfl,hry,hcy,hSy⟩:=hy.form;refine aj (N:=73) (rs:= #[.cell 4 28,.tmp 5]) Tryz.func90 rfl rfl rfl (Nat.le_of_ble_eq_true rfl) ?_;have hX:aF w w:=aF.refl w;refine ab ?_;refine RL.x rfl rfl (dl.box [.int .i64 ((rx:Nat)),.int .i64 ((cx:Nat)),sx] rfl rfl) ?_;rintro _ w1 ⟨g1,rfl,hge1,hx1,hA1⟩;replace hX:=aF.trans hX hx1;refine RL.x rfl rfl (dl.box [.int .i64 ((ry:Nat)),.int .i64 ((cy:Nat)),sy] rfl rfl) ?_;rintro _ w2 ⟨g2,rfl,hge2,hx2,hA2⟩;replace hA1:=bf.ext hA1 hx2;replace hX:=aF.trans hX hx2;refine RL.x rfl rfl (dl.alloc [.int .i64 (0),.int .i64 (0),.slice (none) (0) (0)] cm rfl) ?_;rintro _ w3 ⟨g3,rfl,hge3,hx3,hA3⟩;have hbs3:w.heap.size≤g3:=Nat.le_trans hX.size hge3;replace hA1:=bf.ext hA1 hx3;replace hA2:=bf.ext hA2 hx3;replace hX:=aF.trans hX hx3;refine RL.p rfl rfl (cG.assign rfl) ?_;refine RL.nil ?_;refine WP.seq ?_;refine ab ?_;refine RL.p rfl rfl (cG.fieldAddr bs rfl) ?_;refine RL.p rfl rfl (cG.load bA rfl (hA1.at_ (i:=1) rfl rfl)) ?_;refine RL.p rfl rfl (cG.fieldAddr aV rfl) ?_;refine RL.p rfl rfl (cG.load bA rfl (hA2.at_ (i:=0) rfl rfl)) ?_;refine RL.p rfl rfl (cG.neq rfl rfl) ?_;refine RL.nil ?_;refine af (((cx:Nat):Int)≠((ry:Nat):Int)) rfl (fun hn=>absurd hn ((by omega))) (fun c14=> ?_);refine WP.skip ?_;refine pv.norm ?_;refine ab ?_;refine RL.p rfl rfl (cG.fieldAddr aV rfl) ?_;refine RL.p rfl rfl (cG.load bA rfl (hA1.at_ (i:=0) rfl rfl)) ?_;refine RL.p rfl rfl (cG.fieldAddr bs rfl) ?_;refine RL.p rfl rfl (cG.load bA rfl (hA2.at_ (i:=1) rfl rfl)) ?_;have hBw1:w.heap.size≤w3.heap.size:=hX.size;refine RL.x rfl rfl (dl.call nG (ax rfl rfl) (nR _ rx cy b (by omega) (by omega) (by omega))) ?_;rintro v1 w4 ⟨hx4,q1⟩;replace hA1:=bf.ext hA1 hx4;replace hA2:=bf.ext hA2 hx4;replace hA3:=bf.ext hA3 hx4;replace hX:=aF.trans hX hx4;refine RL.x rfl rfl (dl.alloc [.int .i64 (0),.int .i64 (0),.slice (none) (0) (0)] cm rfl) ?_;rintro _ w5 ⟨g4,rfl,hge4,hx5,hA4⟩;have ne4:g1≠g4:=Nat.ne_of_lt (Nat.lt_of_lt_of_le hA1.lt hge4);have ne5:g2≠g4:=Nat.ne_of_lt (Nat.lt_of_lt_of_le hA2.lt hge4);have ne6:g3≠g4:=Nat.ne_of_lt (Nat.lt_of_lt_of_le hA3.lt hge4);have hbs4:w.heap.size≤g4:=Nat.le_trans hX.size hge4;replace hA1:=bf.ext hA1 hx5;replace hA2:=bf.ext hA2 hx5;replace hA3:=bf.ext hA3 hx5;replace q1:=cF.ext q1 hx5;replace hX:=aF.trans hX hx5;obtain ⟨gh1,kh1,ρ1,hq1,hM1⟩:=q1;have hd1:=cJ.dlim hM1;have hd2:=cJ.clim hM1;refine RL.x rfl rfl (dl.store [.int .i64 ((rx:Nat)),.int .i64 ((cy:Nat)),.slice (some ⟨gh1,0,none⟩) (rx) (kh1)] cT rfl hq1 rfl hA4 (Nat.le_of_ble_eq_true rfl) (cU rfl rfl rfl)) ?_;rintro _ w6 ⟨hk1,hnew⟩;replace hM1:=bk hM1 hk1 hA4 (by decide);replace hA1:=hA1.keep hk1 ne4;replace hA2:=hA2.keep hk1 ne5;replace hA3:=hA3.keep hk1 ne6;replace hX:=hX.step hk1 (fun b e=>by subst e;exact hbs4);replace hA4:=hnew.lit [.int .i64 ((rx:Nat)),.int .i64 ((cy:Nat)),.slice (some ⟨gh1,0,none⟩) (rx) (kh1)] rfl;clear hnew;refine RL.nil ?_;refine WP.seq ?_;refine ab ?_;refine RL.p rfl rfl (cG.assign rfl) ?_;refine RL.nil ?_;refine WP.block ?_;refine WP.loop (fun mz ez uz=>∃i:Nat,(mz=rx - i)∧(ez 2= .pointer (some ⟨g1,0,none⟩))∧(ez 3= .pointer (some ⟨g2,0,none⟩))∧(ez 4= .pointer (some ⟨g3,0,none⟩))∧(ez 5= .int .i64 (0))∧(ez 6= .pointer (some ⟨g4,0,none⟩))∧(ez 7= .int .i64 ((i:Nat)))∧(i≤rx)∧(aF w uz)∧(bf uz g1 28 3 (bP [.int .i64 ((rx:Nat)),.int .i64 ((cx:Nat)),sx]))∧(bf uz g2 28 3 (bP [.int .i64 ((ry:Nat)),.int .i64 ((cy:Nat)),sy]))∧(bf uz g3 28 3 (bP [.int .i64 (0),.int .i64 (0),.slice (none) (0) (0)]))∧(bf uz g4 28 3 (bP [.int .i64 ((rx:Nat)),.int .i64 ((cy:Nat)),.slice (some ⟨gh1,0,none⟩) (rx) (kh1)]))∧(cJ uz w3.heap.size gh1 kh1 rx cy ρ1 (cP (bH cx Mx My) i 0) b)) (rx - 0) ?_ ?_
 · exact ⟨0,rfl,rfl,rfl,rfl,rfl,rfl,rfl,(by omega),hX,hA1,hA2,hA3,hA4,bt hM1 (gL (bH cx Mx My))⟩
 rintro m1 e1 w7 ⟨i,hm1,s2_e1,s3_e1,s4_e1,s5_e1,s6_e1,s7_e1,hi,hX1,hA1,hA2,hA3,hA4,hM1⟩;refine WP.seq ?_;refine ab ?_;refine RL.p rfl rfl (cG.move s7_e1) ?_;refine RL.p rfl rfl (cG.fieldAddr aV s2_e1) ?_;refine RL.p rfl rfl (cG.load bA rfl (hA1.at_ (i:=0) rfl rfl)) ?_;refine RL.p rfl rfl (cG.lss rfl rfl) ?_;refine RL.nil ?_;refine af (((i:Nat):Int)<((rx:Nat):Int)) rfl (fun c24=> ?_) (fun c24=> ?_)
 ·
  refine WP.skip ?_;refine pv.norm ?_;refine WP.seq ?_;refine WP.block ?_;refine ab ?_;refine RL.p rfl rfl (cG.assign rfl) ?_;refine RL.nil ?_;refine WP.block ?_;refine WP.loop (fun mz ez uz=>∃j:Nat,(mz=cy - j)∧(ez 2= .pointer (some ⟨g1,0,none⟩))∧(ez 3= .pointer (some ⟨g2,0,none⟩))∧(ez 4= .pointer (some ⟨g3,0,none⟩))∧(ez 5= .int .i64 (0))∧(ez 6= .pointer (some ⟨g4,0,none⟩))∧(ez 7= .int .i64 ((i:Nat)))∧(ez 8= .int .i64 ((j:Nat)))∧(j≤cy)∧(aF w uz)∧(bf uz g1 28 3 (bP [.int .i64 ((rx:Nat)),.int .i64 ((cx:Nat)),sx]))∧(bf uz g2 28 3 (bP [.int .i64 ((ry:Nat)),.int .i64 ((cy:Nat)),sy]))∧(bf uz g3 28 3 (bP [.int .i64 (0),.int .i64 (0),.slice (none) (0) (0)]))∧(bf uz g4 28 3 (bP [.int .i64 ((rx:Nat)),.int .i64 ((cy:Nat)),.slice (some ⟨gh1,0,none⟩) (rx) (kh1)]))∧(cJ uz w3.heap.size gh1 kh1 rx cy ρ1 (cP (bH cx Mx My) i j) b)) (cy - 0) ?_ ?_
  · exact ⟨0,rfl,s2_e1,s3_e1,s4_e1,s5_e1,s6_e1,s7_e1,rfl,(by omega),hX1,hA1,hA2,hA3,hA4,hM1⟩
  rintro m2 e2 w8 ⟨j,hm2,s2_e2,s3_e2,s4_e2,s5_e2,s6_e2,s7_e2,s8_e2,hj,hX2,hA1,hA2,hA3,hA4,hM1⟩;refine WP.seq ?_;refine ab ?_;refine RL.p rfl rfl (cG.move s8_e2) ?_;refine RL.p rfl rfl (cG.fieldAddr bs s3_e2) ?_;refine RL.p rfl rfl (cG.load bA rfl (hA2.at_ (i:=1) rfl rfl)) ?_;refine RL.p rfl rfl (cG.lss rfl rfl) ?_;refine RL.nil ?_;refine af (((j:Nat):Int)<((cy:Nat):Int)) rfl (fun c30=> ?_) (fun c30=> ?_)
  ·
   refine WP.skip ?_;refine pv.norm ?_;refine WP.seq ?_;refine WP.block ?_;refine ab ?_;refine RL.p rfl rfl (cG.assign rfl) ?_;refine RL.nil ?_;refine WP.block ?_;refine WP.loop (fun mz ez uz=>∃k:Nat,(mz=cx - k)∧(ez 2= .pointer (some ⟨g1,0,none⟩))∧(ez 3= .pointer (some ⟨g2,0,none⟩))∧(ez 4= .pointer (some ⟨g3,0,none⟩))∧(ez 5= .int .i64 (0))∧(ez 6= .pointer (some ⟨g4,0,none⟩))∧(ez 7= .int .i64 ((i:Nat)))∧(ez 8= .int .i64 ((j:Nat)))∧(ez 9= .int .i64 ((k:Nat)))∧(k≤cx)∧(aF w uz)∧(bf uz g1 28 3 (bP [.int .i64 ((rx:Nat)),.int .i64 ((cx:Nat)),sx]))∧(bf uz g2 28 3 (bP [.int .i64 ((ry:Nat)),.int .i64 ((cy:Nat)),sy]))∧(bf uz g3 28 3 (bP [.int .i64 (0),.int .i64 (0),.slice (none) (0) (0)]))∧(bf uz g4 28 3 (bP [.int .i64 ((rx:Nat)),.int .i64 ((cy:Nat)),.slice (some ⟨gh1,0,none⟩) (rx) (kh1)]))∧(cJ uz w3.heap.size gh1 kh1 rx cy ρ1 (eh (cP (bH cx Mx My) i j) i j (aN k (fun x=>Mx i x*My x j))) b)) (cx - 0) ?_ ?_
   · exact ⟨0,rfl,s2_e2,s3_e2,s4_e2,s5_e2,s6_e2,s7_e2,s8_e2,rfl,(by omega),hX2,hA1,hA2,hA3,hA4,bt hM1 (mul_zero _ i j)⟩
   rintro m3 e3 w9 ⟨k,hm3,s2_e3,s3_e3,s4_e3,s5_e3,s6_e3,s7_e3,s8_e3,s9_e3,hk,hX3,hA1,hA2,hA3,hA4,hM1⟩;refine WP.seq ?_;refine ab ?_;refine RL.p rfl rfl (cG.move s9_e3) ?_;refine RL.p rfl rfl (cG.fieldAddr bs s2_e3) ?_;refine RL.p rfl rfl (cG.load bA rfl (hA1.at_ (i:=1) rfl rfl)) ?_;refine RL.p rfl rfl (cG.lss rfl rfl) ?_;refine RL.nil ?_;refine af (((k:Nat):Int)<((cx:Nat):Int)) rfl (fun c36=> ?_) (fun c36=> ?_)
   ·
    refine WP.skip ?_;refine pv.norm ?_;refine WP.seq ?_;refine WP.block ?_;refine WP.ds (hmono:=⟨⟨ac _,ac _,ac _,ac _,cn _ _,ac _,ac _,ac _,ac _,ac _,cn _ _,ac _,ac _,bC _ _,ac _,ac _,ac _,jq _ _ _,jp _ _ _,ac _,jr _ _,bC _ _,ac _,ac _,ac _,jq _ _ _,jp _ _ _,ac _,jr _ _,bC _ _,bC _ _,bC _ _,ac _,trivial⟩⟩) am 33 (_::_::_:: [_,_,_,_,_,_,_,_,_,_,_,_,_,_,_,_,_,_,_,_,_,_,_,_,_,_,_,_,_,_]) rfl rfl (fun e_ w_ Bj Bi=>⟨fun _=>aa (cG.fieldAddr ao ((Bi 6 rfl s6_e3))),fun Bh=>aa (cG.load aE ((Bh 0 rfl)) ((bf.ext hA4 Bj).at_ (i:=2) rfl rfl)),fun _=>aa (cG.move ((Bi 7 rfl s7_e3))),fun Bh=>aa (cG.index (j:=i) az ((Bh 1 rfl)) ((Bh 2 rfl)) rfl (by omega) (by omega)),fun Bh=>ag (an (i:=i) aP (Bh 3 rfl) (cJ.ext hM1 Bj) (by omega)),fun _=>aa (cG.move ((Bi 8 rfl s8_e3))),fun _=>aa (cG.fieldAddr ao ((Bi 6 rfl s6_e3))),fun Bh=>aa (cG.load aE ((Bh 6 rfl)) ((bf.ext hA4 Bj).at_ (i:=2) rfl rfl)),fun _=>aa (cG.move ((Bi 7 rfl s7_e3))),fun Bh=>aa (cG.index (j:=i) az ((Bh 7 rfl)) ((Bh 8 rfl)) rfl (by omega) (by omega)),fun Bh=>ag (an (i:=i) aP (Bh 9 rfl) (cJ.ext hM1 Bj) (by omega)),fun _=>aa (cG.move ((Bi 8 rfl s8_e3))),fun Bh=>aa (av (j:=j) be (Bh 10 rfl) rfl (Bh 11 rfl) (by omega) (by omega)),fun Bh=>ag (aO (j:=j) aq (Bh 12 rfl) (cJ.row (cJ.ext hM1 Bj) (by omega)) (by omega)),fun _=>aa (cG.fieldAddr ao ((Bi 2 rfl s2_e3))),fun Bh=>aa (cG.load aE ((Bh 14 rfl)) ((bf.ext hA1 Bj).at_ (i:=2) rfl rfl)),fun _=>aa (cG.move ((Bi 7 rfl s7_e3))),fun Bh=>ag (aS (j:=i) az (Bh 15 rfl) (ct.ext (ct.ext hSx hX3) Bj) (Bh 16 rfl) (by omega) (by omega)),fun Bh=>ag (bi aP rfl (Bh 17 rfl)),fun _=>aa (cG.move ((Bi 9 rfl s9_e3))),fun Bh=>ag (bj (j:=k) be rfl (Bh 18 rfl) (Bh 19 rfl) (by omega) (by omega)),fun Bh=>ag (bl aq rfl (Bh 20 rfl)),fun _=>aa (cG.fieldAddr ao ((Bi 3 rfl s3_e3))),fun Bh=>aa (cG.load aE ((Bh 22 rfl)) ((bf.ext hA2 Bj).at_ (i:=2) rfl rfl)),fun _=>aa (cG.move ((Bi 9 rfl s9_e3))),fun Bh=>ag (aS (j:=k) az (Bh 23 rfl) (ct.ext (ct.ext hSy hX3) Bj) (Bh 24 rfl) (by omega) (by omega)),fun Bh=>ag (bi aP rfl (Bh 25 rfl)),fun _=>aa (cG.move ((Bi 8 rfl s8_e3))),fun Bh=>ag (bj (j:=j) be rfl (Bh 26 rfl) (Bh 27 rfl) (by omega) (by omega)),fun Bh=>ag (bl aq rfl (Bh 28 rfl)),fun Bh=>dl.call jJ (ax rfl rfl) (jL _ _ _ _ _ _ _ ((btx) + (bty)) ((Bh 21 rfl)) ((Bh 29 rfl)) (by omega) (by omega)),fun Bh=>dl.call kL (ax rfl rfl) (lc _ _ _ _ _ _ _ (max (b) ((btx) + (bty)) + 1) ((Bh 13 rfl)) ((Bh 30 rfl)) (by omega) (by omega) (by omega)),fun Bh=>aa (av (j:=j) be (Bh 4 rfl) rfl (Bh 5 rfl) (by omega) (by omega)),trivial⟩) ?_;intro e4 w10 hx6 ho1 hf1;replace hA1:=bf.ext hA1 hx6;replace hA2:=bf.ext hA2 hx6;replace hA3:=bf.ext hA3 hx6;replace hA4:=bf.ext hA4 hx6;replace hM1:=cJ.ext hM1 hx6;replace hX3:=aF.trans hX3 hx6;have s2_e4:=ho1 2 rfl s2_e3;have s3_e4:=ho1 3 rfl s3_e3;have s4_e4:=ho1 4 rfl s4_e3;have s5_e4:=ho1 5 rfl s5_e3;have s6_e4:=ho1 6 rfl s6_e3;have s7_e4:=ho1 7 rfl s7_e3;have s8_e4:=ho1 8 rfl s8_e3;have s9_e4:=ho1 9 rfl s9_e3;have s70_e4:al w10 (e4 70) (((eh (cP (bH cx Mx My) i j) i j (aN k (fun x=>Mx i x*My x j))) i j:Int) + (((Mx i) k:Int)*((My k) j:Int):Int)) (max (b) ((btx) + (bty)) + 1):=hf1 31 rfl;have s71_e4:e4 71=_:=hf1 32 rfl;refine RL.x rfl rfl (bJ (i:=i) (j:=j) aM s71_e4 rfl (al.eq s70_e4 (by rw [ri];rfl) (hfit i j (k + 1) (by omega) (by omega) (by omega)) (by omega)) hM1 (by omega) (by omega)) ?_;rintro _ w11 ⟨hk2,hN1⟩;have hR1:=cJ.row (i:=i) hM1 (by omega);replace hA1:=aY hA1 hk2 hR1 (by decide);replace hA2:=aY hA2 hk2 hR1 (by decide);replace hA3:=aY hA3 hk2 hR1 (by decide);replace hA4:=aY hA4 hk2 hR1 (by decide);replace hX3:=hX3.step hk2 (fun b e=>by subst e;exact (Nat.le_trans hBw1 (cJ.rowB (i:=i) hM1 (by omega))));replace hM1:=hN1;clear hR1;refine RL.nil ?_;refine jc.norm ?_;refine pv.norm ?_;refine WP.region ?_;refine RL.p rfl rfl (cG.move s9_e4) ?_;refine RL.p rfl rfl (cG.add (c:=((k + 1:Nat):Int)) rfl rfl (bS (by omega))) ?_;refine RL.p rfl rfl (cG.assign rfl) ?_;refine RL.nil ?_;refine pv.norm ⟨_,(by omega),k + 1,rfl,s2_e4,s3_e4,s4_e4,s5_e4,s6_e4,s7_e4,s8_e4,rfl,(by omega),hX3,hA1,hA2,hA3,hA4,bt hM1 (rf _ _ _ _ _)⟩
   ·
    refine WP.exit ?_;refine pv.exit ?_;refine pv.exit ?_;refine jc.same ?_;refine jc.norm ?_;refine pv.norm ?_;refine WP.region ?_;refine RL.p rfl rfl (cG.move s8_e3) ?_;refine RL.p rfl rfl (cG.add (c:=((j + 1:Nat):Int)) rfl rfl (bS (by omega))) ?_;refine RL.p rfl rfl (cG.assign rfl) ?_;refine RL.nil ?_;refine pv.norm ⟨_,(by omega),j + 1,rfl,s2_e3,s3_e3,s4_e3,s5_e3,s6_e3,s7_e3,rfl,(by omega),hX3,hA1,hA2,hA3,hA4,bt hM1 (by rw [show k=cx by omega];exact fz (bH cx Mx My) i j)⟩
  ·
   refine WP.exit ?_;refine pv.exit ?_;refine pv.exit ?_;refine jc.same ?_;refine jc.norm ?_;refine pv.norm ?_;refine WP.region ?_;refine RL.p rfl rfl (cG.move s7_e2) ?_;refine RL.p rfl rfl (cG.add (c:=((i + 1:Nat):Int)) rfl rfl (bS (by omega))) ?_;refine RL.p rfl rfl (cG.assign rfl) ?_;refine RL.nil ?_;refine pv.norm ⟨_,(by omega),i + 1,rfl,s2_e2,s3_e2,s4_e2,s5_e2,s6_e2,rfl,(by omega),hX2,hA1,hA2,hA3,hA4,cJ.congr hM1 fun a c2 ha hc2=>jo _ i (by omega)⟩
 ·
  refine WP.exit ?_;refine pv.exit ?_;refine pv.exit ?_;refine jc.same ?_;refine pv.norm ?_;refine ab ?_;refine RL.p rfl rfl (ah [.int .i64 ((rx:Nat)),.int .i64 ((cy:Nat)),.slice (some ⟨gh1,0,none⟩) (rx) (kh1)] aW s6_e1 (hA4.cells 0 _ rfl rfl)) ?_;refine RL.x rfl rfl (dl.store [.int .i64 ((rx:Nat)),.int .i64 ((cy:Nat)),.slice (some ⟨gh1,0,none⟩) (rx) (kh1)] cT s4_e1 rfl rfl hA3 (Nat.le_of_ble_eq_true rfl) (cU rfl rfl rfl)) ?_;rintro _ w12 ⟨hk3,hnew⟩;replace hM1:=bk hM1 hk3 hA3 (by decide);replace hX1:=hX1.step hk3 (fun b e=>by subst e;exact hbs3);replace hA3:=hnew.lit [.int .i64 ((rx:Nat)),.int .i64 ((cy:Nat)),.slice (some ⟨gh1,0,none⟩) (rx) (kh1)] rfl;clear hnew;refine RL.p rfl rfl (cG.assign rfl) ?_;refine RL.nil ?_;refine WP.ret ?_;refine ⟨.tuple #[.agg #[.int .i64 ((rx:Nat)),.int .i64 ((cy:Nat)),.slice (some ⟨gh1,0,none⟩) (rx) (kh1)],.int .i64 (0)],dn (ak [.int .i64 ((rx:Nat)),.int .i64 ((cy:Nat)),.slice (some ⟨gh1,0,none⟩) (rx) (kh1)] aW s4_e1 (hA3.cells 0 _ rfl rfl)) (fR.tmp rfl),_,rfl,hX1,?_⟩;dsimp only;exact ⟨_,rfl,_,_,_,rfl,cJ.congr (cJ.low hM1 hBw1) fun a c2 ha hc2=>by rw [show i=rx by omega];exact eY _ c2 ha⟩
set_option maxRecDepth 10000 in
theorem mb (w:World) (x:Value) (rx cx:Nat) (Mx:Nat→Nat→Int) (btx:Nat) (y:Value) (ry cy:Nat) (My:Nat→Nat→Int) (bty:Nat) (b:Nat) (hx:cc w x rx cx Mx btx) (hy:cc w y ry cy My bty) (hxy:cx=ry) (hb:btx + bty + 1≤bp) (hb2:b + 1≤bp) (hfit:∀i j k,i<rx→j<cy→k≤cx→(aN k (fun x=>Mx i x*My x j)).natAbs<2^b):Calls Tryz.prog 46 #[x,y] w (cg w fun v w'=>cF w' v w.heap.size rx cy (bH cx Mx My) b):=by
 have hLIM:bp=562949953421312:=rfl;have hmatx:=hx;obtain ⟨sx,rfl,hrx,hcx,hSx⟩:=hx.form;have hmaty:=hy;obtain ⟨sy,rfl,hry,hcy,hSy⟩:=hy.form;refine aj (N:=14) (rs:= #[.cell 4 28]) Tryz.func46 rfl rfl rfl (Nat.le_of_ble_eq_true rfl) ?_;have hX:aF w w:=aF.refl w;refine ab ?_;refine RL.x rfl rfl (dl.box [.int .i64 ((rx:Nat)),.int .i64 ((cx:Nat)),sx] rfl rfl) ?_;rintro _ w1 ⟨g1,rfl,hge1,hx1,hA1⟩;replace hX:=aF.trans hX hx1;refine RL.x rfl rfl (dl.box [.int .i64 ((ry:Nat)),.int .i64 ((cy:Nat)),sy] rfl rfl) ?_;rintro _ w2 ⟨g2,rfl,hge2,hx2,hA2⟩;replace hA1:=bf.ext hA1 hx2;replace hX:=aF.trans hX hx2;refine RL.x rfl rfl (dl.alloc [.int .i64 (0),.int .i64 (0),.slice (none) (0) (0)] cm rfl) ?_;rintro _ w3 ⟨g3,rfl,hge3,hx3,hA3⟩;have hbs3:w.heap.size≤g3:=Nat.le_trans hX.size hge3;replace hA1:=bf.ext hA1 hx3;replace hA2:=bf.ext hA2 hx3;replace hX:=aF.trans hX hx3;refine RL.nil ?_;refine ab ?_;refine RL.p rfl rfl (ah [.int .i64 ((rx:Nat)),.int .i64 ((cx:Nat)),sx] aW rfl (hA1.cells 0 _ rfl rfl)) ?_;refine RL.p rfl rfl (ah [.int .i64 ((ry:Nat)),.int .i64 ((cy:Nat)),sy] aW rfl (hA2.cells 0 _ rfl rfl)) ?_;refine RL.x rfl rfl (dl.call zD (ax rfl rfl) (ys _ _ _ _ _ _ _ _ _ _ _ b (cc.mk (ct.ext hSx hX) (by omega) (by omega)) (cc.mk (ct.ext hSy hX) (by omega) (by omega)) hxy hb hb2 hfit)) ?_;rintro _ w4 ⟨hx4,v1,rfl,q1⟩;have hBw1:w.heap.size≤w3.heap.size:=hX.size;replace hA3:=bf.ext hA3 hx4;replace hX:=aF.trans hX hx4;refine RL.p rfl rfl (cG.move rfl) ?_;refine RL.p rfl rfl (cG.extract rfl rfl) ?_;refine RL.p rfl rfl (cG.extract rfl rfl) ?_;refine RL.x rfl rfl (dl.alloc [.int .i64 (0),.int .i64 (0),.slice (none) (0) (0)] cm rfl) ?_;rintro _ w5 ⟨g4,rfl,hge4,hx5,hA4⟩;have ne6:g3≠g4:=Nat.ne_of_lt (Nat.lt_of_lt_of_le hA3.lt hge4);have hbs4:w.heap.size≤g4:=Nat.le_trans hX.size hge4;replace hA3:=bf.ext hA3 hx5;replace q1:=cF.ext q1 hx5;replace hX:=aF.trans hX hx5;obtain ⟨gh1,kh1,ρ1,hq1,hM1⟩:=q1;have hd1:=cJ.dlim hM1;have hd2:=cJ.clim hM1;refine RL.x rfl rfl (dl.store [.int .i64 ((rx:Nat)),.int .i64 ((cy:Nat)),.slice (some ⟨gh1,0,none⟩) (rx) (kh1)] cT rfl hq1 rfl hA4 (Nat.le_of_ble_eq_true rfl) (cU rfl rfl rfl)) ?_;rintro _ w6 ⟨hk1,hnew⟩;replace hM1:=bk hM1 hk1 hA4 (by decide);replace hA3:=hA3.keep hk1 ne6;replace hX:=hX.step hk1 (fun b e=>by subst e;exact hbs4);replace hA4:=hnew.lit [.int .i64 ((rx:Nat)),.int .i64 ((cy:Nat)),.slice (some ⟨gh1,0,none⟩) (rx) (kh1)] rfl;clear hnew;refine RL.p rfl rfl (cG.assign rfl) ?_;refine RL.nil ?_;refine ab ?_;refine RL.p rfl rfl (ah [.int .i64 ((rx:Nat)),.int .i64 ((cy:Nat)),.slice (some ⟨gh1,0,none⟩) (rx) (kh1)] aW rfl (hA4.cells 0 _ rfl rfl)) ?_;refine RL.x rfl rfl (dl.store [.int .i64 ((rx:Nat)),.int .i64 ((cy:Nat)),.slice (some ⟨gh1,0,none⟩) (rx) (kh1)] cT rfl rfl rfl hA3 (Nat.le_of_ble_eq_true rfl) (cU rfl rfl rfl)) ?_;rintro _ w7 ⟨hk2,hnew⟩;replace hM1:=bk hM1 hk2 hA3 (by decide);replace hX:=hX.step hk2 (fun b e=>by subst e;exact hbs3);replace hA3:=hnew.lit [.int .i64 ((rx:Nat)),.int .i64 ((cy:Nat)),.slice (some ⟨gh1,0,none⟩) (rx) (kh1)] rfl;clear hnew;refine RL.nil ?_;refine WP.ret ?_;refine ⟨.agg #[.int .i64 ((rx:Nat)),.int .i64 ((cy:Nat)),.slice (some ⟨gh1,0,none⟩) (rx) (kh1)],AO.one (ak [.int .i64 ((rx:Nat)),.int .i64 ((cy:Nat)),.slice (some ⟨gh1,0,none⟩) (rx) (kh1)] aW rfl (hA3.cells 0 _ rfl rfl)),_,rfl,hX,?_⟩;dsimp only;exact ⟨_,_,_,rfl,cJ.low hM1 (hBw1)⟩
end Go.TL
namespace Go.TL
open Go.RowKit Go.Proofs
set_option linter.unusedVariables false
set_option linter.unusedSimpArgs false
set_option maxRecDepth 10000 in
theorem tA (w:World) (r:Nat) (c:Nat) (l:Value) (n:Nat) (f:Nat→Int) (hr:r≤16) (hc:c≤16) (hl:eG .i8 57 w l n f):Calls Tryz.prog 37 #[.int .i64 (r:Nat),.int .i64 (c:Nat),l] w (cg w fun v w'=>cF w' v w.heap.size r c (cV f n c) 4):=by
 have hLIM:bp=562949953421312:=rfl;have hln:n<9223372036854775808:=by obtain ⟨_,_,_,h2,h3,_⟩:=hl;omega
 refine aj (N:=60) (rs:= #[.cell 6 28]) Tryz.func37 rfl rfl rfl (Nat.le_of_ble_eq_true rfl) ?_;have hX:aF w w:=aF.refl w;refine ab ?_;refine RL.x rfl rfl (dl.alloc [.int .i64 (0),.int .i64 (0),.slice (none) (0) (0)] cm rfl) ?_;rintro _ w1 ⟨g1,rfl,hge1,hx1,hA1⟩;have hbs1:w.heap.size≤g1:=Nat.le_trans hX.size hge1;replace hX:=aF.trans hX hx1;refine RL.nil ?_;refine ab ?_;refine RL.p rfl rfl (cG.move rfl) ?_;refine RL.p rfl rfl (cG.max (c:=((r:Nat):Int)) rfl rfl (by omega)) ?_;refine RL.p rfl rfl (cG.min (c:=((r:Nat):Int)) rfl rfl (by omega)) ?_;refine RL.p rfl rfl (cG.move rfl) ?_;refine RL.p rfl rfl (cG.max (c:=((c:Nat):Int)) rfl rfl (by omega)) ?_;refine RL.p rfl rfl (cG.min (c:=((c:Nat):Int)) rfl rfl (by omega)) ?_;have hBw1:w.heap.size≤w1.heap.size:=hX.size;refine RL.x rfl rfl (dl.call nG (ax rfl rfl) (nR _ r c 4 (by omega) (by omega) (by omega))) ?_;rintro v1 w2 ⟨hx2,q1⟩;replace hA1:=bf.ext hA1 hx2;replace hX:=aF.trans hX hx2;refine RL.x rfl rfl (dl.alloc [.int .i64 (0),.int .i64 (0),.slice (none) (0) (0)] cm rfl) ?_;rintro _ w3 ⟨g2,rfl,hge2,hx3,hA2⟩;have ne1:g1≠g2:=Nat.ne_of_lt (Nat.lt_of_lt_of_le hA1.lt hge2);have hbs2:w.heap.size≤g2:=Nat.le_trans hX.size hge2;replace hA1:=bf.ext hA1 hx3;replace q1:=cF.ext q1 hx3;replace hX:=aF.trans hX hx3;obtain ⟨gh1,kh1,ρ1,hq1,hM1⟩:=q1;have hd1:=cJ.dlim hM1;have hd2:=cJ.clim hM1;refine RL.x rfl rfl (dl.store [.int .i64 ((r:Nat)),.int .i64 ((c:Nat)),.slice (some ⟨gh1,0,none⟩) (r) (kh1)] cT rfl hq1 rfl hA2 (Nat.le_of_ble_eq_true rfl) (cU rfl rfl rfl)) ?_;rintro _ w4 ⟨hk1,hnew⟩;replace hM1:=bk hM1 hk1 hA2 (by decide);replace hA1:=hA1.keep hk1 ne1;replace hX:=hX.step hk1 (fun b e=>by subst e;exact hbs2);replace hA2:=hnew.lit [.int .i64 ((r:Nat)),.int .i64 ((c:Nat)),.slice (some ⟨gh1,0,none⟩) (r) (kh1)] rfl;clear hnew;refine RL.nil ?_;refine WP.seq ?_;refine ab ?_;refine RL.p rfl rfl (cG.assign rfl) ?_;refine RL.nil ?_;refine WP.block ?_;refine WP.loop (fun mz ez uz=>∃i:Nat,(mz=r - i)∧(ez 2=l)∧(ez 6= .pointer (some ⟨g1,0,none⟩))∧(ez 7= .pointer (some ⟨g2,0,none⟩))∧(ez 8= .int .i64 ((i:Nat)))∧(i≤r)∧(aF w uz)∧(bf uz g1 28 3 (bP [.int .i64 (0),.int .i64 (0),.slice (none) (0) (0)]))∧(bf uz g2 28 3 (bP [.int .i64 ((r:Nat)),.int .i64 ((c:Nat)),.slice (some ⟨gh1,0,none⟩) (r) (kh1)]))∧(cJ uz w1.heap.size gh1 kh1 r c ρ1 (cP (cV f n c) i 0) 4)) (r - 0) ?_ ?_
 · exact ⟨0,rfl,rfl,rfl,rfl,rfl,(by omega),hX,hA1,hA2,bt hM1 (gL (cV f n c))⟩
 rintro m1 e1 w5 ⟨i,hm1,s2_e1,s6_e1,s7_e1,s8_e1,hi,hX1,hA1,hA2,hM1⟩;refine WP.seq ?_;refine ab ?_;refine RL.p rfl rfl (cG.move s8_e1) ?_;refine RL.p rfl rfl (cG.fieldAddr aV s7_e1) ?_;refine RL.p rfl rfl (cG.load bA rfl (hA2.at_ (i:=0) rfl rfl)) ?_;refine RL.p rfl rfl (cG.lss rfl rfl) ?_;refine RL.nil ?_;refine af (((i:Nat):Int)<((r:Nat):Int)) rfl (fun c20=> ?_) (fun c20=> ?_)
 ·
  refine WP.skip ?_;refine pv.norm ?_;refine WP.seq ?_;refine WP.block ?_;refine ab ?_;refine RL.p rfl rfl (cG.assign rfl) ?_;refine RL.nil ?_;refine WP.block ?_;refine WP.loop (fun mz ez uz=>∃j:Nat,(mz=c - j)∧(ez 2=l)∧(ez 6= .pointer (some ⟨g1,0,none⟩))∧(ez 7= .pointer (some ⟨g2,0,none⟩))∧(ez 8= .int .i64 ((i:Nat)))∧(ez 9= .int .i64 ((j:Nat)))∧(j≤c)∧(aF w uz)∧(bf uz g1 28 3 (bP [.int .i64 (0),.int .i64 (0),.slice (none) (0) (0)]))∧(bf uz g2 28 3 (bP [.int .i64 ((r:Nat)),.int .i64 ((c:Nat)),.slice (some ⟨gh1,0,none⟩) (r) (kh1)]))∧(cJ uz w1.heap.size gh1 kh1 r c ρ1 (cP (cV f n c) i j) 4)) (c - 0) ?_ ?_
  · exact ⟨0,rfl,s2_e1,s6_e1,s7_e1,s8_e1,rfl,(by omega),hX1,hA1,hA2,hM1⟩
  rintro m2 e2 w6 ⟨j,hm2,s2_e2,s6_e2,s7_e2,s8_e2,s9_e2,hj,hX2,hA1,hA2,hM1⟩;have hic:i*c≤16*16:=Nat.mul_le_mul (by omega) (by omega);refine WP.seq ?_;refine aH am 15 [_,_,_,_,fun v Bk=>v= .bool (decide (((j:Nat):Int)<((c:Nat):Int))),_,_,_,_,_,_,_,_,_,_] rfl rfl (fun e_ w_ Bj Bi=>⟨fun _=>aa (cG.move ((Bi 9 rfl s9_e2))),fun _=>aa (cG.fieldAddr bs ((Bi 7 rfl s7_e2))),fun Bh=>aa (cG.load bA ((Bh 1 rfl)) ((bf.ext hA2 Bj).at_ (i:=1) rfl rfl)),fun Bh=>aa (cG.lss ((Bh 0 rfl)) ((Bh 2 rfl))),fun Bh=>aa (cG.move ((Bh 3 rfl))),fun Bh=>gT (Bh 4 rfl) fun hg=>aa (cG.move ((Bi 8 rfl s8_e2))),fun Bh=>gT (Bh 4 rfl) fun hg=>aa (cG.fieldAddr bs ((Bi 7 rfl s7_e2))),fun Bh=>gT (Bh 4 rfl) fun hg=>aa (cG.load bA ((Bh 6 rfl hg)) ((bf.ext hA2 Bj).at_ (i:=1) rfl rfl)),fun Bh=>gT (Bh 4 rfl) fun hg=>aa (cG.mul (c:=((i*c:Nat):Int)) ((Bh 5 rfl hg)) ((Bh 7 rfl hg)) (bS (by omega))),fun Bh=>gT (Bh 4 rfl) fun hg=>aa (cG.move ((Bi 9 rfl s9_e2))),fun Bh=>gT (Bh 4 rfl) fun hg=>aa (cG.add (c:=(((i*c) + j:Nat):Int)) ((Bh 8 rfl hg)) ((Bh 9 rfl hg)) (bS (by omega))),fun Bh=>gT (Bh 4 rfl) fun hg=>aa (cG.move ((Bi 2 rfl s2_e2))),fun Bh=>gT (Bh 4 rfl) fun hg=>aa (lH wW (Bh 11 rfl hg) (eG.ext (eG.ext hl hX2) Bj)),fun Bh=>gT (Bh 4 rfl) fun hg=>aa (cG.lss ((Bh 10 rfl hg)) ((Bh 12 rfl hg))),fun Bh=>aa (ay (p:=((j:Nat):Int)<((c:Nat):Int)) (q:=((((i*c) + j:Nat):Int):Int)<((n:Nat):Int)) (Bh 4 rfl) (fun hq=>(Bh 13 rfl hq))),trivial⟩) ?_;intro e3 w7 hx4 ho1 hf1;replace hA1:=bf.ext hA1 hx4;replace hA2:=bf.ext hA2 hx4;replace hM1:=cJ.ext hM1 hx4;replace hX2:=aF.trans hX2 hx4;have s2_e3:=ho1 2 rfl s2_e2;have s6_e3:=ho1 6 rfl s6_e2;have s7_e3:=ho1 7 rfl s7_e2;have s8_e3:=ho1 8 rfl s8_e2;have s9_e3:=ho1 9 rfl s9_e2;have s37_e3:e3 37=_:=hf1 14 rfl;refine RL.nil ?_;refine af ((((j:Nat):Int)<((c:Nat):Int))∧(((((i*c) + j:Nat):Int):Int)<((n:Nat):Int))) s37_e3 (fun c37=> ?_) (fun c37=> ?_)
  ·
   refine WP.skip ?_;refine pv.norm ?_;refine WP.seq ?_;refine WP.block ?_;refine WP.ds am 19 [_,_,_,_,_,_,_,_,_,_,_,_,_,_,_,_,_,_,_] rfl rfl (fun e_ w_ Bj Bi=>⟨fun _=>aa (cG.fieldAddr ao ((Bi 7 rfl s7_e3))),fun Bh=>aa (cG.load aE ((Bh 0 rfl)) ((bf.ext hA2 Bj).at_ (i:=2) rfl rfl)),fun _=>aa (cG.move ((Bi 8 rfl s8_e3))),fun Bh=>aa (cG.index (j:=i) az ((Bh 1 rfl)) ((Bh 2 rfl)) rfl (by omega) (by omega)),fun Bh=>ag (an (i:=i) aP (Bh 3 rfl) (cJ.ext hM1 Bj) (by omega)),fun _=>aa (cG.move ((Bi 9 rfl s9_e3))),fun _=>aa (cG.move ((Bi 2 rfl s2_e3))),fun _=>aa (cG.move ((Bi 8 rfl s8_e3))),fun _=>aa (cG.fieldAddr bs ((Bi 7 rfl s7_e3))),fun Bh=>aa (cG.load bA ((Bh 8 rfl)) ((bf.ext hA2 Bj).at_ (i:=1) rfl rfl)),fun Bh=>aa (cG.mul (c:=((i*c:Nat):Int)) ((Bh 7 rfl)) ((Bh 9 rfl)) (bS (by omega))),fun _=>aa (cG.move ((Bi 9 rfl s9_e3))),fun Bh=>aa (cG.add (c:=(((i*c) + j:Nat):Int)) ((Bh 10 rfl)) ((Bh 11 rfl)) (bS (by omega))),fun Bh=>ag (iW (j:=(i*c) + j) wW (Bh 6 rfl) (eG.ext (eG.ext hl hX2) Bj) (Bh 12 rfl) (by omega) (by omega)),fun Bh=>aa (jP zm rfl (Bh 13 rfl)),fun Bh=>aa (cG.rem (c:=(f (i*c + j)).tmod 10) ((Bh 14 rfl)) rfl (by omega) rfl),fun Bh=>aa (aw (c:=(f (i*c + j)).tmod 10) wY nF ((Bh 15 rfl)) (bS ⟨(oM _).1,Int.le_of_lt_add_one (oM _).2,rfl⟩)),fun Bh=>dl.call kM (aI ((Bh 16 rfl))) (oV ((f (i*c + j)).tmod 10) (4) _ (oM _) (wX _) (by decide)),fun Bh=>aa (av (j:=j) be (Bh 4 rfl) rfl (Bh 5 rfl) (by omega) (by omega)),trivial⟩) ?_;intro e4 w8 hx5 ho2 hf2;replace hA1:=bf.ext hA1 hx5;replace hA2:=bf.ext hA2 hx5;replace hM1:=cJ.ext hM1 hx5;replace hX2:=aF.trans hX2 hx5;have s2_e4:=ho2 2 rfl s2_e3;have s6_e4:=ho2 6 rfl s6_e3;have s7_e4:=ho2 7 rfl s7_e3;have s8_e4:=ho2 8 rfl s8_e3;have s9_e4:=ho2 9 rfl s9_e3;have s57_e4:al w8 (e4 57) ((f (i*c + j)).tmod 10) 4:=hf2 17 rfl;have s58_e4:e4 58=_:=hf2 18 rfl;refine RL.x rfl rfl (bJ (i:=i) (j:=j) aM s58_e4 rfl (al.eq s57_e4 (um (n:=n) (by omega)) (om _ _ _ _ _) (by decide)) hM1 (by omega) (by omega)) ?_;rintro _ w9 ⟨hk2,hN1⟩;have hR1:=cJ.row (i:=i) hM1 (by omega);replace hA1:=aY hA1 hk2 hR1 (by decide);replace hA2:=aY hA2 hk2 hR1 (by decide);replace hX2:=hX2.step hk2 (fun b e=>by subst e;exact (Nat.le_trans hBw1 (cJ.rowB (i:=i) hM1 (by omega))));replace hM1:=hN1;clear hR1;refine RL.nil ?_;refine jc.norm ?_;refine pv.norm ?_;refine WP.region ?_;refine RL.p rfl rfl (cG.move s9_e4) ?_;refine RL.p rfl rfl (cG.add (c:=((j + 1:Nat):Int)) rfl rfl (bS (by omega))) ?_;refine RL.p rfl rfl (cG.assign rfl) ?_;refine RL.nil ?_;refine pv.norm ⟨_,(by omega),j + 1,rfl,s2_e4,s6_e4,s7_e4,s8_e4,rfl,(by omega),hX2,hA1,hA2,bt hM1 (fz (cV f n c) i j)⟩
  ·
   refine WP.exit ?_;refine pv.exit ?_;refine pv.exit ?_;refine jc.same ?_;refine jc.norm ?_;refine pv.norm ?_;refine WP.region ?_;refine RL.p rfl rfl (cG.move s8_e3) ?_;refine RL.p rfl rfl (cG.add (c:=((i + 1:Nat):Int)) rfl rfl (bS (by omega))) ?_;refine RL.p rfl rfl (cG.assign rfl) ?_;refine RL.nil ?_;refine pv.norm ⟨_,(by omega),i + 1,rfl,s2_e3,s6_e3,s7_e3,rfl,(by omega),hX2,hA1,hA2,cJ.congr hM1 fun a c2 ha hc2=>md (fun e he hec=>by unfold cV;rw [if_neg (by omega)]) hc2⟩
 ·
  refine WP.exit ?_;refine pv.exit ?_;refine pv.exit ?_;refine jc.same ?_;refine pv.norm ?_;refine ab ?_;refine RL.p rfl rfl (ah [.int .i64 ((r:Nat)),.int .i64 ((c:Nat)),.slice (some ⟨gh1,0,none⟩) (r) (kh1)] aW s7_e1 (hA2.cells 0 _ rfl rfl)) ?_;refine RL.x rfl rfl (dl.store [.int .i64 ((r:Nat)),.int .i64 ((c:Nat)),.slice (some ⟨gh1,0,none⟩) (r) (kh1)] cT s6_e1 rfl rfl hA1 (Nat.le_of_ble_eq_true rfl) (cU rfl rfl rfl)) ?_;rintro _ w10 ⟨hk3,hnew⟩;replace hM1:=bk hM1 hk3 hA1 (by decide);replace hX1:=hX1.step hk3 (fun b e=>by subst e;exact hbs1);replace hA1:=hnew.lit [.int .i64 ((r:Nat)),.int .i64 ((c:Nat)),.slice (some ⟨gh1,0,none⟩) (r) (kh1)] rfl;clear hnew;refine RL.nil ?_;refine WP.ret ?_;refine ⟨.agg #[.int .i64 ((r:Nat)),.int .i64 ((c:Nat)),.slice (some ⟨gh1,0,none⟩) (r) (kh1)],AO.one (ak [.int .i64 ((r:Nat)),.int .i64 ((c:Nat)),.slice (some ⟨gh1,0,none⟩) (r) (kh1)] aW s6_e1 (hA1.cells 0 _ rfl rfl)),_,rfl,hX1,?_⟩;dsimp only;exact ⟨_,_,_,rfl,cJ.congr (cJ.low hM1 hBw1) fun a c2 ha hc2=>by rw [show i=r by omega];exact eY _ c2 ha⟩
end Go.TL
namespace Go.TL
open Go.RowKit Go.Proofs
set_option linter.unusedVariables false
set_option linter.unusedSimpArgs false
set_option maxRecDepth 10000 in
theorem vx (w:World) (R C:Nat) (l:Value) (n:Nat) (f:Nat→Int) (hl:eG .i8 57 w l n f) (hR:R<256) (hC:C<256):Calls Tryz.prog 10 #[.agg #[.int .u8 (R:Nat),.int .u8 (C:Nat),l]] w (cg w fun v w'=>cF w' v w.heap.size (R % 5) (C % 5) (cV f n (C % 5)) 4):=by
 have hLIM:bp=562949953421312:=rfl;have hln:n<9223372036854775808:=by obtain ⟨_,_,_,h2,h3,_⟩:=hl;omega
 refine aj (N:=14) (rs:= #[.cell 2 28]) Tryz.func10 rfl rfl rfl (Nat.le_of_ble_eq_true rfl) ?_;have hX:aF w w:=aF.refl w;refine ab ?_;refine RL.x rfl rfl (dl.box [.int .u8 ((R:Nat)),.int .u8 ((C:Nat)),l] rfl rfl) ?_;rintro _ w1 ⟨g1,rfl,hge1,hx1,hA1⟩;replace hX:=aF.trans hX hx1;refine RL.x rfl rfl (dl.alloc [.int .i64 (0),.int .i64 (0),.slice (none) (0) (0)] cm rfl) ?_;rintro _ w2 ⟨g2,rfl,hge2,hx2,hA2⟩;have hbs2:w.heap.size≤g2:=Nat.le_trans hX.size hge2;replace hA1:=bf.ext hA1 hx2;replace hX:=aF.trans hX hx2;refine RL.nil ?_;refine ab ?_;refine RL.p rfl rfl (cG.fieldAddr vj rfl) ?_;refine RL.p rfl rfl (cG.load vg rfl (hA1.at_ (i:=0) rfl rfl)) ?_;refine RL.p rfl rfl (cG.rem (c:=((R % 5:Nat):Int)) rfl rfl (by omega) rfl) ?_;refine RL.p rfl rfl (aw (c:=((R % 5:Nat):Int)) rj rk rfl (bS ⟨by omega,by omega,rfl⟩)) ?_;refine RL.p rfl rfl (cG.fieldAddr vi rfl) ?_;refine RL.p rfl rfl (cG.load vg rfl (hA1.at_ (i:=1) rfl rfl)) ?_;refine RL.p rfl rfl (cG.rem (c:=((C % 5:Nat):Int)) rfl rfl (by omega) rfl) ?_;refine RL.p rfl rfl (aw (c:=((C % 5:Nat):Int)) rj rk rfl (bS ⟨by omega,by omega,rfl⟩)) ?_;refine RL.p rfl rfl (cG.fieldAddr vh rfl) ?_;refine RL.p rfl rfl (cG.load zn rfl (hA1.at_ (i:=2) rfl rfl)) ?_;have hBw1:w.heap.size≤w2.heap.size:=hX.size;refine RL.x rfl rfl (dl.call zW (cQ rfl rfl rfl) (tA _ (R % 5) (C % 5) l n f (by omega) (by omega) (eG.ext hl hX))) ?_;rintro v1 w3 ⟨hx3,q1⟩;replace hA2:=bf.ext hA2 hx3;replace hX:=aF.trans hX hx3;obtain ⟨gh1,kh1,ρ1,hq1,hM1⟩:=q1;have hd1:=cJ.dlim hM1;have hd2:=cJ.clim hM1;refine RL.x rfl rfl (dl.store [.int .i64 ((R % 5:Nat)),.int .i64 ((C % 5:Nat)),.slice (some ⟨gh1,0,none⟩) (R % 5) (kh1)] cT rfl hq1 rfl hA2 (Nat.le_of_ble_eq_true rfl) (cU rfl rfl rfl)) ?_;rintro _ w4 ⟨hk1,hnew⟩;replace hM1:=bk hM1 hk1 hA2 (by decide);replace hX:=hX.step hk1 (fun b e=>by subst e;exact hbs2);replace hA2:=hnew.lit [.int .i64 ((R % 5:Nat)),.int .i64 ((C % 5:Nat)),.slice (some ⟨gh1,0,none⟩) (R % 5) (kh1)] rfl;clear hnew;refine RL.nil ?_;refine WP.ret ?_;refine ⟨.agg #[.int .i64 ((R % 5:Nat)),.int .i64 ((C % 5:Nat)),.slice (some ⟨gh1,0,none⟩) (R % 5) (kh1)],AO.one (ak [.int .i64 ((R % 5:Nat)),.int .i64 ((C % 5:Nat)),.slice (some ⟨gh1,0,none⟩) (R % 5) (kh1)] aW rfl (hA2.cells 0 _ rfl rfl)),_,rfl,hX,?_⟩;dsimp only;exact ⟨_,_,_,rfl,cJ.low hM1 (hBw1)⟩
set_option maxRecDepth 10000 in
theorem kW (w:World) (x:Value) (nx:Nat) (zx:Nat→Int) (btx:Nat) (hx:bL w x nx zx btx):Calls Tryz.prog 89 #[x] w (cg w fun v w'=>v= .bool (decide True)):=by
 have hLIM:bp=562949953421312:=rfl;have hlimx:=hx.lim;refine aj (N:=16) (rs:= #[.tmp 2]) Tryz.func89 rfl rfl rfl (Nat.le_of_ble_eq_true rfl) ?_;have hX:aF w w:=aF.refl w;refine ab ?_;refine RL.p rfl rfl (cG.assign rfl) ?_;refine RL.nil ?_;refine WP.seq ?_;refine ab ?_;refine RL.p rfl rfl (cG.assign rfl) ?_;refine RL.nil ?_;refine WP.block ?_;refine WP.loop (fun mz ez uz=>∃i:Nat,(mz=nx - i)∧(ez 0=x)∧(ez 3= .int .i64 ((i:Nat)))∧(i≤nx)∧(aF w uz)) (nx - 0) ?_ ?_
 · exact ⟨0,rfl,rfl,rfl,(by omega),hX⟩
 rintro m1 e1 w1 ⟨i,hm1,s0_e1,s3_e1,hi,hX1⟩;refine WP.seq ?_;refine ab ?_;refine RL.p rfl rfl (cG.move s3_e1) ?_;refine RL.p rfl rfl (cG.move s0_e1) ?_;refine RL.p rfl rfl (cd dj rfl (bL.ext hx hX1)) ?_;refine RL.p rfl rfl (cG.lss rfl rfl) ?_;refine RL.nil ?_;refine af (((i:Nat):Int)<((nx:Nat):Int)) rfl (fun c7=> ?_) (fun c7=> ?_)
 ·
  refine WP.skip ?_;refine pv.norm ?_;refine WP.seq ?_;refine WP.block ?_;refine ab ?_;refine RL.p rfl rfl (cG.move s0_e1) ?_;refine RL.p rfl rfl (cG.move s3_e1) ?_;refine RL.x rfl rfl (bj (j:=i) dj rfl (bL.ext hx hX1) rfl (by omega) (by omega)) ?_;rintro v1 _ ⟨rfl,q1⟩;refine RL.x rfl rfl (bl aq rfl q1) ?_;rintro v2 _ ⟨rfl,q2⟩;refine RL.x rfl rfl (dl.call xW (aI rfl) (vp _ _ _ _ q2)) ?_;rintro _ w2 ⟨hx1,rfl⟩;replace hX1:=aF.trans hX1 hx1;refine RL.p rfl rfl (cG.not (p:=True) rfl) ?_;refine RL.nil ?_;refine af (¬(True)) rfl (fun c15=> ?_) (fun c15=> ?_)
  ·
   refine ab ?_;refine RL.p rfl rfl (cG.assign rfl) ?_;refine RL.nil ?_;refine WP.ret ?_;refine jc.ret ?_;refine pv.ret ?_;refine pv.ret ?_;refine jc.ret ?_;refine pv.ret ?_;refine ⟨.bool (false),AO.one (fR.tmp rfl),_,rfl,hX1,?_⟩;dsimp only;exact absurd trivial c15
  ·
   refine WP.skip ?_;refine jc.norm ?_;refine pv.norm ?_;refine WP.region ?_;refine RL.p rfl rfl (cG.move s3_e1) ?_;refine RL.p rfl rfl (cG.add (c:=((i + 1:Nat):Int)) rfl rfl (bS (by omega))) ?_;refine RL.p rfl rfl (cG.assign rfl) ?_;refine RL.nil ?_;refine pv.norm ⟨_,(by omega),i + 1,rfl,s0_e1,rfl,(by omega),hX1⟩
 ·
  refine WP.exit ?_;refine pv.exit ?_;refine pv.exit ?_;refine jc.same ?_;refine pv.norm ?_;refine ab ?_;refine RL.p rfl rfl (cG.assign rfl) ?_;refine RL.nil ?_;refine WP.ret ?_;refine ⟨.bool (true),AO.one (fR.tmp rfl),_,rfl,hX1,?_⟩
  rfl
set_option maxRecDepth 10000 in
theorem kY (w:World) (x:Value) (rx cx:Nat) (Mx:Nat→Nat→Int) (btx:Nat) (hx:cc w x rx cx Mx btx):Calls Tryz.prog 44 #[x] w (cg w fun v w'=>v= .bool (decide True)):=by
 have hLIM:bp=562949953421312:=rfl;have hmatx:=hx;obtain ⟨sx,rfl,hrx,hcx,hSx⟩:=hx.form;refine aj (N:=45) (rs:= #[.tmp 2]) Tryz.func44 rfl rfl rfl (Nat.le_of_ble_eq_true rfl) ?_;have hX:aF w w:=aF.refl w;refine ab ?_;refine RL.x rfl rfl (dl.box [.int .i64 ((rx:Nat)),.int .i64 ((cx:Nat)),sx] rfl rfl) ?_;rintro _ w1 ⟨g1,rfl,hge1,hx1,hA1⟩;replace hX:=aF.trans hX hx1;refine RL.p rfl rfl (cG.assign rfl) ?_;refine RL.nil ?_;refine WP.seq ?_;refine aH am 16 [_,_,_,fun v Bk=>v= .bool (decide (((rx:Nat):Int)<(0:Int))),_,_,_,_,fun v Bk=>v= .bool (decide ((((rx:Nat):Int)<(0:Int))∨(((cx:Nat):Int)<(0:Int)))),_,_,_,_,_,_,_] rfl rfl (fun e_ w_ Bj Bi=>⟨fun _=>aa (cG.fieldAddr aV ((Bi 1 rfl rfl))),fun Bh=>aa (cG.load bA ((Bh 0 rfl)) ((bf.ext hA1 Bj).at_ (i:=0) rfl rfl)),fun Bh=>aa (cG.lss ((Bh 1 rfl)) rfl),fun Bh=>aa (cG.move ((Bh 2 rfl))),fun Bh=>gF (Bh 3 rfl) fun hg=>aa (cG.fieldAddr bs ((Bi 1 rfl rfl))),fun Bh=>gF (Bh 3 rfl) fun hg=>aa (cG.load bA ((Bh 4 rfl hg)) ((bf.ext hA1 Bj).at_ (i:=1) rfl rfl)),fun Bh=>gF (Bh 3 rfl) fun hg=>aa (cG.lss ((Bh 5 rfl hg)) rfl),fun Bh=>aa (bc (p:=((rx:Nat):Int)<(0:Int)) (q:=((cx:Nat):Int)<(0:Int)) (Bh 3 rfl) (fun hq=>(Bh 6 rfl hq))),fun Bh=>aa (cG.move ((Bh 7 rfl))),fun Bh=>gF (Bh 8 rfl) fun hg=>aa (cG.fieldAddr ao ((Bi 1 rfl rfl))),fun Bh=>gF (Bh 8 rfl) fun hg=>aa (cG.load aE ((Bh 9 rfl hg)) ((bf.ext hA1 Bj).at_ (i:=2) rfl rfl)),fun Bh=>gF (Bh 8 rfl) fun hg=>aa (ce az (Bh 10 rfl hg) (ct.ext (ct.ext hSx hX) Bj)),fun Bh=>gF (Bh 8 rfl) fun hg=>aa (cG.fieldAddr aV ((Bi 1 rfl rfl))),fun Bh=>gF (Bh 8 rfl) fun hg=>aa (cG.load bA ((Bh 12 rfl hg)) ((bf.ext hA1 Bj).at_ (i:=0) rfl rfl)),fun Bh=>gF (Bh 8 rfl) fun hg=>aa (cG.neq ((Bh 11 rfl hg)) ((Bh 13 rfl hg))),fun Bh=>aa (bc (p:=(((rx:Nat):Int)<(0:Int))∨(((cx:Nat):Int)<(0:Int))) (q:=((rx:Nat):Int)≠((rx:Nat):Int)) (Bh 8 rfl) (fun hq=>(Bh 14 rfl hq))),trivial⟩) ?_;intro e1 w2 hx2 ho1 hf1;replace hA1:=bf.ext hA1 hx2;replace hX:=aF.trans hX hx2;have s1_e1:e1 1=_:=ho1 1 rfl rfl;have s19_e1:e1 19=_:=hf1 15 rfl;refine RL.nil ?_;refine af (((((rx:Nat):Int)<(0:Int))∨(((cx:Nat):Int)<(0:Int)))∨(((rx:Nat):Int)≠((rx:Nat):Int))) s19_e1 (fun c19=> ?_) (fun c19=> ?_)
 ·
  refine ab ?_;refine RL.p rfl rfl (cG.assign rfl) ?_;refine RL.nil ?_;refine WP.ret ?_;refine pv.ret ?_;refine ⟨.bool (false),AO.one (fR.tmp rfl),_,rfl,hX,?_⟩;dsimp only;exfalso;omega
 ·
  refine WP.skip ?_;refine pv.norm ?_;refine WP.seq ?_;refine ab ?_;refine RL.p rfl rfl (cG.assign rfl) ?_;refine RL.nil ?_;refine WP.block ?_;refine WP.loop (fun mz ez uz=>∃i:Nat,(mz=rx - i)∧(ez 1= .pointer (some ⟨g1,0,none⟩))∧(ez 3= .int .i64 ((i:Nat)))∧(i≤rx)∧(aF w uz)∧(bf uz g1 28 3 (bP [.int .i64 ((rx:Nat)),.int .i64 ((cx:Nat)),sx]))) (rx - 0) ?_ ?_
  · exact ⟨0,rfl,s1_e1,rfl,(by omega),hX,hA1⟩
  rintro m1 e2 w3 ⟨i,hm1,s1_e2,s3_e2,hi,hX1,hA1⟩;refine WP.seq ?_;refine ab ?_;refine RL.p rfl rfl (cG.move s3_e2) ?_;refine RL.p rfl rfl (cG.fieldAddr ao s1_e2) ?_;refine RL.p rfl rfl (cG.load aE rfl (hA1.at_ (i:=2) rfl rfl)) ?_;refine RL.p rfl rfl (ce az rfl (ct.ext hSx hX1)) ?_;refine RL.p rfl rfl (cG.lss rfl rfl) ?_;refine RL.nil ?_;refine af (((i:Nat):Int)<((rx:Nat):Int)) rfl (fun c24=> ?_) (fun c24=> ?_)
  ·
   refine WP.skip ?_;refine pv.norm ?_;refine WP.seq ?_;refine WP.block ?_;refine aH am 18 [_,_,_,_,_,_,_,_,_,fun v Bk=>v= .bool (decide (((cx:Nat):Int)≠((cx:Nat):Int))),_,_,_,_,_,fun v Bk=>(¬(((cx:Nat):Int)≠((cx:Nat):Int)))→(v= .bool (decide (True))),_,_] rfl rfl (fun e_ w_ Bj Bi=>⟨fun _=>aa (cG.fieldAddr ao ((Bi 1 rfl s1_e2))),fun Bh=>aa (cG.load aE ((Bh 0 rfl)) ((bf.ext hA1 Bj).at_ (i:=2) rfl rfl)),fun _=>aa (cG.move ((Bi 3 rfl s3_e2))),fun Bh=>ag (aS (j:=i) az (Bh 1 rfl) (ct.ext (ct.ext hSx hX1) Bj) (Bh 2 rfl) (by omega) (by omega)),fun Bh=>ag (bi aP rfl (Bh 3 rfl)),fun Bh=>aa (cd be rfl (Bh 4 rfl)),fun _=>aa (cG.fieldAddr bs ((Bi 1 rfl s1_e2))),fun Bh=>aa (cG.load bA ((Bh 6 rfl)) ((bf.ext hA1 Bj).at_ (i:=1) rfl rfl)),fun Bh=>aa (cG.neq ((Bh 5 rfl)) ((Bh 7 rfl))),fun Bh=>aa (cG.move ((Bh 8 rfl))),fun Bh=>gF (Bh 9 rfl) fun hg=>aa (cG.fieldAddr ao ((Bi 1 rfl s1_e2))),fun Bh=>gF (Bh 9 rfl) fun hg=>aa (cG.load aE ((Bh 10 rfl hg)) ((bf.ext hA1 Bj).at_ (i:=2) rfl rfl)),fun Bh=>gF (Bh 9 rfl) fun hg=>aa (cG.move ((Bi 3 rfl s3_e2))),fun Bh=>gF (Bh 9 rfl) fun hg=>ag (aS (j:=i) az (Bh 11 rfl hg) (ct.ext (ct.ext hSx hX1) Bj) (Bh 12 rfl hg) (by omega) (by omega)),fun Bh=>gF (Bh 9 rfl) fun hg=>ag (bi aP rfl (Bh 13 rfl hg)),fun Bh=>gF (Bh 9 rfl) fun hg=>dl.call wZ (aI rfl) (kW _ _ _ _ _ (Bh 14 rfl hg)),fun Bh=>gF (Bh 9 rfl) fun hg=>aa (cG.not (p:=True) (Bh 15 rfl hg)),fun Bh=>aa (bc (p:=((cx:Nat):Int)≠((cx:Nat):Int)) (q:=¬(True)) (Bh 9 rfl) (fun hq=>(Bh 16 rfl hq))),trivial⟩) ?_;intro e3 w4 hx3 ho2 hf2;replace hA1:=bf.ext hA1 hx3;replace hX1:=aF.trans hX1 hx3;have s1_e3:=ho2 1 rfl s1_e2;have s3_e3:=ho2 3 rfl s3_e2;have s44_e3:e3 44=_:=hf2 17 rfl;refine RL.nil ?_;refine af ((((cx:Nat):Int)≠((cx:Nat):Int))∨(¬(True))) s44_e3 (fun c44=> ?_) (fun c44=> ?_)
   ·
    refine ab ?_;refine RL.p rfl rfl (cG.assign rfl) ?_;refine RL.nil ?_;refine WP.ret ?_;refine jc.ret ?_;refine pv.ret ?_;refine pv.ret ?_;refine jc.ret ?_;refine pv.ret ?_;refine ⟨.bool (false),AO.one (fR.tmp rfl),_,rfl,hX1,?_⟩;dsimp only;exact c44.elim (fun h=>absurd rfl h) (fun h=>absurd trivial h)
   ·
    refine WP.skip ?_;refine jc.norm ?_;refine pv.norm ?_;refine WP.region ?_;refine RL.p rfl rfl (cG.move s3_e3) ?_;refine RL.p rfl rfl (cG.add (c:=((i + 1:Nat):Int)) rfl rfl (bS (by omega))) ?_;refine RL.p rfl rfl (cG.assign rfl) ?_;refine RL.nil ?_;refine pv.norm ⟨_,(by omega),i + 1,rfl,s1_e3,rfl,(by omega),hX1,hA1⟩
  ·
   refine WP.exit ?_;refine pv.exit ?_;refine pv.exit ?_;refine jc.same ?_;refine pv.norm ?_;refine ab ?_;refine RL.p rfl rfl (cG.assign rfl) ?_;refine RL.nil ?_;refine WP.ret ?_;refine ⟨.bool (true),AO.one (fR.tmp rfl),_,rfl,hX1,?_⟩
   rfl
set_option maxRecDepth 10000 in
theorem jl (w:World) (x:Value) (nx:Nat) (zx:Nat→Int) (btx:Nat) (y:Value) (ny:Nat) (zy:Nat→Int) (bty:Nat) (hx:bL w x nx zx btx) (hy:bL w y ny zy bty):Calls Tryz.prog 24 #[x,y] w (cg w fun v w'=>v= .bool (decide (aG nx ny zx zy))):=by
 have hLIM:bp=562949953421312:=rfl;have hlimx:=hx.lim;have hlimy:=hy.lim;refine aj (N:=27) (rs:= #[.tmp 4]) Tryz.func24 rfl rfl rfl (Nat.le_of_ble_eq_true rfl) ?_;have hX:aF w w:=aF.refl w;refine ab ?_;refine RL.p rfl rfl (cG.assign rfl) ?_;refine RL.nil ?_;refine WP.seq ?_;refine ab ?_;refine RL.p rfl rfl (cG.move rfl) ?_;refine RL.p rfl rfl (cd dj rfl (bL.ext hx hX)) ?_;refine RL.p rfl rfl (cG.move rfl) ?_;refine RL.p rfl rfl (cd dj rfl (bL.ext hy hX)) ?_;refine RL.p rfl rfl (cG.neq rfl rfl) ?_;refine RL.nil ?_;refine af (((nx:Nat):Int)≠((ny:Nat):Int)) rfl (fun c10=> ?_) (fun c10=> ?_)
 ·
  refine ab ?_;refine RL.p rfl rfl (cG.assign rfl) ?_;refine RL.nil ?_;refine WP.ret ?_;refine pv.ret ?_;refine ⟨.bool (false),AO.one (fR.tmp rfl),_,rfl,hX,?_⟩;dsimp only;rw [nO (by omega)]
 ·
  refine WP.skip ?_;refine pv.norm ?_;refine WP.seq ?_;refine ab ?_;refine RL.p rfl rfl (cG.assign rfl) ?_;refine RL.nil ?_;refine WP.block ?_;refine WP.loop (fun mz ez uz=>∃i:Nat,(mz=nx - i)∧(ez 0=x)∧(ez 1=y)∧(ez 5= .int .i64 ((i:Nat)))∧(i≤nx)∧(∀j,j<i→zx j=zy j)∧(aF w uz)) (nx - 0) ?_ ?_
  · exact ⟨0,rfl,rfl,rfl,rfl,(by omega),(fun j hj=>by omega),hX⟩
  rintro m1 e1 w1 ⟨i,hm1,s0_e1,s1_e1,s5_e1,hi,heq,hX1⟩;refine WP.seq ?_;refine ab ?_;refine RL.p rfl rfl (cG.move s5_e1) ?_;refine RL.p rfl rfl (cG.move s0_e1) ?_;refine RL.p rfl rfl (cd dj rfl (bL.ext hx hX1)) ?_;refine RL.p rfl rfl (cG.lss rfl rfl) ?_;refine RL.nil ?_;refine af (((i:Nat):Int)<((nx:Nat):Int)) rfl (fun c14=> ?_) (fun c14=> ?_)
  ·
   refine WP.skip ?_;refine pv.norm ?_;refine WP.seq ?_;refine WP.block ?_;refine aH am 10 [_,_,_,_,_,_,_,_,fun v Bk=>v= .bool (decide ((zx i:Int)=(zy i:Int))),_] rfl rfl (fun e_ w_ Bj Bi=>⟨fun _=>aa (cG.move ((Bi 0 rfl s0_e1))),fun _=>aa (cG.move ((Bi 5 rfl s5_e1))),fun Bh=>ag (bj (j:=i) dj (Bh 0 rfl) (bL.ext (bL.ext hx hX1) Bj) (Bh 1 rfl) (by omega) (by omega)),fun Bh=>ag (bl aq rfl (Bh 2 rfl)),fun _=>aa (cG.move ((Bi 1 rfl s1_e1))),fun _=>aa (cG.move ((Bi 5 rfl s5_e1))),fun Bh=>ag (bj (j:=i) dj (Bh 4 rfl) (bL.ext (bL.ext hy hX1) Bj) (Bh 5 rfl) (by omega) (by omega)),fun Bh=>ag (bl aq rfl (Bh 6 rfl)),fun Bh=>dl.call zX (ax rfl rfl) (yr _ _ _ _ _ _ _ ((Bh 3 rfl)) ((Bh 7 rfl))),fun Bh=>aa (cG.not (p:=(zx i:Int)=(zy i:Int)) (Bh 8 rfl)),trivial⟩) ?_;intro e2 w2 hx1 ho1 hf1;replace hX1:=aF.trans hX1 hx1;have s0_e2:=ho1 0 rfl s0_e1;have s1_e2:=ho1 1 rfl s1_e1;have s5_e2:=ho1 5 rfl s5_e1;have s26_e2:e2 26=_:=hf1 9 rfl;refine RL.nil ?_;refine af (¬((zx i:Int)=(zy i:Int))) s26_e2 (fun c26=> ?_) (fun c26=> ?_)
   ·
    refine ab ?_;refine RL.p rfl rfl (cG.assign rfl) ?_;refine RL.nil ?_;refine WP.ret ?_;refine jc.ret ?_;refine pv.ret ?_;refine pv.ret ?_;refine jc.ret ?_;refine pv.ret ?_;refine ⟨.bool (false),AO.one (fR.tmp rfl),_,rfl,hX1,?_⟩;dsimp only;rw [nP (i:=i) (by omega) c26]
   ·
    refine WP.skip ?_;refine jc.norm ?_;refine pv.norm ?_;refine WP.region ?_;refine RL.p rfl rfl (cG.move s5_e2) ?_;refine RL.p rfl rfl (cG.add (c:=((i + 1:Nat):Int)) rfl rfl (bS (by omega))) ?_;refine RL.p rfl rfl (cG.assign rfl) ?_;refine RL.nil ?_;refine pv.norm ⟨_,(by omega),i + 1,rfl,s0_e2,s1_e2,rfl,(by omega),(eA heq (by omega)),hX1⟩
  ·
   refine WP.exit ?_;refine pv.exit ?_;refine pv.exit ?_;refine jc.same ?_;refine pv.norm ?_;refine ab ?_;refine RL.p rfl rfl (cG.assign rfl) ?_;refine RL.nil ?_;refine WP.ret ?_;refine ⟨.bool (true),AO.one (fR.tmp rfl),_,rfl,hX1,?_⟩;dsimp only;rw [lZ (by omega) (fun j hj=>heq j (by omega))]
set_option maxRecDepth 10000 in
theorem iK (w:World) (x:Value) (rx cx:Nat) (Mx:Nat→Nat→Int) (btx:Nat) (y:Value) (ry cy:Nat) (My:Nat→Nat→Int) (bty:Nat) (hx:cc w x rx cx Mx btx) (hy:cc w y ry cy My bty):Calls Tryz.prog 13 #[x,y] w (cg w fun v w'=>v= .bool (decide (aB rx cx ry cy Mx My))):=by
 have hLIM:bp=562949953421312:=rfl;have hmatx:=hx;obtain ⟨sx,rfl,hrx,hcx,hSx⟩:=hx.form;have hmaty:=hy;obtain ⟨sy,rfl,hry,hcy,hSy⟩:=hy.form;refine aj (N:=46) (rs:= #[.tmp 4]) Tryz.func13 rfl rfl rfl (Nat.le_of_ble_eq_true rfl) ?_;have hX:aF w w:=aF.refl w;refine ab ?_;refine RL.x rfl rfl (dl.box [.int .i64 ((rx:Nat)),.int .i64 ((cx:Nat)),sx] rfl rfl) ?_;rintro _ w1 ⟨g1,rfl,hge1,hx1,hA1⟩;replace hX:=aF.trans hX hx1;refine RL.x rfl rfl (dl.box [.int .i64 ((ry:Nat)),.int .i64 ((cy:Nat)),sy] rfl rfl) ?_;rintro _ w2 ⟨g2,rfl,hge2,hx2,hA2⟩;replace hA1:=bf.ext hA1 hx2;replace hX:=aF.trans hX hx2;refine RL.p rfl rfl (cG.assign rfl) ?_;refine RL.nil ?_;refine WP.seq ?_;refine aH am 21 [_,_,_,_,_,fun v Bk=>v= .bool (decide (((rx:Nat):Int)≠((ry:Nat):Int))),_,_,_,_,_,_,fun v Bk=>v= .bool (decide ((((rx:Nat):Int)≠((ry:Nat):Int))∨(((cx:Nat):Int)≠((cy:Nat):Int)))),_,_,_,_,_,_,_,_] rfl rfl (fun e_ w_ Bj Bi=>⟨fun _=>aa (cG.fieldAddr aV ((Bi 2 rfl rfl))),fun Bh=>aa (cG.load bA ((Bh 0 rfl)) ((bf.ext hA1 Bj).at_ (i:=0) rfl rfl)),fun _=>aa (cG.fieldAddr aV ((Bi 3 rfl rfl))),fun Bh=>aa (cG.load bA ((Bh 2 rfl)) ((bf.ext hA2 Bj).at_ (i:=0) rfl rfl)),fun Bh=>aa (cG.neq ((Bh 1 rfl)) ((Bh 3 rfl))),fun Bh=>aa (cG.move ((Bh 4 rfl))),fun Bh=>gF (Bh 5 rfl) fun hg=>aa (cG.fieldAddr bs ((Bi 2 rfl rfl))),fun Bh=>gF (Bh 5 rfl) fun hg=>aa (cG.load bA ((Bh 6 rfl hg)) ((bf.ext hA1 Bj).at_ (i:=1) rfl rfl)),fun Bh=>gF (Bh 5 rfl) fun hg=>aa (cG.fieldAddr bs ((Bi 3 rfl rfl))),fun Bh=>gF (Bh 5 rfl) fun hg=>aa (cG.load bA ((Bh 8 rfl hg)) ((bf.ext hA2 Bj).at_ (i:=1) rfl rfl)),fun Bh=>gF (Bh 5 rfl) fun hg=>aa (cG.neq ((Bh 7 rfl hg)) ((Bh 9 rfl hg))),fun Bh=>aa (bc (p:=((rx:Nat):Int)≠((ry:Nat):Int)) (q:=((cx:Nat):Int)≠((cy:Nat):Int)) (Bh 5 rfl) (fun hq=>(Bh 10 rfl hq))),fun Bh=>aa (cG.move ((Bh 11 rfl))),fun Bh=>gF (Bh 12 rfl) fun hg=>aa (cG.fieldAddr ao ((Bi 2 rfl rfl))),fun Bh=>gF (Bh 12 rfl) fun hg=>aa (cG.load aE ((Bh 13 rfl hg)) ((bf.ext hA1 Bj).at_ (i:=2) rfl rfl)),fun Bh=>gF (Bh 12 rfl) fun hg=>aa (ce az (Bh 14 rfl hg) (ct.ext (ct.ext hSx hX) Bj)),fun Bh=>gF (Bh 12 rfl) fun hg=>aa (cG.fieldAddr ao ((Bi 3 rfl rfl))),fun Bh=>gF (Bh 12 rfl) fun hg=>aa (cG.load aE ((Bh 16 rfl hg)) ((bf.ext hA2 Bj).at_ (i:=2) rfl rfl)),fun Bh=>gF (Bh 12 rfl) fun hg=>aa (ce az (Bh 17 rfl hg) (ct.ext (ct.ext hSy hX) Bj)),fun Bh=>gF (Bh 12 rfl) fun hg=>aa (cG.neq ((Bh 15 rfl hg)) ((Bh 18 rfl hg))),fun Bh=>aa (bc (p:=(((rx:Nat):Int)≠((ry:Nat):Int))∨(((cx:Nat):Int)≠((cy:Nat):Int))) (q:=((rx:Nat):Int)≠((ry:Nat):Int)) (Bh 12 rfl) (fun hq=>(Bh 19 rfl hq))),trivial⟩) ?_;intro e1 w3 hx3 ho1 hf1;replace hA1:=bf.ext hA1 hx3;replace hA2:=bf.ext hA2 hx3;replace hX:=aF.trans hX hx3;have s2_e1:e1 2=_:=ho1 2 rfl rfl;have s3_e1:e1 3=_:=ho1 3 rfl rfl;have s26_e1:e1 26=_:=hf1 20 rfl;refine RL.nil ?_;refine af (((((rx:Nat):Int)≠((ry:Nat):Int))∨(((cx:Nat):Int)≠((cy:Nat):Int)))∨(((rx:Nat):Int)≠((ry:Nat):Int))) s26_e1 (fun c26=> ?_) (fun c26=> ?_)
 ·
  refine ab ?_;refine RL.p rfl rfl (cG.assign rfl) ?_;refine RL.nil ?_;refine WP.ret ?_;refine pv.ret ?_;refine ⟨.bool (false),AO.one (fR.tmp rfl),_,rfl,hX,?_⟩;dsimp only;rw [tP (by omega)]
 ·
  refine WP.skip ?_;refine pv.norm ?_;refine WP.seq ?_;refine ab ?_;refine RL.p rfl rfl (cG.assign rfl) ?_;refine RL.nil ?_;refine WP.block ?_;refine WP.loop (fun mz ez uz=>∃i:Nat,(mz=rx - i)∧(ez 2= .pointer (some ⟨g1,0,none⟩))∧(ez 3= .pointer (some ⟨g2,0,none⟩))∧(ez 5= .int .i64 ((i:Nat)))∧(i≤rx)∧(∀j,j<i→aG cx cy (Mx j) (My j))∧(aF w uz)∧(bf uz g1 28 3 (bP [.int .i64 ((rx:Nat)),.int .i64 ((cx:Nat)),sx]))∧(bf uz g2 28 3 (bP [.int .i64 ((ry:Nat)),.int .i64 ((cy:Nat)),sy]))) (rx - 0) ?_ ?_
  · exact ⟨0,rfl,s2_e1,s3_e1,rfl,(by omega),(fun j hj=>by omega),hX,hA1,hA2⟩
  rintro m1 e2 w4 ⟨i,hm1,s2_e2,s3_e2,s5_e2,hi,heq,hX1,hA1,hA2⟩;refine WP.seq ?_;refine ab ?_;refine RL.p rfl rfl (cG.move s5_e2) ?_;refine RL.p rfl rfl (cG.fieldAddr ao s2_e2) ?_;refine RL.p rfl rfl (cG.load aE rfl (hA1.at_ (i:=2) rfl rfl)) ?_;refine RL.p rfl rfl (ce az rfl (ct.ext hSx hX1)) ?_;refine RL.p rfl rfl (cG.lss rfl rfl) ?_;refine RL.nil ?_;refine af (((i:Nat):Int)<((rx:Nat):Int)) rfl (fun c31=> ?_) (fun c31=> ?_)
  ·
   refine WP.skip ?_;refine pv.norm ?_;refine WP.seq ?_;refine WP.block ?_;refine aH am 12 [_,_,_,_,_,_,_,_,_,_,fun v Bk=>v= .bool (decide (aG cx cy (Mx i) (My i))),_] rfl rfl (fun e_ w_ Bj Bi=>⟨fun _=>aa (cG.fieldAddr ao ((Bi 2 rfl s2_e2))),fun Bh=>aa (cG.load aE ((Bh 0 rfl)) ((bf.ext hA1 Bj).at_ (i:=2) rfl rfl)),fun _=>aa (cG.move ((Bi 5 rfl s5_e2))),fun Bh=>ag (aS (j:=i) az (Bh 1 rfl) (ct.ext (ct.ext hSx hX1) Bj) (Bh 2 rfl) (by omega) (by omega)),fun Bh=>ag (bi aP rfl (Bh 3 rfl)),fun _=>aa (cG.fieldAddr ao ((Bi 3 rfl s3_e2))),fun Bh=>aa (cG.load aE ((Bh 5 rfl)) ((bf.ext hA2 Bj).at_ (i:=2) rfl rfl)),fun _=>aa (cG.move ((Bi 5 rfl s5_e2))),fun Bh=>ag (aS (j:=i) az (Bh 6 rfl) (ct.ext (ct.ext hSy hX1) Bj) (Bh 7 rfl) (by omega) (by omega)),fun Bh=>ag (bi aP rfl (Bh 8 rfl)),fun Bh=>dl.call sM (ax rfl rfl) (jl _ _ _ _ _ _ _ _ _ (Bh 4 rfl) (Bh 9 rfl)),fun Bh=>aa (cG.not (p:=aG cx cy (Mx i) (My i)) (Bh 10 rfl)),trivial⟩) ?_;intro e3 w5 hx4 ho2 hf2;replace hA1:=bf.ext hA1 hx4;replace hA2:=bf.ext hA2 hx4;replace hX1:=aF.trans hX1 hx4;have s2_e3:=ho2 2 rfl s2_e2;have s3_e3:=ho2 3 rfl s3_e2;have s5_e3:=ho2 5 rfl s5_e2;have s45_e3:e3 45=_:=hf2 11 rfl;refine RL.nil ?_;refine af (¬(aG cx cy (Mx i) (My i))) s45_e3 (fun c45=> ?_) (fun c45=> ?_)
   ·
    refine ab ?_;refine RL.p rfl rfl (cG.assign rfl) ?_;refine RL.nil ?_;refine WP.ret ?_;refine jc.ret ?_;refine pv.ret ?_;refine pv.ret ?_;refine jc.ret ?_;refine pv.ret ?_;refine ⟨.bool (false),AO.one (fR.tmp rfl),_,rfl,hX1,?_⟩;dsimp only;rw [tQ (i:=i) (by omega) c45]
   ·
    refine WP.skip ?_;refine jc.norm ?_;refine pv.norm ?_;refine WP.region ?_;refine RL.p rfl rfl (cG.move s5_e3) ?_;refine RL.p rfl rfl (cG.add (c:=((i + 1:Nat):Int)) rfl rfl (bS (by omega))) ?_;refine RL.p rfl rfl (cG.assign rfl) ?_;refine RL.nil ?_;refine pv.norm ⟨_,(by omega),i + 1,rfl,s2_e3,s3_e3,rfl,(by omega),(eA heq (Decidable.of_not_not c45)),hX1,hA1,hA2⟩
  ·
   refine WP.exit ?_;refine pv.exit ?_;refine pv.exit ?_;refine jc.same ?_;refine pv.norm ?_;refine ab ?_;refine RL.p rfl rfl (cG.assign rfl) ?_;refine RL.nil ?_;refine WP.ret ?_;refine ⟨.bool (true),AO.one (fR.tmp rfl),_,rfl,hX1,?_⟩;dsimp only;rw [rR (by omega) (fun j hj=>heq j (by omega))]
set_option maxRecDepth 10000 in
theorem qd (w:World) (x:Value) (rx cx:Nat) (Mx:Nat→Nat→Int) (btx:Nat) (r:Nat) (c:Nat) (hx:cc w x rx cx Mx btx):Calls Tryz.prog 45 #[x,.int .i64 (r:Nat),.int .i64 (c:Nat)] w (cg w fun v w'=>v= .bool (decide ((((rx:Nat):Int)=((r:Nat):Int)∧((cx:Nat):Int)=((c:Nat):Int))∧True))):=by
 have hLIM:bp=562949953421312:=rfl;have hmatx:=hx;obtain ⟨sx,rfl,hrx,hcx,hSx⟩:=hx.form;refine aj (N:=21) (rs:= #[.tmp 6]) Tryz.func45 rfl rfl rfl (Nat.le_of_ble_eq_true rfl) ?_;have hX:aF w w:=aF.refl w;refine ab ?_;refine RL.x rfl rfl (dl.box [.int .i64 ((rx:Nat)),.int .i64 ((cx:Nat)),sx] rfl rfl) ?_;rintro _ w1 ⟨g1,rfl,hge1,hx1,hA1⟩;replace hX:=aF.trans hX hx1;refine RL.p rfl rfl (cG.assign rfl) ?_;refine RL.nil ?_;refine aH am 14 [_,_,_,_,fun v Bk=>v= .bool (decide (((rx:Nat):Int)=((r:Nat):Int))),_,_,_,_,_,fun v Bk=>v= .bool (decide ((((rx:Nat):Int)=((r:Nat):Int))∧(((cx:Nat):Int)=((c:Nat):Int)))),_,fun v Bk=>((((rx:Nat):Int)=((r:Nat):Int))∧(((cx:Nat):Int)=((c:Nat):Int)))→(v= .bool (decide (True))),_] rfl rfl (fun e_ w_ Bj Bi=>⟨fun _=>aa (cG.fieldAddr aV ((Bi 3 rfl rfl))),fun Bh=>aa (cG.load bA ((Bh 0 rfl)) ((bf.ext hA1 Bj).at_ (i:=0) rfl rfl)),fun _=>aa (cG.move ((Bi 1 rfl rfl))),fun Bh=>aa (cG.eql ((Bh 1 rfl)) ((Bh 2 rfl))),fun Bh=>aa (cG.move ((Bh 3 rfl))),fun Bh=>gT (Bh 4 rfl) fun hg=>aa (cG.fieldAddr bs ((Bi 3 rfl rfl))),fun Bh=>gT (Bh 4 rfl) fun hg=>aa (cG.load bA ((Bh 5 rfl hg)) ((bf.ext hA1 Bj).at_ (i:=1) rfl rfl)),fun Bh=>gT (Bh 4 rfl) fun hg=>aa (cG.move ((Bi 2 rfl rfl))),fun Bh=>gT (Bh 4 rfl) fun hg=>aa (cG.eql ((Bh 6 rfl hg)) ((Bh 7 rfl hg))),fun Bh=>aa (ay (p:=((rx:Nat):Int)=((r:Nat):Int)) (q:=((cx:Nat):Int)=((c:Nat):Int)) (Bh 4 rfl) (fun hq=>(Bh 8 rfl hq))),fun Bh=>aa (cG.move ((Bh 9 rfl))),fun Bh=>gT (Bh 10 rfl) fun hg=>aa (ah [.int .i64 ((rx:Nat)),.int .i64 ((cx:Nat)),sx] aW ((Bi 3 rfl rfl)) ((bf.ext hA1 Bj).cells 0 _ rfl rfl)),fun Bh=>gT (Bh 10 rfl) fun hg=>dl.call pP (aI ((Bh 11 rfl hg))) (kY _ _ _ _ _ _ (cc.mk (ct.ext (ct.ext hSx hX) Bj) (by omega) (by omega))),fun Bh=>aa (ay (p:=(((rx:Nat):Int)=((r:Nat):Int))∧(((cx:Nat):Int)=((c:Nat):Int))) (q:=True) (Bh 10 rfl) (fun hq=>(Bh 12 rfl hq))),trivial⟩) ?_;intro e1 w2 hx2 ho1 hf1;replace hX:=aF.trans hX hx2;have s20_e1:e1 20=_:=hf1 13 rfl;refine RL.p rfl rfl (cG.assign s20_e1) ?_;refine RL.nil ?_;refine WP.ret ?_;refine ⟨.bool (decide (((((rx:Nat):Int)=((r:Nat):Int))∧(((cx:Nat):Int)=((c:Nat):Int)))∧(True))),AO.one (fR.tmp rfl),_,rfl,hX,?_⟩
 rfl
end Go.TL
namespace Go.TL
open Go.RowKit Go.Proofs
set_option linter.unusedVariables false
set_option linter.unusedSimpArgs false
set_option maxRecDepth 10000 in
theorem mL (w:World) (r:Nat) (c:Nat) (l:Value) (n:Nat) (f:Nat→Int) (b:Nat) (hr:r≤16) (hc:c≤16) (hl:eG .i64 2 w l n f) (hb:b + 1≤bp) (hfr:∀i,i<n→ -9223372036854775808≤f i∧f i<9223372036854775808) (hfb:∀i,i<n→(f i).natAbs<2^b):Calls Tryz.prog 36 #[.int .i64 (r:Nat),.int .i64 (c:Nat),l] w (cg w fun v w'=>cF w' v w.heap.size r c (fg f n c) b):=by
 have hLIM:bp=562949953421312:=rfl;have hln:n<9223372036854775808:=by obtain ⟨_,_,_,h2,h3,_⟩:=hl;omega
 refine aj (N:=50) (rs:= #[.cell 6 28]) Tryz.func36 rfl rfl rfl (Nat.le_of_ble_eq_true rfl) ?_;have hX:aF w w:=aF.refl w;refine ab ?_;refine RL.x rfl rfl (dl.alloc [.int .i64 (0),.int .i64 (0),.slice (none) (0) (0)] cm rfl) ?_;rintro _ w1 ⟨g1,rfl,hge1,hx1,hA1⟩;have hbs1:w.heap.size≤g1:=Nat.le_trans hX.size hge1;replace hX:=aF.trans hX hx1;refine RL.nil ?_;refine ab ?_;refine RL.p rfl rfl (cG.move rfl) ?_;refine RL.p rfl rfl (cG.move rfl) ?_;have hBw1:w.heap.size≤w1.heap.size:=hX.size;refine RL.x rfl rfl (dl.call nG (ax rfl rfl) (nR _ r c b (by omega) (by omega) (by omega))) ?_;rintro v1 w2 ⟨hx2,q1⟩;replace hA1:=bf.ext hA1 hx2;replace hX:=aF.trans hX hx2;refine RL.x rfl rfl (dl.alloc [.int .i64 (0),.int .i64 (0),.slice (none) (0) (0)] cm rfl) ?_;rintro _ w3 ⟨g2,rfl,hge2,hx3,hA2⟩;have ne1:g1≠g2:=Nat.ne_of_lt (Nat.lt_of_lt_of_le hA1.lt hge2);have hbs2:w.heap.size≤g2:=Nat.le_trans hX.size hge2;replace hA1:=bf.ext hA1 hx3;replace q1:=cF.ext q1 hx3;replace hX:=aF.trans hX hx3;obtain ⟨gh1,kh1,ρ1,hq1,hM1⟩:=q1;have hd1:=cJ.dlim hM1;have hd2:=cJ.clim hM1;refine RL.x rfl rfl (dl.store [.int .i64 ((r:Nat)),.int .i64 ((c:Nat)),.slice (some ⟨gh1,0,none⟩) (r) (kh1)] cT rfl hq1 rfl hA2 (Nat.le_of_ble_eq_true rfl) (cU rfl rfl rfl)) ?_;rintro _ w4 ⟨hk1,hnew⟩;replace hM1:=bk hM1 hk1 hA2 (by decide);replace hA1:=hA1.keep hk1 ne1;replace hX:=hX.step hk1 (fun b e=>by subst e;exact hbs2);replace hA2:=hnew.lit [.int .i64 ((r:Nat)),.int .i64 ((c:Nat)),.slice (some ⟨gh1,0,none⟩) (r) (kh1)] rfl;clear hnew;refine RL.nil ?_;refine WP.seq ?_;refine ab ?_;refine RL.p rfl rfl (cG.assign rfl) ?_;refine RL.nil ?_;refine WP.block ?_;refine WP.loop (fun mz ez uz=>∃i:Nat,(mz=r - i)∧(ez 0= .int .i64 ((r:Nat)))∧(ez 1= .int .i64 ((c:Nat)))∧(ez 2=l)∧(ez 6= .pointer (some ⟨g1,0,none⟩))∧(ez 7= .pointer (some ⟨g2,0,none⟩))∧(ez 8= .int .i64 ((i:Nat)))∧(i≤r)∧(aF w uz)∧(bf uz g1 28 3 (bP [.int .i64 (0),.int .i64 (0),.slice (none) (0) (0)]))∧(bf uz g2 28 3 (bP [.int .i64 ((r:Nat)),.int .i64 ((c:Nat)),.slice (some ⟨gh1,0,none⟩) (r) (kh1)]))∧(cJ uz w1.heap.size gh1 kh1 r c ρ1 (cP (fg f n c) i 0) b)) (r - 0) ?_ ?_
 · exact ⟨0,rfl,rfl,rfl,rfl,rfl,rfl,rfl,(by omega),hX,hA1,hA2,bt hM1 (gL (fg f n c))⟩
 rintro m1 e1 w5 ⟨i,hm1,s0_e1,s1_e1,s2_e1,s6_e1,s7_e1,s8_e1,hi,hX1,hA1,hA2,hM1⟩;refine WP.seq ?_;refine ab ?_;refine RL.p rfl rfl (cG.move s8_e1) ?_;refine RL.p rfl rfl (cG.move s0_e1) ?_;refine RL.p rfl rfl (cG.lss rfl rfl) ?_;refine RL.nil ?_;refine af (((i:Nat):Int)<((r:Nat):Int)) rfl (fun c15=> ?_) (fun c15=> ?_)
 ·
  refine WP.skip ?_;refine pv.norm ?_;refine WP.seq ?_;refine WP.block ?_;refine ab ?_;refine RL.p rfl rfl (cG.assign rfl) ?_;refine RL.nil ?_;refine WP.block ?_;refine WP.loop (fun mz ez uz=>∃j:Nat,(mz=c - j)∧(ez 0= .int .i64 ((r:Nat)))∧(ez 1= .int .i64 ((c:Nat)))∧(ez 2=l)∧(ez 6= .pointer (some ⟨g1,0,none⟩))∧(ez 7= .pointer (some ⟨g2,0,none⟩))∧(ez 8= .int .i64 ((i:Nat)))∧(ez 9= .int .i64 ((j:Nat)))∧(j≤c)∧(aF w uz)∧(bf uz g1 28 3 (bP [.int .i64 (0),.int .i64 (0),.slice (none) (0) (0)]))∧(bf uz g2 28 3 (bP [.int .i64 ((r:Nat)),.int .i64 ((c:Nat)),.slice (some ⟨gh1,0,none⟩) (r) (kh1)]))∧(cJ uz w1.heap.size gh1 kh1 r c ρ1 (cP (fg f n c) i j) b)) (c - 0) ?_ ?_
  · exact ⟨0,rfl,s0_e1,s1_e1,s2_e1,s6_e1,s7_e1,s8_e1,rfl,(by omega),hX1,hA1,hA2,hM1⟩
  rintro m2 e2 w6 ⟨j,hm2,s0_e2,s1_e2,s2_e2,s6_e2,s7_e2,s8_e2,s9_e2,hj,hX2,hA1,hA2,hM1⟩;have hic:i*c≤16*16:=Nat.mul_le_mul (by omega) (by omega);refine WP.seq ?_;refine aH am 13 [_,_,_,fun v Bk=>v= .bool (decide (((j:Nat):Int)<((c:Nat):Int))),_,_,_,_,_,_,_,_,_] rfl rfl (fun e_ w_ Bj Bi=>⟨fun _=>aa (cG.move ((Bi 9 rfl s9_e2))),fun _=>aa (cG.move ((Bi 1 rfl s1_e2))),fun Bh=>aa (cG.lss ((Bh 0 rfl)) ((Bh 1 rfl))),fun Bh=>aa (cG.move ((Bh 2 rfl))),fun Bh=>gT (Bh 3 rfl) fun hg=>aa (cG.move ((Bi 8 rfl s8_e2))),fun Bh=>gT (Bh 3 rfl) fun hg=>aa (cG.move ((Bi 1 rfl s1_e2))),fun Bh=>gT (Bh 3 rfl) fun hg=>aa (cG.mul (c:=((i*c:Nat):Int)) ((Bh 4 rfl hg)) ((Bh 5 rfl hg)) (bS (by omega))),fun Bh=>gT (Bh 3 rfl) fun hg=>aa (cG.move ((Bi 9 rfl s9_e2))),fun Bh=>gT (Bh 3 rfl) fun hg=>aa (cG.add (c:=(((i*c) + j:Nat):Int)) ((Bh 6 rfl hg)) ((Bh 7 rfl hg)) (bS (by omega))),fun Bh=>gT (Bh 3 rfl) fun hg=>aa (cG.move ((Bi 2 rfl s2_e2))),fun Bh=>gT (Bh 3 rfl) fun hg=>aa (lH fW (Bh 9 rfl hg) (eG.ext (eG.ext hl hX2) Bj)),fun Bh=>gT (Bh 3 rfl) fun hg=>aa (cG.lss ((Bh 8 rfl hg)) ((Bh 10 rfl hg))),fun Bh=>aa (ay (p:=((j:Nat):Int)<((c:Nat):Int)) (q:=((((i*c) + j:Nat):Int):Int)<((n:Nat):Int)) (Bh 3 rfl) (fun hq=>(Bh 11 rfl hq))),trivial⟩) ?_;intro e3 w7 hx4 ho1 hf1;replace hA1:=bf.ext hA1 hx4;replace hA2:=bf.ext hA2 hx4;replace hM1:=cJ.ext hM1 hx4;replace hX2:=aF.trans hX2 hx4;have s0_e3:=ho1 0 rfl s0_e2;have s1_e3:=ho1 1 rfl s1_e2;have s2_e3:=ho1 2 rfl s2_e2;have s6_e3:=ho1 6 rfl s6_e2;have s7_e3:=ho1 7 rfl s7_e2;have s8_e3:=ho1 8 rfl s8_e2;have s9_e3:=ho1 9 rfl s9_e2;have s30_e3:e3 30=_:=hf1 12 rfl;refine RL.nil ?_;refine af ((((j:Nat):Int)<((c:Nat):Int))∧(((((i*c) + j:Nat):Int):Int)<((n:Nat):Int))) s30_e3 (fun c30=> ?_) (fun c30=> ?_)
  ·
   refine WP.skip ?_;refine pv.norm ?_;refine WP.seq ?_;refine WP.block ?_;refine WP.ds am 16 [_,_,_,_,_,_,_,_,_,_,_,_,_,_,_,_] rfl rfl (fun e_ w_ Bj Bi=>⟨fun _=>aa (cG.fieldAddr ao ((Bi 7 rfl s7_e3))),fun Bh=>aa (cG.load aE ((Bh 0 rfl)) ((bf.ext hA2 Bj).at_ (i:=2) rfl rfl)),fun _=>aa (cG.move ((Bi 8 rfl s8_e3))),fun Bh=>aa (cG.index (j:=i) az ((Bh 1 rfl)) ((Bh 2 rfl)) rfl (by omega) (by omega)),fun Bh=>ag (an (i:=i) aP (Bh 3 rfl) (cJ.ext hM1 Bj) (by omega)),fun _=>aa (cG.move ((Bi 9 rfl s9_e3))),fun _=>aa (cG.move ((Bi 2 rfl s2_e3))),fun _=>aa (cG.move ((Bi 8 rfl s8_e3))),fun _=>aa (cG.move ((Bi 1 rfl s1_e3))),fun Bh=>aa (cG.mul (c:=((i*c:Nat):Int)) ((Bh 7 rfl)) ((Bh 8 rfl)) (bS (by omega))),fun _=>aa (cG.move ((Bi 9 rfl s9_e3))),fun Bh=>aa (cG.add (c:=(((i*c) + j:Nat):Int)) ((Bh 9 rfl)) ((Bh 10 rfl)) (bS (by omega))),fun Bh=>ag (iW (j:=(i*c) + j) fW (Bh 6 rfl) (eG.ext (eG.ext hl hX2) Bj) (Bh 11 rfl) (by omega) (by omega)),fun Bh=>aa (jP AX rfl (Bh 12 rfl)),fun Bh=>dl.call kM (aI ((Bh 13 rfl))) (oV (f ((i*c) + j)) (b) _ (hfr _ (by omega)) (hfb _ (by omega)) (by omega)),fun Bh=>aa (av (j:=j) be (Bh 4 rfl) rfl (Bh 5 rfl) (by omega) (by omega)),trivial⟩) ?_;intro e4 w8 hx5 ho2 hf2;replace hA1:=bf.ext hA1 hx5;replace hA2:=bf.ext hA2 hx5;replace hM1:=cJ.ext hM1 hx5;replace hX2:=aF.trans hX2 hx5;have s0_e4:=ho2 0 rfl s0_e3;have s1_e4:=ho2 1 rfl s1_e3;have s2_e4:=ho2 2 rfl s2_e3;have s6_e4:=ho2 6 rfl s6_e3;have s7_e4:=ho2 7 rfl s7_e3;have s8_e4:=ho2 8 rfl s8_e3;have s9_e4:=ho2 9 rfl s9_e3;have s47_e4:al w8 (e4 47) (f ((i*c) + j)) b:=hf2 14 rfl;have s48_e4:e4 48=_:=hf2 15 rfl;refine RL.x rfl rfl (bJ (i:=i) (j:=j) aM s48_e4 rfl (al.eq s47_e4 (tZ (n:=n) (by omega)) (ua hfb _ _ _) (by omega)) hM1 (by omega) (by omega)) ?_;rintro _ w9 ⟨hk2,hN1⟩;have hR1:=cJ.row (i:=i) hM1 (by omega);replace hA1:=aY hA1 hk2 hR1 (by decide);replace hA2:=aY hA2 hk2 hR1 (by decide);replace hX2:=hX2.step hk2 (fun b e=>by subst e;exact (Nat.le_trans hBw1 (cJ.rowB (i:=i) hM1 (by omega))));replace hM1:=hN1;clear hR1;refine RL.nil ?_;refine jc.norm ?_;refine pv.norm ?_;refine WP.region ?_;refine RL.p rfl rfl (cG.move s9_e4) ?_;refine RL.p rfl rfl (cG.add (c:=((j + 1:Nat):Int)) rfl rfl (bS (by omega))) ?_;refine RL.p rfl rfl (cG.assign rfl) ?_;refine RL.nil ?_;refine pv.norm ⟨_,(by omega),j + 1,rfl,s0_e4,s1_e4,s2_e4,s6_e4,s7_e4,s8_e4,rfl,(by omega),hX2,hA1,hA2,bt hM1 (fz (fg f n c) i j)⟩
  ·
   refine WP.exit ?_;refine pv.exit ?_;refine pv.exit ?_;refine jc.same ?_;refine jc.norm ?_;refine pv.norm ?_;refine WP.region ?_;refine RL.p rfl rfl (cG.move s8_e3) ?_;refine RL.p rfl rfl (cG.add (c:=((i + 1:Nat):Int)) rfl rfl (bS (by omega))) ?_;refine RL.p rfl rfl (cG.assign rfl) ?_;refine RL.nil ?_;refine pv.norm ⟨_,(by omega),i + 1,rfl,s0_e3,s1_e3,s2_e3,s6_e3,s7_e3,rfl,(by omega),hX2,hA1,hA2,cJ.congr hM1 fun a c2 ha hc2=>md (fun e he hec=>by unfold fg;rw [if_neg (by omega)]) hc2⟩
 ·
  refine WP.exit ?_;refine pv.exit ?_;refine pv.exit ?_;refine jc.same ?_;refine pv.norm ?_;refine ab ?_;refine RL.p rfl rfl (ah [.int .i64 ((r:Nat)),.int .i64 ((c:Nat)),.slice (some ⟨gh1,0,none⟩) (r) (kh1)] aW s7_e1 (hA2.cells 0 _ rfl rfl)) ?_;refine RL.x rfl rfl (dl.store [.int .i64 ((r:Nat)),.int .i64 ((c:Nat)),.slice (some ⟨gh1,0,none⟩) (r) (kh1)] cT s6_e1 rfl rfl hA1 (Nat.le_of_ble_eq_true rfl) (cU rfl rfl rfl)) ?_;rintro _ w10 ⟨hk3,hnew⟩;replace hM1:=bk hM1 hk3 hA1 (by decide);replace hX1:=hX1.step hk3 (fun b e=>by subst e;exact hbs1);replace hA1:=hnew.lit [.int .i64 ((r:Nat)),.int .i64 ((c:Nat)),.slice (some ⟨gh1,0,none⟩) (r) (kh1)] rfl;clear hnew;refine RL.nil ?_;refine WP.ret ?_;refine ⟨.agg #[.int .i64 ((r:Nat)),.int .i64 ((c:Nat)),.slice (some ⟨gh1,0,none⟩) (r) (kh1)],AO.one (ak [.int .i64 ((r:Nat)),.int .i64 ((c:Nat)),.slice (some ⟨gh1,0,none⟩) (r) (kh1)] aW s6_e1 (hA1.cells 0 _ rfl rfl)),_,rfl,hX1,?_⟩;dsimp only;exact ⟨_,_,_,rfl,cJ.congr (cJ.low hM1 hBw1) fun a c2 ha hc2=>by rw [show i=r by omega];exact eY _ c2 ha⟩
end Go.TL
namespace Go.TL
set_option linter.unusedVariables false
def rowP (M F:Nat→Nat→Int) (i n:Nat):Nat→Nat→Int:=fun a c=>if a=i∧c<n then F a c else M a c
theorem gG (M F:Nat→Nat→Int) (i:Nat):M=rowP M F i 0:=by funext a c;unfold rowP;rw [if_neg (by omega)]
theorem gH (M F:Nat→Nat→Int) (i n:Nat):rowP M F i n i n=M i n:=by unfold rowP;rw [if_neg (by omega)]
theorem kU (M F:Nat→Nat→Int) {i a:Nat} (n c:Nat) (h:i≠a):rowP M F i n a c=M a c:=by unfold rowP;rw [if_neg (by omega)]
theorem gI {M F:Nat→Nat→Int} {i n:Nat} {q:Int} (h:q=F i n):eh (rowP M F i n) i n q=rowP M F i (n + 1):=by
  funext a c;unfold eh rowP
  by_cases e:a=i∧c=n
  · rw [if_pos e,if_pos (by omega),h,e.1,e.2]
  · rw [if_neg e]
    by_cases e2:a=i∧c<n
    · rw [if_pos e2,if_pos (by omega)]
    · rw [if_neg e2,if_neg (by omega)]
theorem iJ {M F:Nat→Nat→Int} {i n:Nat} (h:∀a c,a≠i→F a c=M a c) {a c:Nat} (hc:c<n):rowP M F i n a c=F a c:=by
  unfold rowP
  by_cases e:a=i
  · rw [if_pos ⟨e,hc⟩]
  · rw [if_neg (by omega),h a c e]
theorem nV {M:Nat→Nat→Int} {i j:Nat} {k:Int} (a c:Nat) (h:a≠i):cX M i j k a c=M a c:=by unfold cX;rw [if_neg h]
theorem nU {M:Nat→Nat→Int} {i:Nat} (a c:Nat) (h:a≠i):dq M i a c=M a c:=by unfold dq;rw [if_neg h]
theorem qh {M:Nat→Nat→Int} {i j:Nat} {k:Int} (c:Nat):M i c + k*M j c=cX M i j k i c:=by unfold cX;rw [if_pos rfl]
theorem qg {M:Nat→Nat→Int} {i:Nat} (c:Nat): -(M i c)=dq M i i c:=by unfold dq;rw [if_pos rfl]
theorem AQ {z:Int}:z.sign≠0↔iy z:=by unfold iy;simp [Int.sign_eq_zero_iff_zero]
theorem pa {z:Int} {b:Nat} (h:z.natAbs<2^b):(-z).natAbs<2^b:=by rw [Int.natAbs_neg];exact h
end Go.TL
