/-
  Lemmas towards the theorem of this claim (part 6).
  Conditions: those that each theorem names.
-/
import Derived.OrdersHeld
import Derived.Test.YtknbpehdcgamaaaGreatPF5
namespace Go.TL
set_option linter.unusedVariables false
def mb (r top q:Nat) (M:Nat→Nat→Int):Prop:=∃P:Nat→Nat,(∀i,i<top→P i<q∧0<M i (P i)∧(∀j,j<P i→M i j=0)∧∀k,k<i→P k<P i∧0≤M k (P i)∧M k (P i)<M i (P i))∧
  ∀a,top≤a→a<r→∀j,j<q→M a j=0
def eB (e0:Nat):Nat→Nat
  | 0=>e0
  | t + 1=>6*eB e0 t + 2
def gB (e0:Nat):Nat→Nat
  | 0=>0
  | t + 1=>gB e0 t + 10*eB e0 t + 6
structure FI (r c e0:Nat) (M0:Nat→Nat→Int) (top q:Nat) (S:WS):Prop where
  lin:Lin r c M0 S
  ech:mb r top q S.M
  bm:∀i j,i<r→j<c→(S.M i j).natAbs≤2^eB e0 top
  bu:∀i j,i<r→j<r→(S.U i j).natAbs≤2^eB e0 top
  bv:∀i j,i<r→j<r→(S.V i j).natAbs≤2^gB e0 top
structure JI (r c e0:Nat) (M0:Nat→Nat→Int) (top q m:Nat) (S:WS):Prop where
  lin:Lin r c M0 S
  ech:mb r top q S.M
  above:∀i,i<top→(S.M i q).natAbs≤2^eB e0 top
  run:∃a b u:Nat,(∀i j,i<r→j<c→(S.M i j).natAbs≤2^eB e0 top*a)∧(∀i j,i<r→j<r→(S.U i j).natAbs≤2^eB e0 top*a)∧(∀i j,i<r→j<r→(S.V i j).natAbs≤2^gB e0 top*b)∧
    ((a=1∧b=1∧m=2^eB e0 top + 2∧∀i,top≤i→i<r→(S.M i q).natAbs≤2^eB e0 top)∨
     (0<m∧S.M top q=(m:Int)∧m≤2^eB e0 top∧(∀i,top<i→i<r→0≤S.M i q∧S.M i q<(m:Int)∧S.M i q≤(u:Int))∧1≤u∧
      a*(m*m)*u≤(1 + 2^eB e0 top)*(2^eB e0 top)^3∧b*m^7*u≤(1 + 7*2^eB e0 top)*(2^eB e0 top)^8))
section
variable {r c e0:Nat} {M0:Nat→Nat→Int} {top q m:Nat} {S:WS}
theorem kG (e0:Nat):∀{s t:Nat},s≤t→eB e0 s≤eB e0 t
  | s,0,h=>by rw [show s=0 by omega];exact Nat.le_refl _
  | s,t + 1,h=>by
    by_cases e:s=t + 1
    · rw [e];exact Nat.le_refl _
    · have:=kG e0 (s:=s) (t:=t) (by omega);simp only [eB];omega
theorem qV (e0:Nat):∀{s t:Nat},s≤t→gB e0 s≤gB e0 t
  | s,0,h=>by rw [show s=0 by omega];exact Nat.le_refl _
  | s,t + 1,h=>by
    by_cases e:s=t + 1
    · rw [e];exact Nat.le_refl _
    · have:=qV e0 (s:=s) (t:=t) (by omega);simp only [gB];omega
theorem qF (e:Nat):2^e*((1 + 2^e)*(2^e)^3)*(1 + 2^e)≤2^(6*e + 2):=by
  have h0:0<2^e:=Nat.two_pow_pos e;have h1:1 + 2^e≤2*2^e:=by omega
  have h2:2^(6*e + 2)=2^e*(2*2^e*(2^e)^3)*(2*2^e):=by
    have:2^(6*e + 2)=(2^e)^6*4:=by rw [Nat.pow_add,Nat.mul_comm 6 e,Nat.pow_mul]
    rw [this]
    generalize 2^e=x
    simp only [Nat.pow_succ,Nat.pow_zero,Nat.one_mul];rw [show (4:Nat)=2*2 by decide]
    ac_rfl
  rw [h2];exact Nat.mul_le_mul (Nat.mul_le_mul_left _ (Nat.mul_le_mul_right _ h1)) h1
theorem xS (g e:Nat):2^g*((1 + 7*2^e)*(2^e)^8)*(1 + 7*2^e)≤2^(g + 10*e + 6):=by
  have h0:0<2^e:=Nat.two_pow_pos e;have h1:1 + 7*2^e≤8*2^e:=by omega
  have h2:2^(g + 10*e + 6)=2^g*(8*2^e*(2^e)^8)*(8*2^e):=by
    have:2^(g + 10*e + 6)=2^g*(2^e)^10*64:=by rw [Nat.pow_add,Nat.pow_add,Nat.mul_comm 10 e,Nat.pow_mul]
    rw [this]
    generalize 2^e=x
    simp only [Nat.pow_succ,Nat.pow_zero,Nat.one_mul];rw [show (64:Nat)=8*8 by decide]
    ac_rfl
  rw [h2];exact Nat.mul_le_mul (Nat.mul_le_mul_left _ (Nat.mul_le_mul_right _ h1)) h1
theorem FI.start (hM:∀i j,i<r→j<c→(M0 i j).natAbs≤2^e0):FI r c e0 M0 0 0 ⟨M0,dA,dA⟩:=by
  have hid:∀(e i j:Nat),(dA i j).natAbs≤2^e:=fun e i j=>by
    have:=Nat.two_pow_pos e
    unfold dA;split<;>simp<;>omega
  exact ⟨Lin.start M0,⟨fun _=>0,fun i hi=>by omega,fun a _ _ j hj=>by omega⟩,hM,fun i j _ _=>hid _ i j,fun i j _ _=>hid _ i j⟩
theorem JI.of (h:FI r c e0 M0 top q S) (ht:top<r) (hq:q<c):JI r c e0 M0 top q (2^eB e0 top + 2) S:=
  ⟨h.lin,h.ech,fun i hi=>h.bm i q (by omega) hq,1,1,0,fun i j hi hj=>by rw [Nat.mul_one];exact h.bm i j hi hj,fun i j hi hj=>by rw [Nat.mul_one];exact h.bu i j hi hj,fun i j hi hj=>by rw [Nat.mul_one];exact h.bv i j hi hj,.inl ⟨rfl,rfl,rfl,fun i _ hi=>h.bm i q hi hq⟩⟩
theorem mb.sn (h:mb r top q S.M) {p:Nat} (hp:p<r) (hpt:top≤p) (ht:top<r):mb r top q (TL.sn S p top q).M:=by
  obtain ⟨P,h1,h2⟩:=h;have hlow:∀i,i<top→∀j,(TL.sn S p top q).M i j=S.M i j:=fun i hi j=>by
    rw [(rP S p top q i j).1 (by omega),if_neg (by omega)]
  refine ⟨P,fun i hi=> ?_,fun a ha har j hj=> ?_⟩
  · obtain ⟨g1,g2,g3,g4⟩:=h1 i hi
    refine ⟨g1,by rw [hlow i hi];exact g2,fun j hj=>by rw [hlow i hi];exact g3 j hj,fun k hk=> ?_⟩;rw [hlow i hi,hlow k (by omega)];exact g4 k hk
  · by_cases e:a=top
    · subst e
      have:=(rP S p a q a j).2;rw [h2 p hpt hp j hj] at this;omega
    · rw [(rP S p top q a j).1 e];split
      · exact h2 top (Nat.le_refl _) ht j hj
      · exact h2 a ha har j hj
theorem mb.el (h:mb r top q S.M) (ht:top<r) {n:Nat}:mb r top q (TL.el S top q n).M:=by
  obtain ⟨P,h1,h2⟩:=h;have hlow:∀i,i<top→∀j,(TL.el S top q n).M i j=S.M i j:=fun i hi j=>by rw [ns,if_neg (by omega)]
  refine ⟨P,fun i hi=> ?_,fun a ha har j hj=> ?_⟩
  · obtain ⟨g1,g2,g3,g4⟩:=h1 i hi
    refine ⟨g1,by rw [hlow i hi];exact g2,fun j hj=>by rw [hlow i hi];exact g3 j hj,fun k hk=> ?_⟩;rw [hlow i hi,hlow k (by omega)];exact g4 k hk
  · rw [ns,h2 a ha har j hj,h2 top (Nat.le_refl _) ht j hj];simp
theorem lead (hp:0≤(bN (fun a=>S.M a q) top (r - top)).1) (ht:top<r):top≤(bN (fun a=>S.M a q) top (r - top)).1.toNat∧(bN (fun a=>S.M a q) top (r - top)).1.toNat<r∧S.M (bN (fun a=>S.M a q) top (r - top)).1.toNat q≠0∧
    (∀i,top≤i→i<r→S.M i q≠0→(S.M (bN (fun a=>S.M a q) top (r - top)).1.toNat q).natAbs≤(S.M i q).natAbs)∧((bN (fun a=>S.M a q) top (r - top)).2=false→∀i,top≤i→i<r→i≠(bN (fun a=>S.M a q) top (r - top)).1.toNat→S.M i q=0):=by
  obtain ⟨h1,h2,h3,h4,h5⟩:=fj (x:=fun a=>S.M a q) (top:=top) (n:=r - top) hp;exact ⟨h1,by omega,h3,fun i hi hr hz=>h4 i hi (by omega) hz,fun ho i hi hr hne=>h5 ho i hi (by omega) hne⟩
theorem JI.round (h:JI r c e0 M0 top q m S) (ht:top<r) (hq:q<c) (h8:r≤8) (hp:0≤(bN (fun a=>S.M a q) top (r - top)).1) (ho:(bN (fun a=>S.M a q) top (r - top)).2=true):
    ∃m2,m2<m∧JI r c e0 M0 top q m2 (el (sn S (bN (fun a=>S.M a q) top (r - top)).1.toNat top q) top q (r - top - 1))∧
      ∀n,top + 1 + n<r→(∀i j,i<r→j<c→((el (sn S (bN (fun a=>S.M a q) top (r - top)).1.toNat top q) top q (n + 1)).M i j).natAbs≤2^eB e0 (top + 1))∧
        (∀i j,i<r→j<r→((el (sn S (bN (fun a=>S.M a q) top (r - top)).1.toNat top q) top q (n + 1)).U i j).natAbs≤2^eB e0 (top + 1))∧
        ∀i j,i<r→j<r→((el (sn S (bN (fun a=>S.M a q) top (r - top)).1.toNat top q) top q (n + 1)).V i j).natAbs≤2^gB e0 (top + 1):=by
  obtain ⟨hl1,hl2,hl3,hl4,_⟩:=lead hp ht;obtain ⟨i1,i2,hi12,hi1,hi1r,hi2,hi2r,hz1,hz2⟩:=qM (x:=fun a=>S.M a q) (top:=top) (n:=r - top) ho
  generalize hpe:(bN (fun a=>S.M a q) top (r - top)).1.toNat=p at*
  have hE0:0<2^eB e0 top:=Nat.two_pow_pos _;obtain ⟨a,b,u,hM,hU,hV,hc⟩:=h.run;have htop:=jq S p top q;obtain ⟨hM2,hU2,hV2⟩:=tr (q:=q) hl2 ht hM hU hV;have hlin:=h.lin.sn q hl2 ht;have hech:=h.ech.sn (q:=q) hl2 hl1 ht;have hcol:∀i,i≠top→(sn S p top q).M i q=if i=p then S.M top q else S.M i q:=fun i hi=>(rP S p top q i q).1 hi
  have hab:∀i,i<top→((sn S p top q).M i q).natAbs≤2^eB e0 top:=fun i hi=>by rw [hcol i (by omega),if_neg (by omega)];exact h.above i hi
  generalize sn S p top q=S2 at*
  generalize hy:(S.M p q).natAbs=y at*
  have hy0:0<y:=by omega
  have key:∃K a' b' u':Nat,(∀i,top<i→i<r→(kq S2 top q i).natAbs≤K)∧y<m∧y≤2^eB e0 top∧(∀i,top<i→i<r→S2.M i q % (y:Int)≤(u':Int))∧1≤u'∧a'=a*(1 + K)∧b'=b*(1 + 7*K)∧
      a'*(y*y)*u'≤(1 + 2^eB e0 top)*(2^eB e0 top)^3∧b'*y^7*u'≤(1 + 7*2^eB e0 top)*(2^eB e0 top)^8:=by
    rcases hc with ⟨ha1,hb1,hm,hcE⟩ | ⟨hm0,hmt,hmE,hoth,hu1,hpa,hpb⟩
    · have hyE:y≤2^eB e0 top:=by rw [←hy];exact hcE p hl1 hl2
      refine ⟨2^eB e0 top,_,_,y,fun i hi hir=> ?_,by omega,hyE,fun i hi hir=> ?_,by omega,rfl,rfl,?_,?_⟩
      · unfold kq
        rw [htop];refine Nat.le_trans (no (by omega)) ?_;rw [hcol i (by omega)];split
        · exact hcE top (Nat.le_refl _) ht
        · exact hcE i (by omega) hir
      · have:=Int.emod_lt_of_pos (S2.M i q) (show (0:Int)<y by omega);omega
      · subst ha1
        rw [Nat.one_mul,Nat.mul_assoc];refine Nat.mul_le_mul_left _ ?_;have:y*y*y≤2^eB e0 top*2^eB e0 top*2^eB e0 top:=Nat.mul_le_mul (Nat.mul_le_mul hyE hyE) hyE;simp only [Nat.pow_succ,Nat.pow_zero,Nat.one_mul];exact this
      · subst hb1
        rw [Nat.one_mul,Nat.mul_assoc];refine Nat.mul_le_mul_left _ ?_;rw [←Nat.pow_succ];exact Nat.pow_le_pow_left hyE 8
    ·
      have hex:∃i,top<i∧i<r∧S.M i q≠0:=by
        by_cases e:i1=top
        · exact ⟨i2,by omega,by omega,hz2⟩
        · exact ⟨i1,by omega,by omega,hz1⟩
      obtain ⟨i,hi,hir,hiz⟩:=hex;have hio:=hoth i hi hir;have hyi:y≤(S.M i q).natAbs:=hl4 i (by omega) hir hiz;have hym:y<m:=by omega
      have hyu:y≤u:=by omega
      have hpt:p≠top:=by intro e;subst e;omega
      have hrange:∀i,top<i→i<r→0≤S2.M i q∧S2.M i q≤(m:Int)∧(S2.M i q≠0→(y:Int)≤S2.M i q):=fun i hi hir=>by
        rw [hcol i (by omega)];split
        · exact ⟨by omega,by omega,fun _=>by omega⟩
        · have h1:=hoth i hi hir
          exact ⟨h1.1,by omega,fun hz=>by have:=hl4 i (by omega) hir hz;omega⟩
      have hk1:1≤m/y:=Nat.div_pos (by omega) hy0;have hky:m/y*y≤m:=Nat.div_mul_le_self _ _;refine ⟨m/y,_,_,min y (m - y),fun i hi hir=> ?_,hym,by omega,fun i hi hir=> ?_,by omega,rfl,rfl,?_,?_⟩
      · obtain ⟨g1,g2,_⟩:=hrange i hi hir
        unfold kq
        rw [htop,Int.natAbs_neg];have e1:S2.M i q=((S2.M i q).toNat:Int):=by omega
        rw [e1,←Int.natCast_ediv,Int.natAbs_natCast];exact Nat.div_le_div_right (by omega)
      · obtain ⟨g1,g2,g3⟩:=hrange i hi hir
        have h1:=Int.emod_lt_of_pos (S2.M i q) (show (0:Int)<y by omega)
        by_cases hz:S2.M i q=0
        · rw [hz,Int.zero_emod];omega
        · have h2:=g3 hz
          have h3:S2.M i q % (y:Int)≤S2.M i q - y:=by
            have h4:=Int.mul_ediv_add_emod (S2.M i q) (y:Int);have h5:1≤S2.M i q/(y:Int):=by
              rw [Int.le_ediv_iff_mul_le (by omega)];omega
            have h6:(y:Int)*1≤(y:Int)*(S2.M i q/(y:Int)):=Int.mul_le_mul_of_nonneg_left h5 (by omega);omega
          omega
      · have h1:=Br hk1 hky (Nat.min_le_left y (m - y)) (by have:=Nat.min_le_right y (m - y);omega)
        have h2:a*(1 + m/y)*(y*y)*min y (m - y)=a*((1 + m/y)*y*min y (m - y))*y:=by ac_rfl
        rw [h2];refine Nat.le_trans ?_ hpa;exact Nat.mul_le_mul (Nat.mul_le_mul_left _ h1) hyu
      · have h1:=Bq hk1 hky (Nat.min_le_left y (m - y)) (by have:=Nat.min_le_right y (m - y);omega)
        have h2:b*(1 + 7*(m/y))*y^7*min y (m - y)=b*((1 + 7*(m/y))*y^6*min y (m - y))*y:=by
          rw [Nat.pow_succ y 6];ac_rfl
        rw [h2];refine Nat.le_trans ?_ hpb;exact Nat.mul_le_mul (Nat.mul_le_mul_left _ h1) hyu
  obtain ⟨K,a',b',u',hK,hym,hyE,hres,hu',ha',hb',hpa,hpb⟩:=key;have hbd:=fun n (hn:top + n<r)=>AT (n:=n) ht hn (by omega) hK hM2 hU2 hV2
  have ha1:a'≤(1 + 2^eB e0 top)*(2^eB e0 top)^3:=by
    refine Nat.le_trans ?_ hpa;rw [Nat.mul_assoc];exact Nat.le_mul_of_pos_right _ (Nat.mul_pos (Nat.mul_pos hy0 hy0) hu')
  have hb1:b'≤(1 + 7*2^eB e0 top)*(2^eB e0 top)^8:=by
    refine Nat.le_trans ?_ hpb;rw [Nat.mul_assoc];exact Nat.le_mul_of_pos_right _ (Nat.mul_pos (Nat.pow_pos hy0) hu')
  have hmul:∀E:Nat,E*a*(1 + K)=E*a':=fun E=>by rw [ha',Nat.mul_assoc]
  have hmulb:∀E:Nat,E*b*(1 + 7*K)=E*b':=fun E=>by rw [hb',Nat.mul_assoc]
  have hone:∀x:Nat,x≤x*(1 + 2^eB e0 top):=fun x=>Nat.le_mul_of_pos_right _ (by omega)
  have honeg:∀x:Nat,x≤x*(1 + 7*2^eB e0 top):=fun x=>Nat.le_mul_of_pos_right _ (by omega)
  refine ⟨y,hym,⟨hlin.el q ht _ (by omega),hech.el ht,fun i hi=>by rw [ns,if_neg (by omega)];exact hab i hi,a',b',u',?_,?_,?_,.inr ⟨hy0,by rw [ns,if_neg (by omega)];exact htop,hyE,fun i hi hir=> ?_,hu',hpa,hpb⟩⟩,fun n hn=>⟨?_,?_,?_⟩⟩
  · intro i j hi hj;rw [←hmul];exact (hbd _ (by omega)).1 i j hi hj
  · intro i j hi hj;rw [←hmul];exact (hbd _ (by omega)).2.1 i j hi hj
  · intro i j hi hj;rw [←hmulb];exact (hbd _ (by omega)).2.2 i j hi hj
  · have e1:(el S2 top q (r - top - 1)).M i q=S2.M i q % (y:Int):=by
      rw [ns,if_pos (by omega)]
      unfold kq
      rw [htop];have:=Int.mul_ediv_add_emod (S2.M i q) (y:Int);rw [Int.neg_mul,Int.mul_comm (S2.M i q/(y:Int))];omega
    rw [e1];exact ⟨Int.emod_nonneg _ (by omega),Int.emod_lt_of_pos _ (by omega),hres i hi hir⟩
  · intro i j hi hj
    refine Nat.le_trans ((hbd (n + 1) (by omega)).1 i j hi hj) ?_;rw [hmul];refine Nat.le_trans (Nat.mul_le_mul_left _ ha1) (Nat.le_trans (hone _) ?_);exact qF (eB e0 top)
  · intro i j hi hj
    refine Nat.le_trans ((hbd (n + 1) (by omega)).2.1 i j hi hj) ?_;rw [hmul];refine Nat.le_trans (Nat.mul_le_mul_left _ ha1) (Nat.le_trans (hone _) ?_);exact qF (eB e0 top)
  · intro i j hi hj
    refine Nat.le_trans ((hbd (n + 1) (by omega)).2.2 i j hi hj) ?_;rw [hmulb];refine Nat.le_trans (Nat.mul_le_mul_left _ hb1) (Nat.le_trans (honeg _) ?_);exact xS (gB e0 top) (eB e0 top)
theorem JI.none (h:JI r c e0 M0 top q m S) (ht:top<r) (hn:(bN (fun a=>S.M a q) top (r - top)).1<0):FI r c e0 M0 top (q + 1) S:=by
  have hz:=(iY (x:=fun a=>S.M a q) hn).2;obtain ⟨a,b,u,hM,hU,hV,hc⟩:=h.run;rcases hc with ⟨ha1,hb1,_,_⟩ | ⟨hm0,hmt,_⟩
  · subst ha1;subst hb1
    simp only [Nat.mul_one] at hM hU hV;refine ⟨h.lin,?_,hM,hU,hV⟩;obtain ⟨P,h1,h2⟩:=h.ech;refine ⟨P,fun i hi=> ?_,fun a ha har j hj=> ?_⟩
    · obtain ⟨g1,g2⟩:=h1 i hi;exact ⟨by omega,g2⟩
    · by_cases e:j=q
      · subst e;exact hz a ha (by omega)
      · exact h2 a ha har j (by omega)
  · have:S.M top q=0:=hz top (Nat.le_refl _) (by omega)
    omega
theorem JI.pivot (h:JI r c e0 M0 top q m S) (ht:top<r) (hq:q<c) (h8:r≤8) (hp:0≤(bN (fun a=>S.M a q) top (r - top)).1) (ho:(bN (fun a=>S.M a q) top (r - top)).2=false):
    (∀n,n≤top→(∀i j,i<r→j<c→((ra (sn S (bN (fun a=>S.M a q) top (r - top)).1.toNat top q) top q n).M i j).natAbs≤2^eB e0 (top + 1))∧
        (∀i j,i<r→j<r→((ra (sn S (bN (fun a=>S.M a q) top (r - top)).1.toNat top q) top q n).U i j).natAbs≤2^eB e0 (top + 1))∧
        ∀i j,i<r→j<r→((ra (sn S (bN (fun a=>S.M a q) top (r - top)).1.toNat top q) top q n).V i j).natAbs≤2^gB e0 (top + 1))∧
      FI r c e0 M0 (top + 1) (q + 1) (ra (sn S (bN (fun a=>S.M a q) top (r - top)).1.toNat top q) top q top):=by
  obtain ⟨hl1,hl2,hl3,hl4,hl5⟩:=lead hp ht;replace hl5:=hl5 ho
  generalize hpe:(bN (fun a=>S.M a q) top (r - top)).1.toNat=p at*
  have hE0:0<2^eB e0 top:=Nat.two_pow_pos _;obtain ⟨a,b,u,hM,hU,hV,hc⟩:=h.run;have hab1:a≤(1 + 2^eB e0 top)*(2^eB e0 top)^3∧b≤(1 + 7*2^eB e0 top)*(2^eB e0 top)^8:=by
    rcases hc with ⟨ha1,hb1,_⟩ | ⟨hm0,_,_,_,hu1,hpa,hpb⟩
    · subst ha1;subst hb1
      exact ⟨Nat.mul_pos (by omega) (Nat.pow_pos hE0),Nat.mul_pos (by omega) (Nat.pow_pos hE0)⟩
    · refine ⟨Nat.le_trans ?_ hpa,Nat.le_trans ?_ hpb⟩
      · rw [Nat.mul_assoc];exact Nat.le_mul_of_pos_right _ (Nat.mul_pos (Nat.mul_pos hm0 hm0) hu1)
      · rw [Nat.mul_assoc];exact Nat.le_mul_of_pos_right _ (Nat.mul_pos (Nat.pow_pos hm0) hu1)
  have htop:=jq S p top q;obtain ⟨hM2,hU2,hV2⟩:=tr (q:=q) hl2 ht hM hU hV;have hlin:=h.lin.sn q hl2 ht;have hech:=h.ech.sn (q:=q) hl2 hl1 ht;have hcol:∀i,i≠top→(sn S p top q).M i q=if i=p then S.M top q else S.M i q:=fun i hi=>(rP S p top q i q).1 hi
  have hab:∀i,i<top→((sn S p top q).M i q).natAbs≤2^eB e0 top:=fun i hi=>by rw [hcol i (by omega),if_neg (by omega)];exact h.above i hi
  have hbelow:∀i,top<i→i<r→(sn S p top q).M i q=0:=fun i hi hir=>by
    rw [hcol i (by omega)];split
    · rename_i e;subst e;exact hl5 top (Nat.le_refl _) ht (by omega)
    · rename_i e;exact hl5 i (by omega) hir e
  generalize sn S p top q=S2 at*
  generalize hy:(S.M p q).natAbs=y at*
  have hy0:0<y:=by omega
  have hK:∀i,i<top→(kq S2 top q i).natAbs≤2^eB e0 top:=fun i hi=>by
    unfold kq;rw [htop]
    exact Nat.le_trans (no (by omega)) (hab i hi)
  have hbd:=fun n (hn:n≤top)=>xQ (n:=n) ht hn (by omega) hK hM2 hU2 hV2
  have hfin:∀n,n≤top→(∀i j,i<r→j<c→((ra S2 top q n).M i j).natAbs≤2^eB e0 (top + 1))∧(∀i j,i<r→j<r→((ra S2 top q n).U i j).natAbs≤2^eB e0 (top + 1))∧
      ∀i j,i<r→j<r→((ra S2 top q n).V i j).natAbs≤2^gB e0 (top + 1):=fun n hn=>by
    refine ⟨fun i j hi hj=> ?_,fun i j hi hj=> ?_,fun i j hi hj=> ?_⟩
    · exact Nat.le_trans ((hbd n hn).1 i j hi hj) (Nat.le_trans (Nat.mul_le_mul_right _ (Nat.mul_le_mul_left _ hab1.1)) (qF _))
    · exact Nat.le_trans ((hbd n hn).2.1 i j hi hj) (Nat.le_trans (Nat.mul_le_mul_right _ (Nat.mul_le_mul_left _ hab1.1)) (qF _))
    · exact Nat.le_trans ((hbd n hn).2.2 i j hi hj) (Nat.le_trans (Nat.mul_le_mul_right _ (Nat.mul_le_mul_left _ hab1.2)) (xS _ _))
  refine ⟨hfin,hlin.ra q ht top (Nat.le_refl _),?_,(hfin top (Nat.le_refl _)).1,(hfin top (Nat.le_refl _)).2.1,(hfin top (Nat.le_refl _)).2.2⟩;obtain ⟨P,h1,h2⟩:=hech;have hrow:∀i,i<top→∀j,j<q→(ra S2 top q top).M i j=S2.M i j:=fun i hi j hj=>by
    rw [lU _ _ _ _ _ _ (Nat.le_refl _),if_pos hi,h2 top (Nat.le_refl _) ht j hj,Int.mul_zero,Int.add_zero]
  have hrest:∀i,top≤i→∀j,(ra S2 top q top).M i j=S2.M i j:=fun i hi j=>by rw [lU _ _ _ _ _ _ (Nat.le_refl _),if_neg (by omega)]
  refine ⟨cC P top q,fun i hi=> ?_,fun a ha har j hj=> ?_⟩
  · by_cases e:i=top
    · subst e
      rw [bs];refine ⟨by omega,by rw [hrest i (Nat.le_refl _),htop];omega,fun j hj=>by rw [hrest i (Nat.le_refl _)];exact h2 i (Nat.le_refl _) ht j hj,fun k hk=> ?_⟩;rw [bp _ _ _ _ (by omega),hrest i (Nat.le_refl _),htop,lU _ _ _ _ _ _ (Nat.le_refl _),if_pos hk]
      unfold kq
      rw [htop];have e1:S2.M k q + -(S2.M k q/(y:Int))*(y:Int)=S2.M k q % (y:Int):=by
        have:=Int.mul_ediv_add_emod (S2.M k q) (y:Int);rw [Int.neg_mul,Int.mul_comm (S2.M k q/(y:Int))];omega
      rw [e1];exact ⟨(h1 k hk).1,Int.emod_nonneg _ (by omega),Int.emod_lt_of_pos _ (by omega)⟩
    · rw [bp _ _ _ _ e]
      obtain ⟨g1,g2,g3,g4⟩:=h1 i (by omega);refine ⟨by omega,by rw [hrow i (by omega) _ g1];exact g2,fun j hj=>by rw [hrow i (by omega) _ (by omega)];exact g3 j hj,fun k hk=> ?_⟩;rw [bp _ _ _ _ (by omega),hrow k (by omega) _ g1,hrow i (by omega) _ g1];exact g4 k hk
  · rw [hrest a (by omega)]
    by_cases e:j=q
    · subst e;exact hbelow a (by omega) har
    · exact h2 a (by omega) har j (by omega)
end
end Go.TL
namespace Go.TL
open Go.RowKit Go.Proofs
set_option linter.unusedVariables false
def bB (e0 r:Nat):Nat:=eB e0 r + gB e0 r + 2
theorem eX {z:Int} {e b:Nat} (h:z.natAbs≤2^e) (hb:e<b):z.natAbs<2^b:=Nat.lt_of_le_of_lt h (Nat.pow_lt_pow_right (by omega) hb)
structure Herm (r c e0:Nat) (M0:Nat→Nat→Int) (k:Nat) (S:WS):Prop where
  lin:Lin r c M0 S
  kr:k≤r
  kc:k≤c
  ech:mb r k c S.M
  bm:∀i j,i<r→j<c→(S.M i j).natAbs≤2^eB e0 k
  bu:∀i j,i<r→j<r→(S.U i j).natAbs≤2^eB e0 k
  bv:∀i j,i<r→j<r→(S.V i j).natAbs≤2^gB e0 k
theorem mb.kc {r k c q:Nat} {M:Nat→Nat→Int} (h:mb r k q M) (hq:q≤c):k≤q:=by
  obtain ⟨P,h1,_⟩:=h;have:∀n,n≤k→∀i,i<n→i≤P i:=by
    intro n
    induction n with
    | zero=>intro _ i hi;omega
    | succ n ih=>
      intro hn i hi
      by_cases e:i=n
      · subst e
        rcases Nat.eq_zero_or_pos i with h0 | h0
        · omega
        · have:=ih (by omega) (i - 1) (by omega)
          have:=((h1 i (by omega)).2.2.2 (i - 1) (by omega)).1;omega
      · exact ih (by omega) i (by omega)
  rcases Nat.eq_zero_or_pos k with h0 | h0
  · omega
  · have:=this k (Nat.le_refl _) (k - 1) (by omega)
    have:=(h1 (k - 1) (by omega)).1;omega
theorem kD (w:World) (x:Value) (r c:Nat) (M:Nat→Nat→Int) (b0 e0 b:Nat) (hx:cc w x r c M b0) (h8:r≤8) (hM:∀i j,i<r→j<c→(M i j).natAbs≤2^e0) (hb:bB e0 r≤b) (hb1:1 + e0≤b) (hl:2*b + 4≤br):
    Calls Tryz.prog 11 #[x] w (ci w fun v w'=>∃k S,Herm r c e0 M k S∧jn w' v r c S b):=by
  have hfit:∀{top:Nat} {S:WS},top<r→(∀i j,i<r→j<c→(S.M i j).natAbs≤2^eB e0 (top + 1))→(∀i j,i<r→j<r→(S.U i j).natAbs≤2^eB e0 (top + 1))→(∀i j,i<r→j<r→(S.V i j).natAbs≤2^gB e0 (top + 1))→jo r c b S:=by
    intro top S ht h1 h2 h3;have e1:=kG e0 (s:=top + 1) (t:=r) (by omega);have e2:=qV e0 (s:=top + 1) (t:=r) (by omega)
    unfold bB at hb
    exact ⟨fun i j hi hj=>eX (h1 i j hi hj) (by omega),fun i j hi hj=>eX (h2 i j hi hj) (by omega),fun i j hi hj=>eX (h3 i j hi hj) (by omega)⟩
  have e0r:=kG e0 (s:=0) (t:=r) (by omega);have hbb:=hb
  unfold bB at hbb
  simp only [eB] at e0r;have hx0:cc w x r c M (e0 + 1):=hx.more (fun i j hi hj=>eX (hM i j hi hj) (by omega)) (by omega);refine (zb w x r c M (e0 + 1) b (FI r c e0 M) (JI r c e0 M) hx0 (by omega) hl (FI.start hM) (fun top q S ht hq h=>⟨_,JI.of h ht hq⟩) ?_ ?_ ?_ ?_).mono ?_
  · intro top q m S ht hq hJ hp ho n hn
    obtain ⟨_,_,_,h3⟩:=hJ.round ht hq h8 hp ho;obtain ⟨g1,g2,g3⟩:=h3 n hn;exact hfit ht g1 g2 g3
  · intro top q m S ht hq hJ hp ho
    obtain ⟨m2,hm,hJ2,_⟩:=hJ.round ht hq h8 hp ho;exact ⟨m2,hm,hJ2⟩
  · intro top q m S ht hq hJ hp
    exact hJ.none ht hp
  · intro top q m S ht hq hJ hp ho
    obtain ⟨h1,h2⟩:=hJ.pivot ht hq h8 hp ho;exact ⟨fun n hn=>by obtain ⟨g1,g2,g3⟩:=h1 (n + 1) (by omega);exact hfit ht g1 g2 g3,h2⟩
  · rintro e w' ⟨v,rfl,hx',top,q,S,hF,hex,ht,hq,hH⟩
    have hech:mb r top c S.M:=by
      obtain ⟨P,h1,h2⟩:=hF.ech;refine ⟨P,fun i hi=> ?_,fun a ha har j hj=> ?_⟩
      · obtain ⟨g1,g2⟩:=h1 i hi;exact ⟨by omega,g2⟩
      · rcases hex with h | h
        · exact h2 a ha har j (by omega)
        · omega
    exact ⟨v,rfl,hx',top,S,⟨hF.lin,ht,hech.kc (Nat.le_refl _),hech,hF.bm,hF.bu,hF.bv⟩,hH⟩
end Go.TL
namespace Go.TL
set_option linter.unusedVariables false
theorem Herm.some {r c e0 k:Nat} {M0:Nat→Nat→Int} {S:WS} (h:Herm r c e0 M0 k S) {i:Nat} (hi:i<k):0≤piv (S.M i) c:=by
  obtain ⟨P,h1,_⟩:=h.ech;obtain ⟨g1,g2,_⟩:=h1 i hi
  by_cases hn:0≤piv (S.M i) c
  · exact hn
  · have h3:da iI (S.M i) c= -1:=by have:=(eI (p:=iI) (z:=S.M i) c).2;unfold piv at hn;omega
    have:=eN h3 (P i) g1
    unfold iI at this
    omega
theorem Herm.none {r c e0 k:Nat} {M0:Nat→Nat→Int} {S:WS} (h:Herm r c e0 M0 k S) {i:Nat} (hi:k≤i) (hr:i<r):¬0≤piv (S.M i) c:=by
  obtain ⟨P,_,h2⟩:=h.ech
  unfold piv
  rw [iW fun j hj=>by unfold iI;exact fun hne=>hne (h2 i hi hr j hj)];omega
theorem uQ (e0 s:Nat):∀t,eB (eB e0 s) t=eB e0 (s + t)
  | 0=>rfl
  | t + 1=>by rw [show s + (t + 1)=s + t + 1 by omega];simp only [eB];rw [uQ e0 s t]
end Go.TL
namespace Go.TL
open Go.RowKit Go.Proofs
set_option linter.unusedVariables false
set_option linter.unusedSimpArgs false
set_option maxRecDepth 10000 in
theorem wu (w:World) (x:Value) (rx cx:Nat) (Mx:Nat→Nat→Int) (btx:Nat) (e0 b:Nat) (hx:cc w x rx cx Mx btx) (h8:rx≤8) (hM:∀i j,i<rx→j<cx→(Mx i j).natAbs≤2^e0) (hb:bB e0 rx≤b) (hb1:1 + e0≤b) (hl:2*b + 4≤br):Calls Tryz.prog 15 #[x] w (ci w fun v w'=>∃k S,Herm rx cx e0 Mx k S∧cc w' v k cx S.M b):=by
 have hLIM:br=562949953421312:=rfl;have hmatx:=hx;obtain ⟨sx,rfl,hrx,hcx,hSx⟩:=hx.form;refine ak (N:=31) (rs:= #[.cell 2 28]) Tryz.func15 rfl rfl rfl (Nat.le_of_ble_eq_true rfl) ?_;have hX:aF w w:=aF.refl w;refine ab ?_;refine RL.x rfl rfl (dj.box [.int .i64 ((rx:Nat)),.int .i64 ((cx:Nat)),sx] rfl rfl) ?_;rintro _ w1 ⟨g1,rfl,hge1,hx1,hA1⟩;replace hX:=aF.trans hX hx1;refine RL.x rfl rfl (dj.alloc [.int .i64 (0),.int .i64 (0),.slice (none) (0) (0)] cf rfl) ?_;rintro _ w2 ⟨g2,rfl,hge2,hx2,hA2⟩;have hbs2:w.heap.size≤g2:=Nat.le_trans hX.size hge2;replace hA1:=be.ext hA1 hx2;replace hX:=aF.trans hX hx2;refine RL.nil ?_;refine ab ?_;refine RL.p rfl rfl (af [.int .i64 ((rx:Nat)),.int .i64 ((cx:Nat)),sx] aR rfl (hA1.cells 0 _ rfl rfl)) ?_;refine RL.x rfl rfl (dj.call qn (aI rfl) (kD _ _ rx cx Mx _ e0 b (cc.mk (co.ext hSx hX) (by omega) (by omega)) h8 hM hb hb1 hl)) ?_;rintro _ w3 ⟨hx3,kf_1,Sf_1,hHf_1,sa_1,sb_1,sc_1,rfl,hdr_1,hdc_1,hSa_1,hSb_1,hSc_1⟩;replace hA2:=be.ext hA2 hx3;replace hX:=aF.trans hX hx3;refine RL.p rfl rfl (pX vE aR rfl (by rfl)) ?_;refine RL.x rfl rfl (dj.alloc [.int .i64 (0),.int .i64 (0),.slice (none) (0) (0)] cf rfl) ?_;rintro _ w4 ⟨g3,rfl,hge3,hx4,hA3⟩;have ne3:g2≠g3:=Nat.ne_of_lt (Nat.lt_of_lt_of_le hA2.lt hge3);have hbs3:w.heap.size≤g3:=Nat.le_trans hX.size hge3;replace hA2:=be.ext hA2 hx4;replace hSa_1:=co.ext hSa_1 hx4;replace hX:=aF.trans hX hx4;refine RL.x rfl rfl (dj.store [.int .i64 ((rx:Nat)),.int .i64 ((cx:Nat)),sa_1] cL rfl rfl rfl hA3 (Nat.le_of_ble_eq_true rfl) (cM rfl rfl (hSa_1.one))) ?_;rintro _ w5 ⟨hk1,hnew⟩;replace hA2:=hA2.keep hk1 ne3;replace hSa_1:=bl hSa_1 hk1 hA3 (by decide);replace hX:=hX.step hk1 (fun b e=>by subst e;exact hbs3);replace hA3:=hnew.lit [.int .i64 ((rx:Nat)),.int .i64 ((cx:Nat)),sa_1] rfl;clear hnew;refine RL.nil ?_;have hkr:=hHf_1.kr;refine ab ?_;refine RL.p rfl rfl (cI.assign rfl) ?_;refine RL.nil ?_;refine WP.seq ?_;refine WP.block ?_;refine WP.loop (fun mz ez uz=>∃n:Nat,(mz=kf_1 - n)∧(ez 2= .pointer (some ⟨g2,0,none⟩))∧(ez 3= .pointer (some ⟨g3,0,none⟩))∧(ez 4= .int .i64 ((n:Nat)))∧(n≤kf_1)∧(aF w uz)∧(be uz g2 28 3 (bS [.int .i64 (0),.int .i64 (0),.slice (none) (0) (0)]))∧(co uz sa_1 rx cx Sf_1.M b)∧(be uz g3 28 3 (bS [.int .i64 ((rx:Nat)),.int .i64 ((cx:Nat)),sa_1]))) (kf_1 - 0) ?_ ?_
 · exact ⟨0,rfl,rfl,rfl,rfl,(by omega),hX,hA2,hSa_1,hA3⟩
 rintro m1 e1 w6 ⟨n,hm1,s2_e1,s3_e1,s4_e1,hn,hX1,hA2,hSa_1,hA3⟩;refine WP.seq ?_;refine aK am 13 [_,_,_,_,fun v BI=>v= .bool (decide (((n:Nat):Int)<((rx:Nat):Int))),_,_,_,_,_,_,_,_] rfl rfl (fun e_ w_ BH BG=>⟨fun _=>aa (cI.move ((BG 4 rfl s4_e1))),fun _=>aa (cI.fieldAddr bg ((BG 3 rfl s3_e1))),fun BF=>aa (cI.load bG ((BF 1 rfl)) ((be.ext hA3 BH).at_ (i:=0) rfl rfl)),fun BF=>aa (cI.lss ((BF 0 rfl)) ((BF 2 rfl))),fun BF=>aa (cI.move ((BF 3 rfl))),fun BF=>gT (BF 4 rfl) fun hg=>aa (cI.fieldAddr aq ((BG 3 rfl s3_e1))),fun BF=>gT (BF 4 rfl) fun hg=>aa (cI.load aH ((BF 5 rfl hg)) ((be.ext hA3 BH).at_ (i:=2) rfl rfl)),fun BF=>gT (BF 4 rfl) fun hg=>aa (cI.move ((BG 4 rfl s4_e1))),fun BF=>gT (BF 4 rfl) fun hg=>ah (aZ (j:=n) aB (BF 6 rfl hg) (co.ext hSa_1 BH) (BF 7 rfl hg) (by omega) (by omega)),fun BF=>gT (BF 4 rfl) fun hg=>ah (bn aU rfl (BF 8 rfl hg)),fun BF=>gT (BF 4 rfl) fun hg=>dj.call qm (aI rfl) (kC _ _ _ _ _ (BF 9 rfl hg)),fun BF=>gT (BF 4 rfl) fun hg=>aa (cI.geq ((BF 10 rfl hg)) rfl),fun BF=>aa (ay (p:=((n:Nat):Int)<((rx:Nat):Int)) (q:=(0:Int)≤(piv (Sf_1.M n) cx:Int)) (BF 4 rfl) (fun hq=>(BF 11 rfl hq))),trivial⟩) ?_;intro e2 w7 hx5 ho1 hf1;replace hA2:=be.ext hA2 hx5;replace hSa_1:=co.ext hSa_1 hx5;replace hA3:=be.ext hA3 hx5;replace hX1:=aF.trans hX1 hx5;have s2_e2:=ho1 2 rfl s2_e1;have s3_e2:=ho1 3 rfl s3_e1;have s4_e2:=ho1 4 rfl s4_e1;have s20_e2:e2 20=_:=hf1 12 rfl;refine RL.nil ?_;refine ag ((((n:Nat):Int)<((rx:Nat):Int))∧((0:Int)≤(piv (Sf_1.M n) cx:Int))) s20_e2 (fun c20=> ?_) (fun c20=> ?_)
 ·
  refine WP.skip ?_;refine pR.norm ?_;refine WP.block ?_;refine WP.region ?_;refine RL.p rfl rfl (cI.move s4_e2) ?_;refine RL.p rfl rfl (cI.add (c:=((n + 1:Nat):Int)) rfl rfl (bU (by omega))) ?_;refine RL.p rfl rfl (cI.assign rfl) ?_;refine RL.nil ?_;refine jm.norm ?_;have hnk:n<kf_1:=by
    rcases Nat.lt_or_ge n kf_1 with h | h
    · exact h
    · exact absurd c20.2 (hHf_1.none h (by omega))
  refine pR.norm ⟨_,(by omega),n + 1,rfl,s2_e2,s3_e2,rfl,(by omega),hX1,hA2,hSa_1,hA3⟩
 ·
  refine WP.exit ?_;refine pR.exit ?_;refine pR.exit ?_;refine jm.same ?_;refine pR.norm ?_;refine aK am 7 [_,_,_,_,_,_,_] rfl rfl (fun e_ w_ BH BG=>⟨fun _=>aa (cI.move ((BG 4 rfl s4_e2))),fun _=>aa (cI.fieldAddr bE ((BG 3 rfl s3_e2))),fun BF=>aa (cI.load bG ((BF 1 rfl)) ((be.ext hA3 BH).at_ (i:=1) rfl rfl)),fun _=>aa (cI.fieldAddr aq ((BG 3 rfl s3_e2))),fun BF=>aa (cI.load aH ((BF 3 rfl)) ((be.ext hA3 BH).at_ (i:=2) rfl rfl)),fun _=>aa (cI.move ((BG 4 rfl s4_e2))),fun BF=>ah (iu (j:=n) aB (BF 4 rfl) (co.ext hSa_1 BH) (BF 5 rfl) (by omega) (by omega)),trivial⟩) ?_;intro e3 w8 hx6 ho2 hf2;replace hA2:=be.ext hA2 hx6;replace hX1:=aF.trans hX1 hx6;have s2_e3:=ho2 2 rfl s2_e2;have s23_e3:e3 23=_:=hf2 0 rfl;have s25_e3:e3 25=_:=hf2 2 rfl;have s29_e3:co w8 (e3 29) n cx Sf_1.M b:=hf2 6 rfl;refine RL.p rfl rfl (cI.build (vs:= [(0,.int .i64 ((n:Nat))),(1,.int .i64 ((cx:Nat))),(2,(e3 29))]) [(0,1),(1,1),(2,1)] kS cf (eC s23_e3 s25_e3 rfl) (AS s29_e3)) ?_;refine RL.x rfl rfl (dj.store [.int .i64 ((n:Nat)),.int .i64 ((cx:Nat)),(e3 29)] cL s2_e3 rfl rfl hA2 (Nat.le_of_ble_eq_true rfl) (cM rfl rfl (s29_e3.one))) ?_;rintro _ w9 ⟨hk2,hnew⟩;replace s29_e3:=bl s29_e3 hk2 hA2 (by decide);replace hX1:=hX1.step hk2 (fun b e=>by subst e;exact hbs2);replace hA2:=hnew.lit [.int .i64 ((n:Nat)),.int .i64 ((cx:Nat)),(e3 29)] rfl;clear hnew;refine RL.nil ?_;refine WP.ret ?_;refine ⟨.agg #[.int .i64 ((n:Nat)),.int .i64 ((cx:Nat)),(e3 29)],Bb.one (aj [.int .i64 ((n:Nat)),.int .i64 ((cx:Nat)),(e3 29)] aR s2_e3 (hA2.cells 0 _ rfl rfl)),_,rfl,hX1,?_⟩;dsimp only;have hnk:n=kf_1:=by
    rcases Nat.lt_or_ge n kf_1 with h | h
    · exact absurd ⟨by omega,hHf_1.some h⟩ c20
    · omega
  exact ⟨kf_1,Sf_1,hHf_1,hnk▸(cc.mk s29_e3 (by omega) (by omega))⟩
end Go.TL
namespace Go.TL
open Go.RowKit Go.Proofs
set_option linter.unusedVariables false
def yc (M:Nat→Nat→Int):Nat→Nat→Int:=fun i j=>M j i
def gH (r c e0:Nat) (M0:Nat→Nat→Int) (k:Nat) (M:Nat→Nat→Int):Prop:=
  ∃k1 S1 S2,Herm r c e0 M0 k1 S1∧Herm (r - k1) r (eB e0 k1) (fun i=>S1.U (k1 + i)) k S2∧M=S2.M
theorem gH.bd {r c e0 k:Nat} {M0 M:Nat→Nat→Int} (h:gH r c e0 M0 k M) {i j:Nat} (hi:i<k) (hj:j<r):(M i j).natAbs≤2^eB e0 r:=by
  obtain ⟨k1,S1,S2,h1,h2,rfl⟩:=h;have g1:=h2.kr;have g2:=h1.kr;refine Nat.le_trans (h2.bm i j (by omega) hj) (Nat.pow_le_pow_right (by omega) ?_);rw [uQ];exact kG e0 (by omega)
theorem gH.kr {r c e0 k:Nat} {M0 M:Nat→Nat→Int} (h:gH r c e0 M0 k M):k≤r:=by
  obtain ⟨k1,S1,S2,h1,h2,rfl⟩:=h;have g1:=h2.kr;omega
def rp (r c e0:Nat) (M0:Nat→Nat→Int) (k:Nat) (M:Nat→Nat→Int):Prop:=∃k1 K1,gH c r e0 (yc M0) k1 K1∧gH c k1 (eB e0 c) (yc K1) k M
theorem rp.bd {r c e0 k:Nat} {M0 M:Nat→Nat→Int} (h:rp r c e0 M0 k M) {i j:Nat} (hi:i<k) (hj:j<c):(M i j).natAbs≤2^eB (eB e0 c) c:=by
  obtain ⟨k1,K1,h1,h2⟩:=h;exact h2.bd hi hj
end Go.TL
namespace Go.TL
open Go.RowKit Go.Proofs
set_option linter.unusedVariables false
def xr (w:World) (v:Value) (r c e0:Nat) (M0:Nat→Nat→Int) (b:Nat):Prop:=∃k S,Herm r c e0 M0 k S∧cc w v k c S.M b
def xf (w:World) (v:Value) (r c e0:Nat) (M0:Nat→Nat→Int) (b:Nat):Prop:=∃k M,rp r c e0 M0 k M∧cc w v k c M b
def ro (w:World) (v:Value) (r c e0:Nat) (M0:Nat→Nat→Int):Prop:=∃k S k2 M2,Herm r c e0 M0 k S∧rp r c e0 M0 k2 M2∧v= .bool (decide (aA k c k2 c S.M M2))
theorem xr.ext {w w':World} {v:Value} {r c e0 b:Nat} {M0:Nat→Nat→Int} (h:xr w v r c e0 M0 b) (hx:aF w w'):xr w' v r c e0 M0 b:=by obtain ⟨k,S,h1,h2⟩:=h;exact ⟨k,S,h1,h2.ext hx⟩
theorem xf.ext {w w':World} {v:Value} {r c e0 b:Nat} {M0:Nat→Nat→Int} (h:xf w v r c e0 M0 b) (hx:aF w w'):xf w' v r c e0 M0 b:=by obtain ⟨k,S,h1,h2⟩:=h;exact ⟨k,S,h1,h2.ext hx⟩
theorem ro.ext {w w':World} {v:Value} {r c e0:Nat} {M0:Nat→Nat→Int} (h:ro w v r c e0 M0) (hx:aF w w'):ro w' v r c e0 M0:=h
theorem sm (r c e0:Nat) (M0:Nat→Nat→Int) (b:Nat):bP (fun v w=>xr w v r c e0 M0 b):=fun _ _ _ h hx=>h.ext hx
instance (r c e0:Nat) (M0:Nat→Nat→Int) (b:Nat):Nonempty (bP (fun v w=>xr w v r c e0 M0 b)):=⟨sm r c e0 M0 b⟩
theorem rX (r c e0:Nat) (M0:Nat→Nat→Int) (b:Nat):bP (fun v w=>xf w v r c e0 M0 b):=fun _ _ _ h hx=>h.ext hx
instance (r c e0:Nat) (M0:Nat→Nat→Int) (b:Nat):Nonempty (bP (fun v w=>xf w v r c e0 M0 b)):=⟨rX r c e0 M0 b⟩
theorem py (r c e0:Nat) (M0:Nat→Nat→Int):bP (fun v w=>ro w v r c e0 M0):=fun _ _ _ h _=>h
instance (r c e0:Nat) (M0:Nat→Nat→Int):Nonempty (bP (fun v w=>ro w v r c e0 M0)):=⟨py r c e0 M0⟩
def rz (w:World) (g r c:Nat) (S:WS) (b:Nat):Prop:=∃s1 s2 s3,be w g 31 9 (bS [.int .i64 (r:Nat),.int .i64 (c:Nat),s1,.int .i64 (r:Nat),.int .i64 (r:Nat),s2,.int .i64 (r:Nat),.int .i64 (r:Nat),s3])∧
  (r≤65536∧b≤br)∧c≤65536∧co w s1 r c S.M b∧co w s2 r r S.U b∧co w s3 r r S.V b
end Go.TL
namespace Go.TL
open Go.RowKit Go.Proofs
set_option linter.unusedVariables false
theorem rz.keep {w w':World} {g r c b g2 m:Nat} {f:Nat→Value} {S:WS} (h:rz w g r c S b) (hk:Keeps (fun k=>k=g2) w w') (hA:be w g2 28 m f):rz w' g r c S b:=by
  obtain ⟨s1,s2,s3,h1,h2,h3,h4,h5,h6⟩:=h;exact ⟨s1,s2,s3,h1.keep hk (h1.ne hA (by decide)),h2,h3,bl h4 hk hA (by decide),bl h5 hk hA (by decide),bl h6 hk hA (by decide)⟩
theorem rz.ext {w w':World} {g r c b:Nat} {S:WS} (h:rz w g r c S b) (hx:aF w w'):rz w' g r c S b:=by
  obtain ⟨s1,s2,s3,h1,h2,h3,h4,h5,h6⟩:=h;exact ⟨s1,s2,s3,h1.ext hx,h2,h3,h4.ext hx,h5.ext hx,h6.ext hx⟩
end Go.TL
namespace Go.TL
open Go.RowKit
set_option linter.unusedVariables false
section
variable {P:Program} {e:ct} {w:World} {d:Option Tmp} {ty:TypeId} {pos:String} {after:Array Edge} {gd:Option (Nat×Bool)}
theorem oS {t bb g1 c1 g gh m dd c b B:Nat} {x y:Operand} {v:Value} {z:Nat→Int} {M:Nat→Nat→Int} {ρ:Nat→Nat} (ht:sliceB P t 41 1 bb=true) (hb:bb≤32) (hz:(P.info? 41).bind (·.zero)=some (.slice none 0 0))
    (hx:ev e x= .slice (some ⟨gh,0,none⟩) dd m) (hy:ev e y= .slice (some ⟨g1,0,none⟩) 1 c1) (hM:cD w B gh m dd c ρ M b) (hT:be w g1 41 1 (bS [v])) (hS:fx w v g c) (hR:cN w g c z b) (hzz:∀j,j<c→M dd j=z j) (hB:B≤g)
    (hBw:B≤w.heap.size) (hnew:∀i,i<dd→ρ i≠g) (hd:dd<65536):
    dj P ⟨d,.call {callee:= .builtin .append,args:= #[x,y],argTypes:= #[t,t]},ty,pos,after,gd⟩ e w
      (fun v' w'=>Keeps (fun b=>b=gh) w w'∧∃gh' m',v'= .slice (some ⟨gh',0,none⟩) (dd + 1) m'∧cD w' B gh' m' (dd + 1) c (cC ρ dd g) M b):=by
  have hne:=fun k (hk:k<dd)=>hM.ne hk
  have hnu:=hM.nu;obtain ⟨h1,h2,⟨h3,h3b,f,h6,h7⟩,h4,h5⟩:=hM;have hgne:g≠gh:=by
    obtain ⟨m',f',_,ha',_⟩:=hR;exact ha'.ne h6 (by decide)
  obtain ⟨kk,hvk,_,_⟩:=id hS;refine dj.mono (kf (n:=dd) (cap:=m) (kk:=1) (h:=fun _=>v) (f:=f) [.slice none 0 0] ht hb hz rfl rfl (by decide) hx hy (by rw [Nat.mul_one];exact h6) h3 h3b.1 (fun i hi=> ?_) (fun i hi=>hS.one) (by omega)) ?_
  · have:i=0:=by omega
    subst this;exact hT.cell (i:=0) (by decide)
  · rintro v' w' ⟨hk,gh',m',f',rfl,g5,g6,g7,g8,g9,g10⟩
    simp only [Nat.mul_one] at g8 g9 g10;refine ⟨hk,gh',m',rfl,?_,h2,⟨g5,⟨g6,by omega⟩,f',g8,fun i hi=> ?_⟩,fun i hi=> ?_,fun i j hi hj e=> ?_⟩
    · rcases g7 with g7 | g7
      · rw [g7.1];exact h1
      · omega
    · by_cases e:i=dd
      · subst e;rw [bs]
        have:=g10 0 (by decide);rw [Nat.add_zero] at this;rw [this];exact hS
      · rw [bp _ _ _ _ e,g9 i (by omega)];exact h7 i (by omega)
    · by_cases e:i=dd
      · subst e;rw [bs];exact ⟨hB,(hR.keep hk hgne hnu).congr fun j hj=>(hzz j hj).symm⟩
      · rw [bp _ _ _ _ e];exact ⟨(h4 i (by omega)).1,(h4 i (by omega)).2.keep hk (fun e2=>hne i (by omega) e2.symm) hnu⟩
    · by_cases e1:i=dd<;>by_cases e2:j=dd
      · omega
      · rw [e1,bs,bp _ _ _ _ e2] at e;exact absurd e.symm (hnew j (by omega))
      · rw [e2,bs,bp _ _ _ _ e1] at e;exact absurd e (hnew i (by omega))
      · rw [bp _ _ _ _ e1,bp _ _ _ _ e2] at e;exact h5 i j (by omega) (by omega) e
def xn (w:World) (v:Value) (B r c:Nat) (M:Nat→Nat→Int) (b:Nat):Prop:=∃gh k ρ,v= .slice (some ⟨gh,0,none⟩) r k∧cD w B gh k r c ρ M b
theorem xn.ext {w w':World} {v:Value} {B r c b:Nat} {M:Nat→Nat→Int} (h:xn w v B r c M b) (hx:aF w w'):xn w' v B r c M b:=by obtain ⟨gh,k,ρ,h1,h2⟩:=h;exact ⟨gh,k,ρ,h1,h2.ext hx⟩
theorem uc (B r c:Nat) (M:Nat→Nat→Int) (b:Nat):bP (fun v w=>xn w v B r c M b):=fun _ _ _ h hx=>h.ext hx
instance (B r c:Nat) (M:Nat→Nat→Int) (b:Nat):Nonempty (bP (fun v w=>xn w v B r c M b)):=⟨uc B r c M b⟩
theorem xn.hdrV {v:Value} {B r c b:Nat} {M:Nat→Nat→Int} (h:xn w v B r c M b):co w v r c M b:=by obtain ⟨gh,k,ρ,rfl,h2⟩:=h;exact h2.hdrV h2.dlim.1 h2.dlim.2.1
theorem fF {t i ft B r c b:Nat} {x:Operand} {v:Value} {M:Nat→Nat→Int} (hf:jG P t i ft 2=true) (ho:oneB P ft=true) (hx:ev e x=v) (hM:cH w v B r c M b):
    dj P ⟨d,.field t x i,ty,pos,after,gd⟩ e w (fun v' w'=>w=w'∧xn w' v' B r c M b):=by
  obtain ⟨gh,k',ρ,rfl,hMx⟩:=hM;refine dm (φ:=fun v' w'=>xn w' v' B r c M b) (v:= .slice (some ⟨gh,0,none⟩) r k') ?_ ⟨gh,k',ρ,rfl,hMx⟩
  unfold jG at hf
  split at hf
  · rename_i fs hs
    split at hf
    · rename_i fd hfd
      simp only [Bool.and_eq_true] at hf;have e1:=Nat.eq_of_beq_eq_true hf.1;have e2:=Nat.eq_of_beq_eq_true hf.2;subst e2;have hn:(isAgg fd.type).run P w= .ok false w:=by
        unfold oneB at ho
        cases hu:P.underlying fd.type with
        | none=>rw [hu] at ho;cases ho
        | some dsc=>
          rw [hu] at ho;cases dsc<;>first | (simp at ho;done) | simp [isAgg,run_underlying hu]
      simp only [cI,execOp,hx,Instr.field,Sem.run_bind,run_underlying hs,Result.andThen_ok,hfd,asAgg,Sem.run_pure,part,hn,Bool.false_eq_true,if_false,e1]
      rfl
    · cases hf
  · cases hf
theorem co.cells1 {v:Value} {n c b:Nat} {M:Nat→Nat→Int} (h:co w v n c M b):v.cells= [v].toArray:=by obtain ⟨A,k,rfl,_⟩:=h;rfl
theorem bO.cells1 {v:Value} {n b:Nat} {z:Nat→Int} (h:bO w v n z b):v.cells= [v].toArray:=by obtain ⟨A,k,rfl,_⟩:=h;rfl
end
theorem rG (M:Nat→Nat→Int) (i j:Nat) (x y:Int):eu (eu M i j x) i j y=eu M i j y:=by
  funext a c;unfold eu;split<;>rfl
theorem rI (M:Nat→Nat→Int) (i j:Nat) (x:Int):eu M i j x i j=x:=by unfold eu;rw [if_pos ⟨rfl,rfl⟩]
theorem rH (M:Nat→Nat→Int) (i j:Nat):eu M i j (M i j)=M:=by
  funext a c;unfold eu;split
  · rename_i h;rw [h.1,h.2]
  · rfl
theorem gW (F:Nat→Nat→Int):(fun _ _=>0)=cR F 0 0:=by funext a c;rw [pv]
theorem tS (F:Nat→Nat→Int) (i j:Nat):cR F i j i j=0:=by unfold cR;rw [if_neg (by omega)]
def xV (n:Nat):Nat→Nat→Int:=fun a c=>if a<n∧a=c then 1 else 0
theorem wO:(fun _ _=>0)=xV 0:=by funext a c;unfold xV;rw [if_neg (by omega)]
theorem wN (i:Nat):eu (xV i) i i 1=xV (i + 1):=by
  funext a c;unfold eu xV
  by_cases h:a=i∧c=i
  · rw [if_pos h,if_pos (by omega)]
  · rw [if_neg h]
    by_cases h2:a<i∧a=c
    · rw [if_pos h2,if_pos (by omega)]
    · rw [if_neg h2,if_neg (by omega)]
theorem wP {n a:Nat} (c:Nat) (h:a<n):xV n a c=dA a c:=by unfold xV dA;by_cases e:a=c<;>simp [e,h];omega
theorem mul_zero (F:Nat→Nat→Int) (i j:Nat):cR F i j=eu (cR F i j) i j 0:=by
  have:=rH (cR F i j) i j;rw [tS] at this;exact this.symm
theorem xn.up {w:World} {v:Value} {B r c b b':Nat} {M:Nat→Nat→Int} (h:xn w v B r c M b) (hb:b≤b') (hl:b'≤br):xn w v B r c M b':=by
  obtain ⟨gh,k,ρ,h1,h2⟩:=h;exact ⟨gh,k,ρ,h1,h2.up hb hl⟩
def bC (f:Nat→Int) (n c:Nat):Nat→Nat→Int:=fun i j=>if i*c + j<n then (f (i*c + j)).tmod 10 else 0
def fr (f:Nat→Int) (n c:Nat):Nat→Nat→Int:=fun i j=>if i*c + j<n then f (i*c + j) else 0
theorem sW (x:Int):(x.tmod 10).natAbs<10:=by rw [Int.natAbs_tmod];exact Nat.mod_lt _ (by decide)
theorem pg (x:Int): -9223372036854775808≤x.tmod 10∧x.tmod 10<9223372036854775808:=by have:=sW x;omega
theorem xx (x:Int):(x.tmod 10).natAbs<2^4:=by have:=sW x;omega
theorem oI (f:Nat→Int) (n c i j:Nat):(bC f n c i j).natAbs<2^4:=by
  unfold bC;split
  · exact xx _
  · decide
theorem uL {f:Nat→Int} {n c i j:Nat} (h:i*c + j<n):(f (i*c + j)).tmod 10=bC f n c i j:=by unfold bC;rw [if_pos h]
theorem uu {f:Nat→Int} {n c i j:Nat} (h:i*c + j<n):f (i*c + j)=fr f n c i j:=by unfold fr;rw [if_pos h]
theorem uf {r c r' c':Nat} {M M':Nat→Nat→Int} (h:¬(r=r'∧c=c')):decide (aA r c r' c' M M')=false:=decide_eq_false fun e=>h ⟨e.1,e.2.1⟩
theorem ug {r c r' c' i:Nat} {M M':Nat→Nat→Int} (hi:i<r) (h:¬aG c c' (M i) (M' i)):decide (aA r c r' c' M M')=false:=
  decide_eq_false fun e=>h ⟨e.2.1,fun j hj=>e.2.2 i hi j hj⟩
theorem ss {r c r' c':Nat} {M M':Nat→Nat→Int} (h:r=r'∧c=c') (he:∀i,i<r→aG c c' (M i) (M' i)):decide (aA r c r' c' M M')=true:=
  decide_eq_true ⟨h.1,h.2,fun i hi j hj=>(he i hi).2 j hj⟩
theorem uw {f:Nat→Int} {n b:Nat} (h:∀i,i<n→(f i).natAbs<2^b) (c i j:Nat):(fr f n c i j).natAbs<2^b:=by
  unfold fr;split
  · rename_i h1;exact h _ h1
  · exact Nat.pow_pos (by decide)
theorem zP (x k:Nat):((x:Nat):Int).tmod ((k:Nat):Int)=((x % k:Nat):Int):=rfl
theorem mo {F:Nat→Nat→Int} {i j n:Nat} (h:∀c,j≤c→c<n→F i c=0) {a c:Nat} (hc:c<n):cR F i j a c=cR F (i + 1) 0 a c:=by
  unfold cR
  by_cases h1:a<i
  · rw [if_pos (by omega),if_pos (by omega)]
  · by_cases h2:a=i
    · subst h2
      by_cases h3:c<j
      · rw [if_pos (by omega),if_pos (by omega)]
      · rw [if_neg (by omega),if_pos (by omega),h c (by omega) hc]
    · rw [if_neg (by omega),if_neg (by omega)]
def eE (k:IntKind) (T:Nat) (w:World) (v:Value) (n:Nat) (f:Nat→Int):Prop:=∃A c,v= .slice A n c∧n≤c∧c<9223372036854775808∧(0<n→∃g o,A=some ⟨g,o,none⟩∧∀i,i<n→w.cell? ⟨g,o + i,none⟩=some (.int k (f i)))
theorem eE.ext {k:IntKind} {T:Nat} {w w':World} {v:Value} {n:Nat} {f:Nat→Int} (h:eE k T w v n f) (hx:aF w w'):eE k T w' v n f:=by
  obtain ⟨A,c,h1,h2,h3,h4⟩:=h;exact ⟨A,c,h1,h2,h3,fun hn=>by obtain ⟨g,o,hA,hc⟩:=h4 hn;exact ⟨g,o,hA,fun i hi=>aF.cell (hc i hi) hx⟩⟩
instance (k:IntKind) (T n:Nat) (f:Nat→Int):Nonempty (bP (fun v w=>eE k T w v n f)):=⟨fun _ _ _ h hx=>eE.ext h hx⟩
def pb (k:IntKind) (w:World) (v:Value) (x:Int):Prop:=∃g o,v= .pointer (some ⟨g,o,none⟩)∧w.cell? ⟨g,o,none⟩=some (.int k x)
theorem pb.ext {k:IntKind} {w w':World} {v:Value} {x:Int} (h:pb k w v x) (hx:aF w w'):pb k w' v x:=by obtain ⟨g,o,h1,h2⟩:=h;exact ⟨g,o,h1,aF.cell h2 hx⟩
theorem sa (k:IntKind) (x:Int):bP (fun v w=>pb k w v x):=fun _ _ _ h hx=>h.ext hx
instance (k:IntKind) (x:Int):Nonempty (bP (fun v w=>pb k w v x)):=⟨sa k x⟩
section
variable {P:Program} {e:ct} {w:World} {d:Option Tmp} {ty:TypeId} {pos:String} {after:Array Edge} {gd:Option (Nat×Bool)}
theorem ji {k:IntKind} {T t n j m:Nat} {x ix:Operand} {v:Value} {f:Nat→Int} {i:Int} {k2:IntKind} (ht:sliceB P t T 1 m=true) (hx:ev e x=v) (hN:eE k T w v n f) (hi:ev e ix= .int k2 i) (hij:i=(j:Int)) (hj:j<n):
    dj P ⟨d,.indexAddr t x ix,ty,pos,after,gd⟩ e w (fun v' w'=>w=w'∧pb k w' v' (f j)):=by
  obtain ⟨A,c,rfl,h2,h3,h4⟩:=hN;obtain ⟨g,o,rfl,hc⟩:=h4 (by omega);refine dm (φ:=fun v' w'=>pb k w' v' (f j)) (cI.index (j:=j) ht hx hi rfl hij hj) ⟨g,_,rfl,?_⟩;rw [Nat.mul_one];exact hc j hj
theorem kd {k:IntKind} {t:Nat} {x:Operand} {v:Value} {q:Int} (ht:oneB P t=true) (hx:ev e x=v) (hP:pb k w v q):cI P ⟨d,.load t x,ty,pos,after,gd⟩ e w (.int k q):=by
  obtain ⟨g,o,rfl,hc⟩:=hP;exact cI.load ht hx hc
theorem lR {k:IntKind} {T t n m:Nat} {x:Operand} {v:Value} {f:Nat→Int} (ht:sliceB P t T 1 m=true) (hx:ev e x=v) (hN:eE k T w v n f):
    cI P ⟨d,.call {callee:= .builtin .len,args:= #[x],argTypes:= #[t]},ty,pos,after,gd⟩ e w (.int .i64 (n:Nat)):=by
  obtain ⟨A,c,rfl,h2,h3,h4⟩:=hN;exact cI.len ht hx
end
end Go.TL
namespace Go.TL
open Go.RowKit
set_option linter.unusedVariables false
def lZ (w:World) (g cap n:Nat) (z:Nat→Int) (b:Nat):Prop:=
  (n≤cap∧cap<9223372036854775808∧b≤br∧n≤65536)∧∃f,be w g 49 (cap*2) f∧∀j,j<n→al w (.agg #[f (2*j),f (2*j + 1)]) (z j) b
section
variable {w w':World} {g cap n b:Nat} {z:Nat→Int}
theorem lZ.lt (h:lZ w g cap n z b):g<w.heap.size:=by obtain ⟨_,f,ha,_⟩:=h;exact ha.lt
theorem lZ.keep {S:Nat→Prop} (h:lZ w g cap n z b) (hk:Keeps S w w') (hg:¬S g) (hs:∀k m f,S k→¬be w k 101 m f):lZ w' g cap n z b:=by
  obtain ⟨h1,f,ha,hf⟩:=h;exact ⟨h1,f,ha.keep hk hg,fun j hj=>(hf j hj).keep hk hs⟩
theorem lZ.ext (h:lZ w g cap n z b) (hx:aF w w'):lZ w' g cap n z b:=h.keep (hx.keeps (fun _=>False)) id fun _ _ _ hf=>hf.elim
theorem lZ.rowB (h:lZ w g cap n z b):cN w g n z b:=by
  obtain ⟨h1,f,ha,hf⟩:=h;exact ⟨cap*2,f,⟨by omega,h1.2.2.1⟩,ha,hf⟩
theorem lZ.rowV (h:lZ w g cap n z b):bO w (.slice (some ⟨g,0,none⟩) n cap) n z b:=h.rowB.rowV h.1.1 ⟨h.1.2.1,h.1.2.2.2⟩
theorem lZ.congr {z':Nat→Int} (h:lZ w g cap n z b) (he:∀j,j<n→z j=z' j):lZ w g cap n z' b:=by
  obtain ⟨h1,f,ha,hf⟩:=h;exact ⟨h1,f,ha,fun j hj=>he j hj▸hf j hj⟩
theorem lZ.born {f:Nat→Value} (ha:be w g 49 0 f) (z:Nat→Int) (hb:b≤br):lZ w g 0 0 z b:=
  ⟨⟨Nat.le_refl _,by decide,hb,by decide⟩,f,ha,fun j hj=>absurd hj (by omega)⟩
end
theorem cN.up {w:World} {g n b b':Nat} {z:Nat→Int} (h:cN w g n z b) (hb:b≤b') (hl:b'≤br):cN w g n z b':=by
  obtain ⟨m,f,h1,h2,h3⟩:=h;exact ⟨m,f,⟨h1.1,hl⟩,h2,fun j hj=>(h3 j hj).up hb hl⟩
theorem bO.bd {w:World} {v:Value} {n b:Nat} {z:Nat→Int} (h:bO w v n z b):∀j,j<n→(z j).natAbs<2^b:=by
  intro j hj;obtain ⟨A,k,h1,h2,h3,h4⟩:=h;obtain ⟨g,_,m,f,_,_,hf⟩:=h4 (by omega);exact (hf j hj).2.1
theorem co.bd {w:World} {v:Value} {n c b:Nat} {M:Nat→Nat→Int} (h:co w v n c M b):∀i j,i<n→j<c→(M i j).natAbs<2^b:=by
  intro i j hi hj;obtain ⟨A,k,h1,h2,h3,h4⟩:=h;obtain ⟨g,o,m,f,_,_,_,hf⟩:=h4 (by omega);exact (hf i hi).bd j hj
section
variable {P:Program} {e:ct} {w:World} {d:Option Tmp} {ty:TypeId} {pos:String} {after:Array Edge} {gd:Option (Nat×Bool)}
theorem oW {t T m b g cap c1:Nat} {A:Option Addr} {x y:Operand} (ht:sliceB P t T m b=true)
    (hx:ev e x= .slice (some ⟨g,0,none⟩) 0 cap) (hy:ev e y= .slice A 0 c1):
    cI P ⟨d,.call {callee:= .builtin .append,args:= #[x,y],argTypes:= #[t,t]},ty,pos,after,gd⟩ e w (.slice (some ⟨g,0,none⟩) 0 cap):=by
  obtain ⟨hu,i0,hi0,hm,hbb⟩:=bX ht;have hrun:(Builtin.append_ #[t,t] ty #[.slice (some ⟨g,0,none⟩) 0 cap,.slice A 0 c1]).run P w= .ok (.slice (some ⟨g,0,none⟩) 0 cap) w:=by
    cases A with
    | none=>simp [Builtin.append_,run_underlying hu,sizeOf,typeInfo,hi0,Builtin.lenOf,Builtin.firstCells,storeCells]
    | some ad=>simp [Builtin.append_,run_underlying hu,sizeOf,typeInfo,hi0,Builtin.lenOf,Builtin.firstCells,storeCells,loadCells,loadCellsFrom]
  simp [cI,execOp,resolve,invoke,builtin,hx,hy,hrun,Result.andThen]
end
end Go.TL
namespace Go.TL
open Go.RowKit
set_option linter.unusedVariables false
def HL (P:Program) (N:Nat) (l:List Oper) (S:World→Prop) (K:ct→World→Prop) (fuel:Nat) (listed:Array Bool) (e:ct) (w:World):Prop:=
  S w∧∀a Q,IsE N a e→(∀a' e' w',IsE N a' e'→K e' w'→Q .normal a' w')→(∀c a' w',¬Q (.panic c) a' w')→wpAnyH P .any l.toArray Q S fuel listed a w
section
variable {P:Program} {N:Nat} {l:List Oper} {S:World→Prop} {K:ct→World→Prop} {fuel:Nat} {listed:Array Bool} {e:ct} {w:World} {o:Oper}
theorem HL.nil (hS:S w) (hr:Region.ready .any l.toArray listed= []) (h:K e w):HL P N l S K fuel listed e w:=
  ⟨hS,fun _ _ ha hk _=>wpAnyH_done hr (hk _ _ _ ha h) _⟩
theorem HL.x {R:Value→World→Prop} (i:Nat) (hS:S w) (hr:Region.ready .any l.toArray listed= [i]) (ho:l[i]? =some o) (hd:fK N o.dst=true) (hg:o.guard=none) (h:dj P o e w R)
    (k:∀v w',R v w'→HL P N l S K fuel (listed.setIfInBounds i true) (dV e o.dst v) w'):HL P N l S K (fuel + 1) listed e w:=by
  refine ⟨hS,fun a Q ha hk hq=>wpAnyH_all hr (by simp) fun j hj=> ?_⟩;rw [List.mem_singleton] at hj;subst hj;have ho':l.toArray[j]? =some o:=by simpa using ho
  unfold wpOp
  rw [ho'];simp only;rw [if_pos (by simp [Region.wanted,hg])];exact .inl (h a ha.eval _ _ fun v w' hv=>⟨(k v w' hv).1,(k v w' hv).2 _ Q (ha.put hd v) hk hq⟩)
theorem HL.t {v:Value} (i:Nat) (hS:S w) (hf:Region.free .any l.toArray listed i=true) (hr:(Region.ready .any l.toArray listed).contains i=true) (hs:Region.noSelect l.toArray=true) (ho:l[i]? =some o) (hd:fK N o.dst=true) (hg:o.guard=none)
    (h:∀w',S w'→cI P o e w' v) (k:HL P N l S K fuel (listed.setIfInBounds i true) (dV e o.dst v) w):HL P N l S K (fuel + 1) listed e w:=by
  refine ⟨hS,fun a Q ha hk hq=> ?_⟩;refine wpAnyH_take (oi:=o) (by simpa using ho) hs hf hr (fun c a w h=>absurd h (hq c _ w)) (.inl ⟨by simp [Region.wanted,hg],fun w' hw'=> ?_⟩) hS (k.2 _ Q (ha.put hd v) hk hq);have:=h w' hw'
  unfold cI at this
  rw [ha.eval];exact this
end
theorem xa {P:Program} {N:Nat} {Q:cZ} {e:ct} {w:World} {id:Nat} {l:List Oper} (hm:P.follows .mixedOrders=true)
    (h:∀w',aF w w'→HL P N l (fun w2=>aF w' w2) (fun e w=>Q .normal e w) l.length (Array.replicate l.length false) e w'):WP P N (.region id l.toArray true) Q e w:=by
  intro a ha;refine Code.wp_mono (Q:=fun x a' w'=>x=Exit.normal∧∃e',IsE N a' e'∧Q x e' w') (fun x a' w' h=>h.2) ?_;have h1:=h {w with drawn:=w.drawn + 1} ⟨rfl,rfl,rfl,Nat.le_refl _,fun _ _=>rfl⟩;refine wp_region_held (S:=fun w2=>aF {w with drawn:=w.drawn + 1} w2) hm ?_;simp only [List.size_toArray];exact h1.2 a _ ha (fun a' e' w' h1 h2=>⟨rfl,e',h1,h2⟩) (fun c a w h=>by cases h.1)
def Bc (w:World) (v:Value) (z:Int) (b:Nat):Prop:=∃g c0 c1,v= .slice (some ⟨g,0,none⟩) 1 1∧be w g 49 2 (bS [c0,c1])∧al w (.agg #[c0,c1]) z b
theorem Bc.ext {w w':World} {v:Value} {z:Int} {b:Nat} (h:Bc w v z b) (hx:aF w w'):Bc w' v z b:=by
  obtain ⟨g,c0,c1,h1,h2,h3⟩:=h;exact ⟨g,c0,c1,h1,h2.ext hx,h3.ext hx⟩
end Go.TL
namespace Go.TL
open Go.RowKit Go.Proofs
set_option linter.unusedVariables false
set_option linter.unusedSimpArgs false
set_option maxRecDepth 10000 in
theorem om (w:World) (r:Nat) (c:Nat) (b:Nat) (hr:r≤65536) (hc:c≤65536) (hb:b≤br):Calls Tryz.prog 78 #[.int .i64 (r:Nat),.int .i64 (c:Nat)] w (ci w fun v w'=>cH w' v w.heap.size r c (fun _ _=>0) b):=by
 have hLIM:br=562949953421312:=rfl;refine ak (N:=22) (rs:= #[.cell 4 28]) Tryz.func78 rfl rfl rfl (Nat.le_of_ble_eq_true rfl) ?_;have hX:aF w w:=aF.refl w;refine ab ?_;refine RL.x rfl rfl (dj.alloc [.int .i64 (0),.int .i64 (0),.slice (none) (0) (0)] cf rfl) ?_;rintro _ w1 ⟨g1,rfl,hge1,hx1,hA1⟩;have hbs1:w.heap.size≤g1:=Nat.le_trans hX.size hge1;replace hX:=aF.trans hX hx1;refine RL.nil ?_;refine ab ?_;refine RL.x rfl rfl (dF aB) ?_;rintro _ w2 ⟨g2,rfl,hge2,hx2,hA2⟩;have hbs2:w.heap.size≤g2:=Nat.le_trans hX.size hge2;replace hA1:=be.ext hA1 hx2;replace hX:=aF.trans hX hx2;replace hA2:=cD.born (c:=c) hA2 hbs2 (by decide) (by omega) (fun _ _=>0) (b) (by omega);refine RL.p rfl rfl (cI.assign rfl) ?_;refine RL.nil ?_;refine WP.seq ?_;refine ab ?_;refine RL.p rfl rfl (cI.assign rfl) ?_;refine RL.nil ?_;refine WP.block ?_;refine WP.loop (fun mz ez uz=>∃i:Nat,∃gh:Nat,∃kh:Nat,∃ρ:Nat→Nat,(mz=r - i)∧(ez 0= .int .i64 ((r:Nat)))∧(ez 1= .int .i64 ((c:Nat)))∧(ez 4= .pointer (some ⟨g1,0,none⟩))∧(ez 5= .slice (some ⟨gh,0,none⟩) (i) (kh))∧(ez 6= .int .i64 ((i:Nat)))∧(i≤r)∧(w.heap.size≤gh)∧(aF w uz)∧(be uz g1 28 3 (bS [.int .i64 (0),.int .i64 (0),.slice (none) (0) (0)]))∧(cD uz w.heap.size gh kh i c ρ (fun _ _=>0) b)) (r - 0) ?_ ?_
 · exact ⟨0,_,_,_,rfl,rfl,rfl,rfl,rfl,rfl,(by omega),hbs2,hX,hA1,hA2⟩
 rintro m1 e1 w3 ⟨i,gh,kh,ρ,hm1,s0_e1,s1_e1,s4_e1,s5_e1,s6_e1,hi,hgh,hX1,hA1,hA2⟩;have hdl:=cD.dlim hA2;refine WP.seq ?_;refine ab ?_;refine RL.p rfl rfl (cI.move s6_e1) ?_;refine RL.p rfl rfl (cI.move s0_e1) ?_;refine RL.p rfl rfl (cI.lss rfl rfl) ?_;refine RL.nil ?_;refine ag (((i:Nat):Int)<((r:Nat):Int)) rfl (fun c10=> ?_) (fun c10=> ?_)
 ·
  refine WP.skip ?_;refine pR.norm ?_;refine WP.seq ?_;refine WP.block ?_;refine WP.region ?_;refine RL.p rfl rfl (cI.move s5_e1) ?_;refine RL.p rfl rfl (cI.move s1_e1) ?_;refine RL.x rfl rfl (df (c) [.bool (false),.slice (none) (0) (0)] bi bH rfl rfl rfl (by omega) (by omega) (by omega) (by omega) (by decide)) ?_;rintro _ w4 ⟨g3,rfl,hge3,hx3,hA3⟩;have ne3:∀ii,ii<i→ρ ii≠g3:=fun ii hi=>Nat.ne_of_lt (Nat.lt_of_lt_of_le (cD.rowlt hA2 hi) hge3)
  have hbs3:w.heap.size≤g3:=Nat.le_trans hX1.size hge3;replace hA1:=be.ext hA1 hx3;replace hA2:=cD.ext hA2 hx3;replace hX1:=aF.trans hX1 hx3;replace hA3:=lO hA3 (b) (by omega);refine RL.x rfl rfl (dj.buildSlice (vs:= [(0,.slice (some ⟨g3,0,none⟩) (c) (c))]) [.slice (none) (0) (0)] [.slice (some ⟨g3,0,none⟩) (c) (c)] aB qf rfl (ff rfl) rfl (by decide) vC rfl) ?_;rintro _ w5 ⟨g4,rfl,hge4,hx4,hA4⟩;replace hA1:=be.ext hA1 hx4;replace hA2:=cD.ext hA2 hx4;replace hA3:=cN.ext hA3 hx4;replace hX1:=aF.trans hX1 hx4;refine RL.x rfl rfl (oS aB (by decide) qf rfl rfl hA2 hA4 (Bn _ _ _ _ (Nat.le_refl _) (by omega)) hA3 (fun j hj=>rfl) hbs3 hX1.size ne3 (by omega)) ?_;rintro _ w6 ⟨hk1,gh1,km1,rfl,hN1⟩;replace hA1:=jK hA1 hk1 hA2 (by decide);replace hX1:=hX1.step hk1 (fun b e=>by subst e;exact hgh);have hbs5:w.heap.size≤gh1:=hN1.1;refine RL.p rfl rfl (cI.assign rfl) ?_;refine RL.nil ?_;refine jm.norm ?_;refine pR.norm ?_;refine WP.region ?_;refine RL.p rfl rfl (cI.move s6_e1) ?_;refine RL.p rfl rfl (cI.add (c:=((i + 1:Nat):Int)) rfl rfl (bU (by omega))) ?_;refine RL.p rfl rfl (cI.assign rfl) ?_;refine RL.nil ?_;refine pR.norm ⟨_,(by omega),i + 1,_,_,_,rfl,s0_e1,s1_e1,s4_e1,rfl,rfl,(by omega),hbs5,hX1,hA1,hN1⟩
 ·
  refine WP.exit ?_;refine pR.exit ?_;refine pR.exit ?_;refine jm.same ?_;refine pR.norm ?_;refine ab ?_;refine RL.p rfl rfl (cI.move s0_e1) ?_;refine RL.p rfl rfl (cI.move s1_e1) ?_;refine RL.p rfl rfl (cI.move s5_e1) ?_;refine RL.p rfl rfl (cI.build (vs:= [(0,.int .i64 ((r:Nat))),(1,.int .i64 ((c:Nat))),(2,.slice (some ⟨gh,0,none⟩) (i) (kh))]) [(0,1),(1,1),(2,1)] kS cf (eC rfl rfl rfl) rfl) ?_;refine RL.x rfl rfl (dj.store [.int .i64 ((r:Nat)),.int .i64 ((c:Nat)),.slice (some ⟨gh,0,none⟩) (i) (kh)] cL s4_e1 rfl rfl hA1 (Nat.le_of_ble_eq_true rfl) (cM rfl rfl rfl)) ?_;rintro _ w7 ⟨hk2,hnew⟩;replace hA2:=aE hA2 hk2 hA1 (by decide);replace hX1:=hX1.step hk2 (fun b e=>by subst e;exact hbs1);replace hA1:=hnew.lit [.int .i64 ((r:Nat)),.int .i64 ((c:Nat)),.slice (some ⟨gh,0,none⟩) (i) (kh)] rfl;clear hnew;refine RL.nil ?_;refine WP.ret ?_;refine ⟨.agg #[.int .i64 ((r:Nat)),.int .i64 ((c:Nat)),.slice (some ⟨gh,0,none⟩) (i) (kh)],Bb.one (aj [.int .i64 ((r:Nat)),.int .i64 ((c:Nat)),.slice (some ⟨gh,0,none⟩) (i) (kh)] aR s4_e1 (hA1.cells 0 _ rfl rfl)),_,rfl,hX1,?_⟩;dsimp only;have hir:i=r:=by omega
  subst hir;exact ⟨_,_,_,rfl,hA2⟩
set_option maxRecDepth 10000 in
theorem vR (w:World) (x:Value) (rx cx:Nat) (Mx:Nat→Nat→Int) (btx:Nat) (k:Value) (zk:Int) (btk:Nat) (hx:cc w x rx cx Mx btx) (hk:al w k zk btk) (hb:btx + btk≤br):Calls Tryz.prog 73 #[x,k] w (ci w fun v w'=>cH w' v w.heap.size rx cx (fun i j=>Mx i j*zk) (btx + btk)):=by
 have hLIM:br=562949953421312:=rfl;have hmatx:=hx;obtain ⟨sx,rfl,hrx,hcx,hSx⟩:=hx.form;refine ak (N:=43) (rs:= #[.cell 4 28]) Tryz.func73 rfl rfl rfl (Nat.le_of_ble_eq_true rfl) ?_;have hX:aF w w:=aF.refl w;refine ab ?_;refine RL.x rfl rfl (dj.box [.int .i64 ((rx:Nat)),.int .i64 ((cx:Nat)),sx] rfl rfl) ?_;rintro _ w1 ⟨g1,rfl,hge1,hx1,hA1⟩;replace hX:=aF.trans hX hx1;obtain ⟨ca1,cb1,hq1,ho1,ho2⟩:=al.cells (al.ext hk hX);have qi1:al w1 (.agg #[ca1,cb1]) zk btk:=hq1▸(al.ext hk hX);refine RL.x rfl rfl (dj.box [ca1,cb1] hq1 rfl) ?_;rintro _ w2 ⟨g2,rfl,hge2,hx2,hA2⟩;replace hA1:=be.ext hA1 hx2;replace qi1:=al.ext qi1 hx2;replace hX:=aF.trans hX hx2;refine RL.x rfl rfl (dj.alloc [.int .i64 (0),.int .i64 (0),.slice (none) (0) (0)] cf rfl) ?_;rintro _ w3 ⟨g3,rfl,hge3,hx3,hA3⟩;have hbs3:w.heap.size≤g3:=Nat.le_trans hX.size hge3;replace hA1:=be.ext hA1 hx3;replace qi1:=al.ext qi1 hx3;replace hA2:=be.ext hA2 hx3;replace hX:=aF.trans hX hx3;refine RL.nil ?_;refine ab ?_;refine RL.p rfl rfl (cI.fieldAddr bg rfl) ?_;refine RL.p rfl rfl (cI.load bG rfl (hA1.at_ (i:=0) rfl rfl)) ?_;refine RL.p rfl rfl (cI.fieldAddr bE rfl) ?_;refine RL.p rfl rfl (cI.load bG rfl (hA1.at_ (i:=1) rfl rfl)) ?_;have hBw1:w.heap.size≤w3.heap.size:=hX.size;have hlt1:g2<w3.heap.size:=hA2.lt;refine RL.x rfl rfl (dj.call nV (ax rfl rfl) (om _ rx cx (btx + btk) (by omega) (by omega) (by omega))) ?_;rintro v1 w4 ⟨hx4,q1⟩;replace hA1:=be.ext hA1 hx4;replace qi1:=al.ext qi1 hx4;replace hA2:=be.ext hA2 hx4;replace hA3:=be.ext hA3 hx4;replace hX:=aF.trans hX hx4;refine RL.x rfl rfl (dj.alloc [.int .i64 (0),.int .i64 (0),.slice (none) (0) (0)] cf rfl) ?_;rintro _ w5 ⟨g4,rfl,hge4,hx5,hA4⟩;have ne4:g1≠g4:=Nat.ne_of_lt (Nat.lt_of_lt_of_le hA1.lt hge4);have ne5:g2≠g4:=Nat.ne_of_lt (Nat.lt_of_lt_of_le hA2.lt hge4);have ne6:g3≠g4:=Nat.ne_of_lt (Nat.lt_of_lt_of_le hA3.lt hge4);have hbs4:w.heap.size≤g4:=Nat.le_trans hX.size hge4;replace hA1:=be.ext hA1 hx5;replace qi1:=al.ext qi1 hx5;replace hA2:=be.ext hA2 hx5;replace hA3:=be.ext hA3 hx5;replace q1:=cH.ext q1 hx5;replace hX:=aF.trans hX hx5;obtain ⟨gh1,kh1,ρ1,hq2,hM1⟩:=q1;have hd1:=cD.dlim hM1;have hd2:=cD.clim hM1;have ne7:∀ii,ii<rx→ρ1 ii≠g2:=fun ii hi e=>by have:=cD.rowB hM1 hi;omega
 refine RL.x rfl rfl (dj.store [.int .i64 ((rx:Nat)),.int .i64 ((cx:Nat)),.slice (some ⟨gh1,0,none⟩) (rx) (kh1)] cL rfl hq2 rfl hA4 (Nat.le_of_ble_eq_true rfl) (cM rfl rfl rfl)) ?_;rintro _ w6 ⟨hk1,hnew⟩;replace hM1:=aE hM1 hk1 hA4 (by decide);replace hA1:=hA1.keep hk1 ne4;replace qi1:=ae qi1 hk1 hA4 (by decide);replace hA2:=hA2.keep hk1 ne5;replace hA3:=hA3.keep hk1 ne6;replace hX:=hX.step hk1 (fun b e=>by subst e;exact hbs4);replace hA4:=hnew.lit [.int .i64 ((rx:Nat)),.int .i64 ((cx:Nat)),.slice (some ⟨gh1,0,none⟩) (rx) (kh1)] rfl;clear hnew;refine RL.nil ?_;refine WP.seq ?_;refine ab ?_;refine RL.p rfl rfl (cI.assign rfl) ?_;refine RL.nil ?_;refine WP.block ?_;refine WP.loop (fun mz ez uz=>∃i:Nat,(mz=rx - i)∧(ez 2= .pointer (some ⟨g1,0,none⟩))∧(ez 3= .pointer (some ⟨g2,0,none⟩))∧(ez 4= .pointer (some ⟨g3,0,none⟩))∧(ez 5= .pointer (some ⟨g4,0,none⟩))∧(ez 6= .int .i64 ((i:Nat)))∧(i≤rx)∧(aF w uz)∧(be uz g1 28 3 (bS [.int .i64 ((rx:Nat)),.int .i64 ((cx:Nat)),sx]))∧(al uz (.agg #[ca1,cb1]:Value) zk btk)∧(be uz g2 49 2 (bS [ca1,cb1]))∧(be uz g3 28 3 (bS [.int .i64 (0),.int .i64 (0),.slice (none) (0) (0)]))∧(be uz g4 28 3 (bS [.int .i64 ((rx:Nat)),.int .i64 ((cx:Nat)),.slice (some ⟨gh1,0,none⟩) (rx) (kh1)]))∧(cD uz w3.heap.size gh1 kh1 rx cx ρ1 (cR (fun i j=>Mx i j*zk) i 0) (btx + btk))) (rx - 0) ?_ ?_
 · exact ⟨0,rfl,rfl,rfl,rfl,rfl,rfl,(by omega),hX,hA1,qi1,hA2,hA3,hA4,bA hM1 (gW (fun i j=>Mx i j*zk))⟩
 rintro m1 e1 w7 ⟨i,hm1,s2_e1,s3_e1,s4_e1,s5_e1,s6_e1,hi,hX1,hA1,qi1,hA2,hA3,hA4,hM1⟩;refine WP.seq ?_;refine ab ?_;refine RL.p rfl rfl (cI.move s6_e1) ?_;refine RL.p rfl rfl (cI.fieldAddr bg s2_e1) ?_;refine RL.p rfl rfl (cI.load bG rfl (hA1.at_ (i:=0) rfl rfl)) ?_;refine RL.p rfl rfl (cI.lss rfl rfl) ?_;refine RL.nil ?_;refine ag (((i:Nat):Int)<((rx:Nat):Int)) rfl (fun c16=> ?_) (fun c16=> ?_)
 ·
  refine WP.skip ?_;refine pR.norm ?_;refine WP.seq ?_;refine WP.block ?_;refine ab ?_;refine RL.p rfl rfl (cI.assign rfl) ?_;refine RL.nil ?_;refine WP.block ?_;refine WP.loop (fun mz ez uz=>∃j:Nat,(mz=cx - j)∧(ez 2= .pointer (some ⟨g1,0,none⟩))∧(ez 3= .pointer (some ⟨g2,0,none⟩))∧(ez 4= .pointer (some ⟨g3,0,none⟩))∧(ez 5= .pointer (some ⟨g4,0,none⟩))∧(ez 6= .int .i64 ((i:Nat)))∧(ez 7= .int .i64 ((j:Nat)))∧(j≤cx)∧(aF w uz)∧(be uz g1 28 3 (bS [.int .i64 ((rx:Nat)),.int .i64 ((cx:Nat)),sx]))∧(al uz (.agg #[ca1,cb1]:Value) zk btk)∧(be uz g2 49 2 (bS [ca1,cb1]))∧(be uz g3 28 3 (bS [.int .i64 (0),.int .i64 (0),.slice (none) (0) (0)]))∧(be uz g4 28 3 (bS [.int .i64 ((rx:Nat)),.int .i64 ((cx:Nat)),.slice (some ⟨gh1,0,none⟩) (rx) (kh1)]))∧(cD uz w3.heap.size gh1 kh1 rx cx ρ1 (cR (fun i j=>Mx i j*zk) i j) (btx + btk))) (cx - 0) ?_ ?_
  · exact ⟨0,rfl,s2_e1,s3_e1,s4_e1,s5_e1,s6_e1,rfl,(by omega),hX1,hA1,qi1,hA2,hA3,hA4,hM1⟩
  rintro m2 e2 w8 ⟨j,hm2,s2_e2,s3_e2,s4_e2,s5_e2,s6_e2,s7_e2,hj,hX2,hA1,qi1,hA2,hA3,hA4,hM1⟩;refine WP.seq ?_;refine ab ?_;refine RL.p rfl rfl (cI.move s7_e2) ?_;refine RL.p rfl rfl (cI.fieldAddr bE s2_e2) ?_;refine RL.p rfl rfl (cI.load bG rfl (hA1.at_ (i:=1) rfl rfl)) ?_;refine RL.p rfl rfl (cI.lss rfl rfl) ?_;refine RL.nil ?_;refine ag (((j:Nat):Int)<((cx:Nat):Int)) rfl (fun c22=> ?_) (fun c22=> ?_)
  ·
   refine WP.skip ?_;refine pR.norm ?_;refine WP.seq ?_;refine WP.block ?_;refine WP.ds am 17 [_,_,_,_,_,_,_,_,_,_,_,_,_,_,_,_,_] rfl rfl (fun e_ w_ BH BG=>⟨fun _=>aa (cI.fieldAddr aq ((BG 5 rfl s5_e2))),fun BF=>aa (cI.load aH ((BF 0 rfl)) ((be.ext hA4 BH).at_ (i:=2) rfl rfl)),fun _=>aa (cI.move ((BG 6 rfl s6_e2))),fun BF=>aa (cI.index (j:=i) aB ((BF 1 rfl)) ((BF 2 rfl)) rfl (by omega) (by omega)),fun BF=>ah (an (i:=i) aU (BF 3 rfl) (cD.ext hM1 BH) (by omega)),fun _=>aa (cI.move ((BG 7 rfl s7_e2))),fun _=>aa (cI.fieldAddr aq ((BG 2 rfl s2_e2))),fun BF=>aa (cI.load aH ((BF 6 rfl)) ((be.ext hA1 BH).at_ (i:=2) rfl rfl)),fun _=>aa (cI.move ((BG 6 rfl s6_e2))),fun BF=>ah (aZ (j:=i) aB (BF 7 rfl) (co.ext (co.ext hSx hX2) BH) (BF 8 rfl) (by omega) (by omega)),fun BF=>ah (bn aU rfl (BF 9 rfl)),fun _=>aa (cI.move ((BG 7 rfl s7_e2))),fun BF=>ah (bk (j:=j) bi rfl (BF 10 rfl) (BF 11 rfl) (by omega) (by omega)),fun BF=>ah (bo ao rfl (BF 12 rfl)),fun _=>aa (af [ca1,cb1] ao ((BG 3 rfl s3_e2)) ((be.ext hA2 BH).cells 0 _ rfl rfl)),fun BF=>dj.call jT (ax rfl ((BF 14 rfl))) (jV _ _ _ _ _ _ _ ((btx) + (btk)) ((BF 13 rfl)) ((al.ext qi1 BH)) (by omega) (by omega)),fun BF=>aa (av (j:=j) bi (BF 4 rfl) rfl (BF 5 rfl) (by omega) (by omega)),trivial⟩) ?_;intro e3 w9 hx6 ho3 hf1;replace hA1:=be.ext hA1 hx6;replace qi1:=al.ext qi1 hx6;replace hA2:=be.ext hA2 hx6;replace hA3:=be.ext hA3 hx6;replace hA4:=be.ext hA4 hx6;replace hM1:=cD.ext hM1 hx6;replace hX2:=aF.trans hX2 hx6;have s2_e3:=ho3 2 rfl s2_e2;have s3_e3:=ho3 3 rfl s3_e2;have s4_e3:=ho3 4 rfl s4_e2;have s5_e3:=ho3 5 rfl s5_e2;have s6_e3:=ho3 6 rfl s6_e2;have s7_e3:=ho3 7 rfl s7_e2;have s40_e3:al w9 (e3 40) (((Mx i) j:Int)*(zk:Int)) ((btx) + (btk)):=hf1 15 rfl;have s41_e3:e3 41=_:=hf1 16 rfl;refine RL.x rfl rfl (bM (i:=i) (j:=j) aN s41_e3 rfl s40_e3 hM1 (by omega) (by omega)) ?_;rintro _ w10 ⟨hk2,hN1⟩;have hR1:=cD.row (i:=i) hM1 (by omega);replace hA1:=aT hA1 hk2 hR1 (by decide);replace qi1:=bZ qi1 hk2 hR1;replace hA2:=hA2.keep hk2 (Ne.symm (ne7 i (by omega)));replace hA3:=aT hA3 hk2 hR1 (by decide);replace hA4:=aT hA4 hk2 hR1 (by decide);replace hX2:=hX2.step hk2 (fun b e=>by subst e;exact (Nat.le_trans hBw1 (cD.rowB (i:=i) hM1 (by omega))));replace hM1:=hN1;clear hR1;refine RL.nil ?_;refine jm.norm ?_;refine pR.norm ?_;refine WP.region ?_;refine RL.p rfl rfl (cI.move s7_e3) ?_;refine RL.p rfl rfl (cI.add (c:=((j + 1:Nat):Int)) rfl rfl (bU (by omega))) ?_;refine RL.p rfl rfl (cI.assign rfl) ?_;refine RL.nil ?_;refine pR.norm ⟨_,(by omega),j + 1,rfl,s2_e3,s3_e3,s4_e3,s5_e3,s6_e3,rfl,(by omega),hX2,hA1,qi1,hA2,hA3,hA4,bA hM1 (fI (fun i j=>Mx i j*zk) i j)⟩
  ·
   refine WP.exit ?_;refine pR.exit ?_;refine pR.exit ?_;refine jm.same ?_;refine jm.norm ?_;refine pR.norm ?_;refine WP.region ?_;refine RL.p rfl rfl (cI.move s6_e2) ?_;refine RL.p rfl rfl (cI.add (c:=((i + 1:Nat):Int)) rfl rfl (bU (by omega))) ?_;refine RL.p rfl rfl (cI.assign rfl) ?_;refine RL.nil ?_;refine pR.norm ⟨_,(by omega),i + 1,rfl,s2_e2,s3_e2,s4_e2,s5_e2,rfl,(by omega),hX2,hA1,qi1,hA2,hA3,hA4,cD.congr hM1 fun a c2 ha hc2=>jy _ i (by omega)⟩
 ·
  refine WP.exit ?_;refine pR.exit ?_;refine pR.exit ?_;refine jm.same ?_;refine pR.norm ?_;refine ab ?_;refine RL.p rfl rfl (af [.int .i64 ((rx:Nat)),.int .i64 ((cx:Nat)),.slice (some ⟨gh1,0,none⟩) (rx) (kh1)] aR s5_e1 (hA4.cells 0 _ rfl rfl)) ?_;refine RL.x rfl rfl (dj.store [.int .i64 ((rx:Nat)),.int .i64 ((cx:Nat)),.slice (some ⟨gh1,0,none⟩) (rx) (kh1)] cL s4_e1 rfl rfl hA3 (Nat.le_of_ble_eq_true rfl) (cM rfl rfl rfl)) ?_;rintro _ w11 ⟨hk3,hnew⟩;replace hM1:=aE hM1 hk3 hA3 (by decide);replace hX1:=hX1.step hk3 (fun b e=>by subst e;exact hbs3);replace hA3:=hnew.lit [.int .i64 ((rx:Nat)),.int .i64 ((cx:Nat)),.slice (some ⟨gh1,0,none⟩) (rx) (kh1)] rfl;clear hnew;refine RL.nil ?_;refine WP.ret ?_;refine ⟨.agg #[.int .i64 ((rx:Nat)),.int .i64 ((cx:Nat)),.slice (some ⟨gh1,0,none⟩) (rx) (kh1)],Bb.one (aj [.int .i64 ((rx:Nat)),.int .i64 ((cx:Nat)),.slice (some ⟨gh1,0,none⟩) (rx) (kh1)] aR s4_e1 (hA3.cells 0 _ rfl rfl)),_,rfl,hX1,?_⟩;dsimp only;exact ⟨_,_,_,rfl,cD.congr (cD.low hM1 hBw1) fun a c2 ha hc2=>by rw [show i=rx by omega];exact fg _ c2 ha⟩
set_option maxRecDepth 10000 in
theorem dQ (w:World) (x:Value) (rx cx:Nat) (Mx:Nat→Nat→Int) (btx:Nat) (hx:cc w x rx cx Mx btx) (hb:btx + 1≤br):Calls Tryz.prog 28 #[x] w (ci w fun v w'=>cH w' v w.heap.size rx cx Mx (btx + 1)):=by
 have hLIM:br=562949953421312:=rfl;have hmatx:=hx;obtain ⟨sx,rfl,hrx,hcx,hSx⟩:=hx.form;refine ak (N:=6) (rs:= #[.cell 2 28]) Tryz.func28 rfl rfl rfl (Nat.le_of_ble_eq_true rfl) ?_;have hX:aF w w:=aF.refl w;refine ab ?_;refine RL.x rfl rfl (dj.box [.int .i64 ((rx:Nat)),.int .i64 ((cx:Nat)),sx] rfl rfl) ?_;rintro _ w1 ⟨g1,rfl,hge1,hx1,hA1⟩;replace hX:=aF.trans hX hx1;refine RL.x rfl rfl (dj.alloc [.int .i64 (0),.int .i64 (0),.slice (none) (0) (0)] cf rfl) ?_;rintro _ w2 ⟨g2,rfl,hge2,hx2,hA2⟩;have hbs2:w.heap.size≤g2:=Nat.le_trans hX.size hge2;replace hA1:=be.ext hA1 hx2;replace hX:=aF.trans hX hx2;refine RL.nil ?_;have hBw1:w.heap.size≤w2.heap.size:=hX.size;refine aK am 3 [_,_,fun v BI=>cH BI v w2.heap.size rx cx ((fun i j=>Mx i j*1)) (btx + 1)] rfl rfl (fun e_ w_ BH BG=>⟨fun _=>aa (af [.int .i64 ((rx:Nat)),.int .i64 ((cx:Nat)),sx] aR ((BG 1 rfl rfl)) ((be.ext hA1 BH).cells 0 _ rfl rfl)),fun _=>dj.call kV (aI rfl) (pq (1) (1) _ (by decide) (by decide) (by decide)),fun BF=>dj.mono (dj.call Ak (ax ((BF 0 rfl)) rfl) (vR _ _ _ _ _ _ _ _ _ (cc.mk (co.ext (co.ext hSx hX) BH) (by omega) (by omega)) (BF 1 rfl) (by omega))) fun v BJ hv=>⟨hv.1,cH.low hv.2 BH.size⟩,trivial⟩) ?_;intro e1 w3 hx3 ho1 hf1;replace hA2:=be.ext hA2 hx3;replace hX:=aF.trans hX hx3;have s2_e1:e1 2=_:=ho1 2 rfl rfl;have s5_e1:cH w3 (e1 5) w2.heap.size rx cx ((fun i j=>Mx i j*1)) (btx + 1):=hf1 2 rfl;obtain ⟨gh1,kh1,ρ1,hq1,hM1⟩:=s5_e1;have hd1:=cD.dlim hM1;have hd2:=cD.clim hM1;refine RL.x rfl rfl (dj.store [.int .i64 ((rx:Nat)),.int .i64 ((cx:Nat)),.slice (some ⟨gh1,0,none⟩) (rx) (kh1)] cL s2_e1 hq1 rfl hA2 (Nat.le_of_ble_eq_true rfl) (cM rfl rfl rfl)) ?_;rintro _ w4 ⟨hk1,hnew⟩;replace hM1:=aE hM1 hk1 hA2 (by decide);replace hX:=hX.step hk1 (fun b e=>by subst e;exact hbs2);replace hA2:=hnew.lit [.int .i64 ((rx:Nat)),.int .i64 ((cx:Nat)),.slice (some ⟨gh1,0,none⟩) (rx) (kh1)] rfl;clear hnew;refine RL.nil ?_;refine WP.ret ?_;refine ⟨.agg #[.int .i64 ((rx:Nat)),.int .i64 ((cx:Nat)),.slice (some ⟨gh1,0,none⟩) (rx) (kh1)],Bb.one (aj [.int .i64 ((rx:Nat)),.int .i64 ((cx:Nat)),.slice (some ⟨gh1,0,none⟩) (rx) (kh1)] aR s2_e1 (hA2.cells 0 _ rfl rfl)),_,rfl,hX,?_⟩;dsimp only;exact cH.congr (⟨_,_,_,rfl,cD.low hM1 (hBw1)⟩) (fun i j _ _=>Int.mul_one _)
end Go.TL
namespace Go.TL
open Go.RowKit Go.Proofs
set_option linter.unusedVariables false
set_option linter.unusedSimpArgs false
set_option maxRecDepth 10000 in
theorem iw (w:World) (n:Nat) (hn:n≤65536):Calls Tryz.prog 47 #[.int .i64 (n:Nat)] w (ci w fun v w'=>cH w' v w.heap.size n n dA 1):=by
 have hLIM:br=562949953421312:=rfl;refine ak (N:=22) (rs:= #[.cell 2 28]) Tryz.func47 rfl rfl rfl (Nat.le_of_ble_eq_true rfl) ?_;have hX:aF w w:=aF.refl w;refine ab ?_;refine RL.x rfl rfl (dj.alloc [.int .i64 (0),.int .i64 (0),.slice (none) (0) (0)] cf rfl) ?_;rintro _ w1 ⟨g1,rfl,hge1,hx1,hA1⟩;have hbs1:w.heap.size≤g1:=Nat.le_trans hX.size hge1;replace hX:=aF.trans hX hx1;refine RL.nil ?_;refine ab ?_;refine RL.p rfl rfl (cI.move rfl) ?_;refine RL.p rfl rfl (cI.move rfl) ?_;have hBw1:w.heap.size≤w1.heap.size:=hX.size;refine RL.x rfl rfl (dj.call nV (ax rfl rfl) (om _ n n 1 (by omega) (by omega) (by omega))) ?_;rintro v1 w2 ⟨hx2,q1⟩;replace hA1:=be.ext hA1 hx2;replace hX:=aF.trans hX hx2;refine RL.x rfl rfl (dj.alloc [.int .i64 (0),.int .i64 (0),.slice (none) (0) (0)] cf rfl) ?_;rintro _ w3 ⟨g2,rfl,hge2,hx3,hA2⟩;have ne1:g1≠g2:=Nat.ne_of_lt (Nat.lt_of_lt_of_le hA1.lt hge2);have hbs2:w.heap.size≤g2:=Nat.le_trans hX.size hge2;replace hA1:=be.ext hA1 hx3;replace q1:=cH.ext q1 hx3;replace hX:=aF.trans hX hx3;obtain ⟨gh1,kh1,ρ1,hq1,hM1⟩:=q1;have hd1:=cD.dlim hM1;have hd2:=cD.clim hM1;refine RL.x rfl rfl (dj.store [.int .i64 ((n:Nat)),.int .i64 ((n:Nat)),.slice (some ⟨gh1,0,none⟩) (n) (kh1)] cL rfl hq1 rfl hA2 (Nat.le_of_ble_eq_true rfl) (cM rfl rfl rfl)) ?_;rintro _ w4 ⟨hk1,hnew⟩;replace hM1:=aE hM1 hk1 hA2 (by decide);replace hA1:=hA1.keep hk1 ne1;replace hX:=hX.step hk1 (fun b e=>by subst e;exact hbs2);replace hA2:=hnew.lit [.int .i64 ((n:Nat)),.int .i64 ((n:Nat)),.slice (some ⟨gh1,0,none⟩) (n) (kh1)] rfl;clear hnew;refine RL.nil ?_;refine WP.seq ?_;refine ab ?_;refine RL.p rfl rfl (cI.assign rfl) ?_;refine RL.nil ?_;refine WP.block ?_;refine WP.loop (fun mz ez uz=>∃i:Nat,(mz=n - i)∧(ez 0= .int .i64 ((n:Nat)))∧(ez 2= .pointer (some ⟨g1,0,none⟩))∧(ez 3= .pointer (some ⟨g2,0,none⟩))∧(ez 4= .int .i64 ((i:Nat)))∧(i≤n)∧(aF w uz)∧(be uz g1 28 3 (bS [.int .i64 (0),.int .i64 (0),.slice (none) (0) (0)]))∧(be uz g2 28 3 (bS [.int .i64 ((n:Nat)),.int .i64 ((n:Nat)),.slice (some ⟨gh1,0,none⟩) (n) (kh1)]))∧(cD uz w1.heap.size gh1 kh1 n n ρ1 (xV i) 1)) (n - 0) ?_ ?_
 · exact ⟨0,rfl,rfl,rfl,rfl,rfl,(by omega),hX,hA1,hA2,bA hM1 wO⟩
 rintro m1 e1 w5 ⟨i,hm1,s0_e1,s2_e1,s3_e1,s4_e1,hi,hX1,hA1,hA2,hM1⟩;refine WP.seq ?_;refine ab ?_;refine RL.p rfl rfl (cI.move s4_e1) ?_;refine RL.p rfl rfl (cI.move s0_e1) ?_;refine RL.p rfl rfl (cI.lss rfl rfl) ?_;refine RL.nil ?_;refine ag (((i:Nat):Int)<((n:Nat):Int)) rfl (fun c10=> ?_) (fun c10=> ?_)
 ·
  refine WP.skip ?_;refine pR.norm ?_;refine WP.seq ?_;refine WP.block ?_;refine WP.ds am 8 [_,_,_,_,_,_,_,_] rfl rfl (fun e_ w_ BH BG=>⟨fun _=>aa (cI.fieldAddr aq ((BG 3 rfl s3_e1))),fun BF=>aa (cI.load aH ((BF 0 rfl)) ((be.ext hA2 BH).at_ (i:=2) rfl rfl)),fun _=>aa (cI.move ((BG 4 rfl s4_e1))),fun BF=>aa (cI.index (j:=i) aB ((BF 1 rfl)) ((BF 2 rfl)) rfl (by omega) (by omega)),fun BF=>ah (an (i:=i) aU (BF 3 rfl) (cD.ext hM1 BH) (by omega)),fun _=>aa (cI.move ((BG 4 rfl s4_e1))),fun _=>dj.call kV (aI rfl) (pq (1) (1) _ (by decide) (by decide) (by decide)),fun BF=>aa (av (j:=i) bi (BF 4 rfl) rfl (BF 5 rfl) (by omega) (by omega)),trivial⟩) ?_;intro e2 w6 hx4 ho1 hf1;replace hA1:=be.ext hA1 hx4;replace hA2:=be.ext hA2 hx4;replace hM1:=cD.ext hM1 hx4;replace hX1:=aF.trans hX1 hx4;have s0_e2:=ho1 0 rfl s0_e1;have s2_e2:=ho1 2 rfl s2_e1;have s3_e2:=ho1 3 rfl s3_e1;have s4_e2:=ho1 4 rfl s4_e1;have s19_e2:al w6 (e2 19) 1 1:=hf1 6 rfl;have s20_e2:e2 20=_:=hf1 7 rfl;refine RL.x rfl rfl (bM (i:=i) (j:=i) aN s20_e2 rfl s19_e2 hM1 (by omega) (by omega)) ?_;rintro _ w7 ⟨hk2,hN1⟩;have hR1:=cD.row (i:=i) hM1 (by omega);replace hA1:=aT hA1 hk2 hR1 (by decide);replace hA2:=aT hA2 hk2 hR1 (by decide);replace hX1:=hX1.step hk2 (fun b e=>by subst e;exact (Nat.le_trans hBw1 (cD.rowB (i:=i) hM1 (by omega))));replace hM1:=hN1;clear hR1;refine RL.nil ?_;refine jm.norm ?_;refine pR.norm ?_;refine WP.region ?_;refine RL.p rfl rfl (cI.move s4_e2) ?_;refine RL.p rfl rfl (cI.add (c:=((i + 1:Nat):Int)) rfl rfl (bU (by omega))) ?_;refine RL.p rfl rfl (cI.assign rfl) ?_;refine RL.nil ?_;refine pR.norm ⟨_,(by omega),i + 1,rfl,s0_e2,s2_e2,s3_e2,rfl,(by omega),hX1,hA1,hA2,bA hM1 (wN i)⟩
 ·
  refine WP.exit ?_;refine pR.exit ?_;refine pR.exit ?_;refine jm.same ?_;refine pR.norm ?_;refine ab ?_;refine RL.p rfl rfl (af [.int .i64 ((n:Nat)),.int .i64 ((n:Nat)),.slice (some ⟨gh1,0,none⟩) (n) (kh1)] aR s3_e1 (hA2.cells 0 _ rfl rfl)) ?_;refine RL.x rfl rfl (dj.store [.int .i64 ((n:Nat)),.int .i64 ((n:Nat)),.slice (some ⟨gh1,0,none⟩) (n) (kh1)] cL s2_e1 rfl rfl hA1 (Nat.le_of_ble_eq_true rfl) (cM rfl rfl rfl)) ?_;rintro _ w8 ⟨hk3,hnew⟩;replace hM1:=aE hM1 hk3 hA1 (by decide);replace hX1:=hX1.step hk3 (fun b e=>by subst e;exact hbs1);replace hA1:=hnew.lit [.int .i64 ((n:Nat)),.int .i64 ((n:Nat)),.slice (some ⟨gh1,0,none⟩) (n) (kh1)] rfl;clear hnew;refine RL.nil ?_;refine WP.ret ?_;refine ⟨.agg #[.int .i64 ((n:Nat)),.int .i64 ((n:Nat)),.slice (some ⟨gh1,0,none⟩) (n) (kh1)],Bb.one (aj [.int .i64 ((n:Nat)),.int .i64 ((n:Nat)),.slice (some ⟨gh1,0,none⟩) (n) (kh1)] aR s2_e1 (hA1.cells 0 _ rfl rfl)),_,rfl,hX1,?_⟩;dsimp only;exact ⟨_,_,_,rfl,cD.congr (cD.low hM1 hBw1) fun a c2 ha hc2=>wP c2 (by omega)⟩
set_option maxRecDepth 10000 in
theorem yQ (w:World) (x:Value) (rx cx:Nat) (Mx:Nat→Nat→Int) (btx:Nat) (y:Value) (ry cy:Nat) (My:Nat→Nat→Int) (bty:Nat) (b:Nat) (hx:cc w x rx cx Mx btx) (hy:cc w y ry cy My bty) (hxy:cx=ry) (hb:btx + bty + 1≤br) (hb2:b + 1≤br) (hfit:∀i j k,i<rx→j<cy→k≤cx→(aO k (fun x=>Mx i x*My x j)).natAbs<2^b):Calls Tryz.prog 90 #[x,y] w (ci w fun v w'=>∃v1,v= .tuple #[v1,.int .i64 0]∧cH w' v1 w.heap.size rx cy (bK cx Mx My) b):=by
 have hLIM:br=562949953421312:=rfl;have hmatx:=hx;obtain ⟨sx,rfl,hrx,hcx,hSx⟩:=hx.form;have hmaty:=hy;obtain ⟨sy,rfl,hry,hcy,hSy⟩:=hy.form;refine ak (N:=73) (rs:= #[.cell 4 28,.tmp 5]) Tryz.func90 rfl rfl rfl (Nat.le_of_ble_eq_true rfl) ?_;have hX:aF w w:=aF.refl w;refine ab ?_;refine RL.x rfl rfl (dj.box [.int .i64 ((rx:Nat)),.int .i64 ((cx:Nat)),sx] rfl rfl) ?_;rintro _ w1 ⟨g1,rfl,hge1,hx1,hA1⟩;replace hX:=aF.trans hX hx1;refine RL.x rfl rfl (dj.box [.int .i64 ((ry:Nat)),.int .i64 ((cy:Nat)),sy] rfl rfl) ?_;rintro _ w2 ⟨g2,rfl,hge2,hx2,hA2⟩;replace hA1:=be.ext hA1 hx2;replace hX:=aF.trans hX hx2;refine RL.x rfl rfl (dj.alloc [.int .i64 (0),.int .i64 (0),.slice (none) (0) (0)] cf rfl) ?_;rintro _ w3 ⟨g3,rfl,hge3,hx3,hA3⟩;have hbs3:w.heap.size≤g3:=Nat.le_trans hX.size hge3;replace hA1:=be.ext hA1 hx3;replace hA2:=be.ext hA2 hx3;replace hX:=aF.trans hX hx3;refine RL.p rfl rfl (cI.assign rfl) ?_;refine RL.nil ?_;refine WP.seq ?_;refine ab ?_;refine RL.p rfl rfl (cI.fieldAddr bE rfl) ?_;refine RL.p rfl rfl (cI.load bG rfl (hA1.at_ (i:=1) rfl rfl)) ?_;refine RL.p rfl rfl (cI.fieldAddr bg rfl) ?_;refine RL.p rfl rfl (cI.load bG rfl (hA2.at_ (i:=0) rfl rfl)) ?_;refine RL.p rfl rfl (cI.neq rfl rfl) ?_;refine RL.nil ?_;refine ag (((cx:Nat):Int)≠((ry:Nat):Int)) rfl (fun hn=>absurd hn ((by omega))) (fun c14=> ?_);refine WP.skip ?_;refine pR.norm ?_;refine ab ?_;refine RL.p rfl rfl (cI.fieldAddr bg rfl) ?_;refine RL.p rfl rfl (cI.load bG rfl (hA1.at_ (i:=0) rfl rfl)) ?_;refine RL.p rfl rfl (cI.fieldAddr bE rfl) ?_;refine RL.p rfl rfl (cI.load bG rfl (hA2.at_ (i:=1) rfl rfl)) ?_;have hBw1:w.heap.size≤w3.heap.size:=hX.size;refine RL.x rfl rfl (dj.call nV (ax rfl rfl) (om _ rx cy b (by omega) (by omega) (by omega))) ?_;rintro v1 w4 ⟨hx4,q1⟩;replace hA1:=be.ext hA1 hx4;replace hA2:=be.ext hA2 hx4;replace hA3:=be.ext hA3 hx4;replace hX:=aF.trans hX hx4;refine RL.x rfl rfl (dj.alloc [.int .i64 (0),.int .i64 (0),.slice (none) (0) (0)] cf rfl) ?_;rintro _ w5 ⟨g4,rfl,hge4,hx5,hA4⟩;have ne4:g1≠g4:=Nat.ne_of_lt (Nat.lt_of_lt_of_le hA1.lt hge4);have ne5:g2≠g4:=Nat.ne_of_lt (Nat.lt_of_lt_of_le hA2.lt hge4);have ne6:g3≠g4:=Nat.ne_of_lt (Nat.lt_of_lt_of_le hA3.lt hge4);have hbs4:w.heap.size≤g4:=Nat.le_trans hX.size hge4;replace hA1:=be.ext hA1 hx5;replace hA2:=be.ext hA2 hx5;replace hA3:=be.ext hA3 hx5;replace q1:=cH.ext q1 hx5;replace hX:=aF.trans hX hx5;obtain ⟨gh1,kh1,ρ1,hq1,hM1⟩:=q1;have hd1:=cD.dlim hM1;have hd2:=cD.clim hM1;refine RL.x rfl rfl (dj.store [.int .i64 ((rx:Nat)),.int .i64 ((cy:Nat)),.slice (some ⟨gh1,0,none⟩) (rx) (kh1)] cL rfl hq1 rfl hA4 (Nat.le_of_ble_eq_true rfl) (cM rfl rfl rfl)) ?_;rintro _ w6 ⟨hk1,hnew⟩;replace hM1:=aE hM1 hk1 hA4 (by decide);replace hA1:=hA1.keep hk1 ne4;replace hA2:=hA2.keep hk1 ne5;replace hA3:=hA3.keep hk1 ne6;replace hX:=hX.step hk1 (fun b e=>by subst e;exact hbs4);replace hA4:=hnew.lit [.int .i64 ((rx:Nat)),.int .i64 ((cy:Nat)),.slice (some ⟨gh1,0,none⟩) (rx) (kh1)] rfl;clear hnew;refine RL.nil ?_;refine WP.seq ?_;refine ab ?_;refine RL.p rfl rfl (cI.assign rfl) ?_;refine RL.nil ?_;refine WP.block ?_;refine WP.loop (fun mz ez uz=>∃i:Nat,(mz=rx - i)∧(ez 2= .pointer (some ⟨g1,0,none⟩))∧(ez 3= .pointer (some ⟨g2,0,none⟩))∧(ez 4= .pointer (some ⟨g3,0,none⟩))∧(ez 5= .int .i64 (0))∧(ez 6= .pointer (some ⟨g4,0,none⟩))∧(ez 7= .int .i64 ((i:Nat)))∧(i≤rx)∧(aF w uz)∧(be uz g1 28 3 (bS [.int .i64 ((rx:Nat)),.int .i64 ((cx:Nat)),sx]))∧(be uz g2 28 3 (bS [.int .i64 ((ry:Nat)),.int .i64 ((cy:Nat)),sy]))∧(be uz g3 28 3 (bS [.int .i64 (0),.int .i64 (0),.slice (none) (0) (0)]))∧(be uz g4 28 3 (bS [.int .i64 ((rx:Nat)),.int .i64 ((cy:Nat)),.slice (some ⟨gh1,0,none⟩) (rx) (kh1)]))∧(cD uz w3.heap.size gh1 kh1 rx cy ρ1 (cR (bK cx Mx My) i 0) b)) (rx - 0) ?_ ?_
 · exact ⟨0,rfl,rfl,rfl,rfl,rfl,rfl,rfl,(by omega),hX,hA1,hA2,hA3,hA4,bA hM1 (gW (bK cx Mx My))⟩
 rintro m1 e1 w7 ⟨i,hm1,s2_e1,s3_e1,s4_e1,s5_e1,s6_e1,s7_e1,hi,hX1,hA1,hA2,hA3,hA4,hM1⟩;refine WP.seq ?_;refine ab ?_;refine RL.p rfl rfl (cI.move s7_e1) ?_;refine RL.p rfl rfl (cI.fieldAddr bg s2_e1) ?_;refine RL.p rfl rfl (cI.load bG rfl (hA1.at_ (i:=0) rfl rfl)) ?_;refine RL.p rfl rfl (cI.lss rfl rfl) ?_;refine RL.nil ?_;refine ag (((i:Nat):Int)<((rx:Nat):Int)) rfl (fun c24=> ?_) (fun c24=> ?_)
 ·
  refine WP.skip ?_;refine pR.norm ?_;refine WP.seq ?_;refine WP.block ?_;refine ab ?_;refine RL.p rfl rfl (cI.assign rfl) ?_;refine RL.nil ?_;refine WP.block ?_;refine WP.loop (fun mz ez uz=>∃j:Nat,(mz=cy - j)∧(ez 2= .pointer (some ⟨g1,0,none⟩))∧(ez 3= .pointer (some ⟨g2,0,none⟩))∧(ez 4= .pointer (some ⟨g3,0,none⟩))∧(ez 5= .int .i64 (0))∧(ez 6= .pointer (some ⟨g4,0,none⟩))∧(ez 7= .int .i64 ((i:Nat)))∧(ez 8= .int .i64 ((j:Nat)))∧(j≤cy)∧(aF w uz)∧(be uz g1 28 3 (bS [.int .i64 ((rx:Nat)),.int .i64 ((cx:Nat)),sx]))∧(be uz g2 28 3 (bS [.int .i64 ((ry:Nat)),.int .i64 ((cy:Nat)),sy]))∧(be uz g3 28 3 (bS [.int .i64 (0),.int .i64 (0),.slice (none) (0) (0)]))∧(be uz g4 28 3 (bS [.int .i64 ((rx:Nat)),.int .i64 ((cy:Nat)),.slice (some ⟨gh1,0,none⟩) (rx) (kh1)]))∧(cD uz w3.heap.size gh1 kh1 rx cy ρ1 (cR (bK cx Mx My) i j) b)) (cy - 0) ?_ ?_
  · exact ⟨0,rfl,s2_e1,s3_e1,s4_e1,s5_e1,s6_e1,s7_e1,rfl,(by omega),hX1,hA1,hA2,hA3,hA4,hM1⟩
  rintro m2 e2 w8 ⟨j,hm2,s2_e2,s3_e2,s4_e2,s5_e2,s6_e2,s7_e2,s8_e2,hj,hX2,hA1,hA2,hA3,hA4,hM1⟩;refine WP.seq ?_;refine ab ?_;refine RL.p rfl rfl (cI.move s8_e2) ?_;refine RL.p rfl rfl (cI.fieldAddr bE s3_e2) ?_;refine RL.p rfl rfl (cI.load bG rfl (hA2.at_ (i:=1) rfl rfl)) ?_;refine RL.p rfl rfl (cI.lss rfl rfl) ?_;refine RL.nil ?_;refine ag (((j:Nat):Int)<((cy:Nat):Int)) rfl (fun c30=> ?_) (fun c30=> ?_)
  ·
   refine WP.skip ?_;refine pR.norm ?_;refine WP.seq ?_;refine WP.block ?_;refine ab ?_;refine RL.p rfl rfl (cI.assign rfl) ?_;refine RL.nil ?_;refine WP.block ?_;refine WP.loop (fun mz ez uz=>∃k:Nat,(mz=cx - k)∧(ez 2= .pointer (some ⟨g1,0,none⟩))∧(ez 3= .pointer (some ⟨g2,0,none⟩))∧(ez 4= .pointer (some ⟨g3,0,none⟩))∧(ez 5= .int .i64 (0))∧(ez 6= .pointer (some ⟨g4,0,none⟩))∧(ez 7= .int .i64 ((i:Nat)))∧(ez 8= .int .i64 ((j:Nat)))∧(ez 9= .int .i64 ((k:Nat)))∧(k≤cx)∧(aF w uz)∧(be uz g1 28 3 (bS [.int .i64 ((rx:Nat)),.int .i64 ((cx:Nat)),sx]))∧(be uz g2 28 3 (bS [.int .i64 ((ry:Nat)),.int .i64 ((cy:Nat)),sy]))∧(be uz g3 28 3 (bS [.int .i64 (0),.int .i64 (0),.slice (none) (0) (0)]))∧(be uz g4 28 3 (bS [.int .i64 ((rx:Nat)),.int .i64 ((cy:Nat)),.slice (some ⟨gh1,0,none⟩) (rx) (kh1)]))∧(cD uz w3.heap.size gh1 kh1 rx cy ρ1 (eu (cR (bK cx Mx My) i j) i j (aO k (fun x=>Mx i x*My x j))) b)) (cx - 0) ?_ ?_
   · exact ⟨0,rfl,s2_e2,s3_e2,s4_e2,s5_e2,s6_e2,s7_e2,s8_e2,rfl,(by omega),hX2,hA1,hA2,hA3,hA4,bA hM1 (mul_zero _ i j)⟩
   rintro m3 e3 w9 ⟨k,hm3,s2_e3,s3_e3,s4_e3,s5_e3,s6_e3,s7_e3,s8_e3,s9_e3,hk,hX3,hA1,hA2,hA3,hA4,hM1⟩;refine WP.seq ?_;refine ab ?_;refine RL.p rfl rfl (cI.move s9_e3) ?_;refine RL.p rfl rfl (cI.fieldAddr bE s2_e3) ?_;refine RL.p rfl rfl (cI.load bG rfl (hA1.at_ (i:=1) rfl rfl)) ?_;refine RL.p rfl rfl (cI.lss rfl rfl) ?_;refine RL.nil ?_;refine ag (((k:Nat):Int)<((cx:Nat):Int)) rfl (fun c36=> ?_) (fun c36=> ?_)
   ·
    refine WP.skip ?_;refine pR.norm ?_;refine WP.seq ?_;refine WP.block ?_;refine WP.ds (hmono:=⟨⟨ac _,ac _,ac _,ac _,cm _ _,ac _,ac _,ac _,ac _,ac _,cm _ _,ac _,ac _,bD _ _,ac _,ac _,ac _,jA _ _ _,jz _ _ _,ac _,jB _ _,bD _ _,ac _,ac _,ac _,jA _ _ _,jz _ _ _,ac _,jB _ _,bD _ _,bD _ _,bD _ _,ac _,trivial⟩⟩) am 33 (_::_::_:: [_,_,_,_,_,_,_,_,_,_,_,_,_,_,_,_,_,_,_,_,_,_,_,_,_,_,_,_,_,_]) rfl rfl (fun e_ w_ BH BG=>⟨fun _=>aa (cI.fieldAddr aq ((BG 6 rfl s6_e3))),fun BF=>aa (cI.load aH ((BF 0 rfl)) ((be.ext hA4 BH).at_ (i:=2) rfl rfl)),fun _=>aa (cI.move ((BG 7 rfl s7_e3))),fun BF=>aa (cI.index (j:=i) aB ((BF 1 rfl)) ((BF 2 rfl)) rfl (by omega) (by omega)),fun BF=>ah (an (i:=i) aU (BF 3 rfl) (cD.ext hM1 BH) (by omega)),fun _=>aa (cI.move ((BG 8 rfl s8_e3))),fun _=>aa (cI.fieldAddr aq ((BG 6 rfl s6_e3))),fun BF=>aa (cI.load aH ((BF 6 rfl)) ((be.ext hA4 BH).at_ (i:=2) rfl rfl)),fun _=>aa (cI.move ((BG 7 rfl s7_e3))),fun BF=>aa (cI.index (j:=i) aB ((BF 7 rfl)) ((BF 8 rfl)) rfl (by omega) (by omega)),fun BF=>ah (an (i:=i) aU (BF 9 rfl) (cD.ext hM1 BH) (by omega)),fun _=>aa (cI.move ((BG 8 rfl s8_e3))),fun BF=>aa (av (j:=j) bi (BF 10 rfl) rfl (BF 11 rfl) (by omega) (by omega)),fun BF=>ah (aP (j:=j) ao (BF 12 rfl) (cD.row (cD.ext hM1 BH) (by omega)) (by omega)),fun _=>aa (cI.fieldAddr aq ((BG 2 rfl s2_e3))),fun BF=>aa (cI.load aH ((BF 14 rfl)) ((be.ext hA1 BH).at_ (i:=2) rfl rfl)),fun _=>aa (cI.move ((BG 7 rfl s7_e3))),fun BF=>ah (aZ (j:=i) aB (BF 15 rfl) (co.ext (co.ext hSx hX3) BH) (BF 16 rfl) (by omega) (by omega)),fun BF=>ah (bn aU rfl (BF 17 rfl)),fun _=>aa (cI.move ((BG 9 rfl s9_e3))),fun BF=>ah (bk (j:=k) bi rfl (BF 18 rfl) (BF 19 rfl) (by omega) (by omega)),fun BF=>ah (bo ao rfl (BF 20 rfl)),fun _=>aa (cI.fieldAddr aq ((BG 3 rfl s3_e3))),fun BF=>aa (cI.load aH ((BF 22 rfl)) ((be.ext hA2 BH).at_ (i:=2) rfl rfl)),fun _=>aa (cI.move ((BG 9 rfl s9_e3))),fun BF=>ah (aZ (j:=k) aB (BF 23 rfl) (co.ext (co.ext hSy hX3) BH) (BF 24 rfl) (by omega) (by omega)),fun BF=>ah (bn aU rfl (BF 25 rfl)),fun _=>aa (cI.move ((BG 8 rfl s8_e3))),fun BF=>ah (bk (j:=j) bi rfl (BF 26 rfl) (BF 27 rfl) (by omega) (by omega)),fun BF=>ah (bo ao rfl (BF 28 rfl)),fun BF=>dj.call jT (ax rfl rfl) (jV _ _ _ _ _ _ _ ((btx) + (bty)) ((BF 21 rfl)) ((BF 29 rfl)) (by omega) (by omega)),fun BF=>dj.call kU (ax rfl rfl) (lo _ _ _ _ _ _ _ (max (b) ((btx) + (bty)) + 1) ((BF 13 rfl)) ((BF 30 rfl)) (by omega) (by omega) (by omega)),fun BF=>aa (av (j:=j) bi (BF 4 rfl) rfl (BF 5 rfl) (by omega) (by omega)),trivial⟩) ?_;intro e4 w10 hx6 ho1 hf1;replace hA1:=be.ext hA1 hx6;replace hA2:=be.ext hA2 hx6;replace hA3:=be.ext hA3 hx6;replace hA4:=be.ext hA4 hx6;replace hM1:=cD.ext hM1 hx6;replace hX3:=aF.trans hX3 hx6;have s2_e4:=ho1 2 rfl s2_e3;have s3_e4:=ho1 3 rfl s3_e3;have s4_e4:=ho1 4 rfl s4_e3;have s5_e4:=ho1 5 rfl s5_e3;have s6_e4:=ho1 6 rfl s6_e3;have s7_e4:=ho1 7 rfl s7_e3;have s8_e4:=ho1 8 rfl s8_e3;have s9_e4:=ho1 9 rfl s9_e3;have s70_e4:al w10 (e4 70) (((eu (cR (bK cx Mx My) i j) i j (aO k (fun x=>Mx i x*My x j))) i j:Int) + (((Mx i) k:Int)*((My k) j:Int):Int)) (max (b) ((btx) + (bty)) + 1):=hf1 31 rfl;have s71_e4:e4 71=_:=hf1 32 rfl;refine RL.x rfl rfl (bM (i:=i) (j:=j) aN s71_e4 rfl (al.eq s70_e4 (by rw [rI];rfl) (hfit i j (k + 1) (by omega) (by omega) (by omega)) (by omega)) hM1 (by omega) (by omega)) ?_;rintro _ w11 ⟨hk2,hN1⟩;have hR1:=cD.row (i:=i) hM1 (by omega);replace hA1:=aT hA1 hk2 hR1 (by decide);replace hA2:=aT hA2 hk2 hR1 (by decide);replace hA3:=aT hA3 hk2 hR1 (by decide);replace hA4:=aT hA4 hk2 hR1 (by decide);replace hX3:=hX3.step hk2 (fun b e=>by subst e;exact (Nat.le_trans hBw1 (cD.rowB (i:=i) hM1 (by omega))));replace hM1:=hN1;clear hR1;refine RL.nil ?_;refine jm.norm ?_;refine pR.norm ?_;refine WP.region ?_;refine RL.p rfl rfl (cI.move s9_e4) ?_;refine RL.p rfl rfl (cI.add (c:=((k + 1:Nat):Int)) rfl rfl (bU (by omega))) ?_;refine RL.p rfl rfl (cI.assign rfl) ?_;refine RL.nil ?_;refine pR.norm ⟨_,(by omega),k + 1,rfl,s2_e4,s3_e4,s4_e4,s5_e4,s6_e4,s7_e4,s8_e4,rfl,(by omega),hX3,hA1,hA2,hA3,hA4,bA hM1 (rG _ _ _ _ _)⟩
   ·
    refine WP.exit ?_;refine pR.exit ?_;refine pR.exit ?_;refine jm.same ?_;refine jm.norm ?_;refine pR.norm ?_;refine WP.region ?_;refine RL.p rfl rfl (cI.move s8_e3) ?_;refine RL.p rfl rfl (cI.add (c:=((j + 1:Nat):Int)) rfl rfl (bU (by omega))) ?_;refine RL.p rfl rfl (cI.assign rfl) ?_;refine RL.nil ?_;refine pR.norm ⟨_,(by omega),j + 1,rfl,s2_e3,s3_e3,s4_e3,s5_e3,s6_e3,s7_e3,rfl,(by omega),hX3,hA1,hA2,hA3,hA4,bA hM1 (by rw [show k=cx by omega];exact fI (bK cx Mx My) i j)⟩
  ·
   refine WP.exit ?_;refine pR.exit ?_;refine pR.exit ?_;refine jm.same ?_;refine jm.norm ?_;refine pR.norm ?_;refine WP.region ?_;refine RL.p rfl rfl (cI.move s7_e2) ?_;refine RL.p rfl rfl (cI.add (c:=((i + 1:Nat):Int)) rfl rfl (bU (by omega))) ?_;refine RL.p rfl rfl (cI.assign rfl) ?_;refine RL.nil ?_;refine pR.norm ⟨_,(by omega),i + 1,rfl,s2_e2,s3_e2,s4_e2,s5_e2,s6_e2,rfl,(by omega),hX2,hA1,hA2,hA3,hA4,cD.congr hM1 fun a c2 ha hc2=>jy _ i (by omega)⟩
 ·
  refine WP.exit ?_;refine pR.exit ?_;refine pR.exit ?_;refine jm.same ?_;refine pR.norm ?_;refine ab ?_;refine RL.p rfl rfl (af [.int .i64 ((rx:Nat)),.int .i64 ((cy:Nat)),.slice (some ⟨gh1,0,none⟩) (rx) (kh1)] aR s6_e1 (hA4.cells 0 _ rfl rfl)) ?_;refine RL.x rfl rfl (dj.store [.int .i64 ((rx:Nat)),.int .i64 ((cy:Nat)),.slice (some ⟨gh1,0,none⟩) (rx) (kh1)] cL s4_e1 rfl rfl hA3 (Nat.le_of_ble_eq_true rfl) (cM rfl rfl rfl)) ?_;rintro _ w12 ⟨hk3,hnew⟩;replace hM1:=aE hM1 hk3 hA3 (by decide);replace hX1:=hX1.step hk3 (fun b e=>by subst e;exact hbs3);replace hA3:=hnew.lit [.int .i64 ((rx:Nat)),.int .i64 ((cy:Nat)),.slice (some ⟨gh1,0,none⟩) (rx) (kh1)] rfl;clear hnew;refine RL.p rfl rfl (cI.assign rfl) ?_;refine RL.nil ?_;refine WP.ret ?_;refine ⟨.tuple #[.agg #[.int .i64 ((rx:Nat)),.int .i64 ((cy:Nat)),.slice (some ⟨gh1,0,none⟩) (rx) (kh1)],.int .i64 (0)],dn (aj [.int .i64 ((rx:Nat)),.int .i64 ((cy:Nat)),.slice (some ⟨gh1,0,none⟩) (rx) (kh1)] aR s4_e1 (hA3.cells 0 _ rfl rfl)) (ge.tmp rfl),_,rfl,hX1,?_⟩;dsimp only;exact ⟨_,rfl,_,_,_,rfl,cD.congr (cD.low hM1 hBw1) fun a c2 ha hc2=>by rw [show i=rx by omega];exact fg _ c2 ha⟩
set_option maxRecDepth 10000 in
theorem ml (w:World) (x:Value) (rx cx:Nat) (Mx:Nat→Nat→Int) (btx:Nat) (y:Value) (ry cy:Nat) (My:Nat→Nat→Int) (bty:Nat) (b:Nat) (hx:cc w x rx cx Mx btx) (hy:cc w y ry cy My bty) (hxy:cx=ry) (hb:btx + bty + 1≤br) (hb2:b + 1≤br) (hfit:∀i j k,i<rx→j<cy→k≤cx→(aO k (fun x=>Mx i x*My x j)).natAbs<2^b):Calls Tryz.prog 46 #[x,y] w (ci w fun v w'=>cH w' v w.heap.size rx cy (bK cx Mx My) b):=by
 have hLIM:br=562949953421312:=rfl;have hmatx:=hx;obtain ⟨sx,rfl,hrx,hcx,hSx⟩:=hx.form;have hmaty:=hy;obtain ⟨sy,rfl,hry,hcy,hSy⟩:=hy.form;refine ak (N:=14) (rs:= #[.cell 4 28]) Tryz.func46 rfl rfl rfl (Nat.le_of_ble_eq_true rfl) ?_;have hX:aF w w:=aF.refl w;refine ab ?_;refine RL.x rfl rfl (dj.box [.int .i64 ((rx:Nat)),.int .i64 ((cx:Nat)),sx] rfl rfl) ?_;rintro _ w1 ⟨g1,rfl,hge1,hx1,hA1⟩;replace hX:=aF.trans hX hx1;refine RL.x rfl rfl (dj.box [.int .i64 ((ry:Nat)),.int .i64 ((cy:Nat)),sy] rfl rfl) ?_;rintro _ w2 ⟨g2,rfl,hge2,hx2,hA2⟩;replace hA1:=be.ext hA1 hx2;replace hX:=aF.trans hX hx2;refine RL.x rfl rfl (dj.alloc [.int .i64 (0),.int .i64 (0),.slice (none) (0) (0)] cf rfl) ?_;rintro _ w3 ⟨g3,rfl,hge3,hx3,hA3⟩;have hbs3:w.heap.size≤g3:=Nat.le_trans hX.size hge3;replace hA1:=be.ext hA1 hx3;replace hA2:=be.ext hA2 hx3;replace hX:=aF.trans hX hx3;refine RL.nil ?_;refine ab ?_;refine RL.p rfl rfl (af [.int .i64 ((rx:Nat)),.int .i64 ((cx:Nat)),sx] aR rfl (hA1.cells 0 _ rfl rfl)) ?_;refine RL.p rfl rfl (af [.int .i64 ((ry:Nat)),.int .i64 ((cy:Nat)),sy] aR rfl (hA2.cells 0 _ rfl rfl)) ?_;refine RL.x rfl rfl (dj.call zZ (ax rfl rfl) (yQ _ _ _ _ _ _ _ _ _ _ _ b (cc.mk (co.ext hSx hX) (by omega) (by omega)) (cc.mk (co.ext hSy hX) (by omega) (by omega)) hxy hb hb2 hfit)) ?_;rintro _ w4 ⟨hx4,v1,rfl,q1⟩;have hBw1:w.heap.size≤w3.heap.size:=hX.size;replace hA3:=be.ext hA3 hx4;replace hX:=aF.trans hX hx4;refine RL.p rfl rfl (cI.move rfl) ?_;refine RL.p rfl rfl (cI.extract rfl rfl) ?_;refine RL.p rfl rfl (cI.extract rfl rfl) ?_;refine RL.x rfl rfl (dj.alloc [.int .i64 (0),.int .i64 (0),.slice (none) (0) (0)] cf rfl) ?_;rintro _ w5 ⟨g4,rfl,hge4,hx5,hA4⟩;have ne6:g3≠g4:=Nat.ne_of_lt (Nat.lt_of_lt_of_le hA3.lt hge4);have hbs4:w.heap.size≤g4:=Nat.le_trans hX.size hge4;replace hA3:=be.ext hA3 hx5;replace q1:=cH.ext q1 hx5;replace hX:=aF.trans hX hx5;obtain ⟨gh1,kh1,ρ1,hq1,hM1⟩:=q1;have hd1:=cD.dlim hM1;have hd2:=cD.clim hM1;refine RL.x rfl rfl (dj.store [.int .i64 ((rx:Nat)),.int .i64 ((cy:Nat)),.slice (some ⟨gh1,0,none⟩) (rx) (kh1)] cL rfl hq1 rfl hA4 (Nat.le_of_ble_eq_true rfl) (cM rfl rfl rfl)) ?_;rintro _ w6 ⟨hk1,hnew⟩;replace hM1:=aE hM1 hk1 hA4 (by decide);replace hA3:=hA3.keep hk1 ne6;replace hX:=hX.step hk1 (fun b e=>by subst e;exact hbs4);replace hA4:=hnew.lit [.int .i64 ((rx:Nat)),.int .i64 ((cy:Nat)),.slice (some ⟨gh1,0,none⟩) (rx) (kh1)] rfl;clear hnew;refine RL.p rfl rfl (cI.assign rfl) ?_;refine RL.nil ?_;refine ab ?_;refine RL.p rfl rfl (af [.int .i64 ((rx:Nat)),.int .i64 ((cy:Nat)),.slice (some ⟨gh1,0,none⟩) (rx) (kh1)] aR rfl (hA4.cells 0 _ rfl rfl)) ?_;refine RL.x rfl rfl (dj.store [.int .i64 ((rx:Nat)),.int .i64 ((cy:Nat)),.slice (some ⟨gh1,0,none⟩) (rx) (kh1)] cL rfl rfl rfl hA3 (Nat.le_of_ble_eq_true rfl) (cM rfl rfl rfl)) ?_;rintro _ w7 ⟨hk2,hnew⟩;replace hM1:=aE hM1 hk2 hA3 (by decide);replace hX:=hX.step hk2 (fun b e=>by subst e;exact hbs3);replace hA3:=hnew.lit [.int .i64 ((rx:Nat)),.int .i64 ((cy:Nat)),.slice (some ⟨gh1,0,none⟩) (rx) (kh1)] rfl;clear hnew;refine RL.nil ?_;refine WP.ret ?_;refine ⟨.agg #[.int .i64 ((rx:Nat)),.int .i64 ((cy:Nat)),.slice (some ⟨gh1,0,none⟩) (rx) (kh1)],Bb.one (aj [.int .i64 ((rx:Nat)),.int .i64 ((cy:Nat)),.slice (some ⟨gh1,0,none⟩) (rx) (kh1)] aR rfl (hA3.cells 0 _ rfl rfl)),_,rfl,hX,?_⟩;dsimp only;exact ⟨_,_,_,rfl,cD.low hM1 (hBw1)⟩
end Go.TL
namespace Go.TL
open Go.RowKit Go.Proofs
set_option linter.unusedVariables false
set_option linter.unusedSimpArgs false
set_option maxRecDepth 10000 in
theorem tQ (w:World) (r:Nat) (c:Nat) (l:Value) (n:Nat) (f:Nat→Int) (hr:r≤16) (hc:c≤16) (hl:eE .i8 57 w l n f):Calls Tryz.prog 37 #[.int .i64 (r:Nat),.int .i64 (c:Nat),l] w (ci w fun v w'=>cH w' v w.heap.size r c (bC f n c) 4):=by
 have hLIM:br=562949953421312:=rfl;have hln:n<9223372036854775808:=by obtain ⟨_,_,_,h2,h3,_⟩:=hl;omega
 refine ak (N:=60) (rs:= #[.cell 6 28]) Tryz.func37 rfl rfl rfl (Nat.le_of_ble_eq_true rfl) ?_;have hX:aF w w:=aF.refl w;refine ab ?_;refine RL.x rfl rfl (dj.alloc [.int .i64 (0),.int .i64 (0),.slice (none) (0) (0)] cf rfl) ?_;rintro _ w1 ⟨g1,rfl,hge1,hx1,hA1⟩;have hbs1:w.heap.size≤g1:=Nat.le_trans hX.size hge1;replace hX:=aF.trans hX hx1;refine RL.nil ?_;refine ab ?_;refine RL.p rfl rfl (cI.move rfl) ?_;refine RL.p rfl rfl (cI.max (c:=((r:Nat):Int)) rfl rfl (by omega)) ?_;refine RL.p rfl rfl (cI.min (c:=((r:Nat):Int)) rfl rfl (by omega)) ?_;refine RL.p rfl rfl (cI.move rfl) ?_;refine RL.p rfl rfl (cI.max (c:=((c:Nat):Int)) rfl rfl (by omega)) ?_;refine RL.p rfl rfl (cI.min (c:=((c:Nat):Int)) rfl rfl (by omega)) ?_;have hBw1:w.heap.size≤w1.heap.size:=hX.size;refine RL.x rfl rfl (dj.call nV (ax rfl rfl) (om _ r c 4 (by omega) (by omega) (by omega))) ?_;rintro v1 w2 ⟨hx2,q1⟩;replace hA1:=be.ext hA1 hx2;replace hX:=aF.trans hX hx2;refine RL.x rfl rfl (dj.alloc [.int .i64 (0),.int .i64 (0),.slice (none) (0) (0)] cf rfl) ?_;rintro _ w3 ⟨g2,rfl,hge2,hx3,hA2⟩;have ne1:g1≠g2:=Nat.ne_of_lt (Nat.lt_of_lt_of_le hA1.lt hge2);have hbs2:w.heap.size≤g2:=Nat.le_trans hX.size hge2;replace hA1:=be.ext hA1 hx3;replace q1:=cH.ext q1 hx3;replace hX:=aF.trans hX hx3;obtain ⟨gh1,kh1,ρ1,hq1,hM1⟩:=q1;have hd1:=cD.dlim hM1;have hd2:=cD.clim hM1;refine RL.x rfl rfl (dj.store [.int .i64 ((r:Nat)),.int .i64 ((c:Nat)),.slice (some ⟨gh1,0,none⟩) (r) (kh1)] cL rfl hq1 rfl hA2 (Nat.le_of_ble_eq_true rfl) (cM rfl rfl rfl)) ?_;rintro _ w4 ⟨hk1,hnew⟩;replace hM1:=aE hM1 hk1 hA2 (by decide);replace hA1:=hA1.keep hk1 ne1;replace hX:=hX.step hk1 (fun b e=>by subst e;exact hbs2);replace hA2:=hnew.lit [.int .i64 ((r:Nat)),.int .i64 ((c:Nat)),.slice (some ⟨gh1,0,none⟩) (r) (kh1)] rfl;clear hnew;refine RL.nil ?_;refine WP.seq ?_;refine ab ?_;refine RL.p rfl rfl (cI.assign rfl) ?_;refine RL.nil ?_;refine WP.block ?_;refine WP.loop (fun mz ez uz=>∃i:Nat,(mz=r - i)∧(ez 2=l)∧(ez 6= .pointer (some ⟨g1,0,none⟩))∧(ez 7= .pointer (some ⟨g2,0,none⟩))∧(ez 8= .int .i64 ((i:Nat)))∧(i≤r)∧(aF w uz)∧(be uz g1 28 3 (bS [.int .i64 (0),.int .i64 (0),.slice (none) (0) (0)]))∧(be uz g2 28 3 (bS [.int .i64 ((r:Nat)),.int .i64 ((c:Nat)),.slice (some ⟨gh1,0,none⟩) (r) (kh1)]))∧(cD uz w1.heap.size gh1 kh1 r c ρ1 (cR (bC f n c) i 0) 4)) (r - 0) ?_ ?_
 · exact ⟨0,rfl,rfl,rfl,rfl,rfl,(by omega),hX,hA1,hA2,bA hM1 (gW (bC f n c))⟩
 rintro m1 e1 w5 ⟨i,hm1,s2_e1,s6_e1,s7_e1,s8_e1,hi,hX1,hA1,hA2,hM1⟩;refine WP.seq ?_;refine ab ?_;refine RL.p rfl rfl (cI.move s8_e1) ?_;refine RL.p rfl rfl (cI.fieldAddr bg s7_e1) ?_;refine RL.p rfl rfl (cI.load bG rfl (hA2.at_ (i:=0) rfl rfl)) ?_;refine RL.p rfl rfl (cI.lss rfl rfl) ?_;refine RL.nil ?_;refine ag (((i:Nat):Int)<((r:Nat):Int)) rfl (fun c20=> ?_) (fun c20=> ?_)
 ·
  refine WP.skip ?_;refine pR.norm ?_;refine WP.seq ?_;refine WP.block ?_;refine ab ?_;refine RL.p rfl rfl (cI.assign rfl) ?_;refine RL.nil ?_;refine WP.block ?_;refine WP.loop (fun mz ez uz=>∃j:Nat,(mz=c - j)∧(ez 2=l)∧(ez 6= .pointer (some ⟨g1,0,none⟩))∧(ez 7= .pointer (some ⟨g2,0,none⟩))∧(ez 8= .int .i64 ((i:Nat)))∧(ez 9= .int .i64 ((j:Nat)))∧(j≤c)∧(aF w uz)∧(be uz g1 28 3 (bS [.int .i64 (0),.int .i64 (0),.slice (none) (0) (0)]))∧(be uz g2 28 3 (bS [.int .i64 ((r:Nat)),.int .i64 ((c:Nat)),.slice (some ⟨gh1,0,none⟩) (r) (kh1)]))∧(cD uz w1.heap.size gh1 kh1 r c ρ1 (cR (bC f n c) i j) 4)) (c - 0) ?_ ?_
  · exact ⟨0,rfl,s2_e1,s6_e1,s7_e1,s8_e1,rfl,(by omega),hX1,hA1,hA2,hM1⟩
  rintro m2 e2 w6 ⟨j,hm2,s2_e2,s6_e2,s7_e2,s8_e2,s9_e2,hj,hX2,hA1,hA2,hM1⟩;have hic:i*c≤16*16:=Nat.mul_le_mul (by omega) (by omega);refine WP.seq ?_;refine aK am 15 [_,_,_,_,fun v BI=>v= .bool (decide (((j:Nat):Int)<((c:Nat):Int))),_,_,_,_,_,_,_,_,_,_] rfl rfl (fun e_ w_ BH BG=>⟨fun _=>aa (cI.move ((BG 9 rfl s9_e2))),fun _=>aa (cI.fieldAddr bE ((BG 7 rfl s7_e2))),fun BF=>aa (cI.load bG ((BF 1 rfl)) ((be.ext hA2 BH).at_ (i:=1) rfl rfl)),fun BF=>aa (cI.lss ((BF 0 rfl)) ((BF 2 rfl))),fun BF=>aa (cI.move ((BF 3 rfl))),fun BF=>gT (BF 4 rfl) fun hg=>aa (cI.move ((BG 8 rfl s8_e2))),fun BF=>gT (BF 4 rfl) fun hg=>aa (cI.fieldAddr bE ((BG 7 rfl s7_e2))),fun BF=>gT (BF 4 rfl) fun hg=>aa (cI.load bG ((BF 6 rfl hg)) ((be.ext hA2 BH).at_ (i:=1) rfl rfl)),fun BF=>gT (BF 4 rfl) fun hg=>aa (cI.mul (c:=((i*c:Nat):Int)) ((BF 5 rfl hg)) ((BF 7 rfl hg)) (bU (by omega))),fun BF=>gT (BF 4 rfl) fun hg=>aa (cI.move ((BG 9 rfl s9_e2))),fun BF=>gT (BF 4 rfl) fun hg=>aa (cI.add (c:=(((i*c) + j:Nat):Int)) ((BF 8 rfl hg)) ((BF 9 rfl hg)) (bU (by omega))),fun BF=>gT (BF 4 rfl) fun hg=>aa (cI.move ((BG 2 rfl s2_e2))),fun BF=>gT (BF 4 rfl) fun hg=>aa (lR xv (BF 11 rfl hg) (eE.ext (eE.ext hl hX2) BH)),fun BF=>gT (BF 4 rfl) fun hg=>aa (cI.lss ((BF 10 rfl hg)) ((BF 12 rfl hg))),fun BF=>aa (ay (p:=((j:Nat):Int)<((c:Nat):Int)) (q:=((((i*c) + j:Nat):Int):Int)<((n:Nat):Int)) (BF 4 rfl) (fun hq=>(BF 13 rfl hq))),trivial⟩) ?_;intro e3 w7 hx4 ho1 hf1;replace hA1:=be.ext hA1 hx4;replace hA2:=be.ext hA2 hx4;replace hM1:=cD.ext hM1 hx4;replace hX2:=aF.trans hX2 hx4;have s2_e3:=ho1 2 rfl s2_e2;have s6_e3:=ho1 6 rfl s6_e2;have s7_e3:=ho1 7 rfl s7_e2;have s8_e3:=ho1 8 rfl s8_e2;have s9_e3:=ho1 9 rfl s9_e2;have s37_e3:e3 37=_:=hf1 14 rfl;refine RL.nil ?_;refine ag ((((j:Nat):Int)<((c:Nat):Int))∧(((((i*c) + j:Nat):Int):Int)<((n:Nat):Int))) s37_e3 (fun c37=> ?_) (fun c37=> ?_)
  ·
   refine WP.skip ?_;refine pR.norm ?_;refine WP.seq ?_;refine WP.block ?_;refine WP.ds am 19 [_,_,_,_,_,_,_,_,_,_,_,_,_,_,_,_,_,_,_] rfl rfl (fun e_ w_ BH BG=>⟨fun _=>aa (cI.fieldAddr aq ((BG 7 rfl s7_e3))),fun BF=>aa (cI.load aH ((BF 0 rfl)) ((be.ext hA2 BH).at_ (i:=2) rfl rfl)),fun _=>aa (cI.move ((BG 8 rfl s8_e3))),fun BF=>aa (cI.index (j:=i) aB ((BF 1 rfl)) ((BF 2 rfl)) rfl (by omega) (by omega)),fun BF=>ah (an (i:=i) aU (BF 3 rfl) (cD.ext hM1 BH) (by omega)),fun _=>aa (cI.move ((BG 9 rfl s9_e3))),fun _=>aa (cI.move ((BG 2 rfl s2_e3))),fun _=>aa (cI.move ((BG 8 rfl s8_e3))),fun _=>aa (cI.fieldAddr bE ((BG 7 rfl s7_e3))),fun BF=>aa (cI.load bG ((BF 8 rfl)) ((be.ext hA2 BH).at_ (i:=1) rfl rfl)),fun BF=>aa (cI.mul (c:=((i*c:Nat):Int)) ((BF 7 rfl)) ((BF 9 rfl)) (bU (by omega))),fun _=>aa (cI.move ((BG 9 rfl s9_e3))),fun BF=>aa (cI.add (c:=(((i*c) + j:Nat):Int)) ((BF 10 rfl)) ((BF 11 rfl)) (bU (by omega))),fun BF=>ah (ji (j:=(i*c) + j) xv (BF 6 rfl) (eE.ext (eE.ext hl hX2) BH) (BF 12 rfl) (by omega) (by omega)),fun BF=>aa (kd xw rfl (BF 13 rfl)),fun BF=>aa (cI.rem (c:=(f (i*c + j)).tmod 10) ((BF 14 rfl)) rfl (by omega) rfl),fun BF=>aa (aw (c:=(f (i*c + j)).tmod 10) xy nU ((BF 15 rfl)) (bU ⟨(pg _).1,Int.le_of_lt_add_one (pg _).2,rfl⟩)),fun BF=>dj.call kV (aI ((BF 16 rfl))) (pq ((f (i*c + j)).tmod 10) (4) _ (pg _) (xx _) (by decide)),fun BF=>aa (av (j:=j) bi (BF 4 rfl) rfl (BF 5 rfl) (by omega) (by omega)),trivial⟩) ?_;intro e4 w8 hx5 ho2 hf2;replace hA1:=be.ext hA1 hx5;replace hA2:=be.ext hA2 hx5;replace hM1:=cD.ext hM1 hx5;replace hX2:=aF.trans hX2 hx5;have s2_e4:=ho2 2 rfl s2_e3;have s6_e4:=ho2 6 rfl s6_e3;have s7_e4:=ho2 7 rfl s7_e3;have s8_e4:=ho2 8 rfl s8_e3;have s9_e4:=ho2 9 rfl s9_e3;have s57_e4:al w8 (e4 57) ((f (i*c + j)).tmod 10) 4:=hf2 17 rfl;have s58_e4:e4 58=_:=hf2 18 rfl;refine RL.x rfl rfl (bM (i:=i) (j:=j) aN s58_e4 rfl (al.eq s57_e4 (uL (n:=n) (by omega)) (oI _ _ _ _ _) (by decide)) hM1 (by omega) (by omega)) ?_;rintro _ w9 ⟨hk2,hN1⟩;have hR1:=cD.row (i:=i) hM1 (by omega);replace hA1:=aT hA1 hk2 hR1 (by decide);replace hA2:=aT hA2 hk2 hR1 (by decide);replace hX2:=hX2.step hk2 (fun b e=>by subst e;exact (Nat.le_trans hBw1 (cD.rowB (i:=i) hM1 (by omega))));replace hM1:=hN1;clear hR1;refine RL.nil ?_;refine jm.norm ?_;refine pR.norm ?_;refine WP.region ?_;refine RL.p rfl rfl (cI.move s9_e4) ?_;refine RL.p rfl rfl (cI.add (c:=((j + 1:Nat):Int)) rfl rfl (bU (by omega))) ?_;refine RL.p rfl rfl (cI.assign rfl) ?_;refine RL.nil ?_;refine pR.norm ⟨_,(by omega),j + 1,rfl,s2_e4,s6_e4,s7_e4,s8_e4,rfl,(by omega),hX2,hA1,hA2,bA hM1 (fI (bC f n c) i j)⟩
  ·
   refine WP.exit ?_;refine pR.exit ?_;refine pR.exit ?_;refine jm.same ?_;refine jm.norm ?_;refine pR.norm ?_;refine WP.region ?_;refine RL.p rfl rfl (cI.move s8_e3) ?_;refine RL.p rfl rfl (cI.add (c:=((i + 1:Nat):Int)) rfl rfl (bU (by omega))) ?_;refine RL.p rfl rfl (cI.assign rfl) ?_;refine RL.nil ?_;refine pR.norm ⟨_,(by omega),i + 1,rfl,s2_e3,s6_e3,s7_e3,rfl,(by omega),hX2,hA1,hA2,cD.congr hM1 fun a c2 ha hc2=>mo (fun e he hec=>by unfold bC;rw [if_neg (by omega)]) hc2⟩
 ·
  refine WP.exit ?_;refine pR.exit ?_;refine pR.exit ?_;refine jm.same ?_;refine pR.norm ?_;refine ab ?_;refine RL.p rfl rfl (af [.int .i64 ((r:Nat)),.int .i64 ((c:Nat)),.slice (some ⟨gh1,0,none⟩) (r) (kh1)] aR s7_e1 (hA2.cells 0 _ rfl rfl)) ?_;refine RL.x rfl rfl (dj.store [.int .i64 ((r:Nat)),.int .i64 ((c:Nat)),.slice (some ⟨gh1,0,none⟩) (r) (kh1)] cL s6_e1 rfl rfl hA1 (Nat.le_of_ble_eq_true rfl) (cM rfl rfl rfl)) ?_;rintro _ w10 ⟨hk3,hnew⟩;replace hM1:=aE hM1 hk3 hA1 (by decide);replace hX1:=hX1.step hk3 (fun b e=>by subst e;exact hbs1);replace hA1:=hnew.lit [.int .i64 ((r:Nat)),.int .i64 ((c:Nat)),.slice (some ⟨gh1,0,none⟩) (r) (kh1)] rfl;clear hnew;refine RL.nil ?_;refine WP.ret ?_;refine ⟨.agg #[.int .i64 ((r:Nat)),.int .i64 ((c:Nat)),.slice (some ⟨gh1,0,none⟩) (r) (kh1)],Bb.one (aj [.int .i64 ((r:Nat)),.int .i64 ((c:Nat)),.slice (some ⟨gh1,0,none⟩) (r) (kh1)] aR s6_e1 (hA1.cells 0 _ rfl rfl)),_,rfl,hX1,?_⟩;dsimp only;exact ⟨_,_,_,rfl,cD.congr (cD.low hM1 hBw1) fun a c2 ha hc2=>by rw [show i=r by omega];exact fg _ c2 ha⟩
end Go.TL
namespace Go.TL
open Go.RowKit Go.Proofs
set_option linter.unusedVariables false
set_option linter.unusedSimpArgs false
set_option maxRecDepth 10000 in
theorem vT (w:World) (R C:Nat) (l:Value) (n:Nat) (f:Nat→Int) (hl:eE .i8 57 w l n f) (hR:R<256) (hC:C<256):Calls Tryz.prog 10 #[.agg #[.int .u8 (R:Nat),.int .u8 (C:Nat),l]] w (ci w fun v w'=>cH w' v w.heap.size (R % 5) (C % 5) (bC f n (C % 5)) 4):=by
 have hLIM:br=562949953421312:=rfl;have hln:n<9223372036854775808:=by obtain ⟨_,_,_,h2,h3,_⟩:=hl;omega
 refine ak (N:=14) (rs:= #[.cell 2 28]) Tryz.func10 rfl rfl rfl (Nat.le_of_ble_eq_true rfl) ?_;have hX:aF w w:=aF.refl w;refine ab ?_;refine RL.x rfl rfl (dj.box [.int .u8 ((R:Nat)),.int .u8 ((C:Nat)),l] rfl rfl) ?_;rintro _ w1 ⟨g1,rfl,hge1,hx1,hA1⟩;replace hX:=aF.trans hX hx1;refine RL.x rfl rfl (dj.alloc [.int .i64 (0),.int .i64 (0),.slice (none) (0) (0)] cf rfl) ?_;rintro _ w2 ⟨g2,rfl,hge2,hx2,hA2⟩;have hbs2:w.heap.size≤g2:=Nat.le_trans hX.size hge2;replace hA1:=be.ext hA1 hx2;replace hX:=aF.trans hX hx2;refine RL.nil ?_;refine ab ?_;refine RL.p rfl rfl (cI.fieldAddr vK rfl) ?_;refine RL.p rfl rfl (cI.load pf rfl (hA1.at_ (i:=0) rfl rfl)) ?_;refine RL.p rfl rfl (cI.rem (c:=((R % 5:Nat):Int)) rfl rfl (by omega) rfl) ?_;refine RL.p rfl rfl (aw (c:=((R % 5:Nat):Int)) rJ rK rfl (bU ⟨by omega,by omega,rfl⟩)) ?_;refine RL.p rfl rfl (cI.fieldAddr vJ rfl) ?_;refine RL.p rfl rfl (cI.load pf rfl (hA1.at_ (i:=1) rfl rfl)) ?_;refine RL.p rfl rfl (cI.rem (c:=((C % 5:Nat):Int)) rfl rfl (by omega) rfl) ?_;refine RL.p rfl rfl (aw (c:=((C % 5:Nat):Int)) rJ rK rfl (bU ⟨by omega,by omega,rfl⟩)) ?_;refine RL.p rfl rfl (cI.fieldAddr vI rfl) ?_;refine RL.p rfl rfl (cI.load zO rfl (hA1.at_ (i:=2) rfl rfl)) ?_;have hBw1:w.heap.size≤w2.heap.size:=hX.size;refine RL.x rfl rfl (dj.call Aw (cS rfl rfl rfl) (tQ _ (R % 5) (C % 5) l n f (by omega) (by omega) (eE.ext hl hX))) ?_;rintro v1 w3 ⟨hx3,q1⟩;replace hA2:=be.ext hA2 hx3;replace hX:=aF.trans hX hx3;obtain ⟨gh1,kh1,ρ1,hq1,hM1⟩:=q1;have hd1:=cD.dlim hM1;have hd2:=cD.clim hM1;refine RL.x rfl rfl (dj.store [.int .i64 ((R % 5:Nat)),.int .i64 ((C % 5:Nat)),.slice (some ⟨gh1,0,none⟩) (R % 5) (kh1)] cL rfl hq1 rfl hA2 (Nat.le_of_ble_eq_true rfl) (cM rfl rfl rfl)) ?_;rintro _ w4 ⟨hk1,hnew⟩;replace hM1:=aE hM1 hk1 hA2 (by decide);replace hX:=hX.step hk1 (fun b e=>by subst e;exact hbs2);replace hA2:=hnew.lit [.int .i64 ((R % 5:Nat)),.int .i64 ((C % 5:Nat)),.slice (some ⟨gh1,0,none⟩) (R % 5) (kh1)] rfl;clear hnew;refine RL.nil ?_;refine WP.ret ?_;refine ⟨.agg #[.int .i64 ((R % 5:Nat)),.int .i64 ((C % 5:Nat)),.slice (some ⟨gh1,0,none⟩) (R % 5) (kh1)],Bb.one (aj [.int .i64 ((R % 5:Nat)),.int .i64 ((C % 5:Nat)),.slice (some ⟨gh1,0,none⟩) (R % 5) (kh1)] aR rfl (hA2.cells 0 _ rfl rfl)),_,rfl,hX,?_⟩;dsimp only;exact ⟨_,_,_,rfl,cD.low hM1 (hBw1)⟩
set_option maxRecDepth 10000 in
theorem pp (w:World) (x:Value) (nx:Nat) (zx:Nat→Int) (btx:Nat) (hx:bO w x nx zx btx):Calls Tryz.prog 89 #[x] w (ci w fun v w'=>v= .bool (decide True)):=by
 have hLIM:br=562949953421312:=rfl;have hlimx:=hx.lim;refine ak (N:=16) (rs:= #[.tmp 2]) Tryz.func89 rfl rfl rfl (Nat.le_of_ble_eq_true rfl) ?_;have hX:aF w w:=aF.refl w;refine ab ?_;refine RL.p rfl rfl (cI.assign rfl) ?_;refine RL.nil ?_;refine WP.seq ?_;refine ab ?_;refine RL.p rfl rfl (cI.assign rfl) ?_;refine RL.nil ?_;refine WP.block ?_;refine WP.loop (fun mz ez uz=>∃i:Nat,(mz=nx - i)∧(ez 0=x)∧(ez 3= .int .i64 ((i:Nat)))∧(i≤nx)∧(aF w uz)) (nx - 0) ?_ ?_
 · exact ⟨0,rfl,rfl,rfl,(by omega),hX⟩
 rintro m1 e1 w1 ⟨i,hm1,s0_e1,s3_e1,hi,hX1⟩;refine WP.seq ?_;refine ab ?_;refine RL.p rfl rfl (cI.move s3_e1) ?_;refine RL.p rfl rfl (cI.move s0_e1) ?_;refine RL.p rfl rfl (cl dk rfl (bO.ext hx hX1)) ?_;refine RL.p rfl rfl (cI.lss rfl rfl) ?_;refine RL.nil ?_;refine ag (((i:Nat):Int)<((nx:Nat):Int)) rfl (fun c7=> ?_) (fun c7=> ?_)
 ·
  refine WP.skip ?_;refine pR.norm ?_;refine WP.seq ?_;refine WP.block ?_;refine ab ?_;refine RL.p rfl rfl (cI.move s0_e1) ?_;refine RL.p rfl rfl (cI.move s3_e1) ?_;refine RL.x rfl rfl (bk (j:=i) dk rfl (bO.ext hx hX1) rfl (by omega) (by omega)) ?_;rintro v1 _ ⟨rfl,q1⟩;refine RL.x rfl rfl (bo ao rfl q1) ?_;rintro v2 _ ⟨rfl,q2⟩;refine RL.x rfl rfl (dj.call yv (aI rfl) (vP _ _ _ _ q2)) ?_;rintro _ w2 ⟨hx1,rfl⟩;replace hX1:=aF.trans hX1 hx1;refine RL.p rfl rfl (cI.not (p:=True) rfl) ?_;refine RL.nil ?_;refine ag (¬(True)) rfl (fun c15=> ?_) (fun c15=> ?_)
  ·
   refine ab ?_;refine RL.p rfl rfl (cI.assign rfl) ?_;refine RL.nil ?_;refine WP.ret ?_;refine jm.ret ?_;refine pR.ret ?_;refine pR.ret ?_;refine jm.ret ?_;refine pR.ret ?_;refine ⟨.bool (false),Bb.one (ge.tmp rfl),_,rfl,hX1,?_⟩;dsimp only;exact absurd trivial c15
  ·
   refine WP.skip ?_;refine jm.norm ?_;refine pR.norm ?_;refine WP.region ?_;refine RL.p rfl rfl (cI.move s3_e1) ?_;refine RL.p rfl rfl (cI.add (c:=((i + 1:Nat):Int)) rfl rfl (bU (by omega))) ?_;refine RL.p rfl rfl (cI.assign rfl) ?_;refine RL.nil ?_;refine pR.norm ⟨_,(by omega),i + 1,rfl,s0_e1,rfl,(by omega),hX1⟩
 ·
  refine WP.exit ?_;refine pR.exit ?_;refine pR.exit ?_;refine jm.same ?_;refine pR.norm ?_;refine ab ?_;refine RL.p rfl rfl (cI.assign rfl) ?_;refine RL.nil ?_;refine WP.ret ?_;refine ⟨.bool (true),Bb.one (ge.tmp rfl),_,rfl,hX1,?_⟩
  rfl
set_option maxRecDepth 10000 in
theorem lm (w:World) (x:Value) (rx cx:Nat) (Mx:Nat→Nat→Int) (btx:Nat) (hx:cc w x rx cx Mx btx):Calls Tryz.prog 44 #[x] w (ci w fun v w'=>v= .bool (decide True)):=by
 have hLIM:br=562949953421312:=rfl;have hmatx:=hx;obtain ⟨sx,rfl,hrx,hcx,hSx⟩:=hx.form;refine ak (N:=45) (rs:= #[.tmp 2]) Tryz.func44 rfl rfl rfl (Nat.le_of_ble_eq_true rfl) ?_;have hX:aF w w:=aF.refl w;refine ab ?_;refine RL.x rfl rfl (dj.box [.int .i64 ((rx:Nat)),.int .i64 ((cx:Nat)),sx] rfl rfl) ?_;rintro _ w1 ⟨g1,rfl,hge1,hx1,hA1⟩;replace hX:=aF.trans hX hx1;refine RL.p rfl rfl (cI.assign rfl) ?_;refine RL.nil ?_;refine WP.seq ?_;refine aK am 16 [_,_,_,fun v BI=>v= .bool (decide (((rx:Nat):Int)<(0:Int))),_,_,_,_,fun v BI=>v= .bool (decide ((((rx:Nat):Int)<(0:Int))∨(((cx:Nat):Int)<(0:Int)))),_,_,_,_,_,_,_] rfl rfl (fun e_ w_ BH BG=>⟨fun _=>aa (cI.fieldAddr bg ((BG 1 rfl rfl))),fun BF=>aa (cI.load bG ((BF 0 rfl)) ((be.ext hA1 BH).at_ (i:=0) rfl rfl)),fun BF=>aa (cI.lss ((BF 1 rfl)) rfl),fun BF=>aa (cI.move ((BF 2 rfl))),fun BF=>gF (BF 3 rfl) fun hg=>aa (cI.fieldAddr bE ((BG 1 rfl rfl))),fun BF=>gF (BF 3 rfl) fun hg=>aa (cI.load bG ((BF 4 rfl hg)) ((be.ext hA1 BH).at_ (i:=1) rfl rfl)),fun BF=>gF (BF 3 rfl) fun hg=>aa (cI.lss ((BF 5 rfl hg)) rfl),fun BF=>aa (bq (p:=((rx:Nat):Int)<(0:Int)) (q:=((cx:Nat):Int)<(0:Int)) (BF 3 rfl) (fun hq=>(BF 6 rfl hq))),fun BF=>aa (cI.move ((BF 7 rfl))),fun BF=>gF (BF 8 rfl) fun hg=>aa (cI.fieldAddr aq ((BG 1 rfl rfl))),fun BF=>gF (BF 8 rfl) fun hg=>aa (cI.load aH ((BF 9 rfl hg)) ((be.ext hA1 BH).at_ (i:=2) rfl rfl)),fun BF=>gF (BF 8 rfl) fun hg=>aa (cA aB (BF 10 rfl hg) (co.ext (co.ext hSx hX) BH)),fun BF=>gF (BF 8 rfl) fun hg=>aa (cI.fieldAddr bg ((BG 1 rfl rfl))),fun BF=>gF (BF 8 rfl) fun hg=>aa (cI.load bG ((BF 12 rfl hg)) ((be.ext hA1 BH).at_ (i:=0) rfl rfl)),fun BF=>gF (BF 8 rfl) fun hg=>aa (cI.neq ((BF 11 rfl hg)) ((BF 13 rfl hg))),fun BF=>aa (bq (p:=(((rx:Nat):Int)<(0:Int))∨(((cx:Nat):Int)<(0:Int))) (q:=((rx:Nat):Int)≠((rx:Nat):Int)) (BF 8 rfl) (fun hq=>(BF 14 rfl hq))),trivial⟩) ?_;intro e1 w2 hx2 ho1 hf1;replace hA1:=be.ext hA1 hx2;replace hX:=aF.trans hX hx2;have s1_e1:e1 1=_:=ho1 1 rfl rfl;have s19_e1:e1 19=_:=hf1 15 rfl;refine RL.nil ?_;refine ag (((((rx:Nat):Int)<(0:Int))∨(((cx:Nat):Int)<(0:Int)))∨(((rx:Nat):Int)≠((rx:Nat):Int))) s19_e1 (fun c19=> ?_) (fun c19=> ?_)
 ·
  refine ab ?_;refine RL.p rfl rfl (cI.assign rfl) ?_;refine RL.nil ?_;refine WP.ret ?_;refine pR.ret ?_;refine ⟨.bool (false),Bb.one (ge.tmp rfl),_,rfl,hX,?_⟩;dsimp only;exfalso;omega
 ·
  refine WP.skip ?_;refine pR.norm ?_;refine WP.seq ?_;refine ab ?_;refine RL.p rfl rfl (cI.assign rfl) ?_;refine RL.nil ?_;refine WP.block ?_;refine WP.loop (fun mz ez uz=>∃i:Nat,(mz=rx - i)∧(ez 1= .pointer (some ⟨g1,0,none⟩))∧(ez 3= .int .i64 ((i:Nat)))∧(i≤rx)∧(aF w uz)∧(be uz g1 28 3 (bS [.int .i64 ((rx:Nat)),.int .i64 ((cx:Nat)),sx]))) (rx - 0) ?_ ?_
  · exact ⟨0,rfl,s1_e1,rfl,(by omega),hX,hA1⟩
  rintro m1 e2 w3 ⟨i,hm1,s1_e2,s3_e2,hi,hX1,hA1⟩;refine WP.seq ?_;refine ab ?_;refine RL.p rfl rfl (cI.move s3_e2) ?_;refine RL.p rfl rfl (cI.fieldAddr aq s1_e2) ?_;refine RL.p rfl rfl (cI.load aH rfl (hA1.at_ (i:=2) rfl rfl)) ?_;refine RL.p rfl rfl (cA aB rfl (co.ext hSx hX1)) ?_;refine RL.p rfl rfl (cI.lss rfl rfl) ?_;refine RL.nil ?_;refine ag (((i:Nat):Int)<((rx:Nat):Int)) rfl (fun c24=> ?_) (fun c24=> ?_)
  ·
   refine WP.skip ?_;refine pR.norm ?_;refine WP.seq ?_;refine WP.block ?_;refine aK am 18 [_,_,_,_,_,_,_,_,_,fun v BI=>v= .bool (decide (((cx:Nat):Int)≠((cx:Nat):Int))),_,_,_,_,_,fun v BI=>(¬(((cx:Nat):Int)≠((cx:Nat):Int)))→(v= .bool (decide (True))),_,_] rfl rfl (fun e_ w_ BH BG=>⟨fun _=>aa (cI.fieldAddr aq ((BG 1 rfl s1_e2))),fun BF=>aa (cI.load aH ((BF 0 rfl)) ((be.ext hA1 BH).at_ (i:=2) rfl rfl)),fun _=>aa (cI.move ((BG 3 rfl s3_e2))),fun BF=>ah (aZ (j:=i) aB (BF 1 rfl) (co.ext (co.ext hSx hX1) BH) (BF 2 rfl) (by omega) (by omega)),fun BF=>ah (bn aU rfl (BF 3 rfl)),fun BF=>aa (cl bi rfl (BF 4 rfl)),fun _=>aa (cI.fieldAddr bE ((BG 1 rfl s1_e2))),fun BF=>aa (cI.load bG ((BF 6 rfl)) ((be.ext hA1 BH).at_ (i:=1) rfl rfl)),fun BF=>aa (cI.neq ((BF 5 rfl)) ((BF 7 rfl))),fun BF=>aa (cI.move ((BF 8 rfl))),fun BF=>gF (BF 9 rfl) fun hg=>aa (cI.fieldAddr aq ((BG 1 rfl s1_e2))),fun BF=>gF (BF 9 rfl) fun hg=>aa (cI.load aH ((BF 10 rfl hg)) ((be.ext hA1 BH).at_ (i:=2) rfl rfl)),fun BF=>gF (BF 9 rfl) fun hg=>aa (cI.move ((BG 3 rfl s3_e2))),fun BF=>gF (BF 9 rfl) fun hg=>ah (aZ (j:=i) aB (BF 11 rfl hg) (co.ext (co.ext hSx hX1) BH) (BF 12 rfl hg) (by omega) (by omega)),fun BF=>gF (BF 9 rfl) fun hg=>ah (bn aU rfl (BF 13 rfl hg)),fun BF=>gF (BF 9 rfl) fun hg=>dj.call Aa (aI rfl) (pp _ _ _ _ _ (BF 14 rfl hg)),fun BF=>gF (BF 9 rfl) fun hg=>aa (cI.not (p:=True) (BF 15 rfl hg)),fun BF=>aa (bq (p:=((cx:Nat):Int)≠((cx:Nat):Int)) (q:=¬(True)) (BF 9 rfl) (fun hq=>(BF 16 rfl hq))),trivial⟩) ?_;intro e3 w4 hx3 ho2 hf2;replace hA1:=be.ext hA1 hx3;replace hX1:=aF.trans hX1 hx3;have s1_e3:=ho2 1 rfl s1_e2;have s3_e3:=ho2 3 rfl s3_e2;have s44_e3:e3 44=_:=hf2 17 rfl;refine RL.nil ?_;refine ag ((((cx:Nat):Int)≠((cx:Nat):Int))∨(¬(True))) s44_e3 (fun c44=> ?_) (fun c44=> ?_)
   ·
    refine ab ?_;refine RL.p rfl rfl (cI.assign rfl) ?_;refine RL.nil ?_;refine WP.ret ?_;refine jm.ret ?_;refine pR.ret ?_;refine pR.ret ?_;refine jm.ret ?_;refine pR.ret ?_;refine ⟨.bool (false),Bb.one (ge.tmp rfl),_,rfl,hX1,?_⟩;dsimp only;exact c44.elim (fun h=>absurd rfl h) (fun h=>absurd trivial h)
   ·
    refine WP.skip ?_;refine jm.norm ?_;refine pR.norm ?_;refine WP.region ?_;refine RL.p rfl rfl (cI.move s3_e3) ?_;refine RL.p rfl rfl (cI.add (c:=((i + 1:Nat):Int)) rfl rfl (bU (by omega))) ?_;refine RL.p rfl rfl (cI.assign rfl) ?_;refine RL.nil ?_;refine pR.norm ⟨_,(by omega),i + 1,rfl,s1_e3,rfl,(by omega),hX1,hA1⟩
  ·
   refine WP.exit ?_;refine pR.exit ?_;refine pR.exit ?_;refine jm.same ?_;refine pR.norm ?_;refine ab ?_;refine RL.p rfl rfl (cI.assign rfl) ?_;refine RL.nil ?_;refine WP.ret ?_;refine ⟨.bool (true),Bb.one (ge.tmp rfl),_,rfl,hX1,?_⟩
   rfl
set_option maxRecDepth 10000 in
theorem jv (w:World) (x:Value) (nx:Nat) (zx:Nat→Int) (btx:Nat) (y:Value) (ny:Nat) (zy:Nat→Int) (bty:Nat) (hx:bO w x nx zx btx) (hy:bO w y ny zy bty):Calls Tryz.prog 24 #[x,y] w (ci w fun v w'=>v= .bool (decide (aG nx ny zx zy))):=by
 have hLIM:br=562949953421312:=rfl;have hlimx:=hx.lim;have hlimy:=hy.lim;refine ak (N:=27) (rs:= #[.tmp 4]) Tryz.func24 rfl rfl rfl (Nat.le_of_ble_eq_true rfl) ?_;have hX:aF w w:=aF.refl w;refine ab ?_;refine RL.p rfl rfl (cI.assign rfl) ?_;refine RL.nil ?_;refine WP.seq ?_;refine ab ?_;refine RL.p rfl rfl (cI.move rfl) ?_;refine RL.p rfl rfl (cl dk rfl (bO.ext hx hX)) ?_;refine RL.p rfl rfl (cI.move rfl) ?_;refine RL.p rfl rfl (cl dk rfl (bO.ext hy hX)) ?_;refine RL.p rfl rfl (cI.neq rfl rfl) ?_;refine RL.nil ?_;refine ag (((nx:Nat):Int)≠((ny:Nat):Int)) rfl (fun c10=> ?_) (fun c10=> ?_)
 ·
  refine ab ?_;refine RL.p rfl rfl (cI.assign rfl) ?_;refine RL.nil ?_;refine WP.ret ?_;refine pR.ret ?_;refine ⟨.bool (false),Bb.one (ge.tmp rfl),_,rfl,hX,?_⟩;dsimp only;rw [oe (by omega)]
 ·
  refine WP.skip ?_;refine pR.norm ?_;refine WP.seq ?_;refine ab ?_;refine RL.p rfl rfl (cI.assign rfl) ?_;refine RL.nil ?_;refine WP.block ?_;refine WP.loop (fun mz ez uz=>∃i:Nat,(mz=nx - i)∧(ez 0=x)∧(ez 1=y)∧(ez 5= .int .i64 ((i:Nat)))∧(i≤nx)∧(∀j,j<i→zx j=zy j)∧(aF w uz)) (nx - 0) ?_ ?_
  · exact ⟨0,rfl,rfl,rfl,rfl,(by omega),(fun j hj=>by omega),hX⟩
  rintro m1 e1 w1 ⟨i,hm1,s0_e1,s1_e1,s5_e1,hi,heq,hX1⟩;refine WP.seq ?_;refine ab ?_;refine RL.p rfl rfl (cI.move s5_e1) ?_;refine RL.p rfl rfl (cI.move s0_e1) ?_;refine RL.p rfl rfl (cl dk rfl (bO.ext hx hX1)) ?_;refine RL.p rfl rfl (cI.lss rfl rfl) ?_;refine RL.nil ?_;refine ag (((i:Nat):Int)<((nx:Nat):Int)) rfl (fun c14=> ?_) (fun c14=> ?_)
  ·
   refine WP.skip ?_;refine pR.norm ?_;refine WP.seq ?_;refine WP.block ?_;refine aK am 10 [_,_,_,_,_,_,_,_,fun v BI=>v= .bool (decide ((zx i:Int)=(zy i:Int))),_] rfl rfl (fun e_ w_ BH BG=>⟨fun _=>aa (cI.move ((BG 0 rfl s0_e1))),fun _=>aa (cI.move ((BG 5 rfl s5_e1))),fun BF=>ah (bk (j:=i) dk (BF 0 rfl) (bO.ext (bO.ext hx hX1) BH) (BF 1 rfl) (by omega) (by omega)),fun BF=>ah (bo ao rfl (BF 2 rfl)),fun _=>aa (cI.move ((BG 1 rfl s1_e1))),fun _=>aa (cI.move ((BG 5 rfl s5_e1))),fun BF=>ah (bk (j:=i) dk (BF 4 rfl) (bO.ext (bO.ext hy hX1) BH) (BF 5 rfl) (by omega) (by omega)),fun BF=>ah (bo ao rfl (BF 6 rfl)),fun BF=>dj.call Az (ax rfl rfl) (yP _ _ _ _ _ _ _ ((BF 3 rfl)) ((BF 7 rfl))),fun BF=>aa (cI.not (p:=(zx i:Int)=(zy i:Int)) (BF 8 rfl)),trivial⟩) ?_;intro e2 w2 hx1 ho1 hf1;replace hX1:=aF.trans hX1 hx1;have s0_e2:=ho1 0 rfl s0_e1;have s1_e2:=ho1 1 rfl s1_e1;have s5_e2:=ho1 5 rfl s5_e1;have s26_e2:e2 26=_:=hf1 9 rfl;refine RL.nil ?_;refine ag (¬((zx i:Int)=(zy i:Int))) s26_e2 (fun c26=> ?_) (fun c26=> ?_)
   ·
    refine ab ?_;refine RL.p rfl rfl (cI.assign rfl) ?_;refine RL.nil ?_;refine WP.ret ?_;refine jm.ret ?_;refine pR.ret ?_;refine pR.ret ?_;refine jm.ret ?_;refine pR.ret ?_;refine ⟨.bool (false),Bb.one (ge.tmp rfl),_,rfl,hX1,?_⟩;dsimp only;rw [og (i:=i) (by omega) c26]
   ·
    refine WP.skip ?_;refine jm.norm ?_;refine pR.norm ?_;refine WP.region ?_;refine RL.p rfl rfl (cI.move s5_e2) ?_;refine RL.p rfl rfl (cI.add (c:=((i + 1:Nat):Int)) rfl rfl (bU (by omega))) ?_;refine RL.p rfl rfl (cI.assign rfl) ?_;refine RL.nil ?_;refine pR.norm ⟨_,(by omega),i + 1,rfl,s0_e2,s1_e2,rfl,(by omega),(eG heq (by omega)),hX1⟩
  ·
   refine WP.exit ?_;refine pR.exit ?_;refine pR.exit ?_;refine jm.same ?_;refine pR.norm ?_;refine ab ?_;refine RL.p rfl rfl (cI.assign rfl) ?_;refine RL.nil ?_;refine WP.ret ?_;refine ⟨.bool (true),Bb.one (ge.tmp rfl),_,rfl,hX1,?_⟩;dsimp only;rw [mi (by omega) (fun j hj=>heq j (by omega))]
set_option maxRecDepth 10000 in
theorem iT (w:World) (x:Value) (rx cx:Nat) (Mx:Nat→Nat→Int) (btx:Nat) (y:Value) (ry cy:Nat) (My:Nat→Nat→Int) (bty:Nat) (hx:cc w x rx cx Mx btx) (hy:cc w y ry cy My bty):Calls Tryz.prog 13 #[x,y] w (ci w fun v w'=>v= .bool (decide (aA rx cx ry cy Mx My))):=by
 have hLIM:br=562949953421312:=rfl;have hmatx:=hx;obtain ⟨sx,rfl,hrx,hcx,hSx⟩:=hx.form;have hmaty:=hy;obtain ⟨sy,rfl,hry,hcy,hSy⟩:=hy.form;refine ak (N:=46) (rs:= #[.tmp 4]) Tryz.func13 rfl rfl rfl (Nat.le_of_ble_eq_true rfl) ?_;have hX:aF w w:=aF.refl w;refine ab ?_;refine RL.x rfl rfl (dj.box [.int .i64 ((rx:Nat)),.int .i64 ((cx:Nat)),sx] rfl rfl) ?_;rintro _ w1 ⟨g1,rfl,hge1,hx1,hA1⟩;replace hX:=aF.trans hX hx1;refine RL.x rfl rfl (dj.box [.int .i64 ((ry:Nat)),.int .i64 ((cy:Nat)),sy] rfl rfl) ?_;rintro _ w2 ⟨g2,rfl,hge2,hx2,hA2⟩;replace hA1:=be.ext hA1 hx2;replace hX:=aF.trans hX hx2;refine RL.p rfl rfl (cI.assign rfl) ?_;refine RL.nil ?_;refine WP.seq ?_;refine aK am 21 [_,_,_,_,_,fun v BI=>v= .bool (decide (((rx:Nat):Int)≠((ry:Nat):Int))),_,_,_,_,_,_,fun v BI=>v= .bool (decide ((((rx:Nat):Int)≠((ry:Nat):Int))∨(((cx:Nat):Int)≠((cy:Nat):Int)))),_,_,_,_,_,_,_,_] rfl rfl (fun e_ w_ BH BG=>⟨fun _=>aa (cI.fieldAddr bg ((BG 2 rfl rfl))),fun BF=>aa (cI.load bG ((BF 0 rfl)) ((be.ext hA1 BH).at_ (i:=0) rfl rfl)),fun _=>aa (cI.fieldAddr bg ((BG 3 rfl rfl))),fun BF=>aa (cI.load bG ((BF 2 rfl)) ((be.ext hA2 BH).at_ (i:=0) rfl rfl)),fun BF=>aa (cI.neq ((BF 1 rfl)) ((BF 3 rfl))),fun BF=>aa (cI.move ((BF 4 rfl))),fun BF=>gF (BF 5 rfl) fun hg=>aa (cI.fieldAddr bE ((BG 2 rfl rfl))),fun BF=>gF (BF 5 rfl) fun hg=>aa (cI.load bG ((BF 6 rfl hg)) ((be.ext hA1 BH).at_ (i:=1) rfl rfl)),fun BF=>gF (BF 5 rfl) fun hg=>aa (cI.fieldAddr bE ((BG 3 rfl rfl))),fun BF=>gF (BF 5 rfl) fun hg=>aa (cI.load bG ((BF 8 rfl hg)) ((be.ext hA2 BH).at_ (i:=1) rfl rfl)),fun BF=>gF (BF 5 rfl) fun hg=>aa (cI.neq ((BF 7 rfl hg)) ((BF 9 rfl hg))),fun BF=>aa (bq (p:=((rx:Nat):Int)≠((ry:Nat):Int)) (q:=((cx:Nat):Int)≠((cy:Nat):Int)) (BF 5 rfl) (fun hq=>(BF 10 rfl hq))),fun BF=>aa (cI.move ((BF 11 rfl))),fun BF=>gF (BF 12 rfl) fun hg=>aa (cI.fieldAddr aq ((BG 2 rfl rfl))),fun BF=>gF (BF 12 rfl) fun hg=>aa (cI.load aH ((BF 13 rfl hg)) ((be.ext hA1 BH).at_ (i:=2) rfl rfl)),fun BF=>gF (BF 12 rfl) fun hg=>aa (cA aB (BF 14 rfl hg) (co.ext (co.ext hSx hX) BH)),fun BF=>gF (BF 12 rfl) fun hg=>aa (cI.fieldAddr aq ((BG 3 rfl rfl))),fun BF=>gF (BF 12 rfl) fun hg=>aa (cI.load aH ((BF 16 rfl hg)) ((be.ext hA2 BH).at_ (i:=2) rfl rfl)),fun BF=>gF (BF 12 rfl) fun hg=>aa (cA aB (BF 17 rfl hg) (co.ext (co.ext hSy hX) BH)),fun BF=>gF (BF 12 rfl) fun hg=>aa (cI.neq ((BF 15 rfl hg)) ((BF 18 rfl hg))),fun BF=>aa (bq (p:=(((rx:Nat):Int)≠((ry:Nat):Int))∨(((cx:Nat):Int)≠((cy:Nat):Int))) (q:=((rx:Nat):Int)≠((ry:Nat):Int)) (BF 12 rfl) (fun hq=>(BF 19 rfl hq))),trivial⟩) ?_;intro e1 w3 hx3 ho1 hf1;replace hA1:=be.ext hA1 hx3;replace hA2:=be.ext hA2 hx3;replace hX:=aF.trans hX hx3;have s2_e1:e1 2=_:=ho1 2 rfl rfl;have s3_e1:e1 3=_:=ho1 3 rfl rfl;have s26_e1:e1 26=_:=hf1 20 rfl;refine RL.nil ?_;refine ag (((((rx:Nat):Int)≠((ry:Nat):Int))∨(((cx:Nat):Int)≠((cy:Nat):Int)))∨(((rx:Nat):Int)≠((ry:Nat):Int))) s26_e1 (fun c26=> ?_) (fun c26=> ?_)
 ·
  refine ab ?_;refine RL.p rfl rfl (cI.assign rfl) ?_;refine RL.nil ?_;refine WP.ret ?_;refine pR.ret ?_;refine ⟨.bool (false),Bb.one (ge.tmp rfl),_,rfl,hX,?_⟩;dsimp only;rw [uf (by omega)]
 ·
  refine WP.skip ?_;refine pR.norm ?_;refine WP.seq ?_;refine ab ?_;refine RL.p rfl rfl (cI.assign rfl) ?_;refine RL.nil ?_;refine WP.block ?_;refine WP.loop (fun mz ez uz=>∃i:Nat,(mz=rx - i)∧(ez 2= .pointer (some ⟨g1,0,none⟩))∧(ez 3= .pointer (some ⟨g2,0,none⟩))∧(ez 5= .int .i64 ((i:Nat)))∧(i≤rx)∧(∀j,j<i→aG cx cy (Mx j) (My j))∧(aF w uz)∧(be uz g1 28 3 (bS [.int .i64 ((rx:Nat)),.int .i64 ((cx:Nat)),sx]))∧(be uz g2 28 3 (bS [.int .i64 ((ry:Nat)),.int .i64 ((cy:Nat)),sy]))) (rx - 0) ?_ ?_
  · exact ⟨0,rfl,s2_e1,s3_e1,rfl,(by omega),(fun j hj=>by omega),hX,hA1,hA2⟩
  rintro m1 e2 w4 ⟨i,hm1,s2_e2,s3_e2,s5_e2,hi,heq,hX1,hA1,hA2⟩;refine WP.seq ?_;refine ab ?_;refine RL.p rfl rfl (cI.move s5_e2) ?_;refine RL.p rfl rfl (cI.fieldAddr aq s2_e2) ?_;refine RL.p rfl rfl (cI.load aH rfl (hA1.at_ (i:=2) rfl rfl)) ?_;refine RL.p rfl rfl (cA aB rfl (co.ext hSx hX1)) ?_;refine RL.p rfl rfl (cI.lss rfl rfl) ?_;refine RL.nil ?_;refine ag (((i:Nat):Int)<((rx:Nat):Int)) rfl (fun c31=> ?_) (fun c31=> ?_)
  ·
   refine WP.skip ?_;refine pR.norm ?_;refine WP.seq ?_;refine WP.block ?_;refine aK am 12 [_,_,_,_,_,_,_,_,_,_,fun v BI=>v= .bool (decide (aG cx cy (Mx i) (My i))),_] rfl rfl (fun e_ w_ BH BG=>⟨fun _=>aa (cI.fieldAddr aq ((BG 2 rfl s2_e2))),fun BF=>aa (cI.load aH ((BF 0 rfl)) ((be.ext hA1 BH).at_ (i:=2) rfl rfl)),fun _=>aa (cI.move ((BG 5 rfl s5_e2))),fun BF=>ah (aZ (j:=i) aB (BF 1 rfl) (co.ext (co.ext hSx hX1) BH) (BF 2 rfl) (by omega) (by omega)),fun BF=>ah (bn aU rfl (BF 3 rfl)),fun _=>aa (cI.fieldAddr aq ((BG 3 rfl s3_e2))),fun BF=>aa (cI.load aH ((BF 5 rfl)) ((be.ext hA2 BH).at_ (i:=2) rfl rfl)),fun _=>aa (cI.move ((BG 5 rfl s5_e2))),fun BF=>ah (aZ (j:=i) aB (BF 6 rfl) (co.ext (co.ext hSy hX1) BH) (BF 7 rfl) (by omega) (by omega)),fun BF=>ah (bn aU rfl (BF 8 rfl)),fun BF=>dj.call tf (ax rfl rfl) (jv _ _ _ _ _ _ _ _ _ (BF 4 rfl) (BF 9 rfl)),fun BF=>aa (cI.not (p:=aG cx cy (Mx i) (My i)) (BF 10 rfl)),trivial⟩) ?_;intro e3 w5 hx4 ho2 hf2;replace hA1:=be.ext hA1 hx4;replace hA2:=be.ext hA2 hx4;replace hX1:=aF.trans hX1 hx4;have s2_e3:=ho2 2 rfl s2_e2;have s3_e3:=ho2 3 rfl s3_e2;have s5_e3:=ho2 5 rfl s5_e2;have s45_e3:e3 45=_:=hf2 11 rfl;refine RL.nil ?_;refine ag (¬(aG cx cy (Mx i) (My i))) s45_e3 (fun c45=> ?_) (fun c45=> ?_)
   ·
    refine ab ?_;refine RL.p rfl rfl (cI.assign rfl) ?_;refine RL.nil ?_;refine WP.ret ?_;refine jm.ret ?_;refine pR.ret ?_;refine pR.ret ?_;refine jm.ret ?_;refine pR.ret ?_;refine ⟨.bool (false),Bb.one (ge.tmp rfl),_,rfl,hX1,?_⟩;dsimp only;rw [ug (i:=i) (by omega) c45]
   ·
    refine WP.skip ?_;refine jm.norm ?_;refine pR.norm ?_;refine WP.region ?_;refine RL.p rfl rfl (cI.move s5_e3) ?_;refine RL.p rfl rfl (cI.add (c:=((i + 1:Nat):Int)) rfl rfl (bU (by omega))) ?_;refine RL.p rfl rfl (cI.assign rfl) ?_;refine RL.nil ?_;refine pR.norm ⟨_,(by omega),i + 1,rfl,s2_e3,s3_e3,rfl,(by omega),(eG heq (Decidable.of_not_not c45)),hX1,hA1,hA2⟩
  ·
   refine WP.exit ?_;refine pR.exit ?_;refine pR.exit ?_;refine jm.same ?_;refine pR.norm ?_;refine ab ?_;refine RL.p rfl rfl (cI.assign rfl) ?_;refine RL.nil ?_;refine WP.ret ?_;refine ⟨.bool (true),Bb.one (ge.tmp rfl),_,rfl,hX1,?_⟩;dsimp only;rw [ss (by omega) (fun j hj=>heq j (by omega))]
set_option maxRecDepth 10000 in
theorem qy (w:World) (x:Value) (rx cx:Nat) (Mx:Nat→Nat→Int) (btx:Nat) (r:Nat) (c:Nat) (hx:cc w x rx cx Mx btx):Calls Tryz.prog 45 #[x,.int .i64 (r:Nat),.int .i64 (c:Nat)] w (ci w fun v w'=>v= .bool (decide ((((rx:Nat):Int)=((r:Nat):Int)∧((cx:Nat):Int)=((c:Nat):Int))∧True))):=by
 have hLIM:br=562949953421312:=rfl;have hmatx:=hx;obtain ⟨sx,rfl,hrx,hcx,hSx⟩:=hx.form;refine ak (N:=21) (rs:= #[.tmp 6]) Tryz.func45 rfl rfl rfl (Nat.le_of_ble_eq_true rfl) ?_;have hX:aF w w:=aF.refl w;refine ab ?_;refine RL.x rfl rfl (dj.box [.int .i64 ((rx:Nat)),.int .i64 ((cx:Nat)),sx] rfl rfl) ?_;rintro _ w1 ⟨g1,rfl,hge1,hx1,hA1⟩;replace hX:=aF.trans hX hx1;refine RL.p rfl rfl (cI.assign rfl) ?_;refine RL.nil ?_;refine aK am 14 [_,_,_,_,fun v BI=>v= .bool (decide (((rx:Nat):Int)=((r:Nat):Int))),_,_,_,_,_,fun v BI=>v= .bool (decide ((((rx:Nat):Int)=((r:Nat):Int))∧(((cx:Nat):Int)=((c:Nat):Int)))),_,fun v BI=>((((rx:Nat):Int)=((r:Nat):Int))∧(((cx:Nat):Int)=((c:Nat):Int)))→(v= .bool (decide (True))),_] rfl rfl (fun e_ w_ BH BG=>⟨fun _=>aa (cI.fieldAddr bg ((BG 3 rfl rfl))),fun BF=>aa (cI.load bG ((BF 0 rfl)) ((be.ext hA1 BH).at_ (i:=0) rfl rfl)),fun _=>aa (cI.move ((BG 1 rfl rfl))),fun BF=>aa (cI.eql ((BF 1 rfl)) ((BF 2 rfl))),fun BF=>aa (cI.move ((BF 3 rfl))),fun BF=>gT (BF 4 rfl) fun hg=>aa (cI.fieldAddr bE ((BG 3 rfl rfl))),fun BF=>gT (BF 4 rfl) fun hg=>aa (cI.load bG ((BF 5 rfl hg)) ((be.ext hA1 BH).at_ (i:=1) rfl rfl)),fun BF=>gT (BF 4 rfl) fun hg=>aa (cI.move ((BG 2 rfl rfl))),fun BF=>gT (BF 4 rfl) fun hg=>aa (cI.eql ((BF 6 rfl hg)) ((BF 7 rfl hg))),fun BF=>aa (ay (p:=((rx:Nat):Int)=((r:Nat):Int)) (q:=((cx:Nat):Int)=((c:Nat):Int)) (BF 4 rfl) (fun hq=>(BF 8 rfl hq))),fun BF=>aa (cI.move ((BF 9 rfl))),fun BF=>gT (BF 10 rfl) fun hg=>aa (af [.int .i64 ((rx:Nat)),.int .i64 ((cx:Nat)),sx] aR ((BG 3 rfl rfl)) ((be.ext hA1 BH).cells 0 _ rfl rfl)),fun BF=>gT (BF 10 rfl) fun hg=>dj.call ta (aI ((BF 11 rfl hg))) (lm _ _ _ _ _ _ (cc.mk (co.ext (co.ext hSx hX) BH) (by omega) (by omega))),fun BF=>aa (ay (p:=(((rx:Nat):Int)=((r:Nat):Int))∧(((cx:Nat):Int)=((c:Nat):Int))) (q:=True) (BF 10 rfl) (fun hq=>(BF 12 rfl hq))),trivial⟩) ?_;intro e1 w2 hx2 ho1 hf1;replace hX:=aF.trans hX hx2;have s20_e1:e1 20=_:=hf1 13 rfl;refine RL.p rfl rfl (cI.assign s20_e1) ?_;refine RL.nil ?_;refine WP.ret ?_;refine ⟨.bool (decide (((((rx:Nat):Int)=((r:Nat):Int))∧(((cx:Nat):Int)=((c:Nat):Int)))∧(True))),Bb.one (ge.tmp rfl),_,rfl,hX,?_⟩
 rfl
end Go.TL
namespace Go.TL
open Go.RowKit Go.Proofs
set_option linter.unusedVariables false
set_option linter.unusedSimpArgs false
set_option maxRecDepth 10000 in
theorem mW (w:World) (r:Nat) (c:Nat) (l:Value) (n:Nat) (f:Nat→Int) (b:Nat) (hr:r≤16) (hc:c≤16) (hl:eE .i64 2 w l n f) (hb:b + 1≤br) (hfr:∀i,i<n→ -9223372036854775808≤f i∧f i<9223372036854775808) (hfb:∀i,i<n→(f i).natAbs<2^b):Calls Tryz.prog 36 #[.int .i64 (r:Nat),.int .i64 (c:Nat),l] w (ci w fun v w'=>cH w' v w.heap.size r c (fr f n c) b):=by
 have hLIM:br=562949953421312:=rfl;have hln:n<9223372036854775808:=by obtain ⟨_,_,_,h2,h3,_⟩:=hl;omega
 refine ak (N:=50) (rs:= #[.cell 6 28]) Tryz.func36 rfl rfl rfl (Nat.le_of_ble_eq_true rfl) ?_;have hX:aF w w:=aF.refl w;refine ab ?_;refine RL.x rfl rfl (dj.alloc [.int .i64 (0),.int .i64 (0),.slice (none) (0) (0)] cf rfl) ?_;rintro _ w1 ⟨g1,rfl,hge1,hx1,hA1⟩;have hbs1:w.heap.size≤g1:=Nat.le_trans hX.size hge1;replace hX:=aF.trans hX hx1;refine RL.nil ?_;refine ab ?_;refine RL.p rfl rfl (cI.move rfl) ?_;refine RL.p rfl rfl (cI.move rfl) ?_;have hBw1:w.heap.size≤w1.heap.size:=hX.size;refine RL.x rfl rfl (dj.call nV (ax rfl rfl) (om _ r c b (by omega) (by omega) (by omega))) ?_;rintro v1 w2 ⟨hx2,q1⟩;replace hA1:=be.ext hA1 hx2;replace hX:=aF.trans hX hx2;refine RL.x rfl rfl (dj.alloc [.int .i64 (0),.int .i64 (0),.slice (none) (0) (0)] cf rfl) ?_;rintro _ w3 ⟨g2,rfl,hge2,hx3,hA2⟩;have ne1:g1≠g2:=Nat.ne_of_lt (Nat.lt_of_lt_of_le hA1.lt hge2);have hbs2:w.heap.size≤g2:=Nat.le_trans hX.size hge2;replace hA1:=be.ext hA1 hx3;replace q1:=cH.ext q1 hx3;replace hX:=aF.trans hX hx3;obtain ⟨gh1,kh1,ρ1,hq1,hM1⟩:=q1;have hd1:=cD.dlim hM1;have hd2:=cD.clim hM1;refine RL.x rfl rfl (dj.store [.int .i64 ((r:Nat)),.int .i64 ((c:Nat)),.slice (some ⟨gh1,0,none⟩) (r) (kh1)] cL rfl hq1 rfl hA2 (Nat.le_of_ble_eq_true rfl) (cM rfl rfl rfl)) ?_;rintro _ w4 ⟨hk1,hnew⟩;replace hM1:=aE hM1 hk1 hA2 (by decide);replace hA1:=hA1.keep hk1 ne1;replace hX:=hX.step hk1 (fun b e=>by subst e;exact hbs2);replace hA2:=hnew.lit [.int .i64 ((r:Nat)),.int .i64 ((c:Nat)),.slice (some ⟨gh1,0,none⟩) (r) (kh1)] rfl;clear hnew;refine RL.nil ?_;refine WP.seq ?_;refine ab ?_;refine RL.p rfl rfl (cI.assign rfl) ?_;refine RL.nil ?_;refine WP.block ?_;refine WP.loop (fun mz ez uz=>∃i:Nat,(mz=r - i)∧(ez 0= .int .i64 ((r:Nat)))∧(ez 1= .int .i64 ((c:Nat)))∧(ez 2=l)∧(ez 6= .pointer (some ⟨g1,0,none⟩))∧(ez 7= .pointer (some ⟨g2,0,none⟩))∧(ez 8= .int .i64 ((i:Nat)))∧(i≤r)∧(aF w uz)∧(be uz g1 28 3 (bS [.int .i64 (0),.int .i64 (0),.slice (none) (0) (0)]))∧(be uz g2 28 3 (bS [.int .i64 ((r:Nat)),.int .i64 ((c:Nat)),.slice (some ⟨gh1,0,none⟩) (r) (kh1)]))∧(cD uz w1.heap.size gh1 kh1 r c ρ1 (cR (fr f n c) i 0) b)) (r - 0) ?_ ?_
 · exact ⟨0,rfl,rfl,rfl,rfl,rfl,rfl,rfl,(by omega),hX,hA1,hA2,bA hM1 (gW (fr f n c))⟩
 rintro m1 e1 w5 ⟨i,hm1,s0_e1,s1_e1,s2_e1,s6_e1,s7_e1,s8_e1,hi,hX1,hA1,hA2,hM1⟩;refine WP.seq ?_;refine ab ?_;refine RL.p rfl rfl (cI.move s8_e1) ?_;refine RL.p rfl rfl (cI.move s0_e1) ?_;refine RL.p rfl rfl (cI.lss rfl rfl) ?_;refine RL.nil ?_;refine ag (((i:Nat):Int)<((r:Nat):Int)) rfl (fun c15=> ?_) (fun c15=> ?_)
 ·
  refine WP.skip ?_;refine pR.norm ?_;refine WP.seq ?_;refine WP.block ?_;refine ab ?_;refine RL.p rfl rfl (cI.assign rfl) ?_;refine RL.nil ?_;refine WP.block ?_;refine WP.loop (fun mz ez uz=>∃j:Nat,(mz=c - j)∧(ez 0= .int .i64 ((r:Nat)))∧(ez 1= .int .i64 ((c:Nat)))∧(ez 2=l)∧(ez 6= .pointer (some ⟨g1,0,none⟩))∧(ez 7= .pointer (some ⟨g2,0,none⟩))∧(ez 8= .int .i64 ((i:Nat)))∧(ez 9= .int .i64 ((j:Nat)))∧(j≤c)∧(aF w uz)∧(be uz g1 28 3 (bS [.int .i64 (0),.int .i64 (0),.slice (none) (0) (0)]))∧(be uz g2 28 3 (bS [.int .i64 ((r:Nat)),.int .i64 ((c:Nat)),.slice (some ⟨gh1,0,none⟩) (r) (kh1)]))∧(cD uz w1.heap.size gh1 kh1 r c ρ1 (cR (fr f n c) i j) b)) (c - 0) ?_ ?_
  · exact ⟨0,rfl,s0_e1,s1_e1,s2_e1,s6_e1,s7_e1,s8_e1,rfl,(by omega),hX1,hA1,hA2,hM1⟩
  rintro m2 e2 w6 ⟨j,hm2,s0_e2,s1_e2,s2_e2,s6_e2,s7_e2,s8_e2,s9_e2,hj,hX2,hA1,hA2,hM1⟩;have hic:i*c≤16*16:=Nat.mul_le_mul (by omega) (by omega);refine WP.seq ?_;refine aK am 13 [_,_,_,fun v BI=>v= .bool (decide (((j:Nat):Int)<((c:Nat):Int))),_,_,_,_,_,_,_,_,_] rfl rfl (fun e_ w_ BH BG=>⟨fun _=>aa (cI.move ((BG 9 rfl s9_e2))),fun _=>aa (cI.move ((BG 1 rfl s1_e2))),fun BF=>aa (cI.lss ((BF 0 rfl)) ((BF 1 rfl))),fun BF=>aa (cI.move ((BF 2 rfl))),fun BF=>gT (BF 3 rfl) fun hg=>aa (cI.move ((BG 8 rfl s8_e2))),fun BF=>gT (BF 3 rfl) fun hg=>aa (cI.move ((BG 1 rfl s1_e2))),fun BF=>gT (BF 3 rfl) fun hg=>aa (cI.mul (c:=((i*c:Nat):Int)) ((BF 4 rfl hg)) ((BF 5 rfl hg)) (bU (by omega))),fun BF=>gT (BF 3 rfl) fun hg=>aa (cI.move ((BG 9 rfl s9_e2))),fun BF=>gT (BF 3 rfl) fun hg=>aa (cI.add (c:=(((i*c) + j:Nat):Int)) ((BF 6 rfl hg)) ((BF 7 rfl hg)) (bU (by omega))),fun BF=>gT (BF 3 rfl) fun hg=>aa (cI.move ((BG 2 rfl s2_e2))),fun BF=>gT (BF 3 rfl) fun hg=>aa (lR gk (BF 9 rfl hg) (eE.ext (eE.ext hl hX2) BH)),fun BF=>gT (BF 3 rfl) fun hg=>aa (cI.lss ((BF 8 rfl hg)) ((BF 10 rfl hg))),fun BF=>aa (ay (p:=((j:Nat):Int)<((c:Nat):Int)) (q:=((((i*c) + j:Nat):Int):Int)<((n:Nat):Int)) (BF 3 rfl) (fun hq=>(BF 11 rfl hq))),trivial⟩) ?_;intro e3 w7 hx4 ho1 hf1;replace hA1:=be.ext hA1 hx4;replace hA2:=be.ext hA2 hx4;replace hM1:=cD.ext hM1 hx4;replace hX2:=aF.trans hX2 hx4;have s0_e3:=ho1 0 rfl s0_e2;have s1_e3:=ho1 1 rfl s1_e2;have s2_e3:=ho1 2 rfl s2_e2;have s6_e3:=ho1 6 rfl s6_e2;have s7_e3:=ho1 7 rfl s7_e2;have s8_e3:=ho1 8 rfl s8_e2;have s9_e3:=ho1 9 rfl s9_e2;have s30_e3:e3 30=_:=hf1 12 rfl;refine RL.nil ?_;refine ag ((((j:Nat):Int)<((c:Nat):Int))∧(((((i*c) + j:Nat):Int):Int)<((n:Nat):Int))) s30_e3 (fun c30=> ?_) (fun c30=> ?_)
  ·
   refine WP.skip ?_;refine pR.norm ?_;refine WP.seq ?_;refine WP.block ?_;refine WP.ds am 16 [_,_,_,_,_,_,_,_,_,_,_,_,_,_,_,_] rfl rfl (fun e_ w_ BH BG=>⟨fun _=>aa (cI.fieldAddr aq ((BG 7 rfl s7_e3))),fun BF=>aa (cI.load aH ((BF 0 rfl)) ((be.ext hA2 BH).at_ (i:=2) rfl rfl)),fun _=>aa (cI.move ((BG 8 rfl s8_e3))),fun BF=>aa (cI.index (j:=i) aB ((BF 1 rfl)) ((BF 2 rfl)) rfl (by omega) (by omega)),fun BF=>ah (an (i:=i) aU (BF 3 rfl) (cD.ext hM1 BH) (by omega)),fun _=>aa (cI.move ((BG 9 rfl s9_e3))),fun _=>aa (cI.move ((BG 2 rfl s2_e3))),fun _=>aa (cI.move ((BG 8 rfl s8_e3))),fun _=>aa (cI.move ((BG 1 rfl s1_e3))),fun BF=>aa (cI.mul (c:=((i*c:Nat):Int)) ((BF 7 rfl)) ((BF 8 rfl)) (bU (by omega))),fun _=>aa (cI.move ((BG 9 rfl s9_e3))),fun BF=>aa (cI.add (c:=(((i*c) + j:Nat):Int)) ((BF 9 rfl)) ((BF 10 rfl)) (bU (by omega))),fun BF=>ah (ji (j:=(i*c) + j) gk (BF 6 rfl) (eE.ext (eE.ext hl hX2) BH) (BF 11 rfl) (by omega) (by omega)),fun BF=>aa (kd Bl rfl (BF 12 rfl)),fun BF=>dj.call kV (aI ((BF 13 rfl))) (pq (f ((i*c) + j)) (b) _ (hfr _ (by omega)) (hfb _ (by omega)) (by omega)),fun BF=>aa (av (j:=j) bi (BF 4 rfl) rfl (BF 5 rfl) (by omega) (by omega)),trivial⟩) ?_;intro e4 w8 hx5 ho2 hf2;replace hA1:=be.ext hA1 hx5;replace hA2:=be.ext hA2 hx5;replace hM1:=cD.ext hM1 hx5;replace hX2:=aF.trans hX2 hx5;have s0_e4:=ho2 0 rfl s0_e3;have s1_e4:=ho2 1 rfl s1_e3;have s2_e4:=ho2 2 rfl s2_e3;have s6_e4:=ho2 6 rfl s6_e3;have s7_e4:=ho2 7 rfl s7_e3;have s8_e4:=ho2 8 rfl s8_e3;have s9_e4:=ho2 9 rfl s9_e3;have s47_e4:al w8 (e4 47) (f ((i*c) + j)) b:=hf2 14 rfl;have s48_e4:e4 48=_:=hf2 15 rfl;refine RL.x rfl rfl (bM (i:=i) (j:=j) aN s48_e4 rfl (al.eq s47_e4 (uu (n:=n) (by omega)) (uw hfb _ _ _) (by omega)) hM1 (by omega) (by omega)) ?_;rintro _ w9 ⟨hk2,hN1⟩;have hR1:=cD.row (i:=i) hM1 (by omega);replace hA1:=aT hA1 hk2 hR1 (by decide);replace hA2:=aT hA2 hk2 hR1 (by decide);replace hX2:=hX2.step hk2 (fun b e=>by subst e;exact (Nat.le_trans hBw1 (cD.rowB (i:=i) hM1 (by omega))));replace hM1:=hN1;clear hR1;refine RL.nil ?_;refine jm.norm ?_;refine pR.norm ?_;refine WP.region ?_;refine RL.p rfl rfl (cI.move s9_e4) ?_;refine RL.p rfl rfl (cI.add (c:=((j + 1:Nat):Int)) rfl rfl (bU (by omega))) ?_;refine RL.p rfl rfl (cI.assign rfl) ?_;refine RL.nil ?_;refine pR.norm ⟨_,(by omega),j + 1,rfl,s0_e4,s1_e4,s2_e4,s6_e4,s7_e4,s8_e4,rfl,(by omega),hX2,hA1,hA2,bA hM1 (fI (fr f n c) i j)⟩
  ·
   refine WP.exit ?_;refine pR.exit ?_;refine pR.exit ?_;refine jm.same ?_;refine jm.norm ?_;refine pR.norm ?_;refine WP.region ?_;refine RL.p rfl rfl (cI.move s8_e3) ?_;refine RL.p rfl rfl (cI.add (c:=((i + 1:Nat):Int)) rfl rfl (bU (by omega))) ?_;refine RL.p rfl rfl (cI.assign rfl) ?_;refine RL.nil ?_;refine pR.norm ⟨_,(by omega),i + 1,rfl,s0_e3,s1_e3,s2_e3,s6_e3,s7_e3,rfl,(by omega),hX2,hA1,hA2,cD.congr hM1 fun a c2 ha hc2=>mo (fun e he hec=>by unfold fr;rw [if_neg (by omega)]) hc2⟩
 ·
  refine WP.exit ?_;refine pR.exit ?_;refine pR.exit ?_;refine jm.same ?_;refine pR.norm ?_;refine ab ?_;refine RL.p rfl rfl (af [.int .i64 ((r:Nat)),.int .i64 ((c:Nat)),.slice (some ⟨gh1,0,none⟩) (r) (kh1)] aR s7_e1 (hA2.cells 0 _ rfl rfl)) ?_;refine RL.x rfl rfl (dj.store [.int .i64 ((r:Nat)),.int .i64 ((c:Nat)),.slice (some ⟨gh1,0,none⟩) (r) (kh1)] cL s6_e1 rfl rfl hA1 (Nat.le_of_ble_eq_true rfl) (cM rfl rfl rfl)) ?_;rintro _ w10 ⟨hk3,hnew⟩;replace hM1:=aE hM1 hk3 hA1 (by decide);replace hX1:=hX1.step hk3 (fun b e=>by subst e;exact hbs1);replace hA1:=hnew.lit [.int .i64 ((r:Nat)),.int .i64 ((c:Nat)),.slice (some ⟨gh1,0,none⟩) (r) (kh1)] rfl;clear hnew;refine RL.nil ?_;refine WP.ret ?_;refine ⟨.agg #[.int .i64 ((r:Nat)),.int .i64 ((c:Nat)),.slice (some ⟨gh1,0,none⟩) (r) (kh1)],Bb.one (aj [.int .i64 ((r:Nat)),.int .i64 ((c:Nat)),.slice (some ⟨gh1,0,none⟩) (r) (kh1)] aR s6_e1 (hA1.cells 0 _ rfl rfl)),_,rfl,hX1,?_⟩;dsimp only;exact ⟨_,_,_,rfl,cD.congr (cD.low hM1 hBw1) fun a c2 ha hc2=>by rw [show i=r by omega];exact fg _ c2 ha⟩
end Go.TL
namespace Go.TL
set_option linter.unusedVariables false
def rowP (M F:Nat→Nat→Int) (i n:Nat):Nat→Nat→Int:=fun a c=>if a=i∧c<n then F a c else M a c
theorem gP (M F:Nat→Nat→Int) (i:Nat):M=rowP M F i 0:=by funext a c;unfold rowP;rw [if_neg (by omega)]
theorem gQ (M F:Nat→Nat→Int) (i n:Nat):rowP M F i n i n=M i n:=by unfold rowP;rw [if_neg (by omega)]
theorem lj (M F:Nat→Nat→Int) {i a:Nat} (n c:Nat) (h:i≠a):rowP M F i n a c=M a c:=by unfold rowP;rw [if_neg (by omega)]
theorem gS {M F:Nat→Nat→Int} {i n:Nat} {q:Int} (h:q=F i n):eu (rowP M F i n) i n q=rowP M F i (n + 1):=by
  funext a c;unfold eu rowP
  by_cases e:a=i∧c=n
  · rw [if_pos e,if_pos (by omega),h,e.1,e.2]
  · rw [if_neg e]
    by_cases e2:a=i∧c<n
    · rw [if_pos e2,if_pos (by omega)]
    · rw [if_neg e2,if_neg (by omega)]
theorem iS {M F:Nat→Nat→Int} {i n:Nat} (h:∀a c,a≠i→F a c=M a c) {a c:Nat} (hc:c<n):rowP M F i n a c=F a c:=by
  unfold rowP
  by_cases e:a=i
  · rw [if_pos ⟨e,hc⟩]
  · rw [if_neg (by omega),h a c e]
theorem ou {M:Nat→Nat→Int} {i j:Nat} {k:Int} (a c:Nat) (h:a≠i):cX M i j k a c=M a c:=by unfold cX;rw [if_neg h]
theorem ot {M:Nat→Nat→Int} {i:Nat} (a c:Nat) (h:a≠i):dq M i a c=M a c:=by unfold dq;rw [if_neg h]
theorem qC {M:Nat→Nat→Int} {i j:Nat} {k:Int} (c:Nat):M i c + k*M j c=cX M i j k i c:=by unfold cX;rw [if_pos rfl]
theorem qB {M:Nat→Nat→Int} {i:Nat} (c:Nat): -(M i c)=dq M i i c:=by unfold dq;rw [if_pos rfl]
theorem Be {z:Int}:z.sign≠0↔iI z:=by unfold iI;simp [Int.sign_eq_zero_iff_zero]
theorem pw {z:Int} {b:Nat} (h:z.natAbs<2^b):(-z).natAbs<2^b:=by rw [Int.natAbs_neg];exact h
end Go.TL
