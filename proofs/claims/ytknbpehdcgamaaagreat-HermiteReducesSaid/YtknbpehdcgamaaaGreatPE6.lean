/-
  Lemmas towards the theorem of this claim (part 6).
  Conditions: those that each theorem names.
-/
import Derived.OrdersHeld
import Derived.Test.YtknbpehdcgamaaaGreatPE5
namespace Go.TL
set_option linter.unusedVariables false
def ml (r top q:Nat) (M:Nat→Nat→Int):Prop:=∃P:Nat→Nat,(∀i,i<top→P i<q∧0<M i (P i)∧(∀j,j<P i→M i j=0)∧∀k,k<i→P k<P i∧0≤M k (P i)∧M k (P i)<M i (P i))∧
  ∀a,top≤a→a<r→∀j,j<q→M a j=0
def eB (e0:Nat):Nat→Nat
  | 0=>e0
  | t + 1=>6*eB e0 t + 2
def gB (e0:Nat):Nat→Nat
  | 0=>0
  | t + 1=>gB e0 t + 10*eB e0 t + 6
structure FI (r c e0:Nat) (M0:Nat→Nat→Int) (top q:Nat) (S:WS):Prop where
  lin:Lin r c M0 S
  ech:ml r top q S.M
  bm:∀i j,i<r→j<c→(S.M i j).natAbs≤2^eB e0 top
  bu:∀i j,i<r→j<r→(S.U i j).natAbs≤2^eB e0 top
  bv:∀i j,i<r→j<r→(S.V i j).natAbs≤2^gB e0 top
structure JI (r c e0:Nat) (M0:Nat→Nat→Int) (top q m:Nat) (S:WS):Prop where
  lin:Lin r c M0 S
  ech:ml r top q S.M
  above:∀i,i<top→(S.M i q).natAbs≤2^eB e0 top
  run:∃a b u:Nat,(∀i j,i<r→j<c→(S.M i j).natAbs≤2^eB e0 top*a)∧(∀i j,i<r→j<r→(S.U i j).natAbs≤2^eB e0 top*a)∧(∀i j,i<r→j<r→(S.V i j).natAbs≤2^gB e0 top*b)∧
    ((a=1∧b=1∧m=2^eB e0 top + 2∧∀i,top≤i→i<r→(S.M i q).natAbs≤2^eB e0 top)∨
     (0<m∧S.M top q=(m:Int)∧m≤2^eB e0 top∧(∀i,top<i→i<r→0≤S.M i q∧S.M i q<(m:Int)∧S.M i q≤(u:Int))∧1≤u∧
      a*(m*m)*u≤(1 + 2^eB e0 top)*(2^eB e0 top)^3∧b*m^7*u≤(1 + 7*2^eB e0 top)*(2^eB e0 top)^8))
section
variable {r c e0:Nat} {M0:Nat→Nat→Int} {top q m:Nat} {S:WS}
theorem kO (e0:Nat):∀{s t:Nat},s≤t→eB e0 s≤eB e0 t
  | s,0,h=>by rw [show s=0 by omega];exact Nat.le_refl _
  | s,t + 1,h=>by
    by_cases e:s=t + 1
    · rw [e];exact Nat.le_refl _
    · have:=kO e0 (s:=s) (t:=t) (by omega);simp only [eB];omega
theorem rm (e0:Nat):∀{s t:Nat},s≤t→gB e0 s≤gB e0 t
  | s,0,h=>by rw [show s=0 by omega];exact Nat.le_refl _
  | s,t + 1,h=>by
    by_cases e:s=t + 1
    · rw [e];exact Nat.le_refl _
    · have:=rm e0 (s:=s) (t:=t) (by omega);simp only [gB];omega
theorem qU (e:Nat):2^e*((1 + 2^e)*(2^e)^3)*(1 + 2^e)≤2^(6*e + 2):=by
  have h0:0<2^e:=Nat.two_pow_pos e;have h1:1 + 2^e≤2*2^e:=by omega
  have h2:2^(6*e + 2)=2^e*(2*2^e*(2^e)^3)*(2*2^e):=by
    have:2^(6*e + 2)=(2^e)^6*4:=by rw [Nat.pow_add,Nat.mul_comm 6 e,Nat.pow_mul]
    rw [this]
    generalize 2^e=x
    simp only [Nat.pow_succ,Nat.pow_zero,Nat.one_mul];rw [show (4:Nat)=2*2 by decide]
    ac_rfl
  rw [h2];exact Nat.mul_le_mul (Nat.mul_le_mul_left _ (Nat.mul_le_mul_right _ h1)) h1
theorem yc (g e:Nat):2^g*((1 + 7*2^e)*(2^e)^8)*(1 + 7*2^e)≤2^(g + 10*e + 6):=by
  have h0:0<2^e:=Nat.two_pow_pos e;have h1:1 + 7*2^e≤8*2^e:=by omega
  have h2:2^(g + 10*e + 6)=2^g*(8*2^e*(2^e)^8)*(8*2^e):=by
    have:2^(g + 10*e + 6)=2^g*(2^e)^10*64:=by rw [Nat.pow_add,Nat.pow_add,Nat.mul_comm 10 e,Nat.pow_mul]
    rw [this]
    generalize 2^e=x
    simp only [Nat.pow_succ,Nat.pow_zero,Nat.one_mul];rw [show (64:Nat)=8*8 by decide]
    ac_rfl
  rw [h2];exact Nat.mul_le_mul (Nat.mul_le_mul_left _ (Nat.mul_le_mul_right _ h1)) h1
theorem FI.start (hM:∀i j,i<r→j<c→(M0 i j).natAbs≤2^e0):FI r c e0 M0 0 0 ⟨M0,dC,dC⟩:=by
  have hid:∀(e i j:Nat),(dC i j).natAbs≤2^e:=fun e i j=>by
    have:=Nat.two_pow_pos e
    unfold dC;split<;>simp<;>omega
  exact ⟨Lin.start M0,⟨fun _=>0,fun i hi=>by omega,fun a _ _ j hj=>by omega⟩,hM,fun i j _ _=>hid _ i j,fun i j _ _=>hid _ i j⟩
theorem JI.of (h:FI r c e0 M0 top q S) (ht:top<r) (hq:q<c):JI r c e0 M0 top q (2^eB e0 top + 2) S:=
  ⟨h.lin,h.ech,fun i hi=>h.bm i q (by omega) hq,1,1,0,fun i j hi hj=>by rw [Nat.mul_one];exact h.bm i j hi hj,fun i j hi hj=>by rw [Nat.mul_one];exact h.bu i j hi hj,fun i j hi hj=>by rw [Nat.mul_one];exact h.bv i j hi hj,.inl ⟨rfl,rfl,rfl,fun i _ hi=>h.bm i q hi hq⟩⟩
theorem ml.sn (h:ml r top q S.M) {p:Nat} (hp:p<r) (hpt:top≤p) (ht:top<r):ml r top q (TL.sn S p top q).M:=by
  obtain ⟨P,h1,h2⟩:=h;have hlow:∀i,i<top→∀j,(TL.sn S p top q).M i j=S.M i j:=fun i hi j=>by
    rw [(sh S p top q i j).1 (by omega),if_neg (by omega)]
  refine ⟨P,fun i hi=> ?_,fun a ha har j hj=> ?_⟩
  · obtain ⟨g1,g2,g3,g4⟩:=h1 i hi
    refine ⟨g1,by rw [hlow i hi];exact g2,fun j hj=>by rw [hlow i hi];exact g3 j hj,fun k hk=> ?_⟩;rw [hlow i hi,hlow k (by omega)];exact g4 k hk
  · by_cases e:a=top
    · subst e
      have:=(sh S p a q a j).2;rw [h2 p hpt hp j hj] at this;omega
    · rw [(sh S p top q a j).1 e];split
      · exact h2 top (Nat.le_refl _) ht j hj
      · exact h2 a ha har j hj
theorem ml.el (h:ml r top q S.M) (ht:top<r) {n:Nat}:ml r top q (TL.el S top q n).M:=by
  obtain ⟨P,h1,h2⟩:=h;have hlow:∀i,i<top→∀j,(TL.el S top q n).M i j=S.M i j:=fun i hi j=>by rw [nF,if_neg (by omega)]
  refine ⟨P,fun i hi=> ?_,fun a ha har j hj=> ?_⟩
  · obtain ⟨g1,g2,g3,g4⟩:=h1 i hi
    refine ⟨g1,by rw [hlow i hi];exact g2,fun j hj=>by rw [hlow i hi];exact g3 j hj,fun k hk=> ?_⟩;rw [hlow i hi,hlow k (by omega)];exact g4 k hk
  · rw [nF,h2 a ha har j hj,h2 top (Nat.le_refl _) ht j hj];simp
theorem lead (hp:0≤(bQ (fun a=>S.M a q) top (r - top)).1) (ht:top<r):top≤(bQ (fun a=>S.M a q) top (r - top)).1.toNat∧(bQ (fun a=>S.M a q) top (r - top)).1.toNat<r∧S.M (bQ (fun a=>S.M a q) top (r - top)).1.toNat q≠0∧
    (∀i,top≤i→i<r→S.M i q≠0→(S.M (bQ (fun a=>S.M a q) top (r - top)).1.toNat q).natAbs≤(S.M i q).natAbs)∧((bQ (fun a=>S.M a q) top (r - top)).2=false→∀i,top≤i→i<r→i≠(bQ (fun a=>S.M a q) top (r - top)).1.toNat→S.M i q=0):=by
  obtain ⟨h1,h2,h3,h4,h5⟩:=fh (x:=fun a=>S.M a q) (top:=top) (n:=r - top) hp;exact ⟨h1,by omega,h3,fun i hi hr hz=>h4 i hi (by omega) hz,fun ho i hi hr hne=>h5 ho i hi (by omega) hne⟩
theorem JI.round (h:JI r c e0 M0 top q m S) (ht:top<r) (hq:q<c) (h8:r≤8) (hp:0≤(bQ (fun a=>S.M a q) top (r - top)).1) (ho:(bQ (fun a=>S.M a q) top (r - top)).2=true):
    ∃m2,m2<m∧JI r c e0 M0 top q m2 (el (sn S (bQ (fun a=>S.M a q) top (r - top)).1.toNat top q) top q (r - top - 1))∧
      ∀n,top + 1 + n<r→(∀i j,i<r→j<c→((el (sn S (bQ (fun a=>S.M a q) top (r - top)).1.toNat top q) top q (n + 1)).M i j).natAbs≤2^eB e0 (top + 1))∧
        (∀i j,i<r→j<r→((el (sn S (bQ (fun a=>S.M a q) top (r - top)).1.toNat top q) top q (n + 1)).U i j).natAbs≤2^eB e0 (top + 1))∧
        ∀i j,i<r→j<r→((el (sn S (bQ (fun a=>S.M a q) top (r - top)).1.toNat top q) top q (n + 1)).V i j).natAbs≤2^gB e0 (top + 1):=by
  obtain ⟨hl1,hl2,hl3,hl4,_⟩:=lead hp ht;obtain ⟨i1,i2,hi12,hi1,hi1r,hi2,hi2r,hz1,hz2⟩:=rc (x:=fun a=>S.M a q) (top:=top) (n:=r - top) ho
  generalize hpe:(bQ (fun a=>S.M a q) top (r - top)).1.toNat=p at*
  have hE0:0<2^eB e0 top:=Nat.two_pow_pos _;obtain ⟨a,b,u,hM,hU,hV,hc⟩:=h.run;have htop:=ju S p top q;obtain ⟨hM2,hU2,hV2⟩:=tM (q:=q) hl2 ht hM hU hV;have hlin:=h.lin.sn q hl2 ht;have hech:=h.ech.sn (q:=q) hl2 hl1 ht;have hcol:∀i,i≠top→(sn S p top q).M i q=if i=p then S.M top q else S.M i q:=fun i hi=>(sh S p top q i q).1 hi
  have hab:∀i,i<top→((sn S p top q).M i q).natAbs≤2^eB e0 top:=fun i hi=>by rw [hcol i (by omega),if_neg (by omega)];exact h.above i hi
  generalize sn S p top q=S2 at*
  generalize hy:(S.M p q).natAbs=y at*
  have hy0:0<y:=by omega
  have key:∃K a' b' u':Nat,(∀i,top<i→i<r→(kq S2 top q i).natAbs≤K)∧y<m∧y≤2^eB e0 top∧(∀i,top<i→i<r→S2.M i q % (y:Int)≤(u':Int))∧1≤u'∧a'=a*(1 + K)∧b'=b*(1 + 7*K)∧
      a'*(y*y)*u'≤(1 + 2^eB e0 top)*(2^eB e0 top)^3∧b'*y^7*u'≤(1 + 7*2^eB e0 top)*(2^eB e0 top)^8:=by
    rcases hc with ⟨ha1,hb1,hm,hcE⟩ | ⟨hm0,hmt,hmE,hoth,hu1,hpa,hpb⟩
    · have hyE:y≤2^eB e0 top:=by rw [←hy];exact hcE p hl1 hl2
      refine ⟨2^eB e0 top,_,_,y,fun i hi hir=> ?_,by omega,hyE,fun i hi hir=> ?_,by omega,rfl,rfl,?_,?_⟩
      · unfold kq
        rw [htop];refine Nat.le_trans (nE (by omega)) ?_;rw [hcol i (by omega)];split
        · exact hcE top (Nat.le_refl _) ht
        · exact hcE i (by omega) hir
      · have:=Int.emod_lt_of_pos (S2.M i q) (show (0:Int)<y by omega);omega
      · subst ha1
        rw [Nat.one_mul,Nat.mul_assoc];refine Nat.mul_le_mul_left _ ?_;have:y*y*y≤2^eB e0 top*2^eB e0 top*2^eB e0 top:=Nat.mul_le_mul (Nat.mul_le_mul hyE hyE) hyE;simp only [Nat.pow_succ,Nat.pow_zero,Nat.one_mul];exact this
      · subst hb1
        rw [Nat.one_mul,Nat.mul_assoc];refine Nat.mul_le_mul_left _ ?_;rw [←Nat.pow_succ];exact Nat.pow_le_pow_left hyE 8
    ·
      have hex:∃i,top<i∧i<r∧S.M i q≠0:=by
        by_cases e:i1=top
        · exact ⟨i2,by omega,by omega,hz2⟩
        · exact ⟨i1,by omega,by omega,hz1⟩
      obtain ⟨i,hi,hir,hiz⟩:=hex;have hio:=hoth i hi hir;have hyi:y≤(S.M i q).natAbs:=hl4 i (by omega) hir hiz;have hym:y<m:=by omega
      have hyu:y≤u:=by omega
      have hpt:p≠top:=by intro e;subst e;omega
      have hrange:∀i,top<i→i<r→0≤S2.M i q∧S2.M i q≤(m:Int)∧(S2.M i q≠0→(y:Int)≤S2.M i q):=fun i hi hir=>by
        rw [hcol i (by omega)];split
        · exact ⟨by omega,by omega,fun _=>by omega⟩
        · have h1:=hoth i hi hir
          exact ⟨h1.1,by omega,fun hz=>by have:=hl4 i (by omega) hir hz;omega⟩
      have hk1:1≤m/y:=Nat.div_pos (by omega) hy0;have hky:m/y*y≤m:=Nat.div_mul_le_self _ _;refine ⟨m/y,_,_,min y (m - y),fun i hi hir=> ?_,hym,by omega,fun i hi hir=> ?_,by omega,rfl,rfl,?_,?_⟩
      · obtain ⟨g1,g2,_⟩:=hrange i hi hir
        unfold kq
        rw [htop,Int.natAbs_neg];have e1:S2.M i q=((S2.M i q).toNat:Int):=by omega
        rw [e1,←Int.natCast_ediv,Int.natAbs_natCast];exact Nat.div_le_div_right (by omega)
      · obtain ⟨g1,g2,g3⟩:=hrange i hi hir
        have h1:=Int.emod_lt_of_pos (S2.M i q) (show (0:Int)<y by omega)
        by_cases hz:S2.M i q=0
        · rw [hz,Int.zero_emod];omega
        · have h2:=g3 hz
          have h3:S2.M i q % (y:Int)≤S2.M i q - y:=by
            have h4:=Int.mul_ediv_add_emod (S2.M i q) (y:Int);have h5:1≤S2.M i q/(y:Int):=by
              rw [Int.le_ediv_iff_mul_le (by omega)];omega
            have h6:(y:Int)*1≤(y:Int)*(S2.M i q/(y:Int)):=Int.mul_le_mul_of_nonneg_left h5 (by omega);omega
          omega
      · have h1:=BJ hk1 hky (Nat.min_le_left y (m - y)) (by have:=Nat.min_le_right y (m - y);omega)
        have h2:a*(1 + m/y)*(y*y)*min y (m - y)=a*((1 + m/y)*y*min y (m - y))*y:=by ac_rfl
        rw [h2];refine Nat.le_trans ?_ hpa;exact Nat.mul_le_mul (Nat.mul_le_mul_left _ h1) hyu
      · have h1:=BI hk1 hky (Nat.min_le_left y (m - y)) (by have:=Nat.min_le_right y (m - y);omega)
        have h2:b*(1 + 7*(m/y))*y^7*min y (m - y)=b*((1 + 7*(m/y))*y^6*min y (m - y))*y:=by
          rw [Nat.pow_succ y 6];ac_rfl
        rw [h2];refine Nat.le_trans ?_ hpb;exact Nat.mul_le_mul (Nat.mul_le_mul_left _ h1) hyu
  obtain ⟨K,a',b',u',hK,hym,hyE,hres,hu',ha',hb',hpa,hpb⟩:=key;have hbd:=fun n (hn:top + n<r)=>Bd (n:=n) ht hn (by omega) hK hM2 hU2 hV2
  have ha1:a'≤(1 + 2^eB e0 top)*(2^eB e0 top)^3:=by
    refine Nat.le_trans ?_ hpa;rw [Nat.mul_assoc];exact Nat.le_mul_of_pos_right _ (Nat.mul_pos (Nat.mul_pos hy0 hy0) hu')
  have hb1:b'≤(1 + 7*2^eB e0 top)*(2^eB e0 top)^8:=by
    refine Nat.le_trans ?_ hpb;rw [Nat.mul_assoc];exact Nat.le_mul_of_pos_right _ (Nat.mul_pos (Nat.pow_pos hy0) hu')
  have hmul:∀E:Nat,E*a*(1 + K)=E*a':=fun E=>by rw [ha',Nat.mul_assoc]
  have hmulb:∀E:Nat,E*b*(1 + 7*K)=E*b':=fun E=>by rw [hb',Nat.mul_assoc]
  have hone:∀x:Nat,x≤x*(1 + 2^eB e0 top):=fun x=>Nat.le_mul_of_pos_right _ (by omega)
  have honeg:∀x:Nat,x≤x*(1 + 7*2^eB e0 top):=fun x=>Nat.le_mul_of_pos_right _ (by omega)
  refine ⟨y,hym,⟨hlin.el q ht _ (by omega),hech.el ht,fun i hi=>by rw [nF,if_neg (by omega)];exact hab i hi,a',b',u',?_,?_,?_,.inr ⟨hy0,by rw [nF,if_neg (by omega)];exact htop,hyE,fun i hi hir=> ?_,hu',hpa,hpb⟩⟩,fun n hn=>⟨?_,?_,?_⟩⟩
  · intro i j hi hj;rw [←hmul];exact (hbd _ (by omega)).1 i j hi hj
  · intro i j hi hj;rw [←hmul];exact (hbd _ (by omega)).2.1 i j hi hj
  · intro i j hi hj;rw [←hmulb];exact (hbd _ (by omega)).2.2 i j hi hj
  · have e1:(el S2 top q (r - top - 1)).M i q=S2.M i q % (y:Int):=by
      rw [nF,if_pos (by omega)]
      unfold kq
      rw [htop];have:=Int.mul_ediv_add_emod (S2.M i q) (y:Int);rw [Int.neg_mul,Int.mul_comm (S2.M i q/(y:Int))];omega
    rw [e1];exact ⟨Int.emod_nonneg _ (by omega),Int.emod_lt_of_pos _ (by omega),hres i hi hir⟩
  · intro i j hi hj
    refine Nat.le_trans ((hbd (n + 1) (by omega)).1 i j hi hj) ?_;rw [hmul];refine Nat.le_trans (Nat.mul_le_mul_left _ ha1) (Nat.le_trans (hone _) ?_);exact qU (eB e0 top)
  · intro i j hi hj
    refine Nat.le_trans ((hbd (n + 1) (by omega)).2.1 i j hi hj) ?_;rw [hmul];refine Nat.le_trans (Nat.mul_le_mul_left _ ha1) (Nat.le_trans (hone _) ?_);exact qU (eB e0 top)
  · intro i j hi hj
    refine Nat.le_trans ((hbd (n + 1) (by omega)).2.2 i j hi hj) ?_;rw [hmulb];refine Nat.le_trans (Nat.mul_le_mul_left _ hb1) (Nat.le_trans (honeg _) ?_);exact yc (gB e0 top) (eB e0 top)
theorem JI.none (h:JI r c e0 M0 top q m S) (ht:top<r) (hn:(bQ (fun a=>S.M a q) top (r - top)).1<0):FI r c e0 M0 top (q + 1) S:=by
  have hz:=(jd (x:=fun a=>S.M a q) hn).2;obtain ⟨a,b,u,hM,hU,hV,hc⟩:=h.run;rcases hc with ⟨ha1,hb1,_,_⟩ | ⟨hm0,hmt,_⟩
  · subst ha1;subst hb1
    simp only [Nat.mul_one] at hM hU hV;refine ⟨h.lin,?_,hM,hU,hV⟩;obtain ⟨P,h1,h2⟩:=h.ech;refine ⟨P,fun i hi=> ?_,fun a ha har j hj=> ?_⟩
    · obtain ⟨g1,g2⟩:=h1 i hi;exact ⟨by omega,g2⟩
    · by_cases e:j=q
      · subst e;exact hz a ha (by omega)
      · exact h2 a ha har j (by omega)
  · have:S.M top q=0:=hz top (Nat.le_refl _) (by omega)
    omega
theorem JI.pivot (h:JI r c e0 M0 top q m S) (ht:top<r) (hq:q<c) (h8:r≤8) (hp:0≤(bQ (fun a=>S.M a q) top (r - top)).1) (ho:(bQ (fun a=>S.M a q) top (r - top)).2=false):
    (∀n,n≤top→(∀i j,i<r→j<c→((ra (sn S (bQ (fun a=>S.M a q) top (r - top)).1.toNat top q) top q n).M i j).natAbs≤2^eB e0 (top + 1))∧
        (∀i j,i<r→j<r→((ra (sn S (bQ (fun a=>S.M a q) top (r - top)).1.toNat top q) top q n).U i j).natAbs≤2^eB e0 (top + 1))∧
        ∀i j,i<r→j<r→((ra (sn S (bQ (fun a=>S.M a q) top (r - top)).1.toNat top q) top q n).V i j).natAbs≤2^gB e0 (top + 1))∧
      FI r c e0 M0 (top + 1) (q + 1) (ra (sn S (bQ (fun a=>S.M a q) top (r - top)).1.toNat top q) top q top):=by
  obtain ⟨hl1,hl2,hl3,hl4,hl5⟩:=lead hp ht;replace hl5:=hl5 ho
  generalize hpe:(bQ (fun a=>S.M a q) top (r - top)).1.toNat=p at*
  have hE0:0<2^eB e0 top:=Nat.two_pow_pos _;obtain ⟨a,b,u,hM,hU,hV,hc⟩:=h.run;have hab1:a≤(1 + 2^eB e0 top)*(2^eB e0 top)^3∧b≤(1 + 7*2^eB e0 top)*(2^eB e0 top)^8:=by
    rcases hc with ⟨ha1,hb1,_⟩ | ⟨hm0,_,_,_,hu1,hpa,hpb⟩
    · subst ha1;subst hb1
      exact ⟨Nat.mul_pos (by omega) (Nat.pow_pos hE0),Nat.mul_pos (by omega) (Nat.pow_pos hE0)⟩
    · refine ⟨Nat.le_trans ?_ hpa,Nat.le_trans ?_ hpb⟩
      · rw [Nat.mul_assoc];exact Nat.le_mul_of_pos_right _ (Nat.mul_pos (Nat.mul_pos hm0 hm0) hu1)
      · rw [Nat.mul_assoc];exact Nat.le_mul_of_pos_right _ (Nat.mul_pos (Nat.pow_pos hm0) hu1)
  have htop:=ju S p top q;obtain ⟨hM2,hU2,hV2⟩:=tM (q:=q) hl2 ht hM hU hV;have hlin:=h.lin.sn q hl2 ht;have hech:=h.ech.sn (q:=q) hl2 hl1 ht;have hcol:∀i,i≠top→(sn S p top q).M i q=if i=p then S.M top q else S.M i q:=fun i hi=>(sh S p top q i q).1 hi
  have hab:∀i,i<top→((sn S p top q).M i q).natAbs≤2^eB e0 top:=fun i hi=>by rw [hcol i (by omega),if_neg (by omega)];exact h.above i hi
  have hbelow:∀i,top<i→i<r→(sn S p top q).M i q=0:=fun i hi hir=>by
    rw [hcol i (by omega)];split
    · rename_i e;subst e;exact hl5 top (Nat.le_refl _) ht (by omega)
    · rename_i e;exact hl5 i (by omega) hir e
  generalize sn S p top q=S2 at*
  generalize hy:(S.M p q).natAbs=y at*
  have hy0:0<y:=by omega
  have hK:∀i,i<top→(kq S2 top q i).natAbs≤2^eB e0 top:=fun i hi=>by
    unfold kq;rw [htop]
    exact Nat.le_trans (nE (by omega)) (hab i hi)
  have hbd:=fun n (hn:n≤top)=>ya (n:=n) ht hn (by omega) hK hM2 hU2 hV2
  have hfin:∀n,n≤top→(∀i j,i<r→j<c→((ra S2 top q n).M i j).natAbs≤2^eB e0 (top + 1))∧(∀i j,i<r→j<r→((ra S2 top q n).U i j).natAbs≤2^eB e0 (top + 1))∧
      ∀i j,i<r→j<r→((ra S2 top q n).V i j).natAbs≤2^gB e0 (top + 1):=fun n hn=>by
    refine ⟨fun i j hi hj=> ?_,fun i j hi hj=> ?_,fun i j hi hj=> ?_⟩
    · exact Nat.le_trans ((hbd n hn).1 i j hi hj) (Nat.le_trans (Nat.mul_le_mul_right _ (Nat.mul_le_mul_left _ hab1.1)) (qU _))
    · exact Nat.le_trans ((hbd n hn).2.1 i j hi hj) (Nat.le_trans (Nat.mul_le_mul_right _ (Nat.mul_le_mul_left _ hab1.1)) (qU _))
    · exact Nat.le_trans ((hbd n hn).2.2 i j hi hj) (Nat.le_trans (Nat.mul_le_mul_right _ (Nat.mul_le_mul_left _ hab1.2)) (yc _ _))
  refine ⟨hfin,hlin.ra q ht top (Nat.le_refl _),?_,(hfin top (Nat.le_refl _)).1,(hfin top (Nat.le_refl _)).2.1,(hfin top (Nat.le_refl _)).2.2⟩;obtain ⟨P,h1,h2⟩:=hech;have hrow:∀i,i<top→∀j,j<q→(ra S2 top q top).M i j=S2.M i j:=fun i hi j hj=>by
    rw [me _ _ _ _ _ _ (Nat.le_refl _),if_pos hi,h2 top (Nat.le_refl _) ht j hj,Int.mul_zero,Int.add_zero]
  have hrest:∀i,top≤i→∀j,(ra S2 top q top).M i j=S2.M i j:=fun i hi j=>by rw [me _ _ _ _ _ _ (Nat.le_refl _),if_neg (by omega)]
  refine ⟨cF P top q,fun i hi=> ?_,fun a ha har j hj=> ?_⟩
  · by_cases e:i=top
    · subst e
      rw [bE];refine ⟨by omega,by rw [hrest i (Nat.le_refl _),htop];omega,fun j hj=>by rw [hrest i (Nat.le_refl _)];exact h2 i (Nat.le_refl _) ht j hj,fun k hk=> ?_⟩;rw [bs _ _ _ _ (by omega),hrest i (Nat.le_refl _),htop,me _ _ _ _ _ _ (Nat.le_refl _),if_pos hk]
      unfold kq
      rw [htop];have e1:S2.M k q + -(S2.M k q/(y:Int))*(y:Int)=S2.M k q % (y:Int):=by
        have:=Int.mul_ediv_add_emod (S2.M k q) (y:Int);rw [Int.neg_mul,Int.mul_comm (S2.M k q/(y:Int))];omega
      rw [e1];exact ⟨(h1 k hk).1,Int.emod_nonneg _ (by omega),Int.emod_lt_of_pos _ (by omega)⟩
    · rw [bs _ _ _ _ e]
      obtain ⟨g1,g2,g3,g4⟩:=h1 i (by omega);refine ⟨by omega,by rw [hrow i (by omega) _ g1];exact g2,fun j hj=>by rw [hrow i (by omega) _ (by omega)];exact g3 j hj,fun k hk=> ?_⟩;rw [bs _ _ _ _ (by omega),hrow k (by omega) _ g1,hrow i (by omega) _ g1];exact g4 k hk
  · rw [hrest a (by omega)]
    by_cases e:j=q
    · subst e;exact hbelow a (by omega) har
    · exact h2 a (by omega) har j (by omega)
end
end Go.TL
namespace Go.TL
open Go.RowKit Go.Proofs
set_option linter.unusedVariables false
def bB (e0 r:Nat):Nat:=eB e0 r + gB e0 r + 2
theorem eY {z:Int} {e b:Nat} (h:z.natAbs≤2^e) (hb:e<b):z.natAbs<2^b:=Nat.lt_of_le_of_lt h (Nat.pow_lt_pow_right (by omega) hb)
structure Herm (r c e0:Nat) (M0:Nat→Nat→Int) (k:Nat) (S:WS):Prop where
  lin:Lin r c M0 S
  kr:k≤r
  kc:k≤c
  ech:ml r k c S.M
  bm:∀i j,i<r→j<c→(S.M i j).natAbs≤2^eB e0 k
  bu:∀i j,i<r→j<r→(S.U i j).natAbs≤2^eB e0 k
  bv:∀i j,i<r→j<r→(S.V i j).natAbs≤2^gB e0 k
theorem ml.kc {r k c q:Nat} {M:Nat→Nat→Int} (h:ml r k q M) (hq:q≤c):k≤q:=by
  obtain ⟨P,h1,_⟩:=h;have:∀n,n≤k→∀i,i<n→i≤P i:=by
    intro n
    induction n with
    | zero=>intro _ i hi;omega
    | succ n ih=>
      intro hn i hi
      by_cases e:i=n
      · subst e
        rcases Nat.eq_zero_or_pos i with h0 | h0
        · omega
        · have:=ih (by omega) (i - 1) (by omega)
          have:=((h1 i (by omega)).2.2.2 (i - 1) (by omega)).1;omega
      · exact ih (by omega) i (by omega)
  rcases Nat.eq_zero_or_pos k with h0 | h0
  · omega
  · have:=this k (Nat.le_refl _) (k - 1) (by omega)
    have:=(h1 (k - 1) (by omega)).1;omega
theorem kL (w:World) (x:Value) (r c:Nat) (M:Nat→Nat→Int) (b0 e0 b:Nat) (hx:cc w x r c M b0) (h8:r≤8) (hM:∀i j,i<r→j<c→(M i j).natAbs≤2^e0) (hb:bB e0 r≤b) (hb1:1 + e0≤b) (hl:2*b + 4≤bp):
    Calls Tryz.prog 11 #[x] w (cj w fun v w'=>∃k S,Herm r c e0 M k S∧jq w' v r c S b):=by
  have hfit:∀{top:Nat} {S:WS},top<r→(∀i j,i<r→j<c→(S.M i j).natAbs≤2^eB e0 (top + 1))→(∀i j,i<r→j<r→(S.U i j).natAbs≤2^eB e0 (top + 1))→(∀i j,i<r→j<r→(S.V i j).natAbs≤2^gB e0 (top + 1))→jr r c b S:=by
    intro top S ht h1 h2 h3;have e1:=kO e0 (s:=top + 1) (t:=r) (by omega);have e2:=rm e0 (s:=top + 1) (t:=r) (by omega)
    unfold bB at hb
    exact ⟨fun i j hi hj=>eY (h1 i j hi hj) (by omega),fun i j hi hj=>eY (h2 i j hi hj) (by omega),fun i j hi hj=>eY (h3 i j hi hj) (by omega)⟩
  have e0r:=kO e0 (s:=0) (t:=r) (by omega);have hbb:=hb
  unfold bB at hbb
  simp only [eB] at e0r;have hx0:cc w x r c M (e0 + 1):=hx.more (fun i j hi hj=>eY (hM i j hi hj) (by omega)) (by omega);refine (zq w x r c M (e0 + 1) b (FI r c e0 M) (JI r c e0 M) hx0 (by omega) hl (FI.start hM) (fun top q S ht hq h=>⟨_,JI.of h ht hq⟩) ?_ ?_ ?_ ?_).mono ?_
  · intro top q m S ht hq hJ hp ho n hn
    obtain ⟨_,_,_,h3⟩:=hJ.round ht hq h8 hp ho;obtain ⟨g1,g2,g3⟩:=h3 n hn;exact hfit ht g1 g2 g3
  · intro top q m S ht hq hJ hp ho
    obtain ⟨m2,hm,hJ2,_⟩:=hJ.round ht hq h8 hp ho;exact ⟨m2,hm,hJ2⟩
  · intro top q m S ht hq hJ hp
    exact hJ.none ht hp
  · intro top q m S ht hq hJ hp ho
    obtain ⟨h1,h2⟩:=hJ.pivot ht hq h8 hp ho;exact ⟨fun n hn=>by obtain ⟨g1,g2,g3⟩:=h1 (n + 1) (by omega);exact hfit ht g1 g2 g3,h2⟩
  · rintro e w' ⟨v,rfl,hx',top,q,S,hF,hex,ht,hq,hH⟩
    have hech:ml r top c S.M:=by
      obtain ⟨P,h1,h2⟩:=hF.ech;refine ⟨P,fun i hi=> ?_,fun a ha har j hj=> ?_⟩
      · obtain ⟨g1,g2⟩:=h1 i hi;exact ⟨by omega,g2⟩
      · rcases hex with h | h
        · exact h2 a ha har j (by omega)
        · omega
    exact ⟨v,rfl,hx',top,S,⟨hF.lin,ht,hech.kc (Nat.le_refl _),hech,hF.bm,hF.bu,hF.bv⟩,hH⟩
end Go.TL
namespace Go.TL
set_option linter.unusedVariables false
theorem Herm.some {r c e0 k:Nat} {M0:Nat→Nat→Int} {S:WS} (h:Herm r c e0 M0 k S) {i:Nat} (hi:i<k):0≤piv (S.M i) c:=by
  obtain ⟨P,h1,_⟩:=h.ech;obtain ⟨g1,g2,_⟩:=h1 i hi
  by_cases hn:0≤piv (S.M i) c
  · exact hn
  · have h3:de iG (S.M i) c= -1:=by have:=(eG (p:=iG) (z:=S.M i) c).2;unfold piv at hn;omega
    have:=eO h3 (P i) g1
    unfold iG at this
    omega
theorem Herm.none {r c e0 k:Nat} {M0:Nat→Nat→Int} {S:WS} (h:Herm r c e0 M0 k S) {i:Nat} (hi:k≤i) (hr:i<r):¬0≤piv (S.M i) c:=by
  obtain ⟨P,_,h2⟩:=h.ech
  unfold piv
  rw [jc fun j hj=>by unfold iG;exact fun hne=>hne (h2 i hi hr j hj)];omega
theorem vh (e0 s:Nat):∀t,eB (eB e0 s) t=eB e0 (s + t)
  | 0=>rfl
  | t + 1=>by rw [show s + (t + 1)=s + t + 1 by omega];simp only [eB];rw [vh e0 s t]
end Go.TL
namespace Go.TL
open Go.RowKit Go.Proofs
set_option linter.unusedVariables false
set_option linter.unusedSimpArgs false
set_option maxRecDepth 10000 in
theorem wI (w:World) (x:Value) (rx cx:Nat) (Mx:Nat→Nat→Int) (btx:Nat) (e0 b:Nat) (hx:cc w x rx cx Mx btx) (h8:rx≤8) (hM:∀i j,i<rx→j<cx→(Mx i j).natAbs≤2^e0) (hb:bB e0 rx≤b) (hb1:1 + e0≤b) (hl:2*b + 4≤bp):Calls Tryz.prog 15 #[x] w (cj w fun v w'=>∃k S,Herm rx cx e0 Mx k S∧cc w' v k cx S.M b):=by
 have hLIM:bp=562949953421312:=rfl;have hmatx:=hx;obtain ⟨sx,rfl,hrx,hcx,hSx⟩:=hx.form;refine aj (N:=31) (rs:= #[.cell 2 28]) Tryz.func15 rfl rfl rfl (Nat.le_of_ble_eq_true rfl) ?_;have hX:aF w w:=aF.refl w;refine ab ?_;refine RL.x rfl rfl (df.box [.int .i64 ((rx:Nat)),.int .i64 ((cx:Nat)),sx] rfl rfl) ?_;rintro _ w1 ⟨g1,rfl,hge1,hx1,hA1⟩;replace hX:=aF.trans hX hx1;refine RL.x rfl rfl (df.alloc [.int .i64 (0),.int .i64 (0),.slice (none) (0) (0)] co rfl) ?_;rintro _ w2 ⟨g2,rfl,hge2,hx2,hA2⟩;have hbs2:w.heap.size≤g2:=Nat.le_trans hX.size hge2;replace hA1:=bc.ext hA1 hx2;replace hX:=aF.trans hX hx2;refine RL.nil ?_;refine ab ?_;refine RL.p rfl rfl (ah [.int .i64 ((rx:Nat)),.int .i64 ((cx:Nat)),sx] aZ rfl (hA1.cells 0 _ rfl rfl)) ?_;refine RL.x rfl rfl (df.call qA (aN rfl) (kL _ _ rx cx Mx _ e0 b (cc.mk (cA.ext hSx hX) (by omega) (by omega)) h8 hM hb hb1 hl)) ?_;rintro _ w3 ⟨hx3,kf_1,Sf_1,hHf_1,sa_1,sb_1,sc_1,rfl,hdr_1,hdc_1,hSa_1,hSb_1,hSc_1⟩;replace hA2:=bc.ext hA2 hx3;replace hX:=aF.trans hX hx3;refine RL.p rfl rfl (lZ qu aZ rfl (by rfl)) ?_;refine RL.x rfl rfl (df.alloc [.int .i64 (0),.int .i64 (0),.slice (none) (0) (0)] co rfl) ?_;rintro _ w4 ⟨g3,rfl,hge3,hx4,hA3⟩;have ne3:g2≠g3:=Nat.ne_of_lt (Nat.lt_of_lt_of_le hA2.lt hge3);have hbs3:w.heap.size≤g3:=Nat.le_trans hX.size hge3;replace hA2:=bc.ext hA2 hx4;replace hSa_1:=cA.ext hSa_1 hx4;replace hX:=aF.trans hX hx4;refine RL.x rfl rfl (df.store [.int .i64 ((rx:Nat)),.int .i64 ((cx:Nat)),sa_1] cX rfl rfl rfl hA3 (Nat.le_of_ble_eq_true rfl) (cY rfl rfl (hSa_1.one))) ?_;rintro _ w5 ⟨hk1,hnew⟩;replace hA2:=hA2.keep hk1 ne3;replace hSa_1:=bM hSa_1 hk1 hA3 (by decide);replace hX:=hX.step hk1 (fun b e=>by subst e;exact hbs3);replace hA3:=hnew.lit [.int .i64 ((rx:Nat)),.int .i64 ((cx:Nat)),sa_1] rfl;clear hnew;refine RL.nil ?_;have hkr:=hHf_1.kr;refine ab ?_;refine RL.p rfl rfl (cK.assign rfl) ?_;refine RL.nil ?_;refine WP.seq ?_;refine WP.block ?_;refine WP.loop (fun mz ez uz=>∃n:Nat,(mz=kf_1 - n)∧(ez 2= .pointer (some ⟨g2,0,none⟩))∧(ez 3= .pointer (some ⟨g3,0,none⟩))∧(ez 4= .int .i64 ((n:Nat)))∧(n≤kf_1)∧(aF w uz)∧(bc uz g2 28 3 (bP [.int .i64 (0),.int .i64 (0),.slice (none) (0) (0)]))∧(cA uz sa_1 rx cx Sf_1.M b)∧(bc uz g3 28 3 (bP [.int .i64 ((rx:Nat)),.int .i64 ((cx:Nat)),sa_1]))) (kf_1 - 0) ?_ ?_
 · exact ⟨0,rfl,rfl,rfl,rfl,(by omega),hX,hA2,hSa_1,hA3⟩
 rintro m1 e1 w6 ⟨n,hm1,s2_e1,s3_e1,s4_e1,hn,hX1,hA2,hSa_1,hA3⟩;refine WP.seq ?_;refine aI am 13 [_,_,_,_,fun v BZ=>v= .bool (decide (((n:Nat):Int)<((rx:Nat):Int))),_,_,_,_,_,_,_,_] rfl rfl (fun e_ w_ BY BX=>⟨fun _=>aa (cK.move ((BX 4 rfl s4_e1))),fun _=>aa (cK.fieldAddr bk ((BX 3 rfl s3_e1))),fun BW=>aa (cK.load bI ((BW 1 rfl)) ((bc.ext hA3 BY).at_ (i:=0) rfl rfl)),fun BW=>aa (cK.lss ((BW 0 rfl)) ((BW 2 rfl))),fun BW=>aa (cK.move ((BW 3 rfl))),fun BW=>gT (BW 4 rfl) fun hg=>aa (cK.fieldAddr aq ((BX 3 rfl s3_e1))),fun BW=>gT (BW 4 rfl) fun hg=>aa (cK.load aG ((BW 5 rfl hg)) ((bc.ext hA3 BY).at_ (i:=2) rfl rfl)),fun BW=>gT (BW 4 rfl) fun hg=>aa (cK.move ((BX 4 rfl s4_e1))),fun BW=>gT (BW 4 rfl) fun hg=>ag (aP (j:=n) az (BW 6 rfl hg) (cA.ext hSa_1 BY) (BW 7 rfl hg) (by omega) (by omega)),fun BW=>gT (BW 4 rfl) fun hg=>ag (aV aR rfl (BW 8 rfl hg)),fun BW=>gT (BW 4 rfl) fun hg=>df.call qz (aN rfl) (kK _ _ _ _ _ (BW 9 rfl hg)),fun BW=>gT (BW 4 rfl) fun hg=>aa (cK.geq ((BW 10 rfl hg)) rfl),fun BW=>aa (ay (p:=((n:Nat):Int)<((rx:Nat):Int)) (q:=(0:Int)≤(piv (Sf_1.M n) cx:Int)) (BW 4 rfl) (fun hq=>(BW 11 rfl hq))),trivial⟩) ?_;intro e2 w7 hx5 ho1 hf1;replace hA2:=bc.ext hA2 hx5;replace hSa_1:=cA.ext hSa_1 hx5;replace hA3:=bc.ext hA3 hx5;replace hX1:=aF.trans hX1 hx5;have s2_e2:=ho1 2 rfl s2_e1;have s3_e2:=ho1 3 rfl s3_e1;have s4_e2:=ho1 4 rfl s4_e1;have s20_e2:e2 20=_:=hf1 12 rfl;refine RL.nil ?_;refine af ((((n:Nat):Int)<((rx:Nat):Int))∧((0:Int)≤(piv (Sf_1.M n) cx:Int))) s20_e2 (fun c20=> ?_) (fun c20=> ?_)
 ·
  refine WP.skip ?_;refine qf.norm ?_;refine WP.block ?_;refine WP.region ?_;refine RL.p rfl rfl (cK.move s4_e2) ?_;refine RL.p rfl rfl (cK.add (c:=((n + 1:Nat):Int)) rfl rfl (bY (by omega))) ?_;refine RL.p rfl rfl (cK.assign rfl) ?_;refine RL.nil ?_;refine jp.norm ?_;have hnk:n<kf_1:=by
    rcases Nat.lt_or_ge n kf_1 with h | h
    · exact h
    · exact absurd c20.2 (hHf_1.none h (by omega))
  refine qf.norm ⟨_,(by omega),n + 1,rfl,s2_e2,s3_e2,rfl,(by omega),hX1,hA2,hSa_1,hA3⟩
 ·
  refine WP.exit ?_;refine qf.exit ?_;refine qf.exit ?_;refine jp.same ?_;refine qf.norm ?_;refine aI am 7 [_,_,_,_,_,_,_] rfl rfl (fun e_ w_ BY BX=>⟨fun _=>aa (cK.move ((BX 4 rfl s4_e2))),fun _=>aa (cK.fieldAddr bG ((BX 3 rfl s3_e2))),fun BW=>aa (cK.load bI ((BW 1 rfl)) ((bc.ext hA3 BY).at_ (i:=1) rfl rfl)),fun _=>aa (cK.fieldAddr aq ((BX 3 rfl s3_e2))),fun BW=>aa (cK.load aG ((BW 3 rfl)) ((bc.ext hA3 BY).at_ (i:=2) rfl rfl)),fun _=>aa (cK.move ((BX 4 rfl s4_e2))),fun BW=>ag (ir (j:=n) az (BW 4 rfl) (cA.ext hSa_1 BY) (BW 5 rfl) (by omega) (by omega)),trivial⟩) ?_;intro e3 w8 hx6 ho2 hf2;replace hA2:=bc.ext hA2 hx6;replace hX1:=aF.trans hX1 hx6;have s2_e3:=ho2 2 rfl s2_e2;have s23_e3:e3 23=_:=hf2 0 rfl;have s25_e3:e3 25=_:=hf2 2 rfl;have s29_e3:cA w8 (e3 29) n cx Sf_1.M b:=hf2 6 rfl;refine RL.p rfl rfl (cK.build (vs:= [(0,.int .i64 ((n:Nat))),(1,.int .i64 ((cx:Nat))),(2,(e3 29))]) [(0,1),(1,1),(2,1)] jX co (gp s23_e3 s25_e3 rfl) (ye s29_e3)) ?_;refine RL.x rfl rfl (df.store [.int .i64 ((n:Nat)),.int .i64 ((cx:Nat)),(e3 29)] cX s2_e3 rfl rfl hA2 (Nat.le_of_ble_eq_true rfl) (cY rfl rfl (s29_e3.one))) ?_;rintro _ w9 ⟨hk2,hnew⟩;replace s29_e3:=bM s29_e3 hk2 hA2 (by decide);replace hX1:=hX1.step hk2 (fun b e=>by subst e;exact hbs2);replace hA2:=hnew.lit [.int .i64 ((n:Nat)),.int .i64 ((cx:Nat)),(e3 29)] rfl;clear hnew;refine RL.nil ?_;refine WP.ret ?_;refine ⟨.agg #[.int .i64 ((n:Nat)),.int .i64 ((cx:Nat)),(e3 29)],Bu.one (ak [.int .i64 ((n:Nat)),.int .i64 ((cx:Nat)),(e3 29)] aZ s2_e3 (hA2.cells 0 _ rfl rfl)),_,rfl,hX1,?_⟩;dsimp only;have hnk:n=kf_1:=by
    rcases Nat.lt_or_ge n kf_1 with h | h
    · exact absurd ⟨by omega,hHf_1.some h⟩ c20
    · omega
  exact ⟨kf_1,Sf_1,hHf_1,hnk▸(cc.mk s29_e3 (by omega) (by omega))⟩
end Go.TL
namespace Go.TL
open Go.RowKit Go.Proofs
set_option linter.unusedVariables false
def yo (M:Nat→Nat→Int):Nat→Nat→Int:=fun i j=>M j i
def gK (r c e0:Nat) (M0:Nat→Nat→Int) (k:Nat) (M:Nat→Nat→Int):Prop:=
  ∃k1 S1 S2,Herm r c e0 M0 k1 S1∧Herm (r - k1) r (eB e0 k1) (fun i=>S1.U (k1 + i)) k S2∧M=S2.M
theorem gK.bd {r c e0 k:Nat} {M0 M:Nat→Nat→Int} (h:gK r c e0 M0 k M) {i j:Nat} (hi:i<k) (hj:j<r):(M i j).natAbs≤2^eB e0 r:=by
  obtain ⟨k1,S1,S2,h1,h2,rfl⟩:=h;have g1:=h2.kr;have g2:=h1.kr;refine Nat.le_trans (h2.bm i j (by omega) hj) (Nat.pow_le_pow_right (by omega) ?_);rw [vh];exact kO e0 (by omega)
theorem gK.kr {r c e0 k:Nat} {M0 M:Nat→Nat→Int} (h:gK r c e0 M0 k M):k≤r:=by
  obtain ⟨k1,S1,S2,h1,h2,rfl⟩:=h;have g1:=h2.kr;omega
def rM (r c e0:Nat) (M0:Nat→Nat→Int) (k:Nat) (M:Nat→Nat→Int):Prop:=∃k1 K1,gK c r e0 (yo M0) k1 K1∧gK c k1 (eB e0 c) (yo K1) k M
theorem rM.bd {r c e0 k:Nat} {M0 M:Nat→Nat→Int} (h:rM r c e0 M0 k M) {i j:Nat} (hi:i<k) (hj:j<c):(M i j).natAbs≤2^eB (eB e0 c) c:=by
  obtain ⟨k1,K1,h1,h2⟩:=h;exact h2.bd hi hj
end Go.TL
namespace Go.TL
open Go.RowKit Go.Proofs
set_option linter.unusedVariables false
def xF (w:World) (v:Value) (r c e0:Nat) (M0:Nat→Nat→Int) (b:Nat):Prop:=∃k S,Herm r c e0 M0 k S∧cc w v k c S.M b
def xu (w:World) (v:Value) (r c e0:Nat) (M0:Nat→Nat→Int) (b:Nat):Prop:=∃k M,rM r c e0 M0 k M∧cc w v k c M b
def rL (w:World) (v:Value) (r c e0:Nat) (M0:Nat→Nat→Int):Prop:=∃k S k2 M2,Herm r c e0 M0 k S∧rM r c e0 M0 k2 M2∧v= .bool (decide (aD k c k2 c S.M M2))
theorem xF.ext {w w':World} {v:Value} {r c e0 b:Nat} {M0:Nat→Nat→Int} (h:xF w v r c e0 M0 b) (hx:aF w w'):xF w' v r c e0 M0 b:=by obtain ⟨k,S,h1,h2⟩:=h;exact ⟨k,S,h1,h2.ext hx⟩
theorem xu.ext {w w':World} {v:Value} {r c e0 b:Nat} {M0:Nat→Nat→Int} (h:xu w v r c e0 M0 b) (hx:aF w w'):xu w' v r c e0 M0 b:=by obtain ⟨k,S,h1,h2⟩:=h;exact ⟨k,S,h1,h2.ext hx⟩
theorem rL.ext {w w':World} {v:Value} {r c e0:Nat} {M0:Nat→Nat→Int} (h:rL w v r c e0 M0) (hx:aF w w'):rL w' v r c e0 M0:=h
theorem sM (r c e0:Nat) (M0:Nat→Nat→Int) (b:Nat):bO (fun v w=>xF w v r c e0 M0 b):=fun _ _ _ h hx=>h.ext hx
instance (r c e0:Nat) (M0:Nat→Nat→Int) (b:Nat):Nonempty (bO (fun v w=>xF w v r c e0 M0 b)):=⟨sM r c e0 M0 b⟩
theorem sA (r c e0:Nat) (M0:Nat→Nat→Int) (b:Nat):bO (fun v w=>xu w v r c e0 M0 b):=fun _ _ _ h hx=>h.ext hx
instance (r c e0:Nat) (M0:Nat→Nat→Int) (b:Nat):Nonempty (bO (fun v w=>xu w v r c e0 M0 b)):=⟨sA r c e0 M0 b⟩
theorem pN (r c e0:Nat) (M0:Nat→Nat→Int):bO (fun v w=>rL w v r c e0 M0):=fun _ _ _ h _=>h
instance (r c e0:Nat) (M0:Nat→Nat→Int):Nonempty (bO (fun v w=>rL w v r c e0 M0)):=⟨pN r c e0 M0⟩
def rQ (w:World) (g r c:Nat) (S:WS) (b:Nat):Prop:=∃s1 s2 s3,bc w g 31 9 (bP [.int .i64 (r:Nat),.int .i64 (c:Nat),s1,.int .i64 (r:Nat),.int .i64 (r:Nat),s2,.int .i64 (r:Nat),.int .i64 (r:Nat),s3])∧
  (r≤65536∧b≤bp)∧c≤65536∧cA w s1 r c S.M b∧cA w s2 r r S.U b∧cA w s3 r r S.V b
end Go.TL
namespace Go.TL
open Go.RowKit Go.Proofs
set_option linter.unusedVariables false
theorem rQ.keep {w w':World} {g r c b g2 m:Nat} {f:Nat→Value} {S:WS} (h:rQ w g r c S b) (hk:Keeps (fun k=>k=g2) w w') (hA:bc w g2 28 m f):rQ w' g r c S b:=by
  obtain ⟨s1,s2,s3,h1,h2,h3,h4,h5,h6⟩:=h;exact ⟨s1,s2,s3,h1.keep hk (h1.ne hA (by decide)),h2,h3,bM h4 hk hA (by decide),bM h5 hk hA (by decide),bM h6 hk hA (by decide)⟩
theorem rQ.ext {w w':World} {g r c b:Nat} {S:WS} (h:rQ w g r c S b) (hx:aF w w'):rQ w' g r c S b:=by
  obtain ⟨s1,s2,s3,h1,h2,h3,h4,h5,h6⟩:=h;exact ⟨s1,s2,s3,h1.ext hx,h2,h3,h4.ext hx,h5.ext hx,h6.ext hx⟩
end Go.TL
namespace Go.TL
open Go.RowKit
set_option linter.unusedVariables false
section
variable {P:Program} {e:cE} {w:World} {d:Option Tmp} {ty:TypeId} {pos:String} {after:Array Edge} {gd:Option (Nat×Bool)}
theorem ph {t bb g1 c1 g gh m dd c b B:Nat} {x y:Operand} {v:Value} {z:Nat→Int} {M:Nat→Nat→Int} {ρ:Nat→Nat} (ht:sliceB P t 41 1 bb=true) (hb:bb≤32) (hz:(P.info? 41).bind (·.zero)=some (.slice none 0 0))
    (hx:ev e x= .slice (some ⟨gh,0,none⟩) dd m) (hy:ev e y= .slice (some ⟨g1,0,none⟩) 1 c1) (hM:cM w B gh m dd c ρ M b) (hT:bc w g1 41 1 (bP [v])) (hS:fr w v g c) (hR:cz w g c z b) (hzz:∀j,j<c→M dd j=z j) (hB:B≤g)
    (hBw:B≤w.heap.size) (hnew:∀i,i<dd→ρ i≠g) (hd:dd<65536):
    df P ⟨d,.call {callee:= .builtin .append,args:= #[x,y],argTypes:= #[t,t]},ty,pos,after,gd⟩ e w
      (fun v' w'=>Keeps (fun b=>b=gh) w w'∧∃gh' m',v'= .slice (some ⟨gh',0,none⟩) (dd + 1) m'∧cM w' B gh' m' (dd + 1) c (cF ρ dd g) M b):=by
  have hne:=fun k (hk:k<dd)=>hM.ne hk
  have hnu:=hM.nu;obtain ⟨h1,h2,⟨h3,h3b,f,h6,h7⟩,h4,h5⟩:=hM;have hgne:g≠gh:=by
    obtain ⟨m',f',_,ha',_⟩:=hR;exact ha'.ne h6 (by decide)
  obtain ⟨kk,hvk,_,_⟩:=id hS;refine df.mono (fu (n:=dd) (cap:=m) (kk:=1) (h:=fun _=>v) (f:=f) [.slice none 0 0] ht hb hz rfl rfl (by decide) hx hy (by rw [Nat.mul_one];exact h6) h3 h3b.1 (fun i hi=> ?_) (fun i hi=>hS.one) (by omega)) ?_
  · have:i=0:=by omega
    subst this;exact hT.cell (i:=0) (by decide)
  · rintro v' w' ⟨hk,gh',m',f',rfl,g5,g6,g7,g8,g9,g10⟩
    simp only [Nat.mul_one] at g8 g9 g10;refine ⟨hk,gh',m',rfl,?_,h2,⟨g5,⟨g6,by omega⟩,f',g8,fun i hi=> ?_⟩,fun i hi=> ?_,fun i j hi hj e=> ?_⟩
    · rcases g7 with g7 | g7
      · rw [g7.1];exact h1
      · omega
    · by_cases e:i=dd
      · subst e;rw [bE]
        have:=g10 0 (by decide);rw [Nat.add_zero] at this;rw [this];exact hS
      · rw [bs _ _ _ _ e,g9 i (by omega)];exact h7 i (by omega)
    · by_cases e:i=dd
      · subst e;rw [bE];exact ⟨hB,(hR.keep hk hgne hnu).congr fun j hj=>(hzz j hj).symm⟩
      · rw [bs _ _ _ _ e];exact ⟨(h4 i (by omega)).1,(h4 i (by omega)).2.keep hk (fun e2=>hne i (by omega) e2.symm) hnu⟩
    · by_cases e1:i=dd<;>by_cases e2:j=dd
      · omega
      · rw [e1,bE,bs _ _ _ _ e2] at e;exact absurd e.symm (hnew j (by omega))
      · rw [e2,bE,bs _ _ _ _ e1] at e;exact absurd e (hnew i (by omega))
      · rw [bs _ _ _ _ e1,bs _ _ _ _ e2] at e;exact h5 i j (by omega) (by omega) e
def xC (w:World) (v:Value) (B r c:Nat) (M:Nat→Nat→Int) (b:Nat):Prop:=∃gh k ρ,v= .slice (some ⟨gh,0,none⟩) r k∧cM w B gh k r c ρ M b
theorem xC.ext {w w':World} {v:Value} {B r c b:Nat} {M:Nat→Nat→Int} (h:xC w v B r c M b) (hx:aF w w'):xC w' v B r c M b:=by obtain ⟨gh,k,ρ,h1,h2⟩:=h;exact ⟨gh,k,ρ,h1,h2.ext hx⟩
theorem uD (B r c:Nat) (M:Nat→Nat→Int) (b:Nat):bO (fun v w=>xC w v B r c M b):=fun _ _ _ h hx=>h.ext hx
instance (B r c:Nat) (M:Nat→Nat→Int) (b:Nat):Nonempty (bO (fun v w=>xC w v B r c M b)):=⟨uD B r c M b⟩
theorem xC.hdrV {v:Value} {B r c b:Nat} {M:Nat→Nat→Int} (h:xC w v B r c M b):cA w v r c M b:=by obtain ⟨gh,k,ρ,rfl,h2⟩:=h;exact h2.hdrV h2.dlim.1 h2.dlim.2.1
theorem dR {t i ft B r c b:Nat} {x:Operand} {v:Value} {M:Nat→Nat→Int} (hf:jM P t i ft 2=true) (ho:oneB P ft=true) (hx:ev e x=v) (hM:cJ w v B r c M b):
    df P ⟨d,.field t x i,ty,pos,after,gd⟩ e w (fun v' w'=>w=w'∧xC w' v' B r c M b):=by
  obtain ⟨gh,k',ρ,rfl,hMx⟩:=hM;refine dt (φ:=fun v' w'=>xC w' v' B r c M b) (v:= .slice (some ⟨gh,0,none⟩) r k') ?_ ⟨gh,k',ρ,rfl,hMx⟩
  unfold jM at hf
  split at hf
  · rename_i fs hs
    split at hf
    · rename_i fd hfd
      simp only [Bool.and_eq_true] at hf;have e1:=Nat.eq_of_beq_eq_true hf.1;have e2:=Nat.eq_of_beq_eq_true hf.2;subst e2;have hn:(isAgg fd.type).run P w= .ok false w:=by
        unfold oneB at ho
        cases hu:P.underlying fd.type with
        | none=>rw [hu] at ho;cases ho
        | some dsc=>
          rw [hu] at ho;cases dsc<;>first | (simp at ho;done) | simp [isAgg,run_underlying hu]
      simp only [cK,execOp,hx,Instr.field,Sem.run_bind,run_underlying hs,Result.andThen_ok,hfd,asAgg,Sem.run_pure,part,hn,Bool.false_eq_true,if_false,e1]
      rfl
    · cases hf
  · cases hf
theorem Bc {w0:World} {v:Value} {n b:Nat} {z:Nat→Int} (h:bD w0 v n z b):Instr.fill (fun i=>some (i*1,1)) #[Value.slice none 0 0] [(0,v)]=some #[v]:=by
  obtain ⟨A,k,rfl,_⟩:=h;simp [Instr.fill,Value.cells]
theorem cA.cells1 {v:Value} {n c b:Nat} {M:Nat→Nat→Int} (h:cA w v n c M b):v.cells= [v].toArray:=by obtain ⟨A,k,rfl,_⟩:=h;rfl
theorem bD.cells1 {v:Value} {n b:Nat} {z:Nat→Int} (h:bD w v n z b):v.cells= [v].toArray:=by obtain ⟨A,k,rfl,_⟩:=h;rfl
theorem wF {v:Value} {g n b:Nat} {z:Nat→Int} (hA:bc w g 41 1 (bP [v])) (h:bD w v n z b):cA w (.slice (some ⟨g,0,none⟩) 1 1) 1 n (fun _=>z) b:=
  ⟨_,_,rfl,Nat.le_refl _,⟨by decide,by decide,h.lim.2⟩,fun _=>⟨g,0,1,_,rfl,by decide,hA,fun i hi=>by
    have:i=0:=by omega
    subst this;exact h⟩⟩
end
theorem rX (M:Nat→Nat→Int) (i j:Nat) (x y:Int):eA (eA M i j x) i j y=eA M i j y:=by
  funext a c;unfold eA;split<;>rfl
theorem rZ (M:Nat→Nat→Int) (i j:Nat) (x:Int):eA M i j x i j=x:=by unfold eA;rw [if_pos ⟨rfl,rfl⟩]
theorem rY (M:Nat→Nat→Int) (i j:Nat):eA M i j (M i j)=M:=by
  funext a c;unfold eA;split
  · rename_i h;rw [h.1,h.2]
  · rfl
theorem gZ (F:Nat→Nat→Int):(fun _ _=>0)=cT F 0 0:=by funext a c;rw [pK]
theorem um (F:Nat→Nat→Int) (i j:Nat):cT F i j i j=0:=by unfold cT;rw [if_neg (by omega)]
def yg (n:Nat):Nat→Nat→Int:=fun a c=>if a<n∧a=c then 1 else 0
theorem xc:(fun _ _=>0)=yg 0:=by funext a c;unfold yg;rw [if_neg (by omega)]
theorem xb (i:Nat):eA (yg i) i i 1=yg (i + 1):=by
  funext a c;unfold eA yg
  by_cases h:a=i∧c=i
  · rw [if_pos h,if_pos (by omega)]
  · rw [if_neg h]
    by_cases h2:a<i∧a=c
    · rw [if_pos h2,if_pos (by omega)]
    · rw [if_neg h2,if_neg (by omega)]
theorem xd {n a:Nat} (c:Nat) (h:a<n):yg n a c=dC a c:=by unfold yg dC;by_cases e:a=c<;>simp [e,h];omega
theorem mul_zero (F:Nat→Nat→Int) (i j:Nat):cT F i j=eA (cT F i j) i j 0:=by
  have:=rY (cT F i j) i j;rw [um] at this;exact this.symm
theorem xC.up {w:World} {v:Value} {B r c b b':Nat} {M:Nat→Nat→Int} (h:xC w v B r c M b) (hb:b≤b') (hl:b'≤bp):xC w v B r c M b':=by
  obtain ⟨gh,k,ρ,h1,h2⟩:=h;exact ⟨gh,k,ρ,h1,h2.up hb hl⟩
def bn (f:Nat→Int) (n c:Nat):Nat→Nat→Int:=fun i j=>if i*c + j<n then (f (i*c + j)).tmod 10 else 0
def fp (f:Nat→Int) (n c:Nat):Nat→Nat→Int:=fun i j=>if i*c + j<n then f (i*c + j) else 0
theorem tu (x:Int):(x.tmod 10).natAbs<10:=by rw [Int.natAbs_tmod];exact Nat.mod_lt _ (by decide)
theorem pu (x:Int): -9223372036854775808≤x.tmod 10∧x.tmod 10<9223372036854775808:=by have:=tu x;omega
theorem xI (x:Int):(x.tmod 10).natAbs<2^4:=by have:=tu x;omega
theorem lQ (f:Nat→Int) (n c i j:Nat):(bn f n c i j).natAbs<2^4:=by
  unfold bn;split
  · exact xI _
  · decide
theorem vd {f:Nat→Int} {n c i j:Nat} (h:i*c + j<n):(f (i*c + j)).tmod 10=bn f n c i j:=by unfold bn;rw [if_pos h]
theorem uQ {f:Nat→Int} {n c i j:Nat} (h:i*c + j<n):f (i*c + j)=fp f n c i j:=by unfold fp;rw [if_pos h]
theorem uG {r c r' c':Nat} {M M':Nat→Nat→Int} (h:¬(r=r'∧c=c')):decide (aD r c r' c' M M')=false:=decide_eq_false fun e=>h ⟨e.1,e.2.1⟩
theorem uH {r c r' c' i:Nat} {M M':Nat→Nat→Int} (hi:i<r) (h:¬aC c c' (M i) (M' i)):decide (aD r c r' c' M M')=false:=
  decide_eq_false fun e=>h ⟨e.2.1,fun j hj=>e.2.2 i hi j hj⟩
theorem sO {r c r' c':Nat} {M M':Nat→Nat→Int} (h:r=r'∧c=c') (he:∀i,i<r→aC c c' (M i) (M' i)):decide (aD r c r' c' M M')=true:=
  decide_eq_true ⟨h.1,h.2,fun i hi j hj=>(he i hi).2 j hj⟩
theorem uR {f:Nat→Int} {n b:Nat} (h:∀i,i<n→(f i).natAbs<2^b) (c i j:Nat):(fp f n c i j).natAbs<2^b:=by
  unfold fp;split
  · rename_i h1;exact h _ h1
  · exact Nat.pow_pos (by decide)
theorem mD {F:Nat→Nat→Int} {i j n:Nat} (h:∀c,j≤c→c<n→F i c=0) {a c:Nat} (hc:c<n):cT F i j a c=cT F (i + 1) 0 a c:=by
  unfold cT
  by_cases h1:a<i
  · rw [if_pos (by omega),if_pos (by omega)]
  · by_cases h2:a=i
    · subst h2
      by_cases h3:c<j
      · rw [if_pos (by omega),if_pos (by omega)]
      · rw [if_neg (by omega),if_pos (by omega),h c (by omega) hc]
    · rw [if_neg (by omega),if_neg (by omega)]
def eg (k:IntKind) (T:Nat) (w:World) (v:Value) (n:Nat) (f:Nat→Int):Prop:=∃A c,v= .slice A n c∧n≤c∧c<9223372036854775808∧(0<n→∃g o,A=some ⟨g,o,none⟩∧∀i,i<n→w.cell? ⟨g,o + i,none⟩=some (.int k (f i)))
theorem eg.ext {k:IntKind} {T:Nat} {w w':World} {v:Value} {n:Nat} {f:Nat→Int} (h:eg k T w v n f) (hx:aF w w'):eg k T w' v n f:=by
  obtain ⟨A,c,h1,h2,h3,h4⟩:=h;exact ⟨A,c,h1,h2,h3,fun hn=>by obtain ⟨g,o,hA,hc⟩:=h4 hn;exact ⟨g,o,hA,fun i hi=>aF.cell (hc i hi) hx⟩⟩
instance (k:IntKind) (T n:Nat) (f:Nat→Int):Nonempty (bO (fun v w=>eg k T w v n f)):=⟨fun _ _ _ h hx=>eg.ext h hx⟩
def pq (k:IntKind) (w:World) (v:Value) (x:Int):Prop:=∃g o,v= .pointer (some ⟨g,o,none⟩)∧w.cell? ⟨g,o,none⟩=some (.int k x)
theorem pq.ext {k:IntKind} {w w':World} {v:Value} {x:Int} (h:pq k w v x) (hx:aF w w'):pq k w' v x:=by obtain ⟨g,o,h1,h2⟩:=h;exact ⟨g,o,h1,aF.cell h2 hx⟩
theorem sE (k:IntKind) (x:Int):bO (fun v w=>pq k w v x):=fun _ _ _ h hx=>h.ext hx
instance (k:IntKind) (x:Int):Nonempty (bO (fun v w=>pq k w v x)):=⟨sE k x⟩
section
variable {P:Program} {e:cE} {w:World} {d:Option Tmp} {ty:TypeId} {pos:String} {after:Array Edge} {gd:Option (Nat×Bool)}
theorem jl {k:IntKind} {T t n j m:Nat} {x ix:Operand} {v:Value} {f:Nat→Int} {i:Int} {k2:IntKind} (ht:sliceB P t T 1 m=true) (hx:ev e x=v) (hN:eg k T w v n f) (hi:ev e ix= .int k2 i) (hij:i=(j:Int)) (hj:j<n):
    df P ⟨d,.indexAddr t x ix,ty,pos,after,gd⟩ e w (fun v' w'=>w=w'∧pq k w' v' (f j)):=by
  obtain ⟨A,c,rfl,h2,h3,h4⟩:=hN;obtain ⟨g,o,rfl,hc⟩:=h4 (by omega);refine dt (φ:=fun v' w'=>pq k w' v' (f j)) (cK.index (j:=j) ht hx hi rfl hij hj) ⟨g,_,rfl,?_⟩;rw [Nat.mul_one];exact hc j hj
theorem ko {k:IntKind} {t:Nat} {x:Operand} {v:Value} {q:Int} (ht:oneB P t=true) (hx:ev e x=v) (hP:pq k w v q):cK P ⟨d,.load t x,ty,pos,after,gd⟩ e w (.int k q):=by
  obtain ⟨g,o,rfl,hc⟩:=hP;exact cK.load ht hx hc
theorem lY {k:IntKind} {T t n m:Nat} {x:Operand} {v:Value} {f:Nat→Int} (ht:sliceB P t T 1 m=true) (hx:ev e x=v) (hN:eg k T w v n f):
    cK P ⟨d,.call {callee:= .builtin .len,args:= #[x],argTypes:= #[t]},ty,pos,after,gd⟩ e w (.int .i64 (n:Nat)):=by
  obtain ⟨A,c,rfl,h2,h3,h4⟩:=hN;exact cK.len ht hx
end
end Go.TL
namespace Go.TL
open Go.RowKit
set_option linter.unusedVariables false
def fi (w:World) (g cap n:Nat) (z:Nat→Int) (b:Nat):Prop:=
  (n≤cap∧cap<9223372036854775808∧b≤bp∧n≤65536)∧∃f,bc w g 49 (cap*2) f∧∀j,j<n→al w (.agg #[f (2*j),f (2*j + 1)]) (z j) b
section
variable {w w':World} {g cap n b:Nat} {z:Nat→Int}
theorem fi.lt (h:fi w g cap n z b):g<w.heap.size:=by obtain ⟨_,f,ha,_⟩:=h;exact ha.lt
theorem fi.keep {S:Nat→Prop} (h:fi w g cap n z b) (hk:Keeps S w w') (hg:¬S g) (hs:∀k m f,S k→¬bc w k 101 m f):fi w' g cap n z b:=by
  obtain ⟨h1,f,ha,hf⟩:=h;exact ⟨h1,f,ha.keep hk hg,fun j hj=>(hf j hj).keep hk hs⟩
theorem fi.ext (h:fi w g cap n z b) (hx:aF w w'):fi w' g cap n z b:=h.keep (hx.keeps (fun _=>False)) id fun _ _ _ hf=>hf.elim
theorem fi.rowB (h:fi w g cap n z b):cz w g n z b:=by
  obtain ⟨h1,f,ha,hf⟩:=h;exact ⟨cap*2,f,⟨by omega,h1.2.2.1⟩,ha,hf⟩
theorem fi.rowV (h:fi w g cap n z b):bD w (.slice (some ⟨g,0,none⟩) n cap) n z b:=h.rowB.rowV h.1.1 ⟨h.1.2.1,h.1.2.2.2⟩
theorem fi.congr {z':Nat→Int} (h:fi w g cap n z b) (he:∀j,j<n→z j=z' j):fi w g cap n z' b:=by
  obtain ⟨h1,f,ha,hf⟩:=h;exact ⟨h1,f,ha,fun j hj=>he j hj▸hf j hj⟩
theorem fi.born {f:Nat→Value} (ha:bc w g 49 0 f) (z:Nat→Int) (hb:b≤bp):fi w g 0 0 z b:=
  ⟨⟨Nat.le_refl _,by decide,hb,by decide⟩,f,ha,fun j hj=>absurd hj (by omega)⟩
theorem ln {T0 k:Nat} {gv:Nat} {f:Nat→Value} (h:fi w g cap n z b) (hk:Keeps (fun b=>b=gv) w w') (hA:bc w gv T0 k f) (hne:g≠gv) (ht:T0≠101):fi w' g cap n z b:=
  h.keep hk hne fun k2 m f2 e ha2=>by subst e;exact ha2.ne hA (fun h=>ht h.symm) rfl
theorem lo {g2 n2 b2:Nat} {z2:Nat→Int} (h:fi w g cap n z b) (hk:Keeps (fun b=>b=g2) w w') (hR:cz w g2 n2 z2 b2) (hne:g≠g2):fi w' g cap n z b:=
  h.keep hk hne hR.nu
end
theorem cz.up {w:World} {g n b b':Nat} {z:Nat→Int} (h:cz w g n z b) (hb:b≤b') (hl:b'≤bp):cz w g n z b':=by
  obtain ⟨m,f,h1,h2,h3⟩:=h;exact ⟨m,f,⟨h1.1,hl⟩,h2,fun j hj=>(h3 j hj).up hb hl⟩
theorem bD.bd {w:World} {v:Value} {n b:Nat} {z:Nat→Int} (h:bD w v n z b):∀j,j<n→(z j).natAbs<2^b:=by
  intro j hj;obtain ⟨A,k,h1,h2,h3,h4⟩:=h;obtain ⟨g,_,m,f,_,_,hf⟩:=h4 (by omega);exact (hf j hj).2.1
theorem cA.bd {w:World} {v:Value} {n c b:Nat} {M:Nat→Nat→Int} (h:cA w v n c M b):∀i j,i<n→j<c→(M i j).natAbs<2^b:=by
  intro i j hi hj;obtain ⟨A,k,h1,h2,h3,h4⟩:=h;obtain ⟨g,o,m,f,_,_,_,hf⟩:=h4 (by omega);exact (hf i hi).bd j hj
section
variable {P:Program} {e:cE} {w:World} {d:Option Tmp} {ty:TypeId} {pos:String} {after:Array Edge} {gd:Option (Nat×Bool)}
theorem kn {t bb g1 c1 g cap n b B:Nat} {x y:Operand} {c0 c2:Value} {z:Nat→Int} (ht:sliceB P t 49 2 bb=true) (hb:bb≤32) (hz:(P.info? 49).bind (·.zero)=some (.agg #[.bool false,.slice none 0 0]))
    (hx:ev e x= .slice (some ⟨g,0,none⟩) n cap) (hy:ev e y= .slice (some ⟨g1,0,none⟩) 1 c1) (hQ:fi w g cap n z b) (hT:bc w g1 49 2 (bP [c0,c2])) (hI:al w (.agg #[c0,c2]) (z n) b) (hB:B≤g) (hBw:B≤w.heap.size) (hn:n<65536):
    df P ⟨d,.call {callee:= .builtin .append,args:= #[x,y],argTypes:= #[t,t]},ty,pos,after,gd⟩ e w
      (fun v' w'=>Keeps (fun b=>b=g) w w'∧∃g' cap',v'= .slice (some ⟨g',0,none⟩) (n + 1) cap'∧B≤g'∧(g'=g∨w.heap.size≤g')∧fi w' g' cap' (n + 1) z b):=by
  have hnu:=hQ.rowB.nu;obtain ⟨⟨h1,h2,h3,h4⟩,f,ha,hf⟩:=hQ;obtain ⟨a0,a1,hq,o0,o1⟩:=al.cells hI;have e0:c0=a0:=by have:=congrArg (fun v=>match v with | .agg a=>a[0]? | _=>none) hq;simpa using this
  have e1:c2=a1:=by have:=congrArg (fun v=>match v with | .agg a=>a[1]? | _=>none) hq;simpa using this
  subst e0;subst e1;refine df.mono (fu (n:=n) (cap:=cap) (kk:=1) (h:=bP [c0,c2]) (f:=f) [.bool false,.slice none 0 0] ht hb hz rfl rfl (by decide) hx hy ha h1 h2 (fun i hi=> ?_) (fun i hi=> ?_) (by omega)) ?_
  · rw [Nat.zero_add];exact hT.cell (by omega)
  · rcases (by omega:i=0∨i=1) with h | h
    · subst h;exact o0
    · subst h;exact o1
  · rintro v' w' ⟨hk,g',cap',f',rfl,g5,g6,g7,g8,g9,g10⟩
    refine ⟨hk,g',cap',rfl,?_,?_,⟨g5,g6,h3,by omega⟩,f',g8,fun j hj=> ?_⟩
    · rcases g7 with g7 | g7
      · omega
      · omega
    · rcases g7 with g7 | g7
      · exact .inl g7.1
      · exact .inr g7.1
    · by_cases h:j=n
      · subst h
        have q0:=g10 0 (by omega);have q1:=g10 1 (by omega);rw [show 2*j=j*2 + 0 by omega,q0,show j*2 + 0 + 1=j*2 + 1 by omega,q1];exact hI.keep hk hnu
      · rw [g9 (2*j) (by omega),g9 (2*j + 1) (by omega)];exact (hf j (by omega)).keep hk hnu
theorem gI {t T m b g cap c1:Nat} {A:Option Addr} {x y:Operand} (ht:sliceB P t T m b=true)
    (hx:ev e x= .slice (some ⟨g,0,none⟩) 0 cap) (hy:ev e y= .slice A 0 c1):
    cK P ⟨d,.call {callee:= .builtin .append,args:= #[x,y],argTypes:= #[t,t]},ty,pos,after,gd⟩ e w (.slice (some ⟨g,0,none⟩) 0 cap):=by
  obtain ⟨hu,i0,hi0,hm,hbb⟩:=ce ht;have hrun:(Builtin.append_ #[t,t] ty #[.slice (some ⟨g,0,none⟩) 0 cap,.slice A 0 c1]).run P w= .ok (.slice (some ⟨g,0,none⟩) 0 cap) w:=by
    cases A with
    | none=>simp [Builtin.append_,run_underlying hu,sizeOf,typeInfo,hi0,Builtin.lenOf,Builtin.firstCells,storeCells]
    | some ad=>simp [Builtin.append_,run_underlying hu,sizeOf,typeInfo,hi0,Builtin.lenOf,Builtin.firstCells,storeCells,loadCells,loadCellsFrom]
  simp [cK,execOp,resolve,invoke,builtin,hx,hy,hrun,Result.andThen]
theorem pj {t m g0 n b B:Nat} {x y:Operand} {v:Value} {z:Nat→Int} (ht:sliceB P t 49 2 m=true) (hm:m≤32) (hz:(P.info? 49).bind (·.zero)=some (.agg #[.bool false,.slice none 0 0]))
    (hx:ev e x= .slice (some ⟨g0,0,none⟩) 0 0) (hA:bc w g0 49 0 (bP [])) (hy:ev e y=v) (hR:bD w v n z b) (hB:B≤g0) (hBw:B≤w.heap.size):
    df P ⟨d,.call {callee:= .builtin .append,args:= #[x,y],argTypes:= #[t,t]},ty,pos,after,gd⟩ e w
      (fun v' w'=>Keeps (fun b=>b=g0) w w'∧∃g' cap',v'= .slice (some ⟨g',0,none⟩) n cap'∧B≤g'∧(g'=g0∨w.heap.size≤g')∧n≤cap'∧cap'<9223372036854775808∧cz w' g' n z b):=by
  rcases Nat.eq_zero_or_pos n with h0 | h0
  · subst h0
    obtain ⟨A,k,rfl,h2,h3,h4⟩:=hR;refine df.mono (gI ht hx hy).opX ?_;rintro v' w' ⟨rfl,rfl⟩;exact ⟨(aF.refl _).keeps _,g0,0,rfl,hB,.inl rfl,Nat.le_refl _,by decide,0,bP [],⟨by omega,h3.2.2⟩,hA,fun j hj=>absurd hj (by omega)⟩
  · refine df.mono (ge ht hm hz hx hA hy hR h0) ?_
    rintro v' w' ⟨hx',⟨g',⟨cap',rfl,h5,h6,h7⟩,h8,hB'⟩,h9⟩;exact ⟨hx'.keeps _,g',cap',rfl,Nat.le_trans hBw h8,.inr h8,h5,h6,hB'⟩
end
end Go.TL
namespace Go.TL
open Go.RowKit
set_option linter.unusedVariables false
def HL (P:Program) (N:Nat) (l:List Oper) (S:World→Prop) (K:cE→World→Prop) (fuel:Nat) (listed:Array Bool) (e:cE) (w:World):Prop:=
  S w∧∀a Q,IsE N a e→(∀a' e' w',IsE N a' e'→K e' w'→Q .normal a' w')→(∀c a' w',¬Q (.panic c) a' w')→wpAnyH P .any l.toArray Q S fuel listed a w
section
variable {P:Program} {N:Nat} {l:List Oper} {S:World→Prop} {K:cE→World→Prop} {fuel:Nat} {listed:Array Bool} {e:cE} {w:World} {o:Oper}
theorem HL.nil (hS:S w) (hr:Region.ready .any l.toArray listed= []) (h:K e w):HL P N l S K fuel listed e w:=
  ⟨hS,fun _ _ ha hk _=>wpAnyH_done hr (hk _ _ _ ha h) _⟩
theorem HL.x {R:Value→World→Prop} (i:Nat) (hS:S w) (hr:Region.ready .any l.toArray listed= [i]) (ho:l[i]? =some o) (hd:gi N o.dst=true) (hg:o.guard=none) (h:df P o e w R)
    (k:∀v w',R v w'→HL P N l S K fuel (listed.setIfInBounds i true) (dY e o.dst v) w'):HL P N l S K (fuel + 1) listed e w:=by
  refine ⟨hS,fun a Q ha hk hq=>wpAnyH_all hr (by simp) fun j hj=> ?_⟩;rw [List.mem_singleton] at hj;subst hj;have ho':l.toArray[j]? =some o:=by simpa using ho
  unfold wpOp
  rw [ho'];simp only;rw [if_pos (by simp [Region.wanted,hg])];exact .inl (h a ha.eval _ _ fun v w' hv=>⟨(k v w' hv).1,(k v w' hv).2 _ Q (ha.put hd v) hk hq⟩)
theorem HL.t {v:Value} (i:Nat) (hS:S w) (hf:Region.free .any l.toArray listed i=true) (hr:(Region.ready .any l.toArray listed).contains i=true) (hs:Region.noSelect l.toArray=true) (ho:l[i]? =some o) (hd:gi N o.dst=true) (hg:o.guard=none)
    (h:∀w',S w'→cK P o e w' v) (k:HL P N l S K fuel (listed.setIfInBounds i true) (dY e o.dst v) w):HL P N l S K (fuel + 1) listed e w:=by
  refine ⟨hS,fun a Q ha hk hq=> ?_⟩;refine wpAnyH_take (oi:=o) (by simpa using ho) hs hf hr (fun c a w h=>absurd h (hq c _ w)) (.inl ⟨by simp [Region.wanted,hg],fun w' hw'=> ?_⟩) hS (k.2 _ Q (ha.put hd v) hk hq);have:=h w' hw'
  unfold cK at this
  rw [ha.eval];exact this
end
theorem xp {P:Program} {N:Nat} {Q:dc} {e:cE} {w:World} {id:Nat} {l:List Oper} (hm:P.follows .mixedOrders=true)
    (h:∀w',aF w w'→HL P N l (fun w2=>aF w' w2) (fun e w=>Q .normal e w) l.length (Array.replicate l.length false) e w'):WP P N (.region id l.toArray true) Q e w:=by
  intro a ha;refine Code.wp_mono (Q:=fun x a' w'=>x=Exit.normal∧∃e',IsE N a' e'∧Q x e' w') (fun x a' w' h=>h.2) ?_;have h1:=h {w with drawn:=w.drawn + 1} ⟨rfl,rfl,rfl,Nat.le_refl _,fun _ _=>rfl⟩;refine wp_region_held (S:=fun w2=>aF {w with drawn:=w.drawn + 1} w2) hm ?_;simp only [List.size_toArray];exact h1.2 a _ ha (fun a' e' w' h1 h2=>⟨rfl,e',h1,h2⟩) (fun c a w h=>by cases h.1)
theorem qe {P:Program} {N:Nat} {Q:dc} {e:cE} {w:World} {id:Nat} {l:List Oper} {y:Code} (hm:P.follows .mixedOrders=true)
    (h:∀w',aF w w'→HL P N l (fun w2=>aF w' w2) (fun e w=>WP P N y Q e w) l.length (Array.replicate l.length false) e w'):WP P N (.seq (.region id l.toArray true) y) Q e w:=
  WP.seq (xp hm h)
def ql (w:World) (v:Value) (z:Int) (b:Nat):Prop:=∃g c0 c1,v= .slice (some ⟨g,0,none⟩) 1 1∧bc w g 49 2 (bP [c0,c1])∧al w (.agg #[c0,c1]) z b
theorem ql.ext {w w':World} {v:Value} {z:Int} {b:Nat} (h:ql w v z b) (hx:aF w w'):ql w' v z b:=by
  obtain ⟨g,c0,c1,h1,h2,h3⟩:=h;exact ⟨g,c0,c1,h1,h2.ext hx,h3.ext hx⟩
theorem sD (z:Int) (b:Nat):bO (fun v w=>ql w v z b):=fun _ _ _ h hx=>h.ext hx
section
variable {P:Program} {e:cE} {w:World} {d:Option Tmp} {ty:TypeId} {pos:String} {after:Array Edge} {gd:Option (Nat×Bool)}
theorem jm {t bb b:Nat} {x:Operand} {v:Value} {z:Int} (ht:sliceB P t 49 2 bb=true) (hz:(P.info? 49).bind (·.zero)=some (.agg #[.bool false,.slice none 0 0]))
    (hcz:(Array.range (1*2)).map (fun i=>([.bool (false),.slice (none) (0) (0)]:List Value).toArray[i % ([.bool (false),.slice (none) (0) (0)]:List Value).toArray.size]!)= #[.bool (false),.slice (none) (0) (0)])
    (hx:ev e x=v) (hI:al w v z b):
    df P ⟨d,.buildSlice t 1 #[(0,x)],ty,pos,after,gd⟩ e w (fun v' w'=>aF w w'∧ql w' v' z b):=by
  obtain ⟨c0,c1,rfl,o0,o1⟩:=al.cells hI;refine df.mono (df.buildSlice (vs:= [(0,.agg #[c0,c1])]) [.bool (false),.slice (none) (0) (0)] [c0,c1] ht hz rfl (ec hx) rfl (by decide) hcz rfl) ?_;rintro v' w' ⟨g,rfl,_,hx',hA⟩;exact ⟨hx',g,c0,c1,rfl,hA,hI.ext hx'⟩
theorem kl {t bb g cap n b B:Nat} {x y:Operand} {vy:Value} {z:Nat→Int} {zi:Int} {bi:Nat} (ht:sliceB P t 49 2 bb=true) (hb:bb≤32) (hz:(P.info? 49).bind (·.zero)=some (.agg #[.bool false,.slice none 0 0]))
    (hx:ev e x= .slice (some ⟨g,0,none⟩) n cap) (hy:ev e y=vy) (hQ:fi w g cap n z b) (hO:ql w vy zi bi) (hzi:zi=z n) (hbi:bi≤b) (hB:B≤g) (hBw:B≤w.heap.size) (hn:n<65536):
    df P ⟨d,.call {callee:= .builtin .append,args:= #[x,y],argTypes:= #[t,t]},ty,pos,after,gd⟩ e w
      (fun v' w'=>Keeps (fun b=>b=g) w w'∧∃g' cap',v'= .slice (some ⟨g',0,none⟩) (n + 1) cap'∧B≤g'∧fi w' g' cap' (n + 1) z b):=by
  obtain ⟨g1,c0,c1,rfl,hT,hI⟩:=hO;subst hzi;refine df.mono (kn ht hb hz hx hy hQ hT (hI.up hbi hQ.1.2.2.1) hB hBw hn) ?_;rintro v' w' ⟨hk,g',c',h1,h2,_,h3⟩;exact ⟨hk,g',c',h1,h2,h3⟩
theorem nP {t m g0 n b B:Nat} {x y:Operand} {v:Value} {z:Nat→Int} (ht:sliceB P t 49 2 m=true) (hm:m≤32) (hz:(P.info? 49).bind (·.zero)=some (.agg #[.bool false,.slice none 0 0]))
    (hx:ev e x= .slice (some ⟨g0,0,none⟩) 0 0) (hA:bc w g0 49 0 (bP [])) (hy:ev e y=v) (hR:bD w v n z b) (hB:B≤g0) (hBw:B≤w.heap.size):
    df P ⟨d,.call {callee:= .builtin .append,args:= #[x,y],argTypes:= #[t,t]},ty,pos,after,gd⟩ e w
      (fun v' w'=>aF w w'∧∃g' cap',v'= .slice (some ⟨g',0,none⟩) n cap'∧B≤g'∧fi w' g' cap' n z b):=by
  rcases Nat.eq_zero_or_pos n with h0 | h0
  · subst h0
    obtain ⟨A,k,rfl,h2,h3,h4⟩:=hR;refine df.mono (gI ht hx hy).opX ?_;rintro v' w' ⟨rfl,rfl⟩;exact ⟨aF.refl _,g0,0,rfl,hB,fi.born hA z h3.2.2⟩
  · obtain ⟨A,k,rfl,h2,h3,h4⟩:=hR
    obtain ⟨g,rfl,m',f,hm',ha,hf⟩:=h4 h0;have hones:∀i,i<n*2→(f i).oneCell'=true:=fun i hi=>by
      have:=hf (i/2) (by omega);obtain ⟨c0,c1,h1,h2,h3⟩:=this.cells
      injection h1 with h1
      rcases (by omega:i=2*(i/2)∨i=2*(i/2) + 1) with e | e
      · rw [e];have h5:f (2*(i/2))=c0:=by have:=congrArg (fun a=>a[0]?) h1;simpa using this
        rw [h5];exact h2
      · rw [e];have h5:f (2*(i/2) + 1)=c1:=by have:=congrArg (fun a=>a[1]?) h1;simpa using this
        rw [h5];exact h3
    refine df.mono (fu (n:=0) (cap:=0) (kk:=n) (h:=f) [.bool false,.slice none 0 0] ht hm hz rfl rfl (by decide) hx hy hA (Nat.le_refl _) (by decide) (fun i hi=>by rw [Nat.zero_add];exact ha.cell (by omega)) hones (by omega)) ?_;rintro v' w' ⟨hk,g',cap',f',rfl,h5,h6,h7,h8,h9,h10⟩;rcases h7 with ⟨_,_,h7⟩ | ⟨h7,hx'⟩
    · omega
    · simp only [Nat.zero_add,Nat.zero_mul] at*
      refine ⟨hx',g',cap',rfl,Nat.le_trans hBw h7,⟨h5,h6,h3.2.2,by omega⟩,f',h8,fun j hj=> ?_⟩;rw [h10 (2*j) (by omega),h10 (2*j + 1) (by omega)];exact (hf j hj).ext hx'
end
end Go.TL
namespace Go.TL
open Go.RowKit Go.Proofs
set_option linter.unusedVariables false
set_option linter.unusedSimpArgs false
set_option maxRecDepth 10000 in
theorem oF (w:World) (r:Nat) (c:Nat) (b:Nat) (hr:r≤65536) (hc:c≤65536) (hb:b≤bp):Calls Tryz.prog 78 #[.int .i64 (r:Nat),.int .i64 (c:Nat)] w (cj w fun v w'=>cJ w' v w.heap.size r c (fun _ _=>0) b):=by
 have hLIM:bp=562949953421312:=rfl;refine aj (N:=22) (rs:= #[.cell 4 28]) Tryz.func78 rfl rfl rfl (Nat.le_of_ble_eq_true rfl) ?_;have hX:aF w w:=aF.refl w;refine ab ?_;refine RL.x rfl rfl (df.alloc [.int .i64 (0),.int .i64 (0),.slice (none) (0) (0)] co rfl) ?_;rintro _ w1 ⟨g1,rfl,hge1,hx1,hA1⟩;have hbs1:w.heap.size≤g1:=Nat.le_trans hX.size hge1;replace hX:=aF.trans hX hx1;refine RL.nil ?_;refine ab ?_;refine RL.x rfl rfl (cW az) ?_;rintro _ w2 ⟨g2,rfl,hge2,hx2,hA2⟩;have hbs2:w.heap.size≤g2:=Nat.le_trans hX.size hge2;replace hA1:=bc.ext hA1 hx2;replace hX:=aF.trans hX hx2;replace hA2:=cM.born (c:=c) hA2 hbs2 (by decide) (by omega) (fun _ _=>0) (b) (by omega);refine RL.p rfl rfl (cK.assign rfl) ?_;refine RL.nil ?_;refine WP.seq ?_;refine ab ?_;refine RL.p rfl rfl (cK.assign rfl) ?_;refine RL.nil ?_;refine WP.block ?_;refine WP.loop (fun mz ez uz=>∃i:Nat,∃gh:Nat,∃kh:Nat,∃ρ:Nat→Nat,(mz=r - i)∧(ez 0= .int .i64 ((r:Nat)))∧(ez 1= .int .i64 ((c:Nat)))∧(ez 4= .pointer (some ⟨g1,0,none⟩))∧(ez 5= .slice (some ⟨gh,0,none⟩) (i) (kh))∧(ez 6= .int .i64 ((i:Nat)))∧(i≤r)∧(w.heap.size≤gh)∧(aF w uz)∧(bc uz g1 28 3 (bP [.int .i64 (0),.int .i64 (0),.slice (none) (0) (0)]))∧(cM uz w.heap.size gh kh i c ρ (fun _ _=>0) b)) (r - 0) ?_ ?_
 · exact ⟨0,_,_,_,rfl,rfl,rfl,rfl,rfl,rfl,(by omega),hbs2,hX,hA1,hA2⟩
 rintro m1 e1 w3 ⟨i,gh,kh,ρ,hm1,s0_e1,s1_e1,s4_e1,s5_e1,s6_e1,hi,hgh,hX1,hA1,hA2⟩;have hdl:=cM.dlim hA2;refine WP.seq ?_;refine ab ?_;refine RL.p rfl rfl (cK.move s6_e1) ?_;refine RL.p rfl rfl (cK.move s0_e1) ?_;refine RL.p rfl rfl (cK.lss rfl rfl) ?_;refine RL.nil ?_;refine af (((i:Nat):Int)<((r:Nat):Int)) rfl (fun c10=> ?_) (fun c10=> ?_)
 ·
  refine WP.skip ?_;refine qf.norm ?_;refine WP.seq ?_;refine WP.block ?_;refine WP.region ?_;refine RL.p rfl rfl (cK.move s5_e1) ?_;refine RL.p rfl rfl (cK.move s1_e1) ?_;refine RL.x rfl rfl (dl (c) [.bool (false),.slice (none) (0) (0)] bl bC rfl rfl rfl (by omega) (by omega) (by omega) (by omega) (by decide)) ?_;rintro _ w4 ⟨g3,rfl,hge3,hx3,hA3⟩;have ne3:∀ii,ii<i→ρ ii≠g3:=fun ii hi=>Nat.ne_of_lt (Nat.lt_of_lt_of_le (cM.rowlt hA2 hi) hge3)
  have hbs3:w.heap.size≤g3:=Nat.le_trans hX1.size hge3;replace hA1:=bc.ext hA1 hx3;replace hA2:=cM.ext hA2 hx3;replace hX1:=aF.trans hX1 hx3;replace hA3:=lV hA3 (b) (by omega);refine RL.x rfl rfl (df.buildSlice (vs:= [(0,.slice (some ⟨g3,0,none⟩) (c) (c))]) [.slice (none) (0) (0)] [.slice (some ⟨g3,0,none⟩) (c) (c)] az oc rfl (ec rfl) rfl (by decide) qt rfl) ?_;rintro _ w5 ⟨g4,rfl,hge4,hx4,hA4⟩;replace hA1:=bc.ext hA1 hx4;replace hA2:=cM.ext hA2 hx4;replace hA3:=cz.ext hA3 hx4;replace hX1:=aF.trans hX1 hx4;refine RL.x rfl rfl (ph az (by decide) oc rfl rfl hA2 hA4 (BF _ _ _ _ (Nat.le_refl _) (by omega)) hA3 (fun j hj=>rfl) hbs3 hX1.size ne3 (by omega)) ?_;rintro _ w6 ⟨hk1,gh1,km1,rfl,hN1⟩;replace hA1:=jQ hA1 hk1 hA2 (by decide);replace hX1:=hX1.step hk1 (fun b e=>by subst e;exact hgh);have hbs5:w.heap.size≤gh1:=hN1.1;refine RL.p rfl rfl (cK.assign rfl) ?_;refine RL.nil ?_;refine jp.norm ?_;refine qf.norm ?_;refine WP.region ?_;refine RL.p rfl rfl (cK.move s6_e1) ?_;refine RL.p rfl rfl (cK.add (c:=((i + 1:Nat):Int)) rfl rfl (bY (by omega))) ?_;refine RL.p rfl rfl (cK.assign rfl) ?_;refine RL.nil ?_;refine qf.norm ⟨_,(by omega),i + 1,_,_,_,rfl,s0_e1,s1_e1,s4_e1,rfl,rfl,(by omega),hbs5,hX1,hA1,hN1⟩
 ·
  refine WP.exit ?_;refine qf.exit ?_;refine qf.exit ?_;refine jp.same ?_;refine qf.norm ?_;refine ab ?_;refine RL.p rfl rfl (cK.move s0_e1) ?_;refine RL.p rfl rfl (cK.move s1_e1) ?_;refine RL.p rfl rfl (cK.move s5_e1) ?_;refine RL.p rfl rfl (cK.build (vs:= [(0,.int .i64 ((r:Nat))),(1,.int .i64 ((c:Nat))),(2,.slice (some ⟨gh,0,none⟩) (i) (kh))]) [(0,1),(1,1),(2,1)] jX co (gp rfl rfl rfl) rfl) ?_;refine RL.x rfl rfl (df.store [.int .i64 ((r:Nat)),.int .i64 ((c:Nat)),.slice (some ⟨gh,0,none⟩) (i) (kh)] cX s4_e1 rfl rfl hA1 (Nat.le_of_ble_eq_true rfl) (cY rfl rfl rfl)) ?_;rintro _ w7 ⟨hk2,hnew⟩;replace hA2:=br hA2 hk2 hA1 (by decide);replace hX1:=hX1.step hk2 (fun b e=>by subst e;exact hbs1);replace hA1:=hnew.lit [.int .i64 ((r:Nat)),.int .i64 ((c:Nat)),.slice (some ⟨gh,0,none⟩) (i) (kh)] rfl;clear hnew;refine RL.nil ?_;refine WP.ret ?_;refine ⟨.agg #[.int .i64 ((r:Nat)),.int .i64 ((c:Nat)),.slice (some ⟨gh,0,none⟩) (i) (kh)],Bu.one (ak [.int .i64 ((r:Nat)),.int .i64 ((c:Nat)),.slice (some ⟨gh,0,none⟩) (i) (kh)] aZ s4_e1 (hA1.cells 0 _ rfl rfl)),_,rfl,hX1,?_⟩;dsimp only;have hir:i=r:=by omega
  subst hir;exact ⟨_,_,_,rfl,hA2⟩
set_option maxRecDepth 10000 in
theorem wk (w:World) (x:Value) (rx cx:Nat) (Mx:Nat→Nat→Int) (btx:Nat) (k:Value) (zk:Int) (btk:Nat) (hx:cc w x rx cx Mx btx) (hk:al w k zk btk) (hb:btx + btk≤bp):Calls Tryz.prog 73 #[x,k] w (cj w fun v w'=>cJ w' v w.heap.size rx cx (fun i j=>Mx i j*zk) (btx + btk)):=by
 have hLIM:bp=562949953421312:=rfl;have hmatx:=hx;obtain ⟨sx,rfl,hrx,hcx,hSx⟩:=hx.form;refine aj (N:=43) (rs:= #[.cell 4 28]) Tryz.func73 rfl rfl rfl (Nat.le_of_ble_eq_true rfl) ?_;have hX:aF w w:=aF.refl w;refine ab ?_;refine RL.x rfl rfl (df.box [.int .i64 ((rx:Nat)),.int .i64 ((cx:Nat)),sx] rfl rfl) ?_;rintro _ w1 ⟨g1,rfl,hge1,hx1,hA1⟩;replace hX:=aF.trans hX hx1;obtain ⟨ca1,cb1,hq1,ho1,ho2⟩:=al.cells (al.ext hk hX);have qi1:al w1 (.agg #[ca1,cb1]) zk btk:=hq1▸(al.ext hk hX);refine RL.x rfl rfl (df.box [ca1,cb1] hq1 rfl) ?_;rintro _ w2 ⟨g2,rfl,hge2,hx2,hA2⟩;replace hA1:=bc.ext hA1 hx2;replace qi1:=al.ext qi1 hx2;replace hX:=aF.trans hX hx2;refine RL.x rfl rfl (df.alloc [.int .i64 (0),.int .i64 (0),.slice (none) (0) (0)] co rfl) ?_;rintro _ w3 ⟨g3,rfl,hge3,hx3,hA3⟩;have hbs3:w.heap.size≤g3:=Nat.le_trans hX.size hge3;replace hA1:=bc.ext hA1 hx3;replace qi1:=al.ext qi1 hx3;replace hA2:=bc.ext hA2 hx3;replace hX:=aF.trans hX hx3;refine RL.nil ?_;refine ab ?_;refine RL.p rfl rfl (cK.fieldAddr bk rfl) ?_;refine RL.p rfl rfl (cK.load bI rfl (hA1.at_ (i:=0) rfl rfl)) ?_;refine RL.p rfl rfl (cK.fieldAddr bG rfl) ?_;refine RL.p rfl rfl (cK.load bI rfl (hA1.at_ (i:=1) rfl rfl)) ?_;have hBw1:w.heap.size≤w3.heap.size:=hX.size;have hlt1:g2<w3.heap.size:=hA2.lt;refine RL.x rfl rfl (df.call oe (aw rfl rfl) (oF _ rx cx (btx + btk) (by omega) (by omega) (by omega))) ?_;rintro v1 w4 ⟨hx4,q1⟩;replace hA1:=bc.ext hA1 hx4;replace qi1:=al.ext qi1 hx4;replace hA2:=bc.ext hA2 hx4;replace hA3:=bc.ext hA3 hx4;replace hX:=aF.trans hX hx4;refine RL.x rfl rfl (df.alloc [.int .i64 (0),.int .i64 (0),.slice (none) (0) (0)] co rfl) ?_;rintro _ w5 ⟨g4,rfl,hge4,hx5,hA4⟩;have ne4:g1≠g4:=Nat.ne_of_lt (Nat.lt_of_lt_of_le hA1.lt hge4);have ne5:g2≠g4:=Nat.ne_of_lt (Nat.lt_of_lt_of_le hA2.lt hge4);have ne6:g3≠g4:=Nat.ne_of_lt (Nat.lt_of_lt_of_le hA3.lt hge4);have hbs4:w.heap.size≤g4:=Nat.le_trans hX.size hge4;replace hA1:=bc.ext hA1 hx5;replace qi1:=al.ext qi1 hx5;replace hA2:=bc.ext hA2 hx5;replace hA3:=bc.ext hA3 hx5;replace q1:=cJ.ext q1 hx5;replace hX:=aF.trans hX hx5;obtain ⟨gh1,kh1,ρ1,hq2,hM1⟩:=q1;have hd1:=cM.dlim hM1;have hd2:=cM.clim hM1;have ne7:∀ii,ii<rx→ρ1 ii≠g2:=fun ii hi e=>by have:=cM.rowB hM1 hi;omega
 refine RL.x rfl rfl (df.store [.int .i64 ((rx:Nat)),.int .i64 ((cx:Nat)),.slice (some ⟨gh1,0,none⟩) (rx) (kh1)] cX rfl hq2 rfl hA4 (Nat.le_of_ble_eq_true rfl) (cY rfl rfl rfl)) ?_;rintro _ w6 ⟨hk1,hnew⟩;replace hM1:=br hM1 hk1 hA4 (by decide);replace hA1:=hA1.keep hk1 ne4;replace qi1:=ae qi1 hk1 hA4 (by decide);replace hA2:=hA2.keep hk1 ne5;replace hA3:=hA3.keep hk1 ne6;replace hX:=hX.step hk1 (fun b e=>by subst e;exact hbs4);replace hA4:=hnew.lit [.int .i64 ((rx:Nat)),.int .i64 ((cx:Nat)),.slice (some ⟨gh1,0,none⟩) (rx) (kh1)] rfl;clear hnew;refine RL.nil ?_;refine WP.seq ?_;refine ab ?_;refine RL.p rfl rfl (cK.assign rfl) ?_;refine RL.nil ?_;refine WP.block ?_;refine WP.loop (fun mz ez uz=>∃i:Nat,(mz=rx - i)∧(ez 2= .pointer (some ⟨g1,0,none⟩))∧(ez 3= .pointer (some ⟨g2,0,none⟩))∧(ez 4= .pointer (some ⟨g3,0,none⟩))∧(ez 5= .pointer (some ⟨g4,0,none⟩))∧(ez 6= .int .i64 ((i:Nat)))∧(i≤rx)∧(aF w uz)∧(bc uz g1 28 3 (bP [.int .i64 ((rx:Nat)),.int .i64 ((cx:Nat)),sx]))∧(al uz (.agg #[ca1,cb1]:Value) zk btk)∧(bc uz g2 49 2 (bP [ca1,cb1]))∧(bc uz g3 28 3 (bP [.int .i64 (0),.int .i64 (0),.slice (none) (0) (0)]))∧(bc uz g4 28 3 (bP [.int .i64 ((rx:Nat)),.int .i64 ((cx:Nat)),.slice (some ⟨gh1,0,none⟩) (rx) (kh1)]))∧(cM uz w3.heap.size gh1 kh1 rx cx ρ1 (cT (fun i j=>Mx i j*zk) i 0) (btx + btk))) (rx - 0) ?_ ?_
 · exact ⟨0,rfl,rfl,rfl,rfl,rfl,rfl,(by omega),hX,hA1,qi1,hA2,hA3,hA4,bH hM1 (gZ (fun i j=>Mx i j*zk))⟩
 rintro m1 e1 w7 ⟨i,hm1,s2_e1,s3_e1,s4_e1,s5_e1,s6_e1,hi,hX1,hA1,qi1,hA2,hA3,hA4,hM1⟩;refine WP.seq ?_;refine ab ?_;refine RL.p rfl rfl (cK.move s6_e1) ?_;refine RL.p rfl rfl (cK.fieldAddr bk s2_e1) ?_;refine RL.p rfl rfl (cK.load bI rfl (hA1.at_ (i:=0) rfl rfl)) ?_;refine RL.p rfl rfl (cK.lss rfl rfl) ?_;refine RL.nil ?_;refine af (((i:Nat):Int)<((rx:Nat):Int)) rfl (fun c16=> ?_) (fun c16=> ?_)
 ·
  refine WP.skip ?_;refine qf.norm ?_;refine WP.seq ?_;refine WP.block ?_;refine ab ?_;refine RL.p rfl rfl (cK.assign rfl) ?_;refine RL.nil ?_;refine WP.block ?_;refine WP.loop (fun mz ez uz=>∃j:Nat,(mz=cx - j)∧(ez 2= .pointer (some ⟨g1,0,none⟩))∧(ez 3= .pointer (some ⟨g2,0,none⟩))∧(ez 4= .pointer (some ⟨g3,0,none⟩))∧(ez 5= .pointer (some ⟨g4,0,none⟩))∧(ez 6= .int .i64 ((i:Nat)))∧(ez 7= .int .i64 ((j:Nat)))∧(j≤cx)∧(aF w uz)∧(bc uz g1 28 3 (bP [.int .i64 ((rx:Nat)),.int .i64 ((cx:Nat)),sx]))∧(al uz (.agg #[ca1,cb1]:Value) zk btk)∧(bc uz g2 49 2 (bP [ca1,cb1]))∧(bc uz g3 28 3 (bP [.int .i64 (0),.int .i64 (0),.slice (none) (0) (0)]))∧(bc uz g4 28 3 (bP [.int .i64 ((rx:Nat)),.int .i64 ((cx:Nat)),.slice (some ⟨gh1,0,none⟩) (rx) (kh1)]))∧(cM uz w3.heap.size gh1 kh1 rx cx ρ1 (cT (fun i j=>Mx i j*zk) i j) (btx + btk))) (cx - 0) ?_ ?_
  · exact ⟨0,rfl,s2_e1,s3_e1,s4_e1,s5_e1,s6_e1,rfl,(by omega),hX1,hA1,qi1,hA2,hA3,hA4,hM1⟩
  rintro m2 e2 w8 ⟨j,hm2,s2_e2,s3_e2,s4_e2,s5_e2,s6_e2,s7_e2,hj,hX2,hA1,qi1,hA2,hA3,hA4,hM1⟩;refine WP.seq ?_;refine ab ?_;refine RL.p rfl rfl (cK.move s7_e2) ?_;refine RL.p rfl rfl (cK.fieldAddr bG s2_e2) ?_;refine RL.p rfl rfl (cK.load bI rfl (hA1.at_ (i:=1) rfl rfl)) ?_;refine RL.p rfl rfl (cK.lss rfl rfl) ?_;refine RL.nil ?_;refine af (((j:Nat):Int)<((cx:Nat):Int)) rfl (fun c22=> ?_) (fun c22=> ?_)
  ·
   refine WP.skip ?_;refine qf.norm ?_;refine WP.seq ?_;refine WP.block ?_;refine WP.ds am 17 [_,_,_,_,_,_,_,_,_,_,_,_,_,_,_,_,_] rfl rfl (fun e_ w_ BY BX=>⟨fun _=>aa (cK.fieldAddr aq ((BX 5 rfl s5_e2))),fun BW=>aa (cK.load aG ((BW 0 rfl)) ((bc.ext hA4 BY).at_ (i:=2) rfl rfl)),fun _=>aa (cK.move ((BX 6 rfl s6_e2))),fun BW=>aa (cK.index (j:=i) az ((BW 1 rfl)) ((BW 2 rfl)) rfl (by omega) (by omega)),fun BW=>ag (ao (i:=i) aR (BW 3 rfl) (cM.ext hM1 BY) (by omega)),fun _=>aa (cK.move ((BX 7 rfl s7_e2))),fun _=>aa (cK.fieldAddr aq ((BX 2 rfl s2_e2))),fun BW=>aa (cK.load aG ((BW 6 rfl)) ((bc.ext hA1 BY).at_ (i:=2) rfl rfl)),fun _=>aa (cK.move ((BX 6 rfl s6_e2))),fun BW=>ag (aP (j:=i) az (BW 7 rfl) (cA.ext (cA.ext hSx hX2) BY) (BW 8 rfl) (by omega) (by omega)),fun BW=>ag (aV aR rfl (BW 9 rfl)),fun _=>aa (cK.move ((BX 7 rfl s7_e2))),fun BW=>ag (aQ (j:=j) bl rfl (BW 10 rfl) (BW 11 rfl) (by omega) (by omega)),fun BW=>ag (aW an rfl (BW 12 rfl)),fun _=>aa (ah [ca1,cb1] an ((BX 3 rfl s3_e2)) ((bc.ext hA2 BY).cells 0 _ rfl rfl)),fun BW=>df.call iK (aw rfl ((BW 14 rfl))) (iW _ _ _ _ _ _ _ ((btx) + (btk)) ((BW 13 rfl)) ((al.ext qi1 BY)) (by omega) (by omega)),fun BW=>aa (av (j:=j) bl (BW 4 rfl) rfl (BW 5 rfl) (by omega) (by omega)),trivial⟩) ?_;intro e3 w9 hx6 ho3 hf1;replace hA1:=bc.ext hA1 hx6;replace qi1:=al.ext qi1 hx6;replace hA2:=bc.ext hA2 hx6;replace hA3:=bc.ext hA3 hx6;replace hA4:=bc.ext hA4 hx6;replace hM1:=cM.ext hM1 hx6;replace hX2:=aF.trans hX2 hx6;have s2_e3:=ho3 2 rfl s2_e2;have s3_e3:=ho3 3 rfl s3_e2;have s4_e3:=ho3 4 rfl s4_e2;have s5_e3:=ho3 5 rfl s5_e2;have s6_e3:=ho3 6 rfl s6_e2;have s7_e3:=ho3 7 rfl s7_e2;have s40_e3:al w9 (e3 40) (((Mx i) j:Int)*(zk:Int)) ((btx) + (btk)):=hf1 15 rfl;have s41_e3:e3 41=_:=hf1 16 rfl;refine RL.x rfl rfl (bT (i:=i) (j:=j) aL s41_e3 rfl s40_e3 hM1 (by omega) (by omega)) ?_;rintro _ w10 ⟨hk2,hN1⟩;have hR1:=cM.row (i:=i) hM1 (by omega);replace hA1:=aU hA1 hk2 hR1 (by decide);replace qi1:=bZ qi1 hk2 hR1;replace hA2:=hA2.keep hk2 (Ne.symm (ne7 i (by omega)));replace hA3:=aU hA3 hk2 hR1 (by decide);replace hA4:=aU hA4 hk2 hR1 (by decide);replace hX2:=hX2.step hk2 (fun b e=>by subst e;exact (Nat.le_trans hBw1 (cM.rowB (i:=i) hM1 (by omega))));replace hM1:=hN1;clear hR1;refine RL.nil ?_;refine jp.norm ?_;refine qf.norm ?_;refine WP.region ?_;refine RL.p rfl rfl (cK.move s7_e3) ?_;refine RL.p rfl rfl (cK.add (c:=((j + 1:Nat):Int)) rfl rfl (bY (by omega))) ?_;refine RL.p rfl rfl (cK.assign rfl) ?_;refine RL.nil ?_;refine qf.norm ⟨_,(by omega),j + 1,rfl,s2_e3,s3_e3,s4_e3,s5_e3,s6_e3,rfl,(by omega),hX2,hA1,qi1,hA2,hA3,hA4,bH hM1 (fF (fun i j=>Mx i j*zk) i j)⟩
  ·
   refine WP.exit ?_;refine qf.exit ?_;refine qf.exit ?_;refine jp.same ?_;refine jp.norm ?_;refine qf.norm ?_;refine WP.region ?_;refine RL.p rfl rfl (cK.move s6_e2) ?_;refine RL.p rfl rfl (cK.add (c:=((i + 1:Nat):Int)) rfl rfl (bY (by omega))) ?_;refine RL.p rfl rfl (cK.assign rfl) ?_;refine RL.nil ?_;refine qf.norm ⟨_,(by omega),i + 1,rfl,s2_e2,s3_e2,s4_e2,s5_e2,rfl,(by omega),hX2,hA1,qi1,hA2,hA3,hA4,cM.congr hM1 fun a c2 ha hc2=>jF _ i (by omega)⟩
 ·
  refine WP.exit ?_;refine qf.exit ?_;refine qf.exit ?_;refine jp.same ?_;refine qf.norm ?_;refine ab ?_;refine RL.p rfl rfl (ah [.int .i64 ((rx:Nat)),.int .i64 ((cx:Nat)),.slice (some ⟨gh1,0,none⟩) (rx) (kh1)] aZ s5_e1 (hA4.cells 0 _ rfl rfl)) ?_;refine RL.x rfl rfl (df.store [.int .i64 ((rx:Nat)),.int .i64 ((cx:Nat)),.slice (some ⟨gh1,0,none⟩) (rx) (kh1)] cX s4_e1 rfl rfl hA3 (Nat.le_of_ble_eq_true rfl) (cY rfl rfl rfl)) ?_;rintro _ w11 ⟨hk3,hnew⟩;replace hM1:=br hM1 hk3 hA3 (by decide);replace hX1:=hX1.step hk3 (fun b e=>by subst e;exact hbs3);replace hA3:=hnew.lit [.int .i64 ((rx:Nat)),.int .i64 ((cx:Nat)),.slice (some ⟨gh1,0,none⟩) (rx) (kh1)] rfl;clear hnew;refine RL.nil ?_;refine WP.ret ?_;refine ⟨.agg #[.int .i64 ((rx:Nat)),.int .i64 ((cx:Nat)),.slice (some ⟨gh1,0,none⟩) (rx) (kh1)],Bu.one (ak [.int .i64 ((rx:Nat)),.int .i64 ((cx:Nat)),.slice (some ⟨gh1,0,none⟩) (rx) (kh1)] aZ s4_e1 (hA3.cells 0 _ rfl rfl)),_,rfl,hX1,?_⟩;dsimp only;exact ⟨_,_,_,rfl,cM.congr (cM.low hM1 hBw1) fun a c2 ha hc2=>by rw [show i=rx by omega];exact fg _ c2 ha⟩
set_option maxRecDepth 10000 in
theorem uj (w:World) (x:Value) (rx cx:Nat) (Mx:Nat→Nat→Int) (btx:Nat) (hx:cc w x rx cx Mx btx) (hb:btx + 1≤bp):Calls Tryz.prog 28 #[x] w (cj w fun v w'=>cJ w' v w.heap.size rx cx Mx (btx + 1)):=by
 have hLIM:bp=562949953421312:=rfl;have hmatx:=hx;obtain ⟨sx,rfl,hrx,hcx,hSx⟩:=hx.form;refine aj (N:=6) (rs:= #[.cell 2 28]) Tryz.func28 rfl rfl rfl (Nat.le_of_ble_eq_true rfl) ?_;have hX:aF w w:=aF.refl w;refine ab ?_;refine RL.x rfl rfl (df.box [.int .i64 ((rx:Nat)),.int .i64 ((cx:Nat)),sx] rfl rfl) ?_;rintro _ w1 ⟨g1,rfl,hge1,hx1,hA1⟩;replace hX:=aF.trans hX hx1;refine RL.x rfl rfl (df.alloc [.int .i64 (0),.int .i64 (0),.slice (none) (0) (0)] co rfl) ?_;rintro _ w2 ⟨g2,rfl,hge2,hx2,hA2⟩;have hbs2:w.heap.size≤g2:=Nat.le_trans hX.size hge2;replace hA1:=bc.ext hA1 hx2;replace hX:=aF.trans hX hx2;refine RL.nil ?_;have hBw1:w.heap.size≤w2.heap.size:=hX.size;refine aI am 3 [_,_,fun v BZ=>cJ BZ v w2.heap.size rx cx ((fun i j=>Mx i j*1)) (btx + 1)] rfl rfl (fun e_ w_ BY BX=>⟨fun _=>aa (ah [.int .i64 ((rx:Nat)),.int .i64 ((cx:Nat)),sx] aZ ((BX 1 rfl rfl)) ((bc.ext hA1 BY).cells 0 _ rfl rfl)),fun _=>df.call jZ (aN rfl) (oE (1) (1) _ (by decide) (by decide) (by decide)),fun BW=>df.mono (df.call AB (aw ((BW 0 rfl)) rfl) (wk _ _ _ _ _ _ _ _ _ (cc.mk (cA.ext (cA.ext hSx hX) BY) (by omega) (by omega)) (BW 1 rfl) (by omega))) fun v B0 hv=>⟨hv.1,cJ.low hv.2 BY.size⟩,trivial⟩) ?_;intro e1 w3 hx3 ho1 hf1;replace hA2:=bc.ext hA2 hx3;replace hX:=aF.trans hX hx3;have s2_e1:e1 2=_:=ho1 2 rfl rfl;have s5_e1:cJ w3 (e1 5) w2.heap.size rx cx ((fun i j=>Mx i j*1)) (btx + 1):=hf1 2 rfl;obtain ⟨gh1,kh1,ρ1,hq1,hM1⟩:=s5_e1;have hd1:=cM.dlim hM1;have hd2:=cM.clim hM1;refine RL.x rfl rfl (df.store [.int .i64 ((rx:Nat)),.int .i64 ((cx:Nat)),.slice (some ⟨gh1,0,none⟩) (rx) (kh1)] cX s2_e1 hq1 rfl hA2 (Nat.le_of_ble_eq_true rfl) (cY rfl rfl rfl)) ?_;rintro _ w4 ⟨hk1,hnew⟩;replace hM1:=br hM1 hk1 hA2 (by decide);replace hX:=hX.step hk1 (fun b e=>by subst e;exact hbs2);replace hA2:=hnew.lit [.int .i64 ((rx:Nat)),.int .i64 ((cx:Nat)),.slice (some ⟨gh1,0,none⟩) (rx) (kh1)] rfl;clear hnew;refine RL.nil ?_;refine WP.ret ?_;refine ⟨.agg #[.int .i64 ((rx:Nat)),.int .i64 ((cx:Nat)),.slice (some ⟨gh1,0,none⟩) (rx) (kh1)],Bu.one (ak [.int .i64 ((rx:Nat)),.int .i64 ((cx:Nat)),.slice (some ⟨gh1,0,none⟩) (rx) (kh1)] aZ s2_e1 (hA2.cells 0 _ rfl rfl)),_,rfl,hX,?_⟩;dsimp only;exact cJ.congr (⟨_,_,_,rfl,cM.low hM1 (hBw1)⟩) (fun i j _ _=>Int.mul_one _)
set_option maxRecDepth 10000 in
theorem AY (w:World) (x:Value) (nx:Nat) (zx:Nat→Int) (btx:Nat) (hx:bD w x nx zx btx):Calls Tryz.prog 106 #[x] w (cj w fun v w'=>cc w' v 1 nx (fun _=>zx) btx):=by
 have hLIM:bp=562949953421312:=rfl;have hlimx:=hx.lim;refine aj (N:=8) (rs:= #[.cell 2 28]) Tryz.func106 rfl rfl rfl (Nat.le_of_ble_eq_true rfl) ?_;have hX:aF w w:=aF.refl w;refine ab ?_;refine RL.x rfl rfl (df.alloc [.int .i64 (0),.int .i64 (0),.slice (none) (0) (0)] co rfl) ?_;rintro _ w1 ⟨g1,rfl,hge1,hx1,hA1⟩;have hbs1:w.heap.size≤g1:=Nat.le_trans hX.size hge1;replace hX:=aF.trans hX hx1;refine RL.nil ?_;refine ab ?_;refine RL.p rfl rfl (cK.move rfl) ?_;refine RL.p rfl rfl (bW bX rfl (bD.ext hx hX)) ?_;refine RL.p rfl rfl (cK.move rfl) ?_;refine RL.x rfl rfl (df.buildSlice (vs:= [(0,x)]) [.slice none 0 0] [x] az oc rfl (ec rfl) rfl (by decide) qt (Bc (bD.ext hx hX))) ?_;rintro _ w2 ⟨g2,rfl,hge2,hx2,hA2⟩;replace hA1:=bc.ext hA1 hx2;replace hX:=aF.trans hX hx2;have q1:=wF hA2 (bD.ext hx hX);obtain ⟨sv1,hsv_sv1⟩:∃x:Value,x= .slice (some ⟨g2,0,none⟩) (1) (1):=⟨_,rfl⟩
 rw [←hsv_sv1] at q1;refine RL.p rfl rfl (cK.build (vs:= [(0,.int .i64 (1)),(1,.int .i64 ((nx:Nat))),(2,sv1)]) [(0,1),(1,1),(2,1)] jX co (gp rfl rfl hsv_sv1.symm) (ye q1)) ?_;refine RL.x rfl rfl (df.store [.int .i64 (1),.int .i64 ((nx:Nat)),sv1] cX rfl rfl rfl hA1 (Nat.le_of_ble_eq_true rfl) (cY rfl rfl (q1.one))) ?_;rintro _ w3 ⟨hk1,hnew⟩;replace q1:=bM q1 hk1 hA1 (by decide);replace hX:=hX.step hk1 (fun b e=>by subst e;exact hbs1);replace hA1:=hnew.lit [.int .i64 (1),.int .i64 ((nx:Nat)),sv1] rfl;clear hnew;refine RL.nil ?_;refine WP.ret ?_;refine ⟨.agg #[.int .i64 (1),.int .i64 ((nx:Nat)),sv1],Bu.one (ak [.int .i64 (1),.int .i64 ((nx:Nat)),sv1] aZ rfl (hA1.cells 0 _ rfl rfl)),_,rfl,hX,?_⟩;dsimp only;exact (cc.mk q1 (by decide) (by omega))
end Go.TL
namespace Go.TL
open Go.RowKit Go.Proofs
set_option linter.unusedVariables false
set_option linter.unusedSimpArgs false
set_option maxRecDepth 10000 in
theorem iv (w:World) (n:Nat) (hn:n≤65536):Calls Tryz.prog 47 #[.int .i64 (n:Nat)] w (cj w fun v w'=>cJ w' v w.heap.size n n dC 1):=by
 have hLIM:bp=562949953421312:=rfl;refine aj (N:=22) (rs:= #[.cell 2 28]) Tryz.func47 rfl rfl rfl (Nat.le_of_ble_eq_true rfl) ?_;have hX:aF w w:=aF.refl w;refine ab ?_;refine RL.x rfl rfl (df.alloc [.int .i64 (0),.int .i64 (0),.slice (none) (0) (0)] co rfl) ?_;rintro _ w1 ⟨g1,rfl,hge1,hx1,hA1⟩;have hbs1:w.heap.size≤g1:=Nat.le_trans hX.size hge1;replace hX:=aF.trans hX hx1;refine RL.nil ?_;refine ab ?_;refine RL.p rfl rfl (cK.move rfl) ?_;refine RL.p rfl rfl (cK.move rfl) ?_;have hBw1:w.heap.size≤w1.heap.size:=hX.size;refine RL.x rfl rfl (df.call oe (aw rfl rfl) (oF _ n n 1 (by omega) (by omega) (by omega))) ?_;rintro v1 w2 ⟨hx2,q1⟩;replace hA1:=bc.ext hA1 hx2;replace hX:=aF.trans hX hx2;refine RL.x rfl rfl (df.alloc [.int .i64 (0),.int .i64 (0),.slice (none) (0) (0)] co rfl) ?_;rintro _ w3 ⟨g2,rfl,hge2,hx3,hA2⟩;have ne1:g1≠g2:=Nat.ne_of_lt (Nat.lt_of_lt_of_le hA1.lt hge2);have hbs2:w.heap.size≤g2:=Nat.le_trans hX.size hge2;replace hA1:=bc.ext hA1 hx3;replace q1:=cJ.ext q1 hx3;replace hX:=aF.trans hX hx3;obtain ⟨gh1,kh1,ρ1,hq1,hM1⟩:=q1;have hd1:=cM.dlim hM1;have hd2:=cM.clim hM1;refine RL.x rfl rfl (df.store [.int .i64 ((n:Nat)),.int .i64 ((n:Nat)),.slice (some ⟨gh1,0,none⟩) (n) (kh1)] cX rfl hq1 rfl hA2 (Nat.le_of_ble_eq_true rfl) (cY rfl rfl rfl)) ?_;rintro _ w4 ⟨hk1,hnew⟩;replace hM1:=br hM1 hk1 hA2 (by decide);replace hA1:=hA1.keep hk1 ne1;replace hX:=hX.step hk1 (fun b e=>by subst e;exact hbs2);replace hA2:=hnew.lit [.int .i64 ((n:Nat)),.int .i64 ((n:Nat)),.slice (some ⟨gh1,0,none⟩) (n) (kh1)] rfl;clear hnew;refine RL.nil ?_;refine WP.seq ?_;refine ab ?_;refine RL.p rfl rfl (cK.assign rfl) ?_;refine RL.nil ?_;refine WP.block ?_;refine WP.loop (fun mz ez uz=>∃i:Nat,(mz=n - i)∧(ez 0= .int .i64 ((n:Nat)))∧(ez 2= .pointer (some ⟨g1,0,none⟩))∧(ez 3= .pointer (some ⟨g2,0,none⟩))∧(ez 4= .int .i64 ((i:Nat)))∧(i≤n)∧(aF w uz)∧(bc uz g1 28 3 (bP [.int .i64 (0),.int .i64 (0),.slice (none) (0) (0)]))∧(bc uz g2 28 3 (bP [.int .i64 ((n:Nat)),.int .i64 ((n:Nat)),.slice (some ⟨gh1,0,none⟩) (n) (kh1)]))∧(cM uz w1.heap.size gh1 kh1 n n ρ1 (yg i) 1)) (n - 0) ?_ ?_
 · exact ⟨0,rfl,rfl,rfl,rfl,rfl,(by omega),hX,hA1,hA2,bH hM1 xc⟩
 rintro m1 e1 w5 ⟨i,hm1,s0_e1,s2_e1,s3_e1,s4_e1,hi,hX1,hA1,hA2,hM1⟩;refine WP.seq ?_;refine ab ?_;refine RL.p rfl rfl (cK.move s4_e1) ?_;refine RL.p rfl rfl (cK.move s0_e1) ?_;refine RL.p rfl rfl (cK.lss rfl rfl) ?_;refine RL.nil ?_;refine af (((i:Nat):Int)<((n:Nat):Int)) rfl (fun c10=> ?_) (fun c10=> ?_)
 ·
  refine WP.skip ?_;refine qf.norm ?_;refine WP.seq ?_;refine WP.block ?_;refine WP.ds am 8 [_,_,_,_,_,_,_,_] rfl rfl (fun e_ w_ BY BX=>⟨fun _=>aa (cK.fieldAddr aq ((BX 3 rfl s3_e1))),fun BW=>aa (cK.load aG ((BW 0 rfl)) ((bc.ext hA2 BY).at_ (i:=2) rfl rfl)),fun _=>aa (cK.move ((BX 4 rfl s4_e1))),fun BW=>aa (cK.index (j:=i) az ((BW 1 rfl)) ((BW 2 rfl)) rfl (by omega) (by omega)),fun BW=>ag (ao (i:=i) aR (BW 3 rfl) (cM.ext hM1 BY) (by omega)),fun _=>aa (cK.move ((BX 4 rfl s4_e1))),fun _=>df.call jZ (aN rfl) (oE (1) (1) _ (by decide) (by decide) (by decide)),fun BW=>aa (av (j:=i) bl (BW 4 rfl) rfl (BW 5 rfl) (by omega) (by omega)),trivial⟩) ?_;intro e2 w6 hx4 ho1 hf1;replace hA1:=bc.ext hA1 hx4;replace hA2:=bc.ext hA2 hx4;replace hM1:=cM.ext hM1 hx4;replace hX1:=aF.trans hX1 hx4;have s0_e2:=ho1 0 rfl s0_e1;have s2_e2:=ho1 2 rfl s2_e1;have s3_e2:=ho1 3 rfl s3_e1;have s4_e2:=ho1 4 rfl s4_e1;have s19_e2:al w6 (e2 19) 1 1:=hf1 6 rfl;have s20_e2:e2 20=_:=hf1 7 rfl;refine RL.x rfl rfl (bT (i:=i) (j:=i) aL s20_e2 rfl s19_e2 hM1 (by omega) (by omega)) ?_;rintro _ w7 ⟨hk2,hN1⟩;have hR1:=cM.row (i:=i) hM1 (by omega);replace hA1:=aU hA1 hk2 hR1 (by decide);replace hA2:=aU hA2 hk2 hR1 (by decide);replace hX1:=hX1.step hk2 (fun b e=>by subst e;exact (Nat.le_trans hBw1 (cM.rowB (i:=i) hM1 (by omega))));replace hM1:=hN1;clear hR1;refine RL.nil ?_;refine jp.norm ?_;refine qf.norm ?_;refine WP.region ?_;refine RL.p rfl rfl (cK.move s4_e2) ?_;refine RL.p rfl rfl (cK.add (c:=((i + 1:Nat):Int)) rfl rfl (bY (by omega))) ?_;refine RL.p rfl rfl (cK.assign rfl) ?_;refine RL.nil ?_;refine qf.norm ⟨_,(by omega),i + 1,rfl,s0_e2,s2_e2,s3_e2,rfl,(by omega),hX1,hA1,hA2,bH hM1 (xb i)⟩
 ·
  refine WP.exit ?_;refine qf.exit ?_;refine qf.exit ?_;refine jp.same ?_;refine qf.norm ?_;refine ab ?_;refine RL.p rfl rfl (ah [.int .i64 ((n:Nat)),.int .i64 ((n:Nat)),.slice (some ⟨gh1,0,none⟩) (n) (kh1)] aZ s3_e1 (hA2.cells 0 _ rfl rfl)) ?_;refine RL.x rfl rfl (df.store [.int .i64 ((n:Nat)),.int .i64 ((n:Nat)),.slice (some ⟨gh1,0,none⟩) (n) (kh1)] cX s2_e1 rfl rfl hA1 (Nat.le_of_ble_eq_true rfl) (cY rfl rfl rfl)) ?_;rintro _ w8 ⟨hk3,hnew⟩;replace hM1:=br hM1 hk3 hA1 (by decide);replace hX1:=hX1.step hk3 (fun b e=>by subst e;exact hbs1);replace hA1:=hnew.lit [.int .i64 ((n:Nat)),.int .i64 ((n:Nat)),.slice (some ⟨gh1,0,none⟩) (n) (kh1)] rfl;clear hnew;refine RL.nil ?_;refine WP.ret ?_;refine ⟨.agg #[.int .i64 ((n:Nat)),.int .i64 ((n:Nat)),.slice (some ⟨gh1,0,none⟩) (n) (kh1)],Bu.one (ak [.int .i64 ((n:Nat)),.int .i64 ((n:Nat)),.slice (some ⟨gh1,0,none⟩) (n) (kh1)] aZ s2_e1 (hA1.cells 0 _ rfl rfl)),_,rfl,hX1,?_⟩;dsimp only;exact ⟨_,_,_,rfl,cM.congr (cM.low hM1 hBw1) fun a c2 ha hc2=>xd c2 (by omega)⟩
set_option maxRecDepth 10000 in
theorem zc (w:World) (x:Value) (rx cx:Nat) (Mx:Nat→Nat→Int) (btx:Nat) (y:Value) (ry cy:Nat) (My:Nat→Nat→Int) (bty:Nat) (b:Nat) (hx:cc w x rx cx Mx btx) (hy:cc w y ry cy My bty) (hxy:cx=ry) (hb:btx + bty + 1≤bp) (hb2:b + 1≤bp) (hfit:∀i j k,i<rx→j<cy→k≤cx→(aJ k (fun x=>Mx i x*My x j)).natAbs<2^b):Calls Tryz.prog 90 #[x,y] w (cj w fun v w'=>∃v1,v= .tuple #[v1,.int .i64 0]∧cJ w' v1 w.heap.size rx cy (bt cx Mx My) b):=by
 have hLIM:bp=562949953421312:=rfl;have hmatx:=hx;obtain ⟨sx,rfl,hrx,hcx,hSx⟩:=hx.form;have hmaty:=hy;obtain ⟨sy,rfl,hry,hcy,hSy⟩:=hy.form;refine aj (N:=73) (rs:= #[.cell 4 28,.tmp 5]) Tryz.func90 rfl rfl rfl (Nat.le_of_ble_eq_true rfl) ?_;have hX:aF w w:=aF.refl w;refine ab ?_;refine RL.x rfl rfl (df.box [.int .i64 ((rx:Nat)),.int .i64 ((cx:Nat)),sx] rfl rfl) ?_;rintro _ w1 ⟨g1,rfl,hge1,hx1,hA1⟩;replace hX:=aF.trans hX hx1;refine RL.x rfl rfl (df.box [.int .i64 ((ry:Nat)),.int .i64 ((cy:Nat)),sy] rfl rfl) ?_;rintro _ w2 ⟨g2,rfl,hge2,hx2,hA2⟩;replace hA1:=bc.ext hA1 hx2;replace hX:=aF.trans hX hx2;refine RL.x rfl rfl (df.alloc [.int .i64 (0),.int .i64 (0),.slice (none) (0) (0)] co rfl) ?_;rintro _ w3 ⟨g3,rfl,hge3,hx3,hA3⟩;have hbs3:w.heap.size≤g3:=Nat.le_trans hX.size hge3;replace hA1:=bc.ext hA1 hx3;replace hA2:=bc.ext hA2 hx3;replace hX:=aF.trans hX hx3;refine RL.p rfl rfl (cK.assign rfl) ?_;refine RL.nil ?_;refine WP.seq ?_;refine ab ?_;refine RL.p rfl rfl (cK.fieldAddr bG rfl) ?_;refine RL.p rfl rfl (cK.load bI rfl (hA1.at_ (i:=1) rfl rfl)) ?_;refine RL.p rfl rfl (cK.fieldAddr bk rfl) ?_;refine RL.p rfl rfl (cK.load bI rfl (hA2.at_ (i:=0) rfl rfl)) ?_;refine RL.p rfl rfl (cK.neq rfl rfl) ?_;refine RL.nil ?_;refine af (((cx:Nat):Int)≠((ry:Nat):Int)) rfl (fun hn=>absurd hn ((by omega))) (fun c14=> ?_);refine WP.skip ?_;refine qf.norm ?_;refine ab ?_;refine RL.p rfl rfl (cK.fieldAddr bk rfl) ?_;refine RL.p rfl rfl (cK.load bI rfl (hA1.at_ (i:=0) rfl rfl)) ?_;refine RL.p rfl rfl (cK.fieldAddr bG rfl) ?_;refine RL.p rfl rfl (cK.load bI rfl (hA2.at_ (i:=1) rfl rfl)) ?_;have hBw1:w.heap.size≤w3.heap.size:=hX.size;refine RL.x rfl rfl (df.call oe (aw rfl rfl) (oF _ rx cy b (by omega) (by omega) (by omega))) ?_;rintro v1 w4 ⟨hx4,q1⟩;replace hA1:=bc.ext hA1 hx4;replace hA2:=bc.ext hA2 hx4;replace hA3:=bc.ext hA3 hx4;replace hX:=aF.trans hX hx4;refine RL.x rfl rfl (df.alloc [.int .i64 (0),.int .i64 (0),.slice (none) (0) (0)] co rfl) ?_;rintro _ w5 ⟨g4,rfl,hge4,hx5,hA4⟩;have ne4:g1≠g4:=Nat.ne_of_lt (Nat.lt_of_lt_of_le hA1.lt hge4);have ne5:g2≠g4:=Nat.ne_of_lt (Nat.lt_of_lt_of_le hA2.lt hge4);have ne6:g3≠g4:=Nat.ne_of_lt (Nat.lt_of_lt_of_le hA3.lt hge4);have hbs4:w.heap.size≤g4:=Nat.le_trans hX.size hge4;replace hA1:=bc.ext hA1 hx5;replace hA2:=bc.ext hA2 hx5;replace hA3:=bc.ext hA3 hx5;replace q1:=cJ.ext q1 hx5;replace hX:=aF.trans hX hx5;obtain ⟨gh1,kh1,ρ1,hq1,hM1⟩:=q1;have hd1:=cM.dlim hM1;have hd2:=cM.clim hM1;refine RL.x rfl rfl (df.store [.int .i64 ((rx:Nat)),.int .i64 ((cy:Nat)),.slice (some ⟨gh1,0,none⟩) (rx) (kh1)] cX rfl hq1 rfl hA4 (Nat.le_of_ble_eq_true rfl) (cY rfl rfl rfl)) ?_;rintro _ w6 ⟨hk1,hnew⟩;replace hM1:=br hM1 hk1 hA4 (by decide);replace hA1:=hA1.keep hk1 ne4;replace hA2:=hA2.keep hk1 ne5;replace hA3:=hA3.keep hk1 ne6;replace hX:=hX.step hk1 (fun b e=>by subst e;exact hbs4);replace hA4:=hnew.lit [.int .i64 ((rx:Nat)),.int .i64 ((cy:Nat)),.slice (some ⟨gh1,0,none⟩) (rx) (kh1)] rfl;clear hnew;refine RL.nil ?_;refine WP.seq ?_;refine ab ?_;refine RL.p rfl rfl (cK.assign rfl) ?_;refine RL.nil ?_;refine WP.block ?_;refine WP.loop (fun mz ez uz=>∃i:Nat,(mz=rx - i)∧(ez 2= .pointer (some ⟨g1,0,none⟩))∧(ez 3= .pointer (some ⟨g2,0,none⟩))∧(ez 4= .pointer (some ⟨g3,0,none⟩))∧(ez 5= .int .i64 (0))∧(ez 6= .pointer (some ⟨g4,0,none⟩))∧(ez 7= .int .i64 ((i:Nat)))∧(i≤rx)∧(aF w uz)∧(bc uz g1 28 3 (bP [.int .i64 ((rx:Nat)),.int .i64 ((cx:Nat)),sx]))∧(bc uz g2 28 3 (bP [.int .i64 ((ry:Nat)),.int .i64 ((cy:Nat)),sy]))∧(bc uz g3 28 3 (bP [.int .i64 (0),.int .i64 (0),.slice (none) (0) (0)]))∧(bc uz g4 28 3 (bP [.int .i64 ((rx:Nat)),.int .i64 ((cy:Nat)),.slice (some ⟨gh1,0,none⟩) (rx) (kh1)]))∧(cM uz w3.heap.size gh1 kh1 rx cy ρ1 (cT (bt cx Mx My) i 0) b)) (rx - 0) ?_ ?_
 · exact ⟨0,rfl,rfl,rfl,rfl,rfl,rfl,rfl,(by omega),hX,hA1,hA2,hA3,hA4,bH hM1 (gZ (bt cx Mx My))⟩
 rintro m1 e1 w7 ⟨i,hm1,s2_e1,s3_e1,s4_e1,s5_e1,s6_e1,s7_e1,hi,hX1,hA1,hA2,hA3,hA4,hM1⟩;refine WP.seq ?_;refine ab ?_;refine RL.p rfl rfl (cK.move s7_e1) ?_;refine RL.p rfl rfl (cK.fieldAddr bk s2_e1) ?_;refine RL.p rfl rfl (cK.load bI rfl (hA1.at_ (i:=0) rfl rfl)) ?_;refine RL.p rfl rfl (cK.lss rfl rfl) ?_;refine RL.nil ?_;refine af (((i:Nat):Int)<((rx:Nat):Int)) rfl (fun c24=> ?_) (fun c24=> ?_)
 ·
  refine WP.skip ?_;refine qf.norm ?_;refine WP.seq ?_;refine WP.block ?_;refine ab ?_;refine RL.p rfl rfl (cK.assign rfl) ?_;refine RL.nil ?_;refine WP.block ?_;refine WP.loop (fun mz ez uz=>∃j:Nat,(mz=cy - j)∧(ez 2= .pointer (some ⟨g1,0,none⟩))∧(ez 3= .pointer (some ⟨g2,0,none⟩))∧(ez 4= .pointer (some ⟨g3,0,none⟩))∧(ez 5= .int .i64 (0))∧(ez 6= .pointer (some ⟨g4,0,none⟩))∧(ez 7= .int .i64 ((i:Nat)))∧(ez 8= .int .i64 ((j:Nat)))∧(j≤cy)∧(aF w uz)∧(bc uz g1 28 3 (bP [.int .i64 ((rx:Nat)),.int .i64 ((cx:Nat)),sx]))∧(bc uz g2 28 3 (bP [.int .i64 ((ry:Nat)),.int .i64 ((cy:Nat)),sy]))∧(bc uz g3 28 3 (bP [.int .i64 (0),.int .i64 (0),.slice (none) (0) (0)]))∧(bc uz g4 28 3 (bP [.int .i64 ((rx:Nat)),.int .i64 ((cy:Nat)),.slice (some ⟨gh1,0,none⟩) (rx) (kh1)]))∧(cM uz w3.heap.size gh1 kh1 rx cy ρ1 (cT (bt cx Mx My) i j) b)) (cy - 0) ?_ ?_
  · exact ⟨0,rfl,s2_e1,s3_e1,s4_e1,s5_e1,s6_e1,s7_e1,rfl,(by omega),hX1,hA1,hA2,hA3,hA4,hM1⟩
  rintro m2 e2 w8 ⟨j,hm2,s2_e2,s3_e2,s4_e2,s5_e2,s6_e2,s7_e2,s8_e2,hj,hX2,hA1,hA2,hA3,hA4,hM1⟩;refine WP.seq ?_;refine ab ?_;refine RL.p rfl rfl (cK.move s8_e2) ?_;refine RL.p rfl rfl (cK.fieldAddr bG s3_e2) ?_;refine RL.p rfl rfl (cK.load bI rfl (hA2.at_ (i:=1) rfl rfl)) ?_;refine RL.p rfl rfl (cK.lss rfl rfl) ?_;refine RL.nil ?_;refine af (((j:Nat):Int)<((cy:Nat):Int)) rfl (fun c30=> ?_) (fun c30=> ?_)
  ·
   refine WP.skip ?_;refine qf.norm ?_;refine WP.seq ?_;refine WP.block ?_;refine ab ?_;refine RL.p rfl rfl (cK.assign rfl) ?_;refine RL.nil ?_;refine WP.block ?_;refine WP.loop (fun mz ez uz=>∃k:Nat,(mz=cx - k)∧(ez 2= .pointer (some ⟨g1,0,none⟩))∧(ez 3= .pointer (some ⟨g2,0,none⟩))∧(ez 4= .pointer (some ⟨g3,0,none⟩))∧(ez 5= .int .i64 (0))∧(ez 6= .pointer (some ⟨g4,0,none⟩))∧(ez 7= .int .i64 ((i:Nat)))∧(ez 8= .int .i64 ((j:Nat)))∧(ez 9= .int .i64 ((k:Nat)))∧(k≤cx)∧(aF w uz)∧(bc uz g1 28 3 (bP [.int .i64 ((rx:Nat)),.int .i64 ((cx:Nat)),sx]))∧(bc uz g2 28 3 (bP [.int .i64 ((ry:Nat)),.int .i64 ((cy:Nat)),sy]))∧(bc uz g3 28 3 (bP [.int .i64 (0),.int .i64 (0),.slice (none) (0) (0)]))∧(bc uz g4 28 3 (bP [.int .i64 ((rx:Nat)),.int .i64 ((cy:Nat)),.slice (some ⟨gh1,0,none⟩) (rx) (kh1)]))∧(cM uz w3.heap.size gh1 kh1 rx cy ρ1 (eA (cT (bt cx Mx My) i j) i j (aJ k (fun x=>Mx i x*My x j))) b)) (cx - 0) ?_ ?_
   · exact ⟨0,rfl,s2_e2,s3_e2,s4_e2,s5_e2,s6_e2,s7_e2,s8_e2,rfl,(by omega),hX2,hA1,hA2,hA3,hA4,bH hM1 (mul_zero _ i j)⟩
   rintro m3 e3 w9 ⟨k,hm3,s2_e3,s3_e3,s4_e3,s5_e3,s6_e3,s7_e3,s8_e3,s9_e3,hk,hX3,hA1,hA2,hA3,hA4,hM1⟩;refine WP.seq ?_;refine ab ?_;refine RL.p rfl rfl (cK.move s9_e3) ?_;refine RL.p rfl rfl (cK.fieldAddr bG s2_e3) ?_;refine RL.p rfl rfl (cK.load bI rfl (hA1.at_ (i:=1) rfl rfl)) ?_;refine RL.p rfl rfl (cK.lss rfl rfl) ?_;refine RL.nil ?_;refine af (((k:Nat):Int)<((cx:Nat):Int)) rfl (fun c36=> ?_) (fun c36=> ?_)
   ·
    refine WP.skip ?_;refine qf.norm ?_;refine WP.seq ?_;refine WP.block ?_;refine WP.ds (hmono:=⟨⟨ac _,ac _,ac _,ac _,ct _ _,ac _,ac _,ac _,ac _,ac _,ct _ _,ac _,ac _,bA _ _,ac _,ac _,ac _,jH _ _ _,jG _ _ _,ac _,fH _ _,bA _ _,ac _,ac _,ac _,jH _ _ _,jG _ _ _,ac _,fH _ _,bA _ _,bA _ _,bA _ _,ac _,trivial⟩⟩) am 33 (_::_::_:: [_,_,_,_,_,_,_,_,_,_,_,_,_,_,_,_,_,_,_,_,_,_,_,_,_,_,_,_,_,_]) rfl rfl (fun e_ w_ BY BX=>⟨fun _=>aa (cK.fieldAddr aq ((BX 6 rfl s6_e3))),fun BW=>aa (cK.load aG ((BW 0 rfl)) ((bc.ext hA4 BY).at_ (i:=2) rfl rfl)),fun _=>aa (cK.move ((BX 7 rfl s7_e3))),fun BW=>aa (cK.index (j:=i) az ((BW 1 rfl)) ((BW 2 rfl)) rfl (by omega) (by omega)),fun BW=>ag (ao (i:=i) aR (BW 3 rfl) (cM.ext hM1 BY) (by omega)),fun _=>aa (cK.move ((BX 8 rfl s8_e3))),fun _=>aa (cK.fieldAddr aq ((BX 6 rfl s6_e3))),fun BW=>aa (cK.load aG ((BW 6 rfl)) ((bc.ext hA4 BY).at_ (i:=2) rfl rfl)),fun _=>aa (cK.move ((BX 7 rfl s7_e3))),fun BW=>aa (cK.index (j:=i) az ((BW 7 rfl)) ((BW 8 rfl)) rfl (by omega) (by omega)),fun BW=>ag (ao (i:=i) aR (BW 9 rfl) (cM.ext hM1 BY) (by omega)),fun _=>aa (cK.move ((BX 8 rfl s8_e3))),fun BW=>aa (av (j:=j) bl (BW 10 rfl) rfl (BW 11 rfl) (by omega) (by omega)),fun BW=>ag (aO (j:=j) an (BW 12 rfl) (cM.row (cM.ext hM1 BY) (by omega)) (by omega)),fun _=>aa (cK.fieldAddr aq ((BX 2 rfl s2_e3))),fun BW=>aa (cK.load aG ((BW 14 rfl)) ((bc.ext hA1 BY).at_ (i:=2) rfl rfl)),fun _=>aa (cK.move ((BX 7 rfl s7_e3))),fun BW=>ag (aP (j:=i) az (BW 15 rfl) (cA.ext (cA.ext hSx hX3) BY) (BW 16 rfl) (by omega) (by omega)),fun BW=>ag (aV aR rfl (BW 17 rfl)),fun _=>aa (cK.move ((BX 9 rfl s9_e3))),fun BW=>ag (aQ (j:=k) bl rfl (BW 18 rfl) (BW 19 rfl) (by omega) (by omega)),fun BW=>ag (aW an rfl (BW 20 rfl)),fun _=>aa (cK.fieldAddr aq ((BX 3 rfl s3_e3))),fun BW=>aa (cK.load aG ((BW 22 rfl)) ((bc.ext hA2 BY).at_ (i:=2) rfl rfl)),fun _=>aa (cK.move ((BX 9 rfl s9_e3))),fun BW=>ag (aP (j:=k) az (BW 23 rfl) (cA.ext (cA.ext hSy hX3) BY) (BW 24 rfl) (by omega) (by omega)),fun BW=>ag (aV aR rfl (BW 25 rfl)),fun _=>aa (cK.move ((BX 8 rfl s8_e3))),fun BW=>ag (aQ (j:=j) bl rfl (BW 26 rfl) (BW 27 rfl) (by omega) (by omega)),fun BW=>ag (aW an rfl (BW 28 rfl)),fun BW=>df.call iK (aw rfl rfl) (iW _ _ _ _ _ _ _ ((btx) + (bty)) ((BW 21 rfl)) ((BW 29 rfl)) (by omega) (by omega)),fun BW=>df.call lf (aw rfl rfl) (lE _ _ _ _ _ _ _ (max (b) ((btx) + (bty)) + 1) ((BW 13 rfl)) ((BW 30 rfl)) (by omega) (by omega) (by omega)),fun BW=>aa (av (j:=j) bl (BW 4 rfl) rfl (BW 5 rfl) (by omega) (by omega)),trivial⟩) ?_;intro e4 w10 hx6 ho1 hf1;replace hA1:=bc.ext hA1 hx6;replace hA2:=bc.ext hA2 hx6;replace hA3:=bc.ext hA3 hx6;replace hA4:=bc.ext hA4 hx6;replace hM1:=cM.ext hM1 hx6;replace hX3:=aF.trans hX3 hx6;have s2_e4:=ho1 2 rfl s2_e3;have s3_e4:=ho1 3 rfl s3_e3;have s4_e4:=ho1 4 rfl s4_e3;have s5_e4:=ho1 5 rfl s5_e3;have s6_e4:=ho1 6 rfl s6_e3;have s7_e4:=ho1 7 rfl s7_e3;have s8_e4:=ho1 8 rfl s8_e3;have s9_e4:=ho1 9 rfl s9_e3;have s70_e4:al w10 (e4 70) (((eA (cT (bt cx Mx My) i j) i j (aJ k (fun x=>Mx i x*My x j))) i j:Int) + (((Mx i) k:Int)*((My k) j:Int):Int)) (max (b) ((btx) + (bty)) + 1):=hf1 31 rfl;have s71_e4:e4 71=_:=hf1 32 rfl;refine RL.x rfl rfl (bT (i:=i) (j:=j) aL s71_e4 rfl (al.eq s70_e4 (by rw [rZ];rfl) (hfit i j (k + 1) (by omega) (by omega) (by omega)) (by omega)) hM1 (by omega) (by omega)) ?_;rintro _ w11 ⟨hk2,hN1⟩;have hR1:=cM.row (i:=i) hM1 (by omega);replace hA1:=aU hA1 hk2 hR1 (by decide);replace hA2:=aU hA2 hk2 hR1 (by decide);replace hA3:=aU hA3 hk2 hR1 (by decide);replace hA4:=aU hA4 hk2 hR1 (by decide);replace hX3:=hX3.step hk2 (fun b e=>by subst e;exact (Nat.le_trans hBw1 (cM.rowB (i:=i) hM1 (by omega))));replace hM1:=hN1;clear hR1;refine RL.nil ?_;refine jp.norm ?_;refine qf.norm ?_;refine WP.region ?_;refine RL.p rfl rfl (cK.move s9_e4) ?_;refine RL.p rfl rfl (cK.add (c:=((k + 1:Nat):Int)) rfl rfl (bY (by omega))) ?_;refine RL.p rfl rfl (cK.assign rfl) ?_;refine RL.nil ?_;refine qf.norm ⟨_,(by omega),k + 1,rfl,s2_e4,s3_e4,s4_e4,s5_e4,s6_e4,s7_e4,s8_e4,rfl,(by omega),hX3,hA1,hA2,hA3,hA4,bH hM1 (rX _ _ _ _ _)⟩
   ·
    refine WP.exit ?_;refine qf.exit ?_;refine qf.exit ?_;refine jp.same ?_;refine jp.norm ?_;refine qf.norm ?_;refine WP.region ?_;refine RL.p rfl rfl (cK.move s8_e3) ?_;refine RL.p rfl rfl (cK.add (c:=((j + 1:Nat):Int)) rfl rfl (bY (by omega))) ?_;refine RL.p rfl rfl (cK.assign rfl) ?_;refine RL.nil ?_;refine qf.norm ⟨_,(by omega),j + 1,rfl,s2_e3,s3_e3,s4_e3,s5_e3,s6_e3,s7_e3,rfl,(by omega),hX3,hA1,hA2,hA3,hA4,bH hM1 (by rw [show k=cx by omega];exact fF (bt cx Mx My) i j)⟩
  ·
   refine WP.exit ?_;refine qf.exit ?_;refine qf.exit ?_;refine jp.same ?_;refine jp.norm ?_;refine qf.norm ?_;refine WP.region ?_;refine RL.p rfl rfl (cK.move s7_e2) ?_;refine RL.p rfl rfl (cK.add (c:=((i + 1:Nat):Int)) rfl rfl (bY (by omega))) ?_;refine RL.p rfl rfl (cK.assign rfl) ?_;refine RL.nil ?_;refine qf.norm ⟨_,(by omega),i + 1,rfl,s2_e2,s3_e2,s4_e2,s5_e2,s6_e2,rfl,(by omega),hX2,hA1,hA2,hA3,hA4,cM.congr hM1 fun a c2 ha hc2=>jF _ i (by omega)⟩
 ·
  refine WP.exit ?_;refine qf.exit ?_;refine qf.exit ?_;refine jp.same ?_;refine qf.norm ?_;refine ab ?_;refine RL.p rfl rfl (ah [.int .i64 ((rx:Nat)),.int .i64 ((cy:Nat)),.slice (some ⟨gh1,0,none⟩) (rx) (kh1)] aZ s6_e1 (hA4.cells 0 _ rfl rfl)) ?_;refine RL.x rfl rfl (df.store [.int .i64 ((rx:Nat)),.int .i64 ((cy:Nat)),.slice (some ⟨gh1,0,none⟩) (rx) (kh1)] cX s4_e1 rfl rfl hA3 (Nat.le_of_ble_eq_true rfl) (cY rfl rfl rfl)) ?_;rintro _ w12 ⟨hk3,hnew⟩;replace hM1:=br hM1 hk3 hA3 (by decide);replace hX1:=hX1.step hk3 (fun b e=>by subst e;exact hbs3);replace hA3:=hnew.lit [.int .i64 ((rx:Nat)),.int .i64 ((cy:Nat)),.slice (some ⟨gh1,0,none⟩) (rx) (kh1)] rfl;clear hnew;refine RL.p rfl rfl (cK.assign rfl) ?_;refine RL.nil ?_;refine WP.ret ?_;refine ⟨.tuple #[.agg #[.int .i64 ((rx:Nat)),.int .i64 ((cy:Nat)),.slice (some ⟨gh1,0,none⟩) (rx) (kh1)],.int .i64 (0)],dq (ak [.int .i64 ((rx:Nat)),.int .i64 ((cy:Nat)),.slice (some ⟨gh1,0,none⟩) (rx) (kh1)] aZ s4_e1 (hA3.cells 0 _ rfl rfl)) (fZ.tmp rfl),_,rfl,hX1,?_⟩;dsimp only;exact ⟨_,rfl,_,_,_,rfl,cM.congr (cM.low hM1 hBw1) fun a c2 ha hc2=>by rw [show i=rx by omega];exact fg _ c2 ha⟩
set_option maxRecDepth 10000 in
theorem jB (w:World) (x:Value) (rx cx:Nat) (Mx:Nat→Nat→Int) (btx:Nat) (y:Value) (ry cy:Nat) (My:Nat→Nat→Int) (bty:Nat) (b:Nat) (hx:cc w x rx cx Mx btx) (hy:cc w y ry cy My bty) (hxy:cx=ry) (hb:btx + bty + 1≤bp) (hb2:b + 1≤bp) (hfit:∀i j k,i<rx→j<cy→k≤cx→(aJ k (fun x=>Mx i x*My x j)).natAbs<2^b):Calls Tryz.prog 46 #[x,y] w (cj w fun v w'=>cJ w' v w.heap.size rx cy (bt cx Mx My) b):=by
 have hLIM:bp=562949953421312:=rfl;have hmatx:=hx;obtain ⟨sx,rfl,hrx,hcx,hSx⟩:=hx.form;have hmaty:=hy;obtain ⟨sy,rfl,hry,hcy,hSy⟩:=hy.form;refine aj (N:=14) (rs:= #[.cell 4 28]) Tryz.func46 rfl rfl rfl (Nat.le_of_ble_eq_true rfl) ?_;have hX:aF w w:=aF.refl w;refine ab ?_;refine RL.x rfl rfl (df.box [.int .i64 ((rx:Nat)),.int .i64 ((cx:Nat)),sx] rfl rfl) ?_;rintro _ w1 ⟨g1,rfl,hge1,hx1,hA1⟩;replace hX:=aF.trans hX hx1;refine RL.x rfl rfl (df.box [.int .i64 ((ry:Nat)),.int .i64 ((cy:Nat)),sy] rfl rfl) ?_;rintro _ w2 ⟨g2,rfl,hge2,hx2,hA2⟩;replace hA1:=bc.ext hA1 hx2;replace hX:=aF.trans hX hx2;refine RL.x rfl rfl (df.alloc [.int .i64 (0),.int .i64 (0),.slice (none) (0) (0)] co rfl) ?_;rintro _ w3 ⟨g3,rfl,hge3,hx3,hA3⟩;have hbs3:w.heap.size≤g3:=Nat.le_trans hX.size hge3;replace hA1:=bc.ext hA1 hx3;replace hA2:=bc.ext hA2 hx3;replace hX:=aF.trans hX hx3;refine RL.nil ?_;refine ab ?_;refine RL.p rfl rfl (ah [.int .i64 ((rx:Nat)),.int .i64 ((cx:Nat)),sx] aZ rfl (hA1.cells 0 _ rfl rfl)) ?_;refine RL.p rfl rfl (ah [.int .i64 ((ry:Nat)),.int .i64 ((cy:Nat)),sy] aZ rfl (hA2.cells 0 _ rfl rfl)) ?_;refine RL.x rfl rfl (df.call Al (aw rfl rfl) (zc _ _ _ _ _ _ _ _ _ _ _ b (cc.mk (cA.ext hSx hX) (by omega) (by omega)) (cc.mk (cA.ext hSy hX) (by omega) (by omega)) hxy hb hb2 hfit)) ?_;rintro _ w4 ⟨hx4,v1,rfl,q1⟩;have hBw1:w.heap.size≤w3.heap.size:=hX.size;replace hA3:=bc.ext hA3 hx4;replace hX:=aF.trans hX hx4;refine RL.p rfl rfl (cK.move rfl) ?_;refine RL.p rfl rfl (cK.extract rfl rfl) ?_;refine RL.p rfl rfl (cK.extract rfl rfl) ?_;refine RL.x rfl rfl (df.alloc [.int .i64 (0),.int .i64 (0),.slice (none) (0) (0)] co rfl) ?_;rintro _ w5 ⟨g4,rfl,hge4,hx5,hA4⟩;have ne6:g3≠g4:=Nat.ne_of_lt (Nat.lt_of_lt_of_le hA3.lt hge4);have hbs4:w.heap.size≤g4:=Nat.le_trans hX.size hge4;replace hA3:=bc.ext hA3 hx5;replace q1:=cJ.ext q1 hx5;replace hX:=aF.trans hX hx5;obtain ⟨gh1,kh1,ρ1,hq1,hM1⟩:=q1;have hd1:=cM.dlim hM1;have hd2:=cM.clim hM1;refine RL.x rfl rfl (df.store [.int .i64 ((rx:Nat)),.int .i64 ((cy:Nat)),.slice (some ⟨gh1,0,none⟩) (rx) (kh1)] cX rfl hq1 rfl hA4 (Nat.le_of_ble_eq_true rfl) (cY rfl rfl rfl)) ?_;rintro _ w6 ⟨hk1,hnew⟩;replace hM1:=br hM1 hk1 hA4 (by decide);replace hA3:=hA3.keep hk1 ne6;replace hX:=hX.step hk1 (fun b e=>by subst e;exact hbs4);replace hA4:=hnew.lit [.int .i64 ((rx:Nat)),.int .i64 ((cy:Nat)),.slice (some ⟨gh1,0,none⟩) (rx) (kh1)] rfl;clear hnew;refine RL.p rfl rfl (cK.assign rfl) ?_;refine RL.nil ?_;refine ab ?_;refine RL.p rfl rfl (ah [.int .i64 ((rx:Nat)),.int .i64 ((cy:Nat)),.slice (some ⟨gh1,0,none⟩) (rx) (kh1)] aZ rfl (hA4.cells 0 _ rfl rfl)) ?_;refine RL.x rfl rfl (df.store [.int .i64 ((rx:Nat)),.int .i64 ((cy:Nat)),.slice (some ⟨gh1,0,none⟩) (rx) (kh1)] cX rfl rfl rfl hA3 (Nat.le_of_ble_eq_true rfl) (cY rfl rfl rfl)) ?_;rintro _ w7 ⟨hk2,hnew⟩;replace hM1:=br hM1 hk2 hA3 (by decide);replace hX:=hX.step hk2 (fun b e=>by subst e;exact hbs3);replace hA3:=hnew.lit [.int .i64 ((rx:Nat)),.int .i64 ((cy:Nat)),.slice (some ⟨gh1,0,none⟩) (rx) (kh1)] rfl;clear hnew;refine RL.nil ?_;refine WP.ret ?_;refine ⟨.agg #[.int .i64 ((rx:Nat)),.int .i64 ((cy:Nat)),.slice (some ⟨gh1,0,none⟩) (rx) (kh1)],Bu.one (ak [.int .i64 ((rx:Nat)),.int .i64 ((cy:Nat)),.slice (some ⟨gh1,0,none⟩) (rx) (kh1)] aZ rfl (hA3.cells 0 _ rfl rfl)),_,rfl,hX,?_⟩;dsimp only;exact ⟨_,_,_,rfl,cM.low hM1 (hBw1)⟩
end Go.TL
namespace Go.TL
open Go.RowKit Go.Proofs
set_option linter.unusedVariables false
set_option linter.unusedSimpArgs false
set_option maxRecDepth 10000 in
theorem wi (w:World) (x:Value) (nx:Nat) (zx:Nat→Int) (btx:Nat) (y:Value) (ry cy:Nat) (My:Nat→Nat→Int) (bty:Nat) (b:Nat) (hx:bD w x nx zx btx) (hy:cc w y ry cy My bty) (hxy:nx=ry) (hb:btx + bty + 1≤bp) (hb2:b + 1≤bp) (hfit:∀j k,j<cy→k≤nx→(aJ k (fun x=>zx x*My x j)).natAbs<2^b):Calls Tryz.prog 69 #[x,y] w (cj w fun v w'=>∃v1,v= .tuple #[v1,.int .i64 0]∧bD w' v1 cy (bt nx (fun _=>zx) My 0) b):=by
 have hLIM:bp=562949953421312:=rfl;have hlimx:=hx.lim;have hmaty:=hy;obtain ⟨sy,rfl,hry,hcy,hSy⟩:=hy.form;refine aj (N:=18) (rs:= #[.tmp 4,.tmp 5]) Tryz.func69 rfl rfl rfl (Nat.le_of_ble_eq_true rfl) ?_;have hX:aF w w:=aF.refl w;refine ab ?_;refine RL.x rfl rfl (df.box [.int .i64 ((ry:Nat)),.int .i64 ((cy:Nat)),sy] rfl rfl) ?_;rintro _ w1 ⟨g1,rfl,hge1,hx1,hA1⟩;replace hX:=aF.trans hX hx1;refine RL.p rfl rfl (cK.assign rfl) ?_;refine RL.p rfl rfl (cK.assign rfl) ?_;refine RL.nil ?_;refine WP.seq ?_;refine ab ?_;refine RL.p rfl rfl (cK.move rfl) ?_;refine RL.p rfl rfl (bW bX rfl (bD.ext hx hX)) ?_;refine RL.p rfl rfl (cK.fieldAddr bk rfl) ?_;refine RL.p rfl rfl (cK.load bI rfl (hA1.at_ (i:=0) rfl rfl)) ?_;refine RL.p rfl rfl (cK.neq rfl rfl) ?_;refine RL.nil ?_;refine af (((nx:Nat):Int)≠((ry:Nat):Int)) rfl (fun hn=>absurd hn ((by omega))) (fun c10=> ?_);refine WP.skip ?_;refine qf.norm ?_;have hBw1:w.heap.size≤w1.heap.size:=hX.size;refine aI am 7 [_,_,_,fun v BZ=>cJ BZ v w1.heap.size 1 cy (bt nx (fun _=>zx) My) b,_,_,_] rfl rfl (fun e_ w_ BY BX=>⟨fun _=>aa (cK.move ((BX 0 rfl rfl))),fun BW=>df.call yK (aN ((BW 0 rfl))) (AY _ _ _ _ _ (bD.ext (bD.ext hx hX) BY)),fun _=>aa (ah [.int .i64 ((ry:Nat)),.int .i64 ((cy:Nat)),sy] aZ ((BX 3 rfl rfl)) ((bc.ext hA1 BY).cells 0 _ rfl rfl)),fun BW=>df.mono (df.call tz (aw rfl ((BW 2 rfl))) (jB _ _ _ _ _ _ _ _ _ _ _ b (BW 1 rfl) (cc.mk (cA.ext (cA.ext hSy hX) BY) (by omega) (by omega)) hxy hb hb2 (fun i j k _ hj hk=>hfit j k hj hk))) fun v B0 hv=>⟨hv.1,cJ.low hv.2 BY.size⟩,fun BW=>ag (dR iI aG rfl (BW 3 rfl)),fun BW=>ag (aP (j:=0) az rfl (xC.hdrV (BW 4 rfl)) rfl (by omega) (by decide)),fun BW=>ag (aV aR rfl (BW 5 rfl)),trivial⟩) ?_;intro e1 w2 hx2 ho1 hf1;replace hX:=aF.trans hX hx2;have s17_e1:bD w2 (e1 17) cy ((bt nx (fun _=>zx) My) 0) b:=hf1 6 rfl;refine RL.p rfl rfl (cK.assign rfl) ?_;refine RL.p rfl rfl (cK.assign rfl) ?_;refine RL.nil ?_;refine WP.ret ?_;refine ⟨.tuple #[(e1 17),.int .i64 (0)],dq (fZ.tmp rfl) (fZ.tmp rfl),_,rfl,hX,?_⟩;dsimp only;exact ⟨_,rfl,s17_e1⟩
set_option maxRecDepth 10000 in
theorem A0 (w:World) (x:Value) (nx:Nat) (zx:Nat→Int) (btx:Nat) (y:Value) (ry cy:Nat) (My:Nat→Nat→Int) (bty:Nat) (b:Nat) (hx:bD w x nx zx btx) (hy:cc w y ry cy My bty) (hxy:nx=ry) (hb:btx + bty + 1≤bp) (hb2:b + 1≤bp) (hfit:∀j k,j<cy→k≤nx→(aJ k (fun x=>zx x*My x j)).natAbs<2^b):Calls Tryz.prog 25 #[x,y] w (cj w fun v w'=>bD w' v cy (bt nx (fun _=>zx) My 0) b):=by
 have hLIM:bp=562949953421312:=rfl;have hlimx:=hx.lim;have hmaty:=hy;obtain ⟨sy,rfl,hry,hcy,hSy⟩:=hy.form;refine aj (N:=14) (rs:= #[.tmp 4]) Tryz.func25 rfl rfl rfl (Nat.le_of_ble_eq_true rfl) ?_;have hX:aF w w:=aF.refl w;refine ab ?_;refine RL.x rfl rfl (df.box [.int .i64 ((ry:Nat)),.int .i64 ((cy:Nat)),sy] rfl rfl) ?_;rintro _ w1 ⟨g1,rfl,hge1,hx1,hA1⟩;replace hX:=aF.trans hX hx1;refine RL.p rfl rfl (cK.assign rfl) ?_;refine RL.nil ?_;refine ab ?_;refine RL.p rfl rfl (cK.move rfl) ?_;refine RL.p rfl rfl (ah [.int .i64 ((ry:Nat)),.int .i64 ((cy:Nat)),sy] aZ rfl (hA1.cells 0 _ rfl rfl)) ?_;refine RL.x rfl rfl (df.call AD (aw rfl rfl) (wi _ _ _ _ _ _ _ _ _ _ b (bD.ext hx hX) (cc.mk (cA.ext hSy hX) (by omega) (by omega)) hxy hb hb2 hfit)) ?_;rintro _ w2 ⟨hx2,v1,rfl,q1⟩;replace hX:=aF.trans hX hx2;refine RL.p rfl rfl (cK.move rfl) ?_;refine RL.p rfl rfl (cK.extract rfl rfl) ?_;refine RL.p rfl rfl (cK.extract rfl rfl) ?_;refine RL.p rfl rfl (cK.assign rfl) ?_;refine RL.p rfl rfl (cK.assign rfl) ?_;refine RL.nil ?_;refine ab ?_;refine RL.p rfl rfl (cK.move rfl) ?_;refine RL.p rfl rfl (cK.assign rfl) ?_;refine RL.nil ?_;refine WP.ret ?_;refine ⟨v1,Bu.one (fZ.tmp rfl),_,rfl,hX,?_⟩;dsimp only;exact q1
set_option maxRecDepth 10000 in
theorem oG (w:World) (r:Nat) (c:Nat) (l:Value) (n:Nat) (f:Nat→Int) (hr:r≤16) (hc:c≤16) (hl:eg .i8 57 w l n f):Calls Tryz.prog 37 #[.int .i64 (r:Nat),.int .i64 (c:Nat),l] w (cj w fun v w'=>cJ w' v w.heap.size r c (bn f n c) 4):=by
 have hLIM:bp=562949953421312:=rfl;have hln:n<9223372036854775808:=by obtain ⟨_,_,_,h2,h3,_⟩:=hl;omega
 refine aj (N:=60) (rs:= #[.cell 6 28]) Tryz.func37 rfl rfl rfl (Nat.le_of_ble_eq_true rfl) ?_;have hX:aF w w:=aF.refl w;refine ab ?_;refine RL.x rfl rfl (df.alloc [.int .i64 (0),.int .i64 (0),.slice (none) (0) (0)] co rfl) ?_;rintro _ w1 ⟨g1,rfl,hge1,hx1,hA1⟩;have hbs1:w.heap.size≤g1:=Nat.le_trans hX.size hge1;replace hX:=aF.trans hX hx1;refine RL.nil ?_;refine ab ?_;refine RL.p rfl rfl (cK.move rfl) ?_;refine RL.p rfl rfl (cK.max (c:=((r:Nat):Int)) rfl rfl (by omega)) ?_;refine RL.p rfl rfl (cK.min (c:=((r:Nat):Int)) rfl rfl (by omega)) ?_;refine RL.p rfl rfl (cK.move rfl) ?_;refine RL.p rfl rfl (cK.max (c:=((c:Nat):Int)) rfl rfl (by omega)) ?_;refine RL.p rfl rfl (cK.min (c:=((c:Nat):Int)) rfl rfl (by omega)) ?_;have hBw1:w.heap.size≤w1.heap.size:=hX.size;refine RL.x rfl rfl (df.call oe (aw rfl rfl) (oF _ r c 4 (by omega) (by omega) (by omega))) ?_;rintro v1 w2 ⟨hx2,q1⟩;replace hA1:=bc.ext hA1 hx2;replace hX:=aF.trans hX hx2;refine RL.x rfl rfl (df.alloc [.int .i64 (0),.int .i64 (0),.slice (none) (0) (0)] co rfl) ?_;rintro _ w3 ⟨g2,rfl,hge2,hx3,hA2⟩;have ne1:g1≠g2:=Nat.ne_of_lt (Nat.lt_of_lt_of_le hA1.lt hge2);have hbs2:w.heap.size≤g2:=Nat.le_trans hX.size hge2;replace hA1:=bc.ext hA1 hx3;replace q1:=cJ.ext q1 hx3;replace hX:=aF.trans hX hx3;obtain ⟨gh1,kh1,ρ1,hq1,hM1⟩:=q1;have hd1:=cM.dlim hM1;have hd2:=cM.clim hM1;refine RL.x rfl rfl (df.store [.int .i64 ((r:Nat)),.int .i64 ((c:Nat)),.slice (some ⟨gh1,0,none⟩) (r) (kh1)] cX rfl hq1 rfl hA2 (Nat.le_of_ble_eq_true rfl) (cY rfl rfl rfl)) ?_;rintro _ w4 ⟨hk1,hnew⟩;replace hM1:=br hM1 hk1 hA2 (by decide);replace hA1:=hA1.keep hk1 ne1;replace hX:=hX.step hk1 (fun b e=>by subst e;exact hbs2);replace hA2:=hnew.lit [.int .i64 ((r:Nat)),.int .i64 ((c:Nat)),.slice (some ⟨gh1,0,none⟩) (r) (kh1)] rfl;clear hnew;refine RL.nil ?_;refine WP.seq ?_;refine ab ?_;refine RL.p rfl rfl (cK.assign rfl) ?_;refine RL.nil ?_;refine WP.block ?_;refine WP.loop (fun mz ez uz=>∃i:Nat,(mz=r - i)∧(ez 2=l)∧(ez 6= .pointer (some ⟨g1,0,none⟩))∧(ez 7= .pointer (some ⟨g2,0,none⟩))∧(ez 8= .int .i64 ((i:Nat)))∧(i≤r)∧(aF w uz)∧(bc uz g1 28 3 (bP [.int .i64 (0),.int .i64 (0),.slice (none) (0) (0)]))∧(bc uz g2 28 3 (bP [.int .i64 ((r:Nat)),.int .i64 ((c:Nat)),.slice (some ⟨gh1,0,none⟩) (r) (kh1)]))∧(cM uz w1.heap.size gh1 kh1 r c ρ1 (cT (bn f n c) i 0) 4)) (r - 0) ?_ ?_
 · exact ⟨0,rfl,rfl,rfl,rfl,rfl,(by omega),hX,hA1,hA2,bH hM1 (gZ (bn f n c))⟩
 rintro m1 e1 w5 ⟨i,hm1,s2_e1,s6_e1,s7_e1,s8_e1,hi,hX1,hA1,hA2,hM1⟩;refine WP.seq ?_;refine ab ?_;refine RL.p rfl rfl (cK.move s8_e1) ?_;refine RL.p rfl rfl (cK.fieldAddr bk s7_e1) ?_;refine RL.p rfl rfl (cK.load bI rfl (hA2.at_ (i:=0) rfl rfl)) ?_;refine RL.p rfl rfl (cK.lss rfl rfl) ?_;refine RL.nil ?_;refine af (((i:Nat):Int)<((r:Nat):Int)) rfl (fun c20=> ?_) (fun c20=> ?_)
 ·
  refine WP.skip ?_;refine qf.norm ?_;refine WP.seq ?_;refine WP.block ?_;refine ab ?_;refine RL.p rfl rfl (cK.assign rfl) ?_;refine RL.nil ?_;refine WP.block ?_;refine WP.loop (fun mz ez uz=>∃j:Nat,(mz=c - j)∧(ez 2=l)∧(ez 6= .pointer (some ⟨g1,0,none⟩))∧(ez 7= .pointer (some ⟨g2,0,none⟩))∧(ez 8= .int .i64 ((i:Nat)))∧(ez 9= .int .i64 ((j:Nat)))∧(j≤c)∧(aF w uz)∧(bc uz g1 28 3 (bP [.int .i64 (0),.int .i64 (0),.slice (none) (0) (0)]))∧(bc uz g2 28 3 (bP [.int .i64 ((r:Nat)),.int .i64 ((c:Nat)),.slice (some ⟨gh1,0,none⟩) (r) (kh1)]))∧(cM uz w1.heap.size gh1 kh1 r c ρ1 (cT (bn f n c) i j) 4)) (c - 0) ?_ ?_
  · exact ⟨0,rfl,s2_e1,s6_e1,s7_e1,s8_e1,rfl,(by omega),hX1,hA1,hA2,hM1⟩
  rintro m2 e2 w6 ⟨j,hm2,s2_e2,s6_e2,s7_e2,s8_e2,s9_e2,hj,hX2,hA1,hA2,hM1⟩;have hic:i*c≤16*16:=Nat.mul_le_mul (by omega) (by omega);refine WP.seq ?_;refine aI am 15 [_,_,_,_,fun v BZ=>v= .bool (decide (((j:Nat):Int)<((c:Nat):Int))),_,_,_,_,_,_,_,_,_,_] rfl rfl (fun e_ w_ BY BX=>⟨fun _=>aa (cK.move ((BX 9 rfl s9_e2))),fun _=>aa (cK.fieldAddr bG ((BX 7 rfl s7_e2))),fun BW=>aa (cK.load bI ((BW 1 rfl)) ((bc.ext hA2 BY).at_ (i:=1) rfl rfl)),fun BW=>aa (cK.lss ((BW 0 rfl)) ((BW 2 rfl))),fun BW=>aa (cK.move ((BW 3 rfl))),fun BW=>gT (BW 4 rfl) fun hg=>aa (cK.move ((BX 8 rfl s8_e2))),fun BW=>gT (BW 4 rfl) fun hg=>aa (cK.fieldAddr bG ((BX 7 rfl s7_e2))),fun BW=>gT (BW 4 rfl) fun hg=>aa (cK.load bI ((BW 6 rfl hg)) ((bc.ext hA2 BY).at_ (i:=1) rfl rfl)),fun BW=>gT (BW 4 rfl) fun hg=>aa (cK.mul (c:=((i*c:Nat):Int)) ((BW 5 rfl hg)) ((BW 7 rfl hg)) (bY (by omega))),fun BW=>gT (BW 4 rfl) fun hg=>aa (cK.move ((BX 9 rfl s9_e2))),fun BW=>gT (BW 4 rfl) fun hg=>aa (cK.add (c:=(((i*c) + j:Nat):Int)) ((BW 8 rfl hg)) ((BW 9 rfl hg)) (bY (by omega))),fun BW=>gT (BW 4 rfl) fun hg=>aa (cK.move ((BX 2 rfl s2_e2))),fun BW=>gT (BW 4 rfl) fun hg=>aa (lY xH (BW 11 rfl hg) (eg.ext (eg.ext hl hX2) BY)),fun BW=>gT (BW 4 rfl) fun hg=>aa (cK.lss ((BW 10 rfl hg)) ((BW 12 rfl hg))),fun BW=>aa (ay (p:=((j:Nat):Int)<((c:Nat):Int)) (q:=((((i*c) + j:Nat):Int):Int)<((n:Nat):Int)) (BW 4 rfl) (fun hq=>(BW 13 rfl hq))),trivial⟩) ?_;intro e3 w7 hx4 ho1 hf1;replace hA1:=bc.ext hA1 hx4;replace hA2:=bc.ext hA2 hx4;replace hM1:=cM.ext hM1 hx4;replace hX2:=aF.trans hX2 hx4;have s2_e3:=ho1 2 rfl s2_e2;have s6_e3:=ho1 6 rfl s6_e2;have s7_e3:=ho1 7 rfl s7_e2;have s8_e3:=ho1 8 rfl s8_e2;have s9_e3:=ho1 9 rfl s9_e2;have s37_e3:e3 37=_:=hf1 14 rfl;refine RL.nil ?_;refine af ((((j:Nat):Int)<((c:Nat):Int))∧(((((i*c) + j:Nat):Int):Int)<((n:Nat):Int))) s37_e3 (fun c37=> ?_) (fun c37=> ?_)
  ·
   refine WP.skip ?_;refine qf.norm ?_;refine WP.seq ?_;refine WP.block ?_;refine WP.ds am 19 [_,_,_,_,_,_,_,_,_,_,_,_,_,_,_,_,_,_,_] rfl rfl (fun e_ w_ BY BX=>⟨fun _=>aa (cK.fieldAddr aq ((BX 7 rfl s7_e3))),fun BW=>aa (cK.load aG ((BW 0 rfl)) ((bc.ext hA2 BY).at_ (i:=2) rfl rfl)),fun _=>aa (cK.move ((BX 8 rfl s8_e3))),fun BW=>aa (cK.index (j:=i) az ((BW 1 rfl)) ((BW 2 rfl)) rfl (by omega) (by omega)),fun BW=>ag (ao (i:=i) aR (BW 3 rfl) (cM.ext hM1 BY) (by omega)),fun _=>aa (cK.move ((BX 9 rfl s9_e3))),fun _=>aa (cK.move ((BX 2 rfl s2_e3))),fun _=>aa (cK.move ((BX 8 rfl s8_e3))),fun _=>aa (cK.fieldAddr bG ((BX 7 rfl s7_e3))),fun BW=>aa (cK.load bI ((BW 8 rfl)) ((bc.ext hA2 BY).at_ (i:=1) rfl rfl)),fun BW=>aa (cK.mul (c:=((i*c:Nat):Int)) ((BW 7 rfl)) ((BW 9 rfl)) (bY (by omega))),fun _=>aa (cK.move ((BX 9 rfl s9_e3))),fun BW=>aa (cK.add (c:=(((i*c) + j:Nat):Int)) ((BW 10 rfl)) ((BW 11 rfl)) (bY (by omega))),fun BW=>ag (jl (j:=(i*c) + j) xH (BW 6 rfl) (eg.ext (eg.ext hl hX2) BY) (BW 12 rfl) (by omega) (by omega)),fun BW=>aa (ko zY rfl (BW 13 rfl)),fun BW=>aa (cK.rem (c:=(f (i*c + j)).tmod 10) ((BW 14 rfl)) rfl (by omega) rfl),fun BW=>aa (ax (c:=(f (i*c + j)).tmod 10) Ab pv ((BW 15 rfl)) (bY ⟨(pu _).1,Int.le_of_lt_add_one (pu _).2,rfl⟩)),fun BW=>df.call jZ (aN ((BW 16 rfl))) (oE ((f (i*c + j)).tmod 10) (4) _ (pu _) (xI _) (by decide)),fun BW=>aa (av (j:=j) bl (BW 4 rfl) rfl (BW 5 rfl) (by omega) (by omega)),trivial⟩) ?_;intro e4 w8 hx5 ho2 hf2;replace hA1:=bc.ext hA1 hx5;replace hA2:=bc.ext hA2 hx5;replace hM1:=cM.ext hM1 hx5;replace hX2:=aF.trans hX2 hx5;have s2_e4:=ho2 2 rfl s2_e3;have s6_e4:=ho2 6 rfl s6_e3;have s7_e4:=ho2 7 rfl s7_e3;have s8_e4:=ho2 8 rfl s8_e3;have s9_e4:=ho2 9 rfl s9_e3;have s57_e4:al w8 (e4 57) ((f (i*c + j)).tmod 10) 4:=hf2 17 rfl;have s58_e4:e4 58=_:=hf2 18 rfl;refine RL.x rfl rfl (bT (i:=i) (j:=j) aL s58_e4 rfl (al.eq s57_e4 (vd (n:=n) (by omega)) (lQ _ _ _ _ _) (by decide)) hM1 (by omega) (by omega)) ?_;rintro _ w9 ⟨hk2,hN1⟩;have hR1:=cM.row (i:=i) hM1 (by omega);replace hA1:=aU hA1 hk2 hR1 (by decide);replace hA2:=aU hA2 hk2 hR1 (by decide);replace hX2:=hX2.step hk2 (fun b e=>by subst e;exact (Nat.le_trans hBw1 (cM.rowB (i:=i) hM1 (by omega))));replace hM1:=hN1;clear hR1;refine RL.nil ?_;refine jp.norm ?_;refine qf.norm ?_;refine WP.region ?_;refine RL.p rfl rfl (cK.move s9_e4) ?_;refine RL.p rfl rfl (cK.add (c:=((j + 1:Nat):Int)) rfl rfl (bY (by omega))) ?_;refine RL.p rfl rfl (cK.assign rfl) ?_;refine RL.nil ?_;refine qf.norm ⟨_,(by omega),j + 1,rfl,s2_e4,s6_e4,s7_e4,s8_e4,rfl,(by omega),hX2,hA1,hA2,bH hM1 (fF (bn f n c) i j)⟩
  ·
   refine WP.exit ?_;refine qf.exit ?_;refine qf.exit ?_;refine jp.same ?_;refine jp.norm ?_;refine qf.norm ?_;refine WP.region ?_;refine RL.p rfl rfl (cK.move s8_e3) ?_;refine RL.p rfl rfl (cK.add (c:=((i + 1:Nat):Int)) rfl rfl (bY (by omega))) ?_;refine RL.p rfl rfl (cK.assign rfl) ?_;refine RL.nil ?_;refine qf.norm ⟨_,(by omega),i + 1,rfl,s2_e3,s6_e3,s7_e3,rfl,(by omega),hX2,hA1,hA2,cM.congr hM1 fun a c2 ha hc2=>mD (fun e he hec=>by unfold bn;rw [if_neg (by omega)]) hc2⟩
 ·
  refine WP.exit ?_;refine qf.exit ?_;refine qf.exit ?_;refine jp.same ?_;refine qf.norm ?_;refine ab ?_;refine RL.p rfl rfl (ah [.int .i64 ((r:Nat)),.int .i64 ((c:Nat)),.slice (some ⟨gh1,0,none⟩) (r) (kh1)] aZ s7_e1 (hA2.cells 0 _ rfl rfl)) ?_;refine RL.x rfl rfl (df.store [.int .i64 ((r:Nat)),.int .i64 ((c:Nat)),.slice (some ⟨gh1,0,none⟩) (r) (kh1)] cX s6_e1 rfl rfl hA1 (Nat.le_of_ble_eq_true rfl) (cY rfl rfl rfl)) ?_;rintro _ w10 ⟨hk3,hnew⟩;replace hM1:=br hM1 hk3 hA1 (by decide);replace hX1:=hX1.step hk3 (fun b e=>by subst e;exact hbs1);replace hA1:=hnew.lit [.int .i64 ((r:Nat)),.int .i64 ((c:Nat)),.slice (some ⟨gh1,0,none⟩) (r) (kh1)] rfl;clear hnew;refine RL.nil ?_;refine WP.ret ?_;refine ⟨.agg #[.int .i64 ((r:Nat)),.int .i64 ((c:Nat)),.slice (some ⟨gh1,0,none⟩) (r) (kh1)],Bu.one (ak [.int .i64 ((r:Nat)),.int .i64 ((c:Nat)),.slice (some ⟨gh1,0,none⟩) (r) (kh1)] aZ s6_e1 (hA1.cells 0 _ rfl rfl)),_,rfl,hX1,?_⟩;dsimp only;exact ⟨_,_,_,rfl,cM.congr (cM.low hM1 hBw1) fun a c2 ha hc2=>by rw [show i=r by omega];exact fg _ c2 ha⟩
end Go.TL
namespace Go.TL
open Go.RowKit Go.Proofs
set_option linter.unusedVariables false
set_option linter.unusedSimpArgs false
set_option maxRecDepth 10000 in
theorem wm (w:World) (R C:Nat) (l:Value) (n:Nat) (f:Nat→Int) (hl:eg .i8 57 w l n f) (hR:R<256) (hC:C<256):Calls Tryz.prog 10 #[.agg #[.int .u8 (R:Nat),.int .u8 (C:Nat),l]] w (cj w fun v w'=>cJ w' v w.heap.size (R % 5) (C % 5) (bn f n (C % 5)) 4):=by
 have hLIM:bp=562949953421312:=rfl;have hln:n<9223372036854775808:=by obtain ⟨_,_,_,h2,h3,_⟩:=hl;omega
 refine aj (N:=14) (rs:= #[.cell 2 28]) Tryz.func10 rfl rfl rfl (Nat.le_of_ble_eq_true rfl) ?_;have hX:aF w w:=aF.refl w;refine ab ?_;refine RL.x rfl rfl (df.box [.int .u8 ((R:Nat)),.int .u8 ((C:Nat)),l] rfl rfl) ?_;rintro _ w1 ⟨g1,rfl,hge1,hx1,hA1⟩;replace hX:=aF.trans hX hx1;refine RL.x rfl rfl (df.alloc [.int .i64 (0),.int .i64 (0),.slice (none) (0) (0)] co rfl) ?_;rintro _ w2 ⟨g2,rfl,hge2,hx2,hA2⟩;have hbs2:w.heap.size≤g2:=Nat.le_trans hX.size hge2;replace hA1:=bc.ext hA1 hx2;replace hX:=aF.trans hX hx2;refine RL.nil ?_;refine ab ?_;refine RL.p rfl rfl (cK.fieldAddr vY rfl) ?_;refine RL.p rfl rfl (cK.load zZ rfl (hA1.at_ (i:=0) rfl rfl)) ?_;refine RL.p rfl rfl (cK.rem (c:=((R % 5:Nat):Int)) rfl rfl (by omega) rfl) ?_;refine RL.p rfl rfl (ax (c:=((R % 5:Nat):Int)) vU vV rfl (bY ⟨by omega,by omega,rfl⟩)) ?_;refine RL.p rfl rfl (cK.fieldAddr vX rfl) ?_;refine RL.p rfl rfl (cK.load zZ rfl (hA1.at_ (i:=1) rfl rfl)) ?_;refine RL.p rfl rfl (cK.rem (c:=((C % 5:Nat):Int)) rfl rfl (by omega) rfl) ?_;refine RL.p rfl rfl (ax (c:=((C % 5:Nat):Int)) vU vV rfl (bY ⟨by omega,by omega,rfl⟩)) ?_;refine RL.p rfl rfl (cK.fieldAddr vW rfl) ?_;refine RL.p rfl rfl (cK.load Aa rfl (hA1.at_ (i:=2) rfl rfl)) ?_;have hBw1:w.heap.size≤w2.heap.size:=hX.size;refine RL.x rfl rfl (df.call xV (cO rfl rfl rfl) (oG _ (R % 5) (C % 5) l n f (by omega) (by omega) (eg.ext hl hX))) ?_;rintro v1 w3 ⟨hx3,q1⟩;replace hA2:=bc.ext hA2 hx3;replace hX:=aF.trans hX hx3;obtain ⟨gh1,kh1,ρ1,hq1,hM1⟩:=q1;have hd1:=cM.dlim hM1;have hd2:=cM.clim hM1;refine RL.x rfl rfl (df.store [.int .i64 ((R % 5:Nat)),.int .i64 ((C % 5:Nat)),.slice (some ⟨gh1,0,none⟩) (R % 5) (kh1)] cX rfl hq1 rfl hA2 (Nat.le_of_ble_eq_true rfl) (cY rfl rfl rfl)) ?_;rintro _ w4 ⟨hk1,hnew⟩;replace hM1:=br hM1 hk1 hA2 (by decide);replace hX:=hX.step hk1 (fun b e=>by subst e;exact hbs2);replace hA2:=hnew.lit [.int .i64 ((R % 5:Nat)),.int .i64 ((C % 5:Nat)),.slice (some ⟨gh1,0,none⟩) (R % 5) (kh1)] rfl;clear hnew;refine RL.nil ?_;refine WP.ret ?_;refine ⟨.agg #[.int .i64 ((R % 5:Nat)),.int .i64 ((C % 5:Nat)),.slice (some ⟨gh1,0,none⟩) (R % 5) (kh1)],Bu.one (ak [.int .i64 ((R % 5:Nat)),.int .i64 ((C % 5:Nat)),.slice (some ⟨gh1,0,none⟩) (R % 5) (kh1)] aZ rfl (hA2.cells 0 _ rfl rfl)),_,rfl,hX,?_⟩;dsimp only;exact ⟨_,_,_,rfl,cM.low hM1 (hBw1)⟩
set_option maxRecDepth 10000 in
theorem pF (w:World) (x:Value) (nx:Nat) (zx:Nat→Int) (btx:Nat) (hx:bD w x nx zx btx):Calls Tryz.prog 89 #[x] w (cj w fun v w'=>v= .bool (decide True)):=by
 have hLIM:bp=562949953421312:=rfl;have hlimx:=hx.lim;refine aj (N:=16) (rs:= #[.tmp 2]) Tryz.func89 rfl rfl rfl (Nat.le_of_ble_eq_true rfl) ?_;have hX:aF w w:=aF.refl w;refine ab ?_;refine RL.p rfl rfl (cK.assign rfl) ?_;refine RL.nil ?_;refine WP.seq ?_;refine ab ?_;refine RL.p rfl rfl (cK.assign rfl) ?_;refine RL.nil ?_;refine WP.block ?_;refine WP.loop (fun mz ez uz=>∃i:Nat,(mz=nx - i)∧(ez 0=x)∧(ez 3= .int .i64 ((i:Nat)))∧(i≤nx)∧(aF w uz)) (nx - 0) ?_ ?_
 · exact ⟨0,rfl,rfl,rfl,(by omega),hX⟩
 rintro m1 e1 w1 ⟨i,hm1,s0_e1,s3_e1,hi,hX1⟩;refine WP.seq ?_;refine ab ?_;refine RL.p rfl rfl (cK.move s3_e1) ?_;refine RL.p rfl rfl (cK.move s0_e1) ?_;refine RL.p rfl rfl (bW bX rfl (bD.ext hx hX1)) ?_;refine RL.p rfl rfl (cK.lss rfl rfl) ?_;refine RL.nil ?_;refine af (((i:Nat):Int)<((nx:Nat):Int)) rfl (fun c7=> ?_) (fun c7=> ?_)
 ·
  refine WP.skip ?_;refine qf.norm ?_;refine WP.seq ?_;refine WP.block ?_;refine ab ?_;refine RL.p rfl rfl (cK.move s0_e1) ?_;refine RL.p rfl rfl (cK.move s3_e1) ?_;refine RL.x rfl rfl (aQ (j:=i) bX rfl (bD.ext hx hX1) rfl (by omega) (by omega)) ?_;rintro v1 _ ⟨rfl,q1⟩;refine RL.x rfl rfl (aW an rfl q1) ?_;rintro v2 _ ⟨rfl,q2⟩;refine RL.x rfl rfl (df.call yG (aN rfl) (wh _ _ _ _ q2)) ?_;rintro _ w2 ⟨hx1,rfl⟩;replace hX1:=aF.trans hX1 hx1;refine RL.p rfl rfl (cK.not (p:=True) rfl) ?_;refine RL.nil ?_;refine af (¬(True)) rfl (fun c15=> ?_) (fun c15=> ?_)
  ·
   refine ab ?_;refine RL.p rfl rfl (cK.assign rfl) ?_;refine RL.nil ?_;refine WP.ret ?_;refine jp.ret ?_;refine qf.ret ?_;refine qf.ret ?_;refine jp.ret ?_;refine qf.ret ?_;refine ⟨.bool (false),Bu.one (fZ.tmp rfl),_,rfl,hX1,?_⟩;dsimp only;exact absurd trivial c15
  ·
   refine WP.skip ?_;refine jp.norm ?_;refine qf.norm ?_;refine WP.region ?_;refine RL.p rfl rfl (cK.move s3_e1) ?_;refine RL.p rfl rfl (cK.add (c:=((i + 1:Nat):Int)) rfl rfl (bY (by omega))) ?_;refine RL.p rfl rfl (cK.assign rfl) ?_;refine RL.nil ?_;refine qf.norm ⟨_,(by omega),i + 1,rfl,s0_e1,rfl,(by omega),hX1⟩
 ·
  refine WP.exit ?_;refine qf.exit ?_;refine qf.exit ?_;refine jp.same ?_;refine qf.norm ?_;refine ab ?_;refine RL.p rfl rfl (cK.assign rfl) ?_;refine RL.nil ?_;refine WP.ret ?_;refine ⟨.bool (true),Bu.one (fZ.tmp rfl),_,rfl,hX1,?_⟩
  rfl
set_option maxRecDepth 10000 in
theorem lC (w:World) (x:Value) (rx cx:Nat) (Mx:Nat→Nat→Int) (btx:Nat) (hx:cc w x rx cx Mx btx):Calls Tryz.prog 44 #[x] w (cj w fun v w'=>v= .bool (decide True)):=by
 have hLIM:bp=562949953421312:=rfl;have hmatx:=hx;obtain ⟨sx,rfl,hrx,hcx,hSx⟩:=hx.form;refine aj (N:=45) (rs:= #[.tmp 2]) Tryz.func44 rfl rfl rfl (Nat.le_of_ble_eq_true rfl) ?_;have hX:aF w w:=aF.refl w;refine ab ?_;refine RL.x rfl rfl (df.box [.int .i64 ((rx:Nat)),.int .i64 ((cx:Nat)),sx] rfl rfl) ?_;rintro _ w1 ⟨g1,rfl,hge1,hx1,hA1⟩;replace hX:=aF.trans hX hx1;refine RL.p rfl rfl (cK.assign rfl) ?_;refine RL.nil ?_;refine WP.seq ?_;refine aI am 16 [_,_,_,fun v BZ=>v= .bool (decide (((rx:Nat):Int)<(0:Int))),_,_,_,_,fun v BZ=>v= .bool (decide ((((rx:Nat):Int)<(0:Int))∨(((cx:Nat):Int)<(0:Int)))),_,_,_,_,_,_,_] rfl rfl (fun e_ w_ BY BX=>⟨fun _=>aa (cK.fieldAddr bk ((BX 1 rfl rfl))),fun BW=>aa (cK.load bI ((BW 0 rfl)) ((bc.ext hA1 BY).at_ (i:=0) rfl rfl)),fun BW=>aa (cK.lss ((BW 1 rfl)) rfl),fun BW=>aa (cK.move ((BW 2 rfl))),fun BW=>gF (BW 3 rfl) fun hg=>aa (cK.fieldAddr bG ((BX 1 rfl rfl))),fun BW=>gF (BW 3 rfl) fun hg=>aa (cK.load bI ((BW 4 rfl hg)) ((bc.ext hA1 BY).at_ (i:=1) rfl rfl)),fun BW=>gF (BW 3 rfl) fun hg=>aa (cK.lss ((BW 5 rfl hg)) rfl),fun BW=>aa (bo (p:=((rx:Nat):Int)<(0:Int)) (q:=((cx:Nat):Int)<(0:Int)) (BW 3 rfl) (fun hq=>(BW 6 rfl hq))),fun BW=>aa (cK.move ((BW 7 rfl))),fun BW=>gF (BW 8 rfl) fun hg=>aa (cK.fieldAddr aq ((BX 1 rfl rfl))),fun BW=>gF (BW 8 rfl) fun hg=>aa (cK.load aG ((BW 9 rfl hg)) ((bc.ext hA1 BY).at_ (i:=2) rfl rfl)),fun BW=>gF (BW 8 rfl) fun hg=>aa (cC az (BW 10 rfl hg) (cA.ext (cA.ext hSx hX) BY)),fun BW=>gF (BW 8 rfl) fun hg=>aa (cK.fieldAddr bk ((BX 1 rfl rfl))),fun BW=>gF (BW 8 rfl) fun hg=>aa (cK.load bI ((BW 12 rfl hg)) ((bc.ext hA1 BY).at_ (i:=0) rfl rfl)),fun BW=>gF (BW 8 rfl) fun hg=>aa (cK.neq ((BW 11 rfl hg)) ((BW 13 rfl hg))),fun BW=>aa (bo (p:=(((rx:Nat):Int)<(0:Int))∨(((cx:Nat):Int)<(0:Int))) (q:=((rx:Nat):Int)≠((rx:Nat):Int)) (BW 8 rfl) (fun hq=>(BW 14 rfl hq))),trivial⟩) ?_;intro e1 w2 hx2 ho1 hf1;replace hA1:=bc.ext hA1 hx2;replace hX:=aF.trans hX hx2;have s1_e1:e1 1=_:=ho1 1 rfl rfl;have s19_e1:e1 19=_:=hf1 15 rfl;refine RL.nil ?_;refine af (((((rx:Nat):Int)<(0:Int))∨(((cx:Nat):Int)<(0:Int)))∨(((rx:Nat):Int)≠((rx:Nat):Int))) s19_e1 (fun c19=> ?_) (fun c19=> ?_)
 ·
  refine ab ?_;refine RL.p rfl rfl (cK.assign rfl) ?_;refine RL.nil ?_;refine WP.ret ?_;refine qf.ret ?_;refine ⟨.bool (false),Bu.one (fZ.tmp rfl),_,rfl,hX,?_⟩;dsimp only;exfalso;omega
 ·
  refine WP.skip ?_;refine qf.norm ?_;refine WP.seq ?_;refine ab ?_;refine RL.p rfl rfl (cK.assign rfl) ?_;refine RL.nil ?_;refine WP.block ?_;refine WP.loop (fun mz ez uz=>∃i:Nat,(mz=rx - i)∧(ez 1= .pointer (some ⟨g1,0,none⟩))∧(ez 3= .int .i64 ((i:Nat)))∧(i≤rx)∧(aF w uz)∧(bc uz g1 28 3 (bP [.int .i64 ((rx:Nat)),.int .i64 ((cx:Nat)),sx]))) (rx - 0) ?_ ?_
  · exact ⟨0,rfl,s1_e1,rfl,(by omega),hX,hA1⟩
  rintro m1 e2 w3 ⟨i,hm1,s1_e2,s3_e2,hi,hX1,hA1⟩;refine WP.seq ?_;refine ab ?_;refine RL.p rfl rfl (cK.move s3_e2) ?_;refine RL.p rfl rfl (cK.fieldAddr aq s1_e2) ?_;refine RL.p rfl rfl (cK.load aG rfl (hA1.at_ (i:=2) rfl rfl)) ?_;refine RL.p rfl rfl (cC az rfl (cA.ext hSx hX1)) ?_;refine RL.p rfl rfl (cK.lss rfl rfl) ?_;refine RL.nil ?_;refine af (((i:Nat):Int)<((rx:Nat):Int)) rfl (fun c24=> ?_) (fun c24=> ?_)
  ·
   refine WP.skip ?_;refine qf.norm ?_;refine WP.seq ?_;refine WP.block ?_;refine aI am 18 [_,_,_,_,_,_,_,_,_,fun v BZ=>v= .bool (decide (((cx:Nat):Int)≠((cx:Nat):Int))),_,_,_,_,_,fun v BZ=>(¬(((cx:Nat):Int)≠((cx:Nat):Int)))→(v= .bool (decide (True))),_,_] rfl rfl (fun e_ w_ BY BX=>⟨fun _=>aa (cK.fieldAddr aq ((BX 1 rfl s1_e2))),fun BW=>aa (cK.load aG ((BW 0 rfl)) ((bc.ext hA1 BY).at_ (i:=2) rfl rfl)),fun _=>aa (cK.move ((BX 3 rfl s3_e2))),fun BW=>ag (aP (j:=i) az (BW 1 rfl) (cA.ext (cA.ext hSx hX1) BY) (BW 2 rfl) (by omega) (by omega)),fun BW=>ag (aV aR rfl (BW 3 rfl)),fun BW=>aa (bW bl rfl (BW 4 rfl)),fun _=>aa (cK.fieldAddr bG ((BX 1 rfl s1_e2))),fun BW=>aa (cK.load bI ((BW 6 rfl)) ((bc.ext hA1 BY).at_ (i:=1) rfl rfl)),fun BW=>aa (cK.neq ((BW 5 rfl)) ((BW 7 rfl))),fun BW=>aa (cK.move ((BW 8 rfl))),fun BW=>gF (BW 9 rfl) fun hg=>aa (cK.fieldAddr aq ((BX 1 rfl s1_e2))),fun BW=>gF (BW 9 rfl) fun hg=>aa (cK.load aG ((BW 10 rfl hg)) ((bc.ext hA1 BY).at_ (i:=2) rfl rfl)),fun BW=>gF (BW 9 rfl) fun hg=>aa (cK.move ((BX 3 rfl s3_e2))),fun BW=>gF (BW 9 rfl) fun hg=>ag (aP (j:=i) az (BW 11 rfl hg) (cA.ext (cA.ext hSx hX1) BY) (BW 12 rfl hg) (by omega) (by omega)),fun BW=>gF (BW 9 rfl) fun hg=>ag (aV aR rfl (BW 13 rfl hg)),fun BW=>gF (BW 9 rfl) fun hg=>df.call Am (aN rfl) (pF _ _ _ _ _ (BW 14 rfl hg)),fun BW=>gF (BW 9 rfl) fun hg=>aa (cK.not (p:=True) (BW 15 rfl hg)),fun BW=>aa (bo (p:=((cx:Nat):Int)≠((cx:Nat):Int)) (q:=¬(True)) (BW 9 rfl) (fun hq=>(BW 16 rfl hq))),trivial⟩) ?_;intro e3 w4 hx3 ho2 hf2;replace hA1:=bc.ext hA1 hx3;replace hX1:=aF.trans hX1 hx3;have s1_e3:=ho2 1 rfl s1_e2;have s3_e3:=ho2 3 rfl s3_e2;have s44_e3:e3 44=_:=hf2 17 rfl;refine RL.nil ?_;refine af ((((cx:Nat):Int)≠((cx:Nat):Int))∨(¬(True))) s44_e3 (fun c44=> ?_) (fun c44=> ?_)
   ·
    refine ab ?_;refine RL.p rfl rfl (cK.assign rfl) ?_;refine RL.nil ?_;refine WP.ret ?_;refine jp.ret ?_;refine qf.ret ?_;refine qf.ret ?_;refine jp.ret ?_;refine qf.ret ?_;refine ⟨.bool (false),Bu.one (fZ.tmp rfl),_,rfl,hX1,?_⟩;dsimp only;exact c44.elim (fun h=>absurd rfl h) (fun h=>absurd trivial h)
   ·
    refine WP.skip ?_;refine jp.norm ?_;refine qf.norm ?_;refine WP.region ?_;refine RL.p rfl rfl (cK.move s3_e3) ?_;refine RL.p rfl rfl (cK.add (c:=((i + 1:Nat):Int)) rfl rfl (bY (by omega))) ?_;refine RL.p rfl rfl (cK.assign rfl) ?_;refine RL.nil ?_;refine qf.norm ⟨_,(by omega),i + 1,rfl,s1_e3,rfl,(by omega),hX1,hA1⟩
  ·
   refine WP.exit ?_;refine qf.exit ?_;refine qf.exit ?_;refine jp.same ?_;refine qf.norm ?_;refine ab ?_;refine RL.p rfl rfl (cK.assign rfl) ?_;refine RL.nil ?_;refine WP.ret ?_;refine ⟨.bool (true),Bu.one (fZ.tmp rfl),_,rfl,hX1,?_⟩
   rfl
set_option maxRecDepth 10000 in
theorem eN (w:World) (x:Value) (nx:Nat) (zx:Nat→Int) (btx:Nat) (y:Value) (ny:Nat) (zy:Nat→Int) (bty:Nat) (hx:bD w x nx zx btx) (hy:bD w y ny zy bty):Calls Tryz.prog 24 #[x,y] w (cj w fun v w'=>v= .bool (decide (aC nx ny zx zy))):=by
 have hLIM:bp=562949953421312:=rfl;have hlimx:=hx.lim;have hlimy:=hy.lim;refine aj (N:=27) (rs:= #[.tmp 4]) Tryz.func24 rfl rfl rfl (Nat.le_of_ble_eq_true rfl) ?_;have hX:aF w w:=aF.refl w;refine ab ?_;refine RL.p rfl rfl (cK.assign rfl) ?_;refine RL.nil ?_;refine WP.seq ?_;refine ab ?_;refine RL.p rfl rfl (cK.move rfl) ?_;refine RL.p rfl rfl (bW bX rfl (bD.ext hx hX)) ?_;refine RL.p rfl rfl (cK.move rfl) ?_;refine RL.p rfl rfl (bW bX rfl (bD.ext hy hX)) ?_;refine RL.p rfl rfl (cK.neq rfl rfl) ?_;refine RL.nil ?_;refine af (((nx:Nat):Int)≠((ny:Nat):Int)) rfl (fun c10=> ?_) (fun c10=> ?_)
 ·
  refine ab ?_;refine RL.p rfl rfl (cK.assign rfl) ?_;refine RL.nil ?_;refine WP.ret ?_;refine qf.ret ?_;refine ⟨.bool (false),Bu.one (fZ.tmp rfl),_,rfl,hX,?_⟩;dsimp only;rw [ow (by omega)]
 ·
  refine WP.skip ?_;refine qf.norm ?_;refine WP.seq ?_;refine ab ?_;refine RL.p rfl rfl (cK.assign rfl) ?_;refine RL.nil ?_;refine WP.block ?_;refine WP.loop (fun mz ez uz=>∃i:Nat,(mz=nx - i)∧(ez 0=x)∧(ez 1=y)∧(ez 5= .int .i64 ((i:Nat)))∧(i≤nx)∧(∀j,j<i→zx j=zy j)∧(aF w uz)) (nx - 0) ?_ ?_
  · exact ⟨0,rfl,rfl,rfl,rfl,(by omega),(fun j hj=>by omega),hX⟩
  rintro m1 e1 w1 ⟨i,hm1,s0_e1,s1_e1,s5_e1,hi,heq,hX1⟩;refine WP.seq ?_;refine ab ?_;refine RL.p rfl rfl (cK.move s5_e1) ?_;refine RL.p rfl rfl (cK.move s0_e1) ?_;refine RL.p rfl rfl (bW bX rfl (bD.ext hx hX1)) ?_;refine RL.p rfl rfl (cK.lss rfl rfl) ?_;refine RL.nil ?_;refine af (((i:Nat):Int)<((nx:Nat):Int)) rfl (fun c14=> ?_) (fun c14=> ?_)
  ·
   refine WP.skip ?_;refine qf.norm ?_;refine WP.seq ?_;refine WP.block ?_;refine aI am 10 [_,_,_,_,_,_,_,_,fun v BZ=>v= .bool (decide ((zx i:Int)=(zy i:Int))),_] rfl rfl (fun e_ w_ BY BX=>⟨fun _=>aa (cK.move ((BX 0 rfl s0_e1))),fun _=>aa (cK.move ((BX 5 rfl s5_e1))),fun BW=>ag (aQ (j:=i) bX (BW 0 rfl) (bD.ext (bD.ext hx hX1) BY) (BW 1 rfl) (by omega) (by omega)),fun BW=>ag (aW an rfl (BW 2 rfl)),fun _=>aa (cK.move ((BX 1 rfl s1_e1))),fun _=>aa (cK.move ((BX 5 rfl s5_e1))),fun BW=>ag (aQ (j:=i) bX (BW 4 rfl) (bD.ext (bD.ext hy hX1) BY) (BW 5 rfl) (by omega) (by omega)),fun BW=>ag (aW an rfl (BW 6 rfl)),fun BW=>df.call AJ (aw rfl rfl) (zb _ _ _ _ _ _ _ ((BW 3 rfl)) ((BW 7 rfl))),fun BW=>aa (cK.not (p:=(zx i:Int)=(zy i:Int)) (BW 8 rfl)),trivial⟩) ?_;intro e2 w2 hx1 ho1 hf1;replace hX1:=aF.trans hX1 hx1;have s0_e2:=ho1 0 rfl s0_e1;have s1_e2:=ho1 1 rfl s1_e1;have s5_e2:=ho1 5 rfl s5_e1;have s26_e2:e2 26=_:=hf1 9 rfl;refine RL.nil ?_;refine af (¬((zx i:Int)=(zy i:Int))) s26_e2 (fun c26=> ?_) (fun c26=> ?_)
   ·
    refine ab ?_;refine RL.p rfl rfl (cK.assign rfl) ?_;refine RL.nil ?_;refine WP.ret ?_;refine jp.ret ?_;refine qf.ret ?_;refine qf.ret ?_;refine jp.ret ?_;refine qf.ret ?_;refine ⟨.bool (false),Bu.one (fZ.tmp rfl),_,rfl,hX1,?_⟩;dsimp only;rw [ox (i:=i) (by omega) c26]
   ·
    refine WP.skip ?_;refine jp.norm ?_;refine qf.norm ?_;refine WP.region ?_;refine RL.p rfl rfl (cK.move s5_e2) ?_;refine RL.p rfl rfl (cK.add (c:=((i + 1:Nat):Int)) rfl rfl (bY (by omega))) ?_;refine RL.p rfl rfl (cK.assign rfl) ?_;refine RL.nil ?_;refine qf.norm ⟨_,(by omega),i + 1,rfl,s0_e2,s1_e2,rfl,(by omega),(er heq (by omega)),hX1⟩
  ·
   refine WP.exit ?_;refine qf.exit ?_;refine qf.exit ?_;refine jp.same ?_;refine qf.norm ?_;refine ab ?_;refine RL.p rfl rfl (cK.assign rfl) ?_;refine RL.nil ?_;refine WP.ret ?_;refine ⟨.bool (true),Bu.one (fZ.tmp rfl),_,rfl,hX1,?_⟩;dsimp only;rw [mA (by omega) (fun j hj=>heq j (by omega))]
set_option maxRecDepth 10000 in
theorem iX (w:World) (x:Value) (rx cx:Nat) (Mx:Nat→Nat→Int) (btx:Nat) (y:Value) (ry cy:Nat) (My:Nat→Nat→Int) (bty:Nat) (hx:cc w x rx cx Mx btx) (hy:cc w y ry cy My bty):Calls Tryz.prog 13 #[x,y] w (cj w fun v w'=>v= .bool (decide (aD rx cx ry cy Mx My))):=by
 have hLIM:bp=562949953421312:=rfl;have hmatx:=hx;obtain ⟨sx,rfl,hrx,hcx,hSx⟩:=hx.form;have hmaty:=hy;obtain ⟨sy,rfl,hry,hcy,hSy⟩:=hy.form;refine aj (N:=46) (rs:= #[.tmp 4]) Tryz.func13 rfl rfl rfl (Nat.le_of_ble_eq_true rfl) ?_;have hX:aF w w:=aF.refl w;refine ab ?_;refine RL.x rfl rfl (df.box [.int .i64 ((rx:Nat)),.int .i64 ((cx:Nat)),sx] rfl rfl) ?_;rintro _ w1 ⟨g1,rfl,hge1,hx1,hA1⟩;replace hX:=aF.trans hX hx1;refine RL.x rfl rfl (df.box [.int .i64 ((ry:Nat)),.int .i64 ((cy:Nat)),sy] rfl rfl) ?_;rintro _ w2 ⟨g2,rfl,hge2,hx2,hA2⟩;replace hA1:=bc.ext hA1 hx2;replace hX:=aF.trans hX hx2;refine RL.p rfl rfl (cK.assign rfl) ?_;refine RL.nil ?_;refine WP.seq ?_;refine aI am 21 [_,_,_,_,_,fun v BZ=>v= .bool (decide (((rx:Nat):Int)≠((ry:Nat):Int))),_,_,_,_,_,_,fun v BZ=>v= .bool (decide ((((rx:Nat):Int)≠((ry:Nat):Int))∨(((cx:Nat):Int)≠((cy:Nat):Int)))),_,_,_,_,_,_,_,_] rfl rfl (fun e_ w_ BY BX=>⟨fun _=>aa (cK.fieldAddr bk ((BX 2 rfl rfl))),fun BW=>aa (cK.load bI ((BW 0 rfl)) ((bc.ext hA1 BY).at_ (i:=0) rfl rfl)),fun _=>aa (cK.fieldAddr bk ((BX 3 rfl rfl))),fun BW=>aa (cK.load bI ((BW 2 rfl)) ((bc.ext hA2 BY).at_ (i:=0) rfl rfl)),fun BW=>aa (cK.neq ((BW 1 rfl)) ((BW 3 rfl))),fun BW=>aa (cK.move ((BW 4 rfl))),fun BW=>gF (BW 5 rfl) fun hg=>aa (cK.fieldAddr bG ((BX 2 rfl rfl))),fun BW=>gF (BW 5 rfl) fun hg=>aa (cK.load bI ((BW 6 rfl hg)) ((bc.ext hA1 BY).at_ (i:=1) rfl rfl)),fun BW=>gF (BW 5 rfl) fun hg=>aa (cK.fieldAddr bG ((BX 3 rfl rfl))),fun BW=>gF (BW 5 rfl) fun hg=>aa (cK.load bI ((BW 8 rfl hg)) ((bc.ext hA2 BY).at_ (i:=1) rfl rfl)),fun BW=>gF (BW 5 rfl) fun hg=>aa (cK.neq ((BW 7 rfl hg)) ((BW 9 rfl hg))),fun BW=>aa (bo (p:=((rx:Nat):Int)≠((ry:Nat):Int)) (q:=((cx:Nat):Int)≠((cy:Nat):Int)) (BW 5 rfl) (fun hq=>(BW 10 rfl hq))),fun BW=>aa (cK.move ((BW 11 rfl))),fun BW=>gF (BW 12 rfl) fun hg=>aa (cK.fieldAddr aq ((BX 2 rfl rfl))),fun BW=>gF (BW 12 rfl) fun hg=>aa (cK.load aG ((BW 13 rfl hg)) ((bc.ext hA1 BY).at_ (i:=2) rfl rfl)),fun BW=>gF (BW 12 rfl) fun hg=>aa (cC az (BW 14 rfl hg) (cA.ext (cA.ext hSx hX) BY)),fun BW=>gF (BW 12 rfl) fun hg=>aa (cK.fieldAddr aq ((BX 3 rfl rfl))),fun BW=>gF (BW 12 rfl) fun hg=>aa (cK.load aG ((BW 16 rfl hg)) ((bc.ext hA2 BY).at_ (i:=2) rfl rfl)),fun BW=>gF (BW 12 rfl) fun hg=>aa (cC az (BW 17 rfl hg) (cA.ext (cA.ext hSy hX) BY)),fun BW=>gF (BW 12 rfl) fun hg=>aa (cK.neq ((BW 15 rfl hg)) ((BW 18 rfl hg))),fun BW=>aa (bo (p:=(((rx:Nat):Int)≠((ry:Nat):Int))∨(((cx:Nat):Int)≠((cy:Nat):Int))) (q:=((rx:Nat):Int)≠((ry:Nat):Int)) (BW 12 rfl) (fun hq=>(BW 19 rfl hq))),trivial⟩) ?_;intro e1 w3 hx3 ho1 hf1;replace hA1:=bc.ext hA1 hx3;replace hA2:=bc.ext hA2 hx3;replace hX:=aF.trans hX hx3;have s2_e1:e1 2=_:=ho1 2 rfl rfl;have s3_e1:e1 3=_:=ho1 3 rfl rfl;have s26_e1:e1 26=_:=hf1 20 rfl;refine RL.nil ?_;refine af (((((rx:Nat):Int)≠((ry:Nat):Int))∨(((cx:Nat):Int)≠((cy:Nat):Int)))∨(((rx:Nat):Int)≠((ry:Nat):Int))) s26_e1 (fun c26=> ?_) (fun c26=> ?_)
 ·
  refine ab ?_;refine RL.p rfl rfl (cK.assign rfl) ?_;refine RL.nil ?_;refine WP.ret ?_;refine qf.ret ?_;refine ⟨.bool (false),Bu.one (fZ.tmp rfl),_,rfl,hX,?_⟩;dsimp only;rw [uG (by omega)]
 ·
  refine WP.skip ?_;refine qf.norm ?_;refine WP.seq ?_;refine ab ?_;refine RL.p rfl rfl (cK.assign rfl) ?_;refine RL.nil ?_;refine WP.block ?_;refine WP.loop (fun mz ez uz=>∃i:Nat,(mz=rx - i)∧(ez 2= .pointer (some ⟨g1,0,none⟩))∧(ez 3= .pointer (some ⟨g2,0,none⟩))∧(ez 5= .int .i64 ((i:Nat)))∧(i≤rx)∧(∀j,j<i→aC cx cy (Mx j) (My j))∧(aF w uz)∧(bc uz g1 28 3 (bP [.int .i64 ((rx:Nat)),.int .i64 ((cx:Nat)),sx]))∧(bc uz g2 28 3 (bP [.int .i64 ((ry:Nat)),.int .i64 ((cy:Nat)),sy]))) (rx - 0) ?_ ?_
  · exact ⟨0,rfl,s2_e1,s3_e1,rfl,(by omega),(fun j hj=>by omega),hX,hA1,hA2⟩
  rintro m1 e2 w4 ⟨i,hm1,s2_e2,s3_e2,s5_e2,hi,heq,hX1,hA1,hA2⟩;refine WP.seq ?_;refine ab ?_;refine RL.p rfl rfl (cK.move s5_e2) ?_;refine RL.p rfl rfl (cK.fieldAddr aq s2_e2) ?_;refine RL.p rfl rfl (cK.load aG rfl (hA1.at_ (i:=2) rfl rfl)) ?_;refine RL.p rfl rfl (cC az rfl (cA.ext hSx hX1)) ?_;refine RL.p rfl rfl (cK.lss rfl rfl) ?_;refine RL.nil ?_;refine af (((i:Nat):Int)<((rx:Nat):Int)) rfl (fun c31=> ?_) (fun c31=> ?_)
  ·
   refine WP.skip ?_;refine qf.norm ?_;refine WP.seq ?_;refine WP.block ?_;refine aI am 12 [_,_,_,_,_,_,_,_,_,_,fun v BZ=>v= .bool (decide (aC cx cy (Mx i) (My i))),_] rfl rfl (fun e_ w_ BY BX=>⟨fun _=>aa (cK.fieldAddr aq ((BX 2 rfl s2_e2))),fun BW=>aa (cK.load aG ((BW 0 rfl)) ((bc.ext hA1 BY).at_ (i:=2) rfl rfl)),fun _=>aa (cK.move ((BX 5 rfl s5_e2))),fun BW=>ag (aP (j:=i) az (BW 1 rfl) (cA.ext (cA.ext hSx hX1) BY) (BW 2 rfl) (by omega) (by omega)),fun BW=>ag (aV aR rfl (BW 3 rfl)),fun _=>aa (cK.fieldAddr aq ((BX 3 rfl s3_e2))),fun BW=>aa (cK.load aG ((BW 5 rfl)) ((bc.ext hA2 BY).at_ (i:=2) rfl rfl)),fun _=>aa (cK.move ((BX 5 rfl s5_e2))),fun BW=>ag (aP (j:=i) az (BW 6 rfl) (cA.ext (cA.ext hSy hX1) BY) (BW 7 rfl) (by omega) (by omega)),fun BW=>ag (aV aR rfl (BW 8 rfl)),fun BW=>df.call mr (aw rfl rfl) (eN _ _ _ _ _ _ _ _ _ (BW 4 rfl) (BW 9 rfl)),fun BW=>aa (cK.not (p:=aC cx cy (Mx i) (My i)) (BW 10 rfl)),trivial⟩) ?_;intro e3 w5 hx4 ho2 hf2;replace hA1:=bc.ext hA1 hx4;replace hA2:=bc.ext hA2 hx4;replace hX1:=aF.trans hX1 hx4;have s2_e3:=ho2 2 rfl s2_e2;have s3_e3:=ho2 3 rfl s3_e2;have s5_e3:=ho2 5 rfl s5_e2;have s45_e3:e3 45=_:=hf2 11 rfl;refine RL.nil ?_;refine af (¬(aC cx cy (Mx i) (My i))) s45_e3 (fun c45=> ?_) (fun c45=> ?_)
   ·
    refine ab ?_;refine RL.p rfl rfl (cK.assign rfl) ?_;refine RL.nil ?_;refine WP.ret ?_;refine jp.ret ?_;refine qf.ret ?_;refine qf.ret ?_;refine jp.ret ?_;refine qf.ret ?_;refine ⟨.bool (false),Bu.one (fZ.tmp rfl),_,rfl,hX1,?_⟩;dsimp only;rw [uH (i:=i) (by omega) c45]
   ·
    refine WP.skip ?_;refine jp.norm ?_;refine qf.norm ?_;refine WP.region ?_;refine RL.p rfl rfl (cK.move s5_e3) ?_;refine RL.p rfl rfl (cK.add (c:=((i + 1:Nat):Int)) rfl rfl (bY (by omega))) ?_;refine RL.p rfl rfl (cK.assign rfl) ?_;refine RL.nil ?_;refine qf.norm ⟨_,(by omega),i + 1,rfl,s2_e3,s3_e3,rfl,(by omega),(er heq (Decidable.of_not_not c45)),hX1,hA1,hA2⟩
  ·
   refine WP.exit ?_;refine qf.exit ?_;refine qf.exit ?_;refine jp.same ?_;refine qf.norm ?_;refine ab ?_;refine RL.p rfl rfl (cK.assign rfl) ?_;refine RL.nil ?_;refine WP.ret ?_;refine ⟨.bool (true),Bu.one (fZ.tmp rfl),_,rfl,hX1,?_⟩;dsimp only;rw [sO (by omega) (fun j hj=>heq j (by omega))]
set_option maxRecDepth 10000 in
theorem qK (w:World) (x:Value) (rx cx:Nat) (Mx:Nat→Nat→Int) (btx:Nat) (r:Nat) (c:Nat) (hx:cc w x rx cx Mx btx):Calls Tryz.prog 45 #[x,.int .i64 (r:Nat),.int .i64 (c:Nat)] w (cj w fun v w'=>v= .bool (decide ((((rx:Nat):Int)=((r:Nat):Int)∧((cx:Nat):Int)=((c:Nat):Int))∧True))):=by
 have hLIM:bp=562949953421312:=rfl;have hmatx:=hx;obtain ⟨sx,rfl,hrx,hcx,hSx⟩:=hx.form;refine aj (N:=21) (rs:= #[.tmp 6]) Tryz.func45 rfl rfl rfl (Nat.le_of_ble_eq_true rfl) ?_;have hX:aF w w:=aF.refl w;refine ab ?_;refine RL.x rfl rfl (df.box [.int .i64 ((rx:Nat)),.int .i64 ((cx:Nat)),sx] rfl rfl) ?_;rintro _ w1 ⟨g1,rfl,hge1,hx1,hA1⟩;replace hX:=aF.trans hX hx1;refine RL.p rfl rfl (cK.assign rfl) ?_;refine RL.nil ?_;refine aI am 14 [_,_,_,_,fun v BZ=>v= .bool (decide (((rx:Nat):Int)=((r:Nat):Int))),_,_,_,_,_,fun v BZ=>v= .bool (decide ((((rx:Nat):Int)=((r:Nat):Int))∧(((cx:Nat):Int)=((c:Nat):Int)))),_,fun v BZ=>((((rx:Nat):Int)=((r:Nat):Int))∧(((cx:Nat):Int)=((c:Nat):Int)))→(v= .bool (decide (True))),_] rfl rfl (fun e_ w_ BY BX=>⟨fun _=>aa (cK.fieldAddr bk ((BX 3 rfl rfl))),fun BW=>aa (cK.load bI ((BW 0 rfl)) ((bc.ext hA1 BY).at_ (i:=0) rfl rfl)),fun _=>aa (cK.move ((BX 1 rfl rfl))),fun BW=>aa (cK.eql ((BW 1 rfl)) ((BW 2 rfl))),fun BW=>aa (cK.move ((BW 3 rfl))),fun BW=>gT (BW 4 rfl) fun hg=>aa (cK.fieldAddr bG ((BX 3 rfl rfl))),fun BW=>gT (BW 4 rfl) fun hg=>aa (cK.load bI ((BW 5 rfl hg)) ((bc.ext hA1 BY).at_ (i:=1) rfl rfl)),fun BW=>gT (BW 4 rfl) fun hg=>aa (cK.move ((BX 2 rfl rfl))),fun BW=>gT (BW 4 rfl) fun hg=>aa (cK.eql ((BW 6 rfl hg)) ((BW 7 rfl hg))),fun BW=>aa (ay (p:=((rx:Nat):Int)=((r:Nat):Int)) (q:=((cx:Nat):Int)=((c:Nat):Int)) (BW 4 rfl) (fun hq=>(BW 8 rfl hq))),fun BW=>aa (cK.move ((BW 9 rfl))),fun BW=>gT (BW 10 rfl) fun hg=>aa (ah [.int .i64 ((rx:Nat)),.int .i64 ((cx:Nat)),sx] aZ ((BX 3 rfl rfl)) ((bc.ext hA1 BY).cells 0 _ rfl rfl)),fun BW=>gT (BW 10 rfl) fun hg=>df.call tA (aN ((BW 11 rfl hg))) (lC _ _ _ _ _ _ (cc.mk (cA.ext (cA.ext hSx hX) BY) (by omega) (by omega))),fun BW=>aa (ay (p:=(((rx:Nat):Int)=((r:Nat):Int))∧(((cx:Nat):Int)=((c:Nat):Int))) (q:=True) (BW 10 rfl) (fun hq=>(BW 12 rfl hq))),trivial⟩) ?_;intro e1 w2 hx2 ho1 hf1;replace hX:=aF.trans hX hx2;have s20_e1:e1 20=_:=hf1 13 rfl;refine RL.p rfl rfl (cK.assign s20_e1) ?_;refine RL.nil ?_;refine WP.ret ?_;refine ⟨.bool (decide (((((rx:Nat):Int)=((r:Nat):Int))∧(((cx:Nat):Int)=((c:Nat):Int)))∧(True))),Bu.one (fZ.tmp rfl),_,rfl,hX,?_⟩
 rfl
set_option maxRecDepth 10000 in
theorem wl (w:World) (x:Value) (nx:Nat) (zx:Nat→Int) (btx:Nat) (hx:bD w x nx zx btx):Calls Tryz.prog 27 #[x] w (cj w fun v w'=>v= .bool (decide (∀j,j<nx→zx j=0))):=by
 have hLIM:bp=562949953421312:=rfl;have hlimx:=hx.lim;refine aj (N:=16) (rs:= #[.tmp 2]) Tryz.func27 rfl rfl rfl (Nat.le_of_ble_eq_true rfl) ?_;have hX:aF w w:=aF.refl w;refine ab ?_;refine RL.p rfl rfl (cK.assign rfl) ?_;refine RL.nil ?_;refine WP.seq ?_;refine ab ?_;refine RL.p rfl rfl (cK.assign rfl) ?_;refine RL.nil ?_;refine WP.block ?_;refine WP.loop (fun mz ez uz=>∃i:Nat,(mz=nx - i)∧(ez 0=x)∧(ez 3= .int .i64 ((i:Nat)))∧(i≤nx)∧(∀j,j<i→zx j=0)∧(aF w uz)) (nx - 0) ?_ ?_
 · exact ⟨0,rfl,rfl,rfl,(by omega),(fun j hj=>by omega),hX⟩
 rintro m1 e1 w1 ⟨i,hm1,s0_e1,s3_e1,hi,hz,hX1⟩;refine WP.seq ?_;refine ab ?_;refine RL.p rfl rfl (cK.move s3_e1) ?_;refine RL.p rfl rfl (cK.move s0_e1) ?_;refine RL.p rfl rfl (bW bX rfl (bD.ext hx hX1)) ?_;refine RL.p rfl rfl (cK.lss rfl rfl) ?_;refine RL.nil ?_;refine af (((i:Nat):Int)<((nx:Nat):Int)) rfl (fun c7=> ?_) (fun c7=> ?_)
 ·
  refine WP.skip ?_;refine qf.norm ?_;refine WP.seq ?_;refine WP.block ?_;refine ab ?_;refine RL.p rfl rfl (cK.move s0_e1) ?_;refine RL.p rfl rfl (cK.move s3_e1) ?_;refine RL.x rfl rfl (aQ (j:=i) bX rfl (bD.ext hx hX1) rfl (by omega) (by omega)) ?_;rintro v1 _ ⟨rfl,q1⟩;refine RL.x rfl rfl (aW an rfl q1) ?_;rintro v2 _ ⟨rfl,q2⟩;refine RL.x rfl rfl (df.call gl (aN rfl) (fe _ _ _ _ q2)) ?_;rintro _ w2 ⟨hx1,rfl⟩;replace hX1:=aF.trans hX1 hx1;refine RL.p rfl rfl (cK.neq rfl rfl) ?_;refine RL.nil ?_;refine af (((zx i:Int).sign:Int)≠(0:Int)) rfl (fun c15=> ?_) (fun c15=> ?_)
  ·
   refine ab ?_;refine RL.p rfl rfl (cK.assign rfl) ?_;refine RL.nil ?_;refine WP.ret ?_;refine jp.ret ?_;refine qf.ret ?_;refine qf.ret ?_;refine jp.ret ?_;refine qf.ret ?_;refine ⟨.bool (false),Bu.one (fZ.tmp rfl),_,rfl,hX1,?_⟩;dsimp only;exact congrArg _ (decide_eq_false fun h=>c15 (by rw [h i (by omega)];rfl)).symm
  ·
   refine WP.skip ?_;refine jp.norm ?_;refine qf.norm ?_;refine WP.region ?_;refine RL.p rfl rfl (cK.move s3_e1) ?_;refine RL.p rfl rfl (cK.add (c:=((i + 1:Nat):Int)) rfl rfl (bY (by omega))) ?_;refine RL.p rfl rfl (cK.assign rfl) ?_;refine RL.nil ?_;refine qf.norm ⟨_,(by omega),i + 1,rfl,s0_e1,rfl,(by omega),(er (p:=fun j=>zx j=0) hz (Int.sign_eq_zero_iff_zero.mp (by omega))),hX1⟩
 ·
  refine WP.exit ?_;refine qf.exit ?_;refine qf.exit ?_;refine jp.same ?_;refine qf.norm ?_;refine ab ?_;refine RL.p rfl rfl (cK.assign rfl) ?_;refine RL.nil ?_;refine WP.ret ?_;refine ⟨.bool (true),Bu.one (fZ.tmp rfl),_,rfl,hX1,?_⟩;dsimp only;exact congrArg _ (decide_eq_true fun j hj=>hz j (by omega)).symm
end Go.TL
