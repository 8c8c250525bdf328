/-
  Lemmas towards the theorem of this claim (part 6).
  Conditions: those that each theorem names.
-/
import Derived.Test.YtgkokhkpdlekcaaGreatPA5
namespace Go.TL
set_option linter.unusedVariables false
def iO (r top q:Nat) (M:Nat→Nat→Int):Prop:=∃P:Nat→Nat,(∀i,i<top→P i<q∧0<M i (P i)∧(∀j,j<P i→M i j=0)∧∀k,k<i→P k<P i∧0≤M k (P i)∧M k (P i)<M i (P i))∧
  ∀a,top≤a→a<r→∀j,j<q→M a j=0
def eB (e0:Nat):Nat→Nat
  | 0=>e0
  | t + 1=>6*eB e0 t + 2
def gB (e0:Nat):Nat→Nat
  | 0=>0
  | t + 1=>gB e0 t + 10*eB e0 t + 6
structure FI (r c e0:Nat) (M0:Nat→Nat→Int) (top q:Nat) (S:WS):Prop where
  lin:Lin r c M0 S
  ech:iO r top q S.M
  bm:∀i j,i<r→j<c→(S.M i j).natAbs≤2^eB e0 top
  bu:∀i j,i<r→j<r→(S.U i j).natAbs≤2^eB e0 top
  bv:∀i j,i<r→j<r→(S.V i j).natAbs≤2^gB e0 top
structure JI (r c e0:Nat) (M0:Nat→Nat→Int) (top q m:Nat) (S:WS):Prop where
  lin:Lin r c M0 S
  ech:iO r top q S.M
  above:∀i,i<top→(S.M i q).natAbs≤2^eB e0 top
  run:∃a b u:Nat,(∀i j,i<r→j<c→(S.M i j).natAbs≤2^eB e0 top*a)∧(∀i j,i<r→j<r→(S.U i j).natAbs≤2^eB e0 top*a)∧(∀i j,i<r→j<r→(S.V i j).natAbs≤2^gB e0 top*b)∧
    ((a=1∧b=1∧m=2^eB e0 top + 2∧∀i,top≤i→i<r→(S.M i q).natAbs≤2^eB e0 top)∨
     (0<m∧S.M top q=(m:Int)∧m≤2^eB e0 top∧(∀i,top<i→i<r→0≤S.M i q∧S.M i q<(m:Int)∧S.M i q≤(u:Int))∧1≤u∧
      a*(m*m)*u≤(1 + 2^eB e0 top)*(2^eB e0 top)^3∧b*m^7*u≤(1 + 7*2^eB e0 top)*(2^eB e0 top)^8))
section
variable {r c e0:Nat} {M0:Nat→Nat→Int} {top q m:Nat} {S:WS}
theorem gE (e0:Nat):∀{s t:Nat},s≤t→eB e0 s≤eB e0 t
  | s,0,h=>by rw [show s=0 by omega];exact Nat.le_refl _
  | s,t + 1,h=>by
    by_cases e:s=t + 1
    · rw [e];exact Nat.le_refl _
    · have:=gE e0 (s:=s) (t:=t) (by omega);simp only [eB];omega
theorem qy (e0:Nat):∀{s t:Nat},s≤t→gB e0 s≤gB e0 t
  | s,0,h=>by rw [show s=0 by omega];exact Nat.le_refl _
  | s,t + 1,h=>by
    by_cases e:s=t + 1
    · rw [e];exact Nat.le_refl _
    · have:=qy e0 (s:=s) (t:=t) (by omega);simp only [gB];omega
theorem qj (e:Nat):2^e*((1 + 2^e)*(2^e)^3)*(1 + 2^e)≤2^(6*e + 2):=by
  have h0:0<2^e:=Nat.two_pow_pos e;have h1:1 + 2^e≤2*2^e:=by omega
  have h2:2^(6*e + 2)=2^e*(2*2^e*(2^e)^3)*(2*2^e):=by
    have:2^(6*e + 2)=(2^e)^6*4:=by rw [Nat.pow_add,Nat.mul_comm 6 e,Nat.pow_mul]
    rw [this]
    generalize 2^e=x
    simp only [Nat.pow_succ,Nat.pow_zero,Nat.one_mul];rw [show (4:Nat)=2*2 by decide]
    ac_rfl
  rw [h2];exact Nat.mul_le_mul (Nat.mul_le_mul_left _ (Nat.mul_le_mul_right _ h1)) h1
theorem wX (g e:Nat):2^g*((1 + 7*2^e)*(2^e)^8)*(1 + 7*2^e)≤2^(g + 10*e + 6):=by
  have h0:0<2^e:=Nat.two_pow_pos e;have h1:1 + 7*2^e≤8*2^e:=by omega
  have h2:2^(g + 10*e + 6)=2^g*(8*2^e*(2^e)^8)*(8*2^e):=by
    have:2^(g + 10*e + 6)=2^g*(2^e)^10*64:=by rw [Nat.pow_add,Nat.pow_add,Nat.mul_comm 10 e,Nat.pow_mul]
    rw [this]
    generalize 2^e=x
    simp only [Nat.pow_succ,Nat.pow_zero,Nat.one_mul];rw [show (64:Nat)=8*8 by decide]
    ac_rfl
  rw [h2];exact Nat.mul_le_mul (Nat.mul_le_mul_left _ (Nat.mul_le_mul_right _ h1)) h1
theorem FI.start (hM:∀i j,i<r→j<c→(M0 i j).natAbs≤2^e0):FI r c e0 M0 0 0 ⟨M0,bH,bH⟩:=by
  have hid:∀(e i j:Nat),(bH i j).natAbs≤2^e:=fun e i j=>by
    have:=Nat.two_pow_pos e
    unfold bH;split<;>simp<;>omega
  exact ⟨Lin.start M0,⟨fun _=>0,fun i hi=>by omega,fun a _ _ j hj=>by omega⟩,hM,fun i j _ _=>hid _ i j,fun i j _ _=>hid _ i j⟩
theorem JI.of (h:FI r c e0 M0 top q S) (ht:top<r) (hq:q<c):JI r c e0 M0 top q (2^eB e0 top + 2) S:=
  ⟨h.lin,h.ech,fun i hi=>h.bm i q (by omega) hq,1,1,0,fun i j hi hj=>by rw [Nat.mul_one];exact h.bm i j hi hj,fun i j hi hj=>by rw [Nat.mul_one];exact h.bu i j hi hj,fun i j hi hj=>by rw [Nat.mul_one];exact h.bv i j hi hj,.inl ⟨rfl,rfl,rfl,fun i _ hi=>h.bm i q hi hq⟩⟩
theorem iO.sn (h:iO r top q S.M) {p:Nat} (hp:p<r) (hpt:top≤p) (ht:top<r):iO r top q (TL.sn S p top q).M:=by
  obtain ⟨P,h1,h2⟩:=h;have hlow:∀i,i<top→∀j,(TL.sn S p top q).M i j=S.M i j:=fun i hi j=>by
    rw [(qT S p top q i j).1 (by omega),if_neg (by omega)]
  refine ⟨P,fun i hi=> ?_,fun a ha har j hj=> ?_⟩
  · obtain ⟨g1,g2,g3,g4⟩:=h1 i hi
    refine ⟨g1,by rw [hlow i hi];exact g2,fun j hj=>by rw [hlow i hi];exact g3 j hj,fun k hk=> ?_⟩;rw [hlow i hi,hlow k (by omega)];exact g4 k hk
  · by_cases e:a=top
    · subst e
      have:=(qT S p a q a j).2;rw [h2 p hpt hp j hj] at this;omega
    · rw [(qT S p top q a j).1 e];split
      · exact h2 top (Nat.le_refl _) ht j hj
      · exact h2 a ha har j hj
theorem iO.el (h:iO r top q S.M) (ht:top<r) {n:Nat}:iO r top q (TL.el S top q n).M:=by
  obtain ⟨P,h1,h2⟩:=h;have hlow:∀i,i<top→∀j,(TL.el S top q n).M i j=S.M i j:=fun i hi j=>by rw [mK,if_neg (by omega)]
  refine ⟨P,fun i hi=> ?_,fun a ha har j hj=> ?_⟩
  · obtain ⟨g1,g2,g3,g4⟩:=h1 i hi
    refine ⟨g1,by rw [hlow i hi];exact g2,fun j hj=>by rw [hlow i hi];exact g3 j hj,fun k hk=> ?_⟩;rw [hlow i hi,hlow k (by omega)];exact g4 k hk
  · rw [mK,h2 a ha har j hj,h2 top (Nat.le_refl _) ht j hj];simp
theorem lead (hp:0≤(bn (fun a=>S.M a q) top (r - top)).1) (ht:top<r):top≤(bn (fun a=>S.M a q) top (r - top)).1.toNat∧(bn (fun a=>S.M a q) top (r - top)).1.toNat<r∧S.M (bn (fun a=>S.M a q) top (r - top)).1.toNat q≠0∧
    (∀i,top≤i→i<r→S.M i q≠0→(S.M (bn (fun a=>S.M a q) top (r - top)).1.toNat q).natAbs≤(S.M i q).natAbs)∧((bn (fun a=>S.M a q) top (r - top)).2=false→∀i,top≤i→i<r→i≠(bn (fun a=>S.M a q) top (r - top)).1.toNat→S.M i q=0):=by
  obtain ⟨h1,h2,h3,h4,h5⟩:=eP (x:=fun a=>S.M a q) (top:=top) (n:=r - top) hp;exact ⟨h1,by omega,h3,fun i hi hr hz=>h4 i hi (by omega) hz,fun ho i hi hr hne=>h5 ho i hi (by omega) hne⟩
theorem JI.round (h:JI r c e0 M0 top q m S) (ht:top<r) (hq:q<c) (h8:r≤8) (hp:0≤(bn (fun a=>S.M a q) top (r - top)).1) (ho:(bn (fun a=>S.M a q) top (r - top)).2=true):
    ∃m2,m2<m∧JI r c e0 M0 top q m2 (el (sn S (bn (fun a=>S.M a q) top (r - top)).1.toNat top q) top q (r - top - 1))∧
      ∀n,top + 1 + n<r→(∀i j,i<r→j<c→((el (sn S (bn (fun a=>S.M a q) top (r - top)).1.toNat top q) top q (n + 1)).M i j).natAbs≤2^eB e0 (top + 1))∧
        (∀i j,i<r→j<r→((el (sn S (bn (fun a=>S.M a q) top (r - top)).1.toNat top q) top q (n + 1)).U i j).natAbs≤2^eB e0 (top + 1))∧
        ∀i j,i<r→j<r→((el (sn S (bn (fun a=>S.M a q) top (r - top)).1.toNat top q) top q (n + 1)).V i j).natAbs≤2^gB e0 (top + 1):=by
  obtain ⟨hl1,hl2,hl3,hl4,_⟩:=lead hp ht;obtain ⟨i1,i2,hi12,hi1,hi1r,hi2,hi2r,hz1,hz2⟩:=qo (x:=fun a=>S.M a q) (top:=top) (n:=r - top) ho
  generalize hpe:(bn (fun a=>S.M a q) top (r - top)).1.toNat=p at*
  have hE0:0<2^eB e0 top:=Nat.two_pow_pos _;obtain ⟨a,b,u,hM,hU,hV,hc⟩:=h.run;have htop:=iQ S p top q;obtain ⟨hM2,hU2,hV2⟩:=sI (q:=q) hl2 ht hM hU hV;have hlin:=h.lin.sn q hl2 ht;have hech:=h.ech.sn (q:=q) hl2 hl1 ht;have hcol:∀i,i≠top→(sn S p top q).M i q=if i=p then S.M top q else S.M i q:=fun i hi=>(qT S p top q i q).1 hi
  have hab:∀i,i<top→((sn S p top q).M i q).natAbs≤2^eB e0 top:=fun i hi=>by rw [hcol i (by omega),if_neg (by omega)];exact h.above i hi
  generalize sn S p top q=S2 at*
  generalize hy:(S.M p q).natAbs=y at*
  have hy0:0<y:=by omega
  have key:∃K a' b' u':Nat,(∀i,top<i→i<r→(kq S2 top q i).natAbs≤K)∧y<m∧y≤2^eB e0 top∧(∀i,top<i→i<r→S2.M i q % (y:Int)≤(u':Int))∧1≤u'∧a'=a*(1 + K)∧b'=b*(1 + 7*K)∧
      a'*(y*y)*u'≤(1 + 2^eB e0 top)*(2^eB e0 top)^3∧b'*y^7*u'≤(1 + 7*2^eB e0 top)*(2^eB e0 top)^8:=by
    rcases hc with ⟨ha1,hb1,hm,hcE⟩ | ⟨hm0,hmt,hmE,hoth,hu1,hpa,hpb⟩
    · have hyE:y≤2^eB e0 top:=by rw [←hy];exact hcE p hl1 hl2
      refine ⟨2^eB e0 top,_,_,y,fun i hi hir=> ?_,by omega,hyE,fun i hi hir=> ?_,by omega,rfl,rfl,?_,?_⟩
      · unfold kq
        rw [htop];refine Nat.le_trans (mJ (by omega)) ?_;rw [hcol i (by omega)];split
        · exact hcE top (Nat.le_refl _) ht
        · exact hcE i (by omega) hir
      · have:=Int.emod_lt_of_pos (S2.M i q) (show (0:Int)<y by omega);omega
      · subst ha1
        rw [Nat.one_mul,Nat.mul_assoc];refine Nat.mul_le_mul_left _ ?_;have:y*y*y≤2^eB e0 top*2^eB e0 top*2^eB e0 top:=Nat.mul_le_mul (Nat.mul_le_mul hyE hyE) hyE;simp only [Nat.pow_succ,Nat.pow_zero,Nat.one_mul];exact this
      · subst hb1
        rw [Nat.one_mul,Nat.mul_assoc];refine Nat.mul_le_mul_left _ ?_;rw [←Nat.pow_succ];exact Nat.pow_le_pow_left hyE 8
    ·
      have hex:∃i,top<i∧i<r∧S.M i q≠0:=by
        by_cases e:i1=top
        · exact ⟨i2,by omega,by omega,hz2⟩
        · exact ⟨i1,by omega,by omega,hz1⟩
      obtain ⟨i,hi,hir,hiz⟩:=hex;have hio:=hoth i hi hir;have hyi:y≤(S.M i q).natAbs:=hl4 i (by omega) hir hiz;have hym:y<m:=by omega
      have hyu:y≤u:=by omega
      have hpt:p≠top:=by intro e;subst e;omega
      have hrange:∀i,top<i→i<r→0≤S2.M i q∧S2.M i q≤(m:Int)∧(S2.M i q≠0→(y:Int)≤S2.M i q):=fun i hi hir=>by
        rw [hcol i (by omega)];split
        · exact ⟨by omega,by omega,fun _=>by omega⟩
        · have h1:=hoth i hi hir
          exact ⟨h1.1,by omega,fun hz=>by have:=hl4 i (by omega) hir hz;omega⟩
      have hk1:1≤m/y:=Nat.div_pos (by omega) hy0;have hky:m/y*y≤m:=Nat.div_mul_le_self _ _;refine ⟨m/y,_,_,min y (m - y),fun i hi hir=> ?_,hym,by omega,fun i hi hir=> ?_,by omega,rfl,rfl,?_,?_⟩
      · obtain ⟨g1,g2,_⟩:=hrange i hi hir
        unfold kq
        rw [htop,Int.natAbs_neg];have e1:S2.M i q=((S2.M i q).toNat:Int):=by omega
        rw [e1,←Int.natCast_ediv,Int.natAbs_natCast];exact Nat.div_le_div_right (by omega)
      · obtain ⟨g1,g2,g3⟩:=hrange i hi hir
        have h1:=Int.emod_lt_of_pos (S2.M i q) (show (0:Int)<y by omega)
        by_cases hz:S2.M i q=0
        · rw [hz,Int.zero_emod];omega
        · have h2:=g3 hz
          have h3:S2.M i q % (y:Int)≤S2.M i q - y:=by
            have h4:=Int.mul_ediv_add_emod (S2.M i q) (y:Int);have h5:1≤S2.M i q/(y:Int):=by
              rw [Int.le_ediv_iff_mul_le (by omega)];omega
            have h6:(y:Int)*1≤(y:Int)*(S2.M i q/(y:Int)):=Int.mul_le_mul_of_nonneg_left h5 (by omega);omega
          omega
      · have h1:=Ae hk1 hky (Nat.min_le_left y (m - y)) (by have:=Nat.min_le_right y (m - y);omega)
        have h2:a*(1 + m/y)*(y*y)*min y (m - y)=a*((1 + m/y)*y*min y (m - y))*y:=by ac_rfl
        rw [h2];refine Nat.le_trans ?_ hpa;exact Nat.mul_le_mul (Nat.mul_le_mul_left _ h1) hyu
      · have h1:=Ad hk1 hky (Nat.min_le_left y (m - y)) (by have:=Nat.min_le_right y (m - y);omega)
        have h2:b*(1 + 7*(m/y))*y^7*min y (m - y)=b*((1 + 7*(m/y))*y^6*min y (m - y))*y:=by
          rw [Nat.pow_succ y 6];ac_rfl
        rw [h2];refine Nat.le_trans ?_ hpb;exact Nat.mul_le_mul (Nat.mul_le_mul_left _ h1) hyu
  obtain ⟨K,a',b',u',hK,hym,hyE,hres,hu',ha',hb',hpa,hpb⟩:=key;have hbd:=fun n (hn:top + n<r)=>zA (n:=n) ht hn (by omega) hK hM2 hU2 hV2
  have ha1:a'≤(1 + 2^eB e0 top)*(2^eB e0 top)^3:=by
    refine Nat.le_trans ?_ hpa;rw [Nat.mul_assoc];exact Nat.le_mul_of_pos_right _ (Nat.mul_pos (Nat.mul_pos hy0 hy0) hu')
  have hb1:b'≤(1 + 7*2^eB e0 top)*(2^eB e0 top)^8:=by
    refine Nat.le_trans ?_ hpb;rw [Nat.mul_assoc];exact Nat.le_mul_of_pos_right _ (Nat.mul_pos (Nat.pow_pos hy0) hu')
  have hmul:∀E:Nat,E*a*(1 + K)=E*a':=fun E=>by rw [ha',Nat.mul_assoc]
  have hmulb:∀E:Nat,E*b*(1 + 7*K)=E*b':=fun E=>by rw [hb',Nat.mul_assoc]
  have hone:∀x:Nat,x≤x*(1 + 2^eB e0 top):=fun x=>Nat.le_mul_of_pos_right _ (by omega)
  have honeg:∀x:Nat,x≤x*(1 + 7*2^eB e0 top):=fun x=>Nat.le_mul_of_pos_right _ (by omega)
  refine ⟨y,hym,⟨hlin.el q ht _ (by omega),hech.el ht,fun i hi=>by rw [mK,if_neg (by omega)];exact hab i hi,a',b',u',?_,?_,?_,.inr ⟨hy0,by rw [mK,if_neg (by omega)];exact htop,hyE,fun i hi hir=> ?_,hu',hpa,hpb⟩⟩,fun n hn=>⟨?_,?_,?_⟩⟩
  · intro i j hi hj;rw [←hmul];exact (hbd _ (by omega)).1 i j hi hj
  · intro i j hi hj;rw [←hmul];exact (hbd _ (by omega)).2.1 i j hi hj
  · intro i j hi hj;rw [←hmulb];exact (hbd _ (by omega)).2.2 i j hi hj
  · have e1:(el S2 top q (r - top - 1)).M i q=S2.M i q % (y:Int):=by
      rw [mK,if_pos (by omega)]
      unfold kq
      rw [htop];have:=Int.mul_ediv_add_emod (S2.M i q) (y:Int);rw [Int.neg_mul,Int.mul_comm (S2.M i q/(y:Int))];omega
    rw [e1];exact ⟨Int.emod_nonneg _ (by omega),Int.emod_lt_of_pos _ (by omega),hres i hi hir⟩
  · intro i j hi hj
    refine Nat.le_trans ((hbd (n + 1) (by omega)).1 i j hi hj) ?_;rw [hmul];refine Nat.le_trans (Nat.mul_le_mul_left _ ha1) (Nat.le_trans (hone _) ?_);exact qj (eB e0 top)
  · intro i j hi hj
    refine Nat.le_trans ((hbd (n + 1) (by omega)).2.1 i j hi hj) ?_;rw [hmul];refine Nat.le_trans (Nat.mul_le_mul_left _ ha1) (Nat.le_trans (hone _) ?_);exact qj (eB e0 top)
  · intro i j hi hj
    refine Nat.le_trans ((hbd (n + 1) (by omega)).2.2 i j hi hj) ?_;rw [hmulb];refine Nat.le_trans (Nat.mul_le_mul_left _ hb1) (Nat.le_trans (honeg _) ?_);exact wX (gB e0 top) (eB e0 top)
theorem JI.none (h:JI r c e0 M0 top q m S) (ht:top<r) (hn:(bn (fun a=>S.M a q) top (r - top)).1<0):FI r c e0 M0 top (q + 1) S:=by
  have hz:=(iy (x:=fun a=>S.M a q) hn).2;obtain ⟨a,b,u,hM,hU,hV,hc⟩:=h.run;rcases hc with ⟨ha1,hb1,_,_⟩ | ⟨hm0,hmt,_⟩
  · subst ha1;subst hb1
    simp only [Nat.mul_one] at hM hU hV;refine ⟨h.lin,?_,hM,hU,hV⟩;obtain ⟨P,h1,h2⟩:=h.ech;refine ⟨P,fun i hi=> ?_,fun a ha har j hj=> ?_⟩
    · obtain ⟨g1,g2⟩:=h1 i hi;exact ⟨by omega,g2⟩
    · by_cases e:j=q
      · subst e;exact hz a ha (by omega)
      · exact h2 a ha har j (by omega)
  · have:S.M top q=0:=hz top (Nat.le_refl _) (by omega)
    omega
theorem JI.pivot (h:JI r c e0 M0 top q m S) (ht:top<r) (hq:q<c) (h8:r≤8) (hp:0≤(bn (fun a=>S.M a q) top (r - top)).1) (ho:(bn (fun a=>S.M a q) top (r - top)).2=false):
    (∀n,n≤top→(∀i j,i<r→j<c→((ra (sn S (bn (fun a=>S.M a q) top (r - top)).1.toNat top q) top q n).M i j).natAbs≤2^eB e0 (top + 1))∧
        (∀i j,i<r→j<r→((ra (sn S (bn (fun a=>S.M a q) top (r - top)).1.toNat top q) top q n).U i j).natAbs≤2^eB e0 (top + 1))∧
        ∀i j,i<r→j<r→((ra (sn S (bn (fun a=>S.M a q) top (r - top)).1.toNat top q) top q n).V i j).natAbs≤2^gB e0 (top + 1))∧
      FI r c e0 M0 (top + 1) (q + 1) (ra (sn S (bn (fun a=>S.M a q) top (r - top)).1.toNat top q) top q top):=by
  obtain ⟨hl1,hl2,hl3,hl4,hl5⟩:=lead hp ht;replace hl5:=hl5 ho
  generalize hpe:(bn (fun a=>S.M a q) top (r - top)).1.toNat=p at*
  have hE0:0<2^eB e0 top:=Nat.two_pow_pos _;obtain ⟨a,b,u,hM,hU,hV,hc⟩:=h.run;have hab1:a≤(1 + 2^eB e0 top)*(2^eB e0 top)^3∧b≤(1 + 7*2^eB e0 top)*(2^eB e0 top)^8:=by
    rcases hc with ⟨ha1,hb1,_⟩ | ⟨hm0,_,_,_,hu1,hpa,hpb⟩
    · subst ha1;subst hb1
      exact ⟨Nat.mul_pos (by omega) (Nat.pow_pos hE0),Nat.mul_pos (by omega) (Nat.pow_pos hE0)⟩
    · refine ⟨Nat.le_trans ?_ hpa,Nat.le_trans ?_ hpb⟩
      · rw [Nat.mul_assoc];exact Nat.le_mul_of_pos_right _ (Nat.mul_pos (Nat.mul_pos hm0 hm0) hu1)
      · rw [Nat.mul_assoc];exact Nat.le_mul_of_pos_right _ (Nat.mul_pos (Nat.pow_pos hm0) hu1)
  have htop:=iQ S p top q;obtain ⟨hM2,hU2,hV2⟩:=sI (q:=q) hl2 ht hM hU hV;have hlin:=h.lin.sn q hl2 ht;have hech:=h.ech.sn (q:=q) hl2 hl1 ht;have hcol:∀i,i≠top→(sn S p top q).M i q=if i=p then S.M top q else S.M i q:=fun i hi=>(qT S p top q i q).1 hi
  have hab:∀i,i<top→((sn S p top q).M i q).natAbs≤2^eB e0 top:=fun i hi=>by rw [hcol i (by omega),if_neg (by omega)];exact h.above i hi
  have hbelow:∀i,top<i→i<r→(sn S p top q).M i q=0:=fun i hi hir=>by
    rw [hcol i (by omega)];split
    · rename_i e;subst e;exact hl5 top (Nat.le_refl _) ht (by omega)
    · rename_i e;exact hl5 i (by omega) hir e
  generalize sn S p top q=S2 at*
  generalize hy:(S.M p q).natAbs=y at*
  have hy0:0<y:=by omega
  have hK:∀i,i<top→(kq S2 top q i).natAbs≤2^eB e0 top:=fun i hi=>by
    unfold kq;rw [htop]
    exact Nat.le_trans (mJ (by omega)) (hab i hi)
  have hbd:=fun n (hn:n≤top)=>wU (n:=n) ht hn (by omega) hK hM2 hU2 hV2
  have hfin:∀n,n≤top→(∀i j,i<r→j<c→((ra S2 top q n).M i j).natAbs≤2^eB e0 (top + 1))∧(∀i j,i<r→j<r→((ra S2 top q n).U i j).natAbs≤2^eB e0 (top + 1))∧
      ∀i j,i<r→j<r→((ra S2 top q n).V i j).natAbs≤2^gB e0 (top + 1):=fun n hn=>by
    refine ⟨fun i j hi hj=> ?_,fun i j hi hj=> ?_,fun i j hi hj=> ?_⟩
    · exact Nat.le_trans ((hbd n hn).1 i j hi hj) (Nat.le_trans (Nat.mul_le_mul_right _ (Nat.mul_le_mul_left _ hab1.1)) (qj _))
    · exact Nat.le_trans ((hbd n hn).2.1 i j hi hj) (Nat.le_trans (Nat.mul_le_mul_right _ (Nat.mul_le_mul_left _ hab1.1)) (qj _))
    · exact Nat.le_trans ((hbd n hn).2.2 i j hi hj) (Nat.le_trans (Nat.mul_le_mul_right _ (Nat.mul_le_mul_left _ hab1.2)) (wX _ _))
  refine ⟨hfin,hlin.ra q ht top (Nat.le_refl _),?_,(hfin top (Nat.le_refl _)).1,(hfin top (Nat.le_refl _)).2.1,(hfin top (Nat.le_refl _)).2.2⟩;obtain ⟨P,h1,h2⟩:=hech;have hrow:∀i,i<top→∀j,j<q→(ra S2 top q top).M i j=S2.M i j:=fun i hi j hj=>by
    rw [lg _ _ _ _ _ _ (Nat.le_refl _),if_pos hi,h2 top (Nat.le_refl _) ht j hj,Int.mul_zero,Int.add_zero]
  have hrest:∀i,top≤i→∀j,(ra S2 top q top).M i j=S2.M i j:=fun i hi j=>by rw [lg _ _ _ _ _ _ (Nat.le_refl _),if_neg (by omega)]
  refine ⟨cg P top q,fun i hi=> ?_,fun a ha har j hj=> ?_⟩
  · by_cases e:i=top
    · subst e
      rw [aW];refine ⟨by omega,by rw [hrest i (Nat.le_refl _),htop];omega,fun j hj=>by rw [hrest i (Nat.le_refl _)];exact h2 i (Nat.le_refl _) ht j hj,fun k hk=> ?_⟩;rw [aV _ _ _ _ (by omega),hrest i (Nat.le_refl _),htop,lg _ _ _ _ _ _ (Nat.le_refl _),if_pos hk]
      unfold kq
      rw [htop];have e1:S2.M k q + -(S2.M k q/(y:Int))*(y:Int)=S2.M k q % (y:Int):=by
        have:=Int.mul_ediv_add_emod (S2.M k q) (y:Int);rw [Int.neg_mul,Int.mul_comm (S2.M k q/(y:Int))];omega
      rw [e1];exact ⟨(h1 k hk).1,Int.emod_nonneg _ (by omega),Int.emod_lt_of_pos _ (by omega)⟩
    · rw [aV _ _ _ _ e]
      obtain ⟨g1,g2,g3,g4⟩:=h1 i (by omega);refine ⟨by omega,by rw [hrow i (by omega) _ g1];exact g2,fun j hj=>by rw [hrow i (by omega) _ (by omega)];exact g3 j hj,fun k hk=> ?_⟩;rw [aV _ _ _ _ (by omega),hrow k (by omega) _ g1,hrow i (by omega) _ g1];exact g4 k hk
  · rw [hrest a (by omega)]
    by_cases e:j=q
    · subst e;exact hbelow a (by omega) har
    · exact h2 a (by omega) har j (by omega)
end
end Go.TL
namespace Go.TL
open Go.RowKit Go.Proofs
set_option linter.unusedVariables false
def bB (e0 r:Nat):Nat:=eB e0 r + gB e0 r + 2
theorem eG {z:Int} {e b:Nat} (h:z.natAbs≤2^e) (hb:e<b):z.natAbs<2^b:=Nat.lt_of_le_of_lt h (Nat.pow_lt_pow_right (by omega) hb)
structure Herm (r c e0:Nat) (M0:Nat→Nat→Int) (k:Nat) (S:WS):Prop where
  lin:Lin r c M0 S
  kr:k≤r
  kc:k≤c
  ech:iO r k c S.M
  bm:∀i j,i<r→j<c→(S.M i j).natAbs≤2^eB e0 k
  bu:∀i j,i<r→j<r→(S.U i j).natAbs≤2^eB e0 k
  bv:∀i j,i<r→j<r→(S.V i j).natAbs≤2^gB e0 k
theorem iO.kc {r k c q:Nat} {M:Nat→Nat→Int} (h:iO r k q M) (hq:q≤c):k≤q:=by
  obtain ⟨P,h1,_⟩:=h;have:∀n,n≤k→∀i,i<n→i≤P i:=by
    intro n
    induction n with
    | zero=>intro _ i hi;omega
    | succ n ih=>
      intro hn i hi
      by_cases e:i=n
      · subst e
        rcases Nat.eq_zero_or_pos i with h0 | h0
        · omega
        · have:=ih (by omega) (i - 1) (by omega)
          have:=((h1 i (by omega)).2.2.2 (i - 1) (by omega)).1;omega
      · exact ih (by omega) i (by omega)
  rcases Nat.eq_zero_or_pos k with h0 | h0
  · omega
  · have:=this k (Nat.le_refl _) (k - 1) (by omega)
    have:=(h1 (k - 1) (by omega)).1;omega
theorem mG (w:World) (x:Value) (r c:Nat) (M:Nat→Nat→Int) (b0 e0 b:Nat) (hx:bf w x r c M b0) (h8:r≤8) (hM:∀i j,i<r→j<c→(M i j).natAbs≤2^e0) (hb:bB e0 r≤b) (hb1:1 + e0≤b) (hl:2*b + 4≤aZ):
    Calls Tryz.prog 39 #[x] w (cb w fun v w'=>∃k S,Herm r c e0 M k S∧lc w' v r c S b):=by
  have hfit:∀{top:Nat} {S:WS},top<r→(∀i j,i<r→j<c→(S.M i j).natAbs≤2^eB e0 (top + 1))→(∀i j,i<r→j<r→(S.U i j).natAbs≤2^eB e0 (top + 1))→(∀i j,i<r→j<r→(S.V i j).natAbs≤2^gB e0 (top + 1))→gM r c b S:=by
    intro top S ht h1 h2 h3;have e1:=gE e0 (s:=top + 1) (t:=r) (by omega);have e2:=qy e0 (s:=top + 1) (t:=r) (by omega)
    unfold bB at hb
    exact ⟨fun i j hi hj=>eG (h1 i j hi hj) (by omega),fun i j hi hj=>eG (h2 i j hi hj) (by omega),fun i j hi hj=>eG (h3 i j hi hj) (by omega)⟩
  have e0r:=gE e0 (s:=0) (t:=r) (by omega);have hbb:=hb
  unfold bB at hbb
  simp only [eB] at e0r;have hx0:bf w x r c M (e0 + 1):=hx.more (fun i j hi hj=>eG (hM i j hi hj) (by omega)) (by omega);refine (ya w x r c M (e0 + 1) b (FI r c e0 M) (JI r c e0 M) hx0 (by omega) hl (FI.start hM) (fun top q S ht hq h=>⟨_,JI.of h ht hq⟩) ?_ ?_ ?_ ?_).mono ?_
  · intro top q m S ht hq hJ hp ho n hn
    obtain ⟨_,_,_,h3⟩:=hJ.round ht hq h8 hp ho;obtain ⟨g1,g2,g3⟩:=h3 n hn;exact hfit ht g1 g2 g3
  · intro top q m S ht hq hJ hp ho
    obtain ⟨m2,hm,hJ2,_⟩:=hJ.round ht hq h8 hp ho;exact ⟨m2,hm,hJ2⟩
  · intro top q m S ht hq hJ hp
    exact hJ.none ht hp
  · intro top q m S ht hq hJ hp ho
    obtain ⟨h1,h2⟩:=hJ.pivot ht hq h8 hp ho;exact ⟨fun n hn=>by obtain ⟨g1,g2,g3⟩:=h1 (n + 1) (by omega);exact hfit ht g1 g2 g3,h2⟩
  · rintro e w' ⟨v,rfl,hx',top,q,S,hF,hex,ht,hq,hH⟩
    have hech:iO r top c S.M:=by
      obtain ⟨P,h1,h2⟩:=hF.ech;refine ⟨P,fun i hi=> ?_,fun a ha har j hj=> ?_⟩
      · obtain ⟨g1,g2⟩:=h1 i hi;exact ⟨by omega,g2⟩
      · rcases hex with h | h
        · exact h2 a ha har j (by omega)
        · omega
    exact ⟨v,rfl,hx',top,S,⟨hF.lin,ht,hech.kc (Nat.le_refl _),hech,hF.bm,hF.bu,hF.bv⟩,hH⟩
end Go.TL
namespace Go.TL
set_option linter.unusedVariables false
theorem Herm.some {r c e0 k:Nat} {M0:Nat→Nat→Int} {S:WS} (h:Herm r c e0 M0 k S) {i:Nat} (hi:i<k):0≤piv (S.M i) c:=by
  obtain ⟨P,h1,_⟩:=h.ech;obtain ⟨g1,g2,_⟩:=h1 i hi
  by_cases hn:0≤piv (S.M i) c
  · exact hn
  · have h3:dc gP (S.M i) c= -1:=by have:=(eV (p:=gP) (z:=S.M i) c).2;unfold piv at hn;omega
    have:=fj h3 (P i) g1
    unfold gP at this
    omega
theorem Herm.none {r c e0 k:Nat} {M0:Nat→Nat→Int} {S:WS} (h:Herm r c e0 M0 k S) {i:Nat} (hi:k≤i) (hr:i<r):¬0≤piv (S.M i) c:=by
  obtain ⟨P,_,h2⟩:=h.ech
  unfold piv
  rw [ko fun j hj=>by unfold gP;exact fun hne=>hne (h2 i hi hr j hj)];omega
theorem mM (e0 s:Nat):∀t,eB (eB e0 s) t=eB e0 (s + t)
  | 0=>rfl
  | t + 1=>by rw [show s + (t + 1)=s + t + 1 by omega];simp only [eB];rw [mM e0 s t]
theorem tR (e0 s:Nat):∀t,gB (eB e0 s) t≤gB e0 (s + t)
  | 0=>Nat.zero_le _
  | t + 1=>by rw [show s + (t + 1)=s + t + 1 by omega];simp only [gB];rw [mM e0 s t];have:=tR e0 s t;omega
theorem ym (e0:Nat) {s r:Nat} (h:s≤r):bB (eB e0 s) (r - s)≤bB e0 r:=by
  unfold bB
  have h1:=mM e0 s (r - s);have h2:=tR e0 s (r - s);rw [show s + (r - s)=r by omega] at h1 h2;omega
theorem vL (e0 t:Nat):e0≤eB e0 t:=gE e0 (s:=0) (t:=t) (by omega)
end Go.TL
namespace Go.TL
open Go.RowKit Go.Proofs
set_option linter.unusedVariables false
set_option linter.unusedSimpArgs false
set_option maxRecDepth 10000 in
theorem qx (w:World) (x:Value) (rx cx:Nat) (Mx:Nat→Nat→Int) (btx:Nat) (e0 b:Nat) (hx:bf w x rx cx Mx btx) (h8:rx≤8) (hM:∀i j,i<rx→j<cx→(Mx i j).natAbs≤2^e0) (hb:bB e0 rx≤b) (hb1:1 + e0≤b) (hl:2*b + 4≤aZ):Calls Tryz.prog 46 #[x] w (cb w fun v w'=>∃k S,Herm rx cx e0 Mx k S∧bf w' v k cx S.M b):=by
 have hLIM:aZ=562949953421312:=rfl;have hmatx:=hx;obtain ⟨sx,rfl,hrx,hcx,hSx⟩:=hx.form;refine aj (N:=31) (rs:= #[.cell 2 28]) Tryz.func46 rfl rfl rfl (Nat.le_of_ble_eq_true rfl) ?_;have hX:aG w w:=aG.refl w;refine ab ?_;refine RL.x rfl rfl (cX.box [.int .i64 ((rx:Nat)),.int .i64 ((cx:Nat)),sx] rfl rfl) ?_;rintro _ w1 ⟨g1,rfl,hge1,hx1,hA1⟩;replace hX:=aG.trans hX hx1;refine RL.x rfl rfl (cX.alloc [.int .i64 (0),.int .i64 (0),.slice (none) (0) (0)] bo rfl) ?_;rintro _ w2 ⟨g2,rfl,hge2,hx2,hA2⟩;have hbs2:w.heap.size≤g2:=Nat.le_trans hX.size hge2;replace hA1:=aR.ext hA1 hx2;replace hX:=aG.trans hX hx2;refine RL.nil ?_;refine ab ?_;refine RL.p rfl rfl (ae [.int .i64 ((rx:Nat)),.int .i64 ((cx:Nat)),sx] aM rfl (hA1.cells 0 _ rfl rfl)) ?_;refine RL.x rfl rfl (cX.call su (aE rfl) (mG _ _ rx cx Mx _ e0 b (bf.mk (cE.ext hSx hX) (by omega) (by omega)) h8 hM hb hb1 hl)) ?_;rintro _ w3 ⟨hx3,kf_1,Sf_1,hHf_1,sa_1,sb_1,sc_1,rfl,hdr_1,hdc_1,hSa_1,hSb_1,hSc_1⟩;replace hA2:=aR.ext hA2 hx3;replace hX:=aG.trans hX hx3;refine RL.p rfl rfl (kV pR aM rfl (by rfl)) ?_;refine RL.x rfl rfl (cX.alloc [.int .i64 (0),.int .i64 (0),.slice (none) (0) (0)] bo rfl) ?_;rintro _ w4 ⟨g3,rfl,hge3,hx4,hA3⟩;have ne3:g2≠g3:=Nat.ne_of_lt (Nat.lt_of_lt_of_le hA2.lt hge3);have hbs3:w.heap.size≤g3:=Nat.le_trans hX.size hge3;replace hA2:=aR.ext hA2 hx4;replace hSa_1:=cE.ext hSa_1 hx4;replace hX:=aG.trans hX hx4;refine RL.x rfl rfl (cX.store [.int .i64 ((rx:Nat)),.int .i64 ((cx:Nat)),sa_1] bE rfl rfl rfl hA3 (Nat.le_of_ble_eq_true rfl) (bG rfl rfl (hSa_1.one))) ?_;rintro _ w5 ⟨hk1,hnew⟩;replace hA2:=hA2.keep hk1 ne3;replace hSa_1:=aD hSa_1 hk1 hA3 (by decide);replace hX:=hX.step hk1 (fun b e=>by subst e;exact hbs3);replace hA3:=hnew.lit [.int .i64 ((rx:Nat)),.int .i64 ((cx:Nat)),sa_1] rfl;clear hnew;refine RL.nil ?_;have hkr:=hHf_1.kr;refine ab ?_;refine RL.p rfl rfl (cn.assign rfl) ?_;refine RL.nil ?_;refine WP.seq ?_;refine WP.block ?_;refine WP.loop (fun mz ez uz=>∃n:Nat,(mz=kf_1 - n)∧(ez 2= .pointer (some ⟨g2,0,none⟩))∧(ez 3= .pointer (some ⟨g3,0,none⟩))∧(ez 4= .int .i64 ((n:Nat)))∧(n≤kf_1)∧(aG w uz)∧(aR uz g2 28 3 (bt [.int .i64 (0),.int .i64 (0),.slice (none) (0) (0)]))∧(cE uz sa_1 rx cx Sf_1.M b)∧(aR uz g3 28 3 (bt [.int .i64 ((rx:Nat)),.int .i64 ((cx:Nat)),sa_1]))) (kf_1 - 0) ?_ ?_
 · exact ⟨0,rfl,rfl,rfl,rfl,(by omega),hX,hA2,hSa_1,hA3⟩
 rintro m1 e1 w6 ⟨n,hm1,s2_e1,s3_e1,s4_e1,hn,hX1,hA2,hSa_1,hA3⟩;refine WP.seq ?_;refine aJ am 13 [_,_,_,_,fun v AC=>v= .bool (decide (((n:Nat):Int)<((rx:Nat):Int))),_,_,_,_,_,_,_,_] rfl rfl (fun e_ w_ AB AA=>⟨fun _=>aa (cn.move ((AA 4 rfl s4_e1))),fun _=>aa (cn.fieldAddr aY ((AA 3 rfl s3_e1))),fun Az=>aa (cn.load bO ((Az 1 rfl)) ((aR.ext hA3 AB).at_ (i:=0) rfl rfl)),fun Az=>aa (cn.lss ((Az 0 rfl)) ((Az 2 rfl))),fun Az=>aa (cn.move ((Az 3 rfl))),fun Az=>gT (Az 4 rfl) fun hg=>aa (cn.fieldAddr au ((AA 3 rfl s3_e1))),fun Az=>gT (Az 4 rfl) fun hg=>aa (cn.load aK ((Az 5 rfl hg)) ((aR.ext hA3 AB).at_ (i:=2) rfl rfl)),fun Az=>gT (Az 4 rfl) fun hg=>aa (cn.move ((AA 4 rfl s4_e1))),fun Az=>gT (Az 4 rfl) fun hg=>ai (bK (j:=n) aF (Az 6 rfl hg) (cE.ext hSa_1 AB) (Az 7 rfl hg) (by omega) (by omega)),fun Az=>gT (Az 4 rfl) fun hg=>ai (bQ aU rfl (Az 8 rfl hg)),fun Az=>gT (Az 4 rfl) fun hg=>cX.call yV (aE rfl) (vz _ _ _ _ _ (Az 9 rfl hg)),fun Az=>gT (Az 4 rfl) fun hg=>aa (cn.geq ((Az 10 rfl hg)) rfl),fun Az=>aa (aB (p:=((n:Nat):Int)<((rx:Nat):Int)) (q:=(0:Int)≤(piv (Sf_1.M n) cx:Int)) (Az 4 rfl) (fun hq=>(Az 11 rfl hq))),trivial⟩) ?_;intro e2 w7 hx5 ho1 hf1;replace hA2:=aR.ext hA2 hx5;replace hSa_1:=cE.ext hSa_1 hx5;replace hA3:=aR.ext hA3 hx5;replace hX1:=aG.trans hX1 hx5;have s2_e2:=ho1 2 rfl s2_e1;have s3_e2:=ho1 3 rfl s3_e1;have s4_e2:=ho1 4 rfl s4_e1;have s20_e2:e2 20=_:=hf1 12 rfl;refine RL.nil ?_;refine af ((((n:Nat):Int)<((rx:Nat):Int))∧((0:Int)≤(piv (Sf_1.M n) cx:Int))) s20_e2 (fun c20=> ?_) (fun c20=> ?_)
 ·
  refine WP.skip ?_;refine pA.norm ?_;refine WP.block ?_;refine WP.region ?_;refine RL.p rfl rfl (cn.move s4_e2) ?_;refine RL.p rfl rfl (cn.add (c:=((n + 1:Nat):Int)) rfl rfl (bA (by omega))) ?_;refine RL.p rfl rfl (cn.assign rfl) ?_;refine RL.nil ?_;refine iM.norm ?_;have hnk:n<kf_1:=by
    rcases Nat.lt_or_ge n kf_1 with h | h
    · exact h
    · exact absurd c20.2 (hHf_1.none h (by omega))
  refine pA.norm ⟨_,(by omega),n + 1,rfl,s2_e2,s3_e2,rfl,(by omega),hX1,hA2,hSa_1,hA3⟩
 ·
  refine WP.exit ?_;refine pA.exit ?_;refine pA.exit ?_;refine iM.same ?_;refine pA.norm ?_;refine aJ am 7 [_,_,_,_,_,_,_] rfl rfl (fun e_ w_ AB AA=>⟨fun _=>aa (cn.move ((AA 4 rfl s4_e2))),fun _=>aa (cn.fieldAddr bC ((AA 3 rfl s3_e2))),fun Az=>aa (cn.load bO ((Az 1 rfl)) ((aR.ext hA3 AB).at_ (i:=1) rfl rfl)),fun _=>aa (cn.fieldAddr au ((AA 3 rfl s3_e2))),fun Az=>aa (cn.load aK ((Az 3 rfl)) ((aR.ext hA3 AB).at_ (i:=2) rfl rfl)),fun _=>aa (cn.move ((AA 4 rfl s4_e2))),fun Az=>ai (gS (j:=n) aF (Az 4 rfl) (cE.ext hSa_1 AB) (Az 5 rfl) (by omega) (by omega)),trivial⟩) ?_;intro e3 w8 hx6 ho2 hf2;replace hA2:=aR.ext hA2 hx6;replace hX1:=aG.trans hX1 hx6;have s2_e3:=ho2 2 rfl s2_e2;have s23_e3:e3 23=_:=hf2 0 rfl;have s25_e3:e3 25=_:=hf2 2 rfl;have s29_e3:cE w8 (e3 29) n cx Sf_1.M b:=hf2 6 rfl;refine RL.p rfl rfl (cn.build (vs:= [(0,.int .i64 ((n:Nat))),(1,.int .i64 ((cx:Nat))),(2,(e3 29))]) [(0,1),(1,1),(2,1)] fU bo (fa s23_e3 s25_e3 rfl) (qz s29_e3)) ?_;refine RL.x rfl rfl (cX.store [.int .i64 ((n:Nat)),.int .i64 ((cx:Nat)),(e3 29)] bE s2_e3 rfl rfl hA2 (Nat.le_of_ble_eq_true rfl) (bG rfl rfl (s29_e3.one))) ?_;rintro _ w9 ⟨hk2,hnew⟩;replace s29_e3:=aD s29_e3 hk2 hA2 (by decide);replace hX1:=hX1.step hk2 (fun b e=>by subst e;exact hbs2);replace hA2:=hnew.lit [.int .i64 ((n:Nat)),.int .i64 ((cx:Nat)),(e3 29)] rfl;clear hnew;refine RL.nil ?_;refine WP.ret ?_;refine ⟨.agg #[.int .i64 ((n:Nat)),.int .i64 ((cx:Nat)),(e3 29)],zP.one (ag [.int .i64 ((n:Nat)),.int .i64 ((cx:Nat)),(e3 29)] aM s2_e3 (hA2.cells 0 _ rfl rfl)),_,rfl,hX1,?_⟩;dsimp only;have hnk:n=kf_1:=by
    rcases Nat.lt_or_ge n kf_1 with h | h
    · exact absurd ⟨by omega,hHf_1.some h⟩ c20
    · omega
  exact ⟨kf_1,Sf_1,hHf_1,hnk▸(bf.mk s29_e3 (by omega) (by omega))⟩
set_option maxRecDepth 10000 in
theorem xX (w:World) (x:Value) (rx cx:Nat) (Mx:Nat→Nat→Int) (btx:Nat) (k:Nat) (hx:bf w x rx cx Mx btx) (hk:k≤rx) (h1:∀i,i<k→0≤piv (Mx i) cx) (h2:∀i,k≤i→i<rx→¬0≤piv (Mx i) cx):Calls Tryz.prog 47 #[x] w (cb w fun v w'=>v= .int .i64 (k:Nat)):=by
 have hLIM:aZ=562949953421312:=rfl;have hmatx:=hx;obtain ⟨sx,rfl,hrx,hcx,hSx⟩:=hx.form;refine aj (N:=20) (rs:= #[.tmp 2]) Tryz.func47 rfl rfl rfl (Nat.le_of_ble_eq_true rfl) ?_;have hX:aG w w:=aG.refl w;refine ab ?_;refine RL.x rfl rfl (cX.box [.int .i64 ((rx:Nat)),.int .i64 ((cx:Nat)),sx] rfl rfl) ?_;rintro _ w1 ⟨g1,rfl,hge1,hx1,hA1⟩;replace hX:=aG.trans hX hx1;refine RL.p rfl rfl (cn.assign rfl) ?_;refine RL.nil ?_;refine ab ?_;refine RL.p rfl rfl (cn.assign rfl) ?_;refine RL.nil ?_;refine WP.seq ?_;refine WP.block ?_;refine WP.loop (fun mz ez uz=>∃n:Nat,(mz=k - n)∧(ez 1= .pointer (some ⟨g1,0,none⟩))∧(ez 2= .int .i64 (0))∧(ez 3= .int .i64 ((n:Nat)))∧(n≤k)∧(aG w uz)∧(aR uz g1 28 3 (bt [.int .i64 ((rx:Nat)),.int .i64 ((cx:Nat)),sx]))) (k - 0) ?_ ?_
 · exact ⟨0,rfl,rfl,rfl,rfl,(by omega),hX,hA1⟩
 rintro m1 e1 w2 ⟨n,hm1,s1_e1,s2_e1,s3_e1,hn,hX1,hA1⟩;refine WP.seq ?_;refine aJ am 13 [_,_,_,_,fun v AC=>v= .bool (decide (((n:Nat):Int)<((rx:Nat):Int))),_,_,_,_,_,fun v AC=>(((n:Nat):Int)<((rx:Nat):Int))→(v= .bool (decide (¬0≤piv (Mx n) cx))),_,_] rfl rfl (fun e_ w_ AB AA=>⟨fun _=>aa (cn.move ((AA 3 rfl s3_e1))),fun _=>aa (cn.fieldAddr aY ((AA 1 rfl s1_e1))),fun Az=>aa (cn.load bO ((Az 1 rfl)) ((aR.ext hA1 AB).at_ (i:=0) rfl rfl)),fun Az=>aa (cn.lss ((Az 0 rfl)) ((Az 2 rfl))),fun Az=>aa (cn.move ((Az 3 rfl))),fun Az=>gT (Az 4 rfl) fun hg=>aa (cn.fieldAddr au ((AA 1 rfl s1_e1))),fun Az=>gT (Az 4 rfl) fun hg=>aa (cn.load aK ((Az 5 rfl hg)) ((aR.ext hA1 AB).at_ (i:=2) rfl rfl)),fun Az=>gT (Az 4 rfl) fun hg=>aa (cn.move ((AA 3 rfl s3_e1))),fun Az=>gT (Az 4 rfl) fun hg=>ai (bK (j:=n) aF (Az 6 rfl hg) (cE.ext (cE.ext hSx hX1) AB) (Az 7 rfl hg) (by omega) (by omega)),fun Az=>gT (Az 4 rfl) fun hg=>ai (bQ aU rfl (Az 8 rfl hg)),fun Az=>gT (Az 4 rfl) fun hg=>cX.call yU (aE rfl) (xV _ _ _ _ _ (Az 9 rfl hg)),fun Az=>gT (Az 4 rfl) fun hg=>aa (cn.not (p:=¬0≤piv (Mx n) cx) (Az 10 rfl hg)),fun Az=>aa (aB (p:=((n:Nat):Int)<((rx:Nat):Int)) (q:=¬(¬0≤piv (Mx n) cx)) (Az 4 rfl) (fun hq=>(Az 11 rfl hq))),trivial⟩) ?_;intro e2 w3 hx2 ho1 hf1;replace hA1:=aR.ext hA1 hx2;replace hX1:=aG.trans hX1 hx2;have s1_e2:=ho1 1 rfl s1_e1;have s2_e2:=ho1 2 rfl s2_e1;have s3_e2:=ho1 3 rfl s3_e1;have s16_e2:e2 16=_:=hf1 12 rfl;refine RL.nil ?_;refine af ((((n:Nat):Int)<((rx:Nat):Int))∧(¬(¬0≤piv (Mx n) cx))) s16_e2 (fun c16=> ?_) (fun c16=> ?_)
 ·
  refine WP.skip ?_;refine pA.norm ?_;refine WP.block ?_;refine WP.region ?_;refine RL.p rfl rfl (cn.move s3_e2) ?_;refine RL.p rfl rfl (cn.add (c:=((n + 1:Nat):Int)) rfl rfl (bA (by omega))) ?_;refine RL.p rfl rfl (cn.assign rfl) ?_;refine RL.nil ?_;refine iM.norm ?_;have hnk:n<k:=by
    rcases Nat.lt_or_ge n k with h | h
    · exact h
    · exact absurd c16.2 (fun hh=>hh (h2 n h (by omega)))
  refine pA.norm ⟨_,(by omega),n + 1,rfl,s1_e2,s2_e2,rfl,(by omega),hX1,hA1⟩
 ·
  refine WP.exit ?_;refine pA.exit ?_;refine pA.exit ?_;refine iM.same ?_;refine pA.norm ?_;refine ab ?_;refine RL.p rfl rfl (cn.move s3_e2) ?_;refine RL.p rfl rfl (cn.assign rfl) ?_;refine RL.nil ?_;refine WP.ret ?_;refine ⟨.int .i64 ((n:Nat)),zP.one (fN.tmp rfl),_,rfl,hX1,?_⟩;dsimp only;have hnk:n=k:=by
    rcases Nat.lt_or_ge n k with h | h
    · exact absurd ⟨by omega,fun hh=>hh (h1 n h)⟩ c16
    · omega
  rw [hnk]
set_option maxRecDepth 10000 in
theorem tE (w:World) (x:Value) (rx cx:Nat) (Mx:Nat→Nat→Int) (btx:Nat) (i:Nat) (j:Nat) (hx:bf w x rx cx Mx btx) (hij:i≤j) (hj:j≤rx):Calls Tryz.prog 42 #[x,.int .i64 (i:Nat),.int .i64 (j:Nat)] w (cb w fun v w'=>bf w' v (j - i) cx (fun a=>Mx (i + a)) btx):=by
 have hLIM:aZ=562949953421312:=rfl;have hmatx:=hx;obtain ⟨sx,rfl,hrx,hcx,hSx⟩:=hx.form;refine aj (N:=19) (rs:= #[.cell 6 28]) Tryz.func42 rfl rfl rfl (Nat.le_of_ble_eq_true rfl) ?_;have hX:aG w w:=aG.refl w;refine ab ?_;refine RL.x rfl rfl (cX.box [.int .i64 ((rx:Nat)),.int .i64 ((cx:Nat)),sx] rfl rfl) ?_;rintro _ w1 ⟨g1,rfl,hge1,hx1,hA1⟩;replace hX:=aG.trans hX hx1;refine RL.x rfl rfl (cX.alloc [.int .i64 (0),.int .i64 (0),.slice (none) (0) (0)] bo rfl) ?_;rintro _ w2 ⟨g2,rfl,hge2,hx2,hA2⟩;have hbs2:w.heap.size≤g2:=Nat.le_trans hX.size hge2;replace hA1:=aR.ext hA1 hx2;replace hX:=aG.trans hX hx2;refine RL.nil ?_;refine aJ am 11 [_,_,_,_,_,_,_,_,_,_,_] rfl rfl (fun e_ w_ AB AA=>⟨fun _=>aa (cn.move ((AA 2 rfl rfl))),fun _=>aa (cn.move ((AA 1 rfl rfl))),fun Az=>aa (cn.sub (c:=((j - i:Nat):Int)) ((Az 0 rfl)) ((Az 1 rfl)) (bA (by omega))),fun _=>aa (cn.fieldAddr bC ((AA 3 rfl rfl))),fun Az=>aa (cn.load bO ((Az 3 rfl)) ((aR.ext hA1 AB).at_ (i:=1) rfl rfl)),fun _=>aa (cn.fieldAddr au ((AA 3 rfl rfl))),fun Az=>aa (cn.load aK ((Az 5 rfl)) ((aR.ext hA1 AB).at_ (i:=2) rfl rfl)),fun _=>aa (cn.move ((AA 1 rfl rfl))),fun _=>aa (cn.move ((AA 2 rfl rfl))),fun _=>aa (cn.move ((AA 2 rfl rfl))),fun Az=>ai (js (j:=i) (l:=j) aF (Az 6 rfl) (cE.ext (cE.ext hSx hX) AB) (Az 7 rfl) (Az 8 rfl) (Az 9 rfl) (by omega) (by omega) (by omega) (by omega) (by omega)),trivial⟩) ?_;intro e1 w3 hx3 ho1 hf1;replace hA2:=aR.ext hA2 hx3;replace hX:=aG.trans hX hx3;have s6_e1:e1 6=_:=ho1 6 rfl rfl;have s9_e1:e1 9=_:=hf1 2 rfl;have s11_e1:e1 11=_:=hf1 4 rfl;have s17_e1:cE w3 (e1 17) (j - i) cx ((fun a=>Mx (i + a))) btx:=hf1 10 rfl;refine RL.p rfl rfl (cn.build (vs:= [(0,.int .i64 (((j - i:Nat):Int))),(1,.int .i64 ((cx:Nat))),(2,(e1 17))]) [(0,1),(1,1),(2,1)] fU bo (fa s9_e1 s11_e1 rfl) (qz s17_e1)) ?_;refine RL.x rfl rfl (cX.store [.int .i64 (((j - i:Nat):Int)),.int .i64 ((cx:Nat)),(e1 17)] bE s6_e1 rfl rfl hA2 (Nat.le_of_ble_eq_true rfl) (bG rfl rfl (s17_e1.one))) ?_;rintro _ w4 ⟨hk1,hnew⟩;replace s17_e1:=aD s17_e1 hk1 hA2 (by decide);replace hX:=hX.step hk1 (fun b e=>by subst e;exact hbs2);replace hA2:=hnew.lit [.int .i64 (((j - i:Nat):Int)),.int .i64 ((cx:Nat)),(e1 17)] rfl;clear hnew;refine RL.nil ?_;refine WP.ret ?_;refine ⟨.agg #[.int .i64 (((j - i:Nat):Int)),.int .i64 ((cx:Nat)),(e1 17)],zP.one (ag [.int .i64 (((j - i:Nat):Int)),.int .i64 ((cx:Nat)),(e1 17)] aM s6_e1 (hA2.cells 0 _ rfl rfl)),_,rfl,hX,?_⟩;dsimp only;exact (bf.mk s17_e1 (by omega) (by omega))
set_option maxRecDepth 10000 in
theorem xY (w:World) (x:Value) (rx cx:Nat) (Mx:Nat→Nat→Int) (btx:Nat) (e0 b:Nat) (hx:bf w x rx cx Mx btx) (h8:rx≤8) (hM:∀i j,i<rx→j<cx→(Mx i j).natAbs≤2^e0) (hb:bB e0 rx≤b) (hb1:1 + e0≤b) (hl:2*b + 4≤aZ):Calls Tryz.prog 13 #[x] w (cb w fun v w'=>∃k S k2 S2,Herm rx cx e0 Mx k S∧Herm (rx - k) rx (eB e0 k) (fun i=>S.U (k + i)) k2 S2∧bf w' v k2 rx S2.M b):=by
 have hLIM:aZ=562949953421312:=rfl;have hmatx:=hx;obtain ⟨sx,rfl,hrx,hcx,hSx⟩:=hx.form;refine aj (N:=15) (rs:= #[.cell 2 28]) Tryz.func13 rfl rfl rfl (Nat.le_of_ble_eq_true rfl) ?_;have hX:aG w w:=aG.refl w;refine ab ?_;refine RL.x rfl rfl (cX.box [.int .i64 ((rx:Nat)),.int .i64 ((cx:Nat)),sx] rfl rfl) ?_;rintro _ w1 ⟨g1,rfl,hge1,hx1,hA1⟩;replace hX:=aG.trans hX hx1;refine RL.x rfl rfl (cX.alloc [.int .i64 (0),.int .i64 (0),.slice (none) (0) (0)] bo rfl) ?_;rintro _ w2 ⟨g2,rfl,hge2,hx2,hA2⟩;have hbs2:w.heap.size≤g2:=Nat.le_trans hX.size hge2;replace hA1:=aR.ext hA1 hx2;replace hX:=aG.trans hX hx2;refine RL.nil ?_;refine ab ?_;refine RL.p rfl rfl (ae [.int .i64 ((rx:Nat)),.int .i64 ((cx:Nat)),sx] aM rfl (hA1.cells 0 _ rfl rfl)) ?_;refine RL.x rfl rfl (cX.call su (aE rfl) (mG _ _ rx cx Mx _ e0 b (bf.mk (cE.ext hSx hX) (by omega) (by omega)) h8 hM hb hb1 hl)) ?_;rintro _ w3 ⟨hx3,kf_1,Sf_1,hHf_1,sa_1,sb_1,sc_1,rfl,hdr_1,hdc_1,hSa_1,hSb_1,hSc_1⟩;replace hA1:=aR.ext hA1 hx3;replace hA2:=aR.ext hA2 hx3;replace hX:=aG.trans hX hx3;refine RL.x rfl rfl (cX.alloc [.int .i64 (0),.int .i64 (0),.slice (none) (0) (0),.int .i64 (0),.int .i64 (0),.slice (none) (0) (0),.int .i64 (0),.int .i64 (0),.slice (none) (0) (0)] ji rfl) ?_;rintro _ w4 ⟨g3,rfl,hge3,hx4,hA3⟩;have ne2:g1≠g3:=Nat.ne_of_lt (Nat.lt_of_lt_of_le hA1.lt hge3);have ne3:g2≠g3:=Nat.ne_of_lt (Nat.lt_of_lt_of_le hA2.lt hge3);have hbs3:w.heap.size≤g3:=Nat.le_trans hX.size hge3;replace hA1:=aR.ext hA1 hx4;replace hA2:=aR.ext hA2 hx4;replace hSa_1:=cE.ext hSa_1 hx4;replace hSb_1:=cE.ext hSb_1 hx4;replace hSc_1:=cE.ext hSc_1 hx4;replace hX:=aG.trans hX hx4;refine RL.x rfl rfl (cX.store [.int .i64 ((rx:Nat)),.int .i64 ((cx:Nat)),sa_1,.int .i64 ((rx:Nat)),.int .i64 ((rx:Nat)),sb_1,.int .i64 ((rx:Nat)),.int .i64 ((rx:Nat)),sc_1] lA rfl rfl rfl hA3 (Nat.le_of_ble_eq_true rfl) (lM rfl rfl (hSa_1.one) rfl rfl (hSb_1.one) rfl rfl (hSc_1.one))) ?_;rintro _ w5 ⟨hk1,hnew⟩;replace hA1:=hA1.keep hk1 ne2;replace hA2:=hA2.keep hk1 ne3;replace hSa_1:=aD hSa_1 hk1 hA3 (by decide);replace hSb_1:=aD hSb_1 hk1 hA3 (by decide);replace hX:=hX.step hk1 (fun b e=>by subst e;exact hbs3);replace hA3:=hnew.lit [.int .i64 ((rx:Nat)),.int .i64 ((cx:Nat)),sa_1,.int .i64 ((rx:Nat)),.int .i64 ((rx:Nat)),sb_1,.int .i64 ((rx:Nat)),.int .i64 ((rx:Nat)),sc_1] rfl;clear hnew;refine RL.nil ?_;have hkr:=hHf_1.kr;have hba:=ym e0 hkr;have hez:=vL e0 kf_1;have hbu:∀i j,i<rx - kf_1→j<rx→(Sf_1.U (kf_1 + i) j).natAbs≤2^eB e0 kf_1:=fun i j hi hj=>hHf_1.bu (kf_1 + i) j (by omega) hj
 have hbE:1 + eB e0 kf_1≤b:=by have h1:=gE e0 hkr;have h2:=hb;unfold bB at h2;omega
 refine aJ am 8 [_,_,_,_,_,_,_,_] rfl rfl (fun e_ w_ AB AA=>⟨fun _=>aa (cn.fieldAddr pS ((AA 3 rfl rfl))),fun Az=>aa (ae [.int .i64 ((rx:Nat)),.int .i64 ((rx:Nat)),sb_1] aM ((Az 0 rfl)) ((aR.ext hA3 AB).cells 3 _ rfl rfl)),fun _=>aa (cn.fieldAddr gm ((AA 3 rfl rfl))),fun Az=>aa (ae [.int .i64 ((rx:Nat)),.int .i64 ((cx:Nat)),sa_1] aM ((Az 2 rfl)) ((aR.ext hA3 AB).cells 0 _ rfl rfl)),fun Az=>cX.call ze (aE ((Az 3 rfl))) (xX _ _ _ _ _ _ kf_1 (bf.mk (cE.ext hSa_1 AB) (by omega) (by omega)) hHf_1.kr (fun i hi=>hHf_1.some hi) (fun i hi hr=>hHf_1.none hi hr)),fun _=>aa (cn.fieldAddr aY ((AA 1 rfl rfl))),fun Az=>aa (cn.load bO ((Az 5 rfl)) ((aR.ext hA1 AB).at_ (i:=0) rfl rfl)),fun Az=>cX.call wI (cO ((Az 1 rfl)) ((Az 4 rfl)) ((Az 6 rfl))) (tE _ _ _ _ _ _ kf_1 rx (bf.mk (cE.ext hSb_1 AB) (by omega) (by omega)) (by omega) (by omega)),trivial⟩) ?_;intro e1 w6 hx5 ho1 hf1;replace hA2:=aR.ext hA2 hx5;replace hX:=aG.trans hX hx5;have s2_e1:e1 2=_:=ho1 2 rfl rfl;have s13_e1:bf w6 (e1 13) (rx - kf_1) rx ((fun a=>Sf_1.U (kf_1 + a))) b:=hf1 7 rfl;refine RL.x rfl rfl (cX.call wG (aE rfl) (qx _ _ (rx - kf_1) rx (fun a=>Sf_1.U (kf_1 + a)) _ (eB e0 kf_1) b s13_e1 (by omega) hbu (Nat.le_trans hba hb) hbE hl)) ?_;rintro v1 w7 ⟨hx6,kf_2,Sf_2,hHf_2,q1⟩;replace hA2:=aR.ext hA2 hx6;replace hX:=aG.trans hX hx6;obtain ⟨sv1,hq1,hr1,hc1,hS1⟩:=q1.form;refine RL.x rfl rfl (cX.store [.int .i64 ((kf_2:Nat)),.int .i64 ((rx:Nat)),sv1] bE s2_e1 hq1 rfl hA2 (Nat.le_of_ble_eq_true rfl) (bG rfl rfl hS1.one)) ?_;rintro _ w8 ⟨hk2,hnew⟩;replace hS1:=aD hS1 hk2 hA2 (by decide);replace hX:=hX.step hk2 (fun b e=>by subst e;exact hbs2);replace hA2:=hnew.lit [.int .i64 ((kf_2:Nat)),.int .i64 ((rx:Nat)),sv1] rfl;clear hnew;refine RL.nil ?_;refine WP.ret ?_;refine ⟨.agg #[.int .i64 ((kf_2:Nat)),.int .i64 ((rx:Nat)),sv1],zP.one (ag [.int .i64 ((kf_2:Nat)),.int .i64 ((rx:Nat)),sv1] aM s2_e1 (hA2.cells 0 _ rfl rfl)),_,rfl,hX,?_⟩;dsimp only;exact ⟨kf_1,Sf_1,kf_2,Sf_2,hHf_1,hHf_2,(bf.mk hS1 (by omega) (by omega))⟩
end Go.TL
namespace Go.TL
open Go.RowKit Go.Proofs
set_option linter.unusedVariables false
def fS (M:Nat→Nat→Int):Nat→Nat→Int:=fun i j=>M j i
def fP (r c e0:Nat) (M0:Nat→Nat→Int) (k:Nat) (M:Nat→Nat→Int):Prop:=
  ∃k1 S1 S2,Herm r c e0 M0 k1 S1∧Herm (r - k1) r (eB e0 k1) (fun i=>S1.U (k1 + i)) k S2∧M=S2.M
theorem fP.bd {r c e0 k:Nat} {M0 M:Nat→Nat→Int} (h:fP r c e0 M0 k M) {i j:Nat} (hi:i<k) (hj:j<r):(M i j).natAbs≤2^eB e0 r:=by
  obtain ⟨k1,S1,S2,h1,h2,rfl⟩:=h;have g1:=h2.kr;have g2:=h1.kr;refine Nat.le_trans (h2.bm i j (by omega) hj) (Nat.pow_le_pow_right (by omega) ?_);rw [mM];exact gE e0 (by omega)
theorem fP.kr {r c e0 k:Nat} {M0 M:Nat→Nat→Int} (h:fP r c e0 M0 k M):k≤r:=by
  obtain ⟨k1,S1,S2,h1,h2,rfl⟩:=h;have g1:=h2.kr;omega
theorem iA (w:World) (x:Value) (rx cx:Nat) (Mx:Nat→Nat→Int) (btx e0 b:Nat) (hx:bf w x rx cx Mx btx) (h8:rx≤8) (hM:∀i j,i<rx→j<cx→(Mx i j).natAbs≤2^e0) (hb:bB e0 rx≤b) (hb1:1 + e0≤b) (hl:2*b + 4≤aZ):
    Calls Tryz.prog 13 #[x] w (cb w fun v w'=>∃k M,fP rx cx e0 Mx k M∧bf w' v k rx M b):=
  (xY w x rx cx Mx btx e0 b hx h8 hM hb hb1 hl).mono fun _ _ ⟨v,h1,h2,k,S,k2,S2,h3,h4,h5⟩=>⟨v,h1,h2,k2,S2.M,⟨k,S,S2,h3,h4,rfl⟩,h5⟩
def iH (r c e0:Nat) (M0:Nat→Nat→Int) (k:Nat) (M:Nat→Nat→Int):Prop:=∃k1 K1,fP c r e0 (fS M0) k1 K1∧fP c k1 (eB e0 c) (fS K1) k M
theorem iH.bd {r c e0 k:Nat} {M0 M:Nat→Nat→Int} (h:iH r c e0 M0 k M) {i j:Nat} (hi:i<k) (hj:j<c):(M i j).natAbs≤2^eB (eB e0 c) c:=by
  obtain ⟨k1,K1,h1,h2⟩:=h;exact h2.bd hi hj
end Go.TL
namespace Go.TL
open Go.RowKit Go.Proofs
set_option linter.unusedVariables false
set_option linter.unusedSimpArgs false
set_option maxRecDepth 10000 in
theorem nY (w:World) (x:Value) (rx cx:Nat) (Mx:Nat→Nat→Int) (btx:Nat) (n gs:Nat) (fs:Nat→Value) (S:Nat→Prop) (A:Nat→Nat→Nat→(Nat→Nat→Int)→Nat→Prop) (D:Nat→World→Prop) (hx:bf w x rx cx Mx btx) (hn:n≤65536) (hfs:aR w gs 30 n fs) (hS:∀k,S k→k<w.heap.size) (hgs:¬S gs) (hA0:A 0 rx cx Mx btx) (hD0:D 0 w) (hDE:∀i w1 w2,D i w1→aG w1 w2→D i w2) (hDx:∀i w1 w2 g m f,D i w1→Keeps (fun k=>k=g) w1 w2→w.heap.size≤g→aR w1 g 28 m f→D i w2) (hstep:∀i,i<n→∀w1,Keeps S w w1→∀v r c M b,A i r c M b→D i w1→bf w1 v c r (fun i j=>M j i) b→∃fid vs us,fs i= .func (.func fid) vs us∧az Tryz.prog fid=true∧Calls Tryz.prog fid (vs ++ #[v] ++ us) w1 (iI S w1 fun v2 w2=>∃r2 c2 M2 b2,A (i + 1) r2 c2 M2 b2∧bf w2 v2 r2 c2 M2 b2∧D (i + 1) w2)):Calls Tryz.prog 37 #[x,.slice (some ⟨gs,0,none⟩) n n] w (iI S w fun v w'=>∃r c M b,A n r c M b∧bf w' v r c M b∧D n w'):=by
 have hLIM:aZ=562949953421312:=rfl;have hmatx:=hx;obtain ⟨sx,rfl,hrx,hcx,hSx⟩:=hx.form;refine aj (N:=19) (rs:= #[.cell 4 28]) Tryz.func37 rfl rfl rfl (Nat.le_of_ble_eq_true rfl) ?_;have hX:Keeps (S) w w:=Keeps.refl _ w;have hD:=hD0;refine ab ?_;refine RL.x rfl rfl (cX.box [.int .i64 ((rx:Nat)),.int .i64 ((cx:Nat)),sx] rfl rfl) ?_;rintro _ w1 ⟨g1,rfl,hge1,hx1,hA1⟩;have ne1:gs≠g1:=Nat.ne_of_lt (Nat.lt_of_lt_of_le hfs.lt hge1);have hbs1:w.heap.size≤g1:=Nat.le_trans hX.size hge1;replace hSx:=cE.ext hSx hx1;replace hfs:=aR.ext hfs hx1;replace hD:=hDE _ _ _ hD hx1;replace hX:=aC hX hx1;refine RL.x rfl rfl (cX.alloc [.int .i64 (0),.int .i64 (0),.slice (none) (0) (0)] bo rfl) ?_;rintro _ w2 ⟨g2,rfl,hge2,hx2,hA2⟩;have ne3:g1≠g2:=Nat.ne_of_lt (Nat.lt_of_lt_of_le hA1.lt hge2);have hbs2:w.heap.size≤g2:=Nat.le_trans hX.size hge2;replace hSx:=cE.ext hSx hx2;replace hfs:=aR.ext hfs hx2;replace hD:=hDE _ _ _ hD hx2;replace hA1:=aR.ext hA1 hx2;replace hX:=aC hX hx2;refine RL.nil ?_;refine WP.seq ?_;refine ab ?_;refine RL.p rfl rfl (cn.move rfl) ?_;refine RL.p rfl rfl (cn.len pP rfl) ?_;refine RL.p rfl rfl (cn.move rfl) ?_;refine RL.nil ?_;refine WP.block ?_;refine WP.loop (fun mz ez uz=>∃i:Nat,∃r:Nat,∃c:Nat,∃M:Nat→Nat→Int,∃bb:Nat,∃s:Value,(mz=n - i)∧(ez 2= .pointer (some ⟨g1,0,none⟩))∧(ez 4= .pointer (some ⟨g2,0,none⟩))∧(ez 7= .slice (some ⟨gs,0,none⟩) (n) (n))∧(ez 8= .int .i64 ((n:Nat)))∧(ez 9= .int .i64 ((i:Nat)))∧(i≤n)∧(A i r c M bb)∧(r≤65536∧c≤65536)∧(Keeps (S) w uz)∧(cE uz s r c M bb)∧(aR uz gs 30 n fs)∧(D i uz)∧(aR uz g1 28 3 (bt [.int .i64 ((r:Nat)),.int .i64 ((c:Nat)),s]))∧(aR uz g2 28 3 (bt [.int .i64 (0),.int .i64 (0),.slice (none) (0) (0)]))) (n - 0) ?_ ?_
 · exact ⟨0,_,_,_,_,_,rfl,rfl,rfl,rfl,rfl,rfl,(by omega),hA0,(⟨by omega,by omega⟩),hX,hSx,hfs,hD,hA1,hA2⟩
 rintro m1 e1 w3 ⟨i,r,c,M,bb,s,hm1,s2_e1,s4_e1,s7_e1,s8_e1,s9_e1,hi,hA,hrc,hX1,hSx,hfs,hD,hA1,hA2⟩;have hdim:=hSx.lim;refine ab ?_;refine RL.p rfl rfl (cn.lss s9_e1 s8_e1) ?_;refine RL.nil ?_;refine WP.seq ?_;refine af (((i:Nat):Int)<((n:Nat):Int)) rfl (fun c10=> ?_) (fun c10=> ?_)
 ·
  refine WP.skip ?_;refine pA.norm ?_;refine WP.seq ?_;refine WP.block ?_;refine ab ?_;refine RL.p rfl rfl (cn.index (j:=i) pP s7_e1 s9_e1 rfl (by omega) (by omega)) ?_;refine RL.p rfl rfl (cn.load yF rfl (aP (hfs.cell (i:=i) (by omega)))) ?_;refine RL.p rfl rfl (cn.assign rfl) ?_;refine RL.nil ?_;refine WP.region ?_;refine RL.p rfl rfl (cn.move rfl) ?_;refine RL.p rfl rfl (ae [.int .i64 ((r:Nat)),.int .i64 ((c:Nat)),s] aM s2_e1 (hA1.cells 0 _ rfl rfl)) ?_;have hBw1:w.heap.size≤w3.heap.size:=hX1.size;refine RL.x rfl rfl (cX.call wH (aE rfl) (jo _ _ _ _ _ _ (bf.mk hSx (by omega) (by omega)))) ?_;rintro v1 w4 ⟨hx3,q1⟩;replace hfs:=aR.ext hfs hx3;replace hD:=hDE _ _ _ hD hx3;replace hA1:=aR.ext hA1 hx3;replace hA2:=aR.ext hA2 hx3;replace hX1:=aC hX1 hx3;obtain ⟨fid,fst,cap,hfe,hcb,hcl⟩:=hstep i (by omega) _ hX1 _ _ _ _ _ hA hD (cz.matV q1);refine RL.x rfl rfl (kT hcb (Eq.trans rfl hfe) (congrArg (fun z=>fst ++ z ++ cap) (aE rfl)) hcl) ?_;rintro v2 w5 ⟨hk1,r2,c2,M2,b2,hAn,q2,hDn⟩;replace hfs:=hfs.keep hk1 hgs;replace hA1:=hA1.keep hk1 (fun h=>by have:=hS _ h;have:=hbs1;omega);replace hA2:=hA2.keep hk1 (fun h=>by have:=hS _ h;have:=hbs2;omega);replace hD:=hDn;replace hX1:=hX1.step hk1 (fun b h=> .inl h);obtain ⟨sv1,hq1,hr1,hc1,hS1⟩:=q2.form;refine RL.x rfl rfl (cX.store [.int .i64 ((r2:Nat)),.int .i64 ((c2:Nat)),sv1] bE s2_e1 hq1 rfl hA1 (Nat.le_of_ble_eq_true rfl) (bG rfl rfl hS1.one)) ?_;rintro _ w6 ⟨hk2,hnew⟩;replace hfs:=hfs.keep hk2 ne1;replace hD:=hDx _ _ _ _ _ _ hD hk2 hbs1 hA1;replace hA2:=hA2.keep hk2 (Ne.symm ne3);replace hS1:=aD hS1 hk2 hA1 (by decide);replace hX1:=hX1.step hk2 (fun b e=>by subst e;exact .inr hbs1);replace hA1:=hnew.lit [.int .i64 ((r2:Nat)),.int .i64 ((c2:Nat)),sv1] rfl;clear hnew;refine RL.nil ?_;refine iM.norm ?_;refine pA.norm ?_;refine WP.region ?_;refine RL.p rfl rfl (cn.add (c:=((i + 1:Nat):Int)) s9_e1 rfl (bA (by omega))) ?_;refine RL.p rfl rfl (cn.move rfl) ?_;refine RL.nil ?_;refine pA.norm ⟨_,(by omega),i + 1,_,_,_,_,_,rfl,s2_e1,s4_e1,s7_e1,s8_e1,rfl,(by omega),hAn,(⟨by omega,by omega⟩),hX1,hS1,hfs,hD,hA1,hA2⟩
 ·
  refine WP.exit ?_;refine pA.exit ?_;refine pA.exit ?_;refine iM.same ?_;refine pA.norm ?_;refine ab ?_;refine RL.p rfl rfl (ae [.int .i64 ((r:Nat)),.int .i64 ((c:Nat)),s] aM s2_e1 (hA1.cells 0 _ rfl rfl)) ?_;refine RL.x rfl rfl (cX.store [.int .i64 ((r:Nat)),.int .i64 ((c:Nat)),s] bE s4_e1 rfl rfl hA2 (Nat.le_of_ble_eq_true rfl) (bG rfl rfl (hSx.one))) ?_;rintro _ w7 ⟨hk3,hnew⟩;replace hSx:=aD hSx hk3 hA2 (by decide);replace hD:=hDx _ _ _ _ _ _ hD hk3 hbs2 hA2;replace hX1:=hX1.step hk3 (fun b e=>by subst e;exact .inr hbs2);replace hA2:=hnew.lit [.int .i64 ((r:Nat)),.int .i64 ((c:Nat)),s] rfl;clear hnew;refine RL.nil ?_;refine WP.ret ?_;refine ⟨.agg #[.int .i64 ((r:Nat)),.int .i64 ((c:Nat)),s],zP.one (ag [.int .i64 ((r:Nat)),.int .i64 ((c:Nat)),s] aM s4_e1 (hA2.cells 0 _ rfl rfl)),_,rfl,hX1,?_⟩;dsimp only;have hin:i=n:=by omega
  subst hin;exact ⟨r,c,M,bb,hA,(bf.mk hSx (by omega) (by omega)),hD⟩
end Go.TL
namespace Go.TL
open Go.RowKit Go.Proofs
set_option linter.unusedVariables false
theorem pp (w:World) (x:Value) (rx cx:Nat) (Mx:Nat→Nat→Int) (btx e0 b g:Nat) (hx:bf w x rx cx Mx btx)
    (hfs:aR w g 30 2 (bt [.func (.func 13) #[] #[],.func (.func 13) #[] #[]])) (hcb:az Tryz.prog 13=true) (h8:cx≤8) (hM:∀i j,i<rx→j<cx→(Mx i j).natAbs≤2^e0)
    (hb:bB e0 cx≤b) (hb1:1 + e0≤b) (hb2:bB (eB e0 cx) cx≤b) (hb3:1 + eB e0 cx≤b) (hl:2*b + 4≤aZ):
    Calls Tryz.prog 37 #[x,.slice (some ⟨g,0,none⟩) 2 2] w (cb w fun v w'=>∃k M,iH rx cx e0 Mx k M∧bf w' v k cx M b):=by
  refine (nY w x rx cx Mx btx 2 g _ (fun _=>False) (fun i r c M b'=>match i with | 0=>r=rx∧c=cx∧M=Mx | 1=>c=cx∧b'=b∧fP cx rx e0 (fS Mx) r M | _=>c=cx∧b'=b∧iH rx cx e0 Mx r M) (fun _ _=>True) hx (by decide) hfs (fun _ h=>h.elim) id ⟨rfl,rfl,rfl⟩ trivial (fun _ _ _ _ _=>trivial) (fun _ _ _ _ _ _ _ _ _ _=>trivial) ?_).mono ?_
  · intro i hi w1 hk v r c M b' hA hD hv
    rcases (by omega:i=0∨i=1) with rfl | rfl
    · obtain ⟨rfl,rfl,rfl⟩:=hA
      refine ⟨_,_,_,rfl,hcb,?_⟩;refine (iA w1 v c r (fS M) b' e0 b hv h8 (fun i j hi hj=>hM j i hj hi) hb hb1 hl).mono fun e w2 h=> ?_
      obtain ⟨v2,h1,h2,k,M2,h3,h4⟩:=h;exact ⟨v2,h1,h2.keeps _,k,c,M2,b,⟨rfl,rfl,h3⟩,h4,trivial⟩
    · obtain ⟨rfl,rfl,hL⟩:=hA
      refine ⟨_,_,_,rfl,hcb,?_⟩;refine (iA w1 v c r (fS M) b' (eB e0 c) b' hv h8 (fun i j hi hj=>hL.bd hj hi) hb2 hb3 hl).mono fun e w2 h=> ?_
      obtain ⟨v2,h1,h2,k,M2,h3,h4⟩:=h;exact ⟨v2,h1,h2.keeps _,k,c,M2,b',⟨rfl,rfl,r,M,hL,h3⟩,h4,trivial⟩
  · rintro e w2 ⟨v,h1,h2,r,c,M,b',⟨rfl,rfl,h3⟩,h4,_⟩
    exact ⟨v,h1,h2.ext,r,M,h3,h4⟩
def uG (w:World) (v:Value) (r c e0:Nat) (M0:Nat→Nat→Int) (b:Nat):Prop:=∃k S,Herm r c e0 M0 k S∧bf w v k c S.M b
def pB (w:World) (v:Value) (r c e0:Nat) (M0:Nat→Nat→Int) (b:Nat):Prop:=∃k M,iH r c e0 M0 k M∧bf w v k c M b
def mb (w:World) (v:Value) (r c e0:Nat) (M0:Nat→Nat→Int):Prop:=∃k S k2 M2,Herm r c e0 M0 k S∧iH r c e0 M0 k2 M2∧v= .bool (decide (eS k c k2 c S.M M2))
theorem uG.ext {w w':World} {v:Value} {r c e0 b:Nat} {M0:Nat→Nat→Int} (h:uG w v r c e0 M0 b) (hx:aG w w'):uG w' v r c e0 M0 b:=by obtain ⟨k,S,h1,h2⟩:=h;exact ⟨k,S,h1,h2.ext hx⟩
theorem pB.ext {w w':World} {v:Value} {r c e0 b:Nat} {M0:Nat→Nat→Int} (h:pB w v r c e0 M0 b) (hx:aG w w'):pB w' v r c e0 M0 b:=by obtain ⟨k,S,h1,h2⟩:=h;exact ⟨k,S,h1,h2.ext hx⟩
theorem mb.ext {w w':World} {v:Value} {r c e0:Nat} {M0:Nat→Nat→Int} (h:mb w v r c e0 M0) (hx:aG w w'):mb w' v r c e0 M0:=h
theorem rn (r c e0:Nat) (M0:Nat→Nat→Int) (b:Nat):bD (fun v w=>uG w v r c e0 M0 b):=fun _ _ _ h hx=>h.ext hx
instance (r c e0:Nat) (M0:Nat→Nat→Int) (b:Nat):Nonempty (bD (fun v w=>uG w v r c e0 M0 b)):=⟨rn r c e0 M0 b⟩
theorem lR (r c e0:Nat) (M0:Nat→Nat→Int) (b:Nat):bD (fun v w=>pB w v r c e0 M0 b):=fun _ _ _ h hx=>h.ext hx
instance (r c e0:Nat) (M0:Nat→Nat→Int) (b:Nat):Nonempty (bD (fun v w=>pB w v r c e0 M0 b)):=⟨lR r c e0 M0 b⟩
theorem ph (r c e0:Nat) (M0:Nat→Nat→Int):bD (fun v w=>mb w v r c e0 M0):=fun _ _ _ h _=>h
instance (r c e0:Nat) (M0:Nat→Nat→Int):Nonempty (bD (fun v w=>mb w v r c e0 M0)):=⟨ph r c e0 M0⟩
def lf (w:World) (g r c:Nat) (S:WS) (b:Nat):Prop:=∃s1 s2 s3,aR w g 64 9 (bt [.int .i64 (r:Nat),.int .i64 (c:Nat),s1,.int .i64 (r:Nat),.int .i64 (r:Nat),s2,.int .i64 (r:Nat),.int .i64 (r:Nat),s3])∧
  (r≤65536∧b≤aZ)∧c≤65536∧cE w s1 r c S.M b∧cE w s2 r r S.U b∧cE w s3 r r S.V b
end Go.TL
namespace Go.TL
open Go.RowKit Go.Proofs
set_option linter.unusedVariables false
set_option linter.unusedSimpArgs false
set_option maxRecDepth 10000 in
theorem kG (w:World) (x:Value) (rx cx:Nat) (Mx:Nat→Nat→Int) (btx:Nat) (e0 b:Nat) (hx:bf w x rx cx Mx btx) (h8:cx≤8) (hM:∀i j,i<rx→j<cx→(Mx i j).natAbs≤2^e0) (hb:bB e0 cx≤b) (hb1:1 + e0≤b) (hb2:bB (eB e0 cx) cx≤b) (hb3:1 + eB e0 cx≤b) (hl:2*b + 4≤aZ):Calls Tryz.prog 15 #[x] w (cb w fun v w'=>∃k M,iH rx cx e0 Mx k M∧bf w' v k cx M b):=by
 have hLIM:aZ=562949953421312:=rfl;have hmatx:=hx;obtain ⟨sx,rfl,hrx,hcx,hSx⟩:=hx.form;refine aj (N:=6) (rs:= #[.cell 2 28]) Tryz.func15 rfl rfl rfl (Nat.le_of_ble_eq_true rfl) ?_;have hX:aG w w:=aG.refl w;refine ab ?_;refine RL.x rfl rfl (cX.box [.int .i64 ((rx:Nat)),.int .i64 ((cx:Nat)),sx] rfl rfl) ?_;rintro _ w1 ⟨g1,rfl,hge1,hx1,hA1⟩;replace hX:=aG.trans hX hx1;refine RL.x rfl rfl (cX.alloc [.int .i64 (0),.int .i64 (0),.slice (none) (0) (0)] bo rfl) ?_;rintro _ w2 ⟨g2,rfl,hge2,hx2,hA2⟩;have hbs2:w.heap.size≤g2:=Nat.le_trans hX.size hge2;replace hA1:=aR.ext hA1 hx2;replace hX:=aG.trans hX hx2;refine RL.nil ?_;refine ab ?_;refine RL.p rfl rfl (ae [.int .i64 ((rx:Nat)),.int .i64 ((cx:Nat)),sx] aM rfl (hA1.cells 0 _ rfl rfl)) ?_;refine RL.x rfl rfl (cX.buildSlice (vs:= [(0,.func (.func 13) #[] #[]),(1,.func (.func 13) #[] #[])]) [(.nilFunc:Value)] [.func (.func 13) #[] #[],.func (.func 13) #[] #[]] pP ws rfl (dK rfl rfl) rfl (by decide) uL rfl) ?_;rintro _ w3 ⟨g3,rfl,hge3,hx3,hA3⟩;replace hA2:=aR.ext hA2 hx3;replace hX:=aG.trans hX hx3;refine RL.x rfl rfl (cX.call wJ (aA rfl rfl) (pp _ _ rx cx Mx _ e0 b g3 (bf.mk (cE.ext hSx hX) (by omega) (by omega)) hA3 pW h8 hM hb hb1 hb2 hb3 hl)) ?_;rintro v1 w4 ⟨hx4,ks,Ms,hSat,q1⟩;replace hA2:=aR.ext hA2 hx4;replace hX:=aG.trans hX hx4;obtain ⟨sv1,hq1,hr1,hc1,hS1⟩:=q1.form;refine RL.x rfl rfl (cX.store [.int .i64 ((ks:Nat)),.int .i64 ((cx:Nat)),sv1] bE rfl hq1 rfl hA2 (Nat.le_of_ble_eq_true rfl) (bG rfl rfl hS1.one)) ?_;rintro _ w5 ⟨hk1,hnew⟩;replace hS1:=aD hS1 hk1 hA2 (by decide);replace hX:=hX.step hk1 (fun b e=>by subst e;exact hbs2);replace hA2:=hnew.lit [.int .i64 ((ks:Nat)),.int .i64 ((cx:Nat)),sv1] rfl;clear hnew;refine RL.nil ?_;refine WP.ret ?_;refine ⟨.agg #[.int .i64 ((ks:Nat)),.int .i64 ((cx:Nat)),sv1],zP.one (ag [.int .i64 ((ks:Nat)),.int .i64 ((cx:Nat)),sv1] aM rfl (hA2.cells 0 _ rfl rfl)),_,rfl,hX,?_⟩;dsimp only;exact ⟨ks,Ms,hSat,(bf.mk hS1 (by omega) (by omega))⟩
set_option maxRecDepth 10000 in
theorem tF (w:World) (x:Value) (rx cx:Nat) (Mx:Nat→Nat→Int) (btx:Nat) (g5:Nat) (f5:Nat→Value) (e0 b:Nat) (hx:bf w x rx cx Mx btx) (hG5:aR w g5 64 9 f5) (h8:rx≤8) (hM:∀i j,i<rx→j<cx→(Mx i j).natAbs≤2^e0) (hb:bB e0 rx≤b) (hb1:1 + e0≤b) (hl:2*b + 4≤aZ):Calls Tryz.prog 38 #[x,.pointer (some ⟨g5,0,none⟩)] w (iI (fun b=>b=g5) w fun v w'=>∃k S,Herm rx cx e0 Mx k S∧lf w' g5 rx cx S b∧bf w' v rx cx S.M b):=by
 have hLIM:aZ=562949953421312:=rfl;have hmatx:=hx;obtain ⟨sx,rfl,hrx,hcx,hSx⟩:=hx.form;refine aj (N:=8) (rs:= #[.cell 3 28]) Tryz.func38 rfl rfl rfl (Nat.le_of_ble_eq_true rfl) ?_;have hX:Keeps (fun b=>b=g5) w w:=Keeps.refl _ w;refine ab ?_;refine RL.x rfl rfl (cX.box [.int .i64 ((rx:Nat)),.int .i64 ((cx:Nat)),sx] rfl rfl) ?_;rintro _ w1 ⟨g1,rfl,hge1,hx1,hA1⟩;replace hSx:=cE.ext hSx hx1;replace hG5:=aR.ext hG5 hx1;replace hX:=aC hX hx1;refine RL.x rfl rfl (cX.alloc [.int .i64 (0),.int .i64 (0),.slice (none) (0) (0)] bo rfl) ?_;rintro _ w2 ⟨g2,rfl,hge2,hx2,hA2⟩;have ne2:g5≠g2:=Nat.ne_of_lt (Nat.lt_of_lt_of_le hG5.lt hge2);have hbs2:w.heap.size≤g2:=Nat.le_trans hX.size hge2;replace hSx:=cE.ext hSx hx2;replace hG5:=aR.ext hG5 hx2;replace hA1:=aR.ext hA1 hx2;replace hX:=aC hX hx2;refine RL.nil ?_;refine ab ?_;refine RL.p rfl rfl (ae [.int .i64 ((rx:Nat)),.int .i64 ((cx:Nat)),sx] aM rfl (hA1.cells 0 _ rfl rfl)) ?_;refine RL.x rfl rfl (cX.call su (aE rfl) (mG _ _ rx cx Mx _ e0 b (bf.mk hSx (by omega) (by omega)) h8 hM hb hb1 hl)) ?_;rintro _ w3 ⟨hx3,kf_1,Sf_1,hHf_1,sa_1,sb_1,sc_1,rfl,hdr_1,hdc_1,hSa_1,hSb_1,hSc_1⟩;replace hG5:=aR.ext hG5 hx3;replace hA2:=aR.ext hA2 hx3;replace hX:=aC hX hx3;refine RL.x rfl rfl (cX.store [.int .i64 ((rx:Nat)),.int .i64 ((cx:Nat)),sa_1,.int .i64 ((rx:Nat)),.int .i64 ((rx:Nat)),sb_1,.int .i64 ((rx:Nat)),.int .i64 ((rx:Nat)),sc_1] lA rfl rfl rfl hG5 (Nat.le_of_ble_eq_true rfl) (lM rfl rfl (hSa_1.one) rfl rfl (hSb_1.one) rfl rfl (hSc_1.one))) ?_;rintro _ w4 ⟨hk1,hnew⟩;replace hA2:=hA2.keep hk1 (Ne.symm ne2);replace hSa_1:=aD hSa_1 hk1 hG5 (by decide);replace hSb_1:=aD hSb_1 hk1 hG5 (by decide);replace hSc_1:=aD hSc_1 hk1 hG5 (by decide);replace hX:=hX.step hk1 (fun b e=>by subst e;exact .inl rfl);replace hG5:=hnew.lit [.int .i64 ((rx:Nat)),.int .i64 ((cx:Nat)),sa_1,.int .i64 ((rx:Nat)),.int .i64 ((rx:Nat)),sb_1,.int .i64 ((rx:Nat)),.int .i64 ((rx:Nat)),sc_1] rfl;clear hnew;refine RL.nil ?_;refine ab ?_;refine RL.p rfl rfl (cn.fieldAddr gm rfl) ?_;refine RL.p rfl rfl (ae [.int .i64 ((rx:Nat)),.int .i64 ((cx:Nat)),sa_1] aM rfl (hG5.cells 0 _ rfl rfl)) ?_;refine RL.x rfl rfl (cX.store [.int .i64 ((rx:Nat)),.int .i64 ((cx:Nat)),sa_1] bE rfl rfl rfl hA2 (Nat.le_of_ble_eq_true rfl) (bG rfl rfl (hSa_1.one))) ?_;rintro _ w5 ⟨hk2,hnew⟩;replace hG5:=hG5.keep hk2 ne2;replace hSa_1:=aD hSa_1 hk2 hA2 (by decide);replace hSb_1:=aD hSb_1 hk2 hA2 (by decide);replace hSc_1:=aD hSc_1 hk2 hA2 (by decide);replace hX:=hX.step hk2 (fun b e=>by subst e;exact .inr hbs2);replace hA2:=hnew.lit [.int .i64 ((rx:Nat)),.int .i64 ((cx:Nat)),sa_1] rfl;clear hnew;refine RL.nil ?_;refine WP.ret ?_;refine ⟨.agg #[.int .i64 ((rx:Nat)),.int .i64 ((cx:Nat)),sa_1],zP.one (ag [.int .i64 ((rx:Nat)),.int .i64 ((cx:Nat)),sa_1] aM rfl (hA2.cells 0 _ rfl rfl)),_,rfl,hX,?_⟩;dsimp only;exact ⟨kf_1,Sf_1,hHf_1,⟨sa_1,sb_1,sc_1,hG5,⟨by omega,by omega⟩,by omega,hSa_1,hSb_1,hSc_1⟩,bf.mk hSa_1 (by omega) (by omega)⟩
end Go.TL
namespace Go.TL
open Go.RowKit Go.Proofs
set_option linter.unusedVariables false
theorem lf.keep {w w':World} {g r c b g2 m:Nat} {f:Nat→Value} {S:WS} (h:lf w g r c S b) (hk:Keeps (fun k=>k=g2) w w') (hA:aR w g2 28 m f):lf w' g r c S b:=by
  obtain ⟨s1,s2,s3,h1,h2,h3,h4,h5,h6⟩:=h;exact ⟨s1,s2,s3,h1.keep hk (h1.ne hA (by decide)),h2,h3,aD h4 hk hA (by decide),aD h5 hk hA (by decide),aD h6 hk hA (by decide)⟩
theorem lf.ext {w w':World} {g r c b:Nat} {S:WS} (h:lf w g r c S b) (hx:aG w w'):lf w' g r c S b:=by
  obtain ⟨s1,s2,s3,h1,h2,h3,h4,h5,h6⟩:=h;exact ⟨s1,s2,s3,h1.ext hx,h2,h3,h4.ext hx,h5.ext hx,h6.ext hx⟩
theorem ub {i j:Nat} {x:Int} (h:¬((((((i:Nat):Int)=((j:Nat):Int))∧(bV x 1≠0))∨((((i:Nat):Int)≠((j:Nat):Int))∧(x.sign≠0))))):x=bH i j:=by
  unfold bH
  by_cases e:i=j
  · subst e
    rw [if_pos rfl]
    by_cases h1:bV x 1=0
    · exact (fc x 1).1 h1
    · exact absurd (.inl ⟨rfl,h1⟩) h
  · rw [if_neg e]
    by_cases h1:x.sign=0
    · exact Int.sign_eq_zero_iff_zero.1 h1
    · exact absurd (.inr ⟨by omega,h1⟩) h
theorem rG {i j:Nat} {x:Int} (h:(((((i:Nat):Int)=((j:Nat):Int))∧(bV x 1≠0))∨((((i:Nat):Int)≠((j:Nat):Int))∧(x.sign≠0)))) (hx:x=bH i j):False:=by
  unfold bH at hx
  rcases h with ⟨h1,h2⟩ | ⟨h1,h2⟩
  · rw [if_pos (by omega)] at hx
    exact h2 ((fc x 1).2 hx)
  · rw [if_neg (by omega)] at hx
    exact h2 (Int.sign_eq_zero_iff_zero.2 hx)
theorem rz (w:World) (x:Value) (rx cx:Nat) (Mx:Nat→Nat→Int) (btx e0 b gs g5:Nat) (f5:Nat→Value) (hx:bf w x rx cx Mx btx)
    (hfs:aR w gs 30 1 (bt [.func (.func 38) #[] #[.pointer (some ⟨g5,0,none⟩)]])) (hG:aR w g5 64 9 f5) (hcb:az Tryz.prog 38=true)
    (h8:cx≤8) (hM:∀i j,i<rx→j<cx→(Mx i j).natAbs≤2^e0) (hb:bB e0 cx≤b) (hb1:1 + e0≤b) (hl:2*b + 4≤aZ):
    Calls Tryz.prog 37 #[x,.slice (some ⟨gs,0,none⟩) 1 1] w (iI (fun k=>k=g5) w fun _ w'=>∃k S,Herm cx rx e0 (fS Mx) k S∧lf w' g5 cx rx S b):=by
  have hne:gs≠g5:=hfs.ne hG (by decide);refine (nY w x rx cx Mx btx 1 gs _ (fun k=>k=g5) (fun i r c M b'=>i=0→r=rx∧c=cx∧M=Mx) (fun i w1=>match i with | 0=>∃f,aR w1 g5 64 9 f | _=>∃k S,Herm cx rx e0 (fS Mx) k S∧lf w1 g5 cx rx S b) hx (by decide) hfs
    (fun k e=>by subst e;exact hG.lt) hne (fun _=>⟨rfl,rfl,rfl⟩) ⟨f5,hG⟩ ?_ ?_ ?_).mono ?_
  · intro i w1 w2 hD hxx
    cases i with
    | zero=>obtain ⟨f,h⟩:=hD;exact ⟨f,h.ext hxx⟩
    | succ i=>obtain ⟨k,S,h1,h2⟩:=hD;exact ⟨k,S,h1,h2.ext hxx⟩
  · intro i w1 w2 g m f hD hk _ hA
    cases i with
    | zero=>obtain ⟨f',h⟩:=hD;exact ⟨f',h.keep hk (h.ne hA (by decide))⟩
    | succ i=>obtain ⟨k,S,h1,h2⟩:=hD;exact ⟨k,S,h1,h2.keep hk hA⟩
  · intro i hi w1 hk v r c M b' hA hD hv
    obtain rfl:i=0:=by omega
    obtain ⟨rfl,rfl,rfl⟩:=hA rfl;obtain ⟨f,hG'⟩:=hD;refine ⟨_,_,_,rfl,hcb,?_⟩;refine (tF w1 v c r (fS M) b' g5 f e0 b hv hG' h8 (fun i j hi hj=>hM j i hj hi) hb hb1 hl).mono fun e w2 h=> ?_
    obtain ⟨v2,h1,h2,k,S,h3,h4,h5⟩:=h;exact ⟨v2,h1,h2,c,r,S.M,b,(fun h=>by omega),h5,k,S,h3,h4⟩
  · rintro e w2 ⟨v,h1,h2,r,c,M,b',_,_,h4⟩
    exact ⟨v,h1,h2,h4⟩
end Go.TL
namespace Go.TL
open Go.RowKit Go.Proofs
set_option linter.unusedVariables false
set_option linter.unusedSimpArgs false
set_option maxRecDepth 10000 in
theorem nZ (w:World) (x:Value) (rx cx:Nat) (Mx:Nat→Nat→Int) (btx:Nat) (e0 b:Nat) (hx:bf w x rx cx Mx btx) (h8r:rx≤8) (hb0:bB e0 rx≤b) (h8:cx≤8) (hM:∀i j,i<rx→j<cx→(Mx i j).natAbs≤2^e0) (hb:bB e0 cx≤b) (hb1:1 + e0≤b) (hb2:bB (eB e0 cx) cx≤b) (hb3:1 + eB e0 cx≤b) (hl:2*b + 4≤aZ):Calls Tryz.prog 16 #[x] w (cb w fun v w'=>∃k S k2 M2,Herm rx cx e0 Mx k S∧iH rx cx e0 Mx k2 M2∧v= .bool (decide (eS k cx k2 cx S.M M2))):=by
 have hLIM:aZ=562949953421312:=rfl;have hmatx:=hx;obtain ⟨sx,rfl,hrx,hcx,hSx⟩:=hx.form;refine aj (N:=8) (rs:= #[.tmp 2]) Tryz.func16 rfl rfl rfl (Nat.le_of_ble_eq_true rfl) ?_;have hX:aG w w:=aG.refl w;refine ab ?_;refine RL.x rfl rfl (cX.box [.int .i64 ((rx:Nat)),.int .i64 ((cx:Nat)),sx] rfl rfl) ?_;rintro _ w1 ⟨g1,rfl,hge1,hx1,hA1⟩;replace hX:=aG.trans hX hx1;refine RL.p rfl rfl (cn.assign rfl) ?_;refine RL.nil ?_;refine aJ am 5 [_,fun v AC=>uG AC v rx cx e0 Mx b,_,fun v AC=>pB AC v rx cx e0 Mx b,fun v AC=>mb AC v rx cx e0 Mx] rfl rfl (fun e_ w_ AB AA=>⟨fun _=>aa (ae [.int .i64 ((rx:Nat)),.int .i64 ((cx:Nat)),sx] aM ((AA 1 rfl rfl)) ((aR.ext hA1 AB).cells 0 _ rfl rfl)),fun Az=>cX.call wG (aE (Az 0 rfl)) (qx _ _ _ _ _ _ e0 b (bf.mk (cE.ext (cE.ext hSx hX) AB) (by omega) (by omega)) h8r hM hb0 hb1 hl),fun _=>aa (ae [.int .i64 ((rx:Nat)),.int .i64 ((cx:Nat)),sx] aM ((AA 1 rfl rfl)) ((aR.ext hA1 AB).cells 0 _ rfl rfl)),fun Az=>cX.call wO (aE (Az 2 rfl)) (kG _ _ _ _ _ _ e0 b (bf.mk (cE.ext (cE.ext hSx hX) AB) (by omega) (by omega)) h8 hM hb hb1 hb2 hb3 hl),fun Az=>(by
       obtain ⟨k1,S1,g1,g2⟩:=Az 1 rfl;obtain ⟨k2,M2,g3,g4⟩:=Az 3 rfl;exact cX.mono (cX.call zd (aA rfl rfl) (vv _ _ _ _ _ _ _ _ _ _ _ g2 g4)) fun v w2 hv=>⟨hv.1,k1,S1,k2,M2,g1,g3,hv.2⟩),trivial⟩) ?_
 intro e1 w2 hx2 ho1 hf1;replace hX:=aG.trans hX hx2;have s7_e1:mb w2 (e1 7) rx cx e0 Mx:=hf1 4 rfl;refine RL.p rfl rfl (cn.assign rfl) ?_;refine RL.nil ?_;refine WP.ret ?_;refine ⟨(e1 7),zP.one (fN.tmp rfl),_,rfl,hX,?_⟩;dsimp only;exact s7_e1
set_option maxRecDepth 10000 in
set_option maxHeartbeats 800000 in
theorem mF (w:World) (x:Value) (rx cx:Nat) (Mx:Nat→Nat→Int) (btx:Nat) (e0 b:Nat) (hx:bf w x rx cx Mx btx) (h8:cx≤8) (hM:∀i j,i<rx→j<cx→(Mx i j).natAbs≤2^e0) (hb:bB e0 cx≤b) (hb1:1 + e0≤b) (hl:2*b + 4≤aZ):Calls Tryz.prog 10 #[x] w (cb w fun v w'=>∃k S,Herm cx rx e0 (fS Mx) k S∧(((∀i j,i<cx→j<rx→S.M i j=bH i j)∧rx≤cx∧∃v1,v= .tuple #[v1,.int .i64 0]∧bf w' v1 (cx - rx) cx (fun a e=>S.V e (rx + a)) b)∨(¬((∀i j,i<cx→j<rx→S.M i j=bH i j)∧rx≤cx)∧v= .tuple #[.agg #[.int .i64 0,.int .i64 0,.slice none 0 0],.int .i64 170]))):=by
 have hLIM:aZ=562949953421312:=rfl;have hmatx:=hx;obtain ⟨sx,rfl,hrx,hcx,hSx⟩:=hx.form;refine aj (N:=67) (rs:= #[.cell 2 28,.tmp 3]) Tryz.func10 rfl rfl rfl (Nat.le_of_ble_eq_true rfl) ?_;have hX:aG w w:=aG.refl w;refine ab ?_;refine RL.x rfl rfl (cX.box [.int .i64 ((rx:Nat)),.int .i64 ((cx:Nat)),sx] rfl rfl) ?_;rintro _ w1 ⟨g1,rfl,hge1,hx1,hA1⟩;replace hX:=aG.trans hX hx1;refine RL.x rfl rfl (cX.alloc [.int .i64 (0),.int .i64 (0),.slice (none) (0) (0)] bo rfl) ?_;rintro _ w2 ⟨g2,rfl,hge2,hx2,hA2⟩;have hbs2:w.heap.size≤g2:=Nat.le_trans hX.size hge2;replace hA1:=aR.ext hA1 hx2;replace hX:=aG.trans hX hx2;refine RL.p rfl rfl (cn.assign rfl) ?_;refine RL.nil ?_;refine ab ?_;refine RL.x rfl rfl (cX.call ns (aE rfl) (uf (1) (1) _ (by decide) (by decide) (by decide))) ?_;rintro v1 w3 ⟨hx3,q1⟩;replace hA1:=aR.ext hA1 hx3;replace hA2:=aR.ext hA2 hx3;replace hX:=aG.trans hX hx3;refine RL.x rfl rfl (cX.alloc [.bool (false),.slice (none) (0) (0)] bq rfl) ?_;rintro _ w4 ⟨g3,rfl,hge3,hx4,hA3⟩;have ne2:g1≠g3:=Nat.ne_of_lt (Nat.lt_of_lt_of_le hA1.lt hge3);have ne3:g2≠g3:=Nat.ne_of_lt (Nat.lt_of_lt_of_le hA2.lt hge3);have hbs3:w.heap.size≤g3:=Nat.le_trans hX.size hge3;replace hA1:=aR.ext hA1 hx4;replace hA2:=aR.ext hA2 hx4;replace q1:=ak.ext q1 hx4;replace hX:=aG.trans hX hx4;obtain ⟨ca1,cb1,hq1,ho1,ho2⟩:=ak.cells q1;have qi1:ak w4 (.agg #[ca1,cb1]) 1 1:=hq1▸q1;refine RL.x rfl rfl (cX.store [ca1,cb1] aL rfl hq1 rfl hA3 (Nat.le_of_ble_eq_true rfl) (aS ho1 ho2)) ?_;rintro _ w5 ⟨hk1,hnew⟩;replace hA1:=hA1.keep hk1 ne2;replace hA2:=hA2.keep hk1 ne3;replace qi1:=ac qi1 hk1 hA3 (by decide);replace hX:=hX.step hk1 (fun b e=>by subst e;exact hbs3);replace hA3:=hnew.lit [ca1,cb1] rfl;clear hnew;refine RL.nil ?_;refine ab ?_;refine RL.x rfl rfl (cX.alloc [.int .i64 (0),.int .i64 (0),.slice (none) (0) (0),.int .i64 (0),.int .i64 (0),.slice (none) (0) (0),.int .i64 (0),.int .i64 (0),.slice (none) (0) (0)] ji rfl) ?_;rintro _ w6 ⟨g4,rfl,hge4,hx5,hA4⟩;have hbs4:w.heap.size≤g4:=Nat.le_trans hX.size hge4;replace hA1:=aR.ext hA1 hx5;replace hA2:=aR.ext hA2 hx5;replace hA3:=aR.ext hA3 hx5;replace qi1:=ak.ext qi1 hx5;replace hX:=aG.trans hX hx5;refine RL.nil ?_;refine ab ?_;refine RL.p rfl rfl (ae [.int .i64 ((rx:Nat)),.int .i64 ((cx:Nat)),sx] aM rfl (hA1.cells 0 _ rfl rfl)) ?_;refine RL.p rfl rfl (cn.makeFunc (ov) (aE rfl)) ?_;refine RL.x rfl rfl (cX.buildSlice (vs:= [(0,.func (.func 38) #[] #[.pointer (some ⟨g4,0,none⟩)])]) [(.nilFunc:Value)] [.func (.func 38) #[] #[.pointer (some ⟨g4,0,none⟩)]] pP ws rfl (eN rfl) rfl (by decide) uM rfl) ?_;rintro _ w7 ⟨g5,rfl,hge5,hx6,hA5⟩;replace hA1:=aR.ext hA1 hx6;replace hA2:=aR.ext hA2 hx6;replace hA3:=aR.ext hA3 hx6;replace qi1:=ak.ext qi1 hx6;replace hA4:=aR.ext hA4 hx6;replace hX:=aG.trans hX hx6;refine RL.x rfl rfl (ca wJ (aA rfl rfl) (rz _ _ rx cx Mx _ e0 b g5 g4 _ (bf.mk (cE.ext hSx hX) (by omega) (by omega)) hA5 hA4 zg h8 hM hb hb1 hl)) ?_;rintro _ w9 ⟨hk2,kf,Sf,hHf,hHB⟩;replace hA1:=hA1.keep hk2 (hA1.ne hA4 (by decide));replace hA2:=hA2.keep hk2 (hA2.ne hA4 (by decide));replace hA3:=hA3.keep hk2 (hA3.ne hA4 (by decide));replace qi1:=ac qi1 hk2 hA4 (by decide);replace hX:=hX.step hk2 (fun b e=>by subst e;exact hbs4);obtain ⟨s1,s2,s3,hG5,hd1,hd2,hS1,hS2,hS3⟩:=hHB;have hXa1:=aG.refl w9;refine RL.nil ?_;refine WP.seq ?_;refine ab ?_;refine RL.p rfl rfl (cn.fieldAddr gm rfl) ?_;refine RL.p rfl rfl (cn.fieldAddr au rfl) ?_;refine RL.p rfl rfl (cn.load aK rfl (hG5.at_ (i:=2) rfl rfl)) ?_;refine RL.p rfl rfl (cY aF rfl (cE.ext hS1 hXa1)) ?_;refine RL.p rfl rfl (cn.move rfl) ?_;refine RL.nil ?_;refine WP.block ?_;refine WP.loop (fun mz ez uz=>∃i:Nat,(mz=cx - i)∧(ez 1= .pointer (some ⟨g1,0,none⟩))∧(ez 2= .pointer (some ⟨g2,0,none⟩))∧(ez 4= .pointer (some ⟨g3,0,none⟩))∧(ez 5= .pointer (some ⟨g4,0,none⟩))∧(ez 17=s1)∧(ez 18= .int .i64 ((cx:Nat)))∧(ez 19= .int .i64 ((i:Nat)))∧(i≤cx)∧(∀a,a<i→∀e,e<rx→Sf.M a e=bH a e)∧(aG w uz)∧(aR uz g1 28 3 (bt [.int .i64 ((rx:Nat)),.int .i64 ((cx:Nat)),sx]))∧(aR uz g2 28 3 (bt [.int .i64 (0),.int .i64 (0),.slice (none) (0) (0)]))∧(aR uz g3 51 2 (bt [ca1,cb1]))∧(aR uz g4 64 9 (bt [.int .i64 ((cx:Nat)),.int .i64 ((rx:Nat)),s1,.int .i64 ((cx:Nat)),.int .i64 ((cx:Nat)),s2,.int .i64 ((cx:Nat)),.int .i64 ((cx:Nat)),s3]))∧(aG w9 uz)) (cx - 0) ?_ ?_
 · exact ⟨0,rfl,rfl,rfl,rfl,rfl,rfl,rfl,rfl,(by omega),(fun a ha=>by omega),hX,hA1,hA2,hA3,hG5,hXa1⟩
 rintro m1 e1 w10 ⟨i,hm1,s1_e1,s2_e1,s4_e1,s5_e1,s17_e1,s18_e1,s19_e1,hi,hid,hX1,hA1,hA2,hA3,hG5,hXa1⟩;refine ab ?_;refine RL.p rfl rfl (cn.lss s19_e1 s18_e1) ?_;refine RL.nil ?_;refine WP.seq ?_;refine af (((i:Nat):Int)<((cx:Nat):Int)) rfl (fun c20=> ?_) (fun c20=> ?_)
 ·
  refine WP.skip ?_;refine pA.norm ?_;refine WP.seq ?_;refine WP.block ?_;refine ab ?_;refine RL.p rfl rfl (cn.move s19_e1) ?_;refine RL.x rfl rfl (bK (j:=i) aF s17_e1 (cE.ext hS1 hXa1) s19_e1 (by omega) (by omega)) ?_;rintro v2 _ ⟨rfl,q2⟩;refine RL.x rfl rfl (bQ aU rfl q2) ?_;rintro v3 _ ⟨rfl,q3⟩;refine RL.p rfl rfl (cn.assign rfl) ?_;refine RL.p rfl rfl (cn.assign rfl) ?_;refine RL.nil ?_;have hXa2:=aG.refl w10
  skip
  refine ab ?_;refine RL.p rfl rfl (cn.move rfl) ?_;refine RL.p rfl rfl (cN be rfl (cV.ext q3 hXa2)) ?_;refine RL.p rfl rfl (cn.move rfl) ?_;refine RL.nil ?_;refine WP.block ?_;refine WP.loop (fun mz ez uz=>∃j:Nat,(mz=rx - j)∧(ez 1= .pointer (some ⟨g1,0,none⟩))∧(ez 2= .pointer (some ⟨g2,0,none⟩))∧(ez 4= .pointer (some ⟨g3,0,none⟩))∧(ez 5= .pointer (some ⟨g4,0,none⟩))∧(ez 6= .int .i64 ((i:Nat)))∧(ez 17=s1)∧(ez 18= .int .i64 ((cx:Nat)))∧(ez 19= .int .i64 ((i:Nat)))∧(ez 24=v3)∧(ez 25= .int .i64 ((rx:Nat)))∧(ez 26= .int .i64 ((j:Nat)))∧(j≤rx)∧(∀e,e<j→Sf.M i e=bH i e)∧(aG w uz)∧(aR uz g1 28 3 (bt [.int .i64 ((rx:Nat)),.int .i64 ((cx:Nat)),sx]))∧(aR uz g2 28 3 (bt [.int .i64 (0),.int .i64 (0),.slice (none) (0) (0)]))∧(aR uz g3 51 2 (bt [ca1,cb1]))∧(aR uz g4 64 9 (bt [.int .i64 ((cx:Nat)),.int .i64 ((rx:Nat)),s1,.int .i64 ((cx:Nat)),.int .i64 ((cx:Nat)),s2,.int .i64 ((cx:Nat)),.int .i64 ((cx:Nat)),s3]))∧(aG w9 uz)∧(aG w10 uz)) (rx - 0) ?_ ?_
  · exact ⟨0,rfl,s1_e1,s2_e1,s4_e1,s5_e1,rfl,s17_e1,s18_e1,s19_e1,rfl,rfl,rfl,(by omega),(fun a ha=>by omega),hX1,hA1,hA2,hA3,hG5,hXa1,hXa2⟩
  rintro m2 e2 w11 ⟨j,hm2,s1_e2,s2_e2,s4_e2,s5_e2,s6_e2,s17_e2,s18_e2,s19_e2,s24_e2,s25_e2,s26_e2,hj,hjd,hX2,hA1,hA2,hA3,hG5,hXa1,hXa2⟩;refine ab ?_;refine RL.p rfl rfl (cn.lss s26_e2 s25_e2) ?_;refine RL.nil ?_;refine WP.seq ?_;refine af (((j:Nat):Int)<((rx:Nat):Int)) rfl (fun c27=> ?_) (fun c27=> ?_)
  ·
   refine WP.skip ?_;refine pA.norm ?_;refine WP.seq ?_;refine WP.block ?_;refine ab ?_;refine RL.p rfl rfl (cn.move s26_e2) ?_;refine RL.x rfl rfl (bU (j:=j) be s24_e2 (cV.ext q3 hXa2) s26_e2 (by omega) (by omega)) ?_;rintro v4 _ ⟨rfl,q4⟩;refine RL.x rfl rfl (bZ aw rfl q4) ?_;rintro v5 _ ⟨rfl,q5⟩;refine RL.x rfl rfl (cX.alloc [.bool (false),.slice (none) (0) (0)] bq rfl) ?_;rintro _ w12 ⟨g6,rfl,hge6,hx8,hA6⟩;have ne11:g1≠g6:=Nat.ne_of_lt (Nat.lt_of_lt_of_le hA1.lt hge6);have ne12:g2≠g6:=Nat.ne_of_lt (Nat.lt_of_lt_of_le hA2.lt hge6);have ne13:g3≠g6:=Nat.ne_of_lt (Nat.lt_of_lt_of_le hA3.lt hge6);have ne14:g4≠g6:=Nat.ne_of_lt (Nat.lt_of_lt_of_le hG5.lt hge6);have hbs6:w.heap.size≤g6:=Nat.le_trans hX2.size hge6;have hba1:w9.heap.size≤g6:=Nat.le_trans hXa1.size hge6;have hba2:w10.heap.size≤g6:=Nat.le_trans hXa2.size hge6;replace hA1:=aR.ext hA1 hx8;replace hA2:=aR.ext hA2 hx8;replace hA3:=aR.ext hA3 hx8;replace hG5:=aR.ext hG5 hx8;replace hXa1:=aG.trans hXa1 hx8;replace hXa2:=aG.trans hXa2 hx8;replace q5:=ak.ext q5 hx8;replace hX2:=aG.trans hX2 hx8;refine RL.p rfl rfl (cn.assign rfl) ?_;obtain ⟨ca2,cb2,hq2,ho3,ho4⟩:=ak.cells q5;have qi2:ak w12 (.agg #[ca2,cb2]) ((Sf.M i) j) b:=hq2▸q5;refine RL.x rfl rfl (cX.store [ca2,cb2] aL rfl hq2 rfl hA6 (Nat.le_of_ble_eq_true rfl) (aS ho3 ho4)) ?_;rintro _ w13 ⟨hk3,hnew⟩;replace hA1:=hA1.keep hk3 ne11;replace hA2:=hA2.keep hk3 ne12;replace hA3:=hA3.keep hk3 ne13;replace hG5:=hG5.keep hk3 ne14;replace hXa1:=hXa1.step hk3 (fun b e=>by subst e;exact hba1);replace hXa2:=hXa2.step hk3 (fun b e=>by subst e;exact hba2);replace qi2:=ac qi2 hk3 hA6 (by decide);replace hX2:=hX2.step hk3 (fun b e=>by subst e;exact hbs6);replace hA6:=hnew.lit [ca2,cb2] rfl;clear hnew;refine RL.nil ?_;refine aJ am 19 [_,_,_,fun v AC=>v= .bool (decide (((i:Nat):Int)=((j:Nat):Int))),_,_,_,_,_,fun v AC=>v= .bool (decide ((((i:Nat):Int)=((j:Nat):Int))∧((bV ((Sf.M i) j) (1):Int)≠(0:Int)))),_,_,_,fun v AC=>((¬((((i:Nat):Int)=((j:Nat):Int))∧((bV ((Sf.M i) j) (1):Int)≠(0:Int))))→(v= .bool (decide (((i:Nat):Int)≠((j:Nat):Int)))))∧(¬(¬((((i:Nat):Int)=((j:Nat):Int))∧((bV ((Sf.M i) j) (1):Int)≠(0:Int))))→v=undef),_,_,_,_,_] rfl rfl (fun e_ w_ AB AA=>⟨fun _=>aa (cn.move ((AA 6 rfl s6_e2))),fun _=>aa (cn.move ((AA 8 rfl rfl))),fun Az=>aa (cn.eql ((Az 0 rfl)) ((Az 1 rfl))),fun Az=>aa (cn.move ((Az 2 rfl))),fun Az=>gT (Az 3 rfl) fun hg=>aa (ae [ca2,cb2] aw ((AA 9 rfl rfl)) ((aR.ext hA6 AB).cells 0 _ rfl rfl)),fun Az=>gT (Az 3 rfl) fun hg=>aa (ae [ca1,cb1] aw ((AA 4 rfl s4_e2)) ((aR.ext hA3 AB).cells 0 _ rfl rfl)),fun Az=>gT (Az 3 rfl) fun hg=>cX.call ss (aA ((Az 4 rfl hg)) ((Az 5 rfl hg))) (ui _ _ _ _ _ _ _ ((ak.ext qi2 AB)) ((ak.ext (ak.ext qi1 hXa1) AB))),fun Az=>gT (Az 3 rfl) fun hg=>aa (cn.neq ((Az 6 rfl hg)) rfl),fun Az=>aa (aB (p:=((i:Nat):Int)=((j:Nat):Int)) (q:=(bV ((Sf.M i) j) (1):Int)≠(0:Int)) (Az 3 rfl) (fun hq=>(Az 7 rfl hq))),fun Az=>aa (cn.move ((Az 8 rfl))),fun Az=>gF (Az 9 rfl) fun hg=>aa (cn.move ((AA 6 rfl s6_e2))),fun Az=>gF (Az 9 rfl) fun hg=>aa (cn.move ((AA 8 rfl rfl))),fun Az=>gF (Az 9 rfl) fun hg=>aa (cn.neq ((Az 10 rfl hg)) ((Az 11 rfl hg))),fun Az=>gFU (Az 9 rfl) fun hg=>aa (cn.move ((Az 12 rfl hg))),fun Az=>gN (Az 13 rfl) fun hg=>aa (ae [ca2,cb2] aw ((AA 9 rfl rfl)) ((aR.ext hA6 AB).cells 0 _ rfl rfl)),fun Az=>gN (Az 13 rfl) fun hg=>cX.call lC (aE ((Az 14 rfl hg))) (iZ _ _ _ _ ((ak.ext qi2 AB))),fun Az=>gN (Az 13 rfl) fun hg=>aa (cn.neq ((Az 15 rfl hg)) rfl),fun Az=>gF (Az 9 rfl) fun hg=>aa (aB (p:=((i:Nat):Int)≠((j:Nat):Int)) (q:=(((Sf.M i) j:Int).sign:Int)≠(0:Int)) ((Az 13 rfl).1 hg) (fun hq=>((fun hq=>Az 16 rfl ⟨hg,hq⟩) hq))),fun Az=>aa (cJ (p:=(((i:Nat):Int)=((j:Nat):Int))∧((bV ((Sf.M i) j) (1):Int)≠(0:Int))) (q:=(((i:Nat):Int)≠((j:Nat):Int))∧((((Sf.M i) j:Int).sign:Int)≠(0:Int))) (Az 9 rfl) (fun hq=>(Az 17 rfl hq))),trivial⟩) ?_;intro e3 w14 hx9 ho5 hf1;replace hA1:=aR.ext hA1 hx9;replace hA2:=aR.ext hA2 hx9;replace hA3:=aR.ext hA3 hx9;replace hG5:=aR.ext hG5 hx9;replace hXa1:=aG.trans hXa1 hx9;replace hXa2:=aG.trans hXa2 hx9;replace hX2:=aG.trans hX2 hx9;have s1_e3:=ho5 1 rfl s1_e2;have s2_e3:=ho5 2 rfl s2_e2;have s4_e3:=ho5 4 rfl s4_e2;have s5_e3:=ho5 5 rfl s5_e2;have s6_e3:=ho5 6 rfl s6_e2;have s17_e3:=ho5 17 rfl s17_e2;have s18_e3:=ho5 18 rfl s18_e2;have s19_e3:=ho5 19 rfl s19_e2;have s24_e3:=ho5 24 rfl s24_e2;have s25_e3:=ho5 25 rfl s25_e2;have s26_e3:=ho5 26 rfl s26_e2;have s49_e3:e3 49=_:=hf1 18 rfl;refine RL.nil ?_;refine af (((((i:Nat):Int)=((j:Nat):Int))∧((bV ((Sf.M i) j) (1):Int)≠(0:Int)))∨((((i:Nat):Int)≠((j:Nat):Int))∧((((Sf.M i) j:Int).sign:Int)≠(0:Int)))) s49_e3 (fun c49=> ?_) (fun c49=> ?_)
   ·
    refine ab ?_;refine RL.p rfl rfl (cn.build (vs:= []) [(0,1),(1,1),(2,1)] fU bo (kt) rfl) ?_;refine RL.x rfl rfl (cX.store [.int .i64 (0),.int .i64 (0),.slice (none) (0) (0)] bE s2_e3 rfl rfl hA2 (Nat.le_of_ble_eq_true rfl) (bG rfl rfl rfl)) ?_;rintro _ w15 ⟨hk4,hnew⟩;replace hX2:=hX2.step hk4 (fun b e=>by subst e;exact hbs2);replace hA2:=hnew.lit [.int .i64 (0),.int .i64 (0),.slice (none) (0) (0)] rfl;clear hnew;refine RL.p rfl rfl (cn.assign rfl) ?_;refine RL.nil ?_;refine WP.ret ?_;refine iM.ret ?_;refine pA.ret ?_;refine pA.ret ?_;refine iM.ret ?_;refine iM.ret ?_;refine pA.ret ?_;refine pA.ret ?_;refine iM.ret ?_;refine pA.ret ?_;refine ⟨.tuple #[.agg #[.int .i64 (0),.int .i64 (0),.slice (none) (0) (0)],.int .i64 (170)],cR (ag [.int .i64 (0),.int .i64 (0),.slice (none) (0) (0)] aM s2_e3 (hA2.cells 0 _ rfl rfl)) (fN.tmp rfl),_,rfl,hX2,?_⟩;dsimp only;exact ⟨kf,Sf,hHf,.inr ⟨fun h=>rG c49 (h.1 i j (by omega) (by omega)),rfl⟩⟩
   ·
    refine WP.skip ?_;refine iM.norm ?_;refine pA.norm ?_;refine WP.region ?_;refine RL.p rfl rfl (cn.add (c:=((j + 1:Nat):Int)) s26_e3 rfl (bA (by omega))) ?_;refine RL.p rfl rfl (cn.move rfl) ?_;refine RL.nil ?_;refine pA.norm ⟨_,(by omega),j + 1,rfl,s1_e3,s2_e3,s4_e3,s5_e3,s6_e3,s17_e3,s18_e3,s19_e3,s24_e3,s25_e3,rfl,(by omega),(gk hjd (ub c49)),hX2,hA1,hA2,hA3,hG5,hXa1,hXa2⟩
  ·
   refine WP.exit ?_;refine pA.exit ?_;refine pA.exit ?_;refine iM.same ?_;refine iM.norm ?_;refine pA.norm ?_;refine WP.region ?_;refine RL.p rfl rfl (cn.add (c:=((i + 1:Nat):Int)) s19_e2 rfl (bA (by omega))) ?_;refine RL.p rfl rfl (cn.move rfl) ?_;refine RL.nil ?_;refine pA.norm ⟨_,(by omega),i + 1,rfl,s1_e2,s2_e2,s4_e2,s5_e2,s17_e2,s18_e2,rfl,(by omega),(gk hid (fun e he=>hjd e (by omega))),hX2,hA1,hA2,hA3,hG5,hXa1⟩
 ·
  refine WP.exit ?_;refine pA.exit ?_;refine pA.exit ?_;refine iM.same ?_;refine pA.norm ?_;refine WP.seq ?_;refine ab ?_;refine RL.p rfl rfl (cn.fieldAddr aY s1_e1) ?_;refine RL.p rfl rfl (cn.load bO rfl (hA1.at_ (i:=0) rfl rfl)) ?_;refine RL.p rfl rfl (cn.fieldAddr bC s1_e1) ?_;refine RL.p rfl rfl (cn.load bO rfl (hA1.at_ (i:=1) rfl rfl)) ?_;refine RL.p rfl rfl (cn.gtr rfl rfl) ?_;refine RL.nil ?_;refine af (((cx:Nat):Int)<((rx:Nat):Int)) rfl (fun c57=> ?_) (fun c57=> ?_)
  ·
   refine ab ?_;refine RL.p rfl rfl (cn.build (vs:= []) [(0,1),(1,1),(2,1)] fU bo (kt) rfl) ?_;refine RL.x rfl rfl (cX.store [.int .i64 (0),.int .i64 (0),.slice (none) (0) (0)] bE s2_e1 rfl rfl hA2 (Nat.le_of_ble_eq_true rfl) (bG rfl rfl rfl)) ?_;rintro _ w16 ⟨hk5,hnew⟩;replace hX1:=hX1.step hk5 (fun b e=>by subst e;exact hbs2);replace hA2:=hnew.lit [.int .i64 (0),.int .i64 (0),.slice (none) (0) (0)] rfl;clear hnew;refine RL.p rfl rfl (cn.assign rfl) ?_;refine RL.nil ?_;refine WP.ret ?_;refine pA.ret ?_;refine ⟨.tuple #[.agg #[.int .i64 (0),.int .i64 (0),.slice (none) (0) (0)],.int .i64 (170)],cR (ag [.int .i64 (0),.int .i64 (0),.slice (none) (0) (0)] aM s2_e1 (hA2.cells 0 _ rfl rfl)) (fN.tmp rfl),_,rfl,hX1,?_⟩;dsimp only;exact ⟨kf,Sf,hHf,.inr ⟨fun h=>by have:=h.2;omega,rfl⟩⟩
  ·
   refine WP.skip ?_;refine pA.norm ?_;have hBw1:w.heap.size≤w10.heap.size:=hX1.size;refine aJ am 8 [_,_,fun v AC=>cz AC v w10.heap.size cx cx ((fun i j=>Sf.V j i)) b,_,_,_,_,_] rfl rfl (fun e_ w_ AB AA=>⟨fun _=>aa (cn.fieldAddr uU ((AA 5 rfl s5_e1))),fun Az=>aa (ae [.int .i64 ((cx:Nat)),.int .i64 ((cx:Nat)),s3] aM ((Az 0 rfl)) ((aR.ext hG5 AB).cells 6 _ rfl rfl)),fun Az=>cX.mono (cX.call wH (aE ((Az 1 rfl))) (jo _ _ _ _ _ _ (bf.mk (cE.ext (cE.ext hS3 hXa1) AB) (by omega) (by omega)))) fun v AD hv=>⟨hv.1,cz.low hv.2 AB.size⟩,fun _=>aa (cn.fieldAddr aY ((AA 1 rfl s1_e1))),fun Az=>aa (cn.load bO ((Az 3 rfl)) ((aR.ext hA1 AB).at_ (i:=0) rfl rfl)),fun _=>aa (cn.fieldAddr bC ((AA 1 rfl s1_e1))),fun Az=>aa (cn.load bO ((Az 5 rfl)) ((aR.ext hA1 AB).at_ (i:=1) rfl rfl)),fun Az=>cX.call wI (cO rfl ((Az 4 rfl)) ((Az 6 rfl))) (tE _ _ _ _ _ _ rx cx (cz.matV (Az 2 rfl)) (by omega) (by omega)),trivial⟩) ?_;intro e4 w17 hx10 ho6 hf2;replace hA2:=aR.ext hA2 hx10;replace hX1:=aG.trans hX1 hx10;have s2_e4:=ho6 2 rfl s2_e1;have s66_e4:bf w17 (e4 66) (cx - rx) cx ((fun a=>(fun i j=>Sf.V j i) (rx + a))) b:=hf2 7 rfl;obtain ⟨sv1,hq3,hr1,hc1,hS1⟩:=s66_e4.form;refine RL.x rfl rfl (cX.store [.int .i64 ((cx - rx:Nat)),.int .i64 ((cx:Nat)),sv1] bE s2_e4 hq3 rfl hA2 (Nat.le_of_ble_eq_true rfl) (bG rfl rfl hS1.one)) ?_;rintro _ w18 ⟨hk6,hnew⟩;replace hS1:=aD hS1 hk6 hA2 (by decide);replace hX1:=hX1.step hk6 (fun b e=>by subst e;exact hbs2);replace hA2:=hnew.lit [.int .i64 ((cx - rx:Nat)),.int .i64 ((cx:Nat)),sv1] rfl;clear hnew;refine RL.p rfl rfl (cn.assign rfl) ?_;refine RL.nil ?_;refine WP.ret ?_;refine ⟨.tuple #[.agg #[.int .i64 ((cx - rx:Nat)),.int .i64 ((cx:Nat)),sv1],.int .i64 (0)],cR (ag [.int .i64 ((cx - rx:Nat)),.int .i64 ((cx:Nat)),sv1] aM s2_e4 (hA2.cells 0 _ rfl rfl)) (fN.tmp rfl),_,rfl,hX1,?_⟩;dsimp only;exact ⟨kf,Sf,hHf,.inl ⟨fun a e ha he=>hid a (by omega) e he,by omega,_,rfl,(bf.mk hS1 (by omega) (by omega))⟩⟩
end Go.TL
namespace Go.TL
open Go.RowKit
set_option linter.unusedVariables false
section
variable {P:Program} {e:cA} {w:World} {d:Option Tmp} {ty:TypeId} {pos:String} {after:Array Edge} {gd:Option (Nat×Bool)}
theorem oA {t bb g1 c1 g gh m dd c b B:Nat} {x y:Operand} {v:Value} {z:Nat→Int} {M:Nat→Nat→Int} {ρ:Nat→Nat} (ht:sliceB P t 37 1 bb=true) (hb:bb≤32) (hz:(P.info? 37).bind (·.zero)=some (.slice none 0 0))
    (hx:ev e x= .slice (some ⟨gh,0,none⟩) dd m) (hy:ev e y= .slice (some ⟨g1,0,none⟩) 1 c1) (hM:cu w B gh m dd c ρ M b) (hT:aR w g1 37 1 (bt [v])) (hS:fe w v g c) (hR:cK w g c z b) (hzz:∀j,j<c→M dd j=z j) (hB:B≤g)
    (hBw:B≤w.heap.size) (hnew:∀i,i<dd→ρ i≠g) (hd:dd<65536):
    cX P ⟨d,.call {callee:= .builtin .append,args:= #[x,y],argTypes:= #[t,t]},ty,pos,after,gd⟩ e w
      (fun v' w'=>Keeps (fun b=>b=gh) w w'∧∃gh' m',v'= .slice (some ⟨gh',0,none⟩) (dd + 1) m'∧cu w' B gh' m' (dd + 1) c (cg ρ dd g) M b):=by
  have hne:=fun k (hk:k<dd)=>hM.ne hk
  have hnu:=hM.nu;obtain ⟨h1,h2,⟨h3,h3b,f,h6,h7⟩,h4,h5⟩:=hM;have hgne:g≠gh:=by
    obtain ⟨m',f',_,ha',_⟩:=hR;exact ha'.ne h6 (by decide)
  obtain ⟨kk,hvk,_,_⟩:=id hS;refine cX.mono (ge (n:=dd) (cap:=m) (kk:=1) (h:=fun _=>v) (f:=f) [.slice none 0 0] ht hb hz rfl rfl (by decide) hx hy (by rw [Nat.mul_one];exact h6) h3 h3b.1 (fun i hi=> ?_) (fun i hi=>hS.one) (by omega)) ?_
  · have:i=0:=by omega
    subst this;exact hT.cell (i:=0) (by decide)
  · rintro v' w' ⟨hk,gh',m',f',rfl,g5,g6,g7,g8,g9,g10⟩
    simp only [Nat.mul_one] at g8 g9 g10;refine ⟨hk,gh',m',rfl,?_,h2,⟨g5,⟨g6,by omega⟩,f',g8,fun i hi=> ?_⟩,fun i hi=> ?_,fun i j hi hj e=> ?_⟩
    · rcases g7 with g7 | g7
      · rw [g7.1];exact h1
      · omega
    · by_cases e:i=dd
      · subst e;rw [aW]
        have:=g10 0 (by decide);rw [Nat.add_zero] at this;rw [this];exact hS
      · rw [aV _ _ _ _ e,g9 i (by omega)];exact h7 i (by omega)
    · by_cases e:i=dd
      · subst e;rw [aW];exact ⟨hB,(hR.keep hk hgne hnu).congr fun j hj=>(hzz j hj).symm⟩
      · rw [aV _ _ _ _ e];exact ⟨(h4 i (by omega)).1,(h4 i (by omega)).2.keep hk (fun e2=>hne i (by omega) e2.symm) hnu⟩
    · by_cases e1:i=dd<;>by_cases e2:j=dd
      · omega
      · rw [e1,aW,aV _ _ _ _ e2] at e;exact absurd e.symm (hnew j (by omega))
      · rw [e2,aW,aV _ _ _ _ e1] at e;exact absurd e (hnew i (by omega))
      · rw [aV _ _ _ _ e1,aV _ _ _ _ e2] at e;exact h5 i j (by omega) (by omega) e
def uC (w:World) (v:Value) (B r c:Nat) (M:Nat→Nat→Int) (b:Nat):Prop:=∃gh k ρ,v= .slice (some ⟨gh,0,none⟩) r k∧cu w B gh k r c ρ M b
theorem uC.ext {w w':World} {v:Value} {B r c b:Nat} {M:Nat→Nat→Int} (h:uC w v B r c M b) (hx:aG w w'):uC w' v B r c M b:=by obtain ⟨gh,k,ρ,h1,h2⟩:=h;exact ⟨gh,k,ρ,h1,h2.ext hx⟩
theorem tp (B r c:Nat) (M:Nat→Nat→Int) (b:Nat):bD (fun v w=>uC w v B r c M b):=fun _ _ _ h hx=>h.ext hx
instance (B r c:Nat) (M:Nat→Nat→Int) (b:Nat):Nonempty (bD (fun v w=>uC w v B r c M b)):=⟨tp B r c M b⟩
theorem uC.hdrV {v:Value} {B r c b:Nat} {M:Nat→Nat→Int} (h:uC w v B r c M b):cE w v r c M b:=by obtain ⟨gh,k,ρ,rfl,h2⟩:=h;exact h2.hdrV h2.dlim.1 h2.dlim.2.1
theorem ln {t i ft B r c b:Nat} {x:Operand} {v:Value} {M:Nat→Nat→Int} (hf:gV P t i ft 2=true) (ho:fE P ft=true) (hx:ev e x=v) (hM:cz w v B r c M b):
    cX P ⟨d,.field t x i,ty,pos,after,gd⟩ e w (fun v' w'=>w=w'∧uC w' v' B r c M b):=by
  obtain ⟨gh,k',ρ,rfl,hMx⟩:=hM;refine cI (φ:=fun v' w'=>uC w' v' B r c M b) (v:= .slice (some ⟨gh,0,none⟩) r k') ?_ ⟨gh,k',ρ,rfl,hMx⟩
  unfold gV at hf
  split at hf
  · rename_i fs hs
    split at hf
    · rename_i fd hfd
      simp only [Bool.and_eq_true] at hf;have e1:=Nat.eq_of_beq_eq_true hf.1;have e2:=Nat.eq_of_beq_eq_true hf.2;subst e2;have hn:(isAgg fd.type).run P w= .ok false w:=by
        unfold fE at ho
        cases hu:P.underlying fd.type with
        | none=>rw [hu] at ho;cases ho
        | some dsc=>
          rw [hu] at ho;cases dsc<;>first | (simp at ho;done) | simp [isAgg,run_underlying hu]
      simp only [cn,execOp,hx,Instr.field,Sem.run_bind,run_underlying hs,Result.andThen_ok,hfd,asAgg,Sem.run_pure,part,hn,Bool.false_eq_true,if_false,e1]
      rfl
    · cases hf
  · cases hf
def eL (r:Nat) (M N:Nat→Nat→Int):Nat→Nat→Int:=fun i=>if i<r then M i else N (i - r)
theorem lp {t bb gh m r1 r2 c b B B2:Nat} {x y:Operand} {v:Value} {M M2:Nat→Nat→Int} {ρ:Nat→Nat} (ht:sliceB P t 37 1 bb=true) (hb:bb≤32) (hz:(P.info? 37).bind (·.zero)=some (.slice none 0 0))
    (hx:ev e x= .slice (some ⟨gh,0,none⟩) r1 m) (hy:ev e y=v) (hM:cu w B gh m r1 c ρ M b) (hH:uC w v B2 r2 c M2 b) (hgh:B2>gh) (h16:r1 + r2≤65536):
    cX P ⟨d,.call {callee:= .builtin .append,args:= #[x,y],argTypes:= #[t,t]},ty,pos,after,gd⟩ e w
      (fun v' w'=>Keeps (fun b=>b=gh) w w'∧cE w' v' (r1 + r2) c (eL r1 M M2) b):=by
  have hne:=fun k (hk:k<r1)=>hM.ne hk
  have hnu:=hM.nu;obtain ⟨h1,h2,⟨h3,h3b,f,h6,h7⟩,h4,h5⟩:=hM;obtain ⟨gh2,k2,ρ2,rfl,hM2⟩:=hH;have hne2:=fun k (hk:k<r2)=>hM2.ne hk
  obtain ⟨j1,j2,⟨j3,j3b,f2,j6,j7⟩,j4,j5⟩:=hM2;refine cX.mono (ge (n:=r1) (cap:=m) (kk:=r2) (h:=f2) (f:=f) [.slice none 0 0] ht hb hz rfl rfl (by decide) hx hy (by rw [Nat.mul_one];exact h6) h3 h3b.1 (fun i hi=>by rw [Nat.zero_add];exact j6.cell (by omega)) (fun i hi=>(j7 i (by omega)).one) (by omega)) ?_;rintro v' w' ⟨hk,gh',m',f',rfl,g5,g6,g7,g8,g9,g10⟩;simp only [Nat.mul_one] at g8 g9 g10;refine ⟨hk,_,_,rfl,g5,⟨g6,h16,h2.2⟩,fun _=>⟨gh',0,m',f',rfl,by omega,g8,fun i hi=> ?_⟩⟩;rw [Nat.zero_add]
  unfold eL
  by_cases e:i<r1
  · rw [if_pos e,g9 i e]
    exact (h7 i e).rowV ((h4 i e).2.keep hk (fun e2=>hne i e e2.symm) hnu)
  · rw [if_neg e]
    have:=g10 (i - r1) (by omega);rw [show r1 + (i - r1)=i by omega] at this;rw [this];refine (j7 (i - r1) (by omega)).rowV ((j4 (i - r1) (by omega)).2.keep hk (fun e2=> ?_) hnu);have:=(j4 (i - r1) (by omega)).1;omega
theorem cE.cells1 {v:Value} {n c b:Nat} {M:Nat→Nat→Int} (h:cE w v n c M b):v.cells= [v].toArray:=by obtain ⟨A,k,rfl,_⟩:=h;rfl
theorem cV.cells1 {v:Value} {n b:Nat} {z:Nat→Int} (h:cV w v n z b):v.cells= [v].toArray:=by obtain ⟨A,k,rfl,_⟩:=h;rfl
end
theorem qP (M:Nat→Nat→Int) (i j:Nat):fg M i j (M i j)=M:=by
  funext a c;unfold fg;split
  · rename_i h;rw [h.1,h.2]
  · rfl
theorem iW (F:Nat→Nat→Int):(fun _ _=>0)=cC F 0 0:=by funext a c;rw [kw]
theorem tf (F:Nat→Nat→Int) (i j:Nat):cC F i j i j=0:=by unfold cC;rw [if_neg (by omega)]
def xa (n:Nat):Nat→Nat→Int:=fun a c=>if a<n∧a=c then 1 else 0
theorem vU:(fun _ _=>0)=xa 0:=by funext a c;unfold xa;rw [if_neg (by omega)]
theorem vT (i:Nat):fg (xa i) i i 1=xa (i + 1):=by
  funext a c;unfold fg xa
  by_cases h:a=i∧c=i
  · rw [if_pos h,if_pos (by omega)]
  · rw [if_neg h]
    by_cases h2:a<i∧a=c
    · rw [if_pos h2,if_pos (by omega)]
    · rw [if_neg h2,if_neg (by omega)]
theorem vV {n a:Nat} (c:Nat) (h:a<n):xa n a c=bH a c:=by unfold xa bH;by_cases e:a=c<;>simp [e,h];omega
theorem uO (F:Nat→Nat→Int):(fun _ _=>0)=fS (cC F 0 0):=by funext a c;unfold fS;rw [kw]
theorem uN (F:Nat→Nat→Int) (i j:Nat):fg (fS (cC F i j)) j i (F i j)=fS (cC F i (j + 1)):=by
  rw [←fk]
  funext a c;unfold fS fg
  by_cases h:a=j∧c=i
  · rw [if_pos h,if_pos ⟨h.2,h.1⟩]
  · rw [if_neg h,if_neg (fun h2=>h ⟨h2.2,h2.1⟩)]
theorem mul_zero (F:Nat→Nat→Int) (i j:Nat):cC F i j=fg (cC F i j) i j 0:=by
  have:=qP (cC F i j) i j;rw [tf] at this;exact this.symm
theorem uC.up {w:World} {v:Value} {B r c b b':Nat} {M:Nat→Nat→Int} (h:uC w v B r c M b) (hb:b≤b') (hl:b'≤aZ):uC w v B r c M b':=by
  obtain ⟨gh,k,ρ,h1,h2⟩:=h;exact ⟨gh,k,ρ,h1,h2.up hb hl⟩
def fR (f:Nat→Int) (n c:Nat):Nat→Nat→Int:=fun i j=>if i*c + j<n then (f (i*c + j)).tmod 10 else 0
def fo (f:Nat→Int) (n c:Nat):Nat→Nat→Int:=fun i j=>if i*c + j<n then f (i*c + j) else 0
theorem sf (x:Int):(x.tmod 10).natAbs<10:=by rw [Int.natAbs_tmod];exact Nat.mod_lt _ (by decide)
theorem oP (x:Int): -9223372036854775808≤x.tmod 10∧x.tmod 10<9223372036854775808:=by have:=sf x;omega
theorem ww (x:Int):(x.tmod 10).natAbs<2^4:=by have:=sf x;omega
theorem oe (f:Nat→Int) (n c i j:Nat):(fR f n c i j).natAbs<2^4:=by
  unfold fR;split
  · exact ww _
  · decide
theorem tT {f:Nat→Int} {n c i j:Nat} (h:i*c + j<n):(f (i*c + j)).tmod 10=fR f n c i j:=by unfold fR;rw [if_pos h]
theorem tG {f:Nat→Int} {n c i j:Nat} (h:i*c + j<n):f (i*c + j)=fo f n c i j:=by unfold fo;rw [if_pos h]
theorem tu {r c r' c':Nat} {M M':Nat→Nat→Int} (h:¬(r=r'∧c=c')):decide (eS r c r' c' M M')=false:=decide_eq_false fun e=>h ⟨e.1,e.2.1⟩
theorem tv {r c r' c' i:Nat} {M M':Nat→Nat→Int} (hi:i<r) (h:¬dl c c' (M i) (M' i)):decide (eS r c r' c' M M')=false:=
  decide_eq_false fun e=>h ⟨e.2.1,fun j hj=>e.2.2 i hi j hj⟩
theorem rp {r c r' c':Nat} {M M':Nat→Nat→Int} (h:r=r'∧c=c') (he:∀i,i<r→dl c c' (M i) (M' i)):decide (eS r c r' c' M M')=true:=
  decide_eq_true ⟨h.1,h.2,fun i hi j hj=>(he i hi).2 j hj⟩
theorem tH {f:Nat→Int} {n b:Nat} (h:∀i,i<n→(f i).natAbs<2^b) (c i j:Nat):(fo f n c i j).natAbs<2^b:=by
  unfold fo;split
  · rename_i h1;exact h _ h1
  · exact Nat.pow_pos (by decide)
theorem zX (x k:Nat):((x:Nat):Int).tmod ((k:Nat):Int)=((x % k:Nat):Int):=rfl
theorem lL {F:Nat→Nat→Int} {i j n:Nat} (h:∀c,j≤c→c<n→F i c=0) {a c:Nat} (hc:c<n):cC F i j a c=cC F (i + 1) 0 a c:=by
  unfold cC
  by_cases h1:a<i
  · rw [if_pos (by omega),if_pos (by omega)]
  · by_cases h2:a=i
    · subst h2
      by_cases h3:c<j
      · rw [if_pos (by omega),if_pos (by omega)]
      · rw [if_neg (by omega),if_pos (by omega),h c (by omega) hc]
    · rw [if_neg (by omega),if_neg (by omega)]
def fw (k:IntKind) (T:Nat) (w:World) (v:Value) (n:Nat) (f:Nat→Int):Prop:=∃A c,v= .slice A n c∧n≤c∧c<9223372036854775808∧(0<n→∃g o,A=some ⟨g,o,none⟩∧∀i,i<n→w.cell? ⟨g,o + i,none⟩=some (.int k (f i)))
theorem fw.ext {k:IntKind} {T:Nat} {w w':World} {v:Value} {n:Nat} {f:Nat→Int} (h:fw k T w v n f) (hx:aG w w'):fw k T w' v n f:=by
  obtain ⟨A,c,h1,h2,h3,h4⟩:=h;exact ⟨A,c,h1,h2,h3,fun hn=>by obtain ⟨g,o,hA,hc⟩:=h4 hn;exact ⟨g,o,hA,fun i hi=>aG.cell (hc i hi) hx⟩⟩
instance (k:IntKind) (T n:Nat) (f:Nat→Int):Nonempty (bD (fun v w=>fw k T w v n f)):=⟨fun _ _ _ h hx=>fw.ext h hx⟩
def gL (k:IntKind) (w:World) (v:Value) (x:Int):Prop:=∃g o,v= .pointer (some ⟨g,o,none⟩)∧w.cell? ⟨g,o,none⟩=some (.int k x)
theorem gL.ext {k:IntKind} {w w':World} {v:Value} {x:Int} (h:gL k w v x) (hx:aG w w'):gL k w' v x:=by obtain ⟨g,o,h1,h2⟩:=h;exact ⟨g,o,h1,aG.cell h2 hx⟩
theorem re (k:IntKind) (x:Int):bD (fun v w=>gL k w v x):=fun _ _ _ h hx=>h.ext hx
instance (k:IntKind) (x:Int):Nonempty (bD (fun v w=>gL k w v x)):=⟨re k x⟩
section
variable {P:Program} {e:cA} {w:World} {d:Option Tmp} {ty:TypeId} {pos:String} {after:Array Edge} {gd:Option (Nat×Bool)}
theorem iJ {k:IntKind} {T t n j m:Nat} {x ix:Operand} {v:Value} {f:Nat→Int} {i:Int} {k2:IntKind} (ht:sliceB P t T 1 m=true) (hx:ev e x=v) (hN:fw k T w v n f) (hi:ev e ix= .int k2 i) (hij:i=(j:Int)) (hj:j<n):
    cX P ⟨d,.indexAddr t x ix,ty,pos,after,gd⟩ e w (fun v' w'=>w=w'∧gL k w' v' (f j)):=by
  obtain ⟨A,c,rfl,h2,h3,h4⟩:=hN;obtain ⟨g,o,rfl,hc⟩:=h4 (by omega);refine cI (φ:=fun v' w'=>gL k w' v' (f j)) (cn.index (j:=j) ht hx hi rfl hij hj) ⟨g,_,rfl,?_⟩;rw [Nat.mul_one];exact hc j hj
theorem dH {k:IntKind} {t:Nat} {x:Operand} {v:Value} {q:Int} (ht:fE P t=true) (hx:ev e x=v) (hP:gL k w v q):cn P ⟨d,.load t x,ty,pos,after,gd⟩ e w (.int k q):=by
  obtain ⟨g,o,rfl,hc⟩:=hP;exact cn.load ht hx hc
theorem kU {k:IntKind} {T t n m:Nat} {x:Operand} {v:Value} {f:Nat→Int} (ht:sliceB P t T 1 m=true) (hx:ev e x=v) (hN:fw k T w v n f):
    cn P ⟨d,.call {callee:= .builtin .len,args:= #[x],argTypes:= #[t]},ty,pos,after,gd⟩ e w (.int .i64 (n:Nat)):=by
  obtain ⟨A,c,rfl,h2,h3,h4⟩:=hN;exact cn.len ht hx
end
end Go.TL
namespace Go.TL
open Go.RowKit
set_option linter.unusedVariables false
def ll (w:World) (g cap n:Nat) (z:Nat→Int) (b:Nat):Prop:=
  (n≤cap∧cap<9223372036854775808∧b≤aZ∧n≤65536)∧∃f,aR w g 51 (cap*2) f∧∀j,j<n→ak w (.agg #[f (2*j),f (2*j + 1)]) (z j) b
section
variable {w w':World} {g cap n b:Nat} {z:Nat→Int}
theorem ll.lt (h:ll w g cap n z b):g<w.heap.size:=by obtain ⟨_,f,ha,_⟩:=h;exact ha.lt
theorem ll.keep {S:Nat→Prop} (h:ll w g cap n z b) (hk:Keeps S w w') (hg:¬S g) (hs:∀k m f,S k→¬aR w k 90 m f):ll w' g cap n z b:=by
  obtain ⟨h1,f,ha,hf⟩:=h;exact ⟨h1,f,ha.keep hk hg,fun j hj=>(hf j hj).keep hk hs⟩
theorem ll.ext (h:ll w g cap n z b) (hx:aG w w'):ll w' g cap n z b:=h.keep (hx.keeps (fun _=>False)) id fun _ _ _ hf=>hf.elim
theorem ll.rowB (h:ll w g cap n z b):cK w g n z b:=by
  obtain ⟨h1,f,ha,hf⟩:=h;exact ⟨cap*2,f,⟨by omega,h1.2.2.1⟩,ha,hf⟩
theorem ll.rowV (h:ll w g cap n z b):cV w (.slice (some ⟨g,0,none⟩) n cap) n z b:=h.rowB.rowV h.1.1 ⟨h.1.2.1,h.1.2.2.2⟩
theorem ll.congr {z':Nat→Int} (h:ll w g cap n z b) (he:∀j,j<n→z j=z' j):ll w g cap n z' b:=by
  obtain ⟨h1,f,ha,hf⟩:=h;exact ⟨h1,f,ha,fun j hj=>he j hj▸hf j hj⟩
theorem ll.born {f:Nat→Value} (ha:aR w g 51 0 f) (z:Nat→Int) (hb:b≤aZ):ll w g 0 0 z b:=
  ⟨⟨Nat.le_refl _,by decide,hb,by decide⟩,f,ha,fun j hj=>absurd hj (by omega)⟩
end
theorem cK.up {w:World} {g n b b':Nat} {z:Nat→Int} (h:cK w g n z b) (hb:b≤b') (hl:b'≤aZ):cK w g n z b':=by
  obtain ⟨m,f,h1,h2,h3⟩:=h;exact ⟨m,f,⟨h1.1,hl⟩,h2,fun j hj=>(h3 j hj).up hb hl⟩
theorem cV.bd {w:World} {v:Value} {n b:Nat} {z:Nat→Int} (h:cV w v n z b):∀j,j<n→(z j).natAbs<2^b:=by
  intro j hj;obtain ⟨A,k,h1,h2,h3,h4⟩:=h;obtain ⟨g,_,m,f,_,_,hf⟩:=h4 (by omega);exact (hf j hj).2.1
theorem cE.bd {w:World} {v:Value} {n c b:Nat} {M:Nat→Nat→Int} (h:cE w v n c M b):∀i j,i<n→j<c→(M i j).natAbs<2^b:=by
  intro i j hi hj;obtain ⟨A,k,h1,h2,h3,h4⟩:=h;obtain ⟨g,o,m,f,_,_,_,hf⟩:=h4 (by omega);exact (hf i hi).bd j hj
end Go.TL
namespace Go.TL
open Go.RowKit Go.Proofs
set_option linter.unusedVariables false
set_option linter.unusedSimpArgs false
set_option maxRecDepth 10000 in
theorem kd (w:World) (r:Nat) (c:Nat) (b:Nat) (hr:r≤65536) (hc:c≤65536) (hb:b≤aZ):Calls Tryz.prog 27 #[.int .i64 (r:Nat),.int .i64 (c:Nat)] w (cb w fun v w'=>cz w' v w.heap.size r c (fun _ _=>0) b):=by
 have hLIM:aZ=562949953421312:=rfl;refine aj (N:=22) (rs:= #[.cell 4 28]) Tryz.func27 rfl rfl rfl (Nat.le_of_ble_eq_true rfl) ?_;have hX:aG w w:=aG.refl w;refine ab ?_;refine RL.x rfl rfl (cX.alloc [.int .i64 (0),.int .i64 (0),.slice (none) (0) (0)] bo rfl) ?_;rintro _ w1 ⟨g1,rfl,hge1,hx1,hA1⟩;have hbs1:w.heap.size≤g1:=Nat.le_trans hX.size hge1;replace hX:=aG.trans hX hx1;refine RL.nil ?_;refine ab ?_;refine RL.x rfl rfl (dY aF) ?_;rintro _ w2 ⟨g2,rfl,hge2,hx2,hA2⟩;have hbs2:w.heap.size≤g2:=Nat.le_trans hX.size hge2;replace hA1:=aR.ext hA1 hx2;replace hX:=aG.trans hX hx2;replace hA2:=cu.born (c:=c) hA2 hbs2 (by decide) (by omega) (fun _ _=>0) (b) (by omega);refine RL.p rfl rfl (cn.assign rfl) ?_;refine RL.nil ?_;refine WP.seq ?_;refine ab ?_;refine RL.p rfl rfl (cn.assign rfl) ?_;refine RL.nil ?_;refine WP.block ?_;refine WP.loop (fun mz ez uz=>∃i:Nat,∃gh:Nat,∃kh:Nat,∃ρ:Nat→Nat,(mz=r - i)∧(ez 0= .int .i64 ((r:Nat)))∧(ez 1= .int .i64 ((c:Nat)))∧(ez 4= .pointer (some ⟨g1,0,none⟩))∧(ez 5= .slice (some ⟨gh,0,none⟩) (i) (kh))∧(ez 6= .int .i64 ((i:Nat)))∧(i≤r)∧(w.heap.size≤gh)∧(aG w uz)∧(aR uz g1 28 3 (bt [.int .i64 (0),.int .i64 (0),.slice (none) (0) (0)]))∧(cu uz w.heap.size gh kh i c ρ (fun _ _=>0) b)) (r - 0) ?_ ?_
 · exact ⟨0,_,_,_,rfl,rfl,rfl,rfl,rfl,rfl,(by omega),hbs2,hX,hA1,hA2⟩
 rintro m1 e1 w3 ⟨i,gh,kh,ρ,hm1,s0_e1,s1_e1,s4_e1,s5_e1,s6_e1,hi,hgh,hX1,hA1,hA2⟩;have hdl:=cu.dlim hA2;refine WP.seq ?_;refine ab ?_;refine RL.p rfl rfl (cn.move s6_e1) ?_;refine RL.p rfl rfl (cn.move s0_e1) ?_;refine RL.p rfl rfl (cn.lss rfl rfl) ?_;refine RL.nil ?_;refine af (((i:Nat):Int)<((r:Nat):Int)) rfl (fun c10=> ?_) (fun c10=> ?_)
 ·
  refine WP.skip ?_;refine pA.norm ?_;refine WP.seq ?_;refine WP.block ?_;refine WP.region ?_;refine RL.p rfl rfl (cn.move s5_e1) ?_;refine RL.p rfl rfl (cn.move s1_e1) ?_;refine RL.x rfl rfl (cS (c) [.bool (false),.slice (none) (0) (0)] be bq rfl rfl rfl (by omega) (by omega) (by omega) (by omega) (by decide)) ?_;rintro _ w4 ⟨g3,rfl,hge3,hx3,hA3⟩;have ne3:∀ii,ii<i→ρ ii≠g3:=fun ii hi=>Nat.ne_of_lt (Nat.lt_of_lt_of_le (cu.rowlt hA2 hi) hge3)
  have hbs3:w.heap.size≤g3:=Nat.le_trans hX1.size hge3;replace hA1:=aR.ext hA1 hx3;replace hA2:=cu.ext hA2 hx3;replace hX1:=aG.trans hX1 hx3;replace hA3:=kQ hA3 (b) (by omega);refine RL.x rfl rfl (cX.buildSlice (vs:= [(0,.slice (some ⟨g3,0,none⟩) (c) (c))]) [.slice (none) (0) (0)] [.slice (some ⟨g3,0,none⟩) (c) (c)] aF pO rfl (eN rfl) rfl (by decide) uK rfl) ?_;rintro _ w5 ⟨g4,rfl,hge4,hx4,hA4⟩;replace hA1:=aR.ext hA1 hx4;replace hA2:=cu.ext hA2 hx4;replace hA3:=cK.ext hA3 hx4;replace hX1:=aG.trans hX1 hx4;refine RL.x rfl rfl (oA aF (by decide) pO rfl rfl hA2 hA4 (Ab _ _ _ _ (Nat.le_refl _) (by omega)) hA3 (fun j hj=>rfl) hbs3 hX1.size ne3 (by omega)) ?_;rintro _ w6 ⟨hk1,gh1,km1,rfl,hN1⟩;replace hA1:=fr hA1 hk1 hA2 (by decide);replace hX1:=hX1.step hk1 (fun b e=>by subst e;exact hgh);have hbs5:w.heap.size≤gh1:=hN1.1;refine RL.p rfl rfl (cn.assign rfl) ?_;refine RL.nil ?_;refine iM.norm ?_;refine pA.norm ?_;refine WP.region ?_;refine RL.p rfl rfl (cn.move s6_e1) ?_;refine RL.p rfl rfl (cn.add (c:=((i + 1:Nat):Int)) rfl rfl (bA (by omega))) ?_;refine RL.p rfl rfl (cn.assign rfl) ?_;refine RL.nil ?_;refine pA.norm ⟨_,(by omega),i + 1,_,_,_,rfl,s0_e1,s1_e1,s4_e1,rfl,rfl,(by omega),hbs5,hX1,hA1,hN1⟩
 ·
  refine WP.exit ?_;refine pA.exit ?_;refine pA.exit ?_;refine iM.same ?_;refine pA.norm ?_;refine ab ?_;refine RL.p rfl rfl (cn.move s0_e1) ?_;refine RL.p rfl rfl (cn.move s1_e1) ?_;refine RL.p rfl rfl (cn.move s5_e1) ?_;refine RL.p rfl rfl (cn.build (vs:= [(0,.int .i64 ((r:Nat))),(1,.int .i64 ((c:Nat))),(2,.slice (some ⟨gh,0,none⟩) (i) (kh))]) [(0,1),(1,1),(2,1)] fU bo (fa rfl rfl rfl) rfl) ?_;refine RL.x rfl rfl (cX.store [.int .i64 ((r:Nat)),.int .i64 ((c:Nat)),.slice (some ⟨gh,0,none⟩) (i) (kh)] bE s4_e1 rfl rfl hA1 (Nat.le_of_ble_eq_true rfl) (bG rfl rfl rfl)) ?_;rintro _ w7 ⟨hk2,hnew⟩;replace hA2:=bc hA2 hk2 hA1 (by decide);replace hX1:=hX1.step hk2 (fun b e=>by subst e;exact hbs1);replace hA1:=hnew.lit [.int .i64 ((r:Nat)),.int .i64 ((c:Nat)),.slice (some ⟨gh,0,none⟩) (i) (kh)] rfl;clear hnew;refine RL.nil ?_;refine WP.ret ?_;refine ⟨.agg #[.int .i64 ((r:Nat)),.int .i64 ((c:Nat)),.slice (some ⟨gh,0,none⟩) (i) (kh)],zP.one (ag [.int .i64 ((r:Nat)),.int .i64 ((c:Nat)),.slice (some ⟨gh,0,none⟩) (i) (kh)] aM s4_e1 (hA1.cells 0 _ rfl rfl)),_,rfl,hX1,?_⟩;dsimp only;have hir:i=r:=by omega
  subst hir;exact ⟨_,_,_,rfl,hA2⟩
set_option maxRecDepth 10000 in
theorem vd (w:World) (x:Value) (rx cx:Nat) (Mx:Nat→Nat→Int) (btx:Nat) (k:Value) (zk:Int) (btk:Nat) (hx:bf w x rx cx Mx btx) (hk:ak w k zk btk) (hb:btx + btk≤aZ):Calls Tryz.prog 87 #[x,k] w (cb w fun v w'=>cz w' v w.heap.size rx cx (fun i j=>Mx i j*zk) (btx + btk)):=by
 have hLIM:aZ=562949953421312:=rfl;have hmatx:=hx;obtain ⟨sx,rfl,hrx,hcx,hSx⟩:=hx.form;refine aj (N:=43) (rs:= #[.cell 4 28]) Tryz.func87 rfl rfl rfl (Nat.le_of_ble_eq_true rfl) ?_;have hX:aG w w:=aG.refl w;refine ab ?_;refine RL.x rfl rfl (cX.box [.int .i64 ((rx:Nat)),.int .i64 ((cx:Nat)),sx] rfl rfl) ?_;rintro _ w1 ⟨g1,rfl,hge1,hx1,hA1⟩;replace hX:=aG.trans hX hx1;obtain ⟨ca1,cb1,hq1,ho1,ho2⟩:=ak.cells (ak.ext hk hX);have qi1:ak w1 (.agg #[ca1,cb1]) zk btk:=hq1▸(ak.ext hk hX);refine RL.x rfl rfl (cX.box [ca1,cb1] hq1 rfl) ?_;rintro _ w2 ⟨g2,rfl,hge2,hx2,hA2⟩;replace hA1:=aR.ext hA1 hx2;replace qi1:=ak.ext qi1 hx2;replace hX:=aG.trans hX hx2;refine RL.x rfl rfl (cX.alloc [.int .i64 (0),.int .i64 (0),.slice (none) (0) (0)] bo rfl) ?_;rintro _ w3 ⟨g3,rfl,hge3,hx3,hA3⟩;have hbs3:w.heap.size≤g3:=Nat.le_trans hX.size hge3;replace hA1:=aR.ext hA1 hx3;replace qi1:=ak.ext qi1 hx3;replace hA2:=aR.ext hA2 hx3;replace hX:=aG.trans hX hx3;refine RL.nil ?_;refine ab ?_;refine RL.p rfl rfl (cn.fieldAddr aY rfl) ?_;refine RL.p rfl rfl (cn.load bO rfl (hA1.at_ (i:=0) rfl rfl)) ?_;refine RL.p rfl rfl (cn.fieldAddr bC rfl) ?_;refine RL.p rfl rfl (cn.load bO rfl (hA1.at_ (i:=1) rfl rfl)) ?_;have hBw1:w.heap.size≤w3.heap.size:=hX.size;have hlt1:g2<w3.heap.size:=hA2.lt;refine RL.x rfl rfl (cX.call jU (aA rfl rfl) (kd _ rx cx (btx + btk) (by omega) (by omega) (by omega))) ?_;rintro v1 w4 ⟨hx4,q1⟩;replace hA1:=aR.ext hA1 hx4;replace qi1:=ak.ext qi1 hx4;replace hA2:=aR.ext hA2 hx4;replace hA3:=aR.ext hA3 hx4;replace hX:=aG.trans hX hx4;refine RL.x rfl rfl (cX.alloc [.int .i64 (0),.int .i64 (0),.slice (none) (0) (0)] bo rfl) ?_;rintro _ w5 ⟨g4,rfl,hge4,hx5,hA4⟩;have ne4:g1≠g4:=Nat.ne_of_lt (Nat.lt_of_lt_of_le hA1.lt hge4);have ne5:g2≠g4:=Nat.ne_of_lt (Nat.lt_of_lt_of_le hA2.lt hge4);have ne6:g3≠g4:=Nat.ne_of_lt (Nat.lt_of_lt_of_le hA3.lt hge4);have hbs4:w.heap.size≤g4:=Nat.le_trans hX.size hge4;replace hA1:=aR.ext hA1 hx5;replace qi1:=ak.ext qi1 hx5;replace hA2:=aR.ext hA2 hx5;replace hA3:=aR.ext hA3 hx5;replace q1:=cz.ext q1 hx5;replace hX:=aG.trans hX hx5;obtain ⟨gh1,kh1,ρ1,hq2,hM1⟩:=q1;have hd1:=cu.dlim hM1;have hd2:=cu.clim hM1;have ne7:∀ii,ii<rx→ρ1 ii≠g2:=fun ii hi e=>by have:=cu.rowB hM1 hi;omega
 refine RL.x rfl rfl (cX.store [.int .i64 ((rx:Nat)),.int .i64 ((cx:Nat)),.slice (some ⟨gh1,0,none⟩) (rx) (kh1)] bE rfl hq2 rfl hA4 (Nat.le_of_ble_eq_true rfl) (bG rfl rfl rfl)) ?_;rintro _ w6 ⟨hk1,hnew⟩;replace hM1:=bc hM1 hk1 hA4 (by decide);replace hA1:=hA1.keep hk1 ne4;replace qi1:=ac qi1 hk1 hA4 (by decide);replace hA2:=hA2.keep hk1 ne5;replace hA3:=hA3.keep hk1 ne6;replace hX:=hX.step hk1 (fun b e=>by subst e;exact hbs4);replace hA4:=hnew.lit [.int .i64 ((rx:Nat)),.int .i64 ((cx:Nat)),.slice (some ⟨gh1,0,none⟩) (rx) (kh1)] rfl;clear hnew;refine RL.nil ?_;refine WP.seq ?_;refine ab ?_;refine RL.p rfl rfl (cn.assign rfl) ?_;refine RL.nil ?_;refine WP.block ?_;refine WP.loop (fun mz ez uz=>∃i:Nat,(mz=rx - i)∧(ez 2= .pointer (some ⟨g1,0,none⟩))∧(ez 3= .pointer (some ⟨g2,0,none⟩))∧(ez 4= .pointer (some ⟨g3,0,none⟩))∧(ez 5= .pointer (some ⟨g4,0,none⟩))∧(ez 6= .int .i64 ((i:Nat)))∧(i≤rx)∧(aG w uz)∧(aR uz g1 28 3 (bt [.int .i64 ((rx:Nat)),.int .i64 ((cx:Nat)),sx]))∧(ak uz (.agg #[ca1,cb1]:Value) zk btk)∧(aR uz g2 51 2 (bt [ca1,cb1]))∧(aR uz g3 28 3 (bt [.int .i64 (0),.int .i64 (0),.slice (none) (0) (0)]))∧(aR uz g4 28 3 (bt [.int .i64 ((rx:Nat)),.int .i64 ((cx:Nat)),.slice (some ⟨gh1,0,none⟩) (rx) (kh1)]))∧(cu uz w3.heap.size gh1 kh1 rx cx ρ1 (cC (fun i j=>Mx i j*zk) i 0) (btx + btk))) (rx - 0) ?_ ?_
 · exact ⟨0,rfl,rfl,rfl,rfl,rfl,rfl,(by omega),hX,hA1,qi1,hA2,hA3,hA4,bh hM1 (iW (fun i j=>Mx i j*zk))⟩
 rintro m1 e1 w7 ⟨i,hm1,s2_e1,s3_e1,s4_e1,s5_e1,s6_e1,hi,hX1,hA1,qi1,hA2,hA3,hA4,hM1⟩;refine WP.seq ?_;refine ab ?_;refine RL.p rfl rfl (cn.move s6_e1) ?_;refine RL.p rfl rfl (cn.fieldAddr aY s2_e1) ?_;refine RL.p rfl rfl (cn.load bO rfl (hA1.at_ (i:=0) rfl rfl)) ?_;refine RL.p rfl rfl (cn.lss rfl rfl) ?_;refine RL.nil ?_;refine af (((i:Nat):Int)<((rx:Nat):Int)) rfl (fun c16=> ?_) (fun c16=> ?_)
 ·
  refine WP.skip ?_;refine pA.norm ?_;refine WP.seq ?_;refine WP.block ?_;refine ab ?_;refine RL.p rfl rfl (cn.assign rfl) ?_;refine RL.nil ?_;refine WP.block ?_;refine WP.loop (fun mz ez uz=>∃j:Nat,(mz=cx - j)∧(ez 2= .pointer (some ⟨g1,0,none⟩))∧(ez 3= .pointer (some ⟨g2,0,none⟩))∧(ez 4= .pointer (some ⟨g3,0,none⟩))∧(ez 5= .pointer (some ⟨g4,0,none⟩))∧(ez 6= .int .i64 ((i:Nat)))∧(ez 7= .int .i64 ((j:Nat)))∧(j≤cx)∧(aG w uz)∧(aR uz g1 28 3 (bt [.int .i64 ((rx:Nat)),.int .i64 ((cx:Nat)),sx]))∧(ak uz (.agg #[ca1,cb1]:Value) zk btk)∧(aR uz g2 51 2 (bt [ca1,cb1]))∧(aR uz g3 28 3 (bt [.int .i64 (0),.int .i64 (0),.slice (none) (0) (0)]))∧(aR uz g4 28 3 (bt [.int .i64 ((rx:Nat)),.int .i64 ((cx:Nat)),.slice (some ⟨gh1,0,none⟩) (rx) (kh1)]))∧(cu uz w3.heap.size gh1 kh1 rx cx ρ1 (cC (fun i j=>Mx i j*zk) i j) (btx + btk))) (cx - 0) ?_ ?_
  · exact ⟨0,rfl,s2_e1,s3_e1,s4_e1,s5_e1,s6_e1,rfl,(by omega),hX1,hA1,qi1,hA2,hA3,hA4,hM1⟩
  rintro m2 e2 w8 ⟨j,hm2,s2_e2,s3_e2,s4_e2,s5_e2,s6_e2,s7_e2,hj,hX2,hA1,qi1,hA2,hA3,hA4,hM1⟩;refine WP.seq ?_;refine ab ?_;refine RL.p rfl rfl (cn.move s7_e2) ?_;refine RL.p rfl rfl (cn.fieldAddr bC s2_e2) ?_;refine RL.p rfl rfl (cn.load bO rfl (hA1.at_ (i:=1) rfl rfl)) ?_;refine RL.p rfl rfl (cn.lss rfl rfl) ?_;refine RL.nil ?_;refine af (((j:Nat):Int)<((cx:Nat):Int)) rfl (fun c22=> ?_) (fun c22=> ?_)
  ·
   refine WP.skip ?_;refine pA.norm ?_;refine WP.seq ?_;refine WP.block ?_;refine WP.ds am 17 [_,_,_,_,_,_,_,_,_,_,_,_,_,_,_,_,_] rfl rfl (fun e_ w_ AB AA=>⟨fun _=>aa (cn.fieldAddr au ((AA 5 rfl s5_e2))),fun Az=>aa (cn.load aK ((Az 0 rfl)) ((aR.ext hA4 AB).at_ (i:=2) rfl rfl)),fun _=>aa (cn.move ((AA 6 rfl s6_e2))),fun Az=>aa (cn.index (j:=i) aF ((Az 1 rfl)) ((Az 2 rfl)) rfl (by omega) (by omega)),fun Az=>ai (al (i:=i) aU (Az 3 rfl) (cu.ext hM1 AB) (by omega)),fun _=>aa (cn.move ((AA 7 rfl s7_e2))),fun _=>aa (cn.fieldAddr au ((AA 2 rfl s2_e2))),fun Az=>aa (cn.load aK ((Az 6 rfl)) ((aR.ext hA1 AB).at_ (i:=2) rfl rfl)),fun _=>aa (cn.move ((AA 6 rfl s6_e2))),fun Az=>ai (bK (j:=i) aF (Az 7 rfl) (cE.ext (cE.ext hSx hX2) AB) (Az 8 rfl) (by omega) (by omega)),fun Az=>ai (bQ aU rfl (Az 9 rfl)),fun _=>aa (cn.move ((AA 7 rfl s7_e2))),fun Az=>ai (bU (j:=j) be rfl (Az 10 rfl) (Az 11 rfl) (by omega) (by omega)),fun Az=>ai (bZ aw rfl (Az 12 rfl)),fun _=>aa (ae [ca1,cb1] aw ((AA 3 rfl s3_e2)) ((aR.ext hA2 AB).cells 0 _ rfl rfl)),fun Az=>cX.call jQ (aA rfl ((Az 14 rfl))) (kg _ _ _ _ _ _ _ ((btx) + (btk)) ((Az 13 rfl)) ((ak.ext qi1 AB)) (by omega) (by omega)),fun Az=>aa (av (j:=j) be (Az 4 rfl) rfl (Az 5 rfl) (by omega) (by omega)),trivial⟩) ?_;intro e3 w9 hx6 ho3 hf1;replace hA1:=aR.ext hA1 hx6;replace qi1:=ak.ext qi1 hx6;replace hA2:=aR.ext hA2 hx6;replace hA3:=aR.ext hA3 hx6;replace hA4:=aR.ext hA4 hx6;replace hM1:=cu.ext hM1 hx6;replace hX2:=aG.trans hX2 hx6;have s2_e3:=ho3 2 rfl s2_e2;have s3_e3:=ho3 3 rfl s3_e2;have s4_e3:=ho3 4 rfl s4_e2;have s5_e3:=ho3 5 rfl s5_e2;have s6_e3:=ho3 6 rfl s6_e2;have s7_e3:=ho3 7 rfl s7_e2;have s40_e3:ak w9 (e3 40) (((Mx i) j:Int)*(zk:Int)) ((btx) + (btk)):=hf1 15 rfl;have s41_e3:e3 41=_:=hf1 16 rfl;refine RL.x rfl rfl (br (i:=i) (j:=j) aL s41_e3 rfl s40_e3 hM1 (by omega) (by omega)) ?_;rintro _ w10 ⟨hk2,hN1⟩;have hR1:=cu.row (i:=i) hM1 (by omega);replace hA1:=aX hA1 hk2 hR1 (by decide);replace qi1:=bN qi1 hk2 hR1;replace hA2:=hA2.keep hk2 (Ne.symm (ne7 i (by omega)));replace hA3:=aX hA3 hk2 hR1 (by decide);replace hA4:=aX hA4 hk2 hR1 (by decide);replace hX2:=hX2.step hk2 (fun b e=>by subst e;exact (Nat.le_trans hBw1 (cu.rowB (i:=i) hM1 (by omega))));replace hM1:=hN1;clear hR1;refine RL.nil ?_;refine iM.norm ?_;refine pA.norm ?_;refine WP.region ?_;refine RL.p rfl rfl (cn.move s7_e3) ?_;refine RL.p rfl rfl (cn.add (c:=((j + 1:Nat):Int)) rfl rfl (bA (by omega))) ?_;refine RL.p rfl rfl (cn.assign rfl) ?_;refine RL.nil ?_;refine pA.norm ⟨_,(by omega),j + 1,rfl,s2_e3,s3_e3,s4_e3,s5_e3,s6_e3,rfl,(by omega),hX2,hA1,qi1,hA2,hA3,hA4,bh hM1 (fk (fun i j=>Mx i j*zk) i j)⟩
  ·
   refine WP.exit ?_;refine pA.exit ?_;refine pA.exit ?_;refine iM.same ?_;refine iM.norm ?_;refine pA.norm ?_;refine WP.region ?_;refine RL.p rfl rfl (cn.move s6_e2) ?_;refine RL.p rfl rfl (cn.add (c:=((i + 1:Nat):Int)) rfl rfl (bA (by omega))) ?_;refine RL.p rfl rfl (cn.assign rfl) ?_;refine RL.nil ?_;refine pA.norm ⟨_,(by omega),i + 1,rfl,s2_e2,s3_e2,s4_e2,s5_e2,rfl,(by omega),hX2,hA1,qi1,hA2,hA3,hA4,cu.congr hM1 fun a c2 ha hc2=>iV _ i (by omega)⟩
 ·
  refine WP.exit ?_;refine pA.exit ?_;refine pA.exit ?_;refine iM.same ?_;refine pA.norm ?_;refine ab ?_;refine RL.p rfl rfl (ae [.int .i64 ((rx:Nat)),.int .i64 ((cx:Nat)),.slice (some ⟨gh1,0,none⟩) (rx) (kh1)] aM s5_e1 (hA4.cells 0 _ rfl rfl)) ?_;refine RL.x rfl rfl (cX.store [.int .i64 ((rx:Nat)),.int .i64 ((cx:Nat)),.slice (some ⟨gh1,0,none⟩) (rx) (kh1)] bE s4_e1 rfl rfl hA3 (Nat.le_of_ble_eq_true rfl) (bG rfl rfl rfl)) ?_;rintro _ w11 ⟨hk3,hnew⟩;replace hM1:=bc hM1 hk3 hA3 (by decide);replace hX1:=hX1.step hk3 (fun b e=>by subst e;exact hbs3);replace hA3:=hnew.lit [.int .i64 ((rx:Nat)),.int .i64 ((cx:Nat)),.slice (some ⟨gh1,0,none⟩) (rx) (kh1)] rfl;clear hnew;refine RL.nil ?_;refine WP.ret ?_;refine ⟨.agg #[.int .i64 ((rx:Nat)),.int .i64 ((cx:Nat)),.slice (some ⟨gh1,0,none⟩) (rx) (kh1)],zP.one (ag [.int .i64 ((rx:Nat)),.int .i64 ((cx:Nat)),.slice (some ⟨gh1,0,none⟩) (rx) (kh1)] aM s4_e1 (hA3.cells 0 _ rfl rfl)),_,rfl,hX1,?_⟩;dsimp only;exact ⟨_,_,_,rfl,cu.congr (cu.low hM1 hBw1) fun a c2 ha hc2=>by rw [show i=rx by omega];exact eO _ c2 ha⟩
set_option maxRecDepth 10000 in
theorem kl (w:World) (x:Value) (rx cx:Nat) (Mx:Nat→Nat→Int) (btx:Nat) (hx:bf w x rx cx Mx btx) (hb:btx + 1≤aZ):Calls Tryz.prog 52 #[x] w (cb w fun v w'=>cz w' v w.heap.size rx cx Mx (btx + 1)):=by
 have hLIM:aZ=562949953421312:=rfl;have hmatx:=hx;obtain ⟨sx,rfl,hrx,hcx,hSx⟩:=hx.form;refine aj (N:=6) (rs:= #[.cell 2 28]) Tryz.func52 rfl rfl rfl (Nat.le_of_ble_eq_true rfl) ?_;have hX:aG w w:=aG.refl w;refine ab ?_;refine RL.x rfl rfl (cX.box [.int .i64 ((rx:Nat)),.int .i64 ((cx:Nat)),sx] rfl rfl) ?_;rintro _ w1 ⟨g1,rfl,hge1,hx1,hA1⟩;replace hX:=aG.trans hX hx1;refine RL.x rfl rfl (cX.alloc [.int .i64 (0),.int .i64 (0),.slice (none) (0) (0)] bo rfl) ?_;rintro _ w2 ⟨g2,rfl,hge2,hx2,hA2⟩;have hbs2:w.heap.size≤g2:=Nat.le_trans hX.size hge2;replace hA1:=aR.ext hA1 hx2;replace hX:=aG.trans hX hx2;refine RL.nil ?_;have hBw1:w.heap.size≤w2.heap.size:=hX.size;refine aJ am 3 [_,_,fun v AC=>cz AC v w2.heap.size rx cx ((fun i j=>Mx i j*1)) (btx + 1)] rfl rfl (fun e_ w_ AB AA=>⟨fun _=>aa (ae [.int .i64 ((rx:Nat)),.int .i64 ((cx:Nat)),sx] aM ((AA 1 rfl rfl)) ((aR.ext hA1 AB).cells 0 _ rfl rfl)),fun _=>cX.call jR (aE rfl) (pc (1) (1) _ (by decide) (by decide) (by decide)),fun Az=>cX.mono (cX.call yO (aA ((Az 0 rfl)) rfl) (vd _ _ _ _ _ _ _ _ _ (bf.mk (cE.ext (cE.ext hSx hX) AB) (by omega) (by omega)) (Az 1 rfl) (by omega))) fun v AD hv=>⟨hv.1,cz.low hv.2 AB.size⟩,trivial⟩) ?_;intro e1 w3 hx3 ho1 hf1;replace hA2:=aR.ext hA2 hx3;replace hX:=aG.trans hX hx3;have s2_e1:e1 2=_:=ho1 2 rfl rfl;have s5_e1:cz w3 (e1 5) w2.heap.size rx cx ((fun i j=>Mx i j*1)) (btx + 1):=hf1 2 rfl;obtain ⟨gh1,kh1,ρ1,hq1,hM1⟩:=s5_e1;have hd1:=cu.dlim hM1;have hd2:=cu.clim hM1;refine RL.x rfl rfl (cX.store [.int .i64 ((rx:Nat)),.int .i64 ((cx:Nat)),.slice (some ⟨gh1,0,none⟩) (rx) (kh1)] bE s2_e1 hq1 rfl hA2 (Nat.le_of_ble_eq_true rfl) (bG rfl rfl rfl)) ?_;rintro _ w4 ⟨hk1,hnew⟩;replace hM1:=bc hM1 hk1 hA2 (by decide);replace hX:=hX.step hk1 (fun b e=>by subst e;exact hbs2);replace hA2:=hnew.lit [.int .i64 ((rx:Nat)),.int .i64 ((cx:Nat)),.slice (some ⟨gh1,0,none⟩) (rx) (kh1)] rfl;clear hnew;refine RL.nil ?_;refine WP.ret ?_;refine ⟨.agg #[.int .i64 ((rx:Nat)),.int .i64 ((cx:Nat)),.slice (some ⟨gh1,0,none⟩) (rx) (kh1)],zP.one (ag [.int .i64 ((rx:Nat)),.int .i64 ((cx:Nat)),.slice (some ⟨gh1,0,none⟩) (rx) (kh1)] aM s2_e1 (hA2.cells 0 _ rfl rfl)),_,rfl,hX,?_⟩;dsimp only;exact cz.congr (⟨_,_,_,rfl,cu.low hM1 (hBw1)⟩) (fun i j _ _=>Int.mul_one _)
end Go.TL
namespace Go.TL
open Go.RowKit Go.Proofs
set_option linter.unusedVariables false
set_option linter.unusedSimpArgs false
set_option maxRecDepth 10000 in
theorem eM (w:World) (n:Nat) (hn:n≤65536):Calls Tryz.prog 32 #[.int .i64 (n:Nat)] w (cb w fun v w'=>cz w' v w.heap.size n n bH 1):=by
 have hLIM:aZ=562949953421312:=rfl;refine aj (N:=22) (rs:= #[.cell 2 28]) Tryz.func32 rfl rfl rfl (Nat.le_of_ble_eq_true rfl) ?_;have hX:aG w w:=aG.refl w;refine ab ?_;refine RL.x rfl rfl (cX.alloc [.int .i64 (0),.int .i64 (0),.slice (none) (0) (0)] bo rfl) ?_;rintro _ w1 ⟨g1,rfl,hge1,hx1,hA1⟩;have hbs1:w.heap.size≤g1:=Nat.le_trans hX.size hge1;replace hX:=aG.trans hX hx1;refine RL.nil ?_;refine ab ?_;refine RL.p rfl rfl (cn.move rfl) ?_;refine RL.p rfl rfl (cn.move rfl) ?_;have hBw1:w.heap.size≤w1.heap.size:=hX.size;refine RL.x rfl rfl (cX.call jU (aA rfl rfl) (kd _ n n 1 (by omega) (by omega) (by omega))) ?_;rintro v1 w2 ⟨hx2,q1⟩;replace hA1:=aR.ext hA1 hx2;replace hX:=aG.trans hX hx2;refine RL.x rfl rfl (cX.alloc [.int .i64 (0),.int .i64 (0),.slice (none) (0) (0)] bo rfl) ?_;rintro _ w3 ⟨g2,rfl,hge2,hx3,hA2⟩;have ne1:g1≠g2:=Nat.ne_of_lt (Nat.lt_of_lt_of_le hA1.lt hge2);have hbs2:w.heap.size≤g2:=Nat.le_trans hX.size hge2;replace hA1:=aR.ext hA1 hx3;replace q1:=cz.ext q1 hx3;replace hX:=aG.trans hX hx3;obtain ⟨gh1,kh1,ρ1,hq1,hM1⟩:=q1;have hd1:=cu.dlim hM1;have hd2:=cu.clim hM1;refine RL.x rfl rfl (cX.store [.int .i64 ((n:Nat)),.int .i64 ((n:Nat)),.slice (some ⟨gh1,0,none⟩) (n) (kh1)] bE rfl hq1 rfl hA2 (Nat.le_of_ble_eq_true rfl) (bG rfl rfl rfl)) ?_;rintro _ w4 ⟨hk1,hnew⟩;replace hM1:=bc hM1 hk1 hA2 (by decide);replace hA1:=hA1.keep hk1 ne1;replace hX:=hX.step hk1 (fun b e=>by subst e;exact hbs2);replace hA2:=hnew.lit [.int .i64 ((n:Nat)),.int .i64 ((n:Nat)),.slice (some ⟨gh1,0,none⟩) (n) (kh1)] rfl;clear hnew;refine RL.nil ?_;refine WP.seq ?_;refine ab ?_;refine RL.p rfl rfl (cn.assign rfl) ?_;refine RL.nil ?_;refine WP.block ?_;refine WP.loop (fun mz ez uz=>∃i:Nat,(mz=n - i)∧(ez 0= .int .i64 ((n:Nat)))∧(ez 2= .pointer (some ⟨g1,0,none⟩))∧(ez 3= .pointer (some ⟨g2,0,none⟩))∧(ez 4= .int .i64 ((i:Nat)))∧(i≤n)∧(aG w uz)∧(aR uz g1 28 3 (bt [.int .i64 (0),.int .i64 (0),.slice (none) (0) (0)]))∧(aR uz g2 28 3 (bt [.int .i64 ((n:Nat)),.int .i64 ((n:Nat)),.slice (some ⟨gh1,0,none⟩) (n) (kh1)]))∧(cu uz w1.heap.size gh1 kh1 n n ρ1 (xa i) 1)) (n - 0) ?_ ?_
 · exact ⟨0,rfl,rfl,rfl,rfl,rfl,(by omega),hX,hA1,hA2,bh hM1 vU⟩
 rintro m1 e1 w5 ⟨i,hm1,s0_e1,s2_e1,s3_e1,s4_e1,hi,hX1,hA1,hA2,hM1⟩;refine WP.seq ?_;refine ab ?_;refine RL.p rfl rfl (cn.move s4_e1) ?_;refine RL.p rfl rfl (cn.move s0_e1) ?_;refine RL.p rfl rfl (cn.lss rfl rfl) ?_;refine RL.nil ?_;refine af (((i:Nat):Int)<((n:Nat):Int)) rfl (fun c10=> ?_) (fun c10=> ?_)
 ·
  refine WP.skip ?_;refine pA.norm ?_;refine WP.seq ?_;refine WP.block ?_;refine WP.ds am 8 [_,_,_,_,_,_,_,_] rfl rfl (fun e_ w_ AB AA=>⟨fun _=>aa (cn.fieldAddr au ((AA 3 rfl s3_e1))),fun Az=>aa (cn.load aK ((Az 0 rfl)) ((aR.ext hA2 AB).at_ (i:=2) rfl rfl)),fun _=>aa (cn.move ((AA 4 rfl s4_e1))),fun Az=>aa (cn.index (j:=i) aF ((Az 1 rfl)) ((Az 2 rfl)) rfl (by omega) (by omega)),fun Az=>ai (al (i:=i) aU (Az 3 rfl) (cu.ext hM1 AB) (by omega)),fun _=>aa (cn.move ((AA 4 rfl s4_e1))),fun _=>cX.call jR (aE rfl) (pc (1) (1) _ (by decide) (by decide) (by decide)),fun Az=>aa (av (j:=i) be (Az 4 rfl) rfl (Az 5 rfl) (by omega) (by omega)),trivial⟩) ?_;intro e2 w6 hx4 ho1 hf1;replace hA1:=aR.ext hA1 hx4;replace hA2:=aR.ext hA2 hx4;replace hM1:=cu.ext hM1 hx4;replace hX1:=aG.trans hX1 hx4;have s0_e2:=ho1 0 rfl s0_e1;have s2_e2:=ho1 2 rfl s2_e1;have s3_e2:=ho1 3 rfl s3_e1;have s4_e2:=ho1 4 rfl s4_e1;have s19_e2:ak w6 (e2 19) 1 1:=hf1 6 rfl;have s20_e2:e2 20=_:=hf1 7 rfl;refine RL.x rfl rfl (br (i:=i) (j:=i) aL s20_e2 rfl s19_e2 hM1 (by omega) (by omega)) ?_;rintro _ w7 ⟨hk2,hN1⟩;have hR1:=cu.row (i:=i) hM1 (by omega);replace hA1:=aX hA1 hk2 hR1 (by decide);replace hA2:=aX hA2 hk2 hR1 (by decide);replace hX1:=hX1.step hk2 (fun b e=>by subst e;exact (Nat.le_trans hBw1 (cu.rowB (i:=i) hM1 (by omega))));replace hM1:=hN1;clear hR1;refine RL.nil ?_;refine iM.norm ?_;refine pA.norm ?_;refine WP.region ?_;refine RL.p rfl rfl (cn.move s4_e2) ?_;refine RL.p rfl rfl (cn.add (c:=((i + 1:Nat):Int)) rfl rfl (bA (by omega))) ?_;refine RL.p rfl rfl (cn.assign rfl) ?_;refine RL.nil ?_;refine pA.norm ⟨_,(by omega),i + 1,rfl,s0_e2,s2_e2,s3_e2,rfl,(by omega),hX1,hA1,hA2,bh hM1 (vT i)⟩
 ·
  refine WP.exit ?_;refine pA.exit ?_;refine pA.exit ?_;refine iM.same ?_;refine pA.norm ?_;refine ab ?_;refine RL.p rfl rfl (ae [.int .i64 ((n:Nat)),.int .i64 ((n:Nat)),.slice (some ⟨gh1,0,none⟩) (n) (kh1)] aM s3_e1 (hA2.cells 0 _ rfl rfl)) ?_;refine RL.x rfl rfl (cX.store [.int .i64 ((n:Nat)),.int .i64 ((n:Nat)),.slice (some ⟨gh1,0,none⟩) (n) (kh1)] bE s2_e1 rfl rfl hA1 (Nat.le_of_ble_eq_true rfl) (bG rfl rfl rfl)) ?_;rintro _ w8 ⟨hk3,hnew⟩;replace hM1:=bc hM1 hk3 hA1 (by decide);replace hX1:=hX1.step hk3 (fun b e=>by subst e;exact hbs1);replace hA1:=hnew.lit [.int .i64 ((n:Nat)),.int .i64 ((n:Nat)),.slice (some ⟨gh1,0,none⟩) (n) (kh1)] rfl;clear hnew;refine RL.nil ?_;refine WP.ret ?_;refine ⟨.agg #[.int .i64 ((n:Nat)),.int .i64 ((n:Nat)),.slice (some ⟨gh1,0,none⟩) (n) (kh1)],zP.one (ag [.int .i64 ((n:Nat)),.int .i64 ((n:Nat)),.slice (some ⟨gh1,0,none⟩) (n) (kh1)] aM s2_e1 (hA1.cells 0 _ rfl rfl)),_,rfl,hX1,?_⟩;dsimp only;exact ⟨_,_,_,rfl,cu.congr (cu.low hM1 hBw1) fun a c2 ha hc2=>vV c2 (by omega)⟩
set_option maxRecDepth 10000 in
theorem jl (w:World) (x:Value) (rx cx:Nat) (Mx:Nat→Nat→Int) (btx:Nat) (hx:bf w x rx cx Mx btx):Calls Tryz.prog 35 #[x] w (cb w fun v w'=>cz w' v w.heap.size cx rx (fS Mx) btx):=by
 have hLIM:aZ=562949953421312:=rfl;have hmatx:=hx;obtain ⟨sx,rfl,hrx,hcx,hSx⟩:=hx.form;refine aj (N:=39) (rs:= #[.cell 2 28]) Tryz.func35 rfl rfl rfl (Nat.le_of_ble_eq_true rfl) ?_;have hX:aG w w:=aG.refl w;refine ab ?_;refine RL.x rfl rfl (cX.box [.int .i64 ((rx:Nat)),.int .i64 ((cx:Nat)),sx] rfl rfl) ?_;rintro _ w1 ⟨g1,rfl,hge1,hx1,hA1⟩;replace hX:=aG.trans hX hx1;refine RL.x rfl rfl (cX.alloc [.int .i64 (0),.int .i64 (0),.slice (none) (0) (0)] bo rfl) ?_;rintro _ w2 ⟨g2,rfl,hge2,hx2,hA2⟩;have hbs2:w.heap.size≤g2:=Nat.le_trans hX.size hge2;replace hA1:=aR.ext hA1 hx2;replace hX:=aG.trans hX hx2;refine RL.nil ?_;refine ab ?_;refine RL.p rfl rfl (cn.fieldAddr bC rfl) ?_;refine RL.p rfl rfl (cn.load bO rfl (hA1.at_ (i:=1) rfl rfl)) ?_;refine RL.p rfl rfl (cn.fieldAddr aY rfl) ?_;refine RL.p rfl rfl (cn.load bO rfl (hA1.at_ (i:=0) rfl rfl)) ?_;have hBw1:w.heap.size≤w2.heap.size:=hX.size;refine RL.x rfl rfl (cX.call jU (aA rfl rfl) (kd _ cx rx btx (by omega) (by omega) (by omega))) ?_;rintro v1 w3 ⟨hx3,q1⟩;replace hA1:=aR.ext hA1 hx3;replace hA2:=aR.ext hA2 hx3;replace hX:=aG.trans hX hx3;refine RL.x rfl rfl (cX.alloc [.int .i64 (0),.int .i64 (0),.slice (none) (0) (0)] bo rfl) ?_;rintro _ w4 ⟨g3,rfl,hge3,hx4,hA3⟩;have ne2:g1≠g3:=Nat.ne_of_lt (Nat.lt_of_lt_of_le hA1.lt hge3);have ne3:g2≠g3:=Nat.ne_of_lt (Nat.lt_of_lt_of_le hA2.lt hge3);have hbs3:w.heap.size≤g3:=Nat.le_trans hX.size hge3;replace hA1:=aR.ext hA1 hx4;replace hA2:=aR.ext hA2 hx4;replace q1:=cz.ext q1 hx4;replace hX:=aG.trans hX hx4;obtain ⟨gh1,kh1,ρ1,hq1,hM1⟩:=q1;have hd1:=cu.dlim hM1;have hd2:=cu.clim hM1;refine RL.x rfl rfl (cX.store [.int .i64 ((cx:Nat)),.int .i64 ((rx:Nat)),.slice (some ⟨gh1,0,none⟩) (cx) (kh1)] bE rfl hq1 rfl hA3 (Nat.le_of_ble_eq_true rfl) (bG rfl rfl rfl)) ?_;rintro _ w5 ⟨hk1,hnew⟩;replace hM1:=bc hM1 hk1 hA3 (by decide);replace hA1:=hA1.keep hk1 ne2;replace hA2:=hA2.keep hk1 ne3;replace hX:=hX.step hk1 (fun b e=>by subst e;exact hbs3);replace hA3:=hnew.lit [.int .i64 ((cx:Nat)),.int .i64 ((rx:Nat)),.slice (some ⟨gh1,0,none⟩) (cx) (kh1)] rfl;clear hnew;refine RL.nil ?_;refine WP.seq ?_;refine ab ?_;refine RL.p rfl rfl (cn.assign rfl) ?_;refine RL.nil ?_;refine WP.block ?_;refine WP.loop (fun mz ez uz=>∃i:Nat,(mz=rx - i)∧(ez 1= .pointer (some ⟨g1,0,none⟩))∧(ez 2= .pointer (some ⟨g2,0,none⟩))∧(ez 3= .pointer (some ⟨g3,0,none⟩))∧(ez 4= .int .i64 ((i:Nat)))∧(i≤rx)∧(aG w uz)∧(aR uz g1 28 3 (bt [.int .i64 ((rx:Nat)),.int .i64 ((cx:Nat)),sx]))∧(aR uz g2 28 3 (bt [.int .i64 (0),.int .i64 (0),.slice (none) (0) (0)]))∧(aR uz g3 28 3 (bt [.int .i64 ((cx:Nat)),.int .i64 ((rx:Nat)),.slice (some ⟨gh1,0,none⟩) (cx) (kh1)]))∧(cu uz w2.heap.size gh1 kh1 cx rx ρ1 (fS (cC Mx i 0)) btx)) (rx - 0) ?_ ?_
 · exact ⟨0,rfl,rfl,rfl,rfl,rfl,(by omega),hX,hA1,hA2,hA3,bh hM1 (uO Mx)⟩
 rintro m1 e1 w6 ⟨i,hm1,s1_e1,s2_e1,s3_e1,s4_e1,hi,hX1,hA1,hA2,hA3,hM1⟩;refine WP.seq ?_;refine ab ?_;refine RL.p rfl rfl (cn.move s4_e1) ?_;refine RL.p rfl rfl (cn.fieldAddr aY s1_e1) ?_;refine RL.p rfl rfl (cn.load bO rfl (hA1.at_ (i:=0) rfl rfl)) ?_;refine RL.p rfl rfl (cn.lss rfl rfl) ?_;refine RL.nil ?_;refine af (((i:Nat):Int)<((rx:Nat):Int)) rfl (fun c14=> ?_) (fun c14=> ?_)
 ·
  refine WP.skip ?_;refine pA.norm ?_;refine WP.seq ?_;refine WP.block ?_;refine ab ?_;refine RL.p rfl rfl (cn.assign rfl) ?_;refine RL.nil ?_;refine WP.block ?_;refine WP.loop (fun mz ez uz=>∃j:Nat,(mz=cx - j)∧(ez 1= .pointer (some ⟨g1,0,none⟩))∧(ez 2= .pointer (some ⟨g2,0,none⟩))∧(ez 3= .pointer (some ⟨g3,0,none⟩))∧(ez 4= .int .i64 ((i:Nat)))∧(ez 5= .int .i64 ((j:Nat)))∧(j≤cx)∧(aG w uz)∧(aR uz g1 28 3 (bt [.int .i64 ((rx:Nat)),.int .i64 ((cx:Nat)),sx]))∧(aR uz g2 28 3 (bt [.int .i64 (0),.int .i64 (0),.slice (none) (0) (0)]))∧(aR uz g3 28 3 (bt [.int .i64 ((cx:Nat)),.int .i64 ((rx:Nat)),.slice (some ⟨gh1,0,none⟩) (cx) (kh1)]))∧(cu uz w2.heap.size gh1 kh1 cx rx ρ1 (fS (cC Mx i j)) btx)) (cx - 0) ?_ ?_
  · exact ⟨0,rfl,s1_e1,s2_e1,s3_e1,s4_e1,rfl,(by omega),hX1,hA1,hA2,hA3,hM1⟩
  rintro m2 e2 w7 ⟨j,hm2,s1_e2,s2_e2,s3_e2,s4_e2,s5_e2,hj,hX2,hA1,hA2,hA3,hM1⟩;refine WP.seq ?_;refine ab ?_;refine RL.p rfl rfl (cn.move s5_e2) ?_;refine RL.p rfl rfl (cn.fieldAddr bC s1_e2) ?_;refine RL.p rfl rfl (cn.load bO rfl (hA1.at_ (i:=1) rfl rfl)) ?_;refine RL.p rfl rfl (cn.lss rfl rfl) ?_;refine RL.nil ?_;refine af (((j:Nat):Int)<((cx:Nat):Int)) rfl (fun c20=> ?_) (fun c20=> ?_)
  ·
   refine WP.skip ?_;refine pA.norm ?_;refine WP.seq ?_;refine WP.block ?_;refine WP.ds am 15 [_,_,_,_,_,_,_,_,_,_,_,_,_,_,_] rfl rfl (fun e_ w_ AB AA=>⟨fun _=>aa (cn.fieldAddr au ((AA 3 rfl s3_e2))),fun Az=>aa (cn.load aK ((Az 0 rfl)) ((aR.ext hA3 AB).at_ (i:=2) rfl rfl)),fun _=>aa (cn.move ((AA 5 rfl s5_e2))),fun Az=>aa (cn.index (j:=j) aF ((Az 1 rfl)) ((Az 2 rfl)) rfl (by omega) (by omega)),fun Az=>ai (al (i:=j) aU (Az 3 rfl) (cu.ext hM1 AB) (by omega)),fun _=>aa (cn.move ((AA 4 rfl s4_e2))),fun _=>aa (cn.fieldAddr au ((AA 1 rfl s1_e2))),fun Az=>aa (cn.load aK ((Az 6 rfl)) ((aR.ext hA1 AB).at_ (i:=2) rfl rfl)),fun _=>aa (cn.move ((AA 4 rfl s4_e2))),fun Az=>ai (bK (j:=i) aF (Az 7 rfl) (cE.ext (cE.ext hSx hX2) AB) (Az 8 rfl) (by omega) (by omega)),fun Az=>ai (bQ aU rfl (Az 9 rfl)),fun _=>aa (cn.move ((AA 5 rfl s5_e2))),fun Az=>ai (bU (j:=j) be rfl (Az 10 rfl) (Az 11 rfl) (by omega) (by omega)),fun Az=>ai (bZ aw rfl (Az 12 rfl)),fun Az=>aa (av (j:=i) be (Az 4 rfl) rfl (Az 5 rfl) (by omega) (by omega)),trivial⟩) ?_;intro e3 w8 hx5 ho1 hf1;replace hA1:=aR.ext hA1 hx5;replace hA2:=aR.ext hA2 hx5;replace hA3:=aR.ext hA3 hx5;replace hM1:=cu.ext hM1 hx5;replace hX2:=aG.trans hX2 hx5;have s1_e3:=ho1 1 rfl s1_e2;have s2_e3:=ho1 2 rfl s2_e2;have s3_e3:=ho1 3 rfl s3_e2;have s4_e3:=ho1 4 rfl s4_e2;have s5_e3:=ho1 5 rfl s5_e2;have s36_e3:ak w8 (e3 36) ((Mx i) j) btx:=hf1 13 rfl;have s37_e3:e3 37=_:=hf1 14 rfl;refine RL.x rfl rfl (br (i:=j) (j:=i) aL s37_e3 rfl s36_e3 hM1 (by omega) (by omega)) ?_;rintro _ w9 ⟨hk2,hN1⟩;have hR1:=cu.row (i:=j) hM1 (by omega);replace hA1:=aX hA1 hk2 hR1 (by decide);replace hA2:=aX hA2 hk2 hR1 (by decide);replace hA3:=aX hA3 hk2 hR1 (by decide);replace hX2:=hX2.step hk2 (fun b e=>by subst e;exact (Nat.le_trans hBw1 (cu.rowB (i:=j) hM1 (by omega))));replace hM1:=hN1;clear hR1;refine RL.nil ?_;refine iM.norm ?_;refine pA.norm ?_;refine WP.region ?_;refine RL.p rfl rfl (cn.move s5_e3) ?_;refine RL.p rfl rfl (cn.add (c:=((j + 1:Nat):Int)) rfl rfl (bA (by omega))) ?_;refine RL.p rfl rfl (cn.assign rfl) ?_;refine RL.nil ?_;refine pA.norm ⟨_,(by omega),j + 1,rfl,s1_e3,s2_e3,s3_e3,s4_e3,rfl,(by omega),hX2,hA1,hA2,hA3,bh hM1 (uN Mx i j)⟩
  ·
   refine WP.exit ?_;refine pA.exit ?_;refine pA.exit ?_;refine iM.same ?_;refine iM.norm ?_;refine pA.norm ?_;refine WP.region ?_;refine RL.p rfl rfl (cn.move s4_e2) ?_;refine RL.p rfl rfl (cn.add (c:=((i + 1:Nat):Int)) rfl rfl (bA (by omega))) ?_;refine RL.p rfl rfl (cn.assign rfl) ?_;refine RL.nil ?_;refine pA.norm ⟨_,(by omega),i + 1,rfl,s1_e2,s2_e2,s3_e2,rfl,(by omega),hX2,hA1,hA2,hA3,cu.congr hM1 fun a c2 ha hc2=>iV _ i (by omega)⟩
 ·
  refine WP.exit ?_;refine pA.exit ?_;refine pA.exit ?_;refine iM.same ?_;refine pA.norm ?_;refine ab ?_;refine RL.p rfl rfl (ae [.int .i64 ((cx:Nat)),.int .i64 ((rx:Nat)),.slice (some ⟨gh1,0,none⟩) (cx) (kh1)] aM s3_e1 (hA3.cells 0 _ rfl rfl)) ?_;refine RL.x rfl rfl (cX.store [.int .i64 ((cx:Nat)),.int .i64 ((rx:Nat)),.slice (some ⟨gh1,0,none⟩) (cx) (kh1)] bE s2_e1 rfl rfl hA2 (Nat.le_of_ble_eq_true rfl) (bG rfl rfl rfl)) ?_;rintro _ w10 ⟨hk3,hnew⟩;replace hM1:=bc hM1 hk3 hA2 (by decide);replace hX1:=hX1.step hk3 (fun b e=>by subst e;exact hbs2);replace hA2:=hnew.lit [.int .i64 ((cx:Nat)),.int .i64 ((rx:Nat)),.slice (some ⟨gh1,0,none⟩) (cx) (kh1)] rfl;clear hnew;refine RL.nil ?_;refine WP.ret ?_;refine ⟨.agg #[.int .i64 ((cx:Nat)),.int .i64 ((rx:Nat)),.slice (some ⟨gh1,0,none⟩) (cx) (kh1)],zP.one (ag [.int .i64 ((cx:Nat)),.int .i64 ((rx:Nat)),.slice (some ⟨gh1,0,none⟩) (cx) (kh1)] aM s2_e1 (hA2.cells 0 _ rfl rfl)),_,rfl,hX1,?_⟩;dsimp only;exact ⟨_,_,_,rfl,cu.congr (cu.low hM1 hBw1) fun a c2 ha hc2=>by rw [show i=rx by omega];exact eO _ a hc2⟩
end Go.TL
namespace Go.TL
open Go.RowKit Go.Proofs
set_option linter.unusedVariables false
set_option linter.unusedSimpArgs false
set_option maxRecDepth 10000 in
theorem vc (w:World) (x:Value) (rx cx:Nat) (Mx:Nat→Nat→Int) (btx:Nat) (y:Value) (ry:Nat) (My:Nat→Nat→Int) (bty:Nat) (b:Nat) (hx:bf w x rx cx Mx btx) (hy:bf w y ry cx My bty) (h16:rx + ry≤65536) (hbx:btx + 1≤b) (hby:bty + 1≤b) (hb:b≤aZ):Calls Tryz.prog 20 #[x,y] w (cb w fun v w'=>∃v1,v= .tuple #[v1,.int .i64 0]∧bf w' v1 (rx + ry) cx (eL rx Mx My) b):=by
 have hLIM:aZ=562949953421312:=rfl;have hmatx:=hx;obtain ⟨sx,rfl,hrx,hcx,hSx⟩:=hx.form;have hmaty:=hy;obtain ⟨sy,rfl,hry,_,hSy⟩:=hy.form;refine aj (N:=29) (rs:= #[.cell 4 28,.tmp 5]) Tryz.func20 rfl rfl rfl (Nat.le_of_ble_eq_true rfl) ?_;have hX:aG w w:=aG.refl w;refine ab ?_;refine RL.x rfl rfl (cX.box [.int .i64 ((rx:Nat)),.int .i64 ((cx:Nat)),sx] rfl rfl) ?_;rintro _ w1 ⟨g1,rfl,hge1,hx1,hA1⟩;replace hX:=aG.trans hX hx1;refine RL.x rfl rfl (cX.box [.int .i64 ((ry:Nat)),.int .i64 ((cx:Nat)),sy] rfl rfl) ?_;rintro _ w2 ⟨g2,rfl,hge2,hx2,hA2⟩;replace hA1:=aR.ext hA1 hx2;replace hX:=aG.trans hX hx2;refine RL.x rfl rfl (cX.alloc [.int .i64 (0),.int .i64 (0),.slice (none) (0) (0)] bo rfl) ?_;rintro _ w3 ⟨g3,rfl,hge3,hx3,hA3⟩;have hbs3:w.heap.size≤g3:=Nat.le_trans hX.size hge3;replace hA1:=aR.ext hA1 hx3;replace hA2:=aR.ext hA2 hx3;replace hX:=aG.trans hX hx3;refine RL.p rfl rfl (cn.assign rfl) ?_;refine RL.nil ?_;refine WP.seq ?_;refine ab ?_;refine RL.p rfl rfl (cn.fieldAddr bC rfl) ?_;refine RL.p rfl rfl (cn.load bO rfl (hA1.at_ (i:=1) rfl rfl)) ?_;refine RL.p rfl rfl (cn.fieldAddr bC rfl) ?_;refine RL.p rfl rfl (cn.load bO rfl (hA2.at_ (i:=1) rfl rfl)) ?_;refine RL.p rfl rfl (cn.neq rfl rfl) ?_;refine RL.nil ?_;refine af (((cx:Nat):Int)≠((cx:Nat):Int)) rfl (fun hn=>absurd hn ((by omega))) (fun c11=> ?_);refine WP.skip ?_;refine pA.norm ?_;refine ab ?_;refine RL.p rfl rfl (ae [.int .i64 ((rx:Nat)),.int .i64 ((cx:Nat)),sx] aM rfl (hA1.cells 0 _ rfl rfl)) ?_;have hBw1:w.heap.size≤w3.heap.size:=hX.size;refine RL.x rfl rfl (cX.call sm (aE rfl) (kl _ _ _ _ _ _ (bf.mk (cE.ext hSx hX) (by omega) (by omega)) (by omega))) ?_;rintro v1 w4 ⟨hx4,q1⟩;replace hA1:=aR.ext hA1 hx4;replace hA2:=aR.ext hA2 hx4;replace hA3:=aR.ext hA3 hx4;replace hX:=aG.trans hX hx4;refine RL.x rfl rfl (cX.alloc [.int .i64 (0),.int .i64 (0),.slice (none) (0) (0)] bo rfl) ?_;rintro _ w5 ⟨g4,rfl,hge4,hx5,hA4⟩;have ne4:g1≠g4:=Nat.ne_of_lt (Nat.lt_of_lt_of_le hA1.lt hge4);have ne5:g2≠g4:=Nat.ne_of_lt (Nat.lt_of_lt_of_le hA2.lt hge4);have ne6:g3≠g4:=Nat.ne_of_lt (Nat.lt_of_lt_of_le hA3.lt hge4);have hbs4:w.heap.size≤g4:=Nat.le_trans hX.size hge4;replace hA1:=aR.ext hA1 hx5;replace hA2:=aR.ext hA2 hx5;replace hA3:=aR.ext hA3 hx5;replace q1:=cz.ext q1 hx5;replace hX:=aG.trans hX hx5;obtain ⟨gh1,kh1,ρ1,hq1,hM1⟩:=q1;have hd1:=cu.dlim hM1;have hd2:=cu.clim hM1;have hbs5:w.heap.size≤gh1:=Nat.le_trans (hBw1) hM1.1;refine RL.x rfl rfl (cX.store [.int .i64 ((rx:Nat)),.int .i64 ((cx:Nat)),.slice (some ⟨gh1,0,none⟩) (rx) (kh1)] bE rfl hq1 rfl hA4 (Nat.le_of_ble_eq_true rfl) (bG rfl rfl rfl)) ?_;rintro _ w6 ⟨hk1,hnew⟩;replace hM1:=bc hM1 hk1 hA4 (by decide);replace hA1:=hA1.keep hk1 ne4;replace hA2:=hA2.keep hk1 ne5;replace hA3:=hA3.keep hk1 ne6;replace hX:=hX.step hk1 (fun b e=>by subst e;exact hbs4);replace hA4:=hnew.lit [.int .i64 ((rx:Nat)),.int .i64 ((cx:Nat)),.slice (some ⟨gh1,0,none⟩) (rx) (kh1)] rfl;clear hnew;refine RL.nil ?_;refine ab ?_;refine RL.p rfl rfl (cn.fieldAddr aY rfl) ?_;refine RL.p rfl rfl (cn.load bO rfl (hA1.at_ (i:=0) rfl rfl)) ?_;refine RL.p rfl rfl (cn.fieldAddr aY rfl) ?_;refine RL.p rfl rfl (cn.load bO rfl (hA2.at_ (i:=0) rfl rfl)) ?_;refine RL.p rfl rfl (cn.add (c:=((rx + ry:Nat):Int)) rfl rfl (bA (by omega))) ?_;refine RL.p rfl rfl (cn.fieldAddr aY rfl) ?_;refine RL.x rfl rfl (cX.store [.int .i64 (((rx + ry:Nat):Int))] yz rfl rfl rfl hA4 (Nat.le_of_ble_eq_true rfl) (dv rfl)) ?_;rintro _ w7 ⟨hk2,hnew⟩;replace hM1:=bc hM1 hk2 hA4 (by decide);replace hA2:=hA2.keep hk2 ne5;replace hA3:=hA3.keep hk2 ne6;replace hX:=hX.step hk2 (fun b e=>by subst e;exact hbs4);replace hA4:=hnew.lit [.int .i64 (((rx + ry:Nat):Int)),.int .i64 ((cx:Nat)),.slice (some ⟨gh1,0,none⟩) (rx) (kh1)] rfl;clear hnew;refine RL.nil ?_;have hfar:=cu.ghlt hM1;have hBw2:w.heap.size≤w7.heap.size:=hX.size;refine aJ am 5 [_,_,_,fun v AC=>cz AC v w7.heap.size ry cx My (bty + 1),_] rfl rfl (fun e_ w_ AB AA=>⟨fun _=>aa (cn.fieldAddr au ((AA 6 rfl rfl))),fun Az=>aa (cn.load aK ((Az 0 rfl)) ((aR.ext hA4 AB).at_ (i:=2) rfl rfl)),fun _=>aa (ae [.int .i64 ((ry:Nat)),.int .i64 ((cx:Nat)),sy] aM ((AA 3 rfl rfl)) ((aR.ext hA2 AB).cells 0 _ rfl rfl)),fun Az=>cX.mono (cX.call sm (aE ((Az 2 rfl))) (kl _ _ _ _ _ _ (bf.mk (cE.ext (cE.ext hSy hX) AB) (by omega) (by omega)) (by omega))) fun v AD hv=>⟨hv.1,cz.low hv.2 AB.size⟩,fun Az=>ai (ln uP aK rfl (Az 3 rfl)),trivial⟩) ?_;intro e1 w8 hx6 ho1 hf1;replace hA3:=aR.ext hA3 hx6;replace hA4:=aR.ext hA4 hx6;replace hM1:=cu.ext hM1 hx6;replace hX:=aG.trans hX hx6;have s4_e1:e1 4=_:=ho1 4 rfl rfl;have s6_e1:e1 6=_:=ho1 6 rfl rfl;have s22_e1:e1 22=_:=hf1 1 rfl;have s25_e1:uC w8 (e1 25) w7.heap.size ry cx My (bty + 1):=hf1 4 rfl;replace hM1:=cu.up (b':=b) hM1 (by omega) (by omega);replace s25_e1:=uC.up (b':=b) s25_e1 (by omega) (by omega);refine RL.x rfl rfl (lp aF (by decide) pO s22_e1 rfl hM1 s25_e1 hfar (by omega)) ?_;rintro v2 w9 ⟨hk3,q2⟩;replace hA3:=fr hA3 hk3 hM1 (by decide);replace hA4:=fr hA4 hk3 hM1 (by decide);replace hX:=hX.step hk3 (fun b e=>by subst e;exact hbs5);refine RL.p rfl rfl (cn.fieldAddr au s6_e1) ?_;refine RL.x rfl rfl (cX.store [v2] yA rfl rfl q2.cells1 hA4 (Nat.le_of_ble_eq_true rfl) (dv (q2.one))) ?_;rintro _ w10 ⟨hk4,hnew⟩;replace hA3:=hA3.keep hk4 ne6;replace q2:=aD q2 hk4 hA4 (by decide);replace hX:=hX.step hk4 (fun b e=>by subst e;exact hbs4);replace hA4:=hnew.lit [.int .i64 (((rx + ry:Nat):Int)),.int .i64 ((cx:Nat)),v2] rfl;clear hnew;refine RL.nil ?_;refine ab ?_;refine RL.p rfl rfl (ae [.int .i64 (((rx + ry:Nat):Int)),.int .i64 ((cx:Nat)),v2] aM s6_e1 (hA4.cells 0 _ rfl rfl)) ?_;refine RL.x rfl rfl (cX.store [.int .i64 (((rx + ry:Nat):Int)),.int .i64 ((cx:Nat)),v2] bE s4_e1 rfl rfl hA3 (Nat.le_of_ble_eq_true rfl) (bG rfl rfl (q2.one))) ?_;rintro _ w11 ⟨hk5,hnew⟩;replace q2:=aD q2 hk5 hA3 (by decide);replace hX:=hX.step hk5 (fun b e=>by subst e;exact hbs3);replace hA3:=hnew.lit [.int .i64 (((rx + ry:Nat):Int)),.int .i64 ((cx:Nat)),v2] rfl;clear hnew;refine RL.p rfl rfl (cn.assign rfl) ?_;refine RL.nil ?_;refine WP.ret ?_;refine ⟨.tuple #[.agg #[.int .i64 (((rx + ry:Nat):Int)),.int .i64 ((cx:Nat)),v2],.int .i64 (0)],cR (ag [.int .i64 (((rx + ry:Nat):Int)),.int .i64 ((cx:Nat)),v2] aM s4_e1 (hA3.cells 0 _ rfl rfl)) (fN.tmp rfl),_,rfl,hX,?_⟩;dsimp only;exact ⟨_,rfl,(bf.mk q2 (by omega) (by omega))⟩
set_option maxRecDepth 10000 in
theorem ta (w:World) (r:Nat) (c:Nat) (l:Value) (n:Nat) (f:Nat→Int) (hr:r≤16) (hc:c≤16) (hl:fw .i8 77 w l n f):Calls Tryz.prog 34 #[.int .i64 (r:Nat),.int .i64 (c:Nat),l] w (cb w fun v w'=>cz w' v w.heap.size r c (fR f n c) 4):=by
 have hLIM:aZ=562949953421312:=rfl;have hln:n<9223372036854775808:=by obtain ⟨_,_,_,h2,h3,_⟩:=hl;omega
 refine aj (N:=60) (rs:= #[.cell 6 28]) Tryz.func34 rfl rfl rfl (Nat.le_of_ble_eq_true rfl) ?_;have hX:aG w w:=aG.refl w;refine ab ?_;refine RL.x rfl rfl (cX.alloc [.int .i64 (0),.int .i64 (0),.slice (none) (0) (0)] bo rfl) ?_;rintro _ w1 ⟨g1,rfl,hge1,hx1,hA1⟩;have hbs1:w.heap.size≤g1:=Nat.le_trans hX.size hge1;replace hX:=aG.trans hX hx1;refine RL.nil ?_;refine ab ?_;refine RL.p rfl rfl (cn.move rfl) ?_;refine RL.p rfl rfl (cn.max (c:=((r:Nat):Int)) rfl rfl (by omega)) ?_;refine RL.p rfl rfl (cn.min (c:=((r:Nat):Int)) rfl rfl (by omega)) ?_;refine RL.p rfl rfl (cn.move rfl) ?_;refine RL.p rfl rfl (cn.max (c:=((c:Nat):Int)) rfl rfl (by omega)) ?_;refine RL.p rfl rfl (cn.min (c:=((c:Nat):Int)) rfl rfl (by omega)) ?_;have hBw1:w.heap.size≤w1.heap.size:=hX.size;refine RL.x rfl rfl (cX.call jU (aA rfl rfl) (kd _ r c 4 (by omega) (by omega) (by omega))) ?_;rintro v1 w2 ⟨hx2,q1⟩;replace hA1:=aR.ext hA1 hx2;replace hX:=aG.trans hX hx2;refine RL.x rfl rfl (cX.alloc [.int .i64 (0),.int .i64 (0),.slice (none) (0) (0)] bo rfl) ?_;rintro _ w3 ⟨g2,rfl,hge2,hx3,hA2⟩;have ne1:g1≠g2:=Nat.ne_of_lt (Nat.lt_of_lt_of_le hA1.lt hge2);have hbs2:w.heap.size≤g2:=Nat.le_trans hX.size hge2;replace hA1:=aR.ext hA1 hx3;replace q1:=cz.ext q1 hx3;replace hX:=aG.trans hX hx3;obtain ⟨gh1,kh1,ρ1,hq1,hM1⟩:=q1;have hd1:=cu.dlim hM1;have hd2:=cu.clim hM1;refine RL.x rfl rfl (cX.store [.int .i64 ((r:Nat)),.int .i64 ((c:Nat)),.slice (some ⟨gh1,0,none⟩) (r) (kh1)] bE rfl hq1 rfl hA2 (Nat.le_of_ble_eq_true rfl) (bG rfl rfl rfl)) ?_;rintro _ w4 ⟨hk1,hnew⟩;replace hM1:=bc hM1 hk1 hA2 (by decide);replace hA1:=hA1.keep hk1 ne1;replace hX:=hX.step hk1 (fun b e=>by subst e;exact hbs2);replace hA2:=hnew.lit [.int .i64 ((r:Nat)),.int .i64 ((c:Nat)),.slice (some ⟨gh1,0,none⟩) (r) (kh1)] rfl;clear hnew;refine RL.nil ?_;refine WP.seq ?_;refine ab ?_;refine RL.p rfl rfl (cn.assign rfl) ?_;refine RL.nil ?_;refine WP.block ?_;refine WP.loop (fun mz ez uz=>∃i:Nat,(mz=r - i)∧(ez 2=l)∧(ez 6= .pointer (some ⟨g1,0,none⟩))∧(ez 7= .pointer (some ⟨g2,0,none⟩))∧(ez 8= .int .i64 ((i:Nat)))∧(i≤r)∧(aG w uz)∧(aR uz g1 28 3 (bt [.int .i64 (0),.int .i64 (0),.slice (none) (0) (0)]))∧(aR uz g2 28 3 (bt [.int .i64 ((r:Nat)),.int .i64 ((c:Nat)),.slice (some ⟨gh1,0,none⟩) (r) (kh1)]))∧(cu uz w1.heap.size gh1 kh1 r c ρ1 (cC (fR f n c) i 0) 4)) (r - 0) ?_ ?_
 · exact ⟨0,rfl,rfl,rfl,rfl,rfl,(by omega),hX,hA1,hA2,bh hM1 (iW (fR f n c))⟩
 rintro m1 e1 w5 ⟨i,hm1,s2_e1,s6_e1,s7_e1,s8_e1,hi,hX1,hA1,hA2,hM1⟩;refine WP.seq ?_;refine ab ?_;refine RL.p rfl rfl (cn.move s8_e1) ?_;refine RL.p rfl rfl (cn.fieldAddr aY s7_e1) ?_;refine RL.p rfl rfl (cn.load bO rfl (hA2.at_ (i:=0) rfl rfl)) ?_;refine RL.p rfl rfl (cn.lss rfl rfl) ?_;refine RL.nil ?_;refine af (((i:Nat):Int)<((r:Nat):Int)) rfl (fun c20=> ?_) (fun c20=> ?_)
 ·
  refine WP.skip ?_;refine pA.norm ?_;refine WP.seq ?_;refine WP.block ?_;refine ab ?_;refine RL.p rfl rfl (cn.assign rfl) ?_;refine RL.nil ?_;refine WP.block ?_;refine WP.loop (fun mz ez uz=>∃j:Nat,(mz=c - j)∧(ez 2=l)∧(ez 6= .pointer (some ⟨g1,0,none⟩))∧(ez 7= .pointer (some ⟨g2,0,none⟩))∧(ez 8= .int .i64 ((i:Nat)))∧(ez 9= .int .i64 ((j:Nat)))∧(j≤c)∧(aG w uz)∧(aR uz g1 28 3 (bt [.int .i64 (0),.int .i64 (0),.slice (none) (0) (0)]))∧(aR uz g2 28 3 (bt [.int .i64 ((r:Nat)),.int .i64 ((c:Nat)),.slice (some ⟨gh1,0,none⟩) (r) (kh1)]))∧(cu uz w1.heap.size gh1 kh1 r c ρ1 (cC (fR f n c) i j) 4)) (c - 0) ?_ ?_
  · exact ⟨0,rfl,s2_e1,s6_e1,s7_e1,s8_e1,rfl,(by omega),hX1,hA1,hA2,hM1⟩
  rintro m2 e2 w6 ⟨j,hm2,s2_e2,s6_e2,s7_e2,s8_e2,s9_e2,hj,hX2,hA1,hA2,hM1⟩;have hic:i*c≤16*16:=Nat.mul_le_mul (by omega) (by omega);refine WP.seq ?_;refine aJ am 15 [_,_,_,_,fun v AC=>v= .bool (decide (((j:Nat):Int)<((c:Nat):Int))),_,_,_,_,_,_,_,_,_,_] rfl rfl (fun e_ w_ AB AA=>⟨fun _=>aa (cn.move ((AA 9 rfl s9_e2))),fun _=>aa (cn.fieldAddr bC ((AA 7 rfl s7_e2))),fun Az=>aa (cn.load bO ((Az 1 rfl)) ((aR.ext hA2 AB).at_ (i:=1) rfl rfl)),fun Az=>aa (cn.lss ((Az 0 rfl)) ((Az 2 rfl))),fun Az=>aa (cn.move ((Az 3 rfl))),fun Az=>gT (Az 4 rfl) fun hg=>aa (cn.move ((AA 8 rfl s8_e2))),fun Az=>gT (Az 4 rfl) fun hg=>aa (cn.fieldAddr bC ((AA 7 rfl s7_e2))),fun Az=>gT (Az 4 rfl) fun hg=>aa (cn.load bO ((Az 6 rfl hg)) ((aR.ext hA2 AB).at_ (i:=1) rfl rfl)),fun Az=>gT (Az 4 rfl) fun hg=>aa (cn.mul (c:=((i*c:Nat):Int)) ((Az 5 rfl hg)) ((Az 7 rfl hg)) (bA (by omega))),fun Az=>gT (Az 4 rfl) fun hg=>aa (cn.move ((AA 9 rfl s9_e2))),fun Az=>gT (Az 4 rfl) fun hg=>aa (cn.add (c:=(((i*c) + j:Nat):Int)) ((Az 8 rfl hg)) ((Az 9 rfl hg)) (bA (by omega))),fun Az=>gT (Az 4 rfl) fun hg=>aa (cn.move ((AA 2 rfl s2_e2))),fun Az=>gT (Az 4 rfl) fun hg=>aa (kU wt (Az 11 rfl hg) (fw.ext (fw.ext hl hX2) AB)),fun Az=>gT (Az 4 rfl) fun hg=>aa (cn.lss ((Az 10 rfl hg)) ((Az 12 rfl hg))),fun Az=>aa (aB (p:=((j:Nat):Int)<((c:Nat):Int)) (q:=((((i*c) + j:Nat):Int):Int)<((n:Nat):Int)) (Az 4 rfl) (fun hq=>(Az 13 rfl hq))),trivial⟩) ?_;intro e3 w7 hx4 ho1 hf1;replace hA1:=aR.ext hA1 hx4;replace hA2:=aR.ext hA2 hx4;replace hM1:=cu.ext hM1 hx4;replace hX2:=aG.trans hX2 hx4;have s2_e3:=ho1 2 rfl s2_e2;have s6_e3:=ho1 6 rfl s6_e2;have s7_e3:=ho1 7 rfl s7_e2;have s8_e3:=ho1 8 rfl s8_e2;have s9_e3:=ho1 9 rfl s9_e2;have s37_e3:e3 37=_:=hf1 14 rfl;refine RL.nil ?_;refine af ((((j:Nat):Int)<((c:Nat):Int))∧(((((i*c) + j:Nat):Int):Int)<((n:Nat):Int))) s37_e3 (fun c37=> ?_) (fun c37=> ?_)
  ·
   refine WP.skip ?_;refine pA.norm ?_;refine WP.seq ?_;refine WP.block ?_;refine WP.ds am 19 [_,_,_,_,_,_,_,_,_,_,_,_,_,_,_,_,_,_,_] rfl rfl (fun e_ w_ AB AA=>⟨fun _=>aa (cn.fieldAddr au ((AA 7 rfl s7_e3))),fun Az=>aa (cn.load aK ((Az 0 rfl)) ((aR.ext hA2 AB).at_ (i:=2) rfl rfl)),fun _=>aa (cn.move ((AA 8 rfl s8_e3))),fun Az=>aa (cn.index (j:=i) aF ((Az 1 rfl)) ((Az 2 rfl)) rfl (by omega) (by omega)),fun Az=>ai (al (i:=i) aU (Az 3 rfl) (cu.ext hM1 AB) (by omega)),fun _=>aa (cn.move ((AA 9 rfl s9_e3))),fun _=>aa (cn.move ((AA 2 rfl s2_e3))),fun _=>aa (cn.move ((AA 8 rfl s8_e3))),fun _=>aa (cn.fieldAddr bC ((AA 7 rfl s7_e3))),fun Az=>aa (cn.load bO ((Az 8 rfl)) ((aR.ext hA2 AB).at_ (i:=1) rfl rfl)),fun Az=>aa (cn.mul (c:=((i*c:Nat):Int)) ((Az 7 rfl)) ((Az 9 rfl)) (bA (by omega))),fun _=>aa (cn.move ((AA 9 rfl s9_e3))),fun Az=>aa (cn.add (c:=(((i*c) + j:Nat):Int)) ((Az 10 rfl)) ((Az 11 rfl)) (bA (by omega))),fun Az=>ai (iJ (j:=(i*c) + j) wt (Az 6 rfl) (fw.ext (fw.ext hl hX2) AB) (Az 12 rfl) (by omega) (by omega)),fun Az=>aa (dH wv rfl (Az 13 rfl)),fun Az=>aa (cn.rem (c:=(f (i*c + j)).tmod 10) ((Az 14 rfl)) rfl (by omega) rfl),fun Az=>aa (ax (c:=(f (i*c + j)).tmod 10) wx nm ((Az 15 rfl)) (bA ⟨(oP _).1,Int.le_of_lt_add_one (oP _).2,rfl⟩)),fun Az=>cX.call jR (aE ((Az 16 rfl))) (pc ((f (i*c + j)).tmod 10) (4) _ (oP _) (ww _) (by decide)),fun Az=>aa (av (j:=j) be (Az 4 rfl) rfl (Az 5 rfl) (by omega) (by omega)),trivial⟩) ?_;intro e4 w8 hx5 ho2 hf2;replace hA1:=aR.ext hA1 hx5;replace hA2:=aR.ext hA2 hx5;replace hM1:=cu.ext hM1 hx5;replace hX2:=aG.trans hX2 hx5;have s2_e4:=ho2 2 rfl s2_e3;have s6_e4:=ho2 6 rfl s6_e3;have s7_e4:=ho2 7 rfl s7_e3;have s8_e4:=ho2 8 rfl s8_e3;have s9_e4:=ho2 9 rfl s9_e3;have s57_e4:ak w8 (e4 57) ((f (i*c + j)).tmod 10) 4:=hf2 17 rfl;have s58_e4:e4 58=_:=hf2 18 rfl;refine RL.x rfl rfl (br (i:=i) (j:=j) aL s58_e4 rfl (ak.eq s57_e4 (tT (n:=n) (by omega)) (oe _ _ _ _ _) (by decide)) hM1 (by omega) (by omega)) ?_;rintro _ w9 ⟨hk2,hN1⟩;have hR1:=cu.row (i:=i) hM1 (by omega);replace hA1:=aX hA1 hk2 hR1 (by decide);replace hA2:=aX hA2 hk2 hR1 (by decide);replace hX2:=hX2.step hk2 (fun b e=>by subst e;exact (Nat.le_trans hBw1 (cu.rowB (i:=i) hM1 (by omega))));replace hM1:=hN1;clear hR1;refine RL.nil ?_;refine iM.norm ?_;refine pA.norm ?_;refine WP.region ?_;refine RL.p rfl rfl (cn.move s9_e4) ?_;refine RL.p rfl rfl (cn.add (c:=((j + 1:Nat):Int)) rfl rfl (bA (by omega))) ?_;refine RL.p rfl rfl (cn.assign rfl) ?_;refine RL.nil ?_;refine pA.norm ⟨_,(by omega),j + 1,rfl,s2_e4,s6_e4,s7_e4,s8_e4,rfl,(by omega),hX2,hA1,hA2,bh hM1 (fk (fR f n c) i j)⟩
  ·
   refine WP.exit ?_;refine pA.exit ?_;refine pA.exit ?_;refine iM.same ?_;refine iM.norm ?_;refine pA.norm ?_;refine WP.region ?_;refine RL.p rfl rfl (cn.move s8_e3) ?_;refine RL.p rfl rfl (cn.add (c:=((i + 1:Nat):Int)) rfl rfl (bA (by omega))) ?_;refine RL.p rfl rfl (cn.assign rfl) ?_;refine RL.nil ?_;refine pA.norm ⟨_,(by omega),i + 1,rfl,s2_e3,s6_e3,s7_e3,rfl,(by omega),hX2,hA1,hA2,cu.congr hM1 fun a c2 ha hc2=>lL (fun e he hec=>by unfold fR;rw [if_neg (by omega)]) hc2⟩
 ·
  refine WP.exit ?_;refine pA.exit ?_;refine pA.exit ?_;refine iM.same ?_;refine pA.norm ?_;refine ab ?_;refine RL.p rfl rfl (ae [.int .i64 ((r:Nat)),.int .i64 ((c:Nat)),.slice (some ⟨gh1,0,none⟩) (r) (kh1)] aM s7_e1 (hA2.cells 0 _ rfl rfl)) ?_;refine RL.x rfl rfl (cX.store [.int .i64 ((r:Nat)),.int .i64 ((c:Nat)),.slice (some ⟨gh1,0,none⟩) (r) (kh1)] bE s6_e1 rfl rfl hA1 (Nat.le_of_ble_eq_true rfl) (bG rfl rfl rfl)) ?_;rintro _ w10 ⟨hk3,hnew⟩;replace hM1:=bc hM1 hk3 hA1 (by decide);replace hX1:=hX1.step hk3 (fun b e=>by subst e;exact hbs1);replace hA1:=hnew.lit [.int .i64 ((r:Nat)),.int .i64 ((c:Nat)),.slice (some ⟨gh1,0,none⟩) (r) (kh1)] rfl;clear hnew;refine RL.nil ?_;refine WP.ret ?_;refine ⟨.agg #[.int .i64 ((r:Nat)),.int .i64 ((c:Nat)),.slice (some ⟨gh1,0,none⟩) (r) (kh1)],zP.one (ag [.int .i64 ((r:Nat)),.int .i64 ((c:Nat)),.slice (some ⟨gh1,0,none⟩) (r) (kh1)] aM s6_e1 (hA1.cells 0 _ rfl rfl)),_,rfl,hX1,?_⟩;dsimp only;exact ⟨_,_,_,rfl,cu.congr (cu.low hM1 hBw1) fun a c2 ha hc2=>by rw [show i=r by omega];exact eO _ c2 ha⟩
end Go.TL
