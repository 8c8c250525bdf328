/-
  Lemmas towards the theorem of this claim (part 8).
  Conditions: those that each theorem names.
-/
import Derived.Test.YtknbpehdcgamaaaGreatPF7
namespace Go.TL
set_option linter.unusedVariables false
theorem iN {f:Nat→Int} {k:Nat}:∀{n:Nat},k≤n→(∀i,k≤i→i<n→f i=0)→aO n f=aO k f
  | 0,h,_=>by rw [show k=0 by omega]
  | n + 1,h,hz=>by
    by_cases e:k=n + 1
    · rw [e]
    · simp only [aO];rw [iN (n:=n) (by omega) fun i h1 h2=>hz i h1 (by omega),hz n (by omega) (by omega)];omega
theorem kY (f:Nat→Int) (k:Nat):∀n,aO (k + n) f=aO k f + aO n (fun i=>f (k + i))
  | 0=>by simp [aO]
  | n + 1=>by rw [show k + (n + 1)=k + n + 1 by omega];simp only [aO];rw [kY f k n];omega
def gi (n c:Nat) (M:Nat→Nat→Int) (v:Nat→Int):Prop:=∃a:Nat→Int,∀j,j<c→v j=aO n (fun i=>a i*M i j)
theorem gi.congr {n c:Nat} {M M':Nat→Nat→Int} {v:Nat→Int} (h:gi n c M v) (he:∀i j,i<n→j<c→M i j=M' i j):gi n c M' v:=by
  obtain ⟨a,h⟩:=h;exact ⟨a,fun j hj=>by rw [h j hj];exact aL fun i hi=>by rw [he i j hi hj]⟩
theorem gi.row {n c:Nat} {M:Nat→Nat→Int} {i:Nat} (hi:i<n):gi n c M (M i):=
  ⟨fun x=>if x=i then 1 else 0,fun j hj=>by
    have:=eY (f:=fun x=>M x j) hi;rw [←this];exact aL fun x _=>by by_cases e:x=i<;>simp [e]⟩
theorem gi.sub {n c:Nat} {M:Nat→Nat→Int} {u v:Nat→Int} (h:gi n c M u) (g:gi n c M v):gi n c M (fun j=>u j - v j):=by
  obtain ⟨a,h⟩:=h;obtain ⟨b,g⟩:=g;refine ⟨fun i=>a i - b i,fun j hj=> ?_⟩;show u j - v j=_;rw [h j hj,g j hj,←iM];exact aL fun i _=>(Int.sub_mul _ _ _).symm
theorem gi.cut {k n c:Nat} {M:Nat→Nat→Int} (hk:k≤n) (hz:∀i,k≤i→i<n→∀j,j<c→M i j=0) {v:Nat→Int}:gi n c M v↔gi k c M v:=by
  constructor
  · rintro ⟨a,h⟩
    exact ⟨a,fun j hj=>by rw [h j hj];exact iN hk fun i h1 h2=>by rw [hz i h1 h2 j hj,Int.mul_zero]⟩
  · rintro ⟨a,h⟩
    refine ⟨fun i=>if i<k then a i else 0,fun j hj=> ?_⟩;rw [h j hj,iN (n:=n) hk fun i h1 h2=>by rw [hz i h1 h2 j hj,Int.mul_zero]];exact aL fun i hi=>by simp only [if_pos hi]
theorem eb (r n:Nat) (a:Nat→Int) (A B:Nat→Nat→Int) (j:Nat):aO r (fun i=>a i*bK n A B i j)=aO n (fun x=>aO r (fun i=>a i*A i x)*B x j):=
  (lD r n (fun _=>a) A B 0 j).symm
section
variable {r c:Nat} {M0:Nat→Nat→Int} {S:WS}
theorem Lin.lat (h:Lin r c M0 S) {v:Nat→Int}:gi r c M0 v↔gi r c S.M v:=by
  constructor
  · rintro ⟨a,g⟩
    refine ⟨fun x=>aO r (fun i=>a i*S.V i x),fun j hj=> ?_⟩;rw [g j hj,←eb];exact aL fun i hi=>by rw [h.back hi hj]
  · rintro ⟨a,g⟩
    refine ⟨fun x=>aO r (fun i=>a i*S.U i x),fun j hj=> ?_⟩;rw [g j hj,←eb];exact aL fun i hi=>by rw [h.eq i j hi hj]
end
def fo (k c:Nat) (M:Nat→Nat→Int) (P:Nat→Nat):Prop:=∀i,i<k→P i<c∧0<M i (P i)∧(∀j,j<P i→M i j=0)∧∀n,n<i→P n<P i∧0≤M n (P i)∧M n (P i)<M i (P i)
theorem fo.lead {k c:Nat} {M:Nat→Nat→Int} {P:Nat→Nat} (h:fo k c M P) {a:Nat→Int} {v:Nat→Int} (hv:∀j,j<c→v j=aO k (fun i=>a i*M i j)):
    (∀i,i<k→a i=0)∨∃j,j<k∧(∀x,x<P j→v x=0)∧v (P j)≠0∧M j (P j)∣v (P j):=by
  by_cases hz:∀i,i<k→a i=0
  · exact .inl hz
  · have hex:∃i,i<k∧a i≠0:=by
      apply Classical.byContradiction;intro hn
      exact hz fun i hi=>Classical.byContradiction fun h=>hn ⟨i,hi,h⟩
    have hmin:∃j,j<k∧a j≠0∧∀i,i<j→a i=0:=by
      obtain ⟨i,hi,ha⟩:=hex
      induction i using Nat.strongRecOn with
      | _ i ih=>
        by_cases hk:∃x,x<i∧a x≠0
        · obtain ⟨x,hx,hxa⟩:=hk;exact ih x hx (by omega) hxa
        · exact ⟨i,hi,ha,fun x hx=>Classical.byContradiction fun h=>hk ⟨x,hx,h⟩⟩
    obtain ⟨j,hj,hja,hjm⟩:=hmin;obtain ⟨g1,g2,g3,_⟩:=h j hj;have hval:v (P j)=a j*M j (P j):=by
      rw [hv _ g1];refine jp hj fun i hi hne=> ?_
      rcases Nat.lt_or_ge i j with hlt | hge
      · rw [hjm i hlt,Int.zero_mul]
      · obtain ⟨_,_,k3,k4⟩:=h i hi
        rw [k3 (P j) (k4 j (by omega)).1,Int.mul_zero]
    refine .inr ⟨j,hj,fun x hx=> ?_,?_,⟨a j,by rw [hval,Int.mul_comm]⟩⟩
    · rw [hv x (by omega)]
      refine dc fun i hi=> ?_
      rcases Nat.lt_or_ge i j with hlt | hge
      · rw [hjm i hlt,Int.zero_mul]
      · obtain ⟨_,_,k3,k4⟩:=h i hi
        by_cases e:i=j
        · subst e;rw [k3 x hx,Int.mul_zero]
        · have:=(k4 j (by omega)).1
          rw [k3 x (by omega),Int.mul_zero]
    · rw [hval];intro h0
      rcases Int.mul_eq_zero.1 h0 with h1 | h1
      · exact hja h1
      · omega
theorem fo.inl {k c:Nat} {M:Nat→Nat→Int} {P:Nat→Nat} (h:fo k c M P) {v:Nat→Int} (hv:gi k c M v):
    (∀j,j<c→v j=0)∨∃j,j<k∧(∀x,x<P j→v x=0)∧v (P j)≠0∧M j (P j)∣v (P j):=by
  obtain ⟨a,hv⟩:=hv;rcases h.lead hv with h1 | h1
  · exact .inl fun j hj=>by rw [hv j hj];exact dc fun i hi=>by rw [h1 i hi,Int.zero_mul]
  · exact .inr h1
theorem fo.inc {k c:Nat} {M:Nat→Nat→Int} {P:Nat→Nat} (h:fo k c M P) {i j:Nat} (hi:i<k) (hj:j<k) (e:P i=P j):i=j:=by
  rcases Nat.lt_trichotomy i j with h1 | h1 | h1
  · have:=((h j hj).2.2.2 i h1).1;omega
  · exact h1
  · have:=((h i hi).2.2.2 j h1).1;omega
theorem fo.sub {k k' c:Nat} {M M':Nat→Nat→Int} {P P':Nat→Nat} (h:fo k c M P) (h':fo k' c M' P') (hs:∀v,gi k c M v→gi k' c M' v) {i:Nat} (hi:i<k):
    ∃j,j<k'∧P' j=P i∧M' j (P i)∣M i (P i):=by
  obtain ⟨g1,g2,g3,_⟩:=h i hi;rcases h'.inl (hs _ (gi.row (M:=M) hi)) with h1 | ⟨j,hj,h1,h2,h3⟩
  · have:=h1 _ g1;omega
  · have e:P' j=P i:=by
      rcases Nat.lt_trichotomy (P' j) (P i) with h4 | h4 | h4
      · exact absurd (g3 _ h4) h2
      · exact h4
      · have:=h1 _ h4;omega
    exact ⟨j,hj,e,by rw [←e];exact h3⟩
theorem fo.same {k k' c:Nat} {M M':Nat→Nat→Int} {P P':Nat→Nat} (h:fo k c M P) (h':fo k' c M' P') (hs:∀v,gi k c M v→gi k' c M' v) (hs':∀v,gi k' c M' v→gi k c M v):
    ∀n,∀i,i<n→i<k→i<k'∧P' i=P i∧M' i (P i)=M i (P i)
  | 0,i,hn,_=>by omega
  | n + 1,i,hn,hi=>by
    by_cases e:i<n
    · exact fo.same h h' hs hs' n i e hi
    · have ih:=fo.same h h' hs hs' n
      obtain ⟨j,hj,hP,hd⟩:=h.sub h' hs hi;obtain ⟨i2,hi2,hP2,hd2⟩:=h'.sub h hs' hj;have e2:i2=i:=h.inc hi2 hi (hP2.trans hP);subst e2;have hij:i2≤j:=by
        rcases Nat.lt_or_ge j i2 with h1 | h1
        · obtain ⟨_,h3,_⟩:=ih j (by omega) (by omega)
          have:=h.inc (i:=j) (j:=i2) (by omega) hi (by rw [←h3];exact hP);omega
        · exact h1
      have hji:j≤i2:=by
        rcases Nat.lt_or_ge i2 j with h1 | h1
        ·
          obtain ⟨m,hm,hPm,_⟩:=h'.sub h hs' (i:=i2) (by omega);have h3:=((h' j hj).2.2.2 i2 h1).1;have h4:m<i2:=by
            rcases Nat.lt_trichotomy m i2 with h5 | h5 | h5
            · exact h5
            · subst h5;omega
            · have:=((h m hm).2.2.2 i2 h5).1;omega
          obtain ⟨h6,h7,_⟩:=ih m (by omega) hm;have:=h'.inc (i:=m) (j:=i2) h6 (by omega) (by omega);omega
        · exact h1
      have e3:j=i2:=by omega
      subst e3;refine ⟨hj,hP,?_⟩;have p1:=(h j hi).2.1;have p2:=(h' j hj).2.1;rw [hP] at p2 hd2;exact Int.dvd_antisymm (by omega) (by omega) hd hd2
theorem fo.unique {k k' c:Nat} {M M':Nat→Nat→Int} {P P':Nat→Nat} (h:fo k c M P) (h':fo k' c M' P') (hs:∀v,gi k c M v↔gi k' c M' v):k=k'∧∀i j,i<k→j<c→M i j=M' i j:=by
  have h1:=fun i hi=>fo.same h h' (fun v=>(hs v).1) (fun v=>(hs v).2) (i + 1) i (by omega) hi
  have h2:=fun i hi=>fo.same h' h (fun v=>(hs v).2) (fun v=>(hs v).1) (i + 1) i (by omega) hi
  have hk:k=k':=by
    rcases Nat.lt_trichotomy k k' with h3 | h3 | h3
    · have:=(h2 k h3).1;omega
    · exact h3
    · have:=(h1 k' h3).1;omega
  refine ⟨hk,fun i j hi hj=> ?_⟩;have hrow:gi k c M (fun j=>M i j - M' i j):=gi.sub (gi.row hi) ((hs _).2 (gi.row (h1 i hi).1));rcases h.inl hrow with h3 | ⟨m,hm,h3,h4,h5⟩
  · have:=h3 j hj;omega
  · exfalso
    obtain ⟨a1,a2,a3⟩:=h1 i hi;obtain ⟨b1,b2,b3⟩:=h1 m hm;obtain ⟨g1,g2,g3,g4⟩:=h i hi;obtain ⟨f1,f2,f3,f4⟩:=h m hm;have hmi:i<m:=by
      rcases Nat.lt_trichotomy i m with e | e | e
      · exact e
      · subst e;exact absurd (by rw [a3];omega) h4
      · have e1:=(g4 m e).1
        have e2:=g3 _ e1;have e3:=(h' i a1).2.2.1 (P m) (by omega);exact absurd (by rw [e2,e3];rfl) h4
    have c1:=(f4 i hmi).2;have c2:=((h' m b1).2.2.2 i hmi).2;rw [b2,b3] at c2;obtain ⟨t,ht⟩:=h5;have c3:(M i (P m) - M' i (P m)).natAbs<(M m (P m)).natAbs:=by omega
    have c4:(M m (P m)).natAbs≤(M i (P m) - M' i (P m)).natAbs:=by
      rw [ht,Int.natAbs_mul];refine Nat.le_mul_of_pos_right _ ?_;rcases Nat.eq_zero_or_pos t.natAbs with h0 | h0
      · have:t=0:=by omega
        subst this;exact absurd (by rw [ht,Int.mul_zero]) h4
      · exact h0
    omega
theorem mb.toP {r k c:Nat} {M:Nat→Nat→Int} (h:mb r k c M):(∃P,fo k c M P)∧∀i,k≤i→i<r→∀j,j<c→M i j=0:=by
  obtain ⟨P,h1,h2⟩:=h;exact ⟨⟨P,h1⟩,h2⟩
theorem nj {r c k:Nat} {M0:Nat→Nat→Int} {S:WS} (hl:Lin r c M0 S) (hk:k≤r) (he:mb r k c S.M) {v:Nat→Int}:gi r c M0 v↔gi k c S.M v:=
  hl.lat.trans (gi.cut hk he.toP.2)
def zB (r c:Nat) (M0:Nat→Nat→Int) (u:Nat→Int):Prop:=∀j,j<c→aO r (fun i=>u i*M0 i j)=0
theorem qR {r c k:Nat} {M0:Nat→Nat→Int} {S:WS} (hl:Lin r c M0 S) (hk:k≤r) (he:mb r k c S.M) {u:Nat→Int}:zB r c M0 u↔gi (r - k) r (fun i=>S.U (k + i)) u:=by
  obtain ⟨⟨P,hP⟩,hz⟩:=he.toP
  constructor
  · intro hu
    have hcoord:∀j,j<r→u j=aO r (fun i=>aO r (fun x=>u x*S.V x i)*S.U i j):=fun j hj=>by
      rw [←eb];have h1:aO r (fun i=>u i*bK r S.V S.U i j)=aO r (fun i=>u i*dA i j):=aL fun i hi=>by rw [hl.vu i j hi hj]
      rw [h1,jp hj fun x _ hne=>by simp [dA,hne]];simp [dA]
    have hzero:∀j,j<c→aO k (fun i=>aO r (fun x=>u x*S.V x i)*S.M i j)=0:=fun j hj=>by
      have h1:aO r (fun i=>u i*bK r S.V S.M i j)=0:=by rw [←hu j hj];exact aL fun i hi=>by rw [hl.back hi hj]
      rw [eb,iN hk fun i h2 h3=>by rw [hz i h2 h3 j hj,Int.mul_zero]] at h1;exact h1
    have hc:∀i,i<k→aO r (fun x=>u x*S.V x i)=0:=by
      rcases hP.lead (a:=fun i=>aO r (fun x=>u x*S.V x i)) (v:=fun _=>0) (fun j hj=>(hzero j hj).symm) with h1 | ⟨_,_,_,h2,_⟩
      · exact h1
      · exact absurd rfl h2
    refine ⟨fun i=>aO r (fun x=>u x*S.V x (k + i)),fun j hj=> ?_⟩;have h5:=kY (fun i=>aO r (fun x=>u x*S.V x i)*S.U i j) k (r - k);rw [show k + (r - k)=r by omega] at h5;rw [hcoord j hj,h5,dc fun i hi=>by rw [hc i hi,Int.zero_mul],Int.zero_add]
  · rintro ⟨a,h⟩ j hj
    have h1:aO r (fun i=>u i*M0 i j)=aO r (fun i=>aO (r - k) (fun x=>a x*S.U (k + x) i)*M0 i j):=aL fun i hi=>by rw [h i hi]
    rw [h1];have h2:=(eb (r - k) r a (fun x=>S.U (k + x)) M0 j).symm;rw [h2];refine dc fun i hi=> ?_
    have h3:bK r (fun x=>S.U (k + x)) M0 i j=S.M (k + i) j:=(hl.eq (k + i) j (by omega) hj).symm;rw [h3,hz (k + i) (by omega) (by omega) j hj,Int.mul_zero]
theorem zB.congr {r c:Nat} {M M':Nat→Nat→Int} (he:∀i j,i<r→j<c→M i j=M' i j) {u:Nat→Int}:zB r c M u↔zB r c M' u:=by
  constructor<;>intro h j hj
  · rw [←h j hj];exact aL fun i hi=>by rw [he i j hi hj]
  · rw [←h j hj];exact aL fun i hi=>by rw [he i j hi hj]
theorem gH.lat {r c e0 k:Nat} {M0 M:Nat→Nat→Int} (h:gH r c e0 M0 k M):(∃P,fo k r M P)∧∀u,gi k r M u↔zB r c M0 u:=by
  obtain ⟨k1,S1,S2,h1,h2,rfl⟩:=h;exact ⟨h2.ech.toP.1,fun u=>(nj h2.lin h2.kr h2.ech).symm.trans (qR h1.lin h1.kr h1.ech).symm⟩
theorem mH.lat {r c e0 k:Nat} {M0 M:Nat→Nat→Int} (h:mH r c e0 M0 k M):(∃P,fo k r M P)∧∀u,gi k r M u↔zB r c M0 u:=by
  obtain ⟨k1,S1,S2,h1,h2,rfl⟩:=h;exact ⟨h2.ech.toP.1,fun u=>(nj h2.lin h2.kr h2.ech).symm.trans (qR h1.lin h1.kr h1.ech).symm⟩
end Go.TL
namespace Go.TL
set_option linter.unusedVariables false
theorem lh (z:Int):z.sign≤0↔z≤0:=by
  rcases Int.lt_trichotomy z 0 with h | h | h
  · rw [Int.sign_eq_neg_one_of_neg h];omega
  · subst h;simp
  · rw [Int.sign_eq_one_of_pos h];omega
theorem fY (a b:Int):0≤cj a b↔b≤a:=by unfold cj;split<;>(try split)<;>omega
def lastP (M:Nat→Nat→Int) (c:Nat):Nat→Int
  | 0=> -1
  | i + 1=>if piv (M i) c<0 then (c:Int) else piv (M i) c
def jl (M:Nat→Nat→Int) (c i:Nat):Prop:=
  piv (M i) c<0∨(lastP M c i<piv (M i) c∧0<M i (piv (M i) c).toNat∧∀k,k<i→0≤M k (piv (M i) c).toNat∧M k (piv (M i) c).toNat<M i (piv (M i) c).toNat)
def cV (r c:Nat) (M:Nat→Nat→Int):Prop:=∀i,i<r→jl M c i
instance (M:Nat→Nat→Int) (c i:Nat):Decidable (jl M c i):=inferInstanceAs (Decidable (_∨_))
instance (r c:Nat) (M:Nat→Nat→Int):Decidable (cV r c M):=inferInstanceAs (Decidable (∀i,i<r→jl M c i))
theorem jF {M:Nat→Nat→Int} {c i:Nat} (h:piv (M i) c<0):((c:Nat):Int)=lastP M c (i + 1):=by simp only [lastP];rw [if_pos h]
theorem jE {M:Nat→Nat→Int} {c i:Nat} (h:¬piv (M i) c<0):piv (M i) c=lastP M c (i + 1):=by simp only [lastP];rw [if_neg h]
theorem ls {z:Nat→Int} {n:Nat} (h:¬piv z n<0):(piv z n).toNat<n∧((piv z n).toNat:Int)=piv z n∧z (piv z n).toNat≠0∧∀j,j<(piv z n).toNat→z j=0:=by
  obtain ⟨i,h1,h2,h3,h4⟩:=gU (p:=iI) (z:=z) (n:=n) (by unfold piv at h;omega);have h5:piv z n=(i:Int):=h2;rw [h5,Int.toNat_natCast];exact ⟨h1,rfl,h3,fun j hj=>Classical.byContradiction fun e=>h4 j hj e⟩
theorem pr {z:Nat→Int} {n p:Nat} (hp:p<n) (hz:z p≠0) (h0:∀j,j<p→z j=0):piv z n=(p:Int):=
  ek (p:=iI) (iW (p:=iI) fun i hi=>by simp [iI,h0 i hi]) hz hp
theorem yS {z:Nat→Int} {n:Nat} (h0:∀j,j<n→z j=0):piv z n= -1:=iW (p:=iI) fun i hi=>by simp [iI,h0 i hi]
theorem tR {z:Nat→Int} {n:Nat} (h:piv z n<0):∀j,j<n→z j=0:=by
  intro j hj;have h1:=(eI (p:=iI) (z:=z) n).2;have h2:da iI z n= -1:=by unfold piv at h;omega
  exact Classical.byContradiction fun e=>eN h2 j hj e
theorem mb.lastP {r k c:Nat} {M:Nat→Nat→Int} {P:Nat→Nat} (h1:∀i,i<k→P i<c∧0<M i (P i)∧(∀j,j<P i→M i j=0)∧∀n,n<i→P n<P i∧0≤M n (P i)∧M n (P i)<M i (P i)):
    ∀{i:Nat},i≤k→lastP M c i=if i=0 then -1 else ((P (i - 1):Nat):Int)
  | 0,_=>rfl
  | i + 1,hi=>by
    obtain ⟨g1,g2,g3,_⟩:=h1 i (by omega);have hp:piv (M i) c=(P i:Int):=pr g1 (by omega) g3;simp only [Go.TL.lastP];rw [if_neg (by rw [hp];omega),hp,if_neg (by omega)];simp
theorem fo.isH {r k c:Nat} {M:Nat→Nat→Int} {P:Nat→Nat} (h:fo k c M P) (h2:∀a,k≤a→a<r→∀j,j<c→M a j=0):cV r c M:=by
  intro i hi;rcases Nat.lt_or_ge i k with hk | hk
  · obtain ⟨g1,g2,g3,g4⟩:=h i hk
    have hp:piv (M i) c=(P i:Int):=pr g1 (by omega) g3;refine .inr ⟨?_,?_,?_⟩
    · rw [hp,mb.lastP (r:=r) h (by omega)]
      split
      · omega
      · have:=(g4 (i - 1) (by omega)).1;omega
    · rw [hp,Int.toNat_natCast];exact g2
    · intro n hn
      rw [hp,Int.toNat_natCast];exact (g4 n hn).2
  · left;rw [yS (h2 i hk hi)];omega
theorem cV.ech {c:Nat} {M:Nat→Nat→Int}:∀{r:Nat},cV r c M→∃k P,k≤r∧fo k c M P∧(∀a,k≤a→a<r→∀j,j<c→M a j=0)∧(k<r→lastP M c r=c)∧(0<k→k=r→lastP M c r=(P (k - 1):Nat))
  | 0,_=>⟨0,fun _=>0,Nat.le_refl _,fun i hi=>absurd hi (by omega),fun a _ ha=>absurd ha (by omega),fun h=>absurd h (by omega),fun h=>absurd h (by omega)⟩
  | r + 1,h=>by
    obtain ⟨k,P,hk,hE,hz,hl,hl2⟩:=cV.ech (r:=r) fun i hi=>h i (by omega)
    rcases h r (by omega) with hr | ⟨g1,g2,g3⟩
    · refine ⟨k,P,by omega,hE,fun a h1 h2=> ?_,fun _=>(jF hr).symm,fun _ e=>absurd e (by omega)⟩
      rcases Nat.lt_or_ge a r with e | e
      · exact hz a h1 e
      · obtain rfl:a=r:=by omega
        exact tR hr
    · have hnn:¬piv (M r) c<0:=by
        intro hn;have h1:=(eI (p:=iI) (z:=M r) c).2;have h2:da iI (M r) c= -1:=by unfold piv at hn;omega
        have h3:piv (M r) c= -1:=h2;have h4:(-1:Int)≤lastP M c r:=by
          cases r with
          | zero=>simp [lastP]
          | succ r=>simp only [lastP];have:=(eI (p:=iI) (z:=M r) c).2;split<;>(unfold piv at*;omega)
        omega
      obtain ⟨a1,a2,a3,a4⟩:=ls hnn;have hkr:k=r:=by
        rcases Nat.lt_or_ge k r with e | e
        · have:=hl e;omega
        · omega
      subst hkr;refine ⟨k + 1,fun i=>if i=k then (piv (M k) c).toNat else P i,by omega,?_,fun a h1 h2=>absurd h2 (by omega),fun h=>absurd h (by omega),fun _ _=> ?_⟩
      · intro i hi
        rcases Nat.lt_or_ge i k with e | e
        · obtain ⟨b1,b2,b3,b4⟩:=hE i e
          simp only [if_neg (show ¬i=k by omega)];exact ⟨b1,b2,b3,fun n hn=>by simp only [if_neg (show ¬n=k by omega)];exact b4 n hn⟩
        · obtain rfl:i=k:=by omega
          simp only [if_pos];refine ⟨a1,g2,a4,fun n hn=> ?_⟩;simp only [if_neg (show ¬n=i by omega)];refine ⟨?_,g3 n hn⟩;have hl3:=hl2 (by omega) rfl;have:∀m,m<i→P m≤P (i - 1):=by
            intro m hm;rcases Nat.lt_or_ge m (i - 1) with e | e
            · exact Nat.le_of_lt ((hE (i - 1) (by omega)).2.2.2 m e).1
            · obtain rfl:m=i - 1:=by omega
              exact Nat.le_refl _
          have:=this n hn;omega
      · rw [←jE hnn,←a2];simp
end Go.TL
namespace Go.TL
set_option linter.unusedVariables false
def pm (M:Nat→Nat→Int) (c:Nat) (R:Nat→Int) (i:Nat):Int:=if piv (M i) c<0 then 0 else R (piv (M i) c).toNat/M i (piv (M i) c).toNat
def cg (M:Nat→Nat→Int) (c:Nat) (z:Nat→Int):Nat→Nat→Int
  | 0=>z
  | i + 1=>fun j=>cg M c z i j - pm M c (cg M c z i) i*M i j
def cw (M:Nat→Nat→Int) (c:Nat) (z:Nat→Int) (i:Nat):Int:=pm M c (cg M c z i) i
theorem lk {M:Nat→Nat→Int} {c i:Nat} {R:Nat→Int} (h:piv (M i) c<0):pm M c R i=0:=if_pos h
theorem tK {M:Nat→Nat→Int} {c i:Nat} {R:Nat→Int} (h:¬piv (M i) c<0):pm M c R i=R (piv (M i) c).toNat/M i (piv (M i) c).toNat:=if_neg h
theorem qu {M:Nat→Nat→Int} {c i e:Nat} {R:Nat→Int} (hR:∀j,j<c→(R j).natAbs<2^e):(pm M c R i).natAbs<2^e:=by
  unfold pm
  split
  · exact Nat.two_pow_pos e
  · rename_i h
    exact Nat.lt_of_le_of_lt (Int.natAbs_ediv_le_natAbs _ _) (hR _ (ls h).1)
theorem mU {M:Nat→Nat→Int} {r c bm bz:Nat} {z:Nat→Int} (hM:∀i j,i<r→j<c→(M i j).natAbs<2^bm) (hz:∀j,j<c→(z j).natAbs<2^bz):
    ∀{i:Nat},i≤r→∀j,j<c→(cg M c z i j).natAbs<2^(bz + i*(bm + 1))
  | 0,_=>by rw [Nat.zero_mul,Nat.add_zero];exact hz
  | i + 1,hi=>by
    intro j hj;have ih:=mU hM hz (i:=i) (by omega);have h1:=ih j hj;have h2:=qu (i:=i) (M:=M) ih;have h3:=hM i j (by omega) hj;simp only [cg];have h4:(pm M c (cg M c z i) i*M i j).natAbs<2^(bz + i*(bm + 1))*2^bm:=by
      rw [Int.natAbs_mul];exact Nat.mul_lt_mul'' h2 h3
    have h5:2^(bz + (i + 1)*(bm + 1))=2*(2^(bz + i*(bm + 1))*2^bm):=by
      rw [←Nat.pow_add,Nat.mul_comm 2,←Nat.pow_succ];congr 1;rw [Nat.add_mul];omega
    have h6:2^(bz + i*(bm + 1))≤2^(bz + i*(bm + 1))*2^bm:=Nat.le_mul_of_pos_right _ (Nat.two_pow_pos _);rw [h5];omega
end Go.TL
namespace Go.TL
open Go.RowKit Go.Proofs
set_option linter.unusedVariables false
set_option linter.unusedSimpArgs false
set_option maxRecDepth 10000 in
theorem wU (w:World) (x:Value) (zx:Int) (btx:Nat) (hx:al w x zx btx):Calls Tryz.prog 96 #[x] w (ci w fun v w'=>v= .bool true):=by
 have hLIM:br=562949953421312:=rfl;obtain ⟨Ax,nx,cx,lx,rfl,hLx,hvx,htx,hnx,hbx⟩:=hx.form;have hbdx:=hx.bd;have hlimx:=hLx.lim;have hlex:=hLx.le;have holdx:=hLx.old;refine ak (N:=27) (rs:= #[.tmp 2]) Tryz.func96 rfl rfl rfl (Nat.le_of_ble_eq_true rfl) ?_;have hX:aF w w:=aF.refl w;refine ab ?_;refine RL.x rfl rfl (dj.box [.bool (decide (zx<0)),.slice (Ax) (nx) (cx)] rfl rfl) ?_;rintro _ w1 ⟨g1,rfl,hge1,hx1,hA1⟩;replace hLx:=aC.ext hLx hx1;replace hX:=aF.trans hX hx1;refine RL.p rfl rfl (cI.assign rfl) ?_;refine RL.nil ?_;refine ab ?_;refine RL.p rfl rfl (cI.fieldAddr aJ rfl) ?_;refine RL.p rfl rfl (cI.load bI rfl (hA1.at_ (i:=1) rfl rfl)) ?_;refine RL.p rfl rfl (cI.len ar rfl) ?_;refine RL.p rfl rfl (cI.assign rfl) ?_;refine RL.nil ?_;refine aK am 20 [_,_,fun v BI=>v= .bool (decide (((nx:Nat):Int)=(0:Int))),_,fun v BI=>(((nx:Nat):Int)=(0:Int))→(v= .bool (decide (zx<0))),_,_,fun v BI=>v= .bool (decide ((((nx:Nat):Int)=(0:Int))∧(¬(zx<0)))),_,_,fun v BI=>((¬((((nx:Nat):Int)=(0:Int))∧(¬(zx<0))))→(v= .bool (decide ((0:Int)<((nx:Nat):Int)))))∧(¬(¬((((nx:Nat):Int)=(0:Int))∧(¬(zx<0))))→v=undef),_,_,_,_,_,_,_,_,_] rfl rfl (fun e_ w_ BH BG=>⟨fun _=>aa (cI.move ((BG 3 rfl rfl))),fun BF=>aa (cI.eql ((BF 0 rfl)) rfl),fun BF=>aa (cI.move ((BF 1 rfl))),fun BF=>gT ((BF 2 rfl)) fun hg=>aa (cI.fieldAddr bL ((BG 1 rfl rfl))),fun BF=>gT ((BF 2 rfl)) fun hg=>aa (cI.load dB ((BF 3 rfl hg)) ((be.ext hA1 BH).at_ (i:=0) rfl rfl)),fun BF=>gT ((BF 2 rfl)) fun hg=>aa (cI.not (p:=zx<0) ((BF 4 rfl hg))),fun BF=>aa (ay (p:=((nx:Nat):Int)=(0:Int)) (q:=¬(zx<0)) ((BF 2 rfl)) (fun hq=>(BF 5 rfl hq))),fun BF=>aa (cI.move ((BF 6 rfl))),fun BF=>gF ((BF 7 rfl)) fun hg=>aa (cI.move ((BG 3 rfl rfl))),fun BF=>gF ((BF 7 rfl)) fun hg=>aa (cI.gtr ((BF 8 rfl hg)) rfl),fun BF=>gFU ((BF 7 rfl)) fun hg=>aa (cI.move ((BF 9 rfl hg))),fun BF=>gN (BF 10 rfl) fun hg=>aa (cI.fieldAddr aJ ((BG 1 rfl rfl))),fun BF=>gN (BF 10 rfl) fun hg=>aa (cI.load bI ((BF 11 rfl hg)) ((be.ext hA1 BH).at_ (i:=1) rfl rfl)),fun BF=>gN (BF 10 rfl) fun hg=>aa (cI.move ((BG 3 rfl rfl))),fun BF=>gN (BF 10 rfl) fun hg=>aa (cI.sub (c:=((nx - 1:Nat):Int)) ((BF 13 rfl hg)) rfl (bU (by omega))),fun BF=>gN (BF 10 rfl) fun hg=>aa (cI.index (j:=nx - 1) ar ((BF 12 rfl hg)) ((BF 14 rfl hg)) ((aC.ext hLx BH).addr (by omega)) (by omega) (by omega)),fun BF=>gN (BF 10 rfl) fun hg=>aa (cI.load bt ((BF 15 rfl hg)) (aY ((aC.ext hLx BH).get (i:=nx - 1) (by omega)))),fun BF=>gN (BF 10 rfl) fun hg=>aa (cI.neq ((BF 16 rfl hg)) rfl),fun BF=>gF ((BF 7 rfl)) fun hg=>aa (ay (p:=(0:Int)<((nx:Nat):Int)) (q:=((lx (nx - 1):Nat):Int)≠(0:Int)) (((BF 10 rfl).1 hg)) (fun hq=>((fun hq=>BF 17 rfl ⟨hg,hq⟩) hq))),fun BF=>aa (bq (p:=(((nx:Nat):Int)=(0:Int))∧(¬(zx<0))) (q:=((0:Int)<((nx:Nat):Int))∧(((lx (nx - 1):Nat):Int)≠(0:Int))) ((BF 7 rfl)) (fun hq=>(BF 18 rfl hq))),trivial⟩) ?_;intro e1 w2 hx2 ho1 hf1;replace hX:=aF.trans hX hx2;have s26_e1:e1 26=_:=hf1 19 rfl;refine RL.p rfl rfl (cI.assign s26_e1) ?_;refine RL.nil ?_;refine WP.ret ?_;refine ⟨.bool (decide (((((nx:Nat):Int)=(0:Int))∧(¬(zx<0)))∨(((0:Int)<((nx:Nat):Int))∧(((lx (nx - 1):Nat):Int)≠(0:Int))))),Bb.one (ge.tmp rfl),_,rfl,hX,?_⟩;dsimp only;refine congrArg _ (decide_eq_true ?_);rcases Nat.eq_zero_or_pos nx with h | h
 · left;subst h;exact ⟨rfl,fun h2=>by have h1:=gC hvx (by omega);omega⟩
 · right;have h1:=htx h;exact ⟨by omega,by omega⟩
set_option maxRecDepth 10000 in
theorem ui (w:World) (x:Value) (zx:Int) (btx:Nat) (hx:al w x zx btx):Calls Tryz.prog 95 #[x] w (ci w fun v w'=>v= .bool (decide (vX zx))):=by
 have hLIM:br=562949953421312:=rfl;refine ak (N:=6) (rs:= #[.tmp 2]) Tryz.func95 rfl rfl rfl (Nat.le_of_ble_eq_true rfl) ?_;have hX:aF w w:=aF.refl w;refine ab ?_;obtain ⟨ca1,cb1,hq1,ho1,ho2⟩:=al.cells (al.ext hx hX);have qi1:al w (.agg #[ca1,cb1]) zx btx:=hq1▸(al.ext hx hX);refine RL.x rfl rfl (dj.box [ca1,cb1] hq1 rfl) ?_;rintro _ w1 ⟨g1,rfl,hge1,hx1,hA1⟩;replace qi1:=al.ext qi1 hx1;replace hX:=aF.trans hX hx1;refine RL.p rfl rfl (cI.assign rfl) ?_;refine RL.nil ?_;refine ab ?_;refine RL.p rfl rfl (af [ca1,cb1] ao rfl (hA1.cells 0 _ rfl rfl)) ?_;refine RL.x rfl rfl (dj.call zT (aI rfl) (wU _ _ _ _ qi1)) ?_;rintro _ w2 ⟨hx2,rfl⟩;replace hX:=aF.trans hX hx2;refine RL.p rfl rfl (cI.not (p:=True) rfl) ?_;refine RL.p rfl rfl (cI.assign rfl) ?_;refine RL.nil ?_;refine WP.ret ?_;refine ⟨.bool (decide (¬(True))),Bb.one (ge.tmp rfl),_,rfl,hX,?_⟩
 rfl
set_option maxRecDepth 10000 in
theorem tD (w:World) (x:Value) (nx:Nat) (zx:Nat→Int) (btx:Nat) (fv:Value) (p:Int→Prop) [DecidablePred p] (hx:bO w x nx zx btx) (hF:zI Tryz.prog w fv btx p):Calls Tryz.prog 118 #[x,fv] w (ci w fun v w'=>v= .int .i64 (da p zx nx)):=by
 have hLIM:br=562949953421312:=rfl;have hlimx:=hx.lim;refine ak (N:=19) (rs:= #[.tmp 4]) Tryz.func118 rfl rfl rfl (Nat.le_of_ble_eq_true rfl) ?_;have hX:aF w w:=aF.refl w;refine ab ?_;refine RL.p rfl rfl (cI.assign rfl) ?_;refine RL.nil ?_;refine WP.seq ?_;refine ab ?_;refine RL.p rfl rfl (cI.move rfl) ?_;refine RL.p rfl rfl (cl bi rfl (bO.ext hx hX)) ?_;refine RL.p rfl rfl (cI.move rfl) ?_;refine RL.nil ?_;refine WP.block ?_;refine WP.loop (fun mz ez uz=>∃i:Nat,(mz=nx - i)∧(ez 0=x)∧(ez 1=fv)∧(ez 7= .int .i64 ((nx:Nat)))∧(ez 8= .int .i64 ((i:Nat)))∧(i≤nx)∧(da p zx i= -1)∧(aF w uz)) (nx - 0) ?_ ?_
 · exact ⟨0,rfl,rfl,rfl,rfl,rfl,(by omega),rfl,hX⟩
 rintro m1 e1 w1 ⟨i,hm1,s0_e1,s1_e1,s7_e1,s8_e1,hi,hnone,hX1⟩;refine ab ?_;refine RL.p rfl rfl (cI.lss s8_e1 s7_e1) ?_;refine RL.nil ?_;refine WP.seq ?_;refine ag (((i:Nat):Int)<((nx:Nat):Int)) rfl (fun c9=> ?_) (fun c9=> ?_)
 ·
  refine WP.skip ?_;refine pR.norm ?_;refine WP.seq ?_;refine WP.block ?_;refine ab ?_;refine RL.p rfl rfl (cI.move s8_e1) ?_;refine RL.p rfl rfl (cI.assign rfl) ?_;refine RL.nil ?_;refine ab ?_;refine RL.p rfl rfl (cI.move s1_e1) ?_;refine RL.p rfl rfl (cI.move s0_e1) ?_;refine RL.p rfl rfl (cI.move rfl) ?_;refine RL.x rfl rfl (bk (j:=i) bi rfl (bO.ext hx hX1) rfl (by omega) (by omega)) ?_;rintro v1 _ ⟨rfl,q1⟩;refine RL.x rfl rfl (bo ao rfl q1) ?_;rintro v2 _ ⟨rfl,q2⟩;refine RL.x rfl rfl (ke rfl (zI.ext hF hX1) rfl q2) ?_;rintro _ w2 ⟨hx1,rfl⟩;replace hX1:=aF.trans hX1 hx1;refine RL.nil ?_;refine ag (p (zx i)) rfl (fun c16=> ?_) (fun c16=> ?_)
  ·
   refine ab ?_;refine RL.p rfl rfl (cI.move rfl) ?_;refine RL.p rfl rfl (cI.assign rfl) ?_;refine RL.nil ?_;refine WP.ret ?_;refine jm.ret ?_;refine pR.ret ?_;refine pR.ret ?_;refine jm.ret ?_;refine pR.ret ?_;refine ⟨.int .i64 ((i:Nat)),Bb.one (ge.tmp rfl),_,rfl,hX1,?_⟩;dsimp only;rw [ek hnone c16 (by omega)]
  ·
   refine WP.skip ?_;refine jm.norm ?_;refine pR.norm ?_;refine WP.region ?_;refine RL.p rfl rfl (cI.add (c:=((i + 1:Nat):Int)) s8_e1 rfl (bU (by omega))) ?_;refine RL.p rfl rfl (cI.move rfl) ?_;refine RL.nil ?_;refine pR.norm ⟨_,(by omega),i + 1,rfl,s0_e1,s1_e1,s7_e1,rfl,(by omega),(gV hnone c16),hX1⟩
 ·
  refine WP.exit ?_;refine pR.exit ?_;refine pR.exit ?_;refine jm.same ?_;refine pR.norm ?_;refine ab ?_;refine RL.p rfl rfl (cI.assign rfl) ?_;refine RL.nil ?_;refine WP.ret ?_;refine ⟨.int .i64 (-1),Bb.one (ge.tmp rfl),_,rfl,hX1,?_⟩;dsimp only;rw [show nx=i by omega,hnone]
set_option maxRecDepth 10000 in
theorem od (w:World) (x:Value) (nx:Nat) (zx:Nat→Int) (btx:Nat) (fv:Value) (p:Int→Prop) [DecidablePred p] (hx:bO w x nx zx btx) (hF:zI Tryz.prog w fv btx p):Calls Tryz.prog 94 #[x,fv] w (ci w fun v w'=>v= .bool (decide (0≤da p zx nx))):=by
 have hLIM:br=562949953421312:=rfl;have hlimx:=hx.lim;refine ak (N:=9) (rs:= #[.tmp 4]) Tryz.func94 rfl rfl rfl (Nat.le_of_ble_eq_true rfl) ?_;have hX:aF w w:=aF.refl w;refine ab ?_;refine RL.p rfl rfl (cI.assign rfl) ?_;refine RL.nil ?_;refine ab ?_;refine RL.p rfl rfl (cI.move rfl) ?_;refine RL.p rfl rfl (cI.move rfl) ?_;refine RL.x rfl rfl (dj.call ys (ax rfl rfl) (tD _ _ _ _ _ _ p (bO.ext hx hX) (zI.ext hF hX))) ?_;rintro _ w1 ⟨hx1,rfl⟩;replace hX:=aF.trans hX hx1;refine RL.p rfl rfl (cI.geq rfl rfl) ?_;refine RL.p rfl rfl (cI.assign rfl) ?_;refine RL.nil ?_;refine WP.ret ?_;refine ⟨.bool (decide ((0:Int)≤(da p zx nx:Int))),Bb.one (ge.tmp rfl),_,rfl,hX,?_⟩
 rfl
set_option maxRecDepth 10000 in
theorem qI (w:World) (sx:Value) (Rx Cx nx cx:Nat) (Mx:Nat→Nat→Int) (btx:Nat) (hRx:Rx≤65536) (hCx:Cx≤65536) (hSx:co w sx nx cx Mx btx):Calls Tryz.prog 59 #[.agg #[.int .i64 (Rx:Nat),.int .i64 (Cx:Nat),sx]] w (ci w fun v w'=>v= .bool (decide (nN Rx Cx nx cx))):=by
 have hLIM:br=562949953421312:=rfl;have hlimx:=hSx.lim;refine ak (N:=38) (rs:= #[.tmp 2]) Tryz.func59 rfl rfl rfl (Nat.le_of_ble_eq_true rfl) ?_;have hX:aF w w:=aF.refl w;refine ab ?_;refine RL.x rfl rfl (dj.box [.int .i64 ((Rx:Nat)),.int .i64 ((Cx:Nat)),sx] rfl rfl) ?_;rintro _ w1 ⟨g1,rfl,hge1,hx1,hA1⟩;replace hX:=aF.trans hX hx1;refine RL.p rfl rfl (cI.assign rfl) ?_;refine RL.nil ?_;refine WP.seq ?_;refine aK am 16 [_,_,_,fun v BI=>v= .bool (decide (((Rx:Nat):Int)<(0:Int))),_,_,_,_,fun v BI=>v= .bool (decide ((((Rx:Nat):Int)<(0:Int))∨(((Cx:Nat):Int)<(0:Int)))),_,_,_,_,_,_,_] rfl rfl (fun e_ w_ BH BG=>⟨fun _=>aa (cI.fieldAddr bg ((BG 1 rfl rfl))),fun BF=>aa (cI.load bG ((BF 0 rfl)) ((be.ext hA1 BH).at_ (i:=0) rfl rfl)),fun BF=>aa (cI.lss ((BF 1 rfl)) rfl),fun BF=>aa (cI.move ((BF 2 rfl))),fun BF=>gF (BF 3 rfl) fun hg=>aa (cI.fieldAddr bE ((BG 1 rfl rfl))),fun BF=>gF (BF 3 rfl) fun hg=>aa (cI.load bG ((BF 4 rfl hg)) ((be.ext hA1 BH).at_ (i:=1) rfl rfl)),fun BF=>gF (BF 3 rfl) fun hg=>aa (cI.lss ((BF 5 rfl hg)) rfl),fun BF=>aa (bq (p:=((Rx:Nat):Int)<(0:Int)) (q:=((Cx:Nat):Int)<(0:Int)) (BF 3 rfl) (fun hq=>(BF 6 rfl hq))),fun BF=>aa (cI.move ((BF 7 rfl))),fun BF=>gF (BF 8 rfl) fun hg=>aa (cI.fieldAddr aq ((BG 1 rfl rfl))),fun BF=>gF (BF 8 rfl) fun hg=>aa (cI.load aH ((BF 9 rfl hg)) ((be.ext hA1 BH).at_ (i:=2) rfl rfl)),fun BF=>gF (BF 8 rfl) fun hg=>aa (cA aB (BF 10 rfl hg) (co.ext (co.ext hSx hX) BH)),fun BF=>gF (BF 8 rfl) fun hg=>aa (cI.fieldAddr bg ((BG 1 rfl rfl))),fun BF=>gF (BF 8 rfl) fun hg=>aa (cI.load bG ((BF 12 rfl hg)) ((be.ext hA1 BH).at_ (i:=0) rfl rfl)),fun BF=>gF (BF 8 rfl) fun hg=>aa (cI.neq ((BF 11 rfl hg)) ((BF 13 rfl hg))),fun BF=>aa (bq (p:=(((Rx:Nat):Int)<(0:Int))∨(((Cx:Nat):Int)<(0:Int))) (q:=((nx:Nat):Int)≠((Rx:Nat):Int)) (BF 8 rfl) (fun hq=>(BF 14 rfl hq))),trivial⟩) ?_;intro e1 w2 hx2 ho1 hf1;replace hA1:=be.ext hA1 hx2;replace hX:=aF.trans hX hx2;have s1_e1:e1 1=_:=ho1 1 rfl rfl;have s20_e1:e1 20=_:=hf1 15 rfl;refine RL.nil ?_;refine ag (((((Rx:Nat):Int)<(0:Int))∨(((Cx:Nat):Int)<(0:Int)))∨(((nx:Nat):Int)≠((Rx:Nat):Int))) s20_e1 (fun c20=> ?_) (fun c20=> ?_)
 ·
  refine ab ?_;refine RL.p rfl rfl (cI.assign rfl) ?_;refine RL.nil ?_;refine WP.ret ?_;refine pR.ret ?_;refine ⟨.bool (false),Bb.one (ge.tmp rfl),_,rfl,hX,?_⟩;dsimp only;exact congrArg _ (decide_eq_false fun h=>by have:=h.1;omega).symm
 ·
  refine WP.skip ?_;refine pR.norm ?_;refine WP.seq ?_;refine ab ?_;refine RL.p rfl rfl (cI.fieldAddr aq s1_e1) ?_;refine RL.p rfl rfl (cI.load aH rfl (hA1.at_ (i:=2) rfl rfl)) ?_;refine RL.p rfl rfl (cA aB rfl (co.ext hSx hX)) ?_;refine RL.p rfl rfl (cI.move rfl) ?_;refine RL.nil ?_;refine WP.block ?_;refine WP.loop (fun mz ez uz=>∃i:Nat,(mz=nx - i)∧(ez 1= .pointer (some ⟨g1,0,none⟩))∧(ez 22=sx)∧(ez 23= .int .i64 ((nx:Nat)))∧(ez 24= .int .i64 ((i:Nat)))∧(i≤nx)∧(i=0∨Cx=cx)∧(aF w uz)∧(be uz g1 28 3 (bS [.int .i64 ((Rx:Nat)),.int .i64 ((Cx:Nat)),sx]))) (nx - 0) ?_ ?_
  · exact ⟨0,rfl,s1_e1,rfl,rfl,rfl,(by omega),(.inl rfl),hX,hA1⟩
  rintro m1 e2 w3 ⟨i,hm1,s1_e2,s22_e2,s23_e2,s24_e2,hi,hok,hX1,hA1⟩;refine ab ?_;refine RL.p rfl rfl (cI.lss s24_e2 s23_e2) ?_;refine RL.nil ?_;refine WP.seq ?_;refine ag (((i:Nat):Int)<((nx:Nat):Int)) rfl (fun c25=> ?_) (fun c25=> ?_)
  ·
   refine WP.skip ?_;refine pR.norm ?_;refine WP.seq ?_;refine WP.block ?_;refine ab ?_;refine RL.x rfl rfl (aZ (j:=i) aB s22_e2 (co.ext hSx hX1) s24_e2 (by omega) (by omega)) ?_;rintro v1 _ ⟨rfl,q1⟩;refine RL.x rfl rfl (bn aU rfl q1) ?_;rintro v2 _ ⟨rfl,q2⟩;refine RL.p rfl rfl (cI.assign rfl) ?_;refine RL.nil ?_;refine aK am 9 [_,_,_,_,_,fun v BI=>v= .bool (decide (((cx:Nat):Int)≠((Cx:Nat):Int))),_,fun v BI=>(¬(((cx:Nat):Int)≠((Cx:Nat):Int)))→(v= .bool (decide (0≤da vX (Mx i) cx))),_] rfl rfl (fun e_ w_ BH BG=>⟨fun _=>aa (cI.move ((BG 4 rfl rfl))),fun BF=>aa (cl bi (BF 0 rfl) (bO.ext q2 BH)),fun _=>aa (cI.fieldAddr bE ((BG 1 rfl s1_e2))),fun BF=>aa (cI.load bG ((BF 2 rfl)) ((be.ext hA1 BH).at_ (i:=1) rfl rfl)),fun BF=>aa (cI.neq ((BF 1 rfl)) ((BF 3 rfl))),fun BF=>aa (cI.move ((BF 4 rfl))),fun BF=>gF (BF 5 rfl) fun hg=>aa (cI.move ((BG 4 rfl rfl))),fun BF=>gF (BF 5 rfl) fun hg=>dj.call zV (ax ((BF 6 rfl hg)) rfl) (od _ _ _ _ _ _ vX (bO.ext q2 BH) (⟨95,#[],#[],rfl,zU,fun w1 hw1 x z hI=>ui _ _ _ _ hI⟩)),fun BF=>aa (bq (p:=((cx:Nat):Int)≠((Cx:Nat):Int)) (q:=0≤da vX (Mx i) cx) (BF 5 rfl) (fun hq=>(BF 7 rfl hq))),trivial⟩) ?_;intro e3 w4 hx3 ho2 hf2;replace hA1:=be.ext hA1 hx3;replace hX1:=aF.trans hX1 hx3;have s1_e3:=ho2 1 rfl s1_e2;have s22_e3:=ho2 22 rfl s22_e2;have s23_e3:=ho2 23 rfl s23_e2;have s24_e3:=ho2 24 rfl s24_e2;have s36_e3:e3 36=_:=hf2 8 rfl;refine RL.nil ?_;refine ag ((((cx:Nat):Int)≠((Cx:Nat):Int))∨(0≤da vX (Mx i) cx)) s36_e3 (fun c36=> ?_) (fun c36=> ?_)
   ·
    refine ab ?_;refine RL.p rfl rfl (cI.assign rfl) ?_;refine RL.nil ?_;refine WP.ret ?_;refine jm.ret ?_;refine pR.ret ?_;refine pR.ret ?_;refine jm.ret ?_;refine pR.ret ?_;refine ⟨.bool (false),Bb.one (ge.tmp rfl),_,rfl,hX1,?_⟩;dsimp only;exact congrArg _ (decide_eq_false fun h=>ww (i:=i) h (by omega) c36).symm
   ·
    refine WP.skip ?_;refine jm.norm ?_;refine pR.norm ?_;refine WP.region ?_;refine RL.p rfl rfl (cI.add (c:=((i + 1:Nat):Int)) s24_e3 rfl (bU (by omega))) ?_;refine RL.p rfl rfl (cI.move rfl) ?_;refine RL.nil ?_;refine pR.norm ⟨_,(by omega),i + 1,rfl,s1_e3,s22_e3,s23_e3,rfl,(by omega),(.inr (wv c36)),hX1,hA1⟩
  ·
   refine WP.exit ?_;refine pR.exit ?_;refine pR.exit ?_;refine jm.same ?_;refine pR.norm ?_;refine ab ?_;refine RL.p rfl rfl (cI.assign rfl) ?_;refine RL.nil ?_;refine WP.ret ?_;refine ⟨.bool (true),Bb.one (ge.tmp rfl),_,rfl,hX1,?_⟩;dsimp only;exact congrArg _ (decide_eq_true ⟨by omega,by omega⟩).symm
set_option maxRecDepth 10000 in
theorem yW (w:World) (o:Value) (zo:Int) (bto:Nat) (x:Value) (zx:Int) (btx:Nat) (y:Value) (zy:Int) (bty:Nat) (ho:al w o zo bto) (hx:al w x zx btx) (hy:al w y zy bty) (hb:btx + bty + 1≤br) (hb2:bto + 1≤br) (hfit:(zo + zx*zy).natAbs<2^bto):Calls Tryz.prog 121 #[o,x,y] w (ci w fun v w'=>al w' v (zo + zx*zy) bto):=by
 have hLIM:br=562949953421312:=rfl;refine ak (N:=21) (rs:= #[.cell 6 49]) Tryz.func121 rfl rfl rfl (Nat.le_of_ble_eq_true rfl) ?_;have hX:aF w w:=aF.refl w;refine ab ?_;obtain ⟨ca1,cb1,hq1,ho1,ho2⟩:=al.cells (al.ext ho hX);have qi1:al w (.agg #[ca1,cb1]) zo bto:=hq1▸(al.ext ho hX);refine RL.x rfl rfl (dj.box [ca1,cb1] hq1 rfl) ?_;rintro _ w1 ⟨g1,rfl,hge1,hx1,hA1⟩;replace qi1:=al.ext qi1 hx1;replace hX:=aF.trans hX hx1;obtain ⟨ca2,cb2,hq2,ho3,ho4⟩:=al.cells (al.ext hx hX);have qi2:al w1 (.agg #[ca2,cb2]) zx btx:=hq2▸(al.ext hx hX);refine RL.x rfl rfl (dj.box [ca2,cb2] hq2 rfl) ?_;rintro _ w2 ⟨g2,rfl,hge2,hx2,hA2⟩;replace qi1:=al.ext qi1 hx2;replace hA1:=be.ext hA1 hx2;replace qi2:=al.ext qi2 hx2;replace hX:=aF.trans hX hx2;obtain ⟨ca3,cb3,hq3,ho5,ho6⟩:=al.cells (al.ext hy hX);have qi3:al w2 (.agg #[ca3,cb3]) zy bty:=hq3▸(al.ext hy hX);refine RL.x rfl rfl (dj.box [ca3,cb3] hq3 rfl) ?_;rintro _ w3 ⟨g3,rfl,hge3,hx3,hA3⟩;replace qi1:=al.ext qi1 hx3;replace hA1:=be.ext hA1 hx3;replace qi2:=al.ext qi2 hx3;replace hA2:=be.ext hA2 hx3;replace qi3:=al.ext qi3 hx3;replace hX:=aF.trans hX hx3;refine RL.x rfl rfl (dj.alloc [.bool (false),.slice (none) (0) (0)] bH rfl) ?_;rintro _ w4 ⟨g4,rfl,hge4,hx4,hA4⟩;have hbs4:w.heap.size≤g4:=Nat.le_trans hX.size hge4;replace qi1:=al.ext qi1 hx4;replace hA1:=be.ext hA1 hx4;replace qi2:=al.ext qi2 hx4;replace hA2:=be.ext hA2 hx4;replace qi3:=al.ext qi3 hx4;replace hA3:=be.ext hA3 hx4;replace hX:=aF.trans hX hx4;refine RL.nil ?_;refine WP.seq ?_;refine aK am 8 [_,_,_,fun v BI=>v= .bool (decide (((zx:Int).sign:Int)=(0:Int))),_,_,_,_] rfl rfl (fun e_ w_ BH BG=>⟨fun _=>aa (af [ca2,cb2] ao ((BG 4 rfl rfl)) ((be.ext hA2 BH).cells 0 _ rfl rfl)),fun BF=>dj.call jS (aI ((BF 0 rfl))) (gz _ _ _ _ ((al.ext qi2 BH))),fun BF=>aa (cI.eql ((BF 1 rfl)) rfl),fun BF=>aa (cI.move ((BF 2 rfl))),fun BF=>gF (BF 3 rfl) fun hg=>aa (af [ca3,cb3] ao ((BG 5 rfl rfl)) ((be.ext hA3 BH).cells 0 _ rfl rfl)),fun BF=>gF (BF 3 rfl) fun hg=>dj.call jS (aI ((BF 4 rfl hg))) (gz _ _ _ _ ((al.ext qi3 BH))),fun BF=>gF (BF 3 rfl) fun hg=>aa (cI.eql ((BF 5 rfl hg)) rfl),fun BF=>aa (bq (p:=((zx:Int).sign:Int)=(0:Int)) (q:=((zy:Int).sign:Int)=(0:Int)) (BF 3 rfl) (fun hq=>(BF 6 rfl hq))),trivial⟩) ?_;intro e1 w5 hx5 ho7 hf1;replace qi1:=al.ext qi1 hx5;replace hA1:=be.ext hA1 hx5;replace qi2:=al.ext qi2 hx5;replace hA2:=be.ext hA2 hx5;replace qi3:=al.ext qi3 hx5;replace hA3:=be.ext hA3 hx5;replace hA4:=be.ext hA4 hx5;replace hX:=aF.trans hX hx5;have s3_e1:e1 3=_:=ho7 3 rfl rfl;have s4_e1:e1 4=_:=ho7 4 rfl rfl;have s5_e1:e1 5=_:=ho7 5 rfl rfl;have s6_e1:e1 6=_:=ho7 6 rfl rfl;have s14_e1:e1 14=_:=hf1 7 rfl;refine RL.nil ?_;refine ag ((((zx:Int).sign:Int)=(0:Int))∨(((zy:Int).sign:Int)=(0:Int))) s14_e1 (fun c14=> ?_) (fun c14=> ?_)
 ·
  refine ab ?_;refine RL.p rfl rfl (af [ca1,cb1] ao s3_e1 (hA1.cells 0 _ rfl rfl)) ?_;refine RL.x rfl rfl (dj.store [ca1,cb1] aN s6_e1 rfl rfl hA4 (Nat.le_of_ble_eq_true rfl) (bj ho1 ho2)) ?_;rintro _ w6 ⟨hk1,hnew⟩;replace qi1:=ae qi1 hk1 hA4 (by decide);replace hX:=hX.step hk1 (fun b e=>by subst e;exact hbs4);replace hA4:=hnew.lit [ca1,cb1] rfl;clear hnew;refine RL.nil ?_;refine WP.ret ?_;refine pR.ret ?_;refine ⟨.agg #[ca1,cb1],Bb.one (aj [ca1,cb1] ao s6_e1 (hA4.cells 0 _ rfl rfl)),_,rfl,hX,?_⟩;dsimp only;exact al.eq qi1 (uS c14) hfit (by omega)
 ·
  refine WP.skip ?_;refine pR.norm ?_;refine aK am 5 [_,_,_,_,_] rfl rfl (fun e_ w_ BH BG=>⟨fun _=>aa (af [ca1,cb1] ao ((BG 3 rfl s3_e1)) ((be.ext hA1 BH).cells 0 _ rfl rfl)),fun _=>aa (af [ca2,cb2] ao ((BG 4 rfl s4_e1)) ((be.ext hA2 BH).cells 0 _ rfl rfl)),fun _=>aa (af [ca3,cb3] ao ((BG 5 rfl s5_e1)) ((be.ext hA3 BH).cells 0 _ rfl rfl)),fun BF=>dj.call qh (ax ((BF 1 rfl)) ((BF 2 rfl))) (ri _ _ _ _ _ _ _ ((btx) + (bty)) ((al.ext qi2 BH)) ((al.ext qi3 BH)) (by omega) (by omega)),fun BF=>dj.call mR (ax ((BF 0 rfl)) rfl) (rj _ _ _ _ _ _ _ (max (bto) ((btx) + (bty)) + 1) ((al.ext qi1 BH)) ((BF 3 rfl)) (by omega) (by omega) (by omega)),trivial⟩) ?_;intro e2 w7 hx6 ho8 hf2;replace hA4:=be.ext hA4 hx6;replace hX:=aF.trans hX hx6;have s6_e2:=ho8 6 rfl s6_e1;have s20_e2:al w7 (e2 20) ((zo:Int) + ((zx:Int)*(zy:Int):Int)) (max (bto) ((btx) + (bty)) + 1):=hf2 4 rfl;obtain ⟨ca4,cb4,hq4,ho9,ho10⟩:=al.cells s20_e2;have qi4:al w7 (.agg #[ca4,cb4]) ((zo:Int) + ((zx:Int)*(zy:Int):Int)) (max (bto) ((btx) + (bty)) + 1):=hq4▸s20_e2;refine RL.x rfl rfl (dj.store [ca4,cb4] aN s6_e2 hq4 rfl hA4 (Nat.le_of_ble_eq_true rfl) (bj ho9 ho10)) ?_;rintro _ w8 ⟨hk2,hnew⟩;replace qi4:=ae qi4 hk2 hA4 (by decide);replace hX:=hX.step hk2 (fun b e=>by subst e;exact hbs4);replace hA4:=hnew.lit [ca4,cb4] rfl;clear hnew;refine RL.nil ?_;refine WP.ret ?_;refine ⟨.agg #[ca4,cb4],Bb.one (aj [ca4,cb4] ao s6_e2 (hA4.cells 0 _ rfl rfl)),_,rfl,hX,?_⟩;dsimp only;exact al.eq qi4 rfl hfit (by omega)
set_option maxRecDepth 10000 in
theorem yV (w:World) (x:Value) (nx:Nat) (zx:Nat→Int) (btx:Nat) (y:Value) (zy:Nat→Int) (bty:Nat) (o:Value) (zo:Int) (bto:Nat) (fv:Value) (hx:bO w x nx zx btx) (hy:bO w y nx zy bty) (ho:al w o zo bto) (hF:Bh Tryz.prog w fv btx bty bto) (hlo:bto≤br) (hfit:∀k,k≤nx→(zo + aO k (fun a=>zx a*zy a)).natAbs<2^bto):Calls Tryz.prog 120 #[x,y,o,fv] w (ci w fun v w'=>al w' v (zo + aO nx (fun a=>zx a*zy a)) bto):=by
 have hLIM:br=562949953421312:=rfl;have hlimx:=hx.lim;have hlimy:=hy.lim;refine ak (N:=28) (rs:= #[.cell 8 49]) Tryz.func120 rfl rfl rfl (Nat.le_of_ble_eq_true rfl) ?_;have hX:aF w w:=aF.refl w;refine ab ?_;obtain ⟨ca1,cb1,hq1,ho1,ho2⟩:=al.cells (al.ext ho hX);have qi1:al w (.agg #[ca1,cb1]) zo bto:=hq1▸(al.ext ho hX);refine RL.x rfl rfl (dj.box [ca1,cb1] hq1 rfl) ?_;rintro _ w1 ⟨g1,rfl,hge1,hx1,hA1⟩;have hbs1:w.heap.size≤g1:=Nat.le_trans hX.size hge1;replace qi1:=al.ext qi1 hx1;replace hX:=aF.trans hX hx1;refine RL.x rfl rfl (dj.alloc [.bool (false),.slice (none) (0) (0)] bH rfl) ?_;rintro _ w2 ⟨g2,rfl,hge2,hx2,hA2⟩;have ne1:g1≠g2:=Nat.ne_of_lt (Nat.lt_of_lt_of_le hA1.lt hge2);have hbs2:w.heap.size≤g2:=Nat.le_trans hX.size hge2;replace qi1:=al.ext qi1 hx2;replace hA1:=be.ext hA1 hx2;replace hX:=aF.trans hX hx2;refine RL.nil ?_;refine WP.seq ?_;refine ab ?_;refine RL.p rfl rfl (cI.move rfl) ?_;refine RL.p rfl rfl (cl bi rfl (bO.ext hx hX)) ?_;refine RL.p rfl rfl (cI.move rfl) ?_;refine RL.nil ?_;refine WP.block ?_;refine WP.loop (fun mz ez uz=>∃i:Nat,∃ka:Value,∃kb:Value,(mz=nx - i)∧(ez 0=x)∧(ez 1=y)∧(ez 3=fv)∧(ez 6= .pointer (some ⟨g1,0,none⟩))∧(ez 8= .pointer (some ⟨g2,0,none⟩))∧(ez 11= .int .i64 ((nx:Nat)))∧(ez 12= .int .i64 ((i:Nat)))∧(i≤nx)∧(al uz (.agg #[ka,kb]) (zo + aO i (fun a=>zx a*zy a)) bto)∧(aF w uz)∧(be uz g1 49 2 (bS [ka,kb]))∧(be uz g2 49 2 (bS [.bool (false),.slice (none) (0) (0)]))) (nx - 0) ?_ ?_
 · exact ⟨0,ca1,cb1,rfl,rfl,rfl,rfl,rfl,rfl,rfl,rfl,(by omega),(al.eq qi1 (Int.add_zero _).symm (hfit 0 (Nat.zero_le _)) (by omega)),hX,hA1,hA2⟩
 rintro m1 e1 w3 ⟨i,ka,kb,hm1,s0_e1,s1_e1,s3_e1,s6_e1,s8_e1,s11_e1,s12_e1,hi,hIk,hX1,hA1,hA2⟩;refine ab ?_;refine RL.p rfl rfl (cI.lss s12_e1 s11_e1) ?_;refine RL.nil ?_;refine WP.seq ?_;refine ag (((i:Nat):Int)<((nx:Nat):Int)) rfl (fun c13=> ?_) (fun c13=> ?_)
 ·
  refine WP.skip ?_;refine pR.norm ?_;refine WP.seq ?_;refine WP.block ?_;refine ab ?_;refine RL.p rfl rfl (cI.move s12_e1) ?_;refine RL.p rfl rfl (cI.assign rfl) ?_;refine RL.nil ?_;refine WP.ds am 11 [_,_,_,_,_,_,_,_,_,_,fun v BI=>al BI v ((zo + aO i (fun a=>zx a*zy a)) + (zx i)*(zy i)) bto] rfl rfl (fun e_ w_ BH BG=>⟨fun _=>aa (cI.move ((BG 3 rfl s3_e1))),fun _=>aa (af [ka,kb] ao ((BG 6 rfl s6_e1)) ((be.ext hA1 BH).cells 0 _ rfl rfl)),fun _=>aa (cI.move ((BG 0 rfl s0_e1))),fun _=>aa (cI.move ((BG 9 rfl rfl))),fun BF=>ah (bk (j:=i) bi (BF 2 rfl) (bO.ext (bO.ext hx hX1) BH) (BF 3 rfl) (by omega) (by omega)),fun BF=>ah (bo ao rfl (BF 4 rfl)),fun _=>aa (cI.move ((BG 1 rfl s1_e1))),fun _=>aa (cI.move ((BG 9 rfl rfl))),fun BF=>ah (bk (j:=i) bi (BF 6 rfl) (bO.ext (bO.ext hy hX1) BH) (BF 7 rfl) (by omega) (by omega)),fun BF=>ah (bo ao rfl (BF 8 rfl)),fun BF=>oV (BF 0 rfl) (Bh.ext (Bh.ext hF hX1) BH) (BF 1 rfl) rfl rfl (al.ext hIk BH) (BF 5 rfl) (BF 9 rfl) (by rw [Int.add_assoc];exact hfit (i + 1) (by omega)),trivial⟩) ?_;intro e2 w4 hx3 ho3 hf1;replace hA1:=be.ext hA1 hx3;replace hA2:=be.ext hA2 hx3;replace hX1:=aF.trans hX1 hx3;have s0_e2:=ho3 0 rfl s0_e1;have s1_e2:=ho3 1 rfl s1_e1;have s3_e2:=ho3 3 rfl s3_e1;have s6_e2:=ho3 6 rfl s6_e1;have s8_e2:=ho3 8 rfl s8_e1;have s11_e2:=ho3 11 rfl s11_e1;have s12_e2:=ho3 12 rfl s12_e1;have s25_e2:al w4 (e2 25) ((zo + aO i (fun a=>zx a*zy a)) + (zx i)*(zy i)) bto:=hf1 10 rfl;obtain ⟨ca2,cb2,hq2,ho4,ho5⟩:=al.cells s25_e2;have qi2:al w4 (.agg #[ca2,cb2]) ((zo + aO i (fun a=>zx a*zy a)) + (zx i)*(zy i)) bto:=hq2▸s25_e2;refine RL.x rfl rfl (dj.store [ca2,cb2] aN s6_e2 hq2 rfl hA1 (Nat.le_of_ble_eq_true rfl) (bj ho4 ho5)) ?_;rintro _ w5 ⟨hk1,hnew⟩;replace hA2:=hA2.keep hk1 (Ne.symm ne1);replace qi2:=ae qi2 hk1 hA1 (by decide);replace hX1:=hX1.step hk1 (fun b e=>by subst e;exact hbs1);replace hA1:=hnew.lit [ca2,cb2] rfl;clear hnew;refine RL.nil ?_;refine jm.norm ?_;refine pR.norm ?_;refine WP.region ?_;refine RL.p rfl rfl (cI.add (c:=((i + 1:Nat):Int)) s12_e2 rfl (bU (by omega))) ?_;refine RL.p rfl rfl (cI.move rfl) ?_;refine RL.nil ?_;refine pR.norm ⟨_,(by omega),i + 1,ca2,cb2,rfl,s0_e2,s1_e2,s3_e2,s6_e2,s8_e2,s11_e2,rfl,(by omega),(al.eq qi2 (Int.add_assoc _ _ _) (hfit (i + 1) (by omega)) (by omega)),hX1,hA1,hA2⟩
 ·
  refine WP.exit ?_;refine pR.exit ?_;refine pR.exit ?_;refine jm.same ?_;refine pR.norm ?_;refine ab ?_;refine RL.p rfl rfl (af [ka,kb] ao s6_e1 (hA1.cells 0 _ rfl rfl)) ?_;refine RL.x rfl rfl (dj.store [ka,kb] aN s8_e1 rfl rfl hA2 (Nat.le_of_ble_eq_true rfl) (bj (sQ hIk) (al.oneB hIk))) ?_;rintro _ w6 ⟨hk2,hnew⟩;replace hIk:=ae hIk hk2 hA2 (by decide);replace hX1:=hX1.step hk2 (fun b e=>by subst e;exact hbs2);replace hA2:=hnew.lit [ka,kb] rfl;clear hnew;refine RL.nil ?_;refine WP.ret ?_;refine ⟨.agg #[ka,kb],Bb.one (aj [ka,kb] ao s8_e1 (hA2.cells 0 _ rfl rfl)),_,rfl,hX1,?_⟩;dsimp only;have hin:i=nx:=by omega
  subst hin;exact hIk
set_option maxRecDepth 10000 in
theorem AK (w:World) (x:Value) (nx:Nat) (zx:Nat→Int) (btx:Nat) (y:Value) (zy:Nat→Int) (bty:Nat) (b:Nat) (hx:bO w x nx zx btx) (hy:bO w y nx zy bty) (hb:btx + bty + 1≤br) (hb2:b + 1≤br) (hfit:∀k,k≤nx→(aO k (fun a=>zx a*zy a)).natAbs<2^b):Calls Tryz.prog 99 #[x,y] w (ci w fun v w'=>al w' v (aO nx (fun a=>zx a*zy a)) b):=by
 have hLIM:br=562949953421312:=rfl;have hlimx:=hx.lim;have hlimy:=hy.lim;refine ak (N:=9) (rs:= #[.cell 4 49]) Tryz.func99 rfl rfl rfl (Nat.le_of_ble_eq_true rfl) ?_;have hX:aF w w:=aF.refl w;refine ab ?_;refine RL.x rfl rfl (dj.alloc [.bool (false),.slice (none) (0) (0)] bH rfl) ?_;rintro _ w1 ⟨g1,rfl,hge1,hx1,hA1⟩;have hbs1:w.heap.size≤g1:=Nat.le_trans hX.size hge1;replace hX:=aF.trans hX hx1;refine RL.nil ?_;refine ab ?_;refine RL.p rfl rfl (cI.move rfl) ?_;refine RL.p rfl rfl (cI.move rfl) ?_;refine RL.p rfl rfl (cI.build (vs:= []) [(0,1),(1,1)] jQ bH (jx) rfl) ?_;refine RL.x rfl rfl (dj.call yq (rl rfl rfl rfl rfl) (yV _ _ _ _ _ _ _ _ _ 0 b _ (bO.ext hx hX) (bO.ext hy hX) (al.up (al.zero _) (Nat.zero_le _) (by omega)) ⟨121,#[],#[],rfl,yp,fun w1 hw1 o x y zo zx zy h1 h2 h3 hb=>yW _ _ _ _ _ _ _ _ _ _ h1 h2 h3 (by omega) (by omega) hb⟩ (by omega) (fun k hk=>by rw [Int.zero_add];exact hfit k hk))) ?_;rintro v1 w2 ⟨hx2,q1⟩;replace hA1:=be.ext hA1 hx2;replace hX:=aF.trans hX hx2;obtain ⟨ca1,cb1,hq1,ho1,ho2⟩:=al.cells q1;have qi1:al w2 (.agg #[ca1,cb1]) (0 + aO nx (fun a=>zx a*zy a)) b:=hq1▸q1;refine RL.x rfl rfl (dj.store [ca1,cb1] aN rfl hq1 rfl hA1 (Nat.le_of_ble_eq_true rfl) (bj ho1 ho2)) ?_;rintro _ w3 ⟨hk1,hnew⟩;replace qi1:=ae qi1 hk1 hA1 (by decide);replace hX:=hX.step hk1 (fun b e=>by subst e;exact hbs1);replace hA1:=hnew.lit [ca1,cb1] rfl;clear hnew;refine RL.nil ?_;refine WP.ret ?_;refine ⟨.agg #[ca1,cb1],Bb.one (aj [ca1,cb1] ao rfl (hA1.cells 0 _ rfl rfl)),_,rfl,hX,?_⟩;dsimp only;exact al.eq qi1 (Int.zero_add _) (hfit nx (Nat.le_refl _)) (by omega)
set_option maxRecDepth 10000 in
theorem yX (w:World) (i:Nat) (j:Nat) (gx:Nat) (sx:Value) (rx cx:Nat) (Mx:Nat→Nat→Int) (btx:Nat) (gy:Nat) (sy:Value) (ry:Nat) (My:Nat→Nat→Int) (bty:Nat) (b:Nat) (hAx:be w gx 28 3 (bS [.int .i64 (rx:Nat),.int .i64 (cx:Nat),sx])) (hSx:co w sx rx cx Mx btx) (hrx:rx≤65536) (hcx:cx≤65536) (hAy:be w gy 28 3 (bS [.int .i64 (ry:Nat),.int .i64 (cx:Nat),sy])) (hSy:co w sy ry cx My bty) (hry:ry≤65536) (hcy:cx≤65536) (hi:i<rx) (hj:j<ry) (hb:btx + bty + 1≤br) (hb2:b + 1≤br) (hfit:∀k,k≤cx→(aO k (fun a=>Mx i a*My j a)).natAbs<2^b):Calls Tryz.prog 98 #[.int .i64 (i:Nat),.int .i64 (j:Nat),.pointer (some ⟨gx,0,none⟩),.pointer (some ⟨gy,0,none⟩)] w (ci w fun v w'=>al w' v (aO cx (fun a=>Mx i a*My j a)) b):=by
 have hLIM:br=562949953421312:=rfl;refine ak (N:=18) (rs:= #[.cell 6 49]) Tryz.func98 rfl rfl rfl (Nat.le_of_ble_eq_true rfl) ?_;have hX:aF w w:=aF.refl w;refine ab ?_;refine RL.x rfl rfl (dj.alloc [.bool (false),.slice (none) (0) (0)] bH rfl) ?_;rintro _ w1 ⟨g1,rfl,hge1,hx1,hA1⟩;have hbs1:w.heap.size≤g1:=Nat.le_trans hX.size hge1;replace hX:=aF.trans hX hx1;refine RL.nil ?_;refine aK am 11 [_,_,_,_,_,_,_,_,_,_,_] rfl rfl (fun e_ w_ BH BG=>⟨fun _=>aa (cI.fieldAddr aq ((BG 2 rfl rfl))),fun BF=>aa (cI.load aH ((BF 0 rfl)) ((be.ext (be.ext hAx hX) BH).at_ (i:=2) rfl rfl)),fun _=>aa (cI.move ((BG 0 rfl rfl))),fun BF=>ah (aZ (j:=i) aB (BF 1 rfl) (co.ext (co.ext hSx hX) BH) (BF 2 rfl) (by omega) (by omega)),fun BF=>ah (bn aU rfl (BF 3 rfl)),fun _=>aa (cI.fieldAddr aq ((BG 3 rfl rfl))),fun BF=>aa (cI.load aH ((BF 5 rfl)) ((be.ext (be.ext hAy hX) BH).at_ (i:=2) rfl rfl)),fun _=>aa (cI.move ((BG 1 rfl rfl))),fun BF=>ah (aZ (j:=j) aB (BF 6 rfl) (co.ext (co.ext hSy hX) BH) (BF 7 rfl) (by omega) (by omega)),fun BF=>ah (bn aU rfl (BF 8 rfl)),fun BF=>dj.call zQ (ax rfl rfl) (AK _ _ _ _ _ _ _ _ b (BF 4 rfl) (BF 9 rfl) (by omega) (by omega) (fun k hk=>hfit k hk)),trivial⟩) ?_;intro e1 w2 hx2 ho1 hf1;replace hA1:=be.ext hA1 hx2;replace hX:=aF.trans hX hx2;have s6_e1:e1 6=_:=ho1 6 rfl rfl;have s17_e1:al w2 (e1 17) (aO cx (fun a=>(Mx i) a*(My j) a)) b:=hf1 10 rfl;obtain ⟨ca1,cb1,hq1,ho2,ho3⟩:=al.cells s17_e1;have qi1:al w2 (.agg #[ca1,cb1]) (aO cx (fun a=>(Mx i) a*(My j) a)) b:=hq1▸s17_e1;refine RL.x rfl rfl (dj.store [ca1,cb1] aN s6_e1 hq1 rfl hA1 (Nat.le_of_ble_eq_true rfl) (bj ho2 ho3)) ?_;rintro _ w3 ⟨hk1,hnew⟩;replace qi1:=ae qi1 hk1 hA1 (by decide);replace hX:=hX.step hk1 (fun b e=>by subst e;exact hbs1);replace hA1:=hnew.lit [ca1,cb1] rfl;clear hnew;refine RL.nil ?_;refine WP.ret ?_;refine ⟨.agg #[ca1,cb1],Bb.one (aj [ca1,cb1] ao s6_e1 (hA1.cells 0 _ rfl rfl)),_,rfl,hX,?_⟩;dsimp only;exact qi1
set_option maxRecDepth 10000 in
theorem AM (w:World) (x:Value) (rx cx:Nat) (Mx:Nat→Nat→Int) (btx:Nat) (y:Value) (ry cy:Nat) (My:Nat→Nat→Int) (bty:Nat) (b:Nat) (hx:cc w x rx cx Mx btx) (hy:cc w y ry cy My bty) (hxy:cx=ry) (hb:btx + bty + 1≤br) (hb2:b + 1≤br) (hfit:∀i j k,i<rx→j<cy→k≤cx→(aO k (fun x=>Mx i x*My x j)).natAbs<2^b):Calls Tryz.prog 61 #[x,y] w (ci w fun v w'=>∃v1,v= .tuple #[v1,.int .i64 0]∧cH w' v1 w.heap.size rx cy (bK cx Mx My) b):=by
 have hLIM:br=562949953421312:=rfl;have hmatx:=hx;obtain ⟨sx,rfl,hrx,hcx,hSx⟩:=hx.form;have hmaty:=hy;obtain ⟨sy,rfl,hry,hcy,hSy⟩:=hy.form;refine ak (N:=21) (rs:= #[.cell 4 28,.tmp 5]) Tryz.func61 rfl rfl rfl (Nat.le_of_ble_eq_true rfl) ?_;have hX:aF w w:=aF.refl w;refine ab ?_;refine RL.x rfl rfl (dj.box [.int .i64 ((rx:Nat)),.int .i64 ((cx:Nat)),sx] rfl rfl) ?_;rintro _ w1 ⟨g1,rfl,hge1,hx1,hA1⟩;replace hX:=aF.trans hX hx1;refine RL.x rfl rfl (dj.box [.int .i64 ((ry:Nat)),.int .i64 ((cy:Nat)),sy] rfl rfl) ?_;rintro _ w2 ⟨g2,rfl,hge2,hx2,hA2⟩;replace hA1:=be.ext hA1 hx2;replace hX:=aF.trans hX hx2;refine RL.x rfl rfl (dj.alloc [.int .i64 (0),.int .i64 (0),.slice (none) (0) (0)] cf rfl) ?_;rintro _ w3 ⟨g3,rfl,hge3,hx3,hA3⟩;have hbs3:w.heap.size≤g3:=Nat.le_trans hX.size hge3;replace hA1:=be.ext hA1 hx3;replace hA2:=be.ext hA2 hx3;replace hX:=aF.trans hX hx3;refine RL.p rfl rfl (cI.assign rfl) ?_;refine RL.nil ?_;refine WP.seq ?_;refine ab ?_;refine RL.p rfl rfl (cI.fieldAddr bE rfl) ?_;refine RL.p rfl rfl (cI.load bG rfl (hA1.at_ (i:=1) rfl rfl)) ?_;refine RL.p rfl rfl (cI.fieldAddr bg rfl) ?_;refine RL.p rfl rfl (cI.load bG rfl (hA2.at_ (i:=0) rfl rfl)) ?_;refine RL.p rfl rfl (cI.neq rfl rfl) ?_;refine RL.nil ?_;refine ag (((cx:Nat):Int)≠((ry:Nat):Int)) rfl (fun hn=>absurd hn ((by omega))) (fun c11=> ?_);refine WP.skip ?_;refine pR.norm ?_;refine ab ?_;refine RL.p rfl rfl (af [.int .i64 ((ry:Nat)),.int .i64 ((cy:Nat)),sy] aR rfl (hA2.cells 0 _ rfl rfl)) ?_;refine RL.x rfl rfl (dj.call zS (aI rfl) (ng _ _ _ _ _ _ (cc.mk (co.ext hSy hX) (by omega) (by omega)))) ?_;rintro v1 w4 ⟨hx4,q1⟩;replace hA1:=be.ext hA1 hx4;replace hA2:=be.ext hA2 hx4;replace hA3:=be.ext hA3 hx4;replace hX:=aF.trans hX hx4;refine RL.x rfl rfl (dj.alloc [.int .i64 (0),.int .i64 (0),.slice (none) (0) (0)] cf rfl) ?_;rintro _ w5 ⟨g4,rfl,hge4,hx5,hA4⟩;have ne4:g1≠g4:=Nat.ne_of_lt (Nat.lt_of_lt_of_le hA1.lt hge4);have ne5:g2≠g4:=Nat.ne_of_lt (Nat.lt_of_lt_of_le hA2.lt hge4);have ne6:g3≠g4:=Nat.ne_of_lt (Nat.lt_of_lt_of_le hA3.lt hge4);have hbs4:w.heap.size≤g4:=Nat.le_trans hX.size hge4;replace hA1:=be.ext hA1 hx5;replace hA2:=be.ext hA2 hx5;replace hA3:=be.ext hA3 hx5;replace q1:=cc.ext q1 hx5;replace hX:=aF.trans hX hx5;obtain ⟨sv1,hq1,hr1,hc1,hS1⟩:=q1.form;refine RL.x rfl rfl (dj.store [.int .i64 ((cy:Nat)),.int .i64 ((ry:Nat)),sv1] cL rfl hq1 rfl hA4 (Nat.le_of_ble_eq_true rfl) (cM rfl rfl hS1.one)) ?_;rintro _ w6 ⟨hk1,hnew⟩;replace hA1:=hA1.keep hk1 ne4;replace hA2:=hA2.keep hk1 ne5;replace hA3:=hA3.keep hk1 ne6;replace hS1:=bl hS1 hk1 hA4 (by decide);replace hX:=hX.step hk1 (fun b e=>by subst e;exact hbs4);replace hA4:=hnew.lit [.int .i64 ((cy:Nat)),.int .i64 ((ry:Nat)),sv1] rfl;clear hnew;refine RL.nil ?_;refine ab ?_;refine RL.p rfl rfl (cI.fieldAddr bg rfl) ?_;refine RL.p rfl rfl (cI.load bG rfl (hA1.at_ (i:=0) rfl rfl)) ?_;refine RL.p rfl rfl (cI.fieldAddr bE rfl) ?_;refine RL.p rfl rfl (cI.load bG rfl (hA2.at_ (i:=1) rfl rfl)) ?_;refine RL.p rfl rfl (cI.makeFunc (mD) (ax rfl rfl)) ?_;have hBw1:w.heap.size≤w6.heap.size:=hX.size;refine RL.x rfl rfl (dj.call qi (cS rfl rfl rfl) (kt _ rx cy _ (bK cx Mx My) b (by omega) (by omega) ⟨98,#[],#[.pointer (some ⟨g1,0,none⟩),.pointer (some ⟨g4,0,none⟩)],rfl,zR,fun w1 hw1 i j hi hj=>by subst hxy;exact yX _ i j _ _ _ _ _ _ _ _ _ (fun i j=>My j i) _ b (be.ext hA1 hw1) (co.ext (co.ext hSx hX) hw1) (by omega) (by omega) (be.ext hA4 hw1) (co.ext hS1 hw1) (by omega) (by omega) (by omega) (by omega) (by omega) (by omega) (fun k hk=>hfit i j k (by omega) (by omega) hk)⟩ (by omega))) ?_;rintro v2 w7 ⟨hx6,q2⟩;replace hA3:=be.ext hA3 hx6;replace hX:=aF.trans hX hx6;obtain ⟨gh1,kh1,ρ1,hq2,hM1⟩:=q2;have hd1:=cD.dlim hM1;have hd2:=cD.clim hM1;refine RL.x rfl rfl (dj.store [.int .i64 ((rx:Nat)),.int .i64 ((cy:Nat)),.slice (some ⟨gh1,0,none⟩) (rx) (kh1)] cL rfl hq2 rfl hA3 (Nat.le_of_ble_eq_true rfl) (cM rfl rfl rfl)) ?_;rintro _ w8 ⟨hk2,hnew⟩;replace hM1:=aE hM1 hk2 hA3 (by decide);replace hX:=hX.step hk2 (fun b e=>by subst e;exact hbs3);replace hA3:=hnew.lit [.int .i64 ((rx:Nat)),.int .i64 ((cy:Nat)),.slice (some ⟨gh1,0,none⟩) (rx) (kh1)] rfl;clear hnew;refine RL.p rfl rfl (cI.assign rfl) ?_;refine RL.nil ?_;refine WP.ret ?_;refine ⟨.tuple #[.agg #[.int .i64 ((rx:Nat)),.int .i64 ((cy:Nat)),.slice (some ⟨gh1,0,none⟩) (rx) (kh1)],.int .i64 (0)],dn (aj [.int .i64 ((rx:Nat)),.int .i64 ((cy:Nat)),.slice (some ⟨gh1,0,none⟩) (rx) (kh1)] aR rfl (hA3.cells 0 _ rfl rfl)) (ge.tmp rfl),_,rfl,hX,?_⟩;dsimp only;exact ⟨_,rfl,⟨_,_,_,rfl,cD.low hM1 (hBw1)⟩⟩
end Go.TL
namespace Go.TL
open Go.RowKit Go.Proofs
set_option linter.unusedVariables false
theorem oC (w:World) (x:Value) (r c:Nat) (M:Nat→Nat→Int) (b:Nat) (hx:cc w x r c M b):Calls Tryz.prog 59 #[x] w (ci w fun v _=>v= .bool (decide True)):=by
  obtain ⟨s,rfl,hr,hc,hS⟩:=hx.form;refine (qI w s r c r c M b hr.1 hc hS).mono ?_;rintro e w' ⟨v,rfl,hx',h⟩;exact ⟨v,rfl,hx',h.trans (congrArg _ (decide_eq_decide.2 (iff_of_true nN.same trivial)))⟩
def fB (v:Nat→Int) (C:Nat) (u:Nat→Int):Prop:=u C<0∨v C≤u C
instance (v:Nat→Int) (C:Nat):DecidablePred (fB v C):=fun u=>inferInstanceAs (Decidable (u C<0∨v C≤u C))
theorem rF {v u:Nat→Int} {C:Nat}:((u C).sign<0∨0≤cj (u C) (v C))↔fB v C u:=by
  unfold fB;rw [fY,de]
theorem yZ {M:Nat→Nat→Int} {c i:Nat} (hpa:(piv (M i) c).toNat<c∧((piv (M i) c).toNat:Int)=piv (M i) c∧M i (piv (M i) c).toNat≠0∧∀j,j<(piv (M i) c).toNat→M i j=0)
    (h1:¬(piv (M i) c≤lastP M c i∨(M i (piv (M i) c).toNat).sign<0)) (h2:¬0≤iR (fB (M i) (piv (M i) c).toNat) M i):jl M c i:=by
  have h3:=mt (de (M i (piv (M i) c).toNat)).2 (fun h=>h1 (.inr h));refine .inr ⟨by have:=fun h=>h1 (.inl h);omega,by have:=hpa.2.2.1;omega,fun k hk=> ?_⟩;have h4:=vO h2 hk
  unfold fB at h4
  exact ⟨by have:=fun h=>h4 (.inl h);omega,by have:=fun h=>h4 (.inr h);omega⟩
theorem wn {M:Nat→Nat→Int} {c i:Nat} (h:jl M c i) (h0:¬piv (M i) c<0) (h1:piv (M i) c≤lastP M c i∨(M i (piv (M i) c).toNat).sign<0):False:=by
  rcases h with h | ⟨h2,h3,_⟩
  · exact h0 h
  · rcases h1 with h1 | h1
    · omega
    · have:=(de _).1 h1;omega
theorem wl {M:Nat→Nat→Int} {c i:Nat} (h:jl M c i) (h0:¬piv (M i) c<0) (h1:0≤iR (fB (M i) (piv (M i) c).toNat) M i):False:=by
  rcases h with h | ⟨_,_,h3⟩
  · exact h0 h
  · obtain ⟨k,hk,hw⟩:=tH h1
    obtain ⟨g1,g2⟩:=h3 k hk
    unfold fB at hw
    omega
theorem rQ {r c n:Nat}:(((True∧((r:Nat):Int)=((n:Nat):Int))∧((c:Nat):Int)=((n:Nat):Int)))↔(r=n∧c=n):=by
  constructor
  · rintro ⟨⟨_,h1⟩,h2⟩;omega
  · rintro ⟨h1,h2⟩;exact ⟨⟨trivial,by omega⟩,by omega⟩
end Go.TL
namespace Go.TL
open Go.RowKit Go.Proofs
set_option linter.unusedVariables false
set_option linter.unusedSimpArgs false
set_option maxRecDepth 10000 in
theorem tC (w:World) (x:Value) (nx cx:Nat) (Mx:Nat→Nat→Int) (btx:Nat) (fv:Value) (p:(Nat→Int)→Prop) [DecidablePred p] (hx:co w x nx cx Mx btx) (hF:vw Tryz.prog w fv cx btx p):Calls Tryz.prog 108 #[x,fv] w (ci w fun v w'=>v= .int .i64 (iR p Mx nx)):=by
 have hLIM:br=562949953421312:=rfl;have hlimx:=hx.lim;refine ak (N:=19) (rs:= #[.tmp 4]) Tryz.func108 rfl rfl rfl (Nat.le_of_ble_eq_true rfl) ?_;have hX:aF w w:=aF.refl w;refine ab ?_;refine RL.p rfl rfl (cI.assign rfl) ?_;refine RL.nil ?_;refine WP.seq ?_;refine ab ?_;refine RL.p rfl rfl (cI.move rfl) ?_;refine RL.p rfl rfl (cA aB rfl (co.ext hx hX)) ?_;refine RL.p rfl rfl (cI.move rfl) ?_;refine RL.nil ?_;refine WP.block ?_;refine WP.loop (fun mz ez uz=>∃i:Nat,(mz=nx - i)∧(ez 0=x)∧(ez 1=fv)∧(ez 7= .int .i64 ((nx:Nat)))∧(ez 8= .int .i64 ((i:Nat)))∧(i≤nx)∧(iR p Mx i= -1)∧(aF w uz)) (nx - 0) ?_ ?_
 · exact ⟨0,rfl,rfl,rfl,rfl,rfl,(by omega),rfl,hX⟩
 rintro m1 e1 w1 ⟨i,hm1,s0_e1,s1_e1,s7_e1,s8_e1,hi,hnone,hX1⟩;refine ab ?_;refine RL.p rfl rfl (cI.lss s8_e1 s7_e1) ?_;refine RL.nil ?_;refine WP.seq ?_;refine ag (((i:Nat):Int)<((nx:Nat):Int)) rfl (fun c9=> ?_) (fun c9=> ?_)
 ·
  refine WP.skip ?_;refine pR.norm ?_;refine WP.seq ?_;refine WP.block ?_;refine ab ?_;refine RL.p rfl rfl (cI.move s8_e1) ?_;refine RL.p rfl rfl (cI.assign rfl) ?_;refine RL.nil ?_;refine ab ?_;refine RL.p rfl rfl (cI.move s1_e1) ?_;refine RL.p rfl rfl (cI.move s0_e1) ?_;refine RL.p rfl rfl (cI.move rfl) ?_;refine RL.x rfl rfl (aZ (j:=i) aB rfl (co.ext hx hX1) rfl (by omega) (by omega)) ?_;rintro v1 _ ⟨rfl,q1⟩;refine RL.x rfl rfl (bn aU rfl q1) ?_;rintro v2 _ ⟨rfl,q2⟩;refine RL.x rfl rfl (nG rfl (vw.ext hF hX1) rfl q2) ?_;rintro _ w2 ⟨hx1,rfl⟩;replace hX1:=aF.trans hX1 hx1;refine RL.nil ?_;refine ag (p (Mx i)) rfl (fun c16=> ?_) (fun c16=> ?_)
  ·
   refine ab ?_;refine RL.p rfl rfl (cI.move rfl) ?_;refine RL.p rfl rfl (cI.assign rfl) ?_;refine RL.nil ?_;refine WP.ret ?_;refine jm.ret ?_;refine pR.ret ?_;refine pR.ret ?_;refine jm.ret ?_;refine pR.ret ?_;refine ⟨.int .i64 ((i:Nat)),Bb.one (ge.tmp rfl),_,rfl,hX1,?_⟩;dsimp only;rw [pk hnone c16 (by omega)]
  ·
   refine WP.skip ?_;refine jm.norm ?_;refine pR.norm ?_;refine WP.region ?_;refine RL.p rfl rfl (cI.add (c:=((i + 1:Nat):Int)) s8_e1 rfl (bU (by omega))) ?_;refine RL.p rfl rfl (cI.move rfl) ?_;refine RL.nil ?_;refine pR.norm ⟨_,(by omega),i + 1,rfl,s0_e1,s1_e1,s7_e1,rfl,(by omega),(rR hnone c16),hX1⟩
 ·
  refine WP.exit ?_;refine pR.exit ?_;refine pR.exit ?_;refine jm.same ?_;refine pR.norm ?_;refine ab ?_;refine RL.p rfl rfl (cI.assign rfl) ?_;refine RL.nil ?_;refine WP.ret ?_;refine ⟨.int .i64 (-1),Bb.one (ge.tmp rfl),_,rfl,hX1,?_⟩;dsimp only;rw [show nx=i by omega,hnone]
set_option maxRecDepth 10000 in
theorem oc (w:World) (x:Value) (nx cx:Nat) (Mx:Nat→Nat→Int) (btx:Nat) (fv:Value) (p:(Nat→Int)→Prop) [DecidablePred p] (hx:co w x nx cx Mx btx) (hF:vw Tryz.prog w fv cx btx p):Calls Tryz.prog 77 #[x,fv] w (ci w fun v w'=>v= .bool (decide (0≤iR p Mx nx))):=by
 have hLIM:br=562949953421312:=rfl;have hlimx:=hx.lim;refine ak (N:=9) (rs:= #[.tmp 4]) Tryz.func77 rfl rfl rfl (Nat.le_of_ble_eq_true rfl) ?_;have hX:aF w w:=aF.refl w;refine ab ?_;refine RL.p rfl rfl (cI.assign rfl) ?_;refine RL.nil ?_;refine ab ?_;refine RL.p rfl rfl (cI.move rfl) ?_;refine RL.p rfl rfl (cI.move rfl) ?_;refine RL.x rfl rfl (dj.call yy (ax rfl rfl) (tC _ _ _ _ _ _ _ p (co.ext hx hX) (vw.ext hF hX))) ?_;rintro _ w1 ⟨hx1,rfl⟩;replace hX:=aF.trans hX hx1;refine RL.p rfl rfl (cI.geq rfl rfl) ?_;refine RL.p rfl rfl (cI.assign rfl) ?_;refine RL.nil ?_;refine WP.ret ?_;refine ⟨.bool (decide ((0:Int)≤(iR p Mx nx:Int))),Bb.one (ge.tmp rfl),_,rfl,hX,?_⟩
 rfl
set_option maxRecDepth 10000 in
theorem AP (w:World) (u:Value) (nu:Nat) (zu:Nat→Int) (btu:Nat) (gc C:Nat) (gv:Nat) (v:Value) (nv:Nat) (zv:Nat→Int) (btv:Nat) (hu:bO w u nu zu btu) (hAc:be w gc 3 1 (bS [.int .i64 (C:Nat)])) (hAv:be w gv 41 1 (bS [v])) (hv:bO w v nv zv btv) (hCu:C<nu) (hCv:C<nv):Calls Tryz.prog 75 #[u,.pointer (some ⟨gc,0,none⟩),.pointer (some ⟨gv,0,none⟩)] w (ci w fun v w'=>v= .bool (decide (fB zv C zu))):=by
 have hLIM:br=562949953421312:=rfl;have hlimu:=hu.lim;refine ak (N:=23) (rs:= #[.tmp 4]) Tryz.func75 rfl rfl rfl (Nat.le_of_ble_eq_true rfl) ?_;have hX:aF w w:=aF.refl w;refine ab ?_;refine RL.p rfl rfl (cI.assign rfl) ?_;refine RL.nil ?_;refine aK am 18 [_,_,_,_,_,_,fun v BI=>v= .bool (decide (((zu C:Int).sign:Int)<(0:Int))),_,_,_,_,_,_,_,_,_,_,_] rfl rfl (fun e_ w_ BH BG=>⟨fun _=>aa (cI.move ((BG 0 rfl rfl))),fun _=>aa (cI.load bG ((BG 1 rfl rfl)) ((be.ext (be.ext hAc hX) BH).at_ (i:=0) rfl rfl)),fun BF=>ah (bk (j:=C) bi (BF 0 rfl) (bO.ext (bO.ext hu hX) BH) (BF 1 rfl) (by omega) (by omega)),fun BF=>ah (bo ao rfl (BF 2 rfl)),fun BF=>dj.call jS (aI rfl) (gz _ _ _ _ ((BF 3 rfl))),fun BF=>aa (cI.lss ((BF 4 rfl)) rfl),fun BF=>aa (cI.move ((BF 5 rfl))),fun BF=>gF (BF 6 rfl) fun hg=>aa (cI.move ((BG 0 rfl rfl))),fun BF=>gF (BF 6 rfl) fun hg=>aa (cI.load bG ((BG 1 rfl rfl)) ((be.ext (be.ext hAc hX) BH).at_ (i:=0) rfl rfl)),fun BF=>gF (BF 6 rfl) fun hg=>ah (bk (j:=C) bi (BF 7 rfl hg) (bO.ext (bO.ext hu hX) BH) (BF 8 rfl hg) (by omega) (by omega)),fun BF=>gF (BF 6 rfl) fun hg=>ah (bo ao rfl (BF 9 rfl hg)),fun BF=>gF (BF 6 rfl) fun hg=>aa (cI.load aU ((BG 2 rfl rfl)) ((be.ext (be.ext hAv hX) BH).at_ (i:=0) rfl rfl)),fun BF=>gF (BF 6 rfl) fun hg=>aa (cI.load bG ((BG 1 rfl rfl)) ((be.ext (be.ext hAc hX) BH).at_ (i:=0) rfl rfl)),fun BF=>gF (BF 6 rfl) fun hg=>ah (bk (j:=C) bi (BF 11 rfl hg) (bO.ext (bO.ext hv hX) BH) (BF 12 rfl hg) (by omega) (by omega)),fun BF=>gF (BF 6 rfl) fun hg=>ah (bo ao rfl (BF 13 rfl hg)),fun BF=>gF (BF 6 rfl) fun hg=>dj.call sX (ax rfl rfl) (vb _ _ _ _ _ _ _ ((BF 10 rfl hg)) ((BF 14 rfl hg))),fun BF=>gF (BF 6 rfl) fun hg=>aa (cI.geq ((BF 15 rfl hg)) rfl),fun BF=>aa (bq (p:=((zu C:Int).sign:Int)<(0:Int)) (q:=(0:Int)≤(cj (zu C) (zv C):Int)) (BF 6 rfl) (fun hq=>(BF 16 rfl hq))),trivial⟩) ?_;intro e1 w1 hx1 ho1 hf1;replace hX:=aF.trans hX hx1;have s22_e1:e1 22=_:=hf1 17 rfl;refine RL.p rfl rfl (cI.assign s22_e1) ?_;refine RL.nil ?_;refine WP.ret ?_;refine ⟨.bool (decide ((((zu C:Int).sign:Int)<(0:Int))∨((0:Int)≤(cj (zu C) (zv C):Int)))),Bb.one (ge.tmp rfl),_,rfl,hX,?_⟩;dsimp only;exact congrArg _ (decide_eq_decide.2 rF)
set_option maxRecDepth 10000 in
set_option maxHeartbeats 800000 in
theorem AQ (w:World) (sx:Value) (Rx Cx nx cx:Nat) (Mx:Nat→Nat→Int) (btx:Nat) (hRx:Rx≤65536) (hCx:Cx≤65536) (hSx:co w sx nx cx Mx btx):Calls Tryz.prog 29 #[.agg #[.int .i64 (Rx:Nat),.int .i64 (Cx:Nat),sx]] w (ci w fun v w'=>v= .bool (decide (nN Rx Cx nx cx∧cV Rx Cx Mx))):=by
 have hLIM:br=562949953421312:=rfl;have hlimx:=hSx.lim;refine ak (N:=45) (rs:= #[.tmp 2]) Tryz.func29 rfl rfl rfl (Nat.le_of_ble_eq_true rfl) ?_;have hX:aF w w:=aF.refl w;refine ab ?_;refine RL.x rfl rfl (dj.box [.int .i64 ((Rx:Nat)),.int .i64 ((Cx:Nat)),sx] rfl rfl) ?_;rintro _ w1 ⟨g1,rfl,hge1,hx1,hA1⟩;replace hX:=aF.trans hX hx1;refine RL.p rfl rfl (cI.assign rfl) ?_;refine RL.nil ?_;refine WP.seq ?_;refine ab ?_;refine RL.p rfl rfl (af [.int .i64 ((Rx:Nat)),.int .i64 ((Cx:Nat)),sx] aR rfl (hA1.cells 0 _ rfl rfl)) ?_;refine RL.x rfl rfl (dj.call sY (aI rfl) (qI _ _ Rx Cx _ _ _ _ (by omega) (by omega) (co.ext hSx hX))) ?_;rintro _ w2 ⟨hx2,rfl⟩;replace hA1:=be.ext hA1 hx2;replace hX:=aF.trans hX hx2;refine RL.p rfl rfl (cI.not (p:=nN Rx Cx nx cx) rfl) ?_;refine RL.nil ?_;refine ag (¬(nN Rx Cx nx cx)) rfl (fun c10=> ?_) (fun c10=> ?_)
 ·
  refine ab ?_;refine RL.p rfl rfl (cI.assign rfl) ?_;refine RL.nil ?_;refine WP.ret ?_;refine pR.ret ?_;refine ⟨.bool (false),Bb.one (ge.tmp rfl),_,rfl,hX,?_⟩;dsimp only;exact congrArg _ (decide_eq_false fun h=>c10 h.1).symm
 ·
  refine WP.skip ?_;refine pR.norm ?_;have hgk:nN Rx Cx nx cx:=Decidable.of_not_not c10;replace hSx:=qa hSx hgk.2;refine ab ?_;refine RL.p rfl rfl (cI.assign rfl) ?_;refine RL.nil ?_;refine WP.seq ?_;refine ab ?_;refine RL.p rfl rfl (cI.fieldAddr aq rfl) ?_;refine RL.p rfl rfl (cI.load aH rfl (hA1.at_ (i:=2) rfl rfl)) ?_;refine RL.p rfl rfl (cA aB rfl (co.ext hSx hX)) ?_;refine RL.p rfl rfl (cI.move rfl) ?_;refine RL.nil ?_;refine WP.block ?_;refine WP.loop (fun mz ez uz=>∃i:Nat,(mz=nx - i)∧(ez 1= .pointer (some ⟨g1,0,none⟩))∧(ez 3= .int .i64 (lastP Mx Cx i))∧(ez 12=sx)∧(ez 13= .int .i64 ((nx:Nat)))∧(ez 14= .int .i64 ((i:Nat)))∧(i≤nx)∧(∀a,a<i→jl Mx Cx a)∧(aF w uz)∧(be uz g1 28 3 (bS [.int .i64 ((Rx:Nat)),.int .i64 ((Cx:Nat)),sx]))) (nx - 0) ?_ ?_
  · exact ⟨0,rfl,rfl,rfl,rfl,rfl,rfl,(by omega),(fun a ha=>absurd ha (by omega)),hX,hA1⟩
  rintro m1 e1 w3 ⟨i,hm1,s1_e1,s3_e1,s12_e1,s13_e1,s14_e1,hi,hok,hX1,hA1⟩;refine ab ?_;refine RL.p rfl rfl (cI.lss s14_e1 s13_e1) ?_;refine RL.nil ?_;refine WP.seq ?_;refine ag (((i:Nat):Int)<((nx:Nat):Int)) rfl (fun c15=> ?_) (fun c15=> ?_)
  ·
   refine WP.skip ?_;refine pR.norm ?_;refine WP.seq ?_;refine WP.block ?_;refine ab ?_;refine RL.p rfl rfl (cI.move s14_e1) ?_;refine RL.x rfl rfl (aZ (j:=i) aB s12_e1 (co.ext hSx hX1) s14_e1 (by omega) (by omega)) ?_;rintro v1 _ ⟨rfl,q1⟩;refine RL.x rfl rfl (bn aU rfl q1) ?_;rintro v2 _ ⟨rfl,q2⟩;refine RL.x rfl rfl (dj.alloc [.slice (none) (0) (0)] qf rfl) ?_;rintro _ w4 ⟨g2,rfl,hge2,hx3,hA2⟩;have ne1:g1≠g2:=Nat.ne_of_lt (Nat.lt_of_lt_of_le hA1.lt hge2);have hbs2:w.heap.size≤g2:=Nat.le_trans hX1.size hge2;replace hA1:=be.ext hA1 hx3;replace q2:=bO.ext q2 hx3;replace hX1:=aF.trans hX1 hx3;refine RL.p rfl rfl (cI.assign rfl) ?_;refine RL.x rfl rfl (dj.store [v2] gf rfl rfl q2.cells1 hA2 (Nat.le_of_ble_eq_true rfl) (dM (q2.one))) ?_;rintro _ w5 ⟨hk1,hnew⟩;replace hA1:=hA1.keep hk1 ne1;replace q2:=mh q2 hk1 hA2 (by decide);replace hX1:=hX1.step hk1 (fun b e=>by subst e;exact hbs2);replace hA2:=hnew.lit [v2] rfl;clear hnew;refine RL.nil ?_;refine ab ?_;refine RL.p rfl rfl (cI.load aU rfl (hA2.at_ (i:=0) rfl rfl)) ?_;refine RL.x rfl rfl (dj.call qm (aI rfl) (kC _ _ _ _ _ q2)) ?_;rintro _ w6 ⟨hx4,rfl⟩;replace hA1:=be.ext hA1 hx4;replace q2:=bO.ext q2 hx4;replace hA2:=be.ext hA2 hx4;replace hX1:=aF.trans hX1 hx4;refine RL.x rfl rfl (dj.alloc [.int .i64 (0)] Bj rfl) ?_;rintro _ w7 ⟨g3,rfl,hge3,hx5,hA3⟩;have ne2:g1≠g3:=Nat.ne_of_lt (Nat.lt_of_lt_of_le hA1.lt hge3);have ne3:g2≠g3:=Nat.ne_of_lt (Nat.lt_of_lt_of_le hA2.lt hge3);have hbs3:w.heap.size≤g3:=Nat.le_trans hX1.size hge3;replace hA1:=be.ext hA1 hx5;replace q2:=bO.ext q2 hx5;replace hA2:=be.ext hA2 hx5;replace hX1:=aF.trans hX1 hx5;refine RL.x rfl rfl (dj.store [.int .i64 (piv (Mx i) Cx)] zJ rfl rfl rfl hA3 (Nat.le_of_ble_eq_true rfl) (dM rfl)) ?_;rintro _ w8 ⟨hk2,hnew⟩;replace hA1:=hA1.keep hk2 ne2;replace q2:=mh q2 hk2 hA3 (by decide);replace hA2:=hA2.keep hk2 ne3;replace hX1:=hX1.step hk2 (fun b e=>by subst e;exact hbs3);replace hA3:=hnew.lit [.int .i64 (piv (Mx i) Cx)] rfl;clear hnew;refine RL.nil ?_;refine WP.seq ?_;refine ab ?_;refine RL.p rfl rfl (cI.load bG rfl (hA3.at_ (i:=0) rfl rfl)) ?_;refine RL.p rfl rfl (cI.lss rfl rfl) ?_;refine RL.nil ?_;refine ag ((piv (Mx i) Cx:Int)<(0:Int)) rfl (fun c22=> ?_) (fun c22=> ?_)
   ·
    refine ab ?_;refine RL.p rfl rfl (cI.fieldAddr bE s1_e1) ?_;refine RL.p rfl rfl (cI.load bG rfl (hA1.at_ (i:=1) rfl rfl)) ?_;refine RL.p rfl rfl (cI.assign rfl) ?_;refine RL.nil ?_;refine WP.exit ?_;refine pR.exit ?_;refine jm.same ?_;refine pR.norm ?_;refine WP.region ?_;refine RL.p rfl rfl (cI.add (c:=((i + 1:Nat):Int)) s14_e1 rfl (bU (by omega))) ?_;refine RL.p rfl rfl (cI.move rfl) ?_;refine RL.nil ?_;refine pR.norm ⟨_,(by omega),i + 1,rfl,s1_e1,(congrArg (Value.int .i64) (jF c22)),s12_e1,s13_e1,rfl,(by omega),(eG hok (.inl c22)),hX1,hA1⟩
   ·
    refine WP.skip ?_;refine pR.norm ?_;refine WP.seq ?_;have hpa:=ls (z:=Mx i) (n:=Cx) (by omega);refine aK am 11 [_,_,_,fun v BI=>v= .bool (decide ((piv (Mx i) Cx:Int)≤(lastP Mx Cx i:Int))),_,_,_,_,_,_,_] rfl rfl (fun e_ w_ BH BG=>⟨fun _=>aa (cI.load bG ((BG 6 rfl rfl)) ((be.ext hA3 BH).at_ (i:=0) rfl rfl)),fun _=>aa (cI.move ((BG 3 rfl s3_e1))),fun BF=>aa (cI.leq ((BF 0 rfl)) ((BF 1 rfl))),fun BF=>aa (cI.move ((BF 2 rfl))),fun BF=>gF (BF 3 rfl) fun hg=>aa (cI.load aU ((BG 5 rfl rfl)) ((be.ext hA2 BH).at_ (i:=0) rfl rfl)),fun BF=>gF (BF 3 rfl) fun hg=>aa (cI.load bG ((BG 6 rfl rfl)) ((be.ext hA3 BH).at_ (i:=0) rfl rfl)),fun BF=>gF (BF 3 rfl) fun hg=>ah (bk (j:=(piv (Mx i) Cx).toNat) bi (BF 4 rfl hg) (bO.ext q2 BH) (nP (a:=(((piv (Mx i) Cx).toNat:Nat):Int)) (b:=piv (Mx i) Cx) (BF 5 rfl hg) (by omega)) (by omega) (by omega)),fun BF=>gF (BF 3 rfl) fun hg=>ah (bo ao rfl (BF 6 rfl hg)),fun BF=>gF (BF 3 rfl) fun hg=>dj.call jS (aI rfl) (gz _ _ _ _ ((BF 7 rfl hg))),fun BF=>gF (BF 3 rfl) fun hg=>aa (cI.lss ((BF 8 rfl hg)) rfl),fun BF=>aa (bq (p:=(piv (Mx i) Cx:Int)≤(lastP Mx Cx i:Int)) (q:=(((Mx i) ((piv (Mx i) Cx).toNat):Int).sign:Int)<(0:Int)) (BF 3 rfl) (fun hq=>(BF 9 rfl hq))),trivial⟩) ?_;intro e2 w9 hx6 ho1 hf1;replace hA1:=be.ext hA1 hx6;replace q2:=bO.ext q2 hx6;replace hA2:=be.ext hA2 hx6;replace hA3:=be.ext hA3 hx6;replace hX1:=aF.trans hX1 hx6;have s1_e2:=ho1 1 rfl s1_e1;have s12_e2:=ho1 12 rfl s12_e1;have s13_e2:=ho1 13 rfl s13_e1;have s14_e2:=ho1 14 rfl s14_e1;have s5_e2:e2 5=_:=ho1 5 rfl rfl;have s4_e2:e2 4=_:=ho1 4 rfl rfl;have s6_e2:e2 6=_:=ho1 6 rfl rfl;have s35_e2:e2 35=_:=hf1 10 rfl;refine RL.nil ?_;refine ag (((piv (Mx i) Cx:Int)≤(lastP Mx Cx i:Int))∨((((Mx i) ((piv (Mx i) Cx).toNat):Int).sign:Int)<(0:Int))) s35_e2 (fun c35=> ?_) (fun c35=> ?_)
    ·
     refine ab ?_;refine RL.p rfl rfl (cI.assign rfl) ?_;refine RL.nil ?_;refine WP.ret ?_;refine pR.ret ?_;refine jm.ret ?_;refine pR.ret ?_;refine pR.ret ?_;refine jm.ret ?_;refine pR.ret ?_;refine ⟨.bool (false),Bb.one (ge.tmp rfl),_,rfl,hX1,?_⟩;dsimp only;exact congrArg _ (decide_eq_false fun h=>wn (h.2 i (by have:=h.1.1;omega)) c22 c35).symm
    ·
     refine WP.skip ?_;refine pR.norm ?_;refine ab ?_;refine RL.p rfl rfl (cI.makeFunc (mD) (ax s6_e2 s5_e2)) ?_;refine RL.p rfl rfl (cI.assign rfl) ?_;refine RL.nil ?_;refine WP.seq ?_;refine ab ?_;refine RL.p rfl rfl (cI.fieldAddr aq s1_e2) ?_;refine RL.p rfl rfl (cI.load aH rfl (hA1.at_ (i:=2) rfl rfl)) ?_;refine RL.p rfl rfl (cI.move s4_e2) ?_;refine RL.x rfl rfl (iu (j:=i) aB rfl (co.ext hSx hX1) rfl (by omega) (by omega)) ?_;rintro v3 _ ⟨rfl,q3⟩;refine RL.p rfl rfl (cI.move rfl) ?_;refine RL.x rfl rfl (dj.call Ai (ax rfl rfl) (oc _ _ _ _ _ _ _ (fB (Mx i) (piv (Mx i) Cx).toNat) q3 ⟨75,#[],#[.pointer (some ⟨g3,0,none⟩),.pointer (some ⟨g2,0,none⟩)],rfl,Aj,fun w1 hw1 x z hI=>AP _ _ _ _ _ _ _ _ _ _ _ _ hI (be.ext (by rw [hpa.2.1];exact hA3) hw1) (be.ext hA2 hw1) (bO.ext q2 hw1) hpa.1 hpa.1⟩)) ?_;rintro _ w10 ⟨hx7,rfl⟩;replace hA1:=be.ext hA1 hx7;replace hA3:=be.ext hA3 hx7;replace hX1:=aF.trans hX1 hx7;refine RL.nil ?_;refine ag (0≤iR (fB (Mx i) (piv (Mx i) Cx).toNat) Mx i) rfl (fun c42=> ?_) (fun c42=> ?_)
     ·
      refine ab ?_;refine RL.p rfl rfl (cI.assign rfl) ?_;refine RL.nil ?_;refine WP.ret ?_;refine pR.ret ?_;refine jm.ret ?_;refine pR.ret ?_;refine pR.ret ?_;refine jm.ret ?_;refine pR.ret ?_;refine ⟨.bool (false),Bb.one (ge.tmp rfl),_,rfl,hX1,?_⟩;dsimp only;exact congrArg _ (decide_eq_false fun h=>wl (h.2 i (by have:=h.1.1;omega)) c22 c42).symm
     ·
      refine WP.skip ?_;refine pR.norm ?_;refine WP.region ?_;refine RL.p rfl rfl (cI.load bG s6_e2 (hA3.at_ (i:=0) rfl rfl)) ?_;refine RL.p rfl rfl (cI.assign rfl) ?_;refine RL.nil ?_;refine jm.norm ?_;refine pR.norm ?_;refine WP.region ?_;refine RL.p rfl rfl (cI.add (c:=((i + 1:Nat):Int)) s14_e2 rfl (bU (by omega))) ?_;refine RL.p rfl rfl (cI.move rfl) ?_;refine RL.nil ?_;refine pR.norm ⟨_,(by omega),i + 1,rfl,s1_e2,(congrArg (Value.int .i64) (jE c22)),s12_e2,s13_e2,rfl,(by omega),(eG hok (yZ hpa c35 c42)),hX1,hA1⟩
  ·
   refine WP.exit ?_;refine pR.exit ?_;refine pR.exit ?_;refine jm.same ?_;refine pR.norm ?_;refine ab ?_;refine RL.p rfl rfl (cI.assign rfl) ?_;refine RL.nil ?_;refine WP.ret ?_;refine ⟨.bool (true),Bb.one (ge.tmp rfl),_,rfl,hX1,?_⟩;dsimp only;exact congrArg _ (decide_eq_true ⟨hgk,fun a ha=>hok a (by have:=hgk.1;omega)⟩).symm
set_option maxRecDepth 10000 in
theorem qS (w:World) (x:Value) (rx cx:Nat) (Mx:Nat→Nat→Int) (btx:Nat) (n:Nat) (hx:cc w x rx cx Mx btx):Calls Tryz.prog 60 #[x,.int .i64 (n:Nat)] w (ci w fun v w'=>v= .bool (decide (rx=n∧cx=n))):=by
 have hLIM:br=562949953421312:=rfl;have hmatx:=hx;obtain ⟨sx,rfl,hrx,hcx,hSx⟩:=hx.form;refine ak (N:=19) (rs:= #[.tmp 4]) Tryz.func60 rfl rfl rfl (Nat.le_of_ble_eq_true rfl) ?_;have hX:aF w w:=aF.refl w;refine ab ?_;refine RL.x rfl rfl (dj.box [.int .i64 ((rx:Nat)),.int .i64 ((cx:Nat)),sx] rfl rfl) ?_;rintro _ w1 ⟨g1,rfl,hge1,hx1,hA1⟩;replace hX:=aF.trans hX hx1;refine RL.p rfl rfl (cI.assign rfl) ?_;refine RL.nil ?_;refine aK am 14 [_,fun v BI=>v= .bool (decide (True)),fun v BI=>v= .bool (decide (True)),_,_,_,_,_,fun v BI=>v= .bool (decide ((True)∧(((rx:Nat):Int)=((n:Nat):Int)))),_,_,_,_,_] rfl rfl (fun e_ w_ BH BG=>⟨fun _=>aa (af [.int .i64 ((rx:Nat)),.int .i64 ((cx:Nat)),sx] aR ((BG 2 rfl rfl)) ((be.ext hA1 BH).cells 0 _ rfl rfl)),fun BF=>dj.call sY (aI ((BF 0 rfl))) (oC _ _ _ _ _ _ (cc.mk (co.ext (co.ext hSx hX) BH) (by omega) (by omega))),fun BF=>aa (cI.move ((BF 1 rfl))),fun BF=>gT (BF 2 rfl) fun hg=>aa (cI.fieldAddr bg ((BG 2 rfl rfl))),fun BF=>gT (BF 2 rfl) fun hg=>aa (cI.load bG ((BF 3 rfl hg)) ((be.ext hA1 BH).at_ (i:=0) rfl rfl)),fun BF=>gT (BF 2 rfl) fun hg=>aa (cI.move ((BG 1 rfl rfl))),fun BF=>gT (BF 2 rfl) fun hg=>aa (cI.eql ((BF 4 rfl hg)) ((BF 5 rfl hg))),fun BF=>aa (ay (p:=True) (q:=((rx:Nat):Int)=((n:Nat):Int)) (BF 2 rfl) (fun hq=>(BF 6 rfl hq))),fun BF=>aa (cI.move ((BF 7 rfl))),fun BF=>gT (BF 8 rfl) fun hg=>aa (cI.fieldAddr bE ((BG 2 rfl rfl))),fun BF=>gT (BF 8 rfl) fun hg=>aa (cI.load bG ((BF 9 rfl hg)) ((be.ext hA1 BH).at_ (i:=1) rfl rfl)),fun BF=>gT (BF 8 rfl) fun hg=>aa (cI.move ((BG 1 rfl rfl))),fun BF=>gT (BF 8 rfl) fun hg=>aa (cI.eql ((BF 10 rfl hg)) ((BF 11 rfl hg))),fun BF=>aa (ay (p:=(True)∧(((rx:Nat):Int)=((n:Nat):Int))) (q:=((cx:Nat):Int)=((n:Nat):Int)) (BF 8 rfl) (fun hq=>(BF 12 rfl hq))),trivial⟩) ?_;intro e1 w2 hx2 ho1 hf1;replace hX:=aF.trans hX hx2;have s18_e1:e1 18=_:=hf1 13 rfl;refine RL.p rfl rfl (cI.assign s18_e1) ?_;refine RL.nil ?_;refine WP.ret ?_;refine ⟨.bool (decide (((True)∧(((rx:Nat):Int)=((n:Nat):Int)))∧(((cx:Nat):Int)=((n:Nat):Int)))),Bb.one (ge.tmp rfl),_,rfl,hX,?_⟩;dsimp only;exact congrArg _ (decide_eq_decide.2 rQ)
end Go.TL
namespace Go.TL
open Go.RowKit Go.Proofs
set_option linter.unusedVariables false
theorem qU (w:World) (x:Value) (r c:Nat) (M:Nat→Nat→Int) (b:Nat) (hx:cc w x r c M b):Calls Tryz.prog 29 #[x] w (ci w fun v _=>v= .bool (decide (cV r c M))):=by
  obtain ⟨s,rfl,hr,hc,hS⟩:=hx.form;refine (AQ w s r c r c M b hr.1 hc hS).mono ?_;rintro e w' ⟨v,rfl,hx',h⟩;exact ⟨v,rfl,hx',h.trans (congrArg _ (decide_eq_decide.2 ⟨fun h=>h.2,fun h=>⟨nN.same,h⟩⟩))⟩
def vm (w:World) (v:Value) (w0:World) (n:Nat) (z:Nat→Int) (b:Nat):Prop:=∃h o u,v= .pointer (some ⟨h,o,none⟩)∧w.cell? ⟨h,o,none⟩=some u∧bO w0 u n z b
section
variable {P:Program} {e:ct} {w w0:World} {d:Option Tmp} {ty:TypeId} {pos:String} {after:Array Edge} {gd:Option (Nat×Bool)}
theorem iv {t n c m j b:Nat} {x ix:Operand} {v:Value} {M:Nat→Nat→Int} {i:Int} {k:IntKind} (ht:sliceB P t 41 1 m=true) (hx:ev e x=v) (hH:co w0 v n c M b) (hw:aF w0 w)
    (hi:ev e ix= .int k i) (hij:i=(j:Int)) (hj:j<n):dj P ⟨d,.indexAddr t x ix,ty,pos,after,gd⟩ e w (fun v w'=>w=w'∧vm w' v w0 c (M j) b):=by
  obtain ⟨A,kk,rfl,h2,h3,h4⟩:=hH;obtain ⟨h,o,m',f,rfl,hm,ha,hf⟩:=h4 (by omega);refine dm (φ:=fun v w'=>vm w' v w0 c (M j) b) (cI.index (j:=j) ht hx hi rfl hij hj) ⟨h,_,f (o + j),rfl,?_,hf j hj⟩;rw [Nat.mul_one];exact (ha.ext hw).cell (by omega)
theorem jh {t n b:Nat} {x:Operand} {v:Value} {z:Nat→Int} (ht:oneB P t=true) (hx:ev e x=v) (hP:vm w v w0 n z b):dj P ⟨d,.load t x,ty,pos,after,gd⟩ e w (fun v w'=>w=w'∧bO w0 v n z b):=by
  obtain ⟨h,o,u,rfl,hc,hR⟩:=hP;exact dm (φ:=fun v w'=>bO w0 v n z b) (cI.load ht hx hc) hR
end
theorem xg {w:World} {v:Value} {n b:Nat} {z:Nat→Int} (h:bO w v n z b) (hn:0<n):∃g,fx w v g n∧cN w g n z b∧g<w.heap.size:=by
  obtain ⟨A,k,rfl,h2,h3,h4⟩:=h;obtain ⟨g,rfl,hB⟩:=h4 hn;exact ⟨g,⟨k,rfl,h2,h3.1,h3.2.1⟩,hB,hB.lt⟩
theorem su (B n b':Nat):fA (fun v _ b=>b=dl v) (fun v w=>ed w v B n b'):=
  ⟨fun v w b h hb=>by obtain ⟨g,h1,h2,h3⟩:=h;subst h1;rw [hb];exact h3.lt,fun _ _ _ _ _ _ h=>h⟩
def ir (Q:Nat→Int) (i:Nat):Nat→Int:=fun a=>if a<i then Q a else 0
theorem pt (Q:Nat→Int):ir Q 0=fun _=>0:=by funext a;simp [ir]
theorem lw (Q:Nat→Int) (i:Nat):ir Q (i + 1) i=Q i:=if_pos (by omega)
theorem rS {Q:Nat→Int} {i:Nat} {q:Int} (hq:q=Q i):kP (ir Q i) i q=ir Q (i + 1):=by
  funext a
  simp only [kP,ir]
  by_cases e:a=i
  · subst e;rw [if_pos rfl,if_pos (by omega),hq]
  · rw [if_neg e]
    by_cases h:a<i
    · rw [if_pos h,if_pos (by omega)]
    · rw [if_neg h,if_neg (by omega)]
theorem pu {Q:Nat→Int} {i:Nat} (hq:Q i=0):ir Q i=ir Q (i + 1):=by
  funext a
  simp only [ir]
  by_cases e:a=i
  · subst e;rw [if_neg (by omega),if_pos (by omega),hq]
  · by_cases h:a<i
    · rw [if_pos h,if_pos (by omega)]
    · rw [if_neg h,if_neg (by omega)]
theorem oh (M:Nat→Nat→Int) (c:Nat) (z:Nat→Int) (i j:Nat):cg M c z i j + -(cw M c z i)*M i j=cg M c z (i + 1) j:=by
  simp only [cg,cw];rw [Int.neg_mul];omega
theorem tJ {M:Nat→Nat→Int} {c:Nat} {z:Nat→Int} {i:Nat} (h:piv (M i) c<0):cg M c z i=cg M c z (i + 1):=by
  funext j;simp only [cg];rw [lk h,Int.zero_mul];omega
theorem yN {w:World} {v:Value} {B r c b:Nat} {M:Nat→Nat→Int} {z:Nat→Int} (h:ed w v B r b) (hn:∀i,¬0≤piv (M i) c) (hr:r≤65536):bO w v r (cw M c z) b:=by
  obtain ⟨g,rfl,_,hR⟩:=h;exact cN.rowV (cN.congr hR fun j _=>(lk (by have:=hn j;omega)).symm) (Nat.le_refl _) ⟨by omega,hr⟩
theorem sK {w:World} {v:Value} {z z':Nat→Int} {b b':Nat} (h:bO w v 0 z b) (hb:b'≤br):bO w v 0 z' b':=by
  obtain ⟨A,k,h1,h2,h3,_⟩:=h;exact ⟨A,k,h1,h2,⟨h3.1,h3.2.1,hb⟩,fun h=>absurd h (Nat.lt_irrefl _)⟩
end Go.TL
namespace Go.TL
open Go.RowKit Go.Proofs
set_option linter.unusedVariables false
set_option linter.unusedSimpArgs false
set_option maxRecDepth 10000 in
theorem tF (w:World) (x:Value) (nx:Nat) (zx:Nat→Int) (btx:Nat) (hx:bO w x nx zx btx) (hn:0<nx):Calls Tryz.prog 65 #[x] w (ci w fun v w'=>ee w' v w.heap.size nx zx btx):=by
 have hLIM:br=562949953421312:=rfl;have hlimx:=hx.lim;refine ak (N:=8) (rs:= #[.tmp 2]) Tryz.func65 rfl rfl rfl (Nat.le_of_ble_eq_true rfl) ?_;have hX:aF w w:=aF.refl w;refine ab ?_;refine RL.p rfl rfl (cI.assign rfl) ?_;refine RL.nil ?_;refine WP.seq ?_;refine ab ?_;refine RL.p rfl rfl (cI.move rfl) ?_;refine RL.p rfl rfl (lQ dk rfl (bO.ext hx hX) rfl hn) ?_;refine RL.nil ?_;refine WP.cond _ rfl (fun hf=>absurd hf (by decide)) (fun _=> ?_);refine WP.skip ?_;refine pR.norm ?_;refine ab ?_;refine RL.x rfl rfl (dF dk) ?_;rintro _ w1 ⟨g1,rfl,hge1,hx1,hA1⟩;replace hX:=aF.trans hX hx1;refine RL.p rfl rfl (cI.move rfl) ?_;have hBw1:w.heap.size≤w1.heap.size:=hX.size;refine RL.x rfl rfl (jj dk (by decide) bH rfl hA1 rfl (bO.ext hx hX) hn) ?_;rintro v1 w2 ⟨hx2,q1,_⟩;replace hX:=aF.trans hX hx2;refine RL.p rfl rfl (cI.assign rfl) ?_;refine RL.nil ?_;refine WP.ret ?_;refine ⟨v1,Bb.one (ge.tmp rfl),_,rfl,hX,?_⟩;dsimp only;obtain ⟨g,h1,h2,h3⟩:=q1;exact ⟨g,h1,Nat.le_trans hBw1 h2,h3⟩
set_option maxRecDepth 10000 in
set_option maxHeartbeats 1600000 in
theorem oG (w:World) (x:Value) (rx cx:Nat) (Mx:Nat→Nat→Int) (btx:Nat) (v:Value) (nv:Nat) (zv:Nat→Int) (btv:Nat) (b:Nat) (hx:cc w x rx cx Mx btx) (hv:bO w v nv zv btv) (hc0:0<cx) (hb:btv + rx*(btx + 1)≤b) (hl:b + b + 2≤br) (hl2:btx≤b):Calls Tryz.prog 21 #[x,v] w (ci w fun v w'=>(nv≠cx∧v= .tuple #[.slice none 0 0,.slice none 0 0,.int .i64 50])∨(nv=cx∧∃vq vr,v= .tuple #[vq,vr,.int .i64 0]∧bO w' vq rx (cw Mx cx zv) b∧bO w' vr cx (cg Mx cx zv rx) b)):=by
 have hLIM:br=562949953421312:=rfl;have hmatx:=hx;obtain ⟨sx,rfl,hrx,hcx,hSx⟩:=hx.form;have hlimv:=hv.lim;refine ak (N:=57) (rs:= #[.tmp 4,.tmp 5,.tmp 6]) Tryz.func21 rfl rfl rfl (Nat.le_of_ble_eq_true rfl) ?_;have hX:aF w w:=aF.refl w;have hbM:=co.bd hSx;have hbz:=bO.bd hv;have hmul:∀q,q≤rx→q*(btx + 1)≤rx*(btx + 1):=fun q hq=>Nat.mul_le_mul_right _ hq
 have hpw0:∀q,q≤rx→2^(btv + q*(btx + 1))≤2^b:=fun q hq=>Nat.pow_le_pow_right (by decide) (by have:=hmul q hq;omega)
 refine ab ?_;refine RL.x rfl rfl (dj.box [.int .i64 ((rx:Nat)),.int .i64 ((cx:Nat)),sx] rfl rfl) ?_;rintro _ w1 ⟨g1,rfl,hge1,hx1,hA1⟩;replace hX:=aF.trans hX hx1;refine RL.p rfl rfl (cI.assign rfl) ?_;refine RL.p rfl rfl (cI.assign rfl) ?_;refine RL.p rfl rfl (cI.assign rfl) ?_;refine RL.nil ?_;refine WP.seq ?_;refine ab ?_;refine RL.p rfl rfl (cI.move rfl) ?_;refine RL.p rfl rfl (cl dk rfl (bO.ext hv hX)) ?_;refine RL.p rfl rfl (cI.fieldAddr bE rfl) ?_;refine RL.p rfl rfl (cI.load bG rfl (hA1.at_ (i:=1) rfl rfl)) ?_;refine RL.p rfl rfl (cI.neq rfl rfl) ?_;refine RL.nil ?_;refine ag (((nv:Nat):Int)≠((cx:Nat):Int)) rfl (fun c16=> ?_) (fun c16=> ?_)
 ·
  refine ab ?_;refine RL.p rfl rfl (cI.assign rfl) ?_;refine RL.p rfl rfl (cI.assign rfl) ?_;refine RL.p rfl rfl (cI.assign rfl) ?_;refine RL.nil ?_;refine WP.ret ?_;refine pR.ret ?_;refine ⟨.tuple #[.slice (none) (0) (0),.slice (none) (0) (0),.int .i64 (50)],du (ge.tmp rfl) (ge.tmp rfl) (ge.tmp rfl),_,rfl,hX,?_⟩;dsimp only;exact .inl ⟨fun e=>c16 (by omega),rfl⟩
 ·
  refine WP.skip ?_;refine pR.norm ?_;obtain rfl:cx=nv:=by omega
  have hXr:=hX;refine ig am 5 [_,_,fun v BI=>ed BI v w1.heap.size rx b,_,fun v BI=>ee BI v w1.heap.size cx zv btv] (Apart.of (fun v _ b=>b=dl v) [(2,4)] rfl ⟨(fun h=>by cases h),(fun h=>by cases h),(fun _=>su _ _ _),(fun h=>by cases h),(fun _=>jD _ _ _ _),trivial⟩) rfl rfl ⟨ac _,ac _,jW _ _ _,ac _,fp _ _ _ _,trivial⟩ ⟨fun e_ w_ BH BG BF=>aM rfl (aa (cI.fieldAddr bg (((BG 2 rfl).trans rfl)))),fun e_ w_ BH BG BF=>aM rfl (aa (cI.load bG ((BF 0 rfl)) ((be.ext hA1 BH).at_ (i:=0) rfl rfl))),fun e_ w_ BH BG BF=>dj.mono (gE (b:=b) dk (by decide) bH (BF 1 rfl) (BF 1 rfl) rfl rfl (by omega) (Nat.le_refl _) (by omega)) fun v BJ hv=>⟨hv.1,(by obtain ⟨g,h1,h2,h3⟩:=hv.2;exact ⟨g,h1,Nat.le_trans BH.size h2,h3⟩),dD fun b hb=>hb▸(by obtain ⟨g,h1,h2,h3⟩:=hv.2;rw [h1];exact h2)⟩,fun e_ w_ BH BG BF=>aM rfl (aa (cI.move (((BG 1 rfl).trans rfl)))),fun e_ w_ BH BG BF=>dj.mono (dj.call xA (aI ((BF 3 rfl))) (tF _ _ _ _ _ (bO.ext (bO.ext hv hX) BH) hc0)) fun v BJ hv=>⟨hv.1,(by obtain ⟨g,h1,h2,h3⟩:=hv.2;exact ⟨g,h1,Nat.le_trans BH.size h2,h3⟩),dD fun b hb=>hb▸(by obtain ⟨g,h1,h2,h3⟩:=hv.2;rw [fu h1];exact h2)⟩,trivial⟩ ?_;intro e1 w2 hx2 ho1 hf1 hp1;replace hA1:=be.ext hA1 hx2;replace hX:=aF.trans hX hx2;have s2_e1:e1 2= .pointer (some ⟨g1,0,none⟩):=(ho1 2 rfl).trans rfl;have s4_e1:e1 4= .slice (none) (0) (0):=(ho1 4 rfl).trans rfl;have s5_e1:e1 5= .slice (none) (0) (0):=(ho1 5 rfl).trans rfl;have s6_e1:e1 6= .int .i64 (0):=(ho1 6 rfl).trans rfl;have s19_e1:ed w2 (e1 19) w1.heap.size rx b:=hf1 2 rfl;have s21_e1:ee w2 (e1 21) w1.heap.size cx zv btv:=hf1 4 rfl;obtain ⟨gq,hq1,hqB,hQ⟩:=s19_e1;obtain ⟨gr,hSr,hrB,hR⟩:=s21_e1;have hqr:gq≠gr:=by
    have hd:=hp1 2 4 rfl rfl rfl rfl (dl (e1 19)) rfl;intro he
    apply hd
    show dl (e1 19)=dl (e1 21);rw [hq1,fu hSr];exact he
  obtain ⟨kr,hr1,hrk,hrl⟩:=hSr;have hbq:w.heap.size≤gq:=Nat.le_trans hXr.size hqB;have hbr:w.heap.size≤gr:=Nat.le_trans hXr.size hrB;replace hR:=cN.up (b':=b) hR (by omega) (by omega);replace hQ:=gD hQ (pt (cw Mx cx zv)).symm;refine RL.p rfl rfl (cI.assign hq1) ?_;refine RL.p rfl rfl (cI.assign hr1) ?_;refine RL.nil ?_;refine WP.seq ?_;refine ab ?_;refine RL.p rfl rfl (cI.fieldAddr aq s2_e1) ?_;refine RL.p rfl rfl (cI.load aH rfl (hA1.at_ (i:=2) rfl rfl)) ?_;refine RL.p rfl rfl (cA aB rfl (co.ext hSx hX)) ?_;refine RL.p rfl rfl (cI.move rfl) ?_;refine RL.nil ?_;refine WP.block ?_;refine WP.loop (fun mz ez uz=>∃i:Nat,(mz=rx - i)∧(ez 4= .slice (none) (0) (0))∧(ez 5= .slice (none) (0) (0))∧(ez 6= .int .i64 (0))∧(ez 7= .slice (some ⟨gq,0,none⟩) (rx) (rx))∧(ez 8= .slice (some ⟨gr,0,none⟩) (cx) (kr))∧(ez 23=sx)∧(ez 24= .int .i64 ((rx:Nat)))∧(ez 25= .int .i64 ((i:Nat)))∧(i≤rx)∧(aF w uz)∧(be uz g1 28 3 (bS [.int .i64 ((rx:Nat)),.int .i64 ((cx:Nat)),sx]))∧(cN uz gq rx (ir (cw Mx cx zv) i) b)∧(cN uz gr cx (cg Mx cx zv i) b)) (rx - 0) ?_ ?_
  · exact ⟨0,rfl,s4_e1,s5_e1,s6_e1,rfl,rfl,rfl,rfl,rfl,(by omega),hX,hA1,hQ,hR⟩
  rintro m1 e2 w3 ⟨i,hm1,s4_e2,s5_e2,s6_e2,s7_e2,s8_e2,s23_e2,s24_e2,s25_e2,hi,hX1,hA1,hQ,hR⟩;refine ab ?_;refine RL.p rfl rfl (cI.lss s25_e2 s24_e2) ?_;refine RL.nil ?_;refine WP.seq ?_;refine ag (((i:Nat):Int)<((rx:Nat):Int)) rfl (fun c26=> ?_) (fun c26=> ?_)
  ·
   refine WP.skip ?_;refine pR.norm ?_;refine WP.seq ?_;refine WP.block ?_;refine ab ?_;refine RL.p rfl rfl (cI.move s25_e2) ?_;refine RL.x rfl rfl (iv (j:=i) aB s23_e2 hSx hX1 s25_e2 (by omega) (by omega)) ?_;rintro v1 _ ⟨rfl,q1⟩;refine RL.x rfl rfl (jh aU rfl q1) ?_;rintro v2 _ ⟨rfl,q2⟩;refine RL.p rfl rfl (cI.assign rfl) ?_;refine RL.p rfl rfl (cI.assign rfl) ?_;refine RL.nil ?_;refine ab ?_;refine RL.p rfl rfl (cI.move rfl) ?_;refine RL.x rfl rfl (dj.call qm (aI rfl) (kC _ _ _ _ _ (bO.ext q2 hX1))) ?_;rintro _ w4 ⟨hx3,rfl⟩;replace hA1:=be.ext hA1 hx3;replace hQ:=cN.ext hQ hx3;replace hR:=cN.ext hR hx3;replace hX1:=aF.trans hX1 hx3;refine RL.p rfl rfl (cI.assign rfl) ?_;refine RL.nil ?_;have hpw:=hpw0 i (by omega);have hpw1:=hpw0 (i + 1) (by omega);have hRbd:=mU (c:=cx) hbM hbz (i:=i) (by omega);refine ab ?_;refine RL.p rfl rfl (cI.move rfl) ?_;refine RL.p rfl rfl (cI.geq rfl rfl) ?_;refine RL.nil ?_;refine ag ((0:Int)≤(piv (Mx i) cx:Int)) rfl (fun c33=> ?_) (fun c33=> ?_)
   ·
    have hpa:=ls (z:=Mx i) (n:=cx) (by omega);refine aK am 12 [_,_,_,_,_,_,_,_,_,_,_,_] rfl rfl (fun e_ w_ BH BG=>⟨fun _=>aa (cI.move ((BG 7 rfl s7_e2))),fun _=>aa (cI.move ((BG 9 rfl rfl))),fun _=>aa (cI.move ((BG 8 rfl s8_e2))),fun _=>aa (cI.move ((BG 11 rfl rfl))),fun BF=>aa (cI.index (j:=(piv (Mx i) cx).toNat) dk ((BF 2 rfl)) ((nP (a:=(((piv (Mx i) cx).toNat:Nat):Int)) (b:=piv (Mx i) cx) (BF 3 rfl) (by omega))) rfl (by omega) (by omega)),fun BF=>ah (aP (j:=(piv (Mx i) cx).toNat) ao (BF 4 rfl) (cN.ext hR BH) (by omega)),fun _=>aa (cI.move ((BG 10 rfl rfl))),fun _=>aa (cI.move ((BG 11 rfl rfl))),fun BF=>ah (bk (j:=(piv (Mx i) cx).toNat) bi (BF 6 rfl) (bO.ext (bO.ext q2 hX1) BH) (nP (a:=(((piv (Mx i) cx).toNat:Nat):Int)) (b:=piv (Mx i) cx) (BF 7 rfl) (by omega)) (by omega) (by omega)),fun BF=>ah (bo ao rfl (BF 8 rfl)),fun BF=>dj.call tc (ax rfl rfl) (iz _ _ _ _ _ _ _ (BF 5 rfl) (BF 9 rfl) hpa.2.2.1 (by omega)),fun BF=>aa (cI.index (j:=i) dk ((BF 0 rfl)) ((BF 1 rfl)) rfl (by omega) (by omega)),trivial⟩) ?_;intro e3 w5 hx4 ho2 hf2;replace hA1:=be.ext hA1 hx4;replace hQ:=cN.ext hQ hx4;replace hR:=cN.ext hR hx4;replace hX1:=aF.trans hX1 hx4;have s4_e3:=ho2 4 rfl s4_e2;have s5_e3:=ho2 5 rfl s5_e2;have s6_e3:=ho2 6 rfl s6_e2;have s7_e3:=ho2 7 rfl s7_e2;have s8_e3:=ho2 8 rfl s8_e2;have s23_e3:=ho2 23 rfl s23_e2;have s24_e3:=ho2 24 rfl s24_e2;have s25_e3:=ho2 25 rfl s25_e2;have s9_e3:e3 9=_:=ho2 9 rfl rfl;have s10_e3:e3 10=_:=ho2 10 rfl rfl;have s44_e3:al w5 (e3 44) (((cg Mx cx zv i) ((piv (Mx i) cx).toNat))/((Mx i) ((piv (Mx i) cx).toNat))) b:=hf2 10 rfl;have s45_e3:e3 45=_:=hf2 11 rfl;refine RL.x rfl rfl (iC (j:=i) aN s45_e3 rfl (al.eq s44_e3 (tK (by omega)).symm (by have:=qu (M:=Mx) (i:=i) hRbd;exact Nat.lt_of_lt_of_le this hpw) (by omega)) hQ (by omega)) ?_;rintro _ w6 ⟨hk1,hN1⟩;replace hA1:=aT hA1 hk1 hQ (by decide);replace hR:=cN.keep hR hk1 (Ne.symm hqr) hQ.nu;replace hX1:=hX1.step hk1 (fun b e=>by subst e;exact hbq);replace hQ:=hN1;refine RL.nil ?_;replace hQ:=gD hQ (rS (Q:=(cw Mx cx zv)) rfl)
    skip
    refine WP.region ?_;refine RL.p rfl rfl (cI.move s8_e3) ?_;refine RL.p rfl rfl (cI.move s10_e3) ?_;refine RL.p rfl rfl (cI.move s7_e3) ?_;refine RL.p rfl rfl (cI.move s9_e3) ?_;refine RL.p rfl rfl (cI.index (j:=i) dk rfl rfl rfl (by omega) (by omega)) ?_;refine RL.x rfl rfl (aP (j:=i) ao rfl hQ (by omega)) ?_;rintro v3 _ ⟨rfl,q3⟩;refine RL.x rfl rfl (dj.call me (aI rfl) (mC _ _ _ _ q3)) ?_;rintro v4 w7 ⟨hx5,q4⟩;replace hA1:=be.ext hA1 hx5;replace hQ:=cN.ext hQ hx5;replace hR:=cN.ext hR hx5;replace hX1:=aF.trans hX1 hx5;obtain ⟨gy,hys,hyB,hyl⟩:=xg q2 hc0;refine RL.x rfl rfl (cT nW (cS rfl rfl rfl) (oF _ _ _ _ _ _ _ _ _ _ _ _ ⟨kr,rfl,hrk,hrl⟩ (bF hys _) q4 hR (cN.up (cN.ext hyB hX1) (by omega) (by omega)) (fun e=>absurd e (by omega)) (by omega) (fun j hj=>by rw [lw,oh];exact Nat.lt_of_lt_of_le (mU (c:=cx) hbM hbz (i:=i + 1) (by omega) j hj) hpw1))) ?_;rintro _ w9 ⟨hk2,hN2⟩;replace hA1:=aT hA1 hk2 hR (by decide);replace hQ:=cN.keep hQ hk2 hqr hR.nu;replace hX1:=hX1.step hk2 (fun b e=>by subst e;exact hbr);replace hR:=cN.congr (z':=cg Mx cx zv (i + 1)) hN2 (fun j hj=>by rw [lw,oh]);refine RL.nil ?_;refine jm.norm ?_;refine pR.norm ?_;refine WP.region ?_;refine RL.p rfl rfl (cI.add (c:=((i + 1:Nat):Int)) s25_e3 rfl (bU (by omega))) ?_;refine RL.p rfl rfl (cI.move rfl) ?_;refine RL.nil ?_;refine pR.norm ⟨_,(by omega),i + 1,rfl,s4_e3,s5_e3,s6_e3,s7_e3,s8_e3,s23_e3,s24_e3,rfl,(by omega),hX1,hA1,hQ,hR⟩
   ·
    refine WP.skip ?_;refine jm.norm ?_;refine pR.norm ?_;refine WP.region ?_;refine RL.p rfl rfl (cI.add (c:=((i + 1:Nat):Int)) s25_e2 rfl (bU (by omega))) ?_;refine RL.p rfl rfl (cI.move rfl) ?_;refine RL.nil ?_;refine pR.norm ⟨_,(by omega),i + 1,rfl,s4_e2,s5_e2,s6_e2,s7_e2,s8_e2,s23_e2,s24_e2,rfl,(by omega),hX1,hA1,gD hQ (pu (lk (by omega))),gD hR (tJ (by omega))⟩
  ·
   refine WP.exit ?_;refine pR.exit ?_;refine pR.exit ?_;refine jm.same ?_;refine pR.norm ?_;refine ab ?_;refine RL.p rfl rfl (cI.move s7_e2) ?_;refine RL.p rfl rfl (cI.move s8_e2) ?_;refine RL.p rfl rfl (cI.assign rfl) ?_;refine RL.p rfl rfl (cI.assign rfl) ?_;refine RL.p rfl rfl (cI.assign rfl) ?_;refine RL.nil ?_;refine WP.ret ?_;refine ⟨.tuple #[.slice (some ⟨gq,0,none⟩) (rx) (rx),.slice (some ⟨gr,0,none⟩) (cx) (kr),.int .i64 (0)],du (ge.tmp rfl) (ge.tmp rfl) (ge.tmp rfl),_,rfl,hX1,?_⟩;dsimp only;have hir:i=rx:=by omega
   subst hir;refine .inr ⟨by omega,_,_,rfl,?_,?_⟩
   · exact cN.rowV (cN.congr hQ (fun j hj=>if_pos hj)) (Nat.le_refl _) ⟨by omega,by omega⟩
   · exact cN.rowV hR hrk hrl
end Go.TL
namespace Go.TL
open Go.RowKit Go.Proofs
set_option linter.unusedVariables false
set_option linter.unusedSimpArgs false
set_option maxRecDepth 10000 in
theorem tG (w:World) (x:Value) (zx:Nat→Int) (btx:Nat) (hx:bO w x 0 zx btx):Calls Tryz.prog 65 #[x] w (ci w fun v w'=>bO w' v 0 zx btx):=by
 have hLIM:br=562949953421312:=rfl;obtain ⟨Ax,kx,rfl,hkx,hlx,_⟩:=hx;refine ak (N:=8) (rs:= #[.tmp 2]) Tryz.func65 rfl rfl rfl (Nat.le_of_ble_eq_true rfl) ?_;have hX:aF w w:=aF.refl w;refine ab ?_;refine RL.p rfl rfl (cI.assign rfl) ?_;refine RL.nil ?_;refine WP.seq ?_;refine ab ?_;refine RL.p rfl rfl (cI.move rfl) ?_;refine RL.p rfl rfl (iE dk rfl rfl) ?_;refine RL.nil ?_;refine ag (Ax=none) rfl (fun c4=> ?_) (fun c4=> ?_)
 ·
  refine ab ?_;refine RL.p rfl rfl (cI.assign rfl) ?_;refine RL.nil ?_;refine WP.ret ?_;refine pR.ret ?_;refine ⟨.slice (none) (0) (0),Bb.one (ge.tmp rfl),_,rfl,hX,?_⟩;dsimp only;exact ⟨_,_,rfl,Nat.zero_le _,⟨by decide,Nat.zero_le _,hlx.2.2⟩,fun h=>absurd h (Nat.lt_irrefl _)⟩
 ·
  refine WP.skip ?_;refine pR.norm ?_;refine ab ?_;refine RL.x rfl rfl (dF dk) ?_;rintro _ w1 ⟨g1,rfl,hge1,hx1,hA1⟩;replace hX:=aF.trans hX hx1;refine RL.p rfl rfl (cI.move rfl) ?_;refine RL.p rfl rfl (oW dk rfl rfl) ?_;refine RL.p rfl rfl (cI.assign rfl) ?_;refine RL.nil ?_;refine WP.ret ?_;refine ⟨.slice (some ⟨g1,0,none⟩) (0) (0),Bb.one (ge.tmp rfl),_,rfl,hX,?_⟩;dsimp only;exact ⟨_,_,rfl,Nat.zero_le _,⟨by decide,Nat.zero_le _,hlx.2.2⟩,fun h=>absurd h (Nat.lt_irrefl _)⟩
set_option maxRecDepth 10000 in
theorem mu (w:World) (x:Value) (rx cx:Nat) (Mx:Nat→Nat→Int) (btx:Nat) (v:Value) (nv:Nat) (zv:Nat→Int) (btv:Nat) (b:Nat) (hx:cc w x rx cx Mx btx) (hv:bO w v nv zv btv) (hc0:cx=0) (hl:b≤br):Calls Tryz.prog 21 #[x,v] w (ci w fun v w'=>(nv≠cx∧v= .tuple #[.slice none 0 0,.slice none 0 0,.int .i64 50])∨(nv=cx∧∃vq vr,v= .tuple #[vq,vr,.int .i64 0]∧bO w' vq rx (cw Mx cx zv) b∧bO w' vr cx (cg Mx cx zv rx) b)):=by
 have hLIM:br=562949953421312:=rfl;have hmatx:=hx;obtain ⟨sx,rfl,hrx,hcx,hSx⟩:=hx.form;have hlimv:=hv.lim;refine ak (N:=57) (rs:= #[.tmp 4,.tmp 5,.tmp 6]) Tryz.func21 rfl rfl rfl (Nat.le_of_ble_eq_true rfl) ?_;have hX:aF w w:=aF.refl w;have hnp:∀i,¬0≤piv (Mx i) cx:=fun i h=>by rw [hc0] at h;exact absurd h (by show ¬(0:Int)≤ -1;decide)
 refine ab ?_;refine RL.x rfl rfl (dj.box [.int .i64 ((rx:Nat)),.int .i64 ((cx:Nat)),sx] rfl rfl) ?_;rintro _ w1 ⟨g1,rfl,hge1,hx1,hA1⟩;replace hX:=aF.trans hX hx1;refine RL.p rfl rfl (cI.assign rfl) ?_;refine RL.p rfl rfl (cI.assign rfl) ?_;refine RL.p rfl rfl (cI.assign rfl) ?_;refine RL.nil ?_;refine WP.seq ?_;refine ab ?_;refine RL.p rfl rfl (cI.move rfl) ?_;refine RL.p rfl rfl (cl dk rfl (bO.ext hv hX)) ?_;refine RL.p rfl rfl (cI.fieldAddr bE rfl) ?_;refine RL.p rfl rfl (cI.load bG rfl (hA1.at_ (i:=1) rfl rfl)) ?_;refine RL.p rfl rfl (cI.neq rfl rfl) ?_;refine RL.nil ?_;refine ag (((nv:Nat):Int)≠((cx:Nat):Int)) rfl (fun c16=> ?_) (fun c16=> ?_)
 ·
  refine ab ?_;refine RL.p rfl rfl (cI.assign rfl) ?_;refine RL.p rfl rfl (cI.assign rfl) ?_;refine RL.p rfl rfl (cI.assign rfl) ?_;refine RL.nil ?_;refine WP.ret ?_;refine pR.ret ?_;refine ⟨.tuple #[.slice (none) (0) (0),.slice (none) (0) (0),.int .i64 (50)],du (ge.tmp rfl) (ge.tmp rfl) (ge.tmp rfl),_,rfl,hX,?_⟩;dsimp only;exact .inl ⟨fun e=>c16 (by omega),rfl⟩
 ·
  refine WP.skip ?_;refine pR.norm ?_;obtain rfl:cx=nv:=by omega
  refine aK am 5 [_,_,fun v BI=>ed BI v w1.heap.size rx b,_,_] rfl rfl (fun e_ w_ BH BG=>⟨fun _=>aa (cI.fieldAddr bg ((BG 2 rfl rfl))),fun BF=>aa (cI.load bG ((BF 0 rfl)) ((be.ext hA1 BH).at_ (i:=0) rfl rfl)),fun BF=>gE dk (by decide) bH (BF 1 rfl) (BF 1 rfl) rfl rfl (by omega) BH.size (by omega),fun _=>aa (cI.move ((BG 1 rfl rfl))),fun BF=>dj.call xA (aI ((BF 3 rfl))) (tG _ _ _ _ (hc0▸(bO.ext (bO.ext hv hX) BH))),trivial⟩) ?_;intro e1 w2 hx2 ho1 hf1;replace hA1:=be.ext hA1 hx2;replace hX:=aF.trans hX hx2;have s2_e1:e1 2=_:=ho1 2 rfl rfl;have s4_e1:e1 4=_:=ho1 4 rfl rfl;have s5_e1:e1 5=_:=ho1 5 rfl rfl;have s6_e1:e1 6=_:=ho1 6 rfl rfl;have s19_e1:ed w2 (e1 19) w1.heap.size rx b:=hf1 2 rfl;have s21_e1:bO w2 (e1 21) 0 zv btv:=hf1 4 rfl;refine RL.p rfl rfl (cI.assign rfl) ?_;refine RL.p rfl rfl (cI.assign rfl) ?_;refine RL.nil ?_;refine WP.seq ?_;refine ab ?_;refine RL.p rfl rfl (cI.fieldAddr aq s2_e1) ?_;refine RL.p rfl rfl (cI.load aH rfl (hA1.at_ (i:=2) rfl rfl)) ?_;refine RL.p rfl rfl (cA aB rfl (co.ext hSx hX)) ?_;refine RL.p rfl rfl (cI.move rfl) ?_;refine RL.nil ?_;refine WP.block ?_;refine WP.loop (fun mz ez uz=>∃i:Nat,(mz=rx - i)∧(ez 4= .slice (none) (0) (0))∧(ez 5= .slice (none) (0) (0))∧(ez 6= .int .i64 (0))∧(ez 7=(e1 19))∧(ez 8=(e1 21))∧(ez 23=sx)∧(ez 24= .int .i64 ((rx:Nat)))∧(ez 25= .int .i64 ((i:Nat)))∧(i≤rx)∧(aF w uz)∧(be uz g1 28 3 (bS [.int .i64 ((rx:Nat)),.int .i64 ((cx:Nat)),sx]))∧(ed uz (e1 19) w1.heap.size rx b)∧(bO uz (e1 21) 0 zv btv)) (rx - 0) ?_ ?_
  · exact ⟨0,rfl,s4_e1,s5_e1,s6_e1,rfl,rfl,rfl,rfl,rfl,(by omega),hX,hA1,s19_e1,s21_e1⟩
  rintro m1 e2 w3 ⟨i,hm1,s4_e2,s5_e2,s6_e2,s7_e2,s8_e2,s23_e2,s24_e2,s25_e2,hi,hX1,hA1,s19_e1,s21_e1⟩;refine ab ?_;refine RL.p rfl rfl (cI.lss s25_e2 s24_e2) ?_;refine RL.nil ?_;refine WP.seq ?_;refine ag (((i:Nat):Int)<((rx:Nat):Int)) rfl (fun c26=> ?_) (fun c26=> ?_)
  ·
   refine WP.skip ?_;refine pR.norm ?_;refine WP.seq ?_;refine WP.block ?_;refine ab ?_;refine RL.p rfl rfl (cI.move s25_e2) ?_;refine RL.x rfl rfl (iv (j:=i) aB s23_e2 hSx hX1 s25_e2 (by omega) (by omega)) ?_;rintro v1 _ ⟨rfl,q1⟩;refine RL.x rfl rfl (jh aU rfl q1) ?_;rintro v2 _ ⟨rfl,q2⟩;refine RL.p rfl rfl (cI.assign rfl) ?_;refine RL.p rfl rfl (cI.assign rfl) ?_;refine RL.nil ?_;refine ab ?_;refine RL.p rfl rfl (cI.move rfl) ?_;refine RL.x rfl rfl (dj.call qm (aI rfl) (kC _ _ _ _ _ (bO.ext q2 hX1))) ?_;rintro _ w4 ⟨hx3,rfl⟩;replace hA1:=be.ext hA1 hx3;replace s19_e1:=ed.ext s19_e1 hx3;replace s21_e1:=bO.ext s21_e1 hx3;replace hX1:=aF.trans hX1 hx3;refine RL.p rfl rfl (cI.assign rfl) ?_;refine RL.nil ?_;refine ab ?_;refine RL.p rfl rfl (cI.move rfl) ?_;refine RL.p rfl rfl (cI.geq rfl rfl) ?_;refine RL.nil ?_;refine ag ((0:Int)≤(piv (Mx i) cx:Int)) rfl (fun hn=>absurd hn ((hnp i))) (fun c33=> ?_);refine WP.skip ?_;refine jm.norm ?_;refine pR.norm ?_;refine WP.region ?_;refine RL.p rfl rfl (cI.add (c:=((i + 1:Nat):Int)) s25_e2 rfl (bU (by omega))) ?_;refine RL.p rfl rfl (cI.move rfl) ?_;refine RL.nil ?_;refine pR.norm ⟨_,(by omega),i + 1,rfl,s4_e2,s5_e2,s6_e2,s7_e2,s8_e2,s23_e2,s24_e2,rfl,(by omega),hX1,hA1,s19_e1,s21_e1⟩
  ·
   refine WP.exit ?_;refine pR.exit ?_;refine pR.exit ?_;refine jm.same ?_;refine pR.norm ?_;refine ab ?_;refine RL.p rfl rfl (cI.move s7_e2) ?_;refine RL.p rfl rfl (cI.move s8_e2) ?_;refine RL.p rfl rfl (cI.assign rfl) ?_;refine RL.p rfl rfl (cI.assign rfl) ?_;refine RL.p rfl rfl (cI.assign rfl) ?_;refine RL.nil ?_;refine WP.ret ?_;refine ⟨.tuple #[(e1 19),(e1 21),.int .i64 (0)],du (ge.tmp rfl) (ge.tmp rfl) (ge.tmp rfl),_,rfl,hX1,?_⟩;dsimp only;refine .inr ⟨by omega,_,_,rfl,yN s19_e1 (fun i=>hnp i) (by omega),?_⟩;subst hc0;exact (sK s21_e1 (by omega))
end Go.TL
namespace Go.TL
open Go.RowKit Go.Proofs
set_option linter.unusedVariables false
theorem sB (w:World) (x:Value) (rx cx:Nat) (Mx:Nat→Nat→Int) (btx:Nat) (v:Value) (zv:Nat→Int) (btv b:Nat) (hx:cc w x rx cx Mx btx) (hv:bO w v cx zv btv) (hb:btv + rx*(btx + 1)≤b) (hl:b + b + 2≤br) (hl2:btx≤b):
    Calls Tryz.prog 21 #[x,v] w (ci w fun v w'=>∃vq vr,v= .tuple #[vq,vr,.int .i64 0]∧bO w' vq rx (cw Mx cx zv) b∧bO w' vr cx (cg Mx cx zv rx) b):=by
  rcases Nat.eq_zero_or_pos cx with h0 | h0
  · refine (mu w x rx cx Mx btx v cx zv btv b hx hv h0 (by omega)).mono ?_
    rintro e w' ⟨v,rfl,hx',h⟩;rcases h with ⟨h,_⟩ | ⟨_,h⟩
    · exact absurd rfl h
    · exact ⟨v,rfl,hx',h⟩
  · refine (oG w x rx cx Mx btx v cx zv btv b hx hv h0 hb hl hl2).mono ?_
    rintro e w' ⟨v,rfl,hx',h⟩;rcases h with ⟨h,_⟩ | ⟨_,h⟩
    · exact absurd rfl h
    · exact ⟨v,rfl,hx',h⟩
theorem sA (w:World) (x:Value) (rx cx:Nat) (Mx:Nat→Nat→Int) (btx:Nat) (v:Value) (nv:Nat) (zv:Nat→Int) (btv:Nat) (hx:cc w x rx cx Mx btx) (hv:bO w v nv zv btv) (hn:nv≠cx) (hl:btv + rx*(btx + 1) + (btv + rx*(btx + 1) + (btx + btx + 2))≤br):
    Calls Tryz.prog 21 #[x,v] w (ci w fun v w'=>v= .tuple #[.slice none 0 0,.slice none 0 0,.int .i64 50]):=by
  rcases Nat.eq_zero_or_pos cx with h0 | h0
  · refine (mu w x rx cx Mx btx v nv zv btv 0 hx hv h0 (by omega)).mono ?_
    rintro e w' ⟨v,rfl,hx',h⟩;rcases h with ⟨_,h⟩ | ⟨h,_⟩
    · exact ⟨v,rfl,hx',h⟩
    · exact absurd h hn
  · refine (oG w x rx cx Mx btx v nv zv btv (btv + rx*(btx + 1) + btx) hx hv h0 (by omega) (by omega) (by omega)).mono ?_
    rintro e w' ⟨v,rfl,hx',h⟩;rcases h with ⟨_,h⟩ | ⟨h,_⟩
    · exact ⟨v,rfl,hx',h⟩
    · exact absurd h hn
theorem uk (w:World) (x:Value) (rx cx:Nat) (Mx:Nat→Nat→Int) (btx:Nat) (y:Value) (ry cy:Nat) (My:Nat→Nat→Int) (bty b:Nat) (hx:cc w x rx cx Mx btx) (hy:cc w y ry cy My bty) (hxy:cx=ry) (hb:btx + bty + 1≤br) (hb2:b + 1≤br)
    (hfit:∀i j k,i<rx→j<cy→k≤cx→(aO k (fun x=>Mx i x*My x j)).natAbs<2^b):
    Calls Tryz.prog 61 #[x,y] w (ci w fun v w'=>∃v1,v= .tuple #[v1,.int .i64 0]∧cc w' v1 rx cy (bK cx Mx My) b):=by
  refine (AM w x rx cx Mx btx y ry cy My bty b hx hy hxy hb hb2 hfit).mono ?_;rintro e w' ⟨v,rfl,hx',v1,h1,h2⟩;exact ⟨v,rfl,hx',v1,h1,cH.matV h2⟩
theorem kp {r n c a b:Nat} {A B:Nat→Nat→Int} (hA:∀i j,i<r→j<n→(A i j).natAbs<2^a) (hB:∀i j,i<n→j<c→(B i j).natAbs<2^b) (hn:n≤16) {d:Nat} (hd:a + b + 5≤d):
    ∀i j k,i<r→j<c→k≤n→(aO k (fun x=>A i x*B x j)).natAbs<2^d:=by
  intro i j k hi hj hk;have h1:(aO k (fun x=>A i x*B x j)).natAbs≤k*(2^a*2^b):=kZ fun x hx=>by
    rw [Int.natAbs_mul];exact Nat.mul_le_mul (Nat.le_of_lt (hA i x hi (by omega))) (Nat.le_of_lt (hB x j (by omega) hj))
  have h2:k*(2^a*2^b)≤16*(2^a*2^b):=Nat.mul_le_mul_right _ (by omega);have h3:16*(2^a*2^b)<2^(a + b + 5):=by
    rw [Nat.pow_add,Nat.pow_add];have:=Nat.mul_pos (Nat.two_pow_pos a) (Nat.two_pow_pos b);omega
  have h4:2^(a + b + 5)≤2^d:=Nat.pow_le_pow_right (by decide) hd;omega
def aV (rx ca rh ch ru cu rv cv:Nat) (A H U V:Nat→Nat→Int):Prop:=
  (cV rh ch H∧rh=rx∧ch=ca∧(ru=rx∧cu=rx)∧(rv=rx∧cv=rx))∧aA ru ca rh ch (bK cu U A) H∧aA ru cv rx rx (bK cu U V) dA
instance (rx ca rh ch ru cu rv cv:Nat) (A H U V:Nat→Nat→Int):Decidable (aV rx ca rh ch ru cu rv cv A H U V):=inferInstanceAs (Decidable ((_∧_)∧_))
section
variable {rx ca rh ch ru cu rv cv:Nat} {A H U V:Nat→Nat→Int}
theorem uY (h:aV rx ca rh ch ru cu rv cv A H U V) (c:(((((¬True∨¬cV rh ch H)∨((rh:Nat):Int)≠((rx:Nat):Int))∨((ch:Nat):Int)≠((ca:Nat):Int))∨¬(ru=rx∧cu=rx))∨¬(rv=rx∧cv=rx))):False:=by
  obtain ⟨⟨h1,h2,h3,h4,h5⟩,_⟩:=h;rcases c with ((((c | c) | c) | c) | c) | c
  · exact c trivial
  · exact c h1
  · exact c (by rw [h2])
  · exact c (by rw [h3])
  · exact c h4
  · exact c h5
theorem wR (c:¬(((((¬True∨¬cV rh ch H)∨((rh:Nat):Int)≠((rx:Nat):Int))∨((ch:Nat):Int)≠((ca:Nat):Int))∨¬(ru=rx∧cu=rx))∨¬(rv=rx∧cv=rx))):cV rh ch H∧rh=rx∧ch=ca∧(ru=rx∧cu=rx)∧(rv=rx∧cv=rx):=
  ⟨Decidable.by_contra fun h=>c (.inl (.inl (.inl (.inl (.inr h))))),Decidable.by_contra fun h=>c (.inl (.inl (.inl (.inr (by omega))))),Decidable.by_contra fun h=>c (.inl (.inl (.inr (by omega)))),Decidable.by_contra fun h=>c (.inl (.inr h)),Decidable.by_contra fun h=>c (.inr h)⟩
theorem A6 (c:¬(((¬True∨¬cV rh ch H)∨((rh:Nat):Int)≠((rx:Nat):Int))∨((ch:Nat):Int)≠((ca:Nat):Int))):cV rh ch H∧rh=rx∧ch=ca:=
  ⟨Decidable.by_contra fun h=>c (.inl (.inl (.inr h))),Decidable.by_contra fun h=>c (.inl (.inr (by omega))),Decidable.by_contra fun h=>c (.inr (by omega))⟩
theorem zj (h:aV rx ca rh ch ru cu rv cv A H U V) (c:(((¬True∨¬cV rh ch H)∨((rh:Nat):Int)≠((rx:Nat):Int))∨((ch:Nat):Int)≠((ca:Nat):Int))):False:=
  uY h (.inl (.inl c))
theorem wS (hk:cV rh ch H∧rh=rx∧ch=ca):(((((((ru:Nat):Int)=((rx:Nat):Int)∧((cu:Nat):Int)=((rx:Nat):Int))∧True)∧((((rv:Nat):Int)=((rx:Nat):Int)∧((cv:Nat):Int)=((rx:Nat):Int))∧True))∧aA ru ca rh ch (bK cu U A) H)∧aA ru cv rx rx (bK cu U V) dA)↔aV rx ca rh ch ru cu rv cv A H U V:=by
  constructor
  · rintro ⟨⟨⟨⟨⟨h1,h2⟩,_⟩,⟨⟨h3,h4⟩,_⟩⟩,h5⟩,h6⟩
    exact ⟨⟨hk.1,hk.2.1,hk.2.2,⟨by omega,by omega⟩,⟨by omega,by omega⟩⟩,h5,h6⟩
  · rintro ⟨⟨_,_,_,⟨h1,h2⟩,⟨h3,h4⟩⟩,h5,h6⟩
    exact ⟨⟨⟨⟨⟨by omega,by omega⟩,trivial⟩,⟨⟨by omega,by omega⟩,trivial⟩⟩,h5⟩,h6⟩
end
end Go.TL
namespace Go.TL
open Go.RowKit Go.Proofs
set_option linter.unusedVariables false
set_option linter.unusedSimpArgs false
set_option maxRecDepth 10000 in
set_option maxHeartbeats 800000 in
theorem fV (w:World) (x:Value) (rx cx:Nat) (Mx:Nat→Nat→Int) (btx:Nat) (s1 s2 s3:Value) (rh ch ru cu rv cv:Nat) (Mh Mu Mv:Nat→Nat→Int) (bh bu bv:Nat) (b:Nat) (hx:cc w x rx cx Mx btx) (h65:rh≤65536∧ch≤65536∧ru≤65536∧cu≤65536∧rv≤65536∧cv≤65536) (hSha:co w s1 rh ch Mh bh) (hShb:co w s2 ru cu Mu bu) (hShc:co w s3 rv cv Mv bv) (h16:rx≤16) (hb1:bu + btx + 5≤b) (hb2:bu + bv + 5≤b) (hl:b + 1≤br):Calls Tryz.prog 17 #[x,.agg #[.int .i64 (rh:Nat),.int .i64 (ch:Nat),s1,.int .i64 (ru:Nat),.int .i64 (cu:Nat),s2,.int .i64 (rv:Nat),.int .i64 (cv:Nat),s3]] w (ci w fun v w'=>v= .bool (decide (aV rx cx rh ch ru cu rv cv Mx Mh Mu Mv))):=by
 have hLIM:br=562949953421312:=rfl;have hmatx:=hx;obtain ⟨sx,rfl,hrx,hcx,hSx⟩:=hx.form;refine ak (N:=76) (rs:= #[.tmp 4]) Tryz.func17 rfl rfl rfl (Nat.le_of_ble_eq_true rfl) ?_;have hX:aF w w:=aF.refl w;refine ab ?_;refine RL.x rfl rfl (dj.box [.int .i64 ((rx:Nat)),.int .i64 ((cx:Nat)),sx] rfl rfl) ?_;rintro _ w1 ⟨g1,rfl,hge1,hx1,hA1⟩;replace hX:=aF.trans hX hx1;refine RL.x rfl rfl (dj.box [.int .i64 ((rh:Nat)),.int .i64 ((ch:Nat)),s1,.int .i64 ((ru:Nat)),.int .i64 ((cu:Nat)),s2,.int .i64 ((rv:Nat)),.int .i64 ((cv:Nat)),s3] rfl rfl) ?_;rintro _ w2 ⟨g2,rfl,hge2,hx2,hA2⟩;replace hA1:=be.ext hA1 hx2;replace hX:=aF.trans hX hx2;refine RL.p rfl rfl (cI.assign rfl) ?_;refine RL.nil ?_;refine WP.seq ?_;refine aK (hmono:=⟨⟨ac _,ac _,ac _,ac _,bP.imp (ac _),bP.imp (ac _),bP.imp (ac _),bP.imp (ac _),ac _,ac _,bP.imp (ac _),bP.imp (ac _),bP.imp (ac _),bP.imp (ac _),bP.imp (ac _),bP.imp (ac _),ac _,ac _,bP.imp (ac _),bP.imp (ac _),bP.imp (ac _),bP.imp (ac _),bP.imp (ac _),bP.imp (ac _),ac _,ac _,bP.imp (ac _),bP.imp (ac _),bP.imp (ac _),bP.imp (ac _),bP.imp (ac _),bP.imp (ac _),ac _,ac _,bP.imp (ac _),bP.imp (ac _),bP.imp (ac _),bP.imp (ac _),bP.imp (ac _),bP.imp (ac _),ac _,trivial⟩⟩) am 41 (_::(fun v BI=>v= .bool (decide (True)))::_::(fun v BI=>v= .bool (decide (¬(True))))::_::_::(fun v BI=>(¬(¬(True)))→(v= .bool (decide (cV rh ch Mh))))::_::_::(fun v BI=>v= .bool (decide ((¬(True))∨(¬(cV rh ch Mh)))))::_:: [_,_,_,_,_,_,fun v BI=>v= .bool (decide (((¬(True))∨(¬(cV rh ch Mh)))∨(((rh:Nat):Int)≠((rx:Nat):Int)))),_,_,_,_,_,_,_,fun v BI=>v= .bool (decide ((((¬(True))∨(¬(cV rh ch Mh)))∨(((rh:Nat):Int)≠((rx:Nat):Int)))∨(((ch:Nat):Int)≠((cx:Nat):Int)))),_,_,_,_,fun v BI=>(¬((((¬(True))∨(¬(cV rh ch Mh)))∨(((rh:Nat):Int)≠((rx:Nat):Int)))∨(((ch:Nat):Int)≠((cx:Nat):Int))))→(v= .bool (decide (ru=rx∧cu=rx))),_,_,fun v BI=>v= .bool (decide (((((¬(True))∨(¬(cV rh ch Mh)))∨(((rh:Nat):Int)≠((rx:Nat):Int)))∨(((ch:Nat):Int)≠((cx:Nat):Int)))∨(¬(ru=rx∧cu=rx)))),_,_,_,_,fun v BI=>(¬(((((¬(True))∨(¬(cV rh ch Mh)))∨(((rh:Nat):Int)≠((rx:Nat):Int)))∨(((ch:Nat):Int)≠((cx:Nat):Int)))∨(¬(ru=rx∧cu=rx))))→(v= .bool (decide (rv=rx∧cv=rx))),_,_]) rfl rfl (fun e_ w_ BH BG=>⟨fun _=>aa (af [.int .i64 ((rx:Nat)),.int .i64 ((cx:Nat)),sx] aR ((BG 2 rfl rfl)) ((be.ext hA1 BH).cells 0 _ rfl rfl)),fun BF=>dj.call sY (aI ((BF 0 rfl))) (oC _ _ _ _ _ _ (cc.mk (co.ext (co.ext hSx hX) BH) (by omega) (by omega))),fun BF=>aa (cI.not (p:=True) (BF 1 rfl)),fun BF=>aa (cI.move ((BF 2 rfl))),fun BF=>gF (BF 3 rfl) fun hg=>aa (cI.fieldAddr dJ ((BG 3 rfl rfl))),fun BF=>gF (BF 3 rfl) fun hg=>aa (af [.int .i64 ((rh:Nat)),.int .i64 ((ch:Nat)),s1] aR ((BF 4 rfl hg)) ((be.ext hA2 BH).cells 0 _ rfl rfl)),fun BF=>gF (BF 3 rfl) fun hg=>dj.call nX (aI ((BF 5 rfl hg))) (qU _ _ _ _ _ _ (cc.mk (co.ext (co.ext hSha hX) BH) (by omega) (by omega))),fun BF=>gF (BF 3 rfl) fun hg=>aa (cI.not (p:=cV rh ch Mh) (BF 6 rfl hg)),fun BF=>aa (bq (p:=¬(True)) (q:=¬(cV rh ch Mh)) (BF 3 rfl) (fun hq=>(BF 7 rfl hq))),fun BF=>aa (cI.move ((BF 8 rfl))),fun BF=>gF (BF 9 rfl) fun hg=>aa (cI.fieldAddr dJ ((BG 3 rfl rfl))),fun BF=>gF (BF 9 rfl) fun hg=>aa (cI.fieldAddr bg ((BF 10 rfl hg))),fun BF=>gF (BF 9 rfl) fun hg=>aa (cI.load bG ((BF 11 rfl hg)) ((be.ext hA2 BH).at_ (i:=0) rfl rfl)),fun BF=>gF (BF 9 rfl) fun hg=>aa (cI.fieldAddr bg ((BG 2 rfl rfl))),fun BF=>gF (BF 9 rfl) fun hg=>aa (cI.load bG ((BF 13 rfl hg)) ((be.ext hA1 BH).at_ (i:=0) rfl rfl)),fun BF=>gF (BF 9 rfl) fun hg=>aa (cI.neq ((BF 12 rfl hg)) ((BF 14 rfl hg))),fun BF=>aa (bq (p:=(¬(True))∨(¬(cV rh ch Mh))) (q:=((rh:Nat):Int)≠((rx:Nat):Int)) (BF 9 rfl) (fun hq=>(BF 15 rfl hq))),fun BF=>aa (cI.move ((BF 16 rfl))),fun BF=>gF (BF 17 rfl) fun hg=>aa (cI.fieldAddr dJ ((BG 3 rfl rfl))),fun BF=>gF (BF 17 rfl) fun hg=>aa (cI.fieldAddr bE ((BF 18 rfl hg))),fun BF=>gF (BF 17 rfl) fun hg=>aa (cI.load bG ((BF 19 rfl hg)) ((be.ext hA2 BH).at_ (i:=1) rfl rfl)),fun BF=>gF (BF 17 rfl) fun hg=>aa (cI.fieldAddr bE ((BG 2 rfl rfl))),fun BF=>gF (BF 17 rfl) fun hg=>aa (cI.load bG ((BF 21 rfl hg)) ((be.ext hA1 BH).at_ (i:=1) rfl rfl)),fun BF=>gF (BF 17 rfl) fun hg=>aa (cI.neq ((BF 20 rfl hg)) ((BF 22 rfl hg))),fun BF=>aa (bq (p:=((¬(True))∨(¬(cV rh ch Mh)))∨(((rh:Nat):Int)≠((rx:Nat):Int))) (q:=((ch:Nat):Int)≠((cx:Nat):Int)) (BF 17 rfl) (fun hq=>(BF 23 rfl hq))),fun BF=>aa (cI.move ((BF 24 rfl))),fun BF=>gF (BF 25 rfl) fun hg=>aa (cI.fieldAddr eH ((BG 3 rfl rfl))),fun BF=>gF (BF 25 rfl) fun hg=>aa (af [.int .i64 ((ru:Nat)),.int .i64 ((cu:Nat)),s2] aR ((BF 26 rfl hg)) ((be.ext hA2 BH).cells 3 _ rfl rfl)),fun BF=>gF (BF 25 rfl) fun hg=>aa (cI.fieldAddr bg ((BG 2 rfl rfl))),fun BF=>gF (BF 25 rfl) fun hg=>aa (cI.load bG ((BF 28 rfl hg)) ((be.ext hA1 BH).at_ (i:=0) rfl rfl)),fun BF=>gF (BF 25 rfl) fun hg=>dj.call xD (ax ((BF 27 rfl hg)) ((BF 29 rfl hg))) (qS _ _ _ _ _ _ rx (cc.mk (co.ext (co.ext hShb hX) BH) (by omega) (by omega))),fun BF=>gF (BF 25 rfl) fun hg=>aa (cI.not (p:=ru=rx∧cu=rx) (BF 30 rfl hg)),fun BF=>aa (bq (p:=(((¬(True))∨(¬(cV rh ch Mh)))∨(((rh:Nat):Int)≠((rx:Nat):Int)))∨(((ch:Nat):Int)≠((cx:Nat):Int))) (q:=¬(ru=rx∧cu=rx)) (BF 25 rfl) (fun hq=>(BF 31 rfl hq))),fun BF=>aa (cI.move ((BF 32 rfl))),fun BF=>gF (BF 33 rfl) fun hg=>aa (cI.fieldAddr gM ((BG 3 rfl rfl))),fun BF=>gF (BF 33 rfl) fun hg=>aa (af [.int .i64 ((rv:Nat)),.int .i64 ((cv:Nat)),s3] aR ((BF 34 rfl hg)) ((be.ext hA2 BH).cells 6 _ rfl rfl)),fun BF=>gF (BF 33 rfl) fun hg=>aa (cI.fieldAddr bg ((BG 2 rfl rfl))),fun BF=>gF (BF 33 rfl) fun hg=>aa (cI.load bG ((BF 36 rfl hg)) ((be.ext hA1 BH).at_ (i:=0) rfl rfl)),fun BF=>gF (BF 33 rfl) fun hg=>dj.call xD (ax ((BF 35 rfl hg)) ((BF 37 rfl hg))) (qS _ _ _ _ _ _ rx (cc.mk (co.ext (co.ext hShc hX) BH) (by omega) (by omega))),fun BF=>gF (BF 33 rfl) fun hg=>aa (cI.not (p:=rv=rx∧cv=rx) (BF 38 rfl hg)),fun BF=>aa (bq (p:=((((¬(True))∨(¬(cV rh ch Mh)))∨(((rh:Nat):Int)≠((rx:Nat):Int)))∨(((ch:Nat):Int)≠((cx:Nat):Int)))∨(¬(ru=rx∧cu=rx))) (q:=¬(rv=rx∧cv=rx)) (BF 33 rfl) (fun hq=>(BF 39 rfl hq))),trivial⟩) ?_;intro e1 w3 hx3 ho1 hf1;replace hA1:=be.ext hA1 hx3;replace hA2:=be.ext hA2 hx3;replace hX:=aF.trans hX hx3;have s2_e1:e1 2=_:=ho1 2 rfl rfl;have s3_e1:e1 3=_:=ho1 3 rfl rfl;have s49_e1:e1 49=_:=hf1 40 rfl;refine RL.nil ?_;refine ag ((((((¬(True))∨(¬(cV rh ch Mh)))∨(((rh:Nat):Int)≠((rx:Nat):Int)))∨(((ch:Nat):Int)≠((cx:Nat):Int)))∨(¬(ru=rx∧cu=rx)))∨(¬(rv=rx∧cv=rx))) s49_e1 (fun c49=> ?_) (fun c49=> ?_)
 ·
  refine ab ?_;refine RL.p rfl rfl (cI.assign rfl) ?_;refine RL.nil ?_;refine WP.ret ?_;refine pR.ret ?_;refine ⟨.bool (false),Bb.one (ge.tmp rfl),_,rfl,hX,?_⟩;dsimp only;exact congrArg _ (decide_eq_false fun h=>uY h c49).symm
 ·
  refine WP.skip ?_;refine pR.norm ?_;obtain ⟨hka,hkb,hkc,hkd,hke⟩:=wR c49;refine ab ?_;refine RL.p rfl rfl (cI.fieldAddr eH s3_e1) ?_;refine RL.p rfl rfl (af [.int .i64 ((ru:Nat)),.int .i64 ((cu:Nat)),s2] aR rfl (hA2.cells 3 _ rfl rfl)) ?_;refine RL.p rfl rfl (af [.int .i64 ((rx:Nat)),.int .i64 ((cx:Nat)),sx] aR s2_e1 (hA1.cells 0 _ rfl rfl)) ?_;refine RL.x rfl rfl (dj.call xC (ax rfl rfl) (uk _ _ _ _ _ _ _ _ _ _ _ b (cc.mk (co.ext hShb hX) (by omega) (by omega)) (cc.mk (co.ext hSx hX) (by omega) (by omega)) (by omega) (by omega) (by omega) (kp (co.bd hShb) (by rw [show cu=rx by omega];exact co.bd hSx) (by omega) (by omega)))) ?_;rintro _ w4 ⟨hx4,v1,rfl,q1⟩;replace hA1:=be.ext hA1 hx4;replace hA2:=be.ext hA2 hx4;replace hX:=aF.trans hX hx4;refine RL.p rfl rfl (cI.move rfl) ?_;refine RL.p rfl rfl (cI.extract rfl rfl) ?_;refine RL.p rfl rfl (cI.extract rfl rfl) ?_;refine RL.x rfl rfl (dj.alloc [.int .i64 (0),.int .i64 (0),.slice (none) (0) (0)] cf rfl) ?_;rintro _ w5 ⟨g3,rfl,hge3,hx5,hA3⟩;have ne2:g1≠g3:=Nat.ne_of_lt (Nat.lt_of_lt_of_le hA1.lt hge3);have ne3:g2≠g3:=Nat.ne_of_lt (Nat.lt_of_lt_of_le hA2.lt hge3);have hbs3:w.heap.size≤g3:=Nat.le_trans hX.size hge3;replace hA1:=be.ext hA1 hx5;replace hA2:=be.ext hA2 hx5;replace q1:=cc.ext q1 hx5;replace hX:=aF.trans hX hx5;obtain ⟨sv1,hq1,hr1,hc1,hS1⟩:=q1.form;refine RL.x rfl rfl (dj.store [.int .i64 ((ru:Nat)),.int .i64 ((cx:Nat)),sv1] cL rfl hq1 rfl hA3 (Nat.le_of_ble_eq_true rfl) (cM rfl rfl hS1.one)) ?_;rintro _ w6 ⟨hk1,hnew⟩;replace hA1:=hA1.keep hk1 ne2;replace hA2:=hA2.keep hk1 ne3;replace hS1:=bl hS1 hk1 hA3 (by decide);replace hX:=hX.step hk1 (fun b e=>by subst e;exact hbs3);replace hA3:=hnew.lit [.int .i64 ((ru:Nat)),.int .i64 ((cx:Nat)),sv1] rfl;clear hnew;refine RL.p rfl rfl (cI.assign rfl) ?_;refine RL.nil ?_;refine ab ?_;refine RL.p rfl rfl (cI.fieldAddr eH s3_e1) ?_;refine RL.p rfl rfl (af [.int .i64 ((ru:Nat)),.int .i64 ((cu:Nat)),s2] aR rfl (hA2.cells 3 _ rfl rfl)) ?_;refine RL.p rfl rfl (cI.fieldAddr gM s3_e1) ?_;refine RL.p rfl rfl (af [.int .i64 ((rv:Nat)),.int .i64 ((cv:Nat)),s3] aR rfl (hA2.cells 6 _ rfl rfl)) ?_;refine RL.x rfl rfl (dj.call xC (ax rfl rfl) (uk _ _ _ _ _ _ _ _ _ _ _ b (cc.mk (co.ext hShb hX) (by omega) (by omega)) (cc.mk (co.ext hShc hX) (by omega) (by omega)) (by omega) (by omega) (by omega) (kp (co.bd hShb) (by rw [show cu=rv by omega];exact co.bd hShc) (by omega) (by omega)))) ?_;rintro _ w7 ⟨hx6,v2,rfl,q2⟩;replace hA1:=be.ext hA1 hx6;replace hA2:=be.ext hA2 hx6;replace hA3:=be.ext hA3 hx6;replace hS1:=co.ext hS1 hx6;replace hX:=aF.trans hX hx6;refine RL.p rfl rfl (cI.move rfl) ?_;refine RL.p rfl rfl (cI.extract rfl rfl) ?_;refine RL.p rfl rfl (cI.extract rfl rfl) ?_;refine RL.x rfl rfl (dj.alloc [.int .i64 (0),.int .i64 (0),.slice (none) (0) (0)] cf rfl) ?_;rintro _ w8 ⟨g4,rfl,hge4,hx7,hA4⟩;have ne4:g1≠g4:=Nat.ne_of_lt (Nat.lt_of_lt_of_le hA1.lt hge4);have ne5:g2≠g4:=Nat.ne_of_lt (Nat.lt_of_lt_of_le hA2.lt hge4);have ne6:g3≠g4:=Nat.ne_of_lt (Nat.lt_of_lt_of_le hA3.lt hge4);have hbs4:w.heap.size≤g4:=Nat.le_trans hX.size hge4;replace hA1:=be.ext hA1 hx7;replace hA2:=be.ext hA2 hx7;replace hA3:=be.ext hA3 hx7;replace hS1:=co.ext hS1 hx7;replace q2:=cc.ext q2 hx7;replace hX:=aF.trans hX hx7;obtain ⟨sv2,hq2,hr2,hc2,hS2⟩:=q2.form;refine RL.x rfl rfl (dj.store [.int .i64 ((ru:Nat)),.int .i64 ((cv:Nat)),sv2] cL rfl hq2 rfl hA4 (Nat.le_of_ble_eq_true rfl) (cM rfl rfl hS2.one)) ?_;rintro _ w9 ⟨hk2,hnew⟩;replace hA1:=hA1.keep hk2 ne4;replace hA2:=hA2.keep hk2 ne5;replace hA3:=hA3.keep hk2 ne6;replace hS1:=bl hS1 hk2 hA4 (by decide);replace hS2:=bl hS2 hk2 hA4 (by decide);replace hX:=hX.step hk2 (fun b e=>by subst e;exact hbs4);replace hA4:=hnew.lit [.int .i64 ((ru:Nat)),.int .i64 ((cv:Nat)),sv2] rfl;clear hnew;refine RL.p rfl rfl (cI.assign rfl) ?_;refine RL.nil ?_;have hBw1:w.heap.size≤w9.heap.size:=hX.size;refine aK am 11 [_,_,_,fun v BI=>v= .bool (decide (aA ru cx rh ch (bK cu Mu Mx) Mh)),fun v BI=>v= .bool (decide (aA ru cx rh ch (bK cu Mu Mx) Mh)),_,_,_,fun v BI=>(aA ru cx rh ch (bK cu Mu Mx) Mh)→(cH BI v w9.heap.size rx rx dA 1),fun v BI=>(aA ru cx rh ch (bK cu Mu Mx) Mh)→(v= .bool (decide (aA ru cv rx rx (bK cu Mu Mv) dA))),_] rfl rfl (fun e_ w_ BH BG=>⟨fun _=>aa (af [.int .i64 ((ru:Nat)),.int .i64 ((cx:Nat)),sv1] aR ((BG 5 rfl rfl)) ((be.ext hA3 BH).cells 0 _ rfl rfl)),fun _=>aa (cI.fieldAddr dJ ((BG 3 rfl s3_e1))),fun BF=>aa (af [.int .i64 ((rh:Nat)),.int .i64 ((ch:Nat)),s1] aR ((BF 1 rfl)) ((be.ext hA2 BH).cells 0 _ rfl rfl)),fun BF=>dj.call xB (ax ((BF 0 rfl)) ((BF 2 rfl))) (qJ _ _ _ _ _ _ _ _ _ _ _ (cc.mk (co.ext hS1 BH) (by omega) (by omega)) (cc.mk (co.ext (co.ext hSha hX) BH) (by omega) (by omega))),fun BF=>aa (cI.move ((BF 3 rfl))),fun BF=>gT (BF 4 rfl) fun hg=>aa (af [.int .i64 ((ru:Nat)),.int .i64 ((cv:Nat)),sv2] aR ((BG 7 rfl rfl)) ((be.ext hA4 BH).cells 0 _ rfl rfl)),fun BF=>gT (BF 4 rfl) fun hg=>aa (cI.fieldAddr bg ((BG 2 rfl s2_e1))),fun BF=>gT (BF 4 rfl) fun hg=>aa (cI.load bG ((BF 6 rfl hg)) ((be.ext hA1 BH).at_ (i:=0) rfl rfl)),fun BF=>gT (BF 4 rfl) fun hg=>dj.mono (dj.call td (aI ((BF 7 rfl hg))) (iy _ rx (by omega))) fun v BJ hv=>⟨hv.1,cH.low hv.2 BH.size⟩,fun BF=>gT (BF 4 rfl) fun hg=>dj.call xB (ax ((BF 5 rfl hg)) rfl) (qJ _ _ _ _ _ _ _ _ _ _ _ (cc.mk (co.ext hS2 BH) (by omega) (by omega)) (cH.matV (BF 8 rfl hg))),fun BF=>aa (ay (p:=aA ru cx rh ch (bK cu Mu Mx) Mh) (q:=aA ru cv rx rx (bK cu Mu Mv) dA) (BF 4 rfl) (fun hq=>(BF 9 rfl hq))),trivial⟩) ?_;intro e2 w10 hx8 ho2 hf2;replace hX:=aF.trans hX hx8;have s75_e2:e2 75=_:=hf2 10 rfl;refine RL.p rfl rfl (cI.assign s75_e2) ?_;refine RL.nil ?_;refine WP.ret ?_;refine ⟨.bool (decide ((aA ru cx rh ch (bK cu Mu Mx) Mh)∧(aA ru cv rx rx (bK cu Mu Mv) dA))),Bb.one (ge.tmp rfl),_,rfl,hX,?_⟩;dsimp only;exact congrArg _ (decide_eq_decide.2 ⟨fun h=>⟨⟨hka,hkb,hkc,hkd,hke⟩,h⟩,fun h=>h.2⟩)
end Go.TL
namespace Go.TL
set_option linter.unusedVariables false
def zt (r c:Nat) (M0:Nat→Nat→Int) (v:Nat→Int):Prop:=∀u:Nat→Int,(∀i,i<r→aO c (fun j=>u j*M0 i j)=0)→aO c (fun j=>v j*u j)=0
theorem qp (u v:Nat→Int) (n:Nat):aO n (fun j=>u j*v j)=aO n (fun j=>v j*u j):=aL fun _ _=>Int.mul_comm _ _
theorem jU {r c k k1:Nat} {M0 K1 M:Nat→Nat→Int} (h1:∀u,gi k1 c K1 u↔zB c r (yc M0) u) (h2:∀v,gi k c M v↔zB c k1 (yc K1) v) (v:Nat→Int):gi k c M v↔zt r c M0 v:=by
  rw [h2]
  constructor
  · intro hk u hu
    obtain ⟨a,ha⟩:=(h1 u).2 fun j hj=>hu j hj
    have e1:aO c (fun j=>v j*u j)=aO c (fun j=>u j*v j):=qp _ _ _;have e2:aO c (fun j=>u j*v j)=aO c (fun j=>aO k1 (fun x=>a x*K1 x j)*v j):=aL fun j hj=>by rw [ha j hj]
    have e3:aO c (fun j=>aO k1 (fun x=>a x*K1 x j)*v j)=aO k1 (fun x=>a x*aO c (fun j=>K1 x j*v j)):=(eb k1 c a K1 (fun j _=>v j) 0).symm;rw [e1,e2,e3];refine dc fun x hx=> ?_
    have e4:aO c (fun j=>K1 x j*v j)=aO c (fun j=>v j*yc K1 j x):=qp _ _ _;rw [e4,hk x hx,Int.mul_zero]
  · intro hs x hx
    exact hs (K1 x) fun i hi=>(h1 (K1 x)).1 (gi.row hx) i hi
theorem rp.lat {r c e0 k:Nat} {M0 M:Nat→Nat→Int} (h:rp r c e0 M0 k M):(∃P,fo k c M P)∧∀v,gi k c M v↔zt r c M0 v:=by
  obtain ⟨k1,K1,a1,a2⟩:=h;exact ⟨a2.lat.1,jU a1.lat.2 a2.lat.2⟩
theorem Ba.lat {r c e0 e1 k:Nat} {M0 M:Nat→Nat→Int} (h:Ba r c e0 e1 M0 k M):(∃P,fo k c M P)∧∀v,gi k c M v↔zt r c M0 v:=by
  obtain ⟨k1,K1,a1,a2⟩:=h;exact ⟨a2.lat.1,jU a1.lat.2 a2.lat.2⟩
end Go.TL
namespace Go.TL
open Go.RowKit Go.Proofs
set_option linter.unusedVariables false
def rt (w:World) (v:Value) (r c e0:Nat) (M0:Nat→Nat→Int) (b:Nat):Prop:=∃k M,gH r c e0 M0 k M∧cc w v k r M b
theorem rt.ext {w w':World} {v:Value} {r c e0 b:Nat} {M0:Nat→Nat→Int} (h:rt w v r c e0 M0 b) (hx:aF w w'):rt w' v r c e0 M0 b:=by obtain ⟨k,S,h1,h2⟩:=h;exact ⟨k,S,h1,h2.ext hx⟩
theorem pA (r c e0:Nat) (M0:Nat→Nat→Int) (b:Nat):bP (fun v w=>rt w v r c e0 M0 b):=fun _ _ _ h hx=>h.ext hx
instance (r c e0:Nat) (M0:Nat→Nat→Int) (b:Nat):Nonempty (bP (fun v w=>rt w v r c e0 M0 b)):=⟨pA r c e0 M0 b⟩
end Go.TL
namespace Go.TL
set_option linter.unusedVariables false
def az (a b:Int):Nat→Nat→Int:=fun _ j=>if j=0 then a else b
end Go.TL
namespace Go.TL
open Go.RowKit Go.Proofs
set_option linter.unusedVariables false
def f2 (a b:Int):Nat→Int:=fun i=>if i=0 then a else b
def f4 (a b c d:Int):Nat→Int:=fun i=>if i=0 then a else if i=1 then b else if i=2 then c else d
def wQ (a b:Int):Nat→Nat→Int:=fun i _=>if i=0 then a else b
def aQ (a b c d:Int):Nat→Nat→Int:=fun i j=>if i=0 then (if j=0 then a else b) else (if j=0 then c else d)
theorem qE {w:World} {g T m:Nat} {a b:Int} (hA:be w g T 2 (bS [.int .i64 a,.int .i64 b])):eE .i64 m w (.slice (some ⟨g,0,none⟩) 2 2) 2 (f2 a b):=
  ⟨_,_,rfl,Nat.le_refl _,by decide,fun _=>⟨g,0,rfl,fun i hi=>by
    rw [Nat.zero_add];have:=hA.cell hi;rcases (by omega:i=0∨i=1) with rfl | rfl
    · exact this
    · exact this⟩⟩
theorem qD {w:World} {g T m:Nat} {a b c d:Int} (hA:be w g T 4 (bS [.int .i64 a,.int .i64 b,.int .i64 c,.int .i64 d])):eE .i64 m w (.slice (some ⟨g,0,none⟩) 4 4) 4 (f4 a b c d):=
  ⟨_,_,rfl,Nat.le_refl _,by decide,fun _=>⟨g,0,rfl,fun i hi=>by
    rw [Nat.zero_add];have:=hA.cell hi;rcases (by omega:i=0∨i=1∨i=2∨i=3) with rfl | rfl | rfl | rfl
    · exact this
    · exact this
    · exact this
    · exact this⟩⟩
section
variable {w:World} {l x y:Value} {a b c d:Int}
theorem ln (hl:eE .i64 2 w l 2 (f2 a b)) (ha:a.natAbs<16) (hb:b.natAbs<16):Calls Tryz.prog 36 #[.int .i64 1,.int .i64 2,l] w (ci w fun v w'=>cH w' v w.heap.size 1 2 (az a b) 4):=by
  have hf:∀i,i<2→(f2 a b i).natAbs<16:=fun i _=>by unfold f2;split<;>assumption
  refine (mW w 1 2 l 2 (f2 a b) 4 (by decide) (by decide) hl (by decide) (fun i hi=>by have:=hf i hi;omega) (fun i hi=>hf i hi)).mono fun _ w' ⟨v,g1,g2,g3⟩=>⟨v,g1,g2,cH.congr g3 fun i j hi hj=> ?_⟩
  have:i=0:=by omega
  subst this
  unfold fr f2 az
  rw [if_pos (by omega),show 0*2 + j=j by omega]
theorem tO (hl:eE .i64 2 w l 2 (f2 a b)) (ha:a.natAbs<16) (hb:b.natAbs<16):Calls Tryz.prog 36 #[.int .i64 2,.int .i64 1,l] w (ci w fun v w'=>cH w' v w.heap.size 2 1 (wQ a b) 4):=by
  have hf:∀i,i<2→(f2 a b i).natAbs<16:=fun i _=>by unfold f2;split<;>assumption
  refine (mW w 2 1 l 2 (f2 a b) 4 (by decide) (by decide) hl (by decide) (fun i hi=>by have:=hf i hi;omega) (fun i hi=>hf i hi)).mono fun _ w' ⟨v,g1,g2,g3⟩=>⟨v,g1,g2,cH.congr g3 fun i j hi hj=> ?_⟩
  have:j=0:=by omega
  subst this
  unfold fr f2 wQ
  rw [if_pos (by omega),show i*1 + 0=i by omega]
theorem iU (hl:eE .i64 2 w l 4 (f4 a b c d)) (ha:a.natAbs<16∧b.natAbs<16) (hb:c.natAbs<16∧d.natAbs<16):Calls Tryz.prog 36 #[.int .i64 2,.int .i64 2,l] w (ci w fun v w'=>cH w' v w.heap.size 2 2 (aQ a b c d) 4):=by
  have hf:∀i,i<4→(f4 a b c d i).natAbs<16:=fun i _=>by unfold f4;split<;>(try split)<;>(try split)<;>omega
  refine (mW w 2 2 l 4 (f4 a b c d) 4 (by decide) (by decide) hl (by decide) (fun i hi=>by have:=hf i hi;omega) (fun i hi=>hf i hi)).mono fun _ w' ⟨v,g1,g2,g3⟩=>⟨v,g1,g2,cH.congr g3 fun i j hi hj=> ?_⟩
  unfold fr f4 aQ
  rw [if_pos (by omega)];rcases (by omega:i=0∨i=1) with rfl | rfl<;>rcases (by omega:j=0∨j=1) with rfl | rfl<;>rfl
end
theorem mZ (w:World) (c:Nat) (hc:c≤65536):cc w (.agg #[.int .i64 ((0:Nat):Int),.int .i64 ((c:Nat):Int),.slice none 0 0]) 0 c (fun _ _=>0) 4:=
  cc.mk ⟨none,0,rfl,Nat.le_refl _,⟨by decide,by decide,by decide⟩,fun h=>by omega⟩ (by decide) hc
theorem mY {e:ct} {i j l m:Nat} {x y z o:Operand} {v u t s:Value} (h:ev e x=v) (k:ev e y=u) (n:ev e z=t) (q:ev e o=s):
    #[(i,x),(j,y),(l,z),(m,o)].toList.map (fun p:Nat×Operand=>(p.1,ev e p.2))= [(i,v),(j,u),(l,t),(m,s)]:=by simp [h,k,n,q]
end Go.TL
namespace Go.TL
open Go.RowKit Go.Proofs
set_option linter.unusedVariables false
set_option linter.unusedSimpArgs false
set_option maxRecDepth 10000 in
set_option maxHeartbeats 800000 in
theorem Bo (w:World) (x:Value) (rx cx:Nat) (Mx:Nat→Nat→Int) (btx:Nat) (hx:cc w x rx cx Mx btx) (hb1:btx + 1≤br):Calls Tryz.prog 19 #[x] w (ci w fun v w'=>v= .bool (decide (cV rx cx Mx))):=by
 have hLIM:br=562949953421312:=rfl;have hmatx:=hx;obtain ⟨sx,rfl,hrx,hcx,hSx⟩:=hx.form;refine ak (N:=79) (rs:= #[.tmp 2]) Tryz.func19 rfl rfl rfl (Nat.le_of_ble_eq_true rfl) ?_;have hX:aF w w:=aF.refl w;refine ab ?_;refine RL.x rfl rfl (dj.box [.int .i64 ((rx:Nat)),.int .i64 ((cx:Nat)),sx] rfl rfl) ?_;rintro _ w1 ⟨g1,rfl,hge1,hx1,hA1⟩;replace hX:=aF.trans hX hx1;refine RL.p rfl rfl (cI.assign rfl) ?_;refine RL.nil ?_;refine ab ?_;refine RL.p rfl rfl (af [.int .i64 ((rx:Nat)),.int .i64 ((cx:Nat)),sx] aR rfl (hA1.cells 0 _ rfl rfl)) ?_;refine RL.x rfl rfl (dj.call ta (aI rfl) (lm _ _ _ _ _ _ (cc.mk (co.ext hSx hX) (by omega) (by omega)))) ?_;rintro _ w2 ⟨hx2,rfl⟩;replace hA1:=be.ext hA1 hx2;replace hX:=aF.trans hX hx2;refine RL.p rfl rfl (cI.assign rfl) ?_;refine RL.nil ?_;refine WP.seq ?_;refine ab ?_;refine RL.p rfl rfl (cI.move rfl) ?_;refine RL.p rfl rfl (cI.not (p:=True) rfl) ?_;refine RL.nil ?_;refine ag (¬(True)) rfl (fun c11=> ?_) (fun c11=> ?_)
 ·
  refine ab ?_;refine RL.p rfl rfl (cI.assign rfl) ?_;refine RL.nil ?_;refine WP.ret ?_;refine pR.ret ?_;refine ⟨.bool (false),Bb.one (ge.tmp rfl),_,rfl,hX,?_⟩;dsimp only;exact absurd trivial c11
 ·
  refine WP.skip ?_;refine pR.norm ?_;refine ab ?_;refine RL.p rfl rfl (cI.assign rfl) ?_;refine RL.nil ?_;refine WP.seq ?_;refine ab ?_;refine RL.p rfl rfl (cI.assign rfl) ?_;refine RL.nil ?_;refine WP.block ?_;refine WP.loop (fun mz ez uz=>∃i:Nat,(mz=rx - i)∧(ez 1= .pointer (some ⟨g1,0,none⟩))∧(ez 4= .int .i64 (lastP Mx cx i))∧(ez 5= .int .i64 ((i:Nat)))∧(i≤rx)∧(∀a,a<i→jl Mx cx a)∧(aF w uz)∧(be uz g1 28 3 (bS [.int .i64 ((rx:Nat)),.int .i64 ((cx:Nat)),sx]))) (rx - 0) ?_ ?_
  · exact ⟨0,rfl,rfl,rfl,rfl,(by omega),(fun a ha=>absurd ha (by omega)),hX,hA1⟩
  rintro m1 e1 w3 ⟨i,hm1,s1_e1,s4_e1,s5_e1,hi,hok,hX1,hA1⟩;refine WP.seq ?_;refine ab ?_;refine RL.p rfl rfl (cI.move s5_e1) ?_;refine RL.p rfl rfl (cI.fieldAddr bg s1_e1) ?_;refine RL.p rfl rfl (cI.load bG rfl (hA1.at_ (i:=0) rfl rfl)) ?_;refine RL.p rfl rfl (cI.lss rfl rfl) ?_;refine RL.nil ?_;refine ag (((i:Nat):Int)<((rx:Nat):Int)) rfl (fun c15=> ?_) (fun c15=> ?_)
  ·
   refine WP.skip ?_;refine pR.norm ?_;refine WP.seq ?_;refine WP.block ?_;refine ab ?_;refine RL.p rfl rfl (cI.fieldAddr aq s1_e1) ?_;refine RL.p rfl rfl (cI.load aH rfl (hA1.at_ (i:=2) rfl rfl)) ?_;refine RL.p rfl rfl (cI.move s5_e1) ?_;refine RL.x rfl rfl (aZ (j:=i) aB rfl (co.ext hSx hX1) rfl (by omega) (by omega)) ?_;rintro v1 _ ⟨rfl,q1⟩;refine RL.x rfl rfl (bn aU rfl q1) ?_;rintro v2 _ ⟨rfl,q2⟩;refine RL.x rfl rfl (dj.call An (aI rfl) (vS _ _ _ _ _ q2)) ?_;rintro _ w4 ⟨hx3,rfl⟩;replace hA1:=be.ext hA1 hx3;replace hX1:=aF.trans hX1 hx3;refine RL.p rfl rfl (cI.assign rfl) ?_;refine RL.nil ?_;refine WP.seq ?_;refine ab ?_;refine RL.p rfl rfl (cI.move rfl) ?_;refine RL.p rfl rfl (cI.lss rfl rfl) ?_;refine RL.nil ?_;refine ag ((piv (Mx i) cx:Int)<(0:Int)) rfl (fun c25=> ?_) (fun c25=> ?_)
   ·
    refine ab ?_;refine RL.p rfl rfl (cI.fieldAddr bE s1_e1) ?_;refine RL.p rfl rfl (cI.load bG rfl (hA1.at_ (i:=1) rfl rfl)) ?_;refine RL.p rfl rfl (cI.assign rfl) ?_;refine RL.nil ?_;refine WP.exit ?_;refine pR.exit ?_;refine jm.same ?_;refine pR.norm ?_;refine WP.region ?_;refine RL.p rfl rfl (cI.move s5_e1) ?_;refine RL.p rfl rfl (cI.add (c:=((i + 1:Nat):Int)) rfl rfl (bU (by omega))) ?_;refine RL.p rfl rfl (cI.assign rfl) ?_;refine RL.nil ?_;refine pR.norm ⟨_,(by omega),i + 1,rfl,s1_e1,(congrArg (Value.int .i64) (jF c25)),rfl,(by omega),(eG hok (.inl c25)),hX1,hA1⟩
   ·
    refine WP.skip ?_;refine pR.norm ?_;refine WP.seq ?_;have hpa:=ls c25;refine aK am 15 [_,_,_,fun v BI=>v= .bool (decide ((piv (Mx i) cx:Int)≤(lastP Mx cx i:Int))),_,_,_,_,_,_,_,_,_,_,_] rfl rfl (fun e_ w_ BH BG=>⟨fun _=>aa (cI.move ((BG 6 rfl rfl))),fun _=>aa (cI.move ((BG 4 rfl s4_e1))),fun BF=>aa (cI.leq ((BF 0 rfl)) ((BF 1 rfl))),fun BF=>aa (cI.move ((BF 2 rfl))),fun BF=>gF (BF 3 rfl) fun hg=>aa (cI.fieldAddr aq ((BG 1 rfl s1_e1))),fun BF=>gF (BF 3 rfl) fun hg=>aa (cI.load aH ((BF 4 rfl hg)) ((be.ext hA1 BH).at_ (i:=2) rfl rfl)),fun BF=>gF (BF 3 rfl) fun hg=>aa (cI.move ((BG 5 rfl s5_e1))),fun BF=>gF (BF 3 rfl) fun hg=>ah (aZ (j:=i) aB (BF 5 rfl hg) (co.ext (co.ext hSx hX1) BH) (BF 6 rfl hg) (by omega) (by omega)),fun BF=>gF (BF 3 rfl) fun hg=>ah (bn aU rfl (BF 7 rfl hg)),fun BF=>gF (BF 3 rfl) fun hg=>aa (cI.move ((BG 6 rfl rfl))),fun BF=>gF (BF 3 rfl) fun hg=>ah (bk (j:=(piv (Mx i) cx).toNat) bi rfl (BF 8 rfl hg) (nP (a:=(((piv (Mx i) cx).toNat:Nat):Int)) (b:=piv (Mx i) cx) (BF 9 rfl hg) (by omega)) (by omega) (by omega)),fun BF=>gF (BF 3 rfl) fun hg=>ah (bo ao rfl (BF 10 rfl hg)),fun BF=>gF (BF 3 rfl) fun hg=>dj.call io (aI rfl) (fD _ _ _ _ ((BF 11 rfl hg))),fun BF=>gF (BF 3 rfl) fun hg=>aa (cI.leq ((BF 12 rfl hg)) rfl),fun BF=>aa (bq (p:=(piv (Mx i) cx:Int)≤(lastP Mx cx i:Int)) (q:=(((Mx i) ((piv (Mx i) cx).toNat):Int).sign:Int)≤(0:Int)) (BF 3 rfl) (fun hq=>(BF 13 rfl hq))),trivial⟩) ?_;intro e2 w5 hx4 ho1 hf1;replace hA1:=be.ext hA1 hx4;replace hX1:=aF.trans hX1 hx4;have s1_e2:=ho1 1 rfl s1_e1;have s4_e2:=ho1 4 rfl s4_e1;have s5_e2:=ho1 5 rfl s5_e1;have s6_e2:e2 6=_:=ho1 6 rfl rfl;have s42_e2:e2 42=_:=hf1 14 rfl;refine RL.nil ?_;refine ag (((piv (Mx i) cx:Int)≤(lastP Mx cx i:Int))∨((((Mx i) ((piv (Mx i) cx).toNat):Int).sign:Int)≤(0:Int))) s42_e2 (fun c42=> ?_) (fun c42=> ?_)
    ·
     refine ab ?_;refine RL.p rfl rfl (cI.assign rfl) ?_;refine RL.nil ?_;refine WP.ret ?_;refine pR.ret ?_;refine jm.ret ?_;refine pR.ret ?_;refine pR.ret ?_;refine jm.ret ?_;refine pR.ret ?_;refine ⟨.bool (false),Bb.one (ge.tmp rfl),_,rfl,hX1,?_⟩;dsimp only;refine congrArg _ (decide_eq_false fun h=> ?_).symm;rcases h i (by omega) with h1 | ⟨h1,h2,_⟩
     · exact absurd h1 c25
     · rcases c42 with h3 | h3
       · omega
       · have:=(lh _).1 h3;omega
    ·
     refine WP.skip ?_;refine pR.norm ?_;refine WP.seq ?_;refine ab ?_;refine RL.p rfl rfl (cI.assign rfl) ?_;refine RL.nil ?_;refine WP.block ?_;refine WP.loop (fun mz ez uz=>∃k:Nat,(mz=i - k)∧(ez 1= .pointer (some ⟨g1,0,none⟩))∧(ez 4= .int .i64 (lastP Mx cx i))∧(ez 5= .int .i64 ((i:Nat)))∧(ez 6= .int .i64 (piv (Mx i) cx))∧(ez 7= .int .i64 ((k:Nat)))∧(k≤i)∧(∀a,a<k→0≤Mx a (piv (Mx i) cx).toNat∧Mx a (piv (Mx i) cx).toNat<Mx i (piv (Mx i) cx).toNat)∧(aF w uz)∧(be uz g1 28 3 (bS [.int .i64 ((rx:Nat)),.int .i64 ((cx:Nat)),sx]))) (i - 0) ?_ ?_
     · exact ⟨0,rfl,s1_e2,s4_e2,s5_e2,s6_e2,rfl,(by omega),(fun a ha=>absurd ha (by omega)),hX1,hA1⟩
     rintro m2 e3 w6 ⟨k,hm2,s1_e3,s4_e3,s5_e3,s6_e3,s7_e3,hk,hbel,hX2,hA1⟩;refine WP.seq ?_;refine ab ?_;refine RL.p rfl rfl (cI.move s7_e3) ?_;refine RL.p rfl rfl (cI.move s5_e3) ?_;refine RL.p rfl rfl (cI.lss rfl rfl) ?_;refine RL.nil ?_;refine ag (((k:Nat):Int)<((i:Nat):Int)) rfl (fun c45=> ?_) (fun c45=> ?_)
     ·
      refine WP.skip ?_;refine pR.norm ?_;refine WP.seq ?_;refine WP.block ?_;refine aK am 30 [_,_,_,_,_,_,_,_,_,_,fun v BI=>v= .bool (decide ((((Mx k) ((piv (Mx i) cx).toNat):Int).sign:Int)<(0:Int))),_,_,_,_,_,_,_,_,_,_,_,_,_,_,_,_,_,_,_] rfl rfl (fun e_ w_ BH BG=>⟨fun _=>aa (cI.fieldAddr aq ((BG 1 rfl s1_e3))),fun BF=>aa (cI.load aH ((BF 0 rfl)) ((be.ext hA1 BH).at_ (i:=2) rfl rfl)),fun _=>aa (cI.move ((BG 7 rfl s7_e3))),fun BF=>ah (aZ (j:=k) aB (BF 1 rfl) (co.ext (co.ext hSx hX2) BH) (BF 2 rfl) (by omega) (by omega)),fun BF=>ah (bn aU rfl (BF 3 rfl)),fun _=>aa (cI.move ((BG 6 rfl s6_e3))),fun BF=>ah (bk (j:=(piv (Mx i) cx).toNat) bi rfl (BF 4 rfl) (nP (a:=(((piv (Mx i) cx).toNat:Nat):Int)) (b:=piv (Mx i) cx) (BF 5 rfl) (by omega)) (by omega) (by omega)),fun BF=>ah (bo ao rfl (BF 6 rfl)),fun BF=>dj.call io (aI rfl) (fD _ _ _ _ ((BF 7 rfl))),fun BF=>aa (cI.lss ((BF 8 rfl)) rfl),fun BF=>aa (cI.move ((BF 9 rfl))),fun BF=>gF (BF 10 rfl) fun hg=>aa (cI.fieldAddr aq ((BG 1 rfl s1_e3))),fun BF=>gF (BF 10 rfl) fun hg=>aa (cI.load aH ((BF 11 rfl hg)) ((be.ext hA1 BH).at_ (i:=2) rfl rfl)),fun BF=>gF (BF 10 rfl) fun hg=>aa (cI.move ((BG 7 rfl s7_e3))),fun BF=>gF (BF 10 rfl) fun hg=>ah (aZ (j:=k) aB (BF 12 rfl hg) (co.ext (co.ext hSx hX2) BH) (BF 13 rfl hg) (by omega) (by omega)),fun BF=>gF (BF 10 rfl) fun hg=>ah (bn aU rfl (BF 14 rfl hg)),fun BF=>gF (BF 10 rfl) fun hg=>aa (cI.move ((BG 6 rfl s6_e3))),fun BF=>gF (BF 10 rfl) fun hg=>ah (bk (j:=(piv (Mx i) cx).toNat) bi rfl (BF 15 rfl hg) (nP (a:=(((piv (Mx i) cx).toNat:Nat):Int)) (b:=piv (Mx i) cx) (BF 16 rfl hg) (by omega)) (by omega) (by omega)),fun BF=>gF (BF 10 rfl) fun hg=>ah (bo ao rfl (BF 17 rfl hg)),fun BF=>gF (BF 10 rfl) fun hg=>aa (cI.fieldAddr aq ((BG 1 rfl s1_e3))),fun BF=>gF (BF 10 rfl) fun hg=>aa (cI.load aH ((BF 19 rfl hg)) ((be.ext hA1 BH).at_ (i:=2) rfl rfl)),fun BF=>gF (BF 10 rfl) fun hg=>aa (cI.move ((BG 5 rfl s5_e3))),fun BF=>gF (BF 10 rfl) fun hg=>ah (aZ (j:=i) aB (BF 20 rfl hg) (co.ext (co.ext hSx hX2) BH) (BF 21 rfl hg) (by omega) (by omega)),fun BF=>gF (BF 10 rfl) fun hg=>ah (bn aU rfl (BF 22 rfl hg)),fun BF=>gF (BF 10 rfl) fun hg=>aa (cI.move ((BG 6 rfl s6_e3))),fun BF=>gF (BF 10 rfl) fun hg=>ah (bk (j:=(piv (Mx i) cx).toNat) bi rfl (BF 23 rfl hg) (nP (a:=(((piv (Mx i) cx).toNat:Nat):Int)) (b:=piv (Mx i) cx) (BF 24 rfl hg) (by omega)) (by omega) (by omega)),fun BF=>gF (BF 10 rfl) fun hg=>ah (bo ao rfl (BF 25 rfl hg)),fun BF=>gF (BF 10 rfl) fun hg=>dj.call Am (ax rfl rfl) (AG _ _ _ _ _ _ _ ((BF 18 rfl hg)) ((BF 26 rfl hg)) (by omega) (by omega)),fun BF=>gF (BF 10 rfl) fun hg=>aa (cI.geq ((BF 27 rfl hg)) rfl),fun BF=>aa (bq (p:=(((Mx k) ((piv (Mx i) cx).toNat):Int).sign:Int)<(0:Int)) (q:=(0:Int)≤(cj ((Mx k) ((piv (Mx i) cx).toNat)) ((Mx i) ((piv (Mx i) cx).toNat)):Int)) (BF 10 rfl) (fun hq=>(BF 28 rfl hq))),trivial⟩) ?_;intro e4 w7 hx5 ho2 hf2;replace hA1:=be.ext hA1 hx5;replace hX2:=aF.trans hX2 hx5;have s1_e4:=ho2 1 rfl s1_e3;have s4_e4:=ho2 4 rfl s4_e3;have s5_e4:=ho2 5 rfl s5_e3;have s6_e4:=ho2 6 rfl s6_e3;have s7_e4:=ho2 7 rfl s7_e3;have s77_e4:e4 77=_:=hf2 29 rfl;refine RL.nil ?_;refine ag (((((Mx k) ((piv (Mx i) cx).toNat):Int).sign:Int)<(0:Int))∨((0:Int)≤(cj ((Mx k) ((piv (Mx i) cx).toNat)) ((Mx i) ((piv (Mx i) cx).toNat)):Int))) s77_e4 (fun c77=> ?_) (fun c77=> ?_)
      ·
       refine ab ?_;refine RL.p rfl rfl (cI.assign rfl) ?_;refine RL.nil ?_;refine WP.ret ?_;refine jm.ret ?_;refine pR.ret ?_;refine pR.ret ?_;refine jm.ret ?_;refine pR.ret ?_;refine jm.ret ?_;refine pR.ret ?_;refine pR.ret ?_;refine jm.ret ?_;refine pR.ret ?_;refine ⟨.bool (false),Bb.one (ge.tmp rfl),_,rfl,hX2,?_⟩;dsimp only;refine congrArg _ (decide_eq_false fun h=> ?_).symm;rcases h i (by omega) with h1 | ⟨_,_,h1⟩
       · exact absurd h1 c25
       · have h2:=h1 k (by omega)
         rcases c77 with h3 | h3
         · have:=(de _).1 h3;omega
         · have:=(fY _ _).1 h3;omega
      ·
       refine WP.skip ?_;refine jm.norm ?_;refine pR.norm ?_;refine WP.region ?_;refine RL.p rfl rfl (cI.move s7_e4) ?_;refine RL.p rfl rfl (cI.add (c:=((k + 1:Nat):Int)) rfl rfl (bU (by omega))) ?_;refine RL.p rfl rfl (cI.assign rfl) ?_;refine RL.nil ?_;have hnb:0≤Mx k (piv (Mx i) cx).toNat∧Mx k (piv (Mx i) cx).toNat<Mx i (piv (Mx i) cx).toNat:=⟨by have:=mt (de (Mx k (piv (Mx i) cx).toNat)).2 (fun h=>c77 (.inl h));omega,by have:=mt (fY (Mx k (piv (Mx i) cx).toNat) (Mx i (piv (Mx i) cx).toNat)).2 (fun h=>c77 (.inr h));omega⟩
       refine pR.norm ⟨_,(by omega),k + 1,rfl,s1_e4,s4_e4,s5_e4,s6_e4,rfl,(by omega),(eG hbel hnb),hX2,hA1⟩
     ·
      refine WP.exit ?_;refine pR.exit ?_;refine pR.exit ?_;refine jm.same ?_;refine pR.norm ?_;refine WP.region ?_;refine RL.p rfl rfl (cI.move s6_e3) ?_;refine RL.p rfl rfl (cI.assign rfl) ?_;refine RL.nil ?_;refine jm.norm ?_;refine pR.norm ?_;refine WP.region ?_;refine RL.p rfl rfl (cI.move s5_e3) ?_;refine RL.p rfl rfl (cI.add (c:=((i + 1:Nat):Int)) rfl rfl (bU (by omega))) ?_;refine RL.p rfl rfl (cI.assign rfl) ?_;refine RL.nil ?_;have hor:jl Mx cx i:= .inr ⟨by omega,by have:=mt (lh (Mx i (piv (Mx i) cx).toNat)).2 (fun h=>c42 (.inr h));omega,fun a ha=>hbel a (by omega)⟩;refine pR.norm ⟨_,(by omega),i + 1,rfl,s1_e3,(congrArg (Value.int .i64) (jE c25)),rfl,(by omega),(eG hok hor),hX2,hA1⟩
  ·
   refine WP.exit ?_;refine pR.exit ?_;refine pR.exit ?_;refine jm.same ?_;refine pR.norm ?_;refine ab ?_;refine RL.p rfl rfl (cI.assign rfl) ?_;refine RL.nil ?_;refine WP.ret ?_;refine ⟨.bool (true),Bb.one (ge.tmp rfl),_,rfl,hX1,?_⟩;dsimp only;exact congrArg _ (decide_eq_true fun a ha=>hok a (by omega)).symm
end Go.TL
namespace Go.TL
open Go.RowKit Go.Proofs
set_option linter.unusedVariables false
set_option linter.unusedSimpArgs false
set_option maxRecDepth 10000 in
set_option maxHeartbeats 800000 in
theorem mX (w:World) (x:Value) (rx cx:Nat) (Mx:Nat→Nat→Int) (btx:Nat) (s1 s2 s3:Value) (rh ch ru cu rv cv:Nat) (Mh Mu Mv:Nat→Nat→Int) (bh bu bv:Nat) (b:Nat) (hx:cc w x rx cx Mx btx) (h65:rh≤65536∧ch≤65536∧ru≤65536∧cu≤65536∧rv≤65536∧cv≤65536) (hSha:co w s1 rh ch Mh bh) (hShb:co w s2 ru cu Mu bu) (hShc:co w s3 rv cv Mv bv) (h16:rx≤16) (hb1:bu + btx + 5≤b) (hb2:bu + bv + 5≤b) (hl:b + 1≤br) (hbh:bh + 1≤br):Calls Tryz.prog 12 #[x,.agg #[.int .i64 (rh:Nat),.int .i64 (ch:Nat),s1,.int .i64 (ru:Nat),.int .i64 (cu:Nat),s2,.int .i64 (rv:Nat),.int .i64 (cv:Nat),s3]] w (ci w fun v w'=>v= .bool (decide (aV rx cx rh ch ru cu rv cv Mx Mh Mu Mv))):=by
 have hLIM:br=562949953421312:=rfl;have hmatx:=hx;obtain ⟨sx,rfl,hrx,hcx,hSx⟩:=hx.form;refine ak (N:=74) (rs:= #[.tmp 4]) Tryz.func12 rfl rfl rfl (Nat.le_of_ble_eq_true rfl) ?_;have hX:aF w w:=aF.refl w;refine ab ?_;refine RL.x rfl rfl (dj.box [.int .i64 ((rx:Nat)),.int .i64 ((cx:Nat)),sx] rfl rfl) ?_;rintro _ w1 ⟨g1,rfl,hge1,hx1,hA1⟩;replace hX:=aF.trans hX hx1;refine RL.x rfl rfl (dj.box [.int .i64 ((rh:Nat)),.int .i64 ((ch:Nat)),s1,.int .i64 ((ru:Nat)),.int .i64 ((cu:Nat)),s2,.int .i64 ((rv:Nat)),.int .i64 ((cv:Nat)),s3] rfl rfl) ?_;rintro _ w2 ⟨g2,rfl,hge2,hx2,hA2⟩;replace hA1:=be.ext hA1 hx2;replace hX:=aF.trans hX hx2;refine RL.p rfl rfl (cI.assign rfl) ?_;refine RL.nil ?_;refine ab ?_;refine RL.p rfl rfl (af [.int .i64 ((rx:Nat)),.int .i64 ((cx:Nat)),sx] aR rfl (hA1.cells 0 _ rfl rfl)) ?_;refine RL.x rfl rfl (dj.call ta (aI rfl) (lm _ _ _ _ _ _ (cc.mk (co.ext hSx hX) (by omega) (by omega)))) ?_;rintro _ w3 ⟨hx3,rfl⟩;replace hA1:=be.ext hA1 hx3;replace hA2:=be.ext hA2 hx3;replace hX:=aF.trans hX hx3;refine RL.p rfl rfl (cI.assign rfl) ?_;refine RL.nil ?_;refine ab ?_;refine RL.p rfl rfl (cI.fieldAddr dJ rfl) ?_;refine RL.p rfl rfl (af [.int .i64 ((rh:Nat)),.int .i64 ((ch:Nat)),s1] aR rfl (hA2.cells 0 _ rfl rfl)) ?_;refine RL.x rfl rfl (dj.call AA (aI rfl) (Bo _ _ _ _ _ _ (cc.mk (co.ext hSha hX) (by omega) (by omega)) (by omega))) ?_;rintro _ w4 ⟨hx4,rfl⟩;replace hA1:=be.ext hA1 hx4;replace hA2:=be.ext hA2 hx4;replace hX:=aF.trans hX hx4;refine RL.p rfl rfl (cI.assign rfl) ?_;refine RL.nil ?_;refine WP.seq ?_;refine aK am 22 [fun v BI=>v= .bool (decide (True)),_,fun v BI=>v= .bool (decide (¬(True))),fun v BI=>(¬(¬(True)))→(v= .bool (decide (cV rh ch Mh))),_,_,fun v BI=>v= .bool (decide ((¬(True))∨(¬(cV rh ch Mh)))),_,_,_,_,_,_,_,fun v BI=>v= .bool (decide (((¬(True))∨(¬(cV rh ch Mh)))∨(((rh:Nat):Int)≠((rx:Nat):Int)))),_,_,_,_,_,_,_] rfl rfl (fun e_ w_ BH BG=>⟨fun _=>aa (cI.move ((BG 5 rfl rfl))),fun BF=>aa (cI.not (p:=True) (BF 0 rfl)),fun BF=>aa (cI.move ((BF 1 rfl))),fun BF=>gF (BF 2 rfl) fun hg=>aa (cI.move ((BG 6 rfl rfl))),fun BF=>gF (BF 2 rfl) fun hg=>aa (cI.not (p:=cV rh ch Mh) (BF 3 rfl hg)),fun BF=>aa (bq (p:=¬(True)) (q:=¬(cV rh ch Mh)) (BF 2 rfl) (fun hq=>(BF 4 rfl hq))),fun BF=>aa (cI.move ((BF 5 rfl))),fun BF=>gF (BF 6 rfl) fun hg=>aa (cI.fieldAddr dJ ((BG 3 rfl rfl))),fun BF=>gF (BF 6 rfl) fun hg=>aa (cI.fieldAddr bg ((BF 7 rfl hg))),fun BF=>gF (BF 6 rfl) fun hg=>aa (cI.load bG ((BF 8 rfl hg)) ((be.ext hA2 BH).at_ (i:=0) rfl rfl)),fun BF=>gF (BF 6 rfl) fun hg=>aa (cI.fieldAddr bg ((BG 2 rfl rfl))),fun BF=>gF (BF 6 rfl) fun hg=>aa (cI.load bG ((BF 10 rfl hg)) ((be.ext hA1 BH).at_ (i:=0) rfl rfl)),fun BF=>gF (BF 6 rfl) fun hg=>aa (cI.neq ((BF 9 rfl hg)) ((BF 11 rfl hg))),fun BF=>aa (bq (p:=(¬(True))∨(¬(cV rh ch Mh))) (q:=((rh:Nat):Int)≠((rx:Nat):Int)) (BF 6 rfl) (fun hq=>(BF 12 rfl hq))),fun BF=>aa (cI.move ((BF 13 rfl))),fun BF=>gF (BF 14 rfl) fun hg=>aa (cI.fieldAddr dJ ((BG 3 rfl rfl))),fun BF=>gF (BF 14 rfl) fun hg=>aa (cI.fieldAddr bE ((BF 15 rfl hg))),fun BF=>gF (BF 14 rfl) fun hg=>aa (cI.load bG ((BF 16 rfl hg)) ((be.ext hA2 BH).at_ (i:=1) rfl rfl)),fun BF=>gF (BF 14 rfl) fun hg=>aa (cI.fieldAddr bE ((BG 2 rfl rfl))),fun BF=>gF (BF 14 rfl) fun hg=>aa (cI.load bG ((BF 18 rfl hg)) ((be.ext hA1 BH).at_ (i:=1) rfl rfl)),fun BF=>gF (BF 14 rfl) fun hg=>aa (cI.neq ((BF 17 rfl hg)) ((BF 19 rfl hg))),fun BF=>aa (bq (p:=((¬(True))∨(¬(cV rh ch Mh)))∨(((rh:Nat):Int)≠((rx:Nat):Int))) (q:=((ch:Nat):Int)≠((cx:Nat):Int)) (BF 14 rfl) (fun hq=>(BF 20 rfl hq))),trivial⟩) ?_;intro e1 w5 hx5 ho1 hf1;replace hA1:=be.ext hA1 hx5;replace hA2:=be.ext hA2 hx5;replace hX:=aF.trans hX hx5;have s2_e1:e1 2=_:=ho1 2 rfl rfl;have s3_e1:e1 3=_:=ho1 3 rfl rfl;have s35_e1:e1 35=_:=hf1 21 rfl;refine RL.nil ?_;refine ag ((((¬(True))∨(¬(cV rh ch Mh)))∨(((rh:Nat):Int)≠((rx:Nat):Int)))∨(((ch:Nat):Int)≠((cx:Nat):Int))) s35_e1 (fun c35=> ?_) (fun c35=> ?_)
 ·
  refine ab ?_;refine RL.p rfl rfl (cI.assign rfl) ?_;refine RL.nil ?_;refine WP.ret ?_;refine pR.ret ?_;refine ⟨.bool (false),Bb.one (ge.tmp rfl),_,rfl,hX,?_⟩;dsimp only;exact congrArg _ (decide_eq_false fun h=>zj h c35).symm
 ·
  refine WP.skip ?_;refine pR.norm ?_;have hck:=A6 c35;refine ab ?_;refine RL.p rfl rfl (cI.fieldAddr eH s3_e1) ?_;refine RL.p rfl rfl (af [.int .i64 ((ru:Nat)),.int .i64 ((cu:Nat)),s2] aR rfl (hA2.cells 3 _ rfl rfl)) ?_;refine RL.p rfl rfl (cI.fieldAddr bg s2_e1) ?_;refine RL.p rfl rfl (cI.load bG rfl (hA1.at_ (i:=0) rfl rfl)) ?_;refine RL.p rfl rfl (cI.fieldAddr bg s2_e1) ?_;refine RL.p rfl rfl (cI.load bG rfl (hA1.at_ (i:=0) rfl rfl)) ?_;refine RL.x rfl rfl (dj.call xI (cS rfl rfl rfl) (qy _ _ _ _ _ _ rx rx (cc.mk (co.ext hShb hX) (by omega) (by omega)))) ?_;rintro _ w6 ⟨hx6,rfl⟩;replace hA1:=be.ext hA1 hx6;replace hA2:=be.ext hA2 hx6;replace hX:=aF.trans hX hx6;refine RL.p rfl rfl (cI.assign rfl) ?_;refine RL.nil ?_;refine ab ?_;refine RL.p rfl rfl (cI.fieldAddr gM s3_e1) ?_;refine RL.p rfl rfl (af [.int .i64 ((rv:Nat)),.int .i64 ((cv:Nat)),s3] aR rfl (hA2.cells 6 _ rfl rfl)) ?_;refine RL.p rfl rfl (cI.fieldAddr bg s2_e1) ?_;refine RL.p rfl rfl (cI.load bG rfl (hA1.at_ (i:=0) rfl rfl)) ?_;refine RL.p rfl rfl (cI.fieldAddr bg s2_e1) ?_;refine RL.p rfl rfl (cI.load bG rfl (hA1.at_ (i:=0) rfl rfl)) ?_;refine RL.x rfl rfl (dj.call xI (cS rfl rfl rfl) (qy _ _ _ _ _ _ rx rx (cc.mk (co.ext hShc hX) (by omega) (by omega)))) ?_;rintro _ w7 ⟨hx7,rfl⟩;replace hA1:=be.ext hA1 hx7;replace hA2:=be.ext hA2 hx7;replace hX:=aF.trans hX hx7;refine RL.p rfl rfl (cI.assign rfl) ?_;refine RL.nil ?_;have hBw1:w.heap.size≤w7.heap.size:=hX.size;have hBw2:w.heap.size≤w7.heap.size:=hX.size;have hBw3:w.heap.size≤w7.heap.size:=hX.size;refine aK am 24 [fun v BI=>v= .bool (decide (((((ru:Nat):Int)=((rx:Nat):Int)∧((cu:Nat):Int)=((rx:Nat):Int))∧True))),fun v BI=>v= .bool (decide (((((ru:Nat):Int)=((rx:Nat):Int)∧((cu:Nat):Int)=((rx:Nat):Int))∧True))),fun v BI=>(((((ru:Nat):Int)=((rx:Nat):Int)∧((cu:Nat):Int)=((rx:Nat):Int))∧True))→(v= .bool (decide (((((rv:Nat):Int)=((rx:Nat):Int)∧((cv:Nat):Int)=((rx:Nat):Int))∧True)))),_,fun v BI=>v= .bool (decide ((((((ru:Nat):Int)=((rx:Nat):Int)∧((cu:Nat):Int)=((rx:Nat):Int))∧True))∧(((((rv:Nat):Int)=((rx:Nat):Int)∧((cv:Nat):Int)=((rx:Nat):Int))∧True)))),_,_,_,fun v BI=>((((((ru:Nat):Int)=((rx:Nat):Int)∧((cu:Nat):Int)=((rx:Nat):Int))∧True))∧(((((rv:Nat):Int)=((rx:Nat):Int)∧((cv:Nat):Int)=((rx:Nat):Int))∧True)))→(cH BI v w7.heap.size ru cx (bK cu Mu Mx) b),_,_,fun v BI=>((((((ru:Nat):Int)=((rx:Nat):Int)∧((cu:Nat):Int)=((rx:Nat):Int))∧True))∧(((((rv:Nat):Int)=((rx:Nat):Int)∧((cv:Nat):Int)=((rx:Nat):Int))∧True)))→(v= .bool (decide (aA ru cx rh ch (bK cu Mu Mx) Mh))),_,fun v BI=>v= .bool (decide (((((((ru:Nat):Int)=((rx:Nat):Int)∧((cu:Nat):Int)=((rx:Nat):Int))∧True))∧(((((rv:Nat):Int)=((rx:Nat):Int)∧((cv:Nat):Int)=((rx:Nat):Int))∧True)))∧(aA ru cx rh ch (bK cu Mu Mx) Mh))),_,_,_,_,fun v BI=>(((((((ru:Nat):Int)=((rx:Nat):Int)∧((cu:Nat):Int)=((rx:Nat):Int))∧True))∧(((((rv:Nat):Int)=((rx:Nat):Int)∧((cv:Nat):Int)=((rx:Nat):Int))∧True)))∧(aA ru cx rh ch (bK cu Mu Mx) Mh))→(cH BI v w7.heap.size ru cv (bK cu Mu Mv) b),_,_,fun v BI=>(((((((ru:Nat):Int)=((rx:Nat):Int)∧((cu:Nat):Int)=((rx:Nat):Int))∧True))∧(((((rv:Nat):Int)=((rx:Nat):Int)∧((cv:Nat):Int)=((rx:Nat):Int))∧True)))∧(aA ru cx rh ch (bK cu Mu Mx) Mh))→(cH BI v w7.heap.size rx rx dA 1),fun v BI=>(((((((ru:Nat):Int)=((rx:Nat):Int)∧((cu:Nat):Int)=((rx:Nat):Int))∧True))∧(((((rv:Nat):Int)=((rx:Nat):Int)∧((cv:Nat):Int)=((rx:Nat):Int))∧True)))∧(aA ru cx rh ch (bK cu Mu Mx) Mh))→(v= .bool (decide (aA ru cv rx rx (bK cu Mu Mv) dA))),_] rfl rfl (fun e_ w_ BH BG=>⟨fun _=>aa (cI.move ((BG 7 rfl rfl))),fun BF=>aa (cI.move ((BF 0 rfl))),fun BF=>gT (BF 1 rfl) fun hg=>aa (cI.move ((BG 8 rfl rfl))),fun BF=>aa (ay (p:=((((ru:Nat):Int)=((rx:Nat):Int)∧((cu:Nat):Int)=((rx:Nat):Int))∧True)) (q:=((((rv:Nat):Int)=((rx:Nat):Int)∧((cv:Nat):Int)=((rx:Nat):Int))∧True)) (BF 1 rfl) (fun hq=>(BF 2 rfl hq))),fun BF=>aa (cI.move ((BF 3 rfl))),fun BF=>gT (BF 4 rfl) fun hg=>aa (cI.fieldAddr eH ((BG 3 rfl s3_e1))),fun BF=>gT (BF 4 rfl) fun hg=>aa (af [.int .i64 ((ru:Nat)),.int .i64 ((cu:Nat)),s2] aR ((BF 5 rfl hg)) ((be.ext hA2 BH).cells 3 _ rfl rfl)),fun BF=>gT (BF 4 rfl) fun hg=>aa (af [.int .i64 ((rx:Nat)),.int .i64 ((cx:Nat)),sx] aR ((BG 2 rfl s2_e1)) ((be.ext hA1 BH).cells 0 _ rfl rfl)),fun BF=>gT (BF 4 rfl) fun hg=>dj.mono (dj.call xH (ax ((BF 6 rfl hg)) ((BF 7 rfl hg))) (ml _ _ _ _ _ _ _ _ _ _ _ b (cc.mk (co.ext (co.ext hShb hX) BH) (by omega) (by omega)) (cc.mk (co.ext (co.ext hSx hX) BH) (by omega) (by omega)) (by omega) (by omega) (by omega) (kp (co.bd hShb) (by rw [show cu=rx by omega];exact co.bd hSx) (by omega) (by omega)))) fun v BJ hv=>⟨hv.1,cH.low hv.2 BH.size⟩,fun BF=>gT (BF 4 rfl) fun hg=>aa (cI.fieldAddr dJ ((BG 3 rfl s3_e1))),fun BF=>gT (BF 4 rfl) fun hg=>aa (af [.int .i64 ((rh:Nat)),.int .i64 ((ch:Nat)),s1] aR ((BF 9 rfl hg)) ((be.ext hA2 BH).cells 0 _ rfl rfl)),fun BF=>gT (BF 4 rfl) fun hg=>dj.call nY (ax rfl ((BF 10 rfl hg))) (iT _ _ _ _ _ _ _ _ _ _ _ (cH.matV (BF 8 rfl hg)) (cc.mk (co.ext (co.ext hSha hX) BH) (by omega) (by omega))),fun BF=>aa (ay (p:=(((((ru:Nat):Int)=((rx:Nat):Int)∧((cu:Nat):Int)=((rx:Nat):Int))∧True))∧(((((rv:Nat):Int)=((rx:Nat):Int)∧((cv:Nat):Int)=((rx:Nat):Int))∧True))) (q:=aA ru cx rh ch (bK cu Mu Mx) Mh) (BF 4 rfl) (fun hq=>(BF 11 rfl hq))),fun BF=>aa (cI.move ((BF 12 rfl))),fun BF=>gT (BF 13 rfl) fun hg=>aa (cI.fieldAddr eH ((BG 3 rfl s3_e1))),fun BF=>gT (BF 13 rfl) fun hg=>aa (af [.int .i64 ((ru:Nat)),.int .i64 ((cu:Nat)),s2] aR ((BF 14 rfl hg)) ((be.ext hA2 BH).cells 3 _ rfl rfl)),fun BF=>gT (BF 13 rfl) fun hg=>aa (cI.fieldAddr gM ((BG 3 rfl s3_e1))),fun BF=>gT (BF 13 rfl) fun hg=>aa (af [.int .i64 ((rv:Nat)),.int .i64 ((cv:Nat)),s3] aR ((BF 16 rfl hg)) ((be.ext hA2 BH).cells 6 _ rfl rfl)),fun BF=>gT (BF 13 rfl) fun hg=>dj.mono (dj.call xH (ax ((BF 15 rfl hg)) ((BF 17 rfl hg))) (ml _ _ _ _ _ _ _ _ _ _ _ b (cc.mk (co.ext (co.ext hShb hX) BH) (by omega) (by omega)) (cc.mk (co.ext (co.ext hShc hX) BH) (by omega) (by omega)) (by omega) (by omega) (by omega) (kp (co.bd hShb) (by rw [show cu=rv by omega];exact co.bd hShc) (by omega) (by omega)))) fun v BJ hv=>⟨hv.1,cH.low hv.2 BH.size⟩,fun BF=>gT (BF 13 rfl) fun hg=>aa (cI.fieldAddr bg ((BG 2 rfl s2_e1))),fun BF=>gT (BF 13 rfl) fun hg=>aa (cI.load bG ((BF 19 rfl hg)) ((be.ext hA1 BH).at_ (i:=0) rfl rfl)),fun BF=>gT (BF 13 rfl) fun hg=>dj.mono (dj.call sZ (aI ((BF 20 rfl hg))) (iw _ rx (by omega))) fun v BJ hv=>⟨hv.1,cH.low hv.2 BH.size⟩,fun BF=>gT (BF 13 rfl) fun hg=>dj.call nY (ax rfl rfl) (iT _ _ _ _ _ _ _ _ _ _ _ (cH.matV (BF 18 rfl hg)) (cH.matV (BF 21 rfl hg))),fun BF=>aa (ay (p:=((((((ru:Nat):Int)=((rx:Nat):Int)∧((cu:Nat):Int)=((rx:Nat):Int))∧True))∧(((((rv:Nat):Int)=((rx:Nat):Int)∧((cv:Nat):Int)=((rx:Nat):Int))∧True)))∧(aA ru cx rh ch (bK cu Mu Mx) Mh)) (q:=aA ru cv rx rx (bK cu Mu Mv) dA) (BF 13 rfl) (fun hq=>(BF 22 rfl hq))),trivial⟩) ?_;intro e2 w8 hx8 ho2 hf2;replace hX:=aF.trans hX hx8;have s73_e2:e2 73=_:=hf2 23 rfl;refine RL.p rfl rfl (cI.assign s73_e2) ?_;refine RL.nil ?_;refine WP.ret ?_;refine ⟨.bool (decide ((((((((ru:Nat):Int)=((rx:Nat):Int)∧((cu:Nat):Int)=((rx:Nat):Int))∧True))∧(((((rv:Nat):Int)=((rx:Nat):Int)∧((cv:Nat):Int)=((rx:Nat):Int))∧True)))∧(aA ru cx rh ch (bK cu Mu Mx) Mh))∧(aA ru cv rx rx (bK cu Mu Mv) dA))),Bb.one (ge.tmp rfl),_,rfl,hX,?_⟩;dsimp only;exact congrArg _ (decide_eq_decide.2 (wS hck))
end Go.TL
namespace Go.TL
open Go.RowKit
set_option linter.unusedVariables false
def BA (w:World) (v:Value) (B n:Nat) (z:Nat→Int) (b:Nat):Prop:=∃g k,v= .slice (some ⟨g,0,none⟩) n k∧n≤k∧k<9223372036854775808∧B≤g∧cN w g n z b
theorem BA.rowV {w:World} {v:Value} {B n b:Nat} {z:Nat→Int} (h:BA w v B n z b) (hn:n≤65536):bO w v n z b:=by
  obtain ⟨g,k,rfl,h1,h2,_,h3⟩:=h;exact h3.rowV h1 ⟨h2,hn⟩
end Go.TL
namespace Go.TL
set_option linter.unusedVariables false
theorem gH.isH {r c e0 k:Nat} {M0 M:Nat→Nat→Int} (h:gH r c e0 M0 k M):cV k r M:=by
  obtain ⟨⟨P,hP⟩,_⟩:=h.lat;exact hP.isH fun a h1 h2=>absurd h2 (by omega)
theorem wo {k c:Nat} {M:Nat→Nat→Int} {v:Nat→Int} (h:gi k c M v):zt k c M v:=by
  obtain ⟨a,ha⟩:=h;intro u hu;rw [aL (g:=fun j=>aO k (fun i=>a i*M i j)*u j) fun j hj=>by rw [ha j hj]];rw [←eb k c a M (fun j _=>u j) 0];refine dc fun i hi=> ?_
  have:bK c M (fun j _=>u j) i 0=0:=by
    rw [←hu i hi];exact aL fun j _=>Int.mul_comm _ _
  rw [this,Int.mul_zero]
end Go.TL
