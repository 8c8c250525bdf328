/-
  Lemmas towards the theorem of this claim (part 8).
  Conditions: those that each theorem names.
-/
import Derived.Test.YtknbpehdcgamaaaGreatPE7
namespace Go.TL
open Go.RowKit Go.Proofs
set_option linter.unusedVariables false
def bR (e0 r:Nat):Nat:=eR e0 r r + gR e0 r r + 2
structure HermR (r c e0:Nat) (M0:Nat→Nat→Int) (k:Nat) (S:WS):Prop where
  lin:Lin r c M0 S
  kr:k≤r
  kc:k≤c
  ech:ml r k c S.M
  bm:∀i j,i<r→j<c→(S.M i j).natAbs≤2^eR e0 r k
  bu:∀i j,i<r→j<r→(S.U i j).natAbs≤2^eR e0 r k
  bv:∀i j,i<r→j<r→(S.V i j).natAbs≤2^gR e0 r k
theorem wn (w:World) (x:Value) (r c:Nat) (M:Nat→Nat→Int) (b0 e0 b:Nat) (hx:cc w x r c M b0) (h8:r≤8) (hM:∀i j,i<r→j<c→(M i j).natAbs≤2^e0) (hb:bR e0 r≤b) (hb1:2 + e0≤b) (hl:2*b + 300≤bp):
    Calls Tryz.prog 14 #[x] w (cj w fun v w'=>∃k S,HermR r c e0 M k S∧jq w' v r c S b):=by
  have hfit:∀{t:Nat} {S:WS},t≤r→(∀i j,i<r→j<c→(S.M i j).natAbs≤2^eR e0 r t)→(∀i j,i<r→j<r→(S.U i j).natAbs≤2^eR e0 r t)→(∀i j,i<r→j<r→(S.V i j).natAbs≤2^gR e0 r t)→jr r c b S:=by
    intro t S ht h1 h2 h3;have e1:=jf e0 r (s:=t) (t:=r) ht;have e2:=nC e0 r (s:=t) (t:=r) ht
    unfold bR at hb
    exact ⟨fun i j hi hj=>eY (h1 i j hi hj) (by omega),fun i j hi hj=>eY (h2 i j hi hj) (by omega),fun i j hi hj=>eY (h3 i j hi hj) (by omega)⟩
  have e0r:=jf e0 r (s:=0) (t:=r) (by omega);have hbb:=hb
  unfold bR at hbb
  simp only [eR] at e0r;have hx0:cc w x r c M (e0 + 1):=hx.more (fun i j hi hj=>eY (hM i j hi hj) (by omega)) (by omega);refine (zd w x r c M (e0 + 1) b (FR r c e0 M) (JR r c e0 M) hx0 (by omega) hl (FR.start hM) (fun top q S ht hq h=>JR.of h ht hq) ?_ ?_ ?_ ?_ ?_ ?_).mono ?_
  · intro top q i S hti hir hq hJ hz h0
    obtain ⟨_,s,hs,g1,g2,g3⟩:=hJ.step hti hir hz h0;have e1:=jf e0 r (s:=top + 1) (t:=r) (by omega);have e2:=nC e0 r (s:=top + 1) (t:=r) (by omega);have hp:∀x:Nat,2^x*(2^(2*eR e0 r top + 6))^(i - top - 1)*s≤2^(x + (2*eR e0 r top + 6)*(r - top - 1)):=fun x=>by
      have h1:2^x*(2^(2*eR e0 r top + 6))^(i - top - 1)*s≤2^x*(2^(2*eR e0 r top + 6))^(i - top - 1)*2^(2*eR e0 r top + 6):=Nat.mul_le_mul_left _ hs;refine Nat.le_trans h1 ?_;rw [←Nat.pow_mul,←Nat.pow_add,←Nat.pow_add];refine Nat.pow_le_pow_right (by omega) ?_;have h2:(2*eR e0 r top + 6)*(i - top - 1) + (2*eR e0 r top + 6)=(2*eR e0 r top + 6)*(i - top - 1 + 1):=by rw [Nat.mul_add,Nat.mul_one]
      have h3:(2*eR e0 r top + 6)*(i - top - 1 + 1)≤(2*eR e0 r top + 6)*(r - top - 1):=Nat.mul_le_mul_left _ (by omega);omega
    have k1:eR e0 r top + (2*eR e0 r top + 6)*(r - top - 1)<eR e0 r (top + 1):=by simp only [eR];omega
    have k2:gR e0 r top + (2*eR e0 r top + 6)*(r - top - 1)<gR e0 r (top + 1):=by simp only [gR];omega
    exact ⟨fun a j ha hj=>eY (Nat.le_trans (g1 a j ha hj) (hp _)) (by omega),fun a j ha hj=>eY (Nat.le_trans (g2 a j ha hj) (hp _)) (by omega),fun a j ha hj=>eY (Nat.le_trans (g3 a j ha hj) (hp _)) (by omega)⟩
  · intro top q i S hti hir hq hJ hz h0
    exact (hJ.step hti hir hz h0).1
  · intro top q i S hti hir hq hJ hz h0
    exact hJ.swap hti hir hz h0
  · intro top q i S hti hir hq hJ hz
    exact hJ.zero hti hir hz
  · intro top q S ht hq hJ hz
    exact hJ.none ht hz
  · intro top q S ht hq hJ hz
    obtain ⟨h1,h2⟩:=hJ.pivot ht hq h8 hz;exact ⟨fun n hn=>by obtain ⟨g1,g2,g3⟩:=h1 (n + 1) (by omega);exact hfit (by omega) g1 g2 g3,h2⟩
  · rintro e w' ⟨v,rfl,hx',top,q,S,hF,hex,ht,hq,hH⟩
    have hech:ml r top c S.M:=by
      obtain ⟨P,h1,h2⟩:=hF.ech;refine ⟨P,fun i hi=> ?_,fun a ha har j hj=> ?_⟩
      · obtain ⟨g1,g2⟩:=h1 i hi;exact ⟨by omega,g2⟩
      · rcases hex with h | h
        · exact h2 a ha har j (by omega)
        · omega
    exact ⟨v,rfl,hx',top,S,⟨hF.lin,ht,hech.kc (Nat.le_refl _),hech,hF.bm,hF.bu,hF.bv⟩,hH⟩
end Go.TL
namespace Go.TL
set_option linter.unusedVariables false
theorem ml.some {r k c:Nat} {M:Nat→Nat→Int} (h:ml r k c M) {i:Nat} (hi:i<k):0≤piv (M i) c:=by
  obtain ⟨P,h1,_⟩:=h;obtain ⟨g1,g2,_⟩:=h1 i hi
  by_cases hn:0≤piv (M i) c
  · exact hn
  · have h3:de iG (M i) c= -1:=by have:=(eG (p:=iG) (z:=M i) c).2;unfold piv at hn;omega
    have:=eO h3 (P i) g1
    unfold iG at this
    omega
theorem ml.none {r k c:Nat} {M:Nat→Nat→Int} (h:ml r k c M) {i:Nat} (hi:k≤i) (hr:i<r):¬0≤piv (M i) c:=by
  obtain ⟨P,_,h2⟩:=h
  unfold piv
  rw [jc fun j hj=>by unfold iG;exact fun hne=>hne (h2 i hi hr j hj)];omega
def mU (r c e0:Nat) (M0:Nat→Nat→Int) (k:Nat) (M:Nat→Nat→Int):Prop:=
  ∃k1 S1 S2,HermR r c e0 M0 k1 S1∧HermR (r - k1) r (eR e0 r k1) (fun i=>S1.U (k1 + i)) k S2∧M=S2.M
theorem mU.bd {r c e0 e1 k:Nat} {M0 M:Nat→Nat→Int} (h:mU r c e0 M0 k M) (he:∀k,k≤r→eR (eR e0 r k) (r - k) (r - k)≤e1) {i j:Nat} (hi:i<k) (hj:j<r):(M i j).natAbs≤2^e1:=by
  obtain ⟨k1,S1,S2,h1,h2,rfl⟩:=h;have g1:=h2.kr;exact Nat.le_trans (h2.bm i j (by omega) hj) (Nat.pow_le_pow_right (by omega) (Nat.le_trans (jf _ _ g1) (he k1 h1.kr)))
theorem mU.kr {r c e0 k:Nat} {M0 M:Nat→Nat→Int} (h:mU r c e0 M0 k M):k≤r:=by
  obtain ⟨k1,S1,S2,h1,h2,rfl⟩:=h;have g1:=h2.kr;omega
end Go.TL
namespace Go.TL
open Go.RowKit Go.Proofs
set_option linter.unusedVariables false
def Bt (r c e0 e1:Nat) (M0:Nat→Nat→Int) (k:Nat) (M:Nat→Nat→Int):Prop:=∃k1 K1,mU c r e0 (yo M0) k1 K1∧mU c k1 e1 (yo K1) k M
def nY (w:World) (v:Value) (r c e0:Nat) (M0:Nat→Nat→Int) (b:Nat):Prop:=∃k S,HermR r c e0 M0 k S∧jq w v r c S b
theorem nY.ext {w w':World} {v:Value} {r c e0 b:Nat} {M0:Nat→Nat→Int} (h:nY w v r c e0 M0 b) (hx:aF w w'):nY w' v r c e0 M0 b:=by obtain ⟨k,S,h1,h2⟩:=h;exact ⟨k,S,h1,h2.ext hx⟩
theorem oP (r c e0:Nat) (M0:Nat→Nat→Int) (b:Nat):bO (fun v w=>nY w v r c e0 M0 b):=fun _ _ _ h hx=>h.ext hx
instance (r c e0:Nat) (M0:Nat→Nat→Int) (b:Nat):Nonempty (bO (fun v w=>nY w v r c e0 M0 b)):=⟨oP r c e0 M0 b⟩
def rR (w:World) (v:Value) (r c e0:Nat) (M0:Nat→Nat→Int) (b:Nat):Prop:=∃k S,HermR r c e0 M0 k S∧cc w v r c S.M b
theorem rR.ext {w w':World} {v:Value} {r c e0 b:Nat} {M0:Nat→Nat→Int} (h:rR w v r c e0 M0 b) (hx:aF w w'):rR w' v r c e0 M0 b:=by obtain ⟨k,S,h1,h2⟩:=h;exact ⟨k,S,h1,h2.ext hx⟩
theorem pQ (r c e0:Nat) (M0:Nat→Nat→Int) (b:Nat):bO (fun v w=>rR w v r c e0 M0 b):=fun _ _ _ h hx=>h.ext hx
instance (r c e0:Nat) (M0:Nat→Nat→Int) (b:Nat):Nonempty (bO (fun v w=>rR w v r c e0 M0 b)):=⟨pQ r c e0 M0 b⟩
def rT (w:World) (v:Value) (r c e0:Nat) (M0:Nat→Nat→Int) (b:Nat):Prop:=∃k S,HermR r c e0 M0 k S∧cc w v k c S.M b
theorem rT.ext {w w':World} {v:Value} {r c e0 b:Nat} {M0:Nat→Nat→Int} (h:rT w v r c e0 M0 b) (hx:aF w w'):rT w' v r c e0 M0 b:=by obtain ⟨k,S,h1,h2⟩:=h;exact ⟨k,S,h1,h2.ext hx⟩
theorem pS (r c e0:Nat) (M0:Nat→Nat→Int) (b:Nat):bO (fun v w=>rT w v r c e0 M0 b):=fun _ _ _ h hx=>h.ext hx
instance (r c e0:Nat) (M0:Nat→Nat→Int) (b:Nat):Nonempty (bO (fun v w=>rT w v r c e0 M0 b)):=⟨pS r c e0 M0 b⟩
def rO (w:World) (v:Value) (r c e0:Nat) (M0:Nat→Nat→Int) (b:Nat):Prop:=∃k M,mU r c e0 M0 k M∧cc w v k r M b
theorem rO.ext {w w':World} {v:Value} {r c e0 b:Nat} {M0:Nat→Nat→Int} (h:rO w v r c e0 M0 b) (hx:aF w w'):rO w' v r c e0 M0 b:=by obtain ⟨k,S,h1,h2⟩:=h;exact ⟨k,S,h1,h2.ext hx⟩
theorem pO (r c e0:Nat) (M0:Nat→Nat→Int) (b:Nat):bO (fun v w=>rO w v r c e0 M0 b):=fun _ _ _ h hx=>h.ext hx
instance (r c e0:Nat) (M0:Nat→Nat→Int) (b:Nat):Nonempty (bO (fun v w=>rO w v r c e0 M0 b)):=⟨pO r c e0 M0 b⟩
end Go.TL
namespace Go.TL
set_option linter.unusedVariables false
theorem iN {f:Nat→Int} {k:Nat}:∀{n:Nat},k≤n→(∀i,k≤i→i<n→f i=0)→aJ n f=aJ k f
  | 0,h,_=>by rw [show k=0 by omega]
  | n + 1,h,hz=>by
    by_cases e:k=n + 1
    · rw [e]
    · simp only [aJ];rw [iN (n:=n) (by omega) fun i h1 h2=>hz i h1 (by omega),hz n (by omega) (by omega)];omega
theorem lh (f:Nat→Int) (k:Nat):∀n,aJ (k + n) f=aJ k f + aJ n (fun i=>f (k + i))
  | 0=>by simp [aJ]
  | n + 1=>by rw [show k + (n + 1)=k + n + 1 by omega];simp only [aJ];rw [lh f k n];omega
def fz (n c:Nat) (M:Nat→Nat→Int) (v:Nat→Int):Prop:=∃a:Nat→Int,∀j,j<c→v j=aJ n (fun i=>a i*M i j)
theorem fz.congr {n c:Nat} {M M':Nat→Nat→Int} {v:Nat→Int} (h:fz n c M v) (he:∀i j,i<n→j<c→M i j=M' i j):fz n c M' v:=by
  obtain ⟨a,h⟩:=h;exact ⟨a,fun j hj=>by rw [h j hj];exact aM fun i hi=>by rw [he i j hi hj]⟩
theorem fz.row {n c:Nat} {M:Nat→Nat→Int} {i:Nat} (hi:i<n):fz n c M (M i):=
  ⟨fun x=>if x=i then 1 else 0,fun j hj=>by
    have:=eZ (f:=fun x=>M x j) hi;rw [←this];exact aM fun x _=>by by_cases e:x=i<;>simp [e]⟩
theorem fz.sub {n c:Nat} {M:Nat→Nat→Int} {u v:Nat→Int} (h:fz n c M u) (g:fz n c M v):fz n c M (fun j=>u j - v j):=by
  obtain ⟨a,h⟩:=h;obtain ⟨b,g⟩:=g;refine ⟨fun i=>a i - b i,fun j hj=> ?_⟩;show u j - v j=_;rw [h j hj,g j hj,←iM];exact aM fun i _=>(Int.sub_mul _ _ _).symm
theorem fz.cut {k n c:Nat} {M:Nat→Nat→Int} (hk:k≤n) (hz:∀i,k≤i→i<n→∀j,j<c→M i j=0) {v:Nat→Int}:fz n c M v↔fz k c M v:=by
  constructor
  · rintro ⟨a,h⟩
    exact ⟨a,fun j hj=>by rw [h j hj];exact iN hk fun i h1 h2=>by rw [hz i h1 h2 j hj,Int.mul_zero]⟩
  · rintro ⟨a,h⟩
    refine ⟨fun i=>if i<k then a i else 0,fun j hj=> ?_⟩;rw [h j hj,iN (n:=n) hk fun i h1 h2=>by rw [hz i h1 h2 j hj,Int.mul_zero]];exact aM fun i hi=>by simp only [if_pos hi]
theorem eb (r n:Nat) (a:Nat→Int) (A B:Nat→Nat→Int) (j:Nat):aJ r (fun i=>a i*bt n A B i j)=aJ n (fun x=>aJ r (fun i=>a i*A i x)*B x j):=
  (lK r n (fun _=>a) A B 0 j).symm
section
variable {r c:Nat} {M0:Nat→Nat→Int} {S:WS}
theorem Lin.lat (h:Lin r c M0 S) {v:Nat→Int}:fz r c M0 v↔fz r c S.M v:=by
  constructor
  · rintro ⟨a,g⟩
    refine ⟨fun x=>aJ r (fun i=>a i*S.V i x),fun j hj=> ?_⟩;rw [g j hj,←eb];exact aM fun i hi=>by rw [h.back hi hj]
  · rintro ⟨a,g⟩
    refine ⟨fun x=>aJ r (fun i=>a i*S.U i x),fun j hj=> ?_⟩;rw [g j hj,←eb];exact aM fun i hi=>by rw [h.eq i j hi hj]
end
def eM (k c:Nat) (M:Nat→Nat→Int) (P:Nat→Nat):Prop:=∀i,i<k→P i<c∧0<M i (P i)∧(∀j,j<P i→M i j=0)∧∀n,n<i→P n<P i∧0≤M n (P i)∧M n (P i)<M i (P i)
theorem eM.lead {k c:Nat} {M:Nat→Nat→Int} {P:Nat→Nat} (h:eM k c M P) {a:Nat→Int} {v:Nat→Int} (hv:∀j,j<c→v j=aJ k (fun i=>a i*M i j)):
    (∀i,i<k→a i=0)∨∃j,j<k∧(∀x,x<P j→v x=0)∧v (P j)≠0∧M j (P j)∣v (P j):=by
  by_cases hz:∀i,i<k→a i=0
  · exact .inl hz
  · have hex:∃i,i<k∧a i≠0:=by
      apply Classical.byContradiction;intro hn
      exact hz fun i hi=>Classical.byContradiction fun h=>hn ⟨i,hi,h⟩
    have hmin:∃j,j<k∧a j≠0∧∀i,i<j→a i=0:=by
      obtain ⟨i,hi,ha⟩:=hex
      induction i using Nat.strongRecOn with
      | _ i ih=>
        by_cases hk:∃x,x<i∧a x≠0
        · obtain ⟨x,hx,hxa⟩:=hk;exact ih x hx (by omega) hxa
        · exact ⟨i,hi,ha,fun x hx=>Classical.byContradiction fun h=>hk ⟨x,hx,h⟩⟩
    obtain ⟨j,hj,hja,hjm⟩:=hmin;obtain ⟨g1,g2,g3,_⟩:=h j hj;have hval:v (P j)=a j*M j (P j):=by
      rw [hv _ g1];refine jt hj fun i hi hne=> ?_
      rcases Nat.lt_or_ge i j with hlt | hge
      · rw [hjm i hlt,Int.zero_mul]
      · obtain ⟨_,_,k3,k4⟩:=h i hi
        rw [k3 (P j) (k4 j (by omega)).1,Int.mul_zero]
    refine .inr ⟨j,hj,fun x hx=> ?_,?_,⟨a j,by rw [hval,Int.mul_comm]⟩⟩
    · rw [hv x (by omega)]
      refine di fun i hi=> ?_
      rcases Nat.lt_or_ge i j with hlt | hge
      · rw [hjm i hlt,Int.zero_mul]
      · obtain ⟨_,_,k3,k4⟩:=h i hi
        by_cases e:i=j
        · subst e;rw [k3 x hx,Int.mul_zero]
        · have:=(k4 j (by omega)).1
          rw [k3 x (by omega),Int.mul_zero]
    · rw [hval];intro h0
      rcases Int.mul_eq_zero.1 h0 with h1 | h1
      · exact hja h1
      · omega
theorem eM.inl {k c:Nat} {M:Nat→Nat→Int} {P:Nat→Nat} (h:eM k c M P) {v:Nat→Int} (hv:fz k c M v):
    (∀j,j<c→v j=0)∨∃j,j<k∧(∀x,x<P j→v x=0)∧v (P j)≠0∧M j (P j)∣v (P j):=by
  obtain ⟨a,hv⟩:=hv;rcases h.lead hv with h1 | h1
  · exact .inl fun j hj=>by rw [hv j hj];exact di fun i hi=>by rw [h1 i hi,Int.zero_mul]
  · exact .inr h1
theorem eM.inc {k c:Nat} {M:Nat→Nat→Int} {P:Nat→Nat} (h:eM k c M P) {i j:Nat} (hi:i<k) (hj:j<k) (e:P i=P j):i=j:=by
  rcases Nat.lt_trichotomy i j with h1 | h1 | h1
  · have:=((h j hj).2.2.2 i h1).1;omega
  · exact h1
  · have:=((h i hi).2.2.2 j h1).1;omega
theorem eM.sub {k k' c:Nat} {M M':Nat→Nat→Int} {P P':Nat→Nat} (h:eM k c M P) (h':eM k' c M' P') (hs:∀v,fz k c M v→fz k' c M' v) {i:Nat} (hi:i<k):
    ∃j,j<k'∧P' j=P i∧M' j (P i)∣M i (P i):=by
  obtain ⟨g1,g2,g3,_⟩:=h i hi;rcases h'.inl (hs _ (fz.row (M:=M) hi)) with h1 | ⟨j,hj,h1,h2,h3⟩
  · have:=h1 _ g1;omega
  · have e:P' j=P i:=by
      rcases Nat.lt_trichotomy (P' j) (P i) with h4 | h4 | h4
      · exact absurd (g3 _ h4) h2
      · exact h4
      · have:=h1 _ h4;omega
    exact ⟨j,hj,e,by rw [←e];exact h3⟩
theorem eM.same {k k' c:Nat} {M M':Nat→Nat→Int} {P P':Nat→Nat} (h:eM k c M P) (h':eM k' c M' P') (hs:∀v,fz k c M v→fz k' c M' v) (hs':∀v,fz k' c M' v→fz k c M v):
    ∀n,∀i,i<n→i<k→i<k'∧P' i=P i∧M' i (P i)=M i (P i)
  | 0,i,hn,_=>by omega
  | n + 1,i,hn,hi=>by
    by_cases e:i<n
    · exact eM.same h h' hs hs' n i e hi
    · have ih:=eM.same h h' hs hs' n
      obtain ⟨j,hj,hP,hd⟩:=h.sub h' hs hi;obtain ⟨i2,hi2,hP2,hd2⟩:=h'.sub h hs' hj;have e2:i2=i:=h.inc hi2 hi (hP2.trans hP);subst e2;have hij:i2≤j:=by
        rcases Nat.lt_or_ge j i2 with h1 | h1
        · obtain ⟨_,h3,_⟩:=ih j (by omega) (by omega)
          have:=h.inc (i:=j) (j:=i2) (by omega) hi (by rw [←h3];exact hP);omega
        · exact h1
      have hji:j≤i2:=by
        rcases Nat.lt_or_ge i2 j with h1 | h1
        ·
          obtain ⟨m,hm,hPm,_⟩:=h'.sub h hs' (i:=i2) (by omega);have h3:=((h' j hj).2.2.2 i2 h1).1;have h4:m<i2:=by
            rcases Nat.lt_trichotomy m i2 with h5 | h5 | h5
            · exact h5
            · subst h5;omega
            · have:=((h m hm).2.2.2 i2 h5).1;omega
          obtain ⟨h6,h7,_⟩:=ih m (by omega) hm;have:=h'.inc (i:=m) (j:=i2) h6 (by omega) (by omega);omega
        · exact h1
      have e3:j=i2:=by omega
      subst e3;refine ⟨hj,hP,?_⟩;have p1:=(h j hi).2.1;have p2:=(h' j hj).2.1;rw [hP] at p2 hd2;exact Int.dvd_antisymm (by omega) (by omega) hd hd2
theorem eM.unique {k k' c:Nat} {M M':Nat→Nat→Int} {P P':Nat→Nat} (h:eM k c M P) (h':eM k' c M' P') (hs:∀v,fz k c M v↔fz k' c M' v):k=k'∧∀i j,i<k→j<c→M i j=M' i j:=by
  have h1:=fun i hi=>eM.same h h' (fun v=>(hs v).1) (fun v=>(hs v).2) (i + 1) i (by omega) hi
  have h2:=fun i hi=>eM.same h' h (fun v=>(hs v).2) (fun v=>(hs v).1) (i + 1) i (by omega) hi
  have hk:k=k':=by
    rcases Nat.lt_trichotomy k k' with h3 | h3 | h3
    · have:=(h2 k h3).1;omega
    · exact h3
    · have:=(h1 k' h3).1;omega
  refine ⟨hk,fun i j hi hj=> ?_⟩;have hrow:fz k c M (fun j=>M i j - M' i j):=fz.sub (fz.row hi) ((hs _).2 (fz.row (h1 i hi).1));rcases h.inl hrow with h3 | ⟨m,hm,h3,h4,h5⟩
  · have:=h3 j hj;omega
  · exfalso
    obtain ⟨a1,a2,a3⟩:=h1 i hi;obtain ⟨b1,b2,b3⟩:=h1 m hm;obtain ⟨g1,g2,g3,g4⟩:=h i hi;obtain ⟨f1,f2,f3,f4⟩:=h m hm;have hmi:i<m:=by
      rcases Nat.lt_trichotomy i m with e | e | e
      · exact e
      · subst e;exact absurd (by rw [a3];omega) h4
      · have e1:=(g4 m e).1
        have e2:=g3 _ e1;have e3:=(h' i a1).2.2.1 (P m) (by omega);exact absurd (by rw [e2,e3];rfl) h4
    have c1:=(f4 i hmi).2;have c2:=((h' m b1).2.2.2 i hmi).2;rw [b2,b3] at c2;obtain ⟨t,ht⟩:=h5;have c3:(M i (P m) - M' i (P m)).natAbs<(M m (P m)).natAbs:=by omega
    have c4:(M m (P m)).natAbs≤(M i (P m) - M' i (P m)).natAbs:=by
      rw [ht,Int.natAbs_mul];refine Nat.le_mul_of_pos_right _ ?_;rcases Nat.eq_zero_or_pos t.natAbs with h0 | h0
      · have:t=0:=by omega
        subst this;exact absurd (by rw [ht,Int.mul_zero]) h4
      · exact h0
    omega
theorem ml.toP {r k c:Nat} {M:Nat→Nat→Int} (h:ml r k c M):(∃P,eM k c M P)∧∀i,k≤i→i<r→∀j,j<c→M i j=0:=by
  obtain ⟨P,h1,h2⟩:=h;exact ⟨⟨P,h1⟩,h2⟩
theorem nw {r c k:Nat} {M0:Nat→Nat→Int} {S:WS} (hl:Lin r c M0 S) (hk:k≤r) (he:ml r k c S.M) {v:Nat→Int}:fz r c M0 v↔fz k c S.M v:=
  hl.lat.trans (fz.cut hk he.toP.2)
def zM (r c:Nat) (M0:Nat→Nat→Int) (u:Nat→Int):Prop:=∀j,j<c→aJ r (fun i=>u i*M0 i j)=0
theorem ri {r c k:Nat} {M0:Nat→Nat→Int} {S:WS} (hl:Lin r c M0 S) (hk:k≤r) (he:ml r k c S.M) {u:Nat→Int}:zM r c M0 u↔fz (r - k) r (fun i=>S.U (k + i)) u:=by
  obtain ⟨⟨P,hP⟩,hz⟩:=he.toP
  constructor
  · intro hu
    have hcoord:∀j,j<r→u j=aJ r (fun i=>aJ r (fun x=>u x*S.V x i)*S.U i j):=fun j hj=>by
      rw [←eb];have h1:aJ r (fun i=>u i*bt r S.V S.U i j)=aJ r (fun i=>u i*dC i j):=aM fun i hi=>by rw [hl.vu i j hi hj]
      rw [h1,jt hj fun x _ hne=>by simp [dC,hne]];simp [dC]
    have hzero:∀j,j<c→aJ k (fun i=>aJ r (fun x=>u x*S.V x i)*S.M i j)=0:=fun j hj=>by
      have h1:aJ r (fun i=>u i*bt r S.V S.M i j)=0:=by rw [←hu j hj];exact aM fun i hi=>by rw [hl.back hi hj]
      rw [eb,iN hk fun i h2 h3=>by rw [hz i h2 h3 j hj,Int.mul_zero]] at h1;exact h1
    have hc:∀i,i<k→aJ r (fun x=>u x*S.V x i)=0:=by
      rcases hP.lead (a:=fun i=>aJ r (fun x=>u x*S.V x i)) (v:=fun _=>0) (fun j hj=>(hzero j hj).symm) with h1 | ⟨_,_,_,h2,_⟩
      · exact h1
      · exact absurd rfl h2
    refine ⟨fun i=>aJ r (fun x=>u x*S.V x (k + i)),fun j hj=> ?_⟩;have h5:=lh (fun i=>aJ r (fun x=>u x*S.V x i)*S.U i j) k (r - k);rw [show k + (r - k)=r by omega] at h5;rw [hcoord j hj,h5,di fun i hi=>by rw [hc i hi,Int.zero_mul],Int.zero_add]
  · rintro ⟨a,h⟩ j hj
    have h1:aJ r (fun i=>u i*M0 i j)=aJ r (fun i=>aJ (r - k) (fun x=>a x*S.U (k + x) i)*M0 i j):=aM fun i hi=>by rw [h i hi]
    rw [h1];have h2:=(eb (r - k) r a (fun x=>S.U (k + x)) M0 j).symm;rw [h2];refine di fun i hi=> ?_
    have h3:bt r (fun x=>S.U (k + x)) M0 i j=S.M (k + i) j:=(hl.eq (k + i) j (by omega) hj).symm;rw [h3,hz (k + i) (by omega) (by omega) j hj,Int.mul_zero]
theorem zM.congr {r c:Nat} {M M':Nat→Nat→Int} (he:∀i j,i<r→j<c→M i j=M' i j) {u:Nat→Int}:zM r c M u↔zM r c M' u:=by
  constructor<;>intro h j hj
  · rw [←h j hj];exact aM fun i hi=>by rw [he i j hi hj]
  · rw [←h j hj];exact aM fun i hi=>by rw [he i j hi hj]
theorem gK.lat {r c e0 k:Nat} {M0 M:Nat→Nat→Int} (h:gK r c e0 M0 k M):(∃P,eM k r M P)∧∀u,fz k r M u↔zM r c M0 u:=by
  obtain ⟨k1,S1,S2,h1,h2,rfl⟩:=h;exact ⟨h2.ech.toP.1,fun u=>(nw h2.lin h2.kr h2.ech).symm.trans (ri h1.lin h1.kr h1.ech).symm⟩
theorem mU.lat {r c e0 k:Nat} {M0 M:Nat→Nat→Int} (h:mU r c e0 M0 k M):(∃P,eM k r M P)∧∀u,fz k r M u↔zM r c M0 u:=by
  obtain ⟨k1,S1,S2,h1,h2,rfl⟩:=h;exact ⟨h2.ech.toP.1,fun u=>(nw h2.lin h2.kr h2.ech).symm.trans (ri h1.lin h1.kr h1.ech).symm⟩
end Go.TL
namespace Go.TL
set_option linter.unusedVariables false
theorem lk (z:Int):z.sign≤0↔z≤0:=by
  rcases Int.lt_trichotomy z 0 with h | h | h
  · rw [Int.sign_eq_neg_one_of_neg h];omega
  · subst h;simp
  · rw [Int.sign_eq_one_of_pos h];omega
theorem fV (a b:Int):0≤cm a b↔b≤a:=by unfold cm;split<;>(try split)<;>omega
def lastP (M:Nat→Nat→Int) (c:Nat):Nat→Int
  | 0=> -1
  | i + 1=>if piv (M i) c<0 then (c:Int) else piv (M i) c
def jo (M:Nat→Nat→Int) (c i:Nat):Prop:=
  piv (M i) c<0∨(lastP M c i<piv (M i) c∧0<M i (piv (M i) c).toNat∧∀k,k<i→0≤M k (piv (M i) c).toNat∧M k (piv (M i) c).toNat<M i (piv (M i) c).toNat)
def cQ (r c:Nat) (M:Nat→Nat→Int):Prop:=∀i,i<r→jo M c i
instance (M:Nat→Nat→Int) (c i:Nat):Decidable (jo M c i):=inferInstanceAs (Decidable (_∨_))
instance (r c:Nat) (M:Nat→Nat→Int):Decidable (cQ r c M):=inferInstanceAs (Decidable (∀i,i<r→jo M c i))
theorem jL {M:Nat→Nat→Int} {c i:Nat} (h:piv (M i) c<0):((c:Nat):Int)=lastP M c (i + 1):=by simp only [lastP];rw [if_pos h]
theorem jK {M:Nat→Nat→Int} {c i:Nat} (h:¬piv (M i) c<0):piv (M i) c=lastP M c (i + 1):=by simp only [lastP];rw [if_neg h]
theorem jC {z:Nat→Int} {n:Nat} (h:¬piv z n<0):(piv z n).toNat<n∧((piv z n).toNat:Int)=piv z n∧z (piv z n).toNat≠0∧∀j,j<(piv z n).toNat→z j=0:=by
  obtain ⟨i,h1,h2,h3,h4⟩:=gX (p:=iG) (z:=z) (n:=n) (by unfold piv at h;omega);have h5:piv z n=(i:Int):=h2;rw [h5,Int.toNat_natCast];exact ⟨h1,rfl,h3,fun j hj=>Classical.byContradiction fun e=>h4 j hj e⟩
theorem nj {z:Nat→Int} {n p:Nat} (hp:p<n) (hz:z p≠0) (h0:∀j,j<p→z j=0):piv z n=(p:Int):=
  em (p:=iG) (jc (p:=iG) fun i hi=>by simp [iG,h0 i hi]) hz hp
theorem ul {z:Nat→Int} {n:Nat} (h0:∀j,j<n→z j=0):piv z n= -1:=jc (p:=iG) fun i hi=>by simp [iG,h0 i hi]
theorem uk {z:Nat→Int} {n:Nat} (h:piv z n<0):∀j,j<n→z j=0:=by
  intro j hj;have h1:=(eG (p:=iG) (z:=z) n).2;have h2:de iG z n= -1:=by unfold piv at h;omega
  exact Classical.byContradiction fun e=>eO h2 j hj e
theorem ml.lastP {r k c:Nat} {M:Nat→Nat→Int} {P:Nat→Nat} (h1:∀i,i<k→P i<c∧0<M i (P i)∧(∀j,j<P i→M i j=0)∧∀n,n<i→P n<P i∧0≤M n (P i)∧M n (P i)<M i (P i)):
    ∀{i:Nat},i≤k→lastP M c i=if i=0 then -1 else ((P (i - 1):Nat):Int)
  | 0,_=>rfl
  | i + 1,hi=>by
    obtain ⟨g1,g2,g3,_⟩:=h1 i (by omega);have hp:piv (M i) c=(P i:Int):=nj g1 (by omega) g3;simp only [Go.TL.lastP];rw [if_neg (by rw [hp];omega),hp,if_neg (by omega)];simp
theorem eM.isH {r k c:Nat} {M:Nat→Nat→Int} {P:Nat→Nat} (h:eM k c M P) (h2:∀a,k≤a→a<r→∀j,j<c→M a j=0):cQ r c M:=by
  intro i hi;rcases Nat.lt_or_ge i k with hk | hk
  · obtain ⟨g1,g2,g3,g4⟩:=h i hk
    have hp:piv (M i) c=(P i:Int):=nj g1 (by omega) g3;refine .inr ⟨?_,?_,?_⟩
    · rw [hp,ml.lastP (r:=r) h (by omega)]
      split
      · omega
      · have:=(g4 (i - 1) (by omega)).1;omega
    · rw [hp,Int.toNat_natCast];exact g2
    · intro n hn
      rw [hp,Int.toNat_natCast];exact (g4 n hn).2
  · left;rw [ul (h2 i hk hi)];omega
theorem cQ.ech {c:Nat} {M:Nat→Nat→Int}:∀{r:Nat},cQ r c M→∃k P,k≤r∧eM k c M P∧(∀a,k≤a→a<r→∀j,j<c→M a j=0)∧(k<r→lastP M c r=c)∧(0<k→k=r→lastP M c r=(P (k - 1):Nat))
  | 0,_=>⟨0,fun _=>0,Nat.le_refl _,fun i hi=>absurd hi (by omega),fun a _ ha=>absurd ha (by omega),fun h=>absurd h (by omega),fun h=>absurd h (by omega)⟩
  | r + 1,h=>by
    obtain ⟨k,P,hk,hE,hz,hl,hl2⟩:=cQ.ech (r:=r) fun i hi=>h i (by omega)
    rcases h r (by omega) with hr | ⟨g1,g2,g3⟩
    · refine ⟨k,P,by omega,hE,fun a h1 h2=> ?_,fun _=>(jL hr).symm,fun _ e=>absurd e (by omega)⟩
      rcases Nat.lt_or_ge a r with e | e
      · exact hz a h1 e
      · obtain rfl:a=r:=by omega
        exact uk hr
    · have hnn:¬piv (M r) c<0:=by
        intro hn;have h1:=(eG (p:=iG) (z:=M r) c).2;have h2:de iG (M r) c= -1:=by unfold piv at hn;omega
        have h3:piv (M r) c= -1:=h2;have h4:(-1:Int)≤lastP M c r:=by
          cases r with
          | zero=>simp [lastP]
          | succ r=>simp only [lastP];have:=(eG (p:=iG) (z:=M r) c).2;split<;>(unfold piv at*;omega)
        omega
      obtain ⟨a1,a2,a3,a4⟩:=jC hnn;have hkr:k=r:=by
        rcases Nat.lt_or_ge k r with e | e
        · have:=hl e;omega
        · omega
      subst hkr;refine ⟨k + 1,fun i=>if i=k then (piv (M k) c).toNat else P i,by omega,?_,fun a h1 h2=>absurd h2 (by omega),fun h=>absurd h (by omega),fun _ _=> ?_⟩
      · intro i hi
        rcases Nat.lt_or_ge i k with e | e
        · obtain ⟨b1,b2,b3,b4⟩:=hE i e
          simp only [if_neg (show ¬i=k by omega)];exact ⟨b1,b2,b3,fun n hn=>by simp only [if_neg (show ¬n=k by omega)];exact b4 n hn⟩
        · obtain rfl:i=k:=by omega
          simp only [if_pos];refine ⟨a1,g2,a4,fun n hn=> ?_⟩;simp only [if_neg (show ¬n=i by omega)];refine ⟨?_,g3 n hn⟩;have hl3:=hl2 (by omega) rfl;have:∀m,m<i→P m≤P (i - 1):=by
            intro m hm;rcases Nat.lt_or_ge m (i - 1) with e | e
            · exact Nat.le_of_lt ((hE (i - 1) (by omega)).2.2.2 m e).1
            · obtain rfl:m=i - 1:=by omega
              exact Nat.le_refl _
          have:=this n hn;omega
      · rw [←jK hnn,←a2];simp
end Go.TL
namespace Go.TL
set_option linter.unusedVariables false
def jz (M:Nat→Nat→Int) (c:Nat) (R:Nat→Int) (i:Nat):Int:=if piv (M i) c<0 then 0 else R (piv (M i) c).toNat/M i (piv (M i) c).toNat
def bj (M:Nat→Nat→Int) (c:Nat) (z:Nat→Int):Nat→Nat→Int
  | 0=>z
  | i + 1=>fun j=>bj M c z i j - jz M c (bj M c z i) i*M i j
def bU (M:Nat→Nat→Int) (c:Nat) (z:Nat→Int) (i:Nat):Int:=jz M c (bj M c z i) i
theorem iV {M:Nat→Nat→Int} {c i:Nat} {R:Nat→Int} (h:piv (M i) c<0):jz M c R i=0:=if_pos h
theorem lA {M:Nat→Nat→Int} {c i:Nat} {R:Nat→Int} (h:¬piv (M i) c<0):jz M c R i=R (piv (M i) c).toNat/M i (piv (M i) c).toNat:=if_neg h
def gt (R R':Nat→Int) (j:Nat):Nat→Int:=fun c=>if c<j then R' c else R c
theorem pG (R R':Nat→Int):gt R R' 0=R:=by funext c;simp [gt]
theorem pH (R R':Nat→Int) (j:Nat):gt R R' j j=R j:=by simp [gt]
theorem so (R R':Nat→Int) {j c:Nat} (h:c<j):gt R R' j c=R' c:=by simp [gt,h]
theorem sm {R R':Nat→Int} {j:Nat} {q:Int} (hq:q=R' j):js (gt R R' j) j q=gt R R' (j + 1):=by
  funext c
  simp only [js,gt]
  by_cases e:c=j
  · subst e;rw [if_pos rfl,if_pos (by omega),hq]
  · rw [if_neg e]
    by_cases h:c<j
    · rw [if_pos h,if_pos (by omega)]
    · rw [if_neg h,if_neg (by omega)]
theorem kC {M:Nat→Nat→Int} {c i e:Nat} {R:Nat→Int} (hR:∀j,j<c→(R j).natAbs<2^e):(jz M c R i).natAbs<2^e:=by
  unfold jz
  split
  · exact Nat.two_pow_pos e
  · rename_i h
    exact Nat.lt_of_le_of_lt (Int.natAbs_ediv_le_natAbs _ _) (hR _ (jC h).1)
theorem iU {M:Nat→Nat→Int} {r c bm bz:Nat} {z:Nat→Int} (hM:∀i j,i<r→j<c→(M i j).natAbs<2^bm) (hz:∀j,j<c→(z j).natAbs<2^bz):
    ∀{i:Nat},i≤r→∀j,j<c→(bj M c z i j).natAbs<2^(bz + i*(bm + 1))
  | 0,_=>by rw [Nat.zero_mul,Nat.add_zero];exact hz
  | i + 1,hi=>by
    intro j hj;have ih:=iU hM hz (i:=i) (by omega);have h1:=ih j hj;have h2:=kC (i:=i) (M:=M) ih;have h3:=hM i j (by omega) hj;simp only [bj];have h4:(jz M c (bj M c z i) i*M i j).natAbs<2^(bz + i*(bm + 1))*2^bm:=by
      rw [Int.natAbs_mul];exact Nat.mul_lt_mul'' h2 h3
    have h5:2^(bz + (i + 1)*(bm + 1))=2*(2^(bz + i*(bm + 1))*2^bm):=by
      rw [←Nat.pow_add,Nat.mul_comm 2,←Nat.pow_succ];congr 1;rw [Nat.add_mul];omega
    have h6:2^(bz + i*(bm + 1))≤2^(bz + i*(bm + 1))*2^bm:=Nat.le_mul_of_pos_right _ (Nat.two_pow_pos _);rw [h5];omega
end Go.TL
namespace Go.TL
open Go.RowKit Go.Proofs
set_option linter.unusedVariables false
set_option linter.unusedSimpArgs false
set_option maxRecDepth 10000 in
theorem xi (w:World) (x:Value) (zx:Int) (btx:Nat) (hx:al w x zx btx):Calls Tryz.prog 96 #[x] w (cj w fun v w'=>v= .bool true):=by
 have hLIM:bp=562949953421312:=rfl;obtain ⟨Ax,nx,cx,lx,rfl,hLx,hvx,htx,hnx,hbx⟩:=hx.form;have hbdx:=hx.bd;have hlimx:=hLx.lim;have hlex:=hLx.le;have holdx:=hLx.old;refine aj (N:=27) (rs:= #[.tmp 2]) Tryz.func96 rfl rfl rfl (Nat.le_of_ble_eq_true rfl) ?_;have hX:aF w w:=aF.refl w;refine ab ?_;refine RL.x rfl rfl (df.box [.bool (decide (zx<0)),.slice (Ax) (nx) (cx)] rfl rfl) ?_;rintro _ w1 ⟨g1,rfl,hge1,hx1,hA1⟩;replace hLx:=aE.ext hLx hx1;replace hX:=aF.trans hX hx1;refine RL.p rfl rfl (cK.assign rfl) ?_;refine RL.nil ?_;refine ab ?_;refine RL.p rfl rfl (cK.fieldAddr aK rfl) ?_;refine RL.p rfl rfl (cK.load bK rfl (hA1.at_ (i:=1) rfl rfl)) ?_;refine RL.p rfl rfl (cK.len ar rfl) ?_;refine RL.p rfl rfl (cK.assign rfl) ?_;refine RL.nil ?_;refine aI am 20 [_,_,fun v BZ=>v= .bool (decide (((nx:Nat):Int)=(0:Int))),_,fun v BZ=>(((nx:Nat):Int)=(0:Int))→(v= .bool (decide (zx<0))),_,_,fun v BZ=>v= .bool (decide ((((nx:Nat):Int)=(0:Int))∧(¬(zx<0)))),_,_,fun v BZ=>((¬((((nx:Nat):Int)=(0:Int))∧(¬(zx<0))))→(v= .bool (decide ((0:Int)<((nx:Nat):Int)))))∧(¬(¬((((nx:Nat):Int)=(0:Int))∧(¬(zx<0))))→v=undef),_,_,_,_,_,_,_,_,_] rfl rfl (fun e_ w_ BY BX=>⟨fun _=>aa (cK.move ((BX 3 rfl rfl))),fun BW=>aa (cK.eql ((BW 0 rfl)) rfl),fun BW=>aa (cK.move ((BW 1 rfl))),fun BW=>gT ((BW 2 rfl)) fun hg=>aa (cK.fieldAddr bN ((BX 1 rfl rfl))),fun BW=>gT ((BW 2 rfl)) fun hg=>aa (cK.load dD ((BW 3 rfl hg)) ((bc.ext hA1 BY).at_ (i:=0) rfl rfl)),fun BW=>gT ((BW 2 rfl)) fun hg=>aa (cK.not (p:=zx<0) ((BW 4 rfl hg))),fun BW=>aa (ay (p:=((nx:Nat):Int)=(0:Int)) (q:=¬(zx<0)) ((BW 2 rfl)) (fun hq=>(BW 5 rfl hq))),fun BW=>aa (cK.move ((BW 6 rfl))),fun BW=>gF ((BW 7 rfl)) fun hg=>aa (cK.move ((BX 3 rfl rfl))),fun BW=>gF ((BW 7 rfl)) fun hg=>aa (cK.gtr ((BW 8 rfl hg)) rfl),fun BW=>gFU ((BW 7 rfl)) fun hg=>aa (cK.move ((BW 9 rfl hg))),fun BW=>gN (BW 10 rfl) fun hg=>aa (cK.fieldAddr aK ((BX 1 rfl rfl))),fun BW=>gN (BW 10 rfl) fun hg=>aa (cK.load bK ((BW 11 rfl hg)) ((bc.ext hA1 BY).at_ (i:=1) rfl rfl)),fun BW=>gN (BW 10 rfl) fun hg=>aa (cK.move ((BX 3 rfl rfl))),fun BW=>gN (BW 10 rfl) fun hg=>aa (cK.sub (c:=((nx - 1:Nat):Int)) ((BW 13 rfl hg)) rfl (bY (by omega))),fun BW=>gN (BW 10 rfl) fun hg=>aa (cK.index (j:=nx - 1) ar ((BW 12 rfl hg)) ((BW 14 rfl hg)) ((aE.ext hLx BY).addr (by omega)) (by omega) (by omega)),fun BW=>gN (BW 10 rfl) fun hg=>aa (cK.load bF ((BW 15 rfl hg)) (aY ((aE.ext hLx BY).get (i:=nx - 1) (by omega)))),fun BW=>gN (BW 10 rfl) fun hg=>aa (cK.neq ((BW 16 rfl hg)) rfl),fun BW=>gF ((BW 7 rfl)) fun hg=>aa (ay (p:=(0:Int)<((nx:Nat):Int)) (q:=((lx (nx - 1):Nat):Int)≠(0:Int)) (((BW 10 rfl).1 hg)) (fun hq=>((fun hq=>BW 17 rfl ⟨hg,hq⟩) hq))),fun BW=>aa (bo (p:=(((nx:Nat):Int)=(0:Int))∧(¬(zx<0))) (q:=((0:Int)<((nx:Nat):Int))∧(((lx (nx - 1):Nat):Int)≠(0:Int))) ((BW 7 rfl)) (fun hq=>(BW 18 rfl hq))),trivial⟩) ?_;intro e1 w2 hx2 ho1 hf1;replace hX:=aF.trans hX hx2;have s26_e1:e1 26=_:=hf1 19 rfl;refine RL.p rfl rfl (cK.assign s26_e1) ?_;refine RL.nil ?_;refine WP.ret ?_;refine ⟨.bool (decide (((((nx:Nat):Int)=(0:Int))∧(¬(zx<0)))∨(((0:Int)<((nx:Nat):Int))∧(((lx (nx - 1):Nat):Int)≠(0:Int))))),Bu.one (fZ.tmp rfl),_,rfl,hX,?_⟩;dsimp only;refine congrArg _ (decide_eq_true ?_);rcases Nat.eq_zero_or_pos nx with h | h
 · left;subst h;exact ⟨rfl,fun h2=>by have h1:=gG hvx (by omega);omega⟩
 · right;have h1:=htx h;exact ⟨by omega,by omega⟩
set_option maxRecDepth 10000 in
theorem uJ (w:World) (x:Value) (zx:Int) (btx:Nat) (hx:al w x zx btx):Calls Tryz.prog 95 #[x] w (cj w fun v w'=>v= .bool (decide (wr zx))):=by
 have hLIM:bp=562949953421312:=rfl;refine aj (N:=6) (rs:= #[.tmp 2]) Tryz.func95 rfl rfl rfl (Nat.le_of_ble_eq_true rfl) ?_;have hX:aF w w:=aF.refl w;refine ab ?_;obtain ⟨ca1,cb1,hq1,ho1,ho2⟩:=al.cells (al.ext hx hX);have qi1:al w (.agg #[ca1,cb1]) zx btx:=hq1▸(al.ext hx hX);refine RL.x rfl rfl (df.box [ca1,cb1] hq1 rfl) ?_;rintro _ w1 ⟨g1,rfl,hge1,hx1,hA1⟩;replace qi1:=al.ext qi1 hx1;replace hX:=aF.trans hX hx1;refine RL.p rfl rfl (cK.assign rfl) ?_;refine RL.nil ?_;refine ab ?_;refine RL.p rfl rfl (ah [ca1,cb1] an rfl (hA1.cells 0 _ rfl rfl)) ?_;refine RL.x rfl rfl (df.call Af (aN rfl) (xi _ _ _ _ qi1)) ?_;rintro _ w2 ⟨hx2,rfl⟩;replace hX:=aF.trans hX hx2;refine RL.p rfl rfl (cK.not (p:=True) rfl) ?_;refine RL.p rfl rfl (cK.assign rfl) ?_;refine RL.nil ?_;refine WP.ret ?_;refine ⟨.bool (decide (¬(True))),Bu.one (fZ.tmp rfl),_,rfl,hX,?_⟩
 rfl
set_option maxRecDepth 10000 in
theorem tV (w:World) (x:Value) (nx:Nat) (zx:Nat→Int) (btx:Nat) (fv:Value) (p:Int→Prop) [DecidablePred p] (hx:bD w x nx zx btx) (hF:zS Tryz.prog w fv btx p):Calls Tryz.prog 118 #[x,fv] w (cj w fun v w'=>v= .int .i64 (de p zx nx)):=by
 have hLIM:bp=562949953421312:=rfl;have hlimx:=hx.lim;refine aj (N:=19) (rs:= #[.tmp 4]) Tryz.func118 rfl rfl rfl (Nat.le_of_ble_eq_true rfl) ?_;have hX:aF w w:=aF.refl w;refine ab ?_;refine RL.p rfl rfl (cK.assign rfl) ?_;refine RL.nil ?_;refine WP.seq ?_;refine ab ?_;refine RL.p rfl rfl (cK.move rfl) ?_;refine RL.p rfl rfl (bW bl rfl (bD.ext hx hX)) ?_;refine RL.p rfl rfl (cK.move rfl) ?_;refine RL.nil ?_;refine WP.block ?_;refine WP.loop (fun mz ez uz=>∃i:Nat,(mz=nx - i)∧(ez 0=x)∧(ez 1=fv)∧(ez 7= .int .i64 ((nx:Nat)))∧(ez 8= .int .i64 ((i:Nat)))∧(i≤nx)∧(de p zx i= -1)∧(aF w uz)) (nx - 0) ?_ ?_
 · exact ⟨0,rfl,rfl,rfl,rfl,rfl,(by omega),rfl,hX⟩
 rintro m1 e1 w1 ⟨i,hm1,s0_e1,s1_e1,s7_e1,s8_e1,hi,hnone,hX1⟩;refine ab ?_;refine RL.p rfl rfl (cK.lss s8_e1 s7_e1) ?_;refine RL.nil ?_;refine WP.seq ?_;refine af (((i:Nat):Int)<((nx:Nat):Int)) rfl (fun c9=> ?_) (fun c9=> ?_)
 ·
  refine WP.skip ?_;refine qf.norm ?_;refine WP.seq ?_;refine WP.block ?_;refine ab ?_;refine RL.p rfl rfl (cK.move s8_e1) ?_;refine RL.p rfl rfl (cK.assign rfl) ?_;refine RL.nil ?_;refine ab ?_;refine RL.p rfl rfl (cK.move s1_e1) ?_;refine RL.p rfl rfl (cK.move s0_e1) ?_;refine RL.p rfl rfl (cK.move rfl) ?_;refine RL.x rfl rfl (aQ (j:=i) bl rfl (bD.ext hx hX1) rfl (by omega) (by omega)) ?_;rintro v1 _ ⟨rfl,q1⟩;refine RL.x rfl rfl (aW an rfl q1) ?_;rintro v2 _ ⟨rfl,q2⟩;refine RL.x rfl rfl (kp rfl (zS.ext hF hX1) rfl q2) ?_;rintro _ w2 ⟨hx1,rfl⟩;replace hX1:=aF.trans hX1 hx1;refine RL.nil ?_;refine af (p (zx i)) rfl (fun c16=> ?_) (fun c16=> ?_)
  ·
   refine ab ?_;refine RL.p rfl rfl (cK.move rfl) ?_;refine RL.p rfl rfl (cK.assign rfl) ?_;refine RL.nil ?_;refine WP.ret ?_;refine jp.ret ?_;refine qf.ret ?_;refine qf.ret ?_;refine jp.ret ?_;refine qf.ret ?_;refine ⟨.int .i64 ((i:Nat)),Bu.one (fZ.tmp rfl),_,rfl,hX1,?_⟩;dsimp only;rw [em hnone c16 (by omega)]
  ·
   refine WP.skip ?_;refine jp.norm ?_;refine qf.norm ?_;refine WP.region ?_;refine RL.p rfl rfl (cK.add (c:=((i + 1:Nat):Int)) s8_e1 rfl (bY (by omega))) ?_;refine RL.p rfl rfl (cK.move rfl) ?_;refine RL.nil ?_;refine qf.norm ⟨_,(by omega),i + 1,rfl,s0_e1,s1_e1,s7_e1,rfl,(by omega),(gY hnone c16),hX1⟩
 ·
  refine WP.exit ?_;refine qf.exit ?_;refine qf.exit ?_;refine jp.same ?_;refine qf.norm ?_;refine ab ?_;refine RL.p rfl rfl (cK.assign rfl) ?_;refine RL.nil ?_;refine WP.ret ?_;refine ⟨.int .i64 (-1),Bu.one (fZ.tmp rfl),_,rfl,hX1,?_⟩;dsimp only;rw [show nx=i by omega,hnone]
set_option maxRecDepth 10000 in
theorem ov (w:World) (x:Value) (nx:Nat) (zx:Nat→Int) (btx:Nat) (fv:Value) (p:Int→Prop) [DecidablePred p] (hx:bD w x nx zx btx) (hF:zS Tryz.prog w fv btx p):Calls Tryz.prog 94 #[x,fv] w (cj w fun v w'=>v= .bool (decide (0≤de p zx nx))):=by
 have hLIM:bp=562949953421312:=rfl;have hlimx:=hx.lim;refine aj (N:=9) (rs:= #[.tmp 4]) Tryz.func94 rfl rfl rfl (Nat.le_of_ble_eq_true rfl) ?_;have hX:aF w w:=aF.refl w;refine ab ?_;refine RL.p rfl rfl (cK.assign rfl) ?_;refine RL.nil ?_;refine ab ?_;refine RL.p rfl rfl (cK.move rfl) ?_;refine RL.p rfl rfl (cK.move rfl) ?_;refine RL.x rfl rfl (df.call yE (aw rfl rfl) (tV _ _ _ _ _ _ p (bD.ext hx hX) (zS.ext hF hX))) ?_;rintro _ w1 ⟨hx1,rfl⟩;replace hX:=aF.trans hX hx1;refine RL.p rfl rfl (cK.geq rfl rfl) ?_;refine RL.p rfl rfl (cK.assign rfl) ?_;refine RL.nil ?_;refine WP.ret ?_;refine ⟨.bool (decide ((0:Int)≤(de p zx nx:Int))),Bu.one (fZ.tmp rfl),_,rfl,hX,?_⟩
 rfl
set_option maxRecDepth 10000 in
theorem qX (w:World) (sx:Value) (Rx Cx nx cx:Nat) (Mx:Nat→Nat→Int) (btx:Nat) (hRx:Rx≤65536) (hCx:Cx≤65536) (hSx:cA w sx nx cx Mx btx):Calls Tryz.prog 59 #[.agg #[.int .i64 (Rx:Nat),.int .i64 (Cx:Nat),sx]] w (cj w fun v w'=>v= .bool (decide (nX Rx Cx nx cx))):=by
 have hLIM:bp=562949953421312:=rfl;have hlimx:=hSx.lim;refine aj (N:=38) (rs:= #[.tmp 2]) Tryz.func59 rfl rfl rfl (Nat.le_of_ble_eq_true rfl) ?_;have hX:aF w w:=aF.refl w;refine ab ?_;refine RL.x rfl rfl (df.box [.int .i64 ((Rx:Nat)),.int .i64 ((Cx:Nat)),sx] rfl rfl) ?_;rintro _ w1 ⟨g1,rfl,hge1,hx1,hA1⟩;replace hX:=aF.trans hX hx1;refine RL.p rfl rfl (cK.assign rfl) ?_;refine RL.nil ?_;refine WP.seq ?_;refine aI am 16 [_,_,_,fun v BZ=>v= .bool (decide (((Rx:Nat):Int)<(0:Int))),_,_,_,_,fun v BZ=>v= .bool (decide ((((Rx:Nat):Int)<(0:Int))∨(((Cx:Nat):Int)<(0:Int)))),_,_,_,_,_,_,_] rfl rfl (fun e_ w_ BY BX=>⟨fun _=>aa (cK.fieldAddr bk ((BX 1 rfl rfl))),fun BW=>aa (cK.load bI ((BW 0 rfl)) ((bc.ext hA1 BY).at_ (i:=0) rfl rfl)),fun BW=>aa (cK.lss ((BW 1 rfl)) rfl),fun BW=>aa (cK.move ((BW 2 rfl))),fun BW=>gF (BW 3 rfl) fun hg=>aa (cK.fieldAddr bG ((BX 1 rfl rfl))),fun BW=>gF (BW 3 rfl) fun hg=>aa (cK.load bI ((BW 4 rfl hg)) ((bc.ext hA1 BY).at_ (i:=1) rfl rfl)),fun BW=>gF (BW 3 rfl) fun hg=>aa (cK.lss ((BW 5 rfl hg)) rfl),fun BW=>aa (bo (p:=((Rx:Nat):Int)<(0:Int)) (q:=((Cx:Nat):Int)<(0:Int)) (BW 3 rfl) (fun hq=>(BW 6 rfl hq))),fun BW=>aa (cK.move ((BW 7 rfl))),fun BW=>gF (BW 8 rfl) fun hg=>aa (cK.fieldAddr aq ((BX 1 rfl rfl))),fun BW=>gF (BW 8 rfl) fun hg=>aa (cK.load aG ((BW 9 rfl hg)) ((bc.ext hA1 BY).at_ (i:=2) rfl rfl)),fun BW=>gF (BW 8 rfl) fun hg=>aa (cC az (BW 10 rfl hg) (cA.ext (cA.ext hSx hX) BY)),fun BW=>gF (BW 8 rfl) fun hg=>aa (cK.fieldAddr bk ((BX 1 rfl rfl))),fun BW=>gF (BW 8 rfl) fun hg=>aa (cK.load bI ((BW 12 rfl hg)) ((bc.ext hA1 BY).at_ (i:=0) rfl rfl)),fun BW=>gF (BW 8 rfl) fun hg=>aa (cK.neq ((BW 11 rfl hg)) ((BW 13 rfl hg))),fun BW=>aa (bo (p:=(((Rx:Nat):Int)<(0:Int))∨(((Cx:Nat):Int)<(0:Int))) (q:=((nx:Nat):Int)≠((Rx:Nat):Int)) (BW 8 rfl) (fun hq=>(BW 14 rfl hq))),trivial⟩) ?_;intro e1 w2 hx2 ho1 hf1;replace hA1:=bc.ext hA1 hx2;replace hX:=aF.trans hX hx2;have s1_e1:e1 1=_:=ho1 1 rfl rfl;have s20_e1:e1 20=_:=hf1 15 rfl;refine RL.nil ?_;refine af (((((Rx:Nat):Int)<(0:Int))∨(((Cx:Nat):Int)<(0:Int)))∨(((nx:Nat):Int)≠((Rx:Nat):Int))) s20_e1 (fun c20=> ?_) (fun c20=> ?_)
 ·
  refine ab ?_;refine RL.p rfl rfl (cK.assign rfl) ?_;refine RL.nil ?_;refine WP.ret ?_;refine qf.ret ?_;refine ⟨.bool (false),Bu.one (fZ.tmp rfl),_,rfl,hX,?_⟩;dsimp only;exact congrArg _ (decide_eq_false fun h=>by have:=h.1;omega).symm
 ·
  refine WP.skip ?_;refine qf.norm ?_;refine WP.seq ?_;refine ab ?_;refine RL.p rfl rfl (cK.fieldAddr aq s1_e1) ?_;refine RL.p rfl rfl (cK.load aG rfl (hA1.at_ (i:=2) rfl rfl)) ?_;refine RL.p rfl rfl (cC az rfl (cA.ext hSx hX)) ?_;refine RL.p rfl rfl (cK.move rfl) ?_;refine RL.nil ?_;refine WP.block ?_;refine WP.loop (fun mz ez uz=>∃i:Nat,(mz=nx - i)∧(ez 1= .pointer (some ⟨g1,0,none⟩))∧(ez 22=sx)∧(ez 23= .int .i64 ((nx:Nat)))∧(ez 24= .int .i64 ((i:Nat)))∧(i≤nx)∧(i=0∨Cx=cx)∧(aF w uz)∧(bc uz g1 28 3 (bP [.int .i64 ((Rx:Nat)),.int .i64 ((Cx:Nat)),sx]))) (nx - 0) ?_ ?_
  · exact ⟨0,rfl,s1_e1,rfl,rfl,rfl,(by omega),(.inl rfl),hX,hA1⟩
  rintro m1 e2 w3 ⟨i,hm1,s1_e2,s22_e2,s23_e2,s24_e2,hi,hok,hX1,hA1⟩;refine ab ?_;refine RL.p rfl rfl (cK.lss s24_e2 s23_e2) ?_;refine RL.nil ?_;refine WP.seq ?_;refine af (((i:Nat):Int)<((nx:Nat):Int)) rfl (fun c25=> ?_) (fun c25=> ?_)
  ·
   refine WP.skip ?_;refine qf.norm ?_;refine WP.seq ?_;refine WP.block ?_;refine ab ?_;refine RL.x rfl rfl (aP (j:=i) az s22_e2 (cA.ext hSx hX1) s24_e2 (by omega) (by omega)) ?_;rintro v1 _ ⟨rfl,q1⟩;refine RL.x rfl rfl (aV aR rfl q1) ?_;rintro v2 _ ⟨rfl,q2⟩;refine RL.p rfl rfl (cK.assign rfl) ?_;refine RL.nil ?_;refine aI am 9 [_,_,_,_,_,fun v BZ=>v= .bool (decide (((cx:Nat):Int)≠((Cx:Nat):Int))),_,fun v BZ=>(¬(((cx:Nat):Int)≠((Cx:Nat):Int)))→(v= .bool (decide (0≤de wr (Mx i) cx))),_] rfl rfl (fun e_ w_ BY BX=>⟨fun _=>aa (cK.move ((BX 4 rfl rfl))),fun BW=>aa (bW bl (BW 0 rfl) (bD.ext q2 BY)),fun _=>aa (cK.fieldAddr bG ((BX 1 rfl s1_e2))),fun BW=>aa (cK.load bI ((BW 2 rfl)) ((bc.ext hA1 BY).at_ (i:=1) rfl rfl)),fun BW=>aa (cK.neq ((BW 1 rfl)) ((BW 3 rfl))),fun BW=>aa (cK.move ((BW 4 rfl))),fun BW=>gF (BW 5 rfl) fun hg=>aa (cK.move ((BX 4 rfl rfl))),fun BW=>gF (BW 5 rfl) fun hg=>df.call Ah (aw ((BW 6 rfl hg)) rfl) (ov _ _ _ _ _ _ wr (bD.ext q2 BY) (⟨95,#[],#[],rfl,Ag,fun w1 hw1 x z hI=>uJ _ _ _ _ hI⟩)),fun BW=>aa (bo (p:=((cx:Nat):Int)≠((Cx:Nat):Int)) (q:=0≤de wr (Mx i) cx) (BW 5 rfl) (fun hq=>(BW 7 rfl hq))),trivial⟩) ?_;intro e3 w4 hx3 ho2 hf2;replace hA1:=bc.ext hA1 hx3;replace hX1:=aF.trans hX1 hx3;have s1_e3:=ho2 1 rfl s1_e2;have s22_e3:=ho2 22 rfl s22_e2;have s23_e3:=ho2 23 rfl s23_e2;have s24_e3:=ho2 24 rfl s24_e2;have s36_e3:e3 36=_:=hf2 8 rfl;refine RL.nil ?_;refine af ((((cx:Nat):Int)≠((Cx:Nat):Int))∨(0≤de wr (Mx i) cx)) s36_e3 (fun c36=> ?_) (fun c36=> ?_)
   ·
    refine ab ?_;refine RL.p rfl rfl (cK.assign rfl) ?_;refine RL.nil ?_;refine WP.ret ?_;refine jp.ret ?_;refine qf.ret ?_;refine qf.ret ?_;refine jp.ret ?_;refine qf.ret ?_;refine ⟨.bool (false),Bu.one (fZ.tmp rfl),_,rfl,hX1,?_⟩;dsimp only;exact congrArg _ (decide_eq_false fun h=>wK (i:=i) h (by omega) c36).symm
   ·
    refine WP.skip ?_;refine jp.norm ?_;refine qf.norm ?_;refine WP.region ?_;refine RL.p rfl rfl (cK.add (c:=((i + 1:Nat):Int)) s24_e3 rfl (bY (by omega))) ?_;refine RL.p rfl rfl (cK.move rfl) ?_;refine RL.nil ?_;refine qf.norm ⟨_,(by omega),i + 1,rfl,s1_e3,s22_e3,s23_e3,rfl,(by omega),(.inr (wJ c36)),hX1,hA1⟩
  ·
   refine WP.exit ?_;refine qf.exit ?_;refine qf.exit ?_;refine jp.same ?_;refine qf.norm ?_;refine ab ?_;refine RL.p rfl rfl (cK.assign rfl) ?_;refine RL.nil ?_;refine WP.ret ?_;refine ⟨.bool (true),Bu.one (fZ.tmp rfl),_,rfl,hX1,?_⟩;dsimp only;exact congrArg _ (decide_eq_true ⟨by omega,by omega⟩).symm
set_option maxRecDepth 10000 in
theorem zh (w:World) (o:Value) (zo:Int) (bto:Nat) (x:Value) (zx:Int) (btx:Nat) (y:Value) (zy:Int) (bty:Nat) (ho:al w o zo bto) (hx:al w x zx btx) (hy:al w y zy bty) (hb:btx + bty + 1≤bp) (hb2:bto + 1≤bp) (hfit:(zo + zx*zy).natAbs<2^bto):Calls Tryz.prog 121 #[o,x,y] w (cj w fun v w'=>al w' v (zo + zx*zy) bto):=by
 have hLIM:bp=562949953421312:=rfl;refine aj (N:=21) (rs:= #[.cell 6 49]) Tryz.func121 rfl rfl rfl (Nat.le_of_ble_eq_true rfl) ?_;have hX:aF w w:=aF.refl w;refine ab ?_;obtain ⟨ca1,cb1,hq1,ho1,ho2⟩:=al.cells (al.ext ho hX);have qi1:al w (.agg #[ca1,cb1]) zo bto:=hq1▸(al.ext ho hX);refine RL.x rfl rfl (df.box [ca1,cb1] hq1 rfl) ?_;rintro _ w1 ⟨g1,rfl,hge1,hx1,hA1⟩;replace qi1:=al.ext qi1 hx1;replace hX:=aF.trans hX hx1;obtain ⟨ca2,cb2,hq2,ho3,ho4⟩:=al.cells (al.ext hx hX);have qi2:al w1 (.agg #[ca2,cb2]) zx btx:=hq2▸(al.ext hx hX);refine RL.x rfl rfl (df.box [ca2,cb2] hq2 rfl) ?_;rintro _ w2 ⟨g2,rfl,hge2,hx2,hA2⟩;replace qi1:=al.ext qi1 hx2;replace hA1:=bc.ext hA1 hx2;replace qi2:=al.ext qi2 hx2;replace hX:=aF.trans hX hx2;obtain ⟨ca3,cb3,hq3,ho5,ho6⟩:=al.cells (al.ext hy hX);have qi3:al w2 (.agg #[ca3,cb3]) zy bty:=hq3▸(al.ext hy hX);refine RL.x rfl rfl (df.box [ca3,cb3] hq3 rfl) ?_;rintro _ w3 ⟨g3,rfl,hge3,hx3,hA3⟩;replace qi1:=al.ext qi1 hx3;replace hA1:=bc.ext hA1 hx3;replace qi2:=al.ext qi2 hx3;replace hA2:=bc.ext hA2 hx3;replace qi3:=al.ext qi3 hx3;replace hX:=aF.trans hX hx3;refine RL.x rfl rfl (df.alloc [.bool (false),.slice (none) (0) (0)] bC rfl) ?_;rintro _ w4 ⟨g4,rfl,hge4,hx4,hA4⟩;have hbs4:w.heap.size≤g4:=Nat.le_trans hX.size hge4;replace qi1:=al.ext qi1 hx4;replace hA1:=bc.ext hA1 hx4;replace qi2:=al.ext qi2 hx4;replace hA2:=bc.ext hA2 hx4;replace qi3:=al.ext qi3 hx4;replace hA3:=bc.ext hA3 hx4;replace hX:=aF.trans hX hx4;refine RL.nil ?_;refine WP.seq ?_;refine aI am 8 [_,_,_,fun v BZ=>v= .bool (decide (((zx:Int).sign:Int)=(0:Int))),_,_,_,_] rfl rfl (fun e_ w_ BY BX=>⟨fun _=>aa (ah [ca2,cb2] an ((BX 4 rfl rfl)) ((bc.ext hA2 BY).cells 0 _ rfl rfl)),fun BW=>df.call jY (aN ((BW 0 rfl))) (gE _ _ _ _ ((al.ext qi2 BY))),fun BW=>aa (cK.eql ((BW 1 rfl)) rfl),fun BW=>aa (cK.move ((BW 2 rfl))),fun BW=>gF (BW 3 rfl) fun hg=>aa (ah [ca3,cb3] an ((BX 5 rfl rfl)) ((bc.ext hA3 BY).cells 0 _ rfl rfl)),fun BW=>gF (BW 3 rfl) fun hg=>df.call jY (aN ((BW 4 rfl hg))) (gE _ _ _ _ ((al.ext qi3 BY))),fun BW=>gF (BW 3 rfl) fun hg=>aa (cK.eql ((BW 5 rfl hg)) rfl),fun BW=>aa (bo (p:=((zx:Int).sign:Int)=(0:Int)) (q:=((zy:Int).sign:Int)=(0:Int)) (BW 3 rfl) (fun hq=>(BW 6 rfl hq))),trivial⟩) ?_;intro e1 w5 hx5 ho7 hf1;replace qi1:=al.ext qi1 hx5;replace hA1:=bc.ext hA1 hx5;replace qi2:=al.ext qi2 hx5;replace hA2:=bc.ext hA2 hx5;replace qi3:=al.ext qi3 hx5;replace hA3:=bc.ext hA3 hx5;replace hA4:=bc.ext hA4 hx5;replace hX:=aF.trans hX hx5;have s3_e1:e1 3=_:=ho7 3 rfl rfl;have s4_e1:e1 4=_:=ho7 4 rfl rfl;have s5_e1:e1 5=_:=ho7 5 rfl rfl;have s6_e1:e1 6=_:=ho7 6 rfl rfl;have s14_e1:e1 14=_:=hf1 7 rfl;refine RL.nil ?_;refine af ((((zx:Int).sign:Int)=(0:Int))∨(((zy:Int).sign:Int)=(0:Int))) s14_e1 (fun c14=> ?_) (fun c14=> ?_)
 ·
  refine ab ?_;refine RL.p rfl rfl (ah [ca1,cb1] an s3_e1 (hA1.cells 0 _ rfl rfl)) ?_;refine RL.x rfl rfl (df.store [ca1,cb1] aL s6_e1 rfl rfl hA4 (Nat.le_of_ble_eq_true rfl) (bf ho1 ho2)) ?_;rintro _ w6 ⟨hk1,hnew⟩;replace qi1:=ae qi1 hk1 hA4 (by decide);replace hX:=hX.step hk1 (fun b e=>by subst e;exact hbs4);replace hA4:=hnew.lit [ca1,cb1] rfl;clear hnew;refine RL.nil ?_;refine WP.ret ?_;refine qf.ret ?_;refine ⟨.agg #[ca1,cb1],Bu.one (ak [ca1,cb1] an s6_e1 (hA4.cells 0 _ rfl rfl)),_,rfl,hX,?_⟩;dsimp only;exact al.eq qi1 (vj c14) hfit (by omega)
 ·
  refine WP.skip ?_;refine qf.norm ?_;refine aI am 5 [_,_,_,_,_] rfl rfl (fun e_ w_ BY BX=>⟨fun _=>aa (ah [ca1,cb1] an ((BX 3 rfl s3_e1)) ((bc.ext hA1 BY).cells 0 _ rfl rfl)),fun _=>aa (ah [ca2,cb2] an ((BX 4 rfl s4_e1)) ((bc.ext hA2 BY).cells 0 _ rfl rfl)),fun _=>aa (ah [ca3,cb3] an ((BX 5 rfl s5_e1)) ((bc.ext hA3 BY).cells 0 _ rfl rfl)),fun BW=>df.call qv (aw ((BW 1 rfl)) ((BW 2 rfl))) (rE _ _ _ _ _ _ _ ((btx) + (bty)) ((al.ext qi2 BY)) ((al.ext qi3 BY)) (by omega) (by omega)),fun BW=>df.call nd (aw ((BW 0 rfl)) rfl) (rF _ _ _ _ _ _ _ (max (bto) ((btx) + (bty)) + 1) ((al.ext qi1 BY)) ((BW 3 rfl)) (by omega) (by omega) (by omega)),trivial⟩) ?_;intro e2 w7 hx6 ho8 hf2;replace hA4:=bc.ext hA4 hx6;replace hX:=aF.trans hX hx6;have s6_e2:=ho8 6 rfl s6_e1;have s20_e2:al w7 (e2 20) ((zo:Int) + ((zx:Int)*(zy:Int):Int)) (max (bto) ((btx) + (bty)) + 1):=hf2 4 rfl;obtain ⟨ca4,cb4,hq4,ho9,ho10⟩:=al.cells s20_e2;have qi4:al w7 (.agg #[ca4,cb4]) ((zo:Int) + ((zx:Int)*(zy:Int):Int)) (max (bto) ((btx) + (bty)) + 1):=hq4▸s20_e2;refine RL.x rfl rfl (df.store [ca4,cb4] aL s6_e2 hq4 rfl hA4 (Nat.le_of_ble_eq_true rfl) (bf ho9 ho10)) ?_;rintro _ w8 ⟨hk2,hnew⟩;replace qi4:=ae qi4 hk2 hA4 (by decide);replace hX:=hX.step hk2 (fun b e=>by subst e;exact hbs4);replace hA4:=hnew.lit [ca4,cb4] rfl;clear hnew;refine RL.nil ?_;refine WP.ret ?_;refine ⟨.agg #[ca4,cb4],Bu.one (ak [ca4,cb4] an s6_e2 (hA4.cells 0 _ rfl rfl)),_,rfl,hX,?_⟩;dsimp only;exact al.eq qi4 rfl hfit (by omega)
set_option maxRecDepth 10000 in
theorem zg (w:World) (x:Value) (nx:Nat) (zx:Nat→Int) (btx:Nat) (y:Value) (zy:Nat→Int) (bty:Nat) (o:Value) (zo:Int) (bto:Nat) (fv:Value) (hx:bD w x nx zx btx) (hy:bD w y nx zy bty) (ho:al w o zo bto) (hF:Bz Tryz.prog w fv btx bty bto) (hlo:bto≤bp) (hfit:∀k,k≤nx→(zo + aJ k (fun a=>zx a*zy a)).natAbs<2^bto):Calls Tryz.prog 120 #[x,y,o,fv] w (cj w fun v w'=>al w' v (zo + aJ nx (fun a=>zx a*zy a)) bto):=by
 have hLIM:bp=562949953421312:=rfl;have hlimx:=hx.lim;have hlimy:=hy.lim;refine aj (N:=28) (rs:= #[.cell 8 49]) Tryz.func120 rfl rfl rfl (Nat.le_of_ble_eq_true rfl) ?_;have hX:aF w w:=aF.refl w;refine ab ?_;obtain ⟨ca1,cb1,hq1,ho1,ho2⟩:=al.cells (al.ext ho hX);have qi1:al w (.agg #[ca1,cb1]) zo bto:=hq1▸(al.ext ho hX);refine RL.x rfl rfl (df.box [ca1,cb1] hq1 rfl) ?_;rintro _ w1 ⟨g1,rfl,hge1,hx1,hA1⟩;have hbs1:w.heap.size≤g1:=Nat.le_trans hX.size hge1;replace qi1:=al.ext qi1 hx1;replace hX:=aF.trans hX hx1;refine RL.x rfl rfl (df.alloc [.bool (false),.slice (none) (0) (0)] bC rfl) ?_;rintro _ w2 ⟨g2,rfl,hge2,hx2,hA2⟩;have ne1:g1≠g2:=Nat.ne_of_lt (Nat.lt_of_lt_of_le hA1.lt hge2);have hbs2:w.heap.size≤g2:=Nat.le_trans hX.size hge2;replace qi1:=al.ext qi1 hx2;replace hA1:=bc.ext hA1 hx2;replace hX:=aF.trans hX hx2;refine RL.nil ?_;refine WP.seq ?_;refine ab ?_;refine RL.p rfl rfl (cK.move rfl) ?_;refine RL.p rfl rfl (bW bl rfl (bD.ext hx hX)) ?_;refine RL.p rfl rfl (cK.move rfl) ?_;refine RL.nil ?_;refine WP.block ?_;refine WP.loop (fun mz ez uz=>∃i:Nat,∃ka:Value,∃kb:Value,(mz=nx - i)∧(ez 0=x)∧(ez 1=y)∧(ez 3=fv)∧(ez 6= .pointer (some ⟨g1,0,none⟩))∧(ez 8= .pointer (some ⟨g2,0,none⟩))∧(ez 11= .int .i64 ((nx:Nat)))∧(ez 12= .int .i64 ((i:Nat)))∧(i≤nx)∧(al uz (.agg #[ka,kb]) (zo + aJ i (fun a=>zx a*zy a)) bto)∧(aF w uz)∧(bc uz g1 49 2 (bP [ka,kb]))∧(bc uz g2 49 2 (bP [.bool (false),.slice (none) (0) (0)]))) (nx - 0) ?_ ?_
 · exact ⟨0,ca1,cb1,rfl,rfl,rfl,rfl,rfl,rfl,rfl,rfl,(by omega),(al.eq qi1 (Int.add_zero _).symm (hfit 0 (Nat.zero_le _)) (by omega)),hX,hA1,hA2⟩
 rintro m1 e1 w3 ⟨i,ka,kb,hm1,s0_e1,s1_e1,s3_e1,s6_e1,s8_e1,s11_e1,s12_e1,hi,hIk,hX1,hA1,hA2⟩;refine ab ?_;refine RL.p rfl rfl (cK.lss s12_e1 s11_e1) ?_;refine RL.nil ?_;refine WP.seq ?_;refine af (((i:Nat):Int)<((nx:Nat):Int)) rfl (fun c13=> ?_) (fun c13=> ?_)
 ·
  refine WP.skip ?_;refine qf.norm ?_;refine WP.seq ?_;refine WP.block ?_;refine ab ?_;refine RL.p rfl rfl (cK.move s12_e1) ?_;refine RL.p rfl rfl (cK.assign rfl) ?_;refine RL.nil ?_;refine WP.ds am 11 [_,_,_,_,_,_,_,_,_,_,fun v BZ=>al BZ v ((zo + aJ i (fun a=>zx a*zy a)) + (zx i)*(zy i)) bto] rfl rfl (fun e_ w_ BY BX=>⟨fun _=>aa (cK.move ((BX 3 rfl s3_e1))),fun _=>aa (ah [ka,kb] an ((BX 6 rfl s6_e1)) ((bc.ext hA1 BY).cells 0 _ rfl rfl)),fun _=>aa (cK.move ((BX 0 rfl s0_e1))),fun _=>aa (cK.move ((BX 9 rfl rfl))),fun BW=>ag (aQ (j:=i) bl (BW 2 rfl) (bD.ext (bD.ext hx hX1) BY) (BW 3 rfl) (by omega) (by omega)),fun BW=>ag (aW an rfl (BW 4 rfl)),fun _=>aa (cK.move ((BX 1 rfl s1_e1))),fun _=>aa (cK.move ((BX 9 rfl rfl))),fun BW=>ag (aQ (j:=i) bl (BW 6 rfl) (bD.ext (bD.ext hy hX1) BY) (BW 7 rfl) (by omega) (by omega)),fun BW=>ag (aW an rfl (BW 8 rfl)),fun BW=>pl (BW 0 rfl) (Bz.ext (Bz.ext hF hX1) BY) (BW 1 rfl) rfl rfl (al.ext hIk BY) (BW 5 rfl) (BW 9 rfl) (by rw [Int.add_assoc];exact hfit (i + 1) (by omega)),trivial⟩) ?_;intro e2 w4 hx3 ho3 hf1;replace hA1:=bc.ext hA1 hx3;replace hA2:=bc.ext hA2 hx3;replace hX1:=aF.trans hX1 hx3;have s0_e2:=ho3 0 rfl s0_e1;have s1_e2:=ho3 1 rfl s1_e1;have s3_e2:=ho3 3 rfl s3_e1;have s6_e2:=ho3 6 rfl s6_e1;have s8_e2:=ho3 8 rfl s8_e1;have s11_e2:=ho3 11 rfl s11_e1;have s12_e2:=ho3 12 rfl s12_e1;have s25_e2:al w4 (e2 25) ((zo + aJ i (fun a=>zx a*zy a)) + (zx i)*(zy i)) bto:=hf1 10 rfl;obtain ⟨ca2,cb2,hq2,ho4,ho5⟩:=al.cells s25_e2;have qi2:al w4 (.agg #[ca2,cb2]) ((zo + aJ i (fun a=>zx a*zy a)) + (zx i)*(zy i)) bto:=hq2▸s25_e2;refine RL.x rfl rfl (df.store [ca2,cb2] aL s6_e2 hq2 rfl hA1 (Nat.le_of_ble_eq_true rfl) (bf ho4 ho5)) ?_;rintro _ w5 ⟨hk1,hnew⟩;replace hA2:=hA2.keep hk1 (Ne.symm ne1);replace qi2:=ae qi2 hk1 hA1 (by decide);replace hX1:=hX1.step hk1 (fun b e=>by subst e;exact hbs1);replace hA1:=hnew.lit [ca2,cb2] rfl;clear hnew;refine RL.nil ?_;refine jp.norm ?_;refine qf.norm ?_;refine WP.region ?_;refine RL.p rfl rfl (cK.add (c:=((i + 1:Nat):Int)) s12_e2 rfl (bY (by omega))) ?_;refine RL.p rfl rfl (cK.move rfl) ?_;refine RL.nil ?_;refine qf.norm ⟨_,(by omega),i + 1,ca2,cb2,rfl,s0_e2,s1_e2,s3_e2,s6_e2,s8_e2,s11_e2,rfl,(by omega),(al.eq qi2 (Int.add_assoc _ _ _) (hfit (i + 1) (by omega)) (by omega)),hX1,hA1,hA2⟩
 ·
  refine WP.exit ?_;refine qf.exit ?_;refine qf.exit ?_;refine jp.same ?_;refine qf.norm ?_;refine ab ?_;refine RL.p rfl rfl (ah [ka,kb] an s6_e1 (hA1.cells 0 _ rfl rfl)) ?_;refine RL.x rfl rfl (df.store [ka,kb] aL s8_e1 rfl rfl hA2 (Nat.le_of_ble_eq_true rfl) (bf (tl hIk) (al.oneB hIk))) ?_;rintro _ w6 ⟨hk2,hnew⟩;replace hIk:=ae hIk hk2 hA2 (by decide);replace hX1:=hX1.step hk2 (fun b e=>by subst e;exact hbs2);replace hA2:=hnew.lit [ka,kb] rfl;clear hnew;refine RL.nil ?_;refine WP.ret ?_;refine ⟨.agg #[ka,kb],Bu.one (ak [ka,kb] an s8_e1 (hA2.cells 0 _ rfl rfl)),_,rfl,hX1,?_⟩;dsimp only;have hin:i=nx:=by omega
  subst hin;exact hIk
set_option maxRecDepth 10000 in
theorem A5 (w:World) (x:Value) (nx:Nat) (zx:Nat→Int) (btx:Nat) (y:Value) (zy:Nat→Int) (bty:Nat) (b:Nat) (hx:bD w x nx zx btx) (hy:bD w y nx zy bty) (hb:btx + bty + 1≤bp) (hb2:b + 1≤bp) (hfit:∀k,k≤nx→(aJ k (fun a=>zx a*zy a)).natAbs<2^b):Calls Tryz.prog 99 #[x,y] w (cj w fun v w'=>al w' v (aJ nx (fun a=>zx a*zy a)) b):=by
 have hLIM:bp=562949953421312:=rfl;have hlimx:=hx.lim;have hlimy:=hy.lim;refine aj (N:=9) (rs:= #[.cell 4 49]) Tryz.func99 rfl rfl rfl (Nat.le_of_ble_eq_true rfl) ?_;have hX:aF w w:=aF.refl w;refine ab ?_;refine RL.x rfl rfl (df.alloc [.bool (false),.slice (none) (0) (0)] bC rfl) ?_;rintro _ w1 ⟨g1,rfl,hge1,hx1,hA1⟩;have hbs1:w.heap.size≤g1:=Nat.le_trans hX.size hge1;replace hX:=aF.trans hX hx1;refine RL.nil ?_;refine ab ?_;refine RL.p rfl rfl (cK.move rfl) ?_;refine RL.p rfl rfl (cK.move rfl) ?_;refine RL.p rfl rfl (cK.build (vs:= []) [(0,1),(1,1)] jW bC (jE) rfl) ?_;refine RL.x rfl rfl (df.call yC (rH rfl rfl rfl rfl) (zg _ _ _ _ _ _ _ _ _ 0 b _ (bD.ext hx hX) (bD.ext hy hX) (al.up (al.zero _) (Nat.zero_le _) (by omega)) ⟨121,#[],#[],rfl,yB,fun w1 hw1 o x y zo zx zy h1 h2 h3 hb=>zh _ _ _ _ _ _ _ _ _ _ h1 h2 h3 (by omega) (by omega) hb⟩ (by omega) (fun k hk=>by rw [Int.zero_add];exact hfit k hk))) ?_;rintro v1 w2 ⟨hx2,q1⟩;replace hA1:=bc.ext hA1 hx2;replace hX:=aF.trans hX hx2;obtain ⟨ca1,cb1,hq1,ho1,ho2⟩:=al.cells q1;have qi1:al w2 (.agg #[ca1,cb1]) (0 + aJ nx (fun a=>zx a*zy a)) b:=hq1▸q1;refine RL.x rfl rfl (df.store [ca1,cb1] aL rfl hq1 rfl hA1 (Nat.le_of_ble_eq_true rfl) (bf ho1 ho2)) ?_;rintro _ w3 ⟨hk1,hnew⟩;replace qi1:=ae qi1 hk1 hA1 (by decide);replace hX:=hX.step hk1 (fun b e=>by subst e;exact hbs1);replace hA1:=hnew.lit [ca1,cb1] rfl;clear hnew;refine RL.nil ?_;refine WP.ret ?_;refine ⟨.agg #[ca1,cb1],Bu.one (ak [ca1,cb1] an rfl (hA1.cells 0 _ rfl rfl)),_,rfl,hX,?_⟩;dsimp only;exact al.eq qi1 (Int.zero_add _) (hfit nx (Nat.le_refl _)) (by omega)
set_option maxRecDepth 10000 in
theorem zj (w:World) (i:Nat) (j:Nat) (gx:Nat) (sx:Value) (rx cx:Nat) (Mx:Nat→Nat→Int) (btx:Nat) (gy:Nat) (sy:Value) (ry:Nat) (My:Nat→Nat→Int) (bty:Nat) (b:Nat) (hAx:bc w gx 28 3 (bP [.int .i64 (rx:Nat),.int .i64 (cx:Nat),sx])) (hSx:cA w sx rx cx Mx btx) (hrx:rx≤65536) (hcx:cx≤65536) (hAy:bc w gy 28 3 (bP [.int .i64 (ry:Nat),.int .i64 (cx:Nat),sy])) (hSy:cA w sy ry cx My bty) (hry:ry≤65536) (hcy:cx≤65536) (hi:i<rx) (hj:j<ry) (hb:btx + bty + 1≤bp) (hb2:b + 1≤bp) (hfit:∀k,k≤cx→(aJ k (fun a=>Mx i a*My j a)).natAbs<2^b):Calls Tryz.prog 98 #[.int .i64 (i:Nat),.int .i64 (j:Nat),.pointer (some ⟨gx,0,none⟩),.pointer (some ⟨gy,0,none⟩)] w (cj w fun v w'=>al w' v (aJ cx (fun a=>Mx i a*My j a)) b):=by
 have hLIM:bp=562949953421312:=rfl;refine aj (N:=18) (rs:= #[.cell 6 49]) Tryz.func98 rfl rfl rfl (Nat.le_of_ble_eq_true rfl) ?_;have hX:aF w w:=aF.refl w;refine ab ?_;refine RL.x rfl rfl (df.alloc [.bool (false),.slice (none) (0) (0)] bC rfl) ?_;rintro _ w1 ⟨g1,rfl,hge1,hx1,hA1⟩;have hbs1:w.heap.size≤g1:=Nat.le_trans hX.size hge1;replace hX:=aF.trans hX hx1;refine RL.nil ?_;refine aI am 11 [_,_,_,_,_,_,_,_,_,_,_] rfl rfl (fun e_ w_ BY BX=>⟨fun _=>aa (cK.fieldAddr aq ((BX 2 rfl rfl))),fun BW=>aa (cK.load aG ((BW 0 rfl)) ((bc.ext (bc.ext hAx hX) BY).at_ (i:=2) rfl rfl)),fun _=>aa (cK.move ((BX 0 rfl rfl))),fun BW=>ag (aP (j:=i) az (BW 1 rfl) (cA.ext (cA.ext hSx hX) BY) (BW 2 rfl) (by omega) (by omega)),fun BW=>ag (aV aR rfl (BW 3 rfl)),fun _=>aa (cK.fieldAddr aq ((BX 3 rfl rfl))),fun BW=>aa (cK.load aG ((BW 5 rfl)) ((bc.ext (bc.ext hAy hX) BY).at_ (i:=2) rfl rfl)),fun _=>aa (cK.move ((BX 1 rfl rfl))),fun BW=>ag (aP (j:=j) az (BW 6 rfl) (cA.ext (cA.ext hSy hX) BY) (BW 7 rfl) (by omega) (by omega)),fun BW=>ag (aV aR rfl (BW 8 rfl)),fun BW=>df.call Ac (aw rfl rfl) (A5 _ _ _ _ _ _ _ _ b (BW 4 rfl) (BW 9 rfl) (by omega) (by omega) (fun k hk=>hfit k hk)),trivial⟩) ?_;intro e1 w2 hx2 ho1 hf1;replace hA1:=bc.ext hA1 hx2;replace hX:=aF.trans hX hx2;have s6_e1:e1 6=_:=ho1 6 rfl rfl;have s17_e1:al w2 (e1 17) (aJ cx (fun a=>(Mx i) a*(My j) a)) b:=hf1 10 rfl;obtain ⟨ca1,cb1,hq1,ho2,ho3⟩:=al.cells s17_e1;have qi1:al w2 (.agg #[ca1,cb1]) (aJ cx (fun a=>(Mx i) a*(My j) a)) b:=hq1▸s17_e1;refine RL.x rfl rfl (df.store [ca1,cb1] aL s6_e1 hq1 rfl hA1 (Nat.le_of_ble_eq_true rfl) (bf ho2 ho3)) ?_;rintro _ w3 ⟨hk1,hnew⟩;replace qi1:=ae qi1 hk1 hA1 (by decide);replace hX:=hX.step hk1 (fun b e=>by subst e;exact hbs1);replace hA1:=hnew.lit [ca1,cb1] rfl;clear hnew;refine RL.nil ?_;refine WP.ret ?_;refine ⟨.agg #[ca1,cb1],Bu.one (ak [ca1,cb1] an s6_e1 (hA1.cells 0 _ rfl rfl)),_,rfl,hX,?_⟩;dsimp only;exact qi1
set_option maxRecDepth 10000 in
theorem A6 (w:World) (x:Value) (rx cx:Nat) (Mx:Nat→Nat→Int) (btx:Nat) (y:Value) (ry cy:Nat) (My:Nat→Nat→Int) (bty:Nat) (b:Nat) (hx:cc w x rx cx Mx btx) (hy:cc w y ry cy My bty) (hxy:cx=ry) (hb:btx + bty + 1≤bp) (hb2:b + 1≤bp) (hfit:∀i j k,i<rx→j<cy→k≤cx→(aJ k (fun x=>Mx i x*My x j)).natAbs<2^b):Calls Tryz.prog 61 #[x,y] w (cj w fun v w'=>∃v1,v= .tuple #[v1,.int .i64 0]∧cJ w' v1 w.heap.size rx cy (bt cx Mx My) b):=by
 have hLIM:bp=562949953421312:=rfl;have hmatx:=hx;obtain ⟨sx,rfl,hrx,hcx,hSx⟩:=hx.form;have hmaty:=hy;obtain ⟨sy,rfl,hry,hcy,hSy⟩:=hy.form;refine aj (N:=21) (rs:= #[.cell 4 28,.tmp 5]) Tryz.func61 rfl rfl rfl (Nat.le_of_ble_eq_true rfl) ?_;have hX:aF w w:=aF.refl w;refine ab ?_;refine RL.x rfl rfl (df.box [.int .i64 ((rx:Nat)),.int .i64 ((cx:Nat)),sx] rfl rfl) ?_;rintro _ w1 ⟨g1,rfl,hge1,hx1,hA1⟩;replace hX:=aF.trans hX hx1;refine RL.x rfl rfl (df.box [.int .i64 ((ry:Nat)),.int .i64 ((cy:Nat)),sy] rfl rfl) ?_;rintro _ w2 ⟨g2,rfl,hge2,hx2,hA2⟩;replace hA1:=bc.ext hA1 hx2;replace hX:=aF.trans hX hx2;refine RL.x rfl rfl (df.alloc [.int .i64 (0),.int .i64 (0),.slice (none) (0) (0)] co rfl) ?_;rintro _ w3 ⟨g3,rfl,hge3,hx3,hA3⟩;have hbs3:w.heap.size≤g3:=Nat.le_trans hX.size hge3;replace hA1:=bc.ext hA1 hx3;replace hA2:=bc.ext hA2 hx3;replace hX:=aF.trans hX hx3;refine RL.p rfl rfl (cK.assign rfl) ?_;refine RL.nil ?_;refine WP.seq ?_;refine ab ?_;refine RL.p rfl rfl (cK.fieldAddr bG rfl) ?_;refine RL.p rfl rfl (cK.load bI rfl (hA1.at_ (i:=1) rfl rfl)) ?_;refine RL.p rfl rfl (cK.fieldAddr bk rfl) ?_;refine RL.p rfl rfl (cK.load bI rfl (hA2.at_ (i:=0) rfl rfl)) ?_;refine RL.p rfl rfl (cK.neq rfl rfl) ?_;refine RL.nil ?_;refine af (((cx:Nat):Int)≠((ry:Nat):Int)) rfl (fun hn=>absurd hn ((by omega))) (fun c11=> ?_);refine WP.skip ?_;refine qf.norm ?_;refine ab ?_;refine RL.p rfl rfl (ah [.int .i64 ((ry:Nat)),.int .i64 ((cy:Nat)),sy] aZ rfl (hA2.cells 0 _ rfl rfl)) ?_;refine RL.x rfl rfl (df.call Ae (aN rfl) (no _ _ _ _ _ _ (cc.mk (cA.ext hSy hX) (by omega) (by omega)))) ?_;rintro v1 w4 ⟨hx4,q1⟩;replace hA1:=bc.ext hA1 hx4;replace hA2:=bc.ext hA2 hx4;replace hA3:=bc.ext hA3 hx4;replace hX:=aF.trans hX hx4;refine RL.x rfl rfl (df.alloc [.int .i64 (0),.int .i64 (0),.slice (none) (0) (0)] co rfl) ?_;rintro _ w5 ⟨g4,rfl,hge4,hx5,hA4⟩;have ne4:g1≠g4:=Nat.ne_of_lt (Nat.lt_of_lt_of_le hA1.lt hge4);have ne5:g2≠g4:=Nat.ne_of_lt (Nat.lt_of_lt_of_le hA2.lt hge4);have ne6:g3≠g4:=Nat.ne_of_lt (Nat.lt_of_lt_of_le hA3.lt hge4);have hbs4:w.heap.size≤g4:=Nat.le_trans hX.size hge4;replace hA1:=bc.ext hA1 hx5;replace hA2:=bc.ext hA2 hx5;replace hA3:=bc.ext hA3 hx5;replace q1:=cc.ext q1 hx5;replace hX:=aF.trans hX hx5;obtain ⟨sv1,hq1,hr1,hc1,hS1⟩:=q1.form;refine RL.x rfl rfl (df.store [.int .i64 ((cy:Nat)),.int .i64 ((ry:Nat)),sv1] cX rfl hq1 rfl hA4 (Nat.le_of_ble_eq_true rfl) (cY rfl rfl hS1.one)) ?_;rintro _ w6 ⟨hk1,hnew⟩;replace hA1:=hA1.keep hk1 ne4;replace hA2:=hA2.keep hk1 ne5;replace hA3:=hA3.keep hk1 ne6;replace hS1:=bM hS1 hk1 hA4 (by decide);replace hX:=hX.step hk1 (fun b e=>by subst e;exact hbs4);replace hA4:=hnew.lit [.int .i64 ((cy:Nat)),.int .i64 ((ry:Nat)),sv1] rfl;clear hnew;refine RL.nil ?_;refine ab ?_;refine RL.p rfl rfl (cK.fieldAddr bk rfl) ?_;refine RL.p rfl rfl (cK.load bI rfl (hA1.at_ (i:=0) rfl rfl)) ?_;refine RL.p rfl rfl (cK.fieldAddr bG rfl) ?_;refine RL.p rfl rfl (cK.load bI rfl (hA2.at_ (i:=1) rfl rfl)) ?_;refine RL.p rfl rfl (cK.makeFunc (mQ) (aw rfl rfl)) ?_;have hBw1:w.heap.size≤w6.heap.size:=hX.size;refine RL.x rfl rfl (df.call qw (cO rfl rfl rfl) (kF _ rx cy _ (bt cx Mx My) b (by omega) (by omega) ⟨98,#[],#[.pointer (some ⟨g1,0,none⟩),.pointer (some ⟨g4,0,none⟩)],rfl,Ad,fun w1 hw1 i j hi hj=>by subst hxy;exact zj _ i j _ _ _ _ _ _ _ _ _ (fun i j=>My j i) _ b (bc.ext hA1 hw1) (cA.ext (cA.ext hSx hX) hw1) (by omega) (by omega) (bc.ext hA4 hw1) (cA.ext hS1 hw1) (by omega) (by omega) (by omega) (by omega) (by omega) (by omega) (fun k hk=>hfit i j k (by omega) (by omega) hk)⟩ (by omega))) ?_;rintro v2 w7 ⟨hx6,q2⟩;replace hA3:=bc.ext hA3 hx6;replace hX:=aF.trans hX hx6;obtain ⟨gh1,kh1,ρ1,hq2,hM1⟩:=q2;have hd1:=cM.dlim hM1;have hd2:=cM.clim hM1;refine RL.x rfl rfl (df.store [.int .i64 ((rx:Nat)),.int .i64 ((cy:Nat)),.slice (some ⟨gh1,0,none⟩) (rx) (kh1)] cX rfl hq2 rfl hA3 (Nat.le_of_ble_eq_true rfl) (cY rfl rfl rfl)) ?_;rintro _ w8 ⟨hk2,hnew⟩;replace hM1:=br hM1 hk2 hA3 (by decide);replace hX:=hX.step hk2 (fun b e=>by subst e;exact hbs3);replace hA3:=hnew.lit [.int .i64 ((rx:Nat)),.int .i64 ((cy:Nat)),.slice (some ⟨gh1,0,none⟩) (rx) (kh1)] rfl;clear hnew;refine RL.p rfl rfl (cK.assign rfl) ?_;refine RL.nil ?_;refine WP.ret ?_;refine ⟨.tuple #[.agg #[.int .i64 ((rx:Nat)),.int .i64 ((cy:Nat)),.slice (some ⟨gh1,0,none⟩) (rx) (kh1)],.int .i64 (0)],dq (ak [.int .i64 ((rx:Nat)),.int .i64 ((cy:Nat)),.slice (some ⟨gh1,0,none⟩) (rx) (kh1)] aZ rfl (hA3.cells 0 _ rfl rfl)) (fZ.tmp rfl),_,rfl,hX,?_⟩;dsimp only;exact ⟨_,rfl,⟨_,_,_,rfl,cM.low hM1 (hBw1)⟩⟩
end Go.TL
namespace Go.TL
open Go.RowKit Go.Proofs
set_option linter.unusedVariables false
theorem oS (w:World) (x:Value) (r c:Nat) (M:Nat→Nat→Int) (b:Nat) (hx:cc w x r c M b):Calls Tryz.prog 59 #[x] w (cj w fun v _=>v= .bool (decide True)):=by
  obtain ⟨s,rfl,hr,hc,hS⟩:=hx.form;refine (qX w s r c r c M b hr.1 hc hS).mono ?_;rintro e w' ⟨v,rfl,hx',h⟩;exact ⟨v,rfl,hx',h.trans (congrArg _ (decide_eq_decide.2 (iff_of_true nX.same trivial)))⟩
def fA (v:Nat→Int) (C:Nat) (u:Nat→Int):Prop:=u C<0∨v C≤u C
instance (v:Nat→Int) (C:Nat):DecidablePred (fA v C):=fun u=>inferInstanceAs (Decidable (u C<0∨v C≤u C))
theorem rW {v u:Nat→Int} {C:Nat}:((u C).sign<0∨0≤cm (u C) (v C))↔fA v C u:=by
  unfold fA;rw [fV,dk]
theorem zn {M:Nat→Nat→Int} {c i:Nat} (hpa:(piv (M i) c).toNat<c∧((piv (M i) c).toNat:Int)=piv (M i) c∧M i (piv (M i) c).toNat≠0∧∀j,j<(piv (M i) c).toNat→M i j=0)
    (h1:¬(piv (M i) c≤lastP M c i∨(M i (piv (M i) c).toNat).sign<0)) (h2:¬0≤iS (fA (M i) (piv (M i) c).toNat) M i):jo M c i:=by
  have h3:=mt (dk (M i (piv (M i) c).toNat)).2 (fun h=>h1 (.inr h));refine .inr ⟨by have:=fun h=>h1 (.inl h);omega,by have:=hpa.2.2.1;omega,fun k hk=> ?_⟩;have h4:=we h2 hk
  unfold fA at h4
  exact ⟨by have:=fun h=>h4 (.inl h);omega,by have:=fun h=>h4 (.inr h);omega⟩
theorem wB {M:Nat→Nat→Int} {c i:Nat} (h:jo M c i) (h0:¬piv (M i) c<0) (h1:piv (M i) c≤lastP M c i∨(M i (piv (M i) c).toNat).sign<0):False:=by
  rcases h with h | ⟨h2,h3,_⟩
  · exact h0 h
  · rcases h1 with h1 | h1
    · omega
    · have:=(dk _).1 h1;omega
theorem wA {M:Nat→Nat→Int} {c i:Nat} (h:jo M c i) (h0:¬piv (M i) c<0) (h1:0≤iS (fA (M i) (piv (M i) c).toNat) M i):False:=by
  rcases h with h | ⟨_,_,h3⟩
  · exact h0 h
  · obtain ⟨k,hk,hw⟩:=tZ h1
    obtain ⟨g1,g2⟩:=h3 k hk
    unfold fA at hw
    omega
theorem si {r c n:Nat}:(((True∧((r:Nat):Int)=((n:Nat):Int))∧((c:Nat):Int)=((n:Nat):Int)))↔(r=n∧c=n):=by
  constructor
  · rintro ⟨⟨_,h1⟩,h2⟩;omega
  · rintro ⟨h1,h2⟩;exact ⟨⟨trivial,by omega⟩,by omega⟩
end Go.TL
namespace Go.TL
open Go.RowKit Go.Proofs
set_option linter.unusedVariables false
set_option linter.unusedSimpArgs false
set_option maxRecDepth 10000 in
theorem tU (w:World) (x:Value) (nx cx:Nat) (Mx:Nat→Nat→Int) (btx:Nat) (fv:Value) (p:(Nat→Int)→Prop) [DecidablePred p] (hx:cA w x nx cx Mx btx) (hF:vO Tryz.prog w fv cx btx p):Calls Tryz.prog 108 #[x,fv] w (cj w fun v w'=>v= .int .i64 (iS p Mx nx)):=by
 have hLIM:bp=562949953421312:=rfl;have hlimx:=hx.lim;refine aj (N:=19) (rs:= #[.tmp 4]) Tryz.func108 rfl rfl rfl (Nat.le_of_ble_eq_true rfl) ?_;have hX:aF w w:=aF.refl w;refine ab ?_;refine RL.p rfl rfl (cK.assign rfl) ?_;refine RL.nil ?_;refine WP.seq ?_;refine ab ?_;refine RL.p rfl rfl (cK.move rfl) ?_;refine RL.p rfl rfl (cC az rfl (cA.ext hx hX)) ?_;refine RL.p rfl rfl (cK.move rfl) ?_;refine RL.nil ?_;refine WP.block ?_;refine WP.loop (fun mz ez uz=>∃i:Nat,(mz=nx - i)∧(ez 0=x)∧(ez 1=fv)∧(ez 7= .int .i64 ((nx:Nat)))∧(ez 8= .int .i64 ((i:Nat)))∧(i≤nx)∧(iS p Mx i= -1)∧(aF w uz)) (nx - 0) ?_ ?_
 · exact ⟨0,rfl,rfl,rfl,rfl,rfl,(by omega),rfl,hX⟩
 rintro m1 e1 w1 ⟨i,hm1,s0_e1,s1_e1,s7_e1,s8_e1,hi,hnone,hX1⟩;refine ab ?_;refine RL.p rfl rfl (cK.lss s8_e1 s7_e1) ?_;refine RL.nil ?_;refine WP.seq ?_;refine af (((i:Nat):Int)<((nx:Nat):Int)) rfl (fun c9=> ?_) (fun c9=> ?_)
 ·
  refine WP.skip ?_;refine qf.norm ?_;refine WP.seq ?_;refine WP.block ?_;refine ab ?_;refine RL.p rfl rfl (cK.move s8_e1) ?_;refine RL.p rfl rfl (cK.assign rfl) ?_;refine RL.nil ?_;refine ab ?_;refine RL.p rfl rfl (cK.move s1_e1) ?_;refine RL.p rfl rfl (cK.move s0_e1) ?_;refine RL.p rfl rfl (cK.move rfl) ?_;refine RL.x rfl rfl (aP (j:=i) az rfl (cA.ext hx hX1) rfl (by omega) (by omega)) ?_;rintro v1 _ ⟨rfl,q1⟩;refine RL.x rfl rfl (aV aR rfl q1) ?_;rintro v2 _ ⟨rfl,q2⟩;refine RL.x rfl rfl (nQ rfl (vO.ext hF hX1) rfl q2) ?_;rintro _ w2 ⟨hx1,rfl⟩;replace hX1:=aF.trans hX1 hx1;refine RL.nil ?_;refine af (p (Mx i)) rfl (fun c16=> ?_) (fun c16=> ?_)
  ·
   refine ab ?_;refine RL.p rfl rfl (cK.move rfl) ?_;refine RL.p rfl rfl (cK.assign rfl) ?_;refine RL.nil ?_;refine WP.ret ?_;refine jp.ret ?_;refine qf.ret ?_;refine qf.ret ?_;refine jp.ret ?_;refine qf.ret ?_;refine ⟨.int .i64 ((i:Nat)),Bu.one (fZ.tmp rfl),_,rfl,hX1,?_⟩;dsimp only;rw [pA hnone c16 (by omega)]
  ·
   refine WP.skip ?_;refine jp.norm ?_;refine qf.norm ?_;refine WP.region ?_;refine RL.p rfl rfl (cK.add (c:=((i + 1:Nat):Int)) s8_e1 rfl (bY (by omega))) ?_;refine RL.p rfl rfl (cK.move rfl) ?_;refine RL.nil ?_;refine qf.norm ⟨_,(by omega),i + 1,rfl,s0_e1,s1_e1,s7_e1,rfl,(by omega),(sj hnone c16),hX1⟩
 ·
  refine WP.exit ?_;refine qf.exit ?_;refine qf.exit ?_;refine jp.same ?_;refine qf.norm ?_;refine ab ?_;refine RL.p rfl rfl (cK.assign rfl) ?_;refine RL.nil ?_;refine WP.ret ?_;refine ⟨.int .i64 (-1),Bu.one (fZ.tmp rfl),_,rfl,hX1,?_⟩;dsimp only;rw [show nx=i by omega,hnone]
set_option maxRecDepth 10000 in
theorem ou (w:World) (x:Value) (nx cx:Nat) (Mx:Nat→Nat→Int) (btx:Nat) (fv:Value) (p:(Nat→Int)→Prop) [DecidablePred p] (hx:cA w x nx cx Mx btx) (hF:vO Tryz.prog w fv cx btx p):Calls Tryz.prog 77 #[x,fv] w (cj w fun v w'=>v= .bool (decide (0≤iS p Mx nx))):=by
 have hLIM:bp=562949953421312:=rfl;have hlimx:=hx.lim;refine aj (N:=9) (rs:= #[.tmp 4]) Tryz.func77 rfl rfl rfl (Nat.le_of_ble_eq_true rfl) ?_;have hX:aF w w:=aF.refl w;refine ab ?_;refine RL.p rfl rfl (cK.assign rfl) ?_;refine RL.nil ?_;refine ab ?_;refine RL.p rfl rfl (cK.move rfl) ?_;refine RL.p rfl rfl (cK.move rfl) ?_;refine RL.x rfl rfl (df.call yJ (aw rfl rfl) (tU _ _ _ _ _ _ _ p (cA.ext hx hX) (vO.ext hF hX))) ?_;rintro _ w1 ⟨hx1,rfl⟩;replace hX:=aF.trans hX hx1;refine RL.p rfl rfl (cK.geq rfl rfl) ?_;refine RL.p rfl rfl (cK.assign rfl) ?_;refine RL.nil ?_;refine WP.ret ?_;refine ⟨.bool (decide ((0:Int)≤(iS p Mx nx:Int))),Bu.one (fZ.tmp rfl),_,rfl,hX,?_⟩
 rfl
set_option maxRecDepth 10000 in
theorem A9 (w:World) (u:Value) (nu:Nat) (zu:Nat→Int) (btu:Nat) (gc C:Nat) (gv:Nat) (v:Value) (nv:Nat) (zv:Nat→Int) (btv:Nat) (hu:bD w u nu zu btu) (hAc:bc w gc 3 1 (bP [.int .i64 (C:Nat)])) (hAv:bc w gv 41 1 (bP [v])) (hv:bD w v nv zv btv) (hCu:C<nu) (hCv:C<nv):Calls Tryz.prog 75 #[u,.pointer (some ⟨gc,0,none⟩),.pointer (some ⟨gv,0,none⟩)] w (cj w fun v w'=>v= .bool (decide (fA zv C zu))):=by
 have hLIM:bp=562949953421312:=rfl;have hlimu:=hu.lim;refine aj (N:=23) (rs:= #[.tmp 4]) Tryz.func75 rfl rfl rfl (Nat.le_of_ble_eq_true rfl) ?_;have hX:aF w w:=aF.refl w;refine ab ?_;refine RL.p rfl rfl (cK.assign rfl) ?_;refine RL.nil ?_;refine aI am 18 [_,_,_,_,_,_,fun v BZ=>v= .bool (decide (((zu C:Int).sign:Int)<(0:Int))),_,_,_,_,_,_,_,_,_,_,_] rfl rfl (fun e_ w_ BY BX=>⟨fun _=>aa (cK.move ((BX 0 rfl rfl))),fun _=>aa (cK.load bI ((BX 1 rfl rfl)) ((bc.ext (bc.ext hAc hX) BY).at_ (i:=0) rfl rfl)),fun BW=>ag (aQ (j:=C) bl (BW 0 rfl) (bD.ext (bD.ext hu hX) BY) (BW 1 rfl) (by omega) (by omega)),fun BW=>ag (aW an rfl (BW 2 rfl)),fun BW=>df.call jY (aN rfl) (gE _ _ _ _ ((BW 3 rfl))),fun BW=>aa (cK.lss ((BW 4 rfl)) rfl),fun BW=>aa (cK.move ((BW 5 rfl))),fun BW=>gF (BW 6 rfl) fun hg=>aa (cK.move ((BX 0 rfl rfl))),fun BW=>gF (BW 6 rfl) fun hg=>aa (cK.load bI ((BX 1 rfl rfl)) ((bc.ext (bc.ext hAc hX) BY).at_ (i:=0) rfl rfl)),fun BW=>gF (BW 6 rfl) fun hg=>ag (aQ (j:=C) bl (BW 7 rfl hg) (bD.ext (bD.ext hu hX) BY) (BW 8 rfl hg) (by omega) (by omega)),fun BW=>gF (BW 6 rfl) fun hg=>ag (aW an rfl (BW 9 rfl hg)),fun BW=>gF (BW 6 rfl) fun hg=>aa (cK.load aR ((BX 2 rfl rfl)) ((bc.ext (bc.ext hAv hX) BY).at_ (i:=0) rfl rfl)),fun BW=>gF (BW 6 rfl) fun hg=>aa (cK.load bI ((BX 1 rfl rfl)) ((bc.ext (bc.ext hAc hX) BY).at_ (i:=0) rfl rfl)),fun BW=>gF (BW 6 rfl) fun hg=>ag (aQ (j:=C) bl (BW 11 rfl hg) (bD.ext (bD.ext hv hX) BY) (BW 12 rfl hg) (by omega) (by omega)),fun BW=>gF (BW 6 rfl) fun hg=>ag (aW an rfl (BW 13 rfl hg)),fun BW=>gF (BW 6 rfl) fun hg=>df.call tv (aw rfl rfl) (vx _ _ _ _ _ _ _ ((BW 10 rfl hg)) ((BW 14 rfl hg))),fun BW=>gF (BW 6 rfl) fun hg=>aa (cK.geq ((BW 15 rfl hg)) rfl),fun BW=>aa (bo (p:=((zu C:Int).sign:Int)<(0:Int)) (q:=(0:Int)≤(cm (zu C) (zv C):Int)) (BW 6 rfl) (fun hq=>(BW 16 rfl hq))),trivial⟩) ?_;intro e1 w1 hx1 ho1 hf1;replace hX:=aF.trans hX hx1;have s22_e1:e1 22=_:=hf1 17 rfl;refine RL.p rfl rfl (cK.assign s22_e1) ?_;refine RL.nil ?_;refine WP.ret ?_;refine ⟨.bool (decide ((((zu C:Int).sign:Int)<(0:Int))∨((0:Int)≤(cm (zu C) (zv C):Int)))),Bu.one (fZ.tmp rfl),_,rfl,hX,?_⟩;dsimp only;exact congrArg _ (decide_eq_decide.2 rW)
set_option maxRecDepth 10000 in
set_option maxHeartbeats 800000 in
theorem Ba (w:World) (sx:Value) (Rx Cx nx cx:Nat) (Mx:Nat→Nat→Int) (btx:Nat) (hRx:Rx≤65536) (hCx:Cx≤65536) (hSx:cA w sx nx cx Mx btx):Calls Tryz.prog 29 #[.agg #[.int .i64 (Rx:Nat),.int .i64 (Cx:Nat),sx]] w (cj w fun v w'=>v= .bool (decide (nX Rx Cx nx cx∧cQ Rx Cx Mx))):=by
 have hLIM:bp=562949953421312:=rfl;have hlimx:=hSx.lim;refine aj (N:=45) (rs:= #[.tmp 2]) Tryz.func29 rfl rfl rfl (Nat.le_of_ble_eq_true rfl) ?_;have hX:aF w w:=aF.refl w;refine ab ?_;refine RL.x rfl rfl (df.box [.int .i64 ((Rx:Nat)),.int .i64 ((Cx:Nat)),sx] rfl rfl) ?_;rintro _ w1 ⟨g1,rfl,hge1,hx1,hA1⟩;replace hX:=aF.trans hX hx1;refine RL.p rfl rfl (cK.assign rfl) ?_;refine RL.nil ?_;refine WP.seq ?_;refine ab ?_;refine RL.p rfl rfl (ah [.int .i64 ((Rx:Nat)),.int .i64 ((Cx:Nat)),sx] aZ rfl (hA1.cells 0 _ rfl rfl)) ?_;refine RL.x rfl rfl (df.call tw (aN rfl) (qX _ _ Rx Cx _ _ _ _ (by omega) (by omega) (cA.ext hSx hX))) ?_;rintro _ w2 ⟨hx2,rfl⟩;replace hA1:=bc.ext hA1 hx2;replace hX:=aF.trans hX hx2;refine RL.p rfl rfl (cK.not (p:=nX Rx Cx nx cx) rfl) ?_;refine RL.nil ?_;refine af (¬(nX Rx Cx nx cx)) rfl (fun c10=> ?_) (fun c10=> ?_)
 ·
  refine ab ?_;refine RL.p rfl rfl (cK.assign rfl) ?_;refine RL.nil ?_;refine WP.ret ?_;refine qf.ret ?_;refine ⟨.bool (false),Bu.one (fZ.tmp rfl),_,rfl,hX,?_⟩;dsimp only;exact congrArg _ (decide_eq_false fun h=>c10 h.1).symm
 ·
  refine WP.skip ?_;refine qf.norm ?_;have hgk:nX Rx Cx nx cx:=Decidable.of_not_not c10;replace hSx:=qo hSx hgk.2;refine ab ?_;refine RL.p rfl rfl (cK.assign rfl) ?_;refine RL.nil ?_;refine WP.seq ?_;refine ab ?_;refine RL.p rfl rfl (cK.fieldAddr aq rfl) ?_;refine RL.p rfl rfl (cK.load aG rfl (hA1.at_ (i:=2) rfl rfl)) ?_;refine RL.p rfl rfl (cC az rfl (cA.ext hSx hX)) ?_;refine RL.p rfl rfl (cK.move rfl) ?_;refine RL.nil ?_;refine WP.block ?_;refine WP.loop (fun mz ez uz=>∃i:Nat,(mz=nx - i)∧(ez 1= .pointer (some ⟨g1,0,none⟩))∧(ez 3= .int .i64 (lastP Mx Cx i))∧(ez 12=sx)∧(ez 13= .int .i64 ((nx:Nat)))∧(ez 14= .int .i64 ((i:Nat)))∧(i≤nx)∧(∀a,a<i→jo Mx Cx a)∧(aF w uz)∧(bc uz g1 28 3 (bP [.int .i64 ((Rx:Nat)),.int .i64 ((Cx:Nat)),sx]))) (nx - 0) ?_ ?_
  · exact ⟨0,rfl,rfl,rfl,rfl,rfl,rfl,(by omega),(fun a ha=>absurd ha (by omega)),hX,hA1⟩
  rintro m1 e1 w3 ⟨i,hm1,s1_e1,s3_e1,s12_e1,s13_e1,s14_e1,hi,hok,hX1,hA1⟩;refine ab ?_;refine RL.p rfl rfl (cK.lss s14_e1 s13_e1) ?_;refine RL.nil ?_;refine WP.seq ?_;refine af (((i:Nat):Int)<((nx:Nat):Int)) rfl (fun c15=> ?_) (fun c15=> ?_)
  ·
   refine WP.skip ?_;refine qf.norm ?_;refine WP.seq ?_;refine WP.block ?_;refine ab ?_;refine RL.p rfl rfl (cK.move s14_e1) ?_;refine RL.x rfl rfl (aP (j:=i) az s12_e1 (cA.ext hSx hX1) s14_e1 (by omega) (by omega)) ?_;rintro v1 _ ⟨rfl,q1⟩;refine RL.x rfl rfl (aV aR rfl q1) ?_;rintro v2 _ ⟨rfl,q2⟩;refine RL.x rfl rfl (df.alloc [.slice (none) (0) (0)] oc rfl) ?_;rintro _ w4 ⟨g2,rfl,hge2,hx3,hA2⟩;have ne1:g1≠g2:=Nat.ne_of_lt (Nat.lt_of_lt_of_le hA1.lt hge2);have hbs2:w.heap.size≤g2:=Nat.le_trans hX1.size hge2;replace hA1:=bc.ext hA1 hx3;replace q2:=bD.ext q2 hx3;replace hX1:=aF.trans hX1 hx3;refine RL.p rfl rfl (cK.assign rfl) ?_;refine RL.x rfl rfl (df.store [v2] gf rfl rfl q2.cells1 hA2 (Nat.le_of_ble_eq_true rfl) (dM (q2.one))) ?_;rintro _ w5 ⟨hk1,hnew⟩;replace hA1:=hA1.keep hk1 ne1;replace q2:=mw q2 hk1 hA2 (by decide);replace hX1:=hX1.step hk1 (fun b e=>by subst e;exact hbs2);replace hA2:=hnew.lit [v2] rfl;clear hnew;refine RL.nil ?_;refine ab ?_;refine RL.p rfl rfl (cK.load aR rfl (hA2.at_ (i:=0) rfl rfl)) ?_;refine RL.x rfl rfl (df.call qz (aN rfl) (kK _ _ _ _ _ q2)) ?_;rintro _ w6 ⟨hx4,rfl⟩;replace hA1:=bc.ext hA1 hx4;replace q2:=bD.ext q2 hx4;replace hA2:=bc.ext hA2 hx4;replace hX1:=aF.trans hX1 hx4;refine RL.x rfl rfl (df.alloc [.int .i64 (0)] BB rfl) ?_;rintro _ w7 ⟨g3,rfl,hge3,hx5,hA3⟩;have ne2:g1≠g3:=Nat.ne_of_lt (Nat.lt_of_lt_of_le hA1.lt hge3);have ne3:g2≠g3:=Nat.ne_of_lt (Nat.lt_of_lt_of_le hA2.lt hge3);have hbs3:w.heap.size≤g3:=Nat.le_trans hX1.size hge3;replace hA1:=bc.ext hA1 hx5;replace q2:=bD.ext q2 hx5;replace hA2:=bc.ext hA2 hx5;replace hX1:=aF.trans hX1 hx5;refine RL.x rfl rfl (df.store [.int .i64 (piv (Mx i) Cx)] zT rfl rfl rfl hA3 (Nat.le_of_ble_eq_true rfl) (dM rfl)) ?_;rintro _ w8 ⟨hk2,hnew⟩;replace hA1:=hA1.keep hk2 ne2;replace q2:=mw q2 hk2 hA3 (by decide);replace hA2:=hA2.keep hk2 ne3;replace hX1:=hX1.step hk2 (fun b e=>by subst e;exact hbs3);replace hA3:=hnew.lit [.int .i64 (piv (Mx i) Cx)] rfl;clear hnew;refine RL.nil ?_;refine WP.seq ?_;refine ab ?_;refine RL.p rfl rfl (cK.load bI rfl (hA3.at_ (i:=0) rfl rfl)) ?_;refine RL.p rfl rfl (cK.lss rfl rfl) ?_;refine RL.nil ?_;refine af ((piv (Mx i) Cx:Int)<(0:Int)) rfl (fun c22=> ?_) (fun c22=> ?_)
   ·
    refine ab ?_;refine RL.p rfl rfl (cK.fieldAddr bG s1_e1) ?_;refine RL.p rfl rfl (cK.load bI rfl (hA1.at_ (i:=1) rfl rfl)) ?_;refine RL.p rfl rfl (cK.assign rfl) ?_;refine RL.nil ?_;refine WP.exit ?_;refine qf.exit ?_;refine jp.same ?_;refine qf.norm ?_;refine WP.region ?_;refine RL.p rfl rfl (cK.add (c:=((i + 1:Nat):Int)) s14_e1 rfl (bY (by omega))) ?_;refine RL.p rfl rfl (cK.move rfl) ?_;refine RL.nil ?_;refine qf.norm ⟨_,(by omega),i + 1,rfl,s1_e1,(congrArg (Value.int .i64) (jL c22)),s12_e1,s13_e1,rfl,(by omega),(er hok (.inl c22)),hX1,hA1⟩
   ·
    refine WP.skip ?_;refine qf.norm ?_;refine WP.seq ?_;have hpa:=jC (z:=Mx i) (n:=Cx) (by omega);refine aI am 11 [_,_,_,fun v BZ=>v= .bool (decide ((piv (Mx i) Cx:Int)≤(lastP Mx Cx i:Int))),_,_,_,_,_,_,_] rfl rfl (fun e_ w_ BY BX=>⟨fun _=>aa (cK.load bI ((BX 6 rfl rfl)) ((bc.ext hA3 BY).at_ (i:=0) rfl rfl)),fun _=>aa (cK.move ((BX 3 rfl s3_e1))),fun BW=>aa (cK.leq ((BW 0 rfl)) ((BW 1 rfl))),fun BW=>aa (cK.move ((BW 2 rfl))),fun BW=>gF (BW 3 rfl) fun hg=>aa (cK.load aR ((BX 5 rfl rfl)) ((bc.ext hA2 BY).at_ (i:=0) rfl rfl)),fun BW=>gF (BW 3 rfl) fun hg=>aa (cK.load bI ((BX 6 rfl rfl)) ((bc.ext hA3 BY).at_ (i:=0) rfl rfl)),fun BW=>gF (BW 3 rfl) fun hg=>ag (aQ (j:=(piv (Mx i) Cx).toNat) bl (BW 4 rfl hg) (bD.ext q2 BY) (mI (a:=(((piv (Mx i) Cx).toNat:Nat):Int)) (b:=piv (Mx i) Cx) (BW 5 rfl hg) (by omega)) (by omega) (by omega)),fun BW=>gF (BW 3 rfl) fun hg=>ag (aW an rfl (BW 6 rfl hg)),fun BW=>gF (BW 3 rfl) fun hg=>df.call jY (aN rfl) (gE _ _ _ _ ((BW 7 rfl hg))),fun BW=>gF (BW 3 rfl) fun hg=>aa (cK.lss ((BW 8 rfl hg)) rfl),fun BW=>aa (bo (p:=(piv (Mx i) Cx:Int)≤(lastP Mx Cx i:Int)) (q:=(((Mx i) ((piv (Mx i) Cx).toNat):Int).sign:Int)<(0:Int)) (BW 3 rfl) (fun hq=>(BW 9 rfl hq))),trivial⟩) ?_;intro e2 w9 hx6 ho1 hf1;replace hA1:=bc.ext hA1 hx6;replace q2:=bD.ext q2 hx6;replace hA2:=bc.ext hA2 hx6;replace hA3:=bc.ext hA3 hx6;replace hX1:=aF.trans hX1 hx6;have s1_e2:=ho1 1 rfl s1_e1;have s12_e2:=ho1 12 rfl s12_e1;have s13_e2:=ho1 13 rfl s13_e1;have s14_e2:=ho1 14 rfl s14_e1;have s5_e2:e2 5=_:=ho1 5 rfl rfl;have s4_e2:e2 4=_:=ho1 4 rfl rfl;have s6_e2:e2 6=_:=ho1 6 rfl rfl;have s35_e2:e2 35=_:=hf1 10 rfl;refine RL.nil ?_;refine af (((piv (Mx i) Cx:Int)≤(lastP Mx Cx i:Int))∨((((Mx i) ((piv (Mx i) Cx).toNat):Int).sign:Int)<(0:Int))) s35_e2 (fun c35=> ?_) (fun c35=> ?_)
    ·
     refine ab ?_;refine RL.p rfl rfl (cK.assign rfl) ?_;refine RL.nil ?_;refine WP.ret ?_;refine qf.ret ?_;refine jp.ret ?_;refine qf.ret ?_;refine qf.ret ?_;refine jp.ret ?_;refine qf.ret ?_;refine ⟨.bool (false),Bu.one (fZ.tmp rfl),_,rfl,hX1,?_⟩;dsimp only;exact congrArg _ (decide_eq_false fun h=>wB (h.2 i (by have:=h.1.1;omega)) c22 c35).symm
    ·
     refine WP.skip ?_;refine qf.norm ?_;refine ab ?_;refine RL.p rfl rfl (cK.makeFunc (mQ) (aw s6_e2 s5_e2)) ?_;refine RL.p rfl rfl (cK.assign rfl) ?_;refine RL.nil ?_;refine WP.seq ?_;refine ab ?_;refine RL.p rfl rfl (cK.fieldAddr aq s1_e2) ?_;refine RL.p rfl rfl (cK.load aG rfl (hA1.at_ (i:=2) rfl rfl)) ?_;refine RL.p rfl rfl (cK.move s4_e2) ?_;refine RL.x rfl rfl (ir (j:=i) az rfl (cA.ext hSx hX1) rfl (by omega) (by omega)) ?_;rintro v3 _ ⟨rfl,q3⟩;refine RL.p rfl rfl (cK.move rfl) ?_;refine RL.x rfl rfl (df.call Az (aw rfl rfl) (ou _ _ _ _ _ _ _ (fA (Mx i) (piv (Mx i) Cx).toNat) q3 ⟨75,#[],#[.pointer (some ⟨g3,0,none⟩),.pointer (some ⟨g2,0,none⟩)],rfl,AA,fun w1 hw1 x z hI=>A9 _ _ _ _ _ _ _ _ _ _ _ _ hI (bc.ext (by rw [hpa.2.1];exact hA3) hw1) (bc.ext hA2 hw1) (bD.ext q2 hw1) hpa.1 hpa.1⟩)) ?_;rintro _ w10 ⟨hx7,rfl⟩;replace hA1:=bc.ext hA1 hx7;replace hA3:=bc.ext hA3 hx7;replace hX1:=aF.trans hX1 hx7;refine RL.nil ?_;refine af (0≤iS (fA (Mx i) (piv (Mx i) Cx).toNat) Mx i) rfl (fun c42=> ?_) (fun c42=> ?_)
     ·
      refine ab ?_;refine RL.p rfl rfl (cK.assign rfl) ?_;refine RL.nil ?_;refine WP.ret ?_;refine qf.ret ?_;refine jp.ret ?_;refine qf.ret ?_;refine qf.ret ?_;refine jp.ret ?_;refine qf.ret ?_;refine ⟨.bool (false),Bu.one (fZ.tmp rfl),_,rfl,hX1,?_⟩;dsimp only;exact congrArg _ (decide_eq_false fun h=>wA (h.2 i (by have:=h.1.1;omega)) c22 c42).symm
     ·
      refine WP.skip ?_;refine qf.norm ?_;refine WP.region ?_;refine RL.p rfl rfl (cK.load bI s6_e2 (hA3.at_ (i:=0) rfl rfl)) ?_;refine RL.p rfl rfl (cK.assign rfl) ?_;refine RL.nil ?_;refine jp.norm ?_;refine qf.norm ?_;refine WP.region ?_;refine RL.p rfl rfl (cK.add (c:=((i + 1:Nat):Int)) s14_e2 rfl (bY (by omega))) ?_;refine RL.p rfl rfl (cK.move rfl) ?_;refine RL.nil ?_;refine qf.norm ⟨_,(by omega),i + 1,rfl,s1_e2,(congrArg (Value.int .i64) (jK c22)),s12_e2,s13_e2,rfl,(by omega),(er hok (zn hpa c35 c42)),hX1,hA1⟩
  ·
   refine WP.exit ?_;refine qf.exit ?_;refine qf.exit ?_;refine jp.same ?_;refine qf.norm ?_;refine ab ?_;refine RL.p rfl rfl (cK.assign rfl) ?_;refine RL.nil ?_;refine WP.ret ?_;refine ⟨.bool (true),Bu.one (fZ.tmp rfl),_,rfl,hX1,?_⟩;dsimp only;exact congrArg _ (decide_eq_true ⟨hgk,fun a ha=>hok a (by have:=hgk.1;omega)⟩).symm
set_option maxRecDepth 10000 in
theorem rj (w:World) (x:Value) (rx cx:Nat) (Mx:Nat→Nat→Int) (btx:Nat) (n:Nat) (hx:cc w x rx cx Mx btx):Calls Tryz.prog 60 #[x,.int .i64 (n:Nat)] w (cj w fun v w'=>v= .bool (decide (rx=n∧cx=n))):=by
 have hLIM:bp=562949953421312:=rfl;have hmatx:=hx;obtain ⟨sx,rfl,hrx,hcx,hSx⟩:=hx.form;refine aj (N:=19) (rs:= #[.tmp 4]) Tryz.func60 rfl rfl rfl (Nat.le_of_ble_eq_true rfl) ?_;have hX:aF w w:=aF.refl w;refine ab ?_;refine RL.x rfl rfl (df.box [.int .i64 ((rx:Nat)),.int .i64 ((cx:Nat)),sx] rfl rfl) ?_;rintro _ w1 ⟨g1,rfl,hge1,hx1,hA1⟩;replace hX:=aF.trans hX hx1;refine RL.p rfl rfl (cK.assign rfl) ?_;refine RL.nil ?_;refine aI am 14 [_,fun v BZ=>v= .bool (decide (True)),fun v BZ=>v= .bool (decide (True)),_,_,_,_,_,fun v BZ=>v= .bool (decide ((True)∧(((rx:Nat):Int)=((n:Nat):Int)))),_,_,_,_,_] rfl rfl (fun e_ w_ BY BX=>⟨fun _=>aa (ah [.int .i64 ((rx:Nat)),.int .i64 ((cx:Nat)),sx] aZ ((BX 2 rfl rfl)) ((bc.ext hA1 BY).cells 0 _ rfl rfl)),fun BW=>df.call tw (aN ((BW 0 rfl))) (oS _ _ _ _ _ _ (cc.mk (cA.ext (cA.ext hSx hX) BY) (by omega) (by omega))),fun BW=>aa (cK.move ((BW 1 rfl))),fun BW=>gT (BW 2 rfl) fun hg=>aa (cK.fieldAddr bk ((BX 2 rfl rfl))),fun BW=>gT (BW 2 rfl) fun hg=>aa (cK.load bI ((BW 3 rfl hg)) ((bc.ext hA1 BY).at_ (i:=0) rfl rfl)),fun BW=>gT (BW 2 rfl) fun hg=>aa (cK.move ((BX 1 rfl rfl))),fun BW=>gT (BW 2 rfl) fun hg=>aa (cK.eql ((BW 4 rfl hg)) ((BW 5 rfl hg))),fun BW=>aa (ay (p:=True) (q:=((rx:Nat):Int)=((n:Nat):Int)) (BW 2 rfl) (fun hq=>(BW 6 rfl hq))),fun BW=>aa (cK.move ((BW 7 rfl))),fun BW=>gT (BW 8 rfl) fun hg=>aa (cK.fieldAddr bG ((BX 2 rfl rfl))),fun BW=>gT (BW 8 rfl) fun hg=>aa (cK.load bI ((BW 9 rfl hg)) ((bc.ext hA1 BY).at_ (i:=1) rfl rfl)),fun BW=>gT (BW 8 rfl) fun hg=>aa (cK.move ((BX 1 rfl rfl))),fun BW=>gT (BW 8 rfl) fun hg=>aa (cK.eql ((BW 10 rfl hg)) ((BW 11 rfl hg))),fun BW=>aa (ay (p:=(True)∧(((rx:Nat):Int)=((n:Nat):Int))) (q:=((cx:Nat):Int)=((n:Nat):Int)) (BW 8 rfl) (fun hq=>(BW 12 rfl hq))),trivial⟩) ?_;intro e1 w2 hx2 ho1 hf1;replace hX:=aF.trans hX hx2;have s18_e1:e1 18=_:=hf1 13 rfl;refine RL.p rfl rfl (cK.assign s18_e1) ?_;refine RL.nil ?_;refine WP.ret ?_;refine ⟨.bool (decide (((True)∧(((rx:Nat):Int)=((n:Nat):Int)))∧(((cx:Nat):Int)=((n:Nat):Int)))),Bu.one (fZ.tmp rfl),_,rfl,hX,?_⟩;dsimp only;exact congrArg _ (decide_eq_decide.2 si)
end Go.TL
namespace Go.TL
open Go.RowKit Go.Proofs
set_option linter.unusedVariables false
theorem rl (w:World) (x:Value) (r c:Nat) (M:Nat→Nat→Int) (b:Nat) (hx:cc w x r c M b):Calls Tryz.prog 29 #[x] w (cj w fun v _=>v= .bool (decide (cQ r c M))):=by
  obtain ⟨s,rfl,hr,hc,hS⟩:=hx.form;refine (Ba w s r c r c M b hr.1 hc hS).mono ?_;rintro e w' ⟨v,rfl,hx',h⟩;exact ⟨v,rfl,hx',h.trans (congrArg _ (decide_eq_decide.2 ⟨fun h=>h.2,fun h=>⟨nX.same,h⟩⟩))⟩
def vI (w:World) (v:Value) (w0:World) (n:Nat) (z:Nat→Int) (b:Nat):Prop:=∃h o u,v= .pointer (some ⟨h,o,none⟩)∧w.cell? ⟨h,o,none⟩=some u∧bD w0 u n z b
section
variable {P:Program} {e:cE} {w w0:World} {d:Option Tmp} {ty:TypeId} {pos:String} {after:Array Edge} {gd:Option (Nat×Bool)}
theorem it {t n c m j b:Nat} {x ix:Operand} {v:Value} {M:Nat→Nat→Int} {i:Int} {k:IntKind} (ht:sliceB P t 41 1 m=true) (hx:ev e x=v) (hH:cA w0 v n c M b) (hw:aF w0 w)
    (hi:ev e ix= .int k i) (hij:i=(j:Int)) (hj:j<n):df P ⟨d,.indexAddr t x ix,ty,pos,after,gd⟩ e w (fun v w'=>w=w'∧vI w' v w0 c (M j) b):=by
  obtain ⟨A,kk,rfl,h2,h3,h4⟩:=hH;obtain ⟨h,o,m',f,rfl,hm,ha,hf⟩:=h4 (by omega);refine dt (φ:=fun v w'=>vI w' v w0 c (M j) b) (cK.index (j:=j) ht hx hi rfl hij hj) ⟨h,_,f (o + j),rfl,?_,hf j hj⟩;rw [Nat.mul_one];exact (ha.ext hw).cell (by omega)
theorem jk {t n b:Nat} {x:Operand} {v:Value} {z:Nat→Int} (ht:oneB P t=true) (hx:ev e x=v) (hP:vI w v w0 n z b):df P ⟨d,.load t x,ty,pos,after,gd⟩ e w (fun v w'=>w=w'∧bD w0 v n z b):=by
  obtain ⟨h,o,u,rfl,hc,hR⟩:=hP;exact dt (φ:=fun v w'=>bD w0 v n z b) (cK.load ht hx hc) hR
end
theorem xv {w:World} {v:Value} {n b:Nat} {z:Nat→Int} (h:bD w v n z b) (hn:0<n):∃g,fr w v g n∧cz w g n z b∧g<w.heap.size:=by
  obtain ⟨A,k,rfl,h2,h3,h4⟩:=h;obtain ⟨g,rfl,hB⟩:=h4 hn;exact ⟨g,⟨k,rfl,h2,h3.1,h3.2.1⟩,hB,hB.lt⟩
theorem sQ (B n b':Nat):fy (fun v _ b=>b=dp v) (fun v w=>ee w v B n b'):=
  ⟨fun v w b h hb=>by obtain ⟨g,h1,h2,h3⟩:=h;subst h1;rw [hb];exact h3.lt,fun _ _ _ _ _ _ h=>h⟩
def iq (Q:Nat→Int) (i:Nat):Nat→Int:=fun a=>if a<i then Q a else 0
theorem pI (Q:Nat→Int):iq Q 0=fun _=>0:=by funext a;simp [iq]
theorem lG (Q:Nat→Int) (i:Nat):iq Q (i + 1) i=Q i:=if_pos (by omega)
theorem ss {Q:Nat→Int} {i:Nat} {q:Int} (hq:q=Q i):js (iq Q i) i q=iq Q (i + 1):=by
  funext a
  simp only [js,iq]
  by_cases e:a=i
  · subst e;rw [if_pos rfl,if_pos (by omega),hq]
  · rw [if_neg e]
    by_cases h:a<i
    · rw [if_pos h,if_pos (by omega)]
    · rw [if_neg h,if_neg (by omega)]
theorem pJ {Q:Nat→Int} {i:Nat} (hq:Q i=0):iq Q i=iq Q (i + 1):=by
  funext a
  simp only [iq]
  by_cases e:a=i
  · subst e;rw [if_neg (by omega),if_pos (by omega),hq]
  · by_cases h:a<i
    · rw [if_pos h,if_pos (by omega)]
    · rw [if_neg h,if_neg (by omega)]
theorem oz (M:Nat→Nat→Int) (c:Nat) (z:Nat→Int) (i j:Nat):bj M c z i j + -(bU M c z i)*M i j=bj M c z (i + 1) j:=by
  simp only [bj,bU];rw [Int.neg_mul];omega
theorem oy {M:Nat→Nat→Int} {c:Nat} {z:Nat→Int} {i:Nat} (h:piv (M i) c<0):bj M c z i=bj M c z (i + 1):=by
  funext j;simp only [bj];rw [iV h,Int.zero_mul];omega
theorem yZ {w:World} {v:Value} {B r c b:Nat} {M:Nat→Nat→Int} {z:Nat→Int} (h:ee w v B r b) (hn:∀i,¬0≤piv (M i) c) (hr:r≤65536):bD w v r (bU M c z) b:=by
  obtain ⟨g,rfl,_,hR⟩:=h;exact cz.rowV (cz.congr hR fun j _=>(iV (by have:=hn j;omega)).symm) (Nat.le_refl _) ⟨by omega,hr⟩
theorem td {w:World} {v:Value} {z z':Nat→Int} {b b':Nat} (h:bD w v 0 z b) (hb:b'≤bp):bD w v 0 z' b':=by
  obtain ⟨A,k,h1,h2,h3,_⟩:=h;exact ⟨A,k,h1,h2,⟨h3.1,h3.2.1,hb⟩,fun h=>absurd h (Nat.lt_irrefl _)⟩
end Go.TL
namespace Go.TL
open Go.RowKit Go.Proofs
set_option linter.unusedVariables false
set_option linter.unusedSimpArgs false
set_option maxRecDepth 10000 in
theorem tX (w:World) (x:Value) (nx:Nat) (zx:Nat→Int) (btx:Nat) (hx:bD w x nx zx btx) (hn:0<nx):Calls Tryz.prog 65 #[x] w (cj w fun v w'=>ef w' v w.heap.size nx zx btx):=by
 have hLIM:bp=562949953421312:=rfl;have hlimx:=hx.lim;refine aj (N:=8) (rs:= #[.tmp 2]) Tryz.func65 rfl rfl rfl (Nat.le_of_ble_eq_true rfl) ?_;have hX:aF w w:=aF.refl w;refine ab ?_;refine RL.p rfl rfl (cK.assign rfl) ?_;refine RL.nil ?_;refine WP.seq ?_;refine ab ?_;refine RL.p rfl rfl (cK.move rfl) ?_;refine RL.p rfl rfl (lX bX rfl (bD.ext hx hX) rfl hn) ?_;refine RL.nil ?_;refine WP.cond _ rfl (fun hf=>absurd hf (by decide)) (fun _=> ?_);refine WP.skip ?_;refine qf.norm ?_;refine ab ?_;refine RL.x rfl rfl (cW bX) ?_;rintro _ w1 ⟨g1,rfl,hge1,hx1,hA1⟩;replace hX:=aF.trans hX hx1;refine RL.p rfl rfl (cK.move rfl) ?_;have hBw1:w.heap.size≤w1.heap.size:=hX.size;refine RL.x rfl rfl (ge bX (by decide) bC rfl hA1 rfl (bD.ext hx hX) hn) ?_;rintro v1 w2 ⟨hx2,q1,_⟩;replace hX:=aF.trans hX hx2;refine RL.p rfl rfl (cK.assign rfl) ?_;refine RL.nil ?_;refine WP.ret ?_;refine ⟨v1,Bu.one (fZ.tmp rfl),_,rfl,hX,?_⟩;dsimp only;obtain ⟨g,h1,h2,h3⟩:=q1;exact ⟨g,h1,Nat.le_trans hBw1 h2,h3⟩
set_option maxRecDepth 10000 in
set_option maxHeartbeats 1600000 in
theorem oW (w:World) (x:Value) (rx cx:Nat) (Mx:Nat→Nat→Int) (btx:Nat) (v:Value) (nv:Nat) (zv:Nat→Int) (btv:Nat) (b:Nat) (hx:cc w x rx cx Mx btx) (hv:bD w v nv zv btv) (hc0:0<cx) (hb:btv + rx*(btx + 1)≤b) (hl:b + b + 2≤bp) (hl2:btx≤b):Calls Tryz.prog 21 #[x,v] w (cj w fun v w'=>(nv≠cx∧v= .tuple #[.slice none 0 0,.slice none 0 0,.int .i64 50])∨(nv=cx∧∃vq vr,v= .tuple #[vq,vr,.int .i64 0]∧bD w' vq rx (bU Mx cx zv) b∧bD w' vr cx (bj Mx cx zv rx) b)):=by
 have hLIM:bp=562949953421312:=rfl;have hmatx:=hx;obtain ⟨sx,rfl,hrx,hcx,hSx⟩:=hx.form;have hlimv:=hv.lim;refine aj (N:=57) (rs:= #[.tmp 4,.tmp 5,.tmp 6]) Tryz.func21 rfl rfl rfl (Nat.le_of_ble_eq_true rfl) ?_;have hX:aF w w:=aF.refl w;have hbM:=cA.bd hSx;have hbz:=bD.bd hv;have hmul:∀q,q≤rx→q*(btx + 1)≤rx*(btx + 1):=fun q hq=>Nat.mul_le_mul_right _ hq
 have hpw0:∀q,q≤rx→2^(btv + q*(btx + 1))≤2^b:=fun q hq=>Nat.pow_le_pow_right (by decide) (by have:=hmul q hq;omega)
 refine ab ?_;refine RL.x rfl rfl (df.box [.int .i64 ((rx:Nat)),.int .i64 ((cx:Nat)),sx] rfl rfl) ?_;rintro _ w1 ⟨g1,rfl,hge1,hx1,hA1⟩;replace hX:=aF.trans hX hx1;refine RL.p rfl rfl (cK.assign rfl) ?_;refine RL.p rfl rfl (cK.assign rfl) ?_;refine RL.p rfl rfl (cK.assign rfl) ?_;refine RL.nil ?_;refine WP.seq ?_;refine ab ?_;refine RL.p rfl rfl (cK.move rfl) ?_;refine RL.p rfl rfl (bW bX rfl (bD.ext hv hX)) ?_;refine RL.p rfl rfl (cK.fieldAddr bG rfl) ?_;refine RL.p rfl rfl (cK.load bI rfl (hA1.at_ (i:=1) rfl rfl)) ?_;refine RL.p rfl rfl (cK.neq rfl rfl) ?_;refine RL.nil ?_;refine af (((nv:Nat):Int)≠((cx:Nat):Int)) rfl (fun c16=> ?_) (fun c16=> ?_)
 ·
  refine ab ?_;refine RL.p rfl rfl (cK.assign rfl) ?_;refine RL.p rfl rfl (cK.assign rfl) ?_;refine RL.p rfl rfl (cK.assign rfl) ?_;refine RL.nil ?_;refine WP.ret ?_;refine qf.ret ?_;refine ⟨.tuple #[.slice (none) (0) (0),.slice (none) (0) (0),.int .i64 (50)],dj (fZ.tmp rfl) (fZ.tmp rfl) (fZ.tmp rfl),_,rfl,hX,?_⟩;dsimp only;exact .inl ⟨fun e=>c16 (by omega),rfl⟩
 ·
  refine WP.skip ?_;refine qf.norm ?_;obtain rfl:cx=nv:=by omega
  have hXr:=hX;refine il am 5 [_,_,fun v BZ=>ee BZ v w1.heap.size rx b,_,fun v BZ=>ef BZ v w1.heap.size cx zv btv] (Apart.of (fun v _ b=>b=dp v) [(2,4)] rfl ⟨(fun h=>by cases h),(fun h=>by cases h),(fun _=>sQ _ _ _),(fun h=>by cases h),(fun _=>jJ _ _ _ _),trivial⟩) rfl rfl ⟨ac _,ac _,ke _ _ _,ac _,fm _ _ _ _,trivial⟩ ⟨fun e_ w_ BY BX BW=>aH rfl (aa (cK.fieldAddr bk (((BX 2 rfl).trans rfl)))),fun e_ w_ BY BX BW=>aH rfl (aa (cK.load bI ((BW 0 rfl)) ((bc.ext hA1 BY).at_ (i:=0) rfl rfl))),fun e_ w_ BY BX BW=>df.mono (gH (b:=b) bX (by decide) bC (BW 1 rfl) (BW 1 rfl) rfl rfl (by omega) (Nat.le_refl _) (by omega)) fun v B0 hv=>⟨hv.1,(by obtain ⟨g,h1,h2,h3⟩:=hv.2;exact ⟨g,h1,Nat.le_trans BY.size h2,h3⟩),dF fun b hb=>hb▸(by obtain ⟨g,h1,h2,h3⟩:=hv.2;rw [h1];exact h2)⟩,fun e_ w_ BY BX BW=>aH rfl (aa (cK.move (((BX 1 rfl).trans rfl)))),fun e_ w_ BY BX BW=>df.mono (df.call xK (aN ((BW 3 rfl))) (tX _ _ _ _ _ (bD.ext (bD.ext hv hX) BY) hc0)) fun v B0 hv=>⟨hv.1,(by obtain ⟨g,h1,h2,h3⟩:=hv.2;exact ⟨g,h1,Nat.le_trans BY.size h2,h3⟩),dF fun b hb=>hb▸(by obtain ⟨g,h1,h2,h3⟩:=hv.2;rw [fq h1];exact h2)⟩,trivial⟩ ?_;intro e1 w2 hx2 ho1 hf1 hp1;replace hA1:=bc.ext hA1 hx2;replace hX:=aF.trans hX hx2;have s2_e1:e1 2= .pointer (some ⟨g1,0,none⟩):=(ho1 2 rfl).trans rfl;have s4_e1:e1 4= .slice (none) (0) (0):=(ho1 4 rfl).trans rfl;have s5_e1:e1 5= .slice (none) (0) (0):=(ho1 5 rfl).trans rfl;have s6_e1:e1 6= .int .i64 (0):=(ho1 6 rfl).trans rfl;have s19_e1:ee w2 (e1 19) w1.heap.size rx b:=hf1 2 rfl;have s21_e1:ef w2 (e1 21) w1.heap.size cx zv btv:=hf1 4 rfl;obtain ⟨gq,hq1,hqB,hQ⟩:=s19_e1;obtain ⟨gr,hSr,hrB,hR⟩:=s21_e1;have hqr:gq≠gr:=by
    have hd:=hp1 2 4 rfl rfl rfl rfl (dp (e1 19)) rfl;intro he
    apply hd
    show dp (e1 19)=dp (e1 21);rw [hq1,fq hSr];exact he
  obtain ⟨kr,hr1,hrk,hrl⟩:=hSr;have hbq:w.heap.size≤gq:=Nat.le_trans hXr.size hqB;have hbr:w.heap.size≤gr:=Nat.le_trans hXr.size hrB;replace hR:=cz.up (b':=b) hR (by omega) (by omega);replace hQ:=fL hQ (pI (bU Mx cx zv)).symm;refine RL.p rfl rfl (cK.assign hq1) ?_;refine RL.p rfl rfl (cK.assign hr1) ?_;refine RL.nil ?_;refine WP.seq ?_;refine ab ?_;refine RL.p rfl rfl (cK.fieldAddr aq s2_e1) ?_;refine RL.p rfl rfl (cK.load aG rfl (hA1.at_ (i:=2) rfl rfl)) ?_;refine RL.p rfl rfl (cC az rfl (cA.ext hSx hX)) ?_;refine RL.p rfl rfl (cK.move rfl) ?_;refine RL.nil ?_;refine WP.block ?_;refine WP.loop (fun mz ez uz=>∃i:Nat,(mz=rx - i)∧(ez 4= .slice (none) (0) (0))∧(ez 5= .slice (none) (0) (0))∧(ez 6= .int .i64 (0))∧(ez 7= .slice (some ⟨gq,0,none⟩) (rx) (rx))∧(ez 8= .slice (some ⟨gr,0,none⟩) (cx) (kr))∧(ez 23=sx)∧(ez 24= .int .i64 ((rx:Nat)))∧(ez 25= .int .i64 ((i:Nat)))∧(i≤rx)∧(aF w uz)∧(bc uz g1 28 3 (bP [.int .i64 ((rx:Nat)),.int .i64 ((cx:Nat)),sx]))∧(cz uz gq rx (iq (bU Mx cx zv) i) b)∧(cz uz gr cx (bj Mx cx zv i) b)) (rx - 0) ?_ ?_
  · exact ⟨0,rfl,s4_e1,s5_e1,s6_e1,rfl,rfl,rfl,rfl,rfl,(by omega),hX,hA1,hQ,hR⟩
  rintro m1 e2 w3 ⟨i,hm1,s4_e2,s5_e2,s6_e2,s7_e2,s8_e2,s23_e2,s24_e2,s25_e2,hi,hX1,hA1,hQ,hR⟩;refine ab ?_;refine RL.p rfl rfl (cK.lss s25_e2 s24_e2) ?_;refine RL.nil ?_;refine WP.seq ?_;refine af (((i:Nat):Int)<((rx:Nat):Int)) rfl (fun c26=> ?_) (fun c26=> ?_)
  ·
   refine WP.skip ?_;refine qf.norm ?_;refine WP.seq ?_;refine WP.block ?_;refine ab ?_;refine RL.p rfl rfl (cK.move s25_e2) ?_;refine RL.x rfl rfl (it (j:=i) az s23_e2 hSx hX1 s25_e2 (by omega) (by omega)) ?_;rintro v1 _ ⟨rfl,q1⟩;refine RL.x rfl rfl (jk aR rfl q1) ?_;rintro v2 _ ⟨rfl,q2⟩;refine RL.p rfl rfl (cK.assign rfl) ?_;refine RL.p rfl rfl (cK.assign rfl) ?_;refine RL.nil ?_;refine ab ?_;refine RL.p rfl rfl (cK.move rfl) ?_;refine RL.x rfl rfl (df.call qz (aN rfl) (kK _ _ _ _ _ (bD.ext q2 hX1))) ?_;rintro _ w4 ⟨hx3,rfl⟩;replace hA1:=bc.ext hA1 hx3;replace hQ:=cz.ext hQ hx3;replace hR:=cz.ext hR hx3;replace hX1:=aF.trans hX1 hx3;refine RL.p rfl rfl (cK.assign rfl) ?_;refine RL.nil ?_;have hpw:=hpw0 i (by omega);have hpw1:=hpw0 (i + 1) (by omega);have hRbd:=iU (c:=cx) hbM hbz (i:=i) (by omega);refine ab ?_;refine RL.p rfl rfl (cK.move rfl) ?_;refine RL.p rfl rfl (cK.geq rfl rfl) ?_;refine RL.nil ?_;refine af ((0:Int)≤(piv (Mx i) cx:Int)) rfl (fun c33=> ?_) (fun c33=> ?_)
   ·
    have hpa:=jC (z:=Mx i) (n:=cx) (by omega);refine aI am 12 [_,_,_,_,_,_,_,_,_,_,_,_] rfl rfl (fun e_ w_ BY BX=>⟨fun _=>aa (cK.move ((BX 7 rfl s7_e2))),fun _=>aa (cK.move ((BX 9 rfl rfl))),fun _=>aa (cK.move ((BX 8 rfl s8_e2))),fun _=>aa (cK.move ((BX 11 rfl rfl))),fun BW=>aa (cK.index (j:=(piv (Mx i) cx).toNat) bX ((BW 2 rfl)) ((mI (a:=(((piv (Mx i) cx).toNat:Nat):Int)) (b:=piv (Mx i) cx) (BW 3 rfl) (by omega))) rfl (by omega) (by omega)),fun BW=>ag (aO (j:=(piv (Mx i) cx).toNat) an (BW 4 rfl) (cz.ext hR BY) (by omega)),fun _=>aa (cK.move ((BX 10 rfl rfl))),fun _=>aa (cK.move ((BX 11 rfl rfl))),fun BW=>ag (aQ (j:=(piv (Mx i) cx).toNat) bl (BW 6 rfl) (bD.ext (bD.ext q2 hX1) BY) (mI (a:=(((piv (Mx i) cx).toNat:Nat):Int)) (b:=piv (Mx i) cx) (BW 7 rfl) (by omega)) (by omega) (by omega)),fun BW=>ag (aW an rfl (BW 8 rfl)),fun BW=>df.call tB (aw rfl rfl) (iy _ _ _ _ _ _ _ (BW 5 rfl) (BW 9 rfl) hpa.2.2.1 (by omega)),fun BW=>aa (cK.index (j:=i) bX ((BW 0 rfl)) ((BW 1 rfl)) rfl (by omega) (by omega)),trivial⟩) ?_;intro e3 w5 hx4 ho2 hf2;replace hA1:=bc.ext hA1 hx4;replace hQ:=cz.ext hQ hx4;replace hR:=cz.ext hR hx4;replace hX1:=aF.trans hX1 hx4;have s4_e3:=ho2 4 rfl s4_e2;have s5_e3:=ho2 5 rfl s5_e2;have s6_e3:=ho2 6 rfl s6_e2;have s7_e3:=ho2 7 rfl s7_e2;have s8_e3:=ho2 8 rfl s8_e2;have s23_e3:=ho2 23 rfl s23_e2;have s24_e3:=ho2 24 rfl s24_e2;have s25_e3:=ho2 25 rfl s25_e2;have s9_e3:e3 9=_:=ho2 9 rfl rfl;have s10_e3:e3 10=_:=ho2 10 rfl rfl;have s44_e3:al w5 (e3 44) (((bj Mx cx zv i) ((piv (Mx i) cx).toNat))/((Mx i) ((piv (Mx i) cx).toNat))) b:=hf2 10 rfl;have s45_e3:e3 45=_:=hf2 11 rfl;refine RL.x rfl rfl (ga (j:=i) aL s45_e3 rfl (al.eq s44_e3 (lA (by omega)).symm (by have:=kC (M:=Mx) (i:=i) hRbd;exact Nat.lt_of_lt_of_le this hpw) (by omega)) hQ (by omega)) ?_;rintro _ w6 ⟨hk1,hN1⟩;replace hA1:=aU hA1 hk1 hQ (by decide);replace hR:=cz.keep hR hk1 (Ne.symm hqr) hQ.nu;replace hX1:=hX1.step hk1 (fun b e=>by subst e;exact hbq);replace hQ:=hN1;refine RL.nil ?_;replace hQ:=fL hQ (ss (Q:=(bU Mx cx zv)) rfl)
    skip
    refine WP.region ?_;refine RL.p rfl rfl (cK.move s8_e3) ?_;refine RL.p rfl rfl (cK.move s10_e3) ?_;refine RL.p rfl rfl (cK.move s7_e3) ?_;refine RL.p rfl rfl (cK.move s9_e3) ?_;refine RL.p rfl rfl (cK.index (j:=i) bX rfl rfl rfl (by omega) (by omega)) ?_;refine RL.x rfl rfl (aO (j:=i) an rfl hQ (by omega)) ?_;rintro v3 _ ⟨rfl,q3⟩;refine RL.x rfl rfl (df.call mq (aN rfl) (mP _ _ _ _ q3)) ?_;rintro v4 w7 ⟨hx5,q4⟩;replace hA1:=bc.ext hA1 hx5;replace hQ:=cz.ext hQ hx5;replace hR:=cz.ext hR hx5;replace hX1:=aF.trans hX1 hx5;obtain ⟨gy,hys,hyB,hyl⟩:=xv q2 hc0;refine RL.x rfl rfl (cU oh (cO rfl rfl rfl) (oV _ _ _ _ _ _ _ _ _ _ _ _ ⟨kr,rfl,hrk,hrl⟩ (bJ hys _) q4 hR (cz.up (cz.ext hyB hX1) (by omega) (by omega)) (fun e=>absurd e (by omega)) (by omega) (fun j hj=>by rw [lG,oz];exact Nat.lt_of_lt_of_le (iU (c:=cx) hbM hbz (i:=i + 1) (by omega) j hj) hpw1))) ?_;rintro _ w9 ⟨hk2,hN2⟩;replace hA1:=aU hA1 hk2 hR (by decide);replace hQ:=cz.keep hQ hk2 hqr hR.nu;replace hX1:=hX1.step hk2 (fun b e=>by subst e;exact hbr);replace hR:=cz.congr (z':=bj Mx cx zv (i + 1)) hN2 (fun j hj=>by rw [lG,oz]);refine RL.nil ?_;refine jp.norm ?_;refine qf.norm ?_;refine WP.region ?_;refine RL.p rfl rfl (cK.add (c:=((i + 1:Nat):Int)) s25_e3 rfl (bY (by omega))) ?_;refine RL.p rfl rfl (cK.move rfl) ?_;refine RL.nil ?_;refine qf.norm ⟨_,(by omega),i + 1,rfl,s4_e3,s5_e3,s6_e3,s7_e3,s8_e3,s23_e3,s24_e3,rfl,(by omega),hX1,hA1,hQ,hR⟩
   ·
    refine WP.skip ?_;refine jp.norm ?_;refine qf.norm ?_;refine WP.region ?_;refine RL.p rfl rfl (cK.add (c:=((i + 1:Nat):Int)) s25_e2 rfl (bY (by omega))) ?_;refine RL.p rfl rfl (cK.move rfl) ?_;refine RL.nil ?_;refine qf.norm ⟨_,(by omega),i + 1,rfl,s4_e2,s5_e2,s6_e2,s7_e2,s8_e2,s23_e2,s24_e2,rfl,(by omega),hX1,hA1,fL hQ (pJ (iV (by omega))),fL hR (oy (by omega))⟩
  ·
   refine WP.exit ?_;refine qf.exit ?_;refine qf.exit ?_;refine jp.same ?_;refine qf.norm ?_;refine ab ?_;refine RL.p rfl rfl (cK.move s7_e2) ?_;refine RL.p rfl rfl (cK.move s8_e2) ?_;refine RL.p rfl rfl (cK.assign rfl) ?_;refine RL.p rfl rfl (cK.assign rfl) ?_;refine RL.p rfl rfl (cK.assign rfl) ?_;refine RL.nil ?_;refine WP.ret ?_;refine ⟨.tuple #[.slice (some ⟨gq,0,none⟩) (rx) (rx),.slice (some ⟨gr,0,none⟩) (cx) (kr),.int .i64 (0)],dj (fZ.tmp rfl) (fZ.tmp rfl) (fZ.tmp rfl),_,rfl,hX1,?_⟩;dsimp only;have hir:i=rx:=by omega
   subst hir;refine .inr ⟨by omega,_,_,rfl,?_,?_⟩
   · exact cz.rowV (cz.congr hQ (fun j hj=>if_pos hj)) (Nat.le_refl _) ⟨by omega,by omega⟩
   · exact cz.rowV hR hrk hrl
end Go.TL
namespace Go.TL
open Go.RowKit Go.Proofs
set_option linter.unusedVariables false
set_option linter.unusedSimpArgs false
set_option maxRecDepth 10000 in
theorem tY (w:World) (x:Value) (zx:Nat→Int) (btx:Nat) (hx:bD w x 0 zx btx):Calls Tryz.prog 65 #[x] w (cj w fun v w'=>bD w' v 0 zx btx):=by
 have hLIM:bp=562949953421312:=rfl;obtain ⟨Ax,kx,rfl,hkx,hlx,_⟩:=hx;refine aj (N:=8) (rs:= #[.tmp 2]) Tryz.func65 rfl rfl rfl (Nat.le_of_ble_eq_true rfl) ?_;have hX:aF w w:=aF.refl w;refine ab ?_;refine RL.p rfl rfl (cK.assign rfl) ?_;refine RL.nil ?_;refine WP.seq ?_;refine ab ?_;refine RL.p rfl rfl (cK.move rfl) ?_;refine RL.p rfl rfl (iC bX rfl rfl) ?_;refine RL.nil ?_;refine af (Ax=none) rfl (fun c4=> ?_) (fun c4=> ?_)
 ·
  refine ab ?_;refine RL.p rfl rfl (cK.assign rfl) ?_;refine RL.nil ?_;refine WP.ret ?_;refine qf.ret ?_;refine ⟨.slice (none) (0) (0),Bu.one (fZ.tmp rfl),_,rfl,hX,?_⟩;dsimp only;exact ⟨_,_,rfl,Nat.zero_le _,⟨by decide,Nat.zero_le _,hlx.2.2⟩,fun h=>absurd h (Nat.lt_irrefl _)⟩
 ·
  refine WP.skip ?_;refine qf.norm ?_;refine ab ?_;refine RL.x rfl rfl (cW bX) ?_;rintro _ w1 ⟨g1,rfl,hge1,hx1,hA1⟩;replace hX:=aF.trans hX hx1;refine RL.p rfl rfl (cK.move rfl) ?_;refine RL.p rfl rfl (gI bX rfl rfl) ?_;refine RL.p rfl rfl (cK.assign rfl) ?_;refine RL.nil ?_;refine WP.ret ?_;refine ⟨.slice (some ⟨g1,0,none⟩) (0) (0),Bu.one (fZ.tmp rfl),_,rfl,hX,?_⟩;dsimp only;exact ⟨_,_,rfl,Nat.zero_le _,⟨by decide,Nat.zero_le _,hlx.2.2⟩,fun h=>absurd h (Nat.lt_irrefl _)⟩
set_option maxRecDepth 10000 in
theorem mK (w:World) (x:Value) (rx cx:Nat) (Mx:Nat→Nat→Int) (btx:Nat) (v:Value) (nv:Nat) (zv:Nat→Int) (btv:Nat) (b:Nat) (hx:cc w x rx cx Mx btx) (hv:bD w v nv zv btv) (hc0:cx=0) (hl:b≤bp):Calls Tryz.prog 21 #[x,v] w (cj w fun v w'=>(nv≠cx∧v= .tuple #[.slice none 0 0,.slice none 0 0,.int .i64 50])∨(nv=cx∧∃vq vr,v= .tuple #[vq,vr,.int .i64 0]∧bD w' vq rx (bU Mx cx zv) b∧bD w' vr cx (bj Mx cx zv rx) b)):=by
 have hLIM:bp=562949953421312:=rfl;have hmatx:=hx;obtain ⟨sx,rfl,hrx,hcx,hSx⟩:=hx.form;have hlimv:=hv.lim;refine aj (N:=57) (rs:= #[.tmp 4,.tmp 5,.tmp 6]) Tryz.func21 rfl rfl rfl (Nat.le_of_ble_eq_true rfl) ?_;have hX:aF w w:=aF.refl w;have hnp:∀i,¬0≤piv (Mx i) cx:=fun i h=>by rw [hc0] at h;exact absurd h (by show ¬(0:Int)≤ -1;decide)
 refine ab ?_;refine RL.x rfl rfl (df.box [.int .i64 ((rx:Nat)),.int .i64 ((cx:Nat)),sx] rfl rfl) ?_;rintro _ w1 ⟨g1,rfl,hge1,hx1,hA1⟩;replace hX:=aF.trans hX hx1;refine RL.p rfl rfl (cK.assign rfl) ?_;refine RL.p rfl rfl (cK.assign rfl) ?_;refine RL.p rfl rfl (cK.assign rfl) ?_;refine RL.nil ?_;refine WP.seq ?_;refine ab ?_;refine RL.p rfl rfl (cK.move rfl) ?_;refine RL.p rfl rfl (bW bX rfl (bD.ext hv hX)) ?_;refine RL.p rfl rfl (cK.fieldAddr bG rfl) ?_;refine RL.p rfl rfl (cK.load bI rfl (hA1.at_ (i:=1) rfl rfl)) ?_;refine RL.p rfl rfl (cK.neq rfl rfl) ?_;refine RL.nil ?_;refine af (((nv:Nat):Int)≠((cx:Nat):Int)) rfl (fun c16=> ?_) (fun c16=> ?_)
 ·
  refine ab ?_;refine RL.p rfl rfl (cK.assign rfl) ?_;refine RL.p rfl rfl (cK.assign rfl) ?_;refine RL.p rfl rfl (cK.assign rfl) ?_;refine RL.nil ?_;refine WP.ret ?_;refine qf.ret ?_;refine ⟨.tuple #[.slice (none) (0) (0),.slice (none) (0) (0),.int .i64 (50)],dj (fZ.tmp rfl) (fZ.tmp rfl) (fZ.tmp rfl),_,rfl,hX,?_⟩;dsimp only;exact .inl ⟨fun e=>c16 (by omega),rfl⟩
 ·
  refine WP.skip ?_;refine qf.norm ?_;obtain rfl:cx=nv:=by omega
  refine aI am 5 [_,_,fun v BZ=>ee BZ v w1.heap.size rx b,_,_] rfl rfl (fun e_ w_ BY BX=>⟨fun _=>aa (cK.fieldAddr bk ((BX 2 rfl rfl))),fun BW=>aa (cK.load bI ((BW 0 rfl)) ((bc.ext hA1 BY).at_ (i:=0) rfl rfl)),fun BW=>gH bX (by decide) bC (BW 1 rfl) (BW 1 rfl) rfl rfl (by omega) BY.size (by omega),fun _=>aa (cK.move ((BX 1 rfl rfl))),fun BW=>df.call xK (aN ((BW 3 rfl))) (tY _ _ _ _ (hc0▸(bD.ext (bD.ext hv hX) BY))),trivial⟩) ?_;intro e1 w2 hx2 ho1 hf1;replace hA1:=bc.ext hA1 hx2;replace hX:=aF.trans hX hx2;have s2_e1:e1 2=_:=ho1 2 rfl rfl;have s4_e1:e1 4=_:=ho1 4 rfl rfl;have s5_e1:e1 5=_:=ho1 5 rfl rfl;have s6_e1:e1 6=_:=ho1 6 rfl rfl;have s19_e1:ee w2 (e1 19) w1.heap.size rx b:=hf1 2 rfl;have s21_e1:bD w2 (e1 21) 0 zv btv:=hf1 4 rfl;refine RL.p rfl rfl (cK.assign rfl) ?_;refine RL.p rfl rfl (cK.assign rfl) ?_;refine RL.nil ?_;refine WP.seq ?_;refine ab ?_;refine RL.p rfl rfl (cK.fieldAddr aq s2_e1) ?_;refine RL.p rfl rfl (cK.load aG rfl (hA1.at_ (i:=2) rfl rfl)) ?_;refine RL.p rfl rfl (cC az rfl (cA.ext hSx hX)) ?_;refine RL.p rfl rfl (cK.move rfl) ?_;refine RL.nil ?_;refine WP.block ?_;refine WP.loop (fun mz ez uz=>∃i:Nat,(mz=rx - i)∧(ez 4= .slice (none) (0) (0))∧(ez 5= .slice (none) (0) (0))∧(ez 6= .int .i64 (0))∧(ez 7=(e1 19))∧(ez 8=(e1 21))∧(ez 23=sx)∧(ez 24= .int .i64 ((rx:Nat)))∧(ez 25= .int .i64 ((i:Nat)))∧(i≤rx)∧(aF w uz)∧(bc uz g1 28 3 (bP [.int .i64 ((rx:Nat)),.int .i64 ((cx:Nat)),sx]))∧(ee uz (e1 19) w1.heap.size rx b)∧(bD uz (e1 21) 0 zv btv)) (rx - 0) ?_ ?_
  · exact ⟨0,rfl,s4_e1,s5_e1,s6_e1,rfl,rfl,rfl,rfl,rfl,(by omega),hX,hA1,s19_e1,s21_e1⟩
  rintro m1 e2 w3 ⟨i,hm1,s4_e2,s5_e2,s6_e2,s7_e2,s8_e2,s23_e2,s24_e2,s25_e2,hi,hX1,hA1,s19_e1,s21_e1⟩;refine ab ?_;refine RL.p rfl rfl (cK.lss s25_e2 s24_e2) ?_;refine RL.nil ?_;refine WP.seq ?_;refine af (((i:Nat):Int)<((rx:Nat):Int)) rfl (fun c26=> ?_) (fun c26=> ?_)
  ·
   refine WP.skip ?_;refine qf.norm ?_;refine WP.seq ?_;refine WP.block ?_;refine ab ?_;refine RL.p rfl rfl (cK.move s25_e2) ?_;refine RL.x rfl rfl (it (j:=i) az s23_e2 hSx hX1 s25_e2 (by omega) (by omega)) ?_;rintro v1 _ ⟨rfl,q1⟩;refine RL.x rfl rfl (jk aR rfl q1) ?_;rintro v2 _ ⟨rfl,q2⟩;refine RL.p rfl rfl (cK.assign rfl) ?_;refine RL.p rfl rfl (cK.assign rfl) ?_;refine RL.nil ?_;refine ab ?_;refine RL.p rfl rfl (cK.move rfl) ?_;refine RL.x rfl rfl (df.call qz (aN rfl) (kK _ _ _ _ _ (bD.ext q2 hX1))) ?_;rintro _ w4 ⟨hx3,rfl⟩;replace hA1:=bc.ext hA1 hx3;replace s19_e1:=ee.ext s19_e1 hx3;replace s21_e1:=bD.ext s21_e1 hx3;replace hX1:=aF.trans hX1 hx3;refine RL.p rfl rfl (cK.assign rfl) ?_;refine RL.nil ?_;refine ab ?_;refine RL.p rfl rfl (cK.move rfl) ?_;refine RL.p rfl rfl (cK.geq rfl rfl) ?_;refine RL.nil ?_;refine af ((0:Int)≤(piv (Mx i) cx:Int)) rfl (fun hn=>absurd hn ((hnp i))) (fun c33=> ?_);refine WP.skip ?_;refine jp.norm ?_;refine qf.norm ?_;refine WP.region ?_;refine RL.p rfl rfl (cK.add (c:=((i + 1:Nat):Int)) s25_e2 rfl (bY (by omega))) ?_;refine RL.p rfl rfl (cK.move rfl) ?_;refine RL.nil ?_;refine qf.norm ⟨_,(by omega),i + 1,rfl,s4_e2,s5_e2,s6_e2,s7_e2,s8_e2,s23_e2,s24_e2,rfl,(by omega),hX1,hA1,s19_e1,s21_e1⟩
  ·
   refine WP.exit ?_;refine qf.exit ?_;refine qf.exit ?_;refine jp.same ?_;refine qf.norm ?_;refine ab ?_;refine RL.p rfl rfl (cK.move s7_e2) ?_;refine RL.p rfl rfl (cK.move s8_e2) ?_;refine RL.p rfl rfl (cK.assign rfl) ?_;refine RL.p rfl rfl (cK.assign rfl) ?_;refine RL.p rfl rfl (cK.assign rfl) ?_;refine RL.nil ?_;refine WP.ret ?_;refine ⟨.tuple #[(e1 19),(e1 21),.int .i64 (0)],dj (fZ.tmp rfl) (fZ.tmp rfl) (fZ.tmp rfl),_,rfl,hX1,?_⟩;dsimp only;refine .inr ⟨by omega,_,_,rfl,yZ s19_e1 (fun i=>hnp i) (by omega),?_⟩;subst hc0;exact (td s21_e1 (by omega))
end Go.TL
namespace Go.TL
open Go.RowKit Go.Proofs
set_option linter.unusedVariables false
theorem ib (w:World) (x:Value) (rx cx:Nat) (Mx:Nat→Nat→Int) (btx:Nat) (v:Value) (zv:Nat→Int) (btv b:Nat) (hx:cc w x rx cx Mx btx) (hv:bD w v cx zv btv) (hb:btv + rx*(btx + 1)≤b) (hl:b + b + 2≤bp) (hl2:btx≤b):
    Calls Tryz.prog 21 #[x,v] w (cj w fun v w'=>∃vq vr,v= .tuple #[vq,vr,.int .i64 0]∧bD w' vq rx (bU Mx cx zv) b∧bD w' vr cx (bj Mx cx zv rx) b):=by
  rcases Nat.eq_zero_or_pos cx with h0 | h0
  · refine (mK w x rx cx Mx btx v cx zv btv b hx hv h0 (by omega)).mono ?_
    rintro e w' ⟨v,rfl,hx',h⟩;rcases h with ⟨h,_⟩ | ⟨_,h⟩
    · exact absurd rfl h
    · exact ⟨v,rfl,hx',h⟩
  · refine (oW w x rx cx Mx btx v cx zv btv b hx hv h0 hb hl hl2).mono ?_
    rintro e w' ⟨v,rfl,hx',h⟩;rcases h with ⟨h,_⟩ | ⟨_,h⟩
    · exact absurd rfl h
    · exact ⟨v,rfl,hx',h⟩
theorem mJ (w:World) (x:Value) (rx cx:Nat) (Mx:Nat→Nat→Int) (btx:Nat) (v:Value) (nv:Nat) (zv:Nat→Int) (btv:Nat) (hx:cc w x rx cx Mx btx) (hv:bD w v nv zv btv) (hn:nv≠cx) (hl:btv + rx*(btx + 1) + (btv + rx*(btx + 1) + (btx + btx + 2))≤bp):
    Calls Tryz.prog 21 #[x,v] w (cj w fun v w'=>v= .tuple #[.slice none 0 0,.slice none 0 0,.int .i64 50]):=by
  rcases Nat.eq_zero_or_pos cx with h0 | h0
  · refine (mK w x rx cx Mx btx v nv zv btv 0 hx hv h0 (by omega)).mono ?_
    rintro e w' ⟨v,rfl,hx',h⟩;rcases h with ⟨_,h⟩ | ⟨h,_⟩
    · exact ⟨v,rfl,hx',h⟩
    · exact absurd h hn
  · refine (oW w x rx cx Mx btx v nv zv btv (btv + rx*(btx + 1) + btx) hx hv h0 (by omega) (by omega) (by omega)).mono ?_
    rintro e w' ⟨v,rfl,hx',h⟩;rcases h with ⟨_,h⟩ | ⟨h,_⟩
    · exact ⟨v,rfl,hx',h⟩
    · exact absurd h hn
theorem uL (w:World) (x:Value) (rx cx:Nat) (Mx:Nat→Nat→Int) (btx:Nat) (y:Value) (ry cy:Nat) (My:Nat→Nat→Int) (bty b:Nat) (hx:cc w x rx cx Mx btx) (hy:cc w y ry cy My bty) (hxy:cx=ry) (hb:btx + bty + 1≤bp) (hb2:b + 1≤bp)
    (hfit:∀i j k,i<rx→j<cy→k≤cx→(aJ k (fun x=>Mx i x*My x j)).natAbs<2^b):
    Calls Tryz.prog 61 #[x,y] w (cj w fun v w'=>∃v1,v= .tuple #[v1,.int .i64 0]∧cc w' v1 rx cy (bt cx Mx My) b):=by
  refine (A6 w x rx cx Mx btx y ry cy My bty b hx hy hxy hb hb2 hfit).mono ?_;rintro e w' ⟨v,rfl,hx',v1,h1,h2⟩;exact ⟨v,rfl,hx',v1,h1,cJ.matV h2⟩
theorem kE {r n c a b:Nat} {A B:Nat→Nat→Int} (hA:∀i j,i<r→j<n→(A i j).natAbs<2^a) (hB:∀i j,i<n→j<c→(B i j).natAbs<2^b) (hn:n≤16) {d:Nat} (hd:a + b + 5≤d):
    ∀i j k,i<r→j<c→k≤n→(aJ k (fun x=>A i x*B x j)).natAbs<2^d:=by
  intro i j k hi hj hk;have h1:(aJ k (fun x=>A i x*B x j)).natAbs≤k*(2^a*2^b):=iO fun x hx=>by
    rw [Int.natAbs_mul];exact Nat.mul_le_mul (Nat.le_of_lt (hA i x hi (by omega))) (Nat.le_of_lt (hB x j (by omega) hj))
  have h2:k*(2^a*2^b)≤16*(2^a*2^b):=Nat.mul_le_mul_right _ (by omega);have h3:16*(2^a*2^b)<2^(a + b + 5):=by
    rw [Nat.pow_add,Nat.pow_add];have:=Nat.mul_pos (Nat.two_pow_pos a) (Nat.two_pow_pos b);omega
  have h4:2^(a + b + 5)≤2^d:=Nat.pow_le_pow_right (by decide) hd;omega
def bV (rx ca rh ch ru cu rv cv:Nat) (A H U V:Nat→Nat→Int):Prop:=
  (cQ rh ch H∧rh=rx∧ch=ca∧(ru=rx∧cu=rx)∧(rv=rx∧cv=rx))∧aD ru ca rh ch (bt cu U A) H∧aD ru cv rx rx (bt cu U V) dC
instance (rx ca rh ch ru cu rv cv:Nat) (A H U V:Nat→Nat→Int):Decidable (bV rx ca rh ch ru cu rv cv A H U V):=inferInstanceAs (Decidable ((_∧_)∧_))
section
variable {rx ca rh ch ru cu rv cv:Nat} {A H U V:Nat→Nat→Int}
theorem vt (h:bV rx ca rh ch ru cu rv cv A H U V) (c:(((((¬True∨¬cQ rh ch H)∨((rh:Nat):Int)≠((rx:Nat):Int))∨((ch:Nat):Int)≠((ca:Nat):Int))∨¬(ru=rx∧cu=rx))∨¬(rv=rx∧cv=rx))):False:=by
  obtain ⟨⟨h1,h2,h3,h4,h5⟩,_⟩:=h;rcases c with ((((c | c) | c) | c) | c) | c
  · exact c trivial
  · exact c h1
  · exact c (by rw [h2])
  · exact c (by rw [h3])
  · exact c h4
  · exact c h5
theorem xf (c:¬(((((¬True∨¬cQ rh ch H)∨((rh:Nat):Int)≠((rx:Nat):Int))∨((ch:Nat):Int)≠((ca:Nat):Int))∨¬(ru=rx∧cu=rx))∨¬(rv=rx∧cv=rx))):cQ rh ch H∧rh=rx∧ch=ca∧(ru=rx∧cu=rx)∧(rv=rx∧cv=rx):=
  ⟨Decidable.by_contra fun h=>c (.inl (.inl (.inl (.inl (.inr h))))),Decidable.by_contra fun h=>c (.inl (.inl (.inl (.inr (by omega))))),Decidable.by_contra fun h=>c (.inl (.inl (.inr (by omega)))),Decidable.by_contra fun h=>c (.inl (.inr h)),Decidable.by_contra fun h=>c (.inr h)⟩
theorem Bp (c:¬(((¬True∨¬cQ rh ch H)∨((rh:Nat):Int)≠((rx:Nat):Int))∨((ch:Nat):Int)≠((ca:Nat):Int))):cQ rh ch H∧rh=rx∧ch=ca:=
  ⟨Decidable.by_contra fun h=>c (.inl (.inl (.inr h))),Decidable.by_contra fun h=>c (.inl (.inr (by omega))),Decidable.by_contra fun h=>c (.inr (by omega))⟩
theorem zC (h:bV rx ca rh ch ru cu rv cv A H U V) (c:(((¬True∨¬cQ rh ch H)∨((rh:Nat):Int)≠((rx:Nat):Int))∨((ch:Nat):Int)≠((ca:Nat):Int))):False:=
  vt h (.inl (.inl c))
theorem xg (hk:cQ rh ch H∧rh=rx∧ch=ca):(((((((ru:Nat):Int)=((rx:Nat):Int)∧((cu:Nat):Int)=((rx:Nat):Int))∧True)∧((((rv:Nat):Int)=((rx:Nat):Int)∧((cv:Nat):Int)=((rx:Nat):Int))∧True))∧aD ru ca rh ch (bt cu U A) H)∧aD ru cv rx rx (bt cu U V) dC)↔bV rx ca rh ch ru cu rv cv A H U V:=by
  constructor
  · rintro ⟨⟨⟨⟨⟨h1,h2⟩,_⟩,⟨⟨h3,h4⟩,_⟩⟩,h5⟩,h6⟩
    exact ⟨⟨hk.1,hk.2.1,hk.2.2,⟨by omega,by omega⟩,⟨by omega,by omega⟩⟩,h5,h6⟩
  · rintro ⟨⟨_,_,_,⟨h1,h2⟩,⟨h3,h4⟩⟩,h5,h6⟩
    exact ⟨⟨⟨⟨⟨by omega,by omega⟩,trivial⟩,⟨⟨by omega,by omega⟩,trivial⟩⟩,h5⟩,h6⟩
end
end Go.TL
namespace Go.TL
open Go.RowKit Go.Proofs
set_option linter.unusedVariables false
set_option linter.unusedSimpArgs false
set_option maxRecDepth 10000 in
set_option maxHeartbeats 800000 in
theorem nB (w:World) (x:Value) (rx cx:Nat) (Mx:Nat→Nat→Int) (btx:Nat) (s1 s2 s3:Value) (rh ch ru cu rv cv:Nat) (Mh Mu Mv:Nat→Nat→Int) (bh bu bv:Nat) (b:Nat) (hx:cc w x rx cx Mx btx) (h65:rh≤65536∧ch≤65536∧ru≤65536∧cu≤65536∧rv≤65536∧cv≤65536) (hSha:cA w s1 rh ch Mh bh) (hShb:cA w s2 ru cu Mu bu) (hShc:cA w s3 rv cv Mv bv) (h16:rx≤16) (hb1:bu + btx + 5≤b) (hb2:bu + bv + 5≤b) (hl:b + 1≤bp):Calls Tryz.prog 17 #[x,.agg #[.int .i64 (rh:Nat),.int .i64 (ch:Nat),s1,.int .i64 (ru:Nat),.int .i64 (cu:Nat),s2,.int .i64 (rv:Nat),.int .i64 (cv:Nat),s3]] w (cj w fun v w'=>v= .bool (decide (bV rx cx rh ch ru cu rv cv Mx Mh Mu Mv))):=by
 have hLIM:bp=562949953421312:=rfl;have hmatx:=hx;obtain ⟨sx,rfl,hrx,hcx,hSx⟩:=hx.form;refine aj (N:=76) (rs:= #[.tmp 4]) Tryz.func17 rfl rfl rfl (Nat.le_of_ble_eq_true rfl) ?_;have hX:aF w w:=aF.refl w;refine ab ?_;refine RL.x rfl rfl (df.box [.int .i64 ((rx:Nat)),.int .i64 ((cx:Nat)),sx] rfl rfl) ?_;rintro _ w1 ⟨g1,rfl,hge1,hx1,hA1⟩;replace hX:=aF.trans hX hx1;refine RL.x rfl rfl (df.box [.int .i64 ((rh:Nat)),.int .i64 ((ch:Nat)),s1,.int .i64 ((ru:Nat)),.int .i64 ((cu:Nat)),s2,.int .i64 ((rv:Nat)),.int .i64 ((cv:Nat)),s3] rfl rfl) ?_;rintro _ w2 ⟨g2,rfl,hge2,hx2,hA2⟩;replace hA1:=bc.ext hA1 hx2;replace hX:=aF.trans hX hx2;refine RL.p rfl rfl (cK.assign rfl) ?_;refine RL.nil ?_;refine WP.seq ?_;refine aI (hmono:=⟨⟨ac _,ac _,ac _,ac _,bO.imp (ac _),bO.imp (ac _),bO.imp (ac _),bO.imp (ac _),ac _,ac _,bO.imp (ac _),bO.imp (ac _),bO.imp (ac _),bO.imp (ac _),bO.imp (ac _),bO.imp (ac _),ac _,ac _,bO.imp (ac _),bO.imp (ac _),bO.imp (ac _),bO.imp (ac _),bO.imp (ac _),bO.imp (ac _),ac _,ac _,bO.imp (ac _),bO.imp (ac _),bO.imp (ac _),bO.imp (ac _),bO.imp (ac _),bO.imp (ac _),ac _,ac _,bO.imp (ac _),bO.imp (ac _),bO.imp (ac _),bO.imp (ac _),bO.imp (ac _),bO.imp (ac _),ac _,trivial⟩⟩) am 41 (_::(fun v BZ=>v= .bool (decide (True)))::_::(fun v BZ=>v= .bool (decide (¬(True))))::_::_::(fun v BZ=>(¬(¬(True)))→(v= .bool (decide (cQ rh ch Mh))))::_::_::(fun v BZ=>v= .bool (decide ((¬(True))∨(¬(cQ rh ch Mh)))))::_:: [_,_,_,_,_,_,fun v BZ=>v= .bool (decide (((¬(True))∨(¬(cQ rh ch Mh)))∨(((rh:Nat):Int)≠((rx:Nat):Int)))),_,_,_,_,_,_,_,fun v BZ=>v= .bool (decide ((((¬(True))∨(¬(cQ rh ch Mh)))∨(((rh:Nat):Int)≠((rx:Nat):Int)))∨(((ch:Nat):Int)≠((cx:Nat):Int)))),_,_,_,_,fun v BZ=>(¬((((¬(True))∨(¬(cQ rh ch Mh)))∨(((rh:Nat):Int)≠((rx:Nat):Int)))∨(((ch:Nat):Int)≠((cx:Nat):Int))))→(v= .bool (decide (ru=rx∧cu=rx))),_,_,fun v BZ=>v= .bool (decide (((((¬(True))∨(¬(cQ rh ch Mh)))∨(((rh:Nat):Int)≠((rx:Nat):Int)))∨(((ch:Nat):Int)≠((cx:Nat):Int)))∨(¬(ru=rx∧cu=rx)))),_,_,_,_,fun v BZ=>(¬(((((¬(True))∨(¬(cQ rh ch Mh)))∨(((rh:Nat):Int)≠((rx:Nat):Int)))∨(((ch:Nat):Int)≠((cx:Nat):Int)))∨(¬(ru=rx∧cu=rx))))→(v= .bool (decide (rv=rx∧cv=rx))),_,_]) rfl rfl (fun e_ w_ BY BX=>⟨fun _=>aa (ah [.int .i64 ((rx:Nat)),.int .i64 ((cx:Nat)),sx] aZ ((BX 2 rfl rfl)) ((bc.ext hA1 BY).cells 0 _ rfl rfl)),fun BW=>df.call tw (aN ((BW 0 rfl))) (oS _ _ _ _ _ _ (cc.mk (cA.ext (cA.ext hSx hX) BY) (by omega) (by omega))),fun BW=>aa (cK.not (p:=True) (BW 1 rfl)),fun BW=>aa (cK.move ((BW 2 rfl))),fun BW=>gF (BW 3 rfl) fun hg=>aa (cK.fieldAddr et ((BX 3 rfl rfl))),fun BW=>gF (BW 3 rfl) fun hg=>aa (ah [.int .i64 ((rh:Nat)),.int .i64 ((ch:Nat)),s1] aZ ((BW 4 rfl hg)) ((bc.ext hA2 BY).cells 0 _ rfl rfl)),fun BW=>gF (BW 3 rfl) fun hg=>df.call ol (aN ((BW 5 rfl hg))) (rl _ _ _ _ _ _ (cc.mk (cA.ext (cA.ext hSha hX) BY) (by omega) (by omega))),fun BW=>gF (BW 3 rfl) fun hg=>aa (cK.not (p:=cQ rh ch Mh) (BW 6 rfl hg)),fun BW=>aa (bo (p:=¬(True)) (q:=¬(cQ rh ch Mh)) (BW 3 rfl) (fun hq=>(BW 7 rfl hq))),fun BW=>aa (cK.move ((BW 8 rfl))),fun BW=>gF (BW 9 rfl) fun hg=>aa (cK.fieldAddr et ((BX 3 rfl rfl))),fun BW=>gF (BW 9 rfl) fun hg=>aa (cK.fieldAddr bk ((BW 10 rfl hg))),fun BW=>gF (BW 9 rfl) fun hg=>aa (cK.load bI ((BW 11 rfl hg)) ((bc.ext hA2 BY).at_ (i:=0) rfl rfl)),fun BW=>gF (BW 9 rfl) fun hg=>aa (cK.fieldAddr bk ((BX 2 rfl rfl))),fun BW=>gF (BW 9 rfl) fun hg=>aa (cK.load bI ((BW 13 rfl hg)) ((bc.ext hA1 BY).at_ (i:=0) rfl rfl)),fun BW=>gF (BW 9 rfl) fun hg=>aa (cK.neq ((BW 12 rfl hg)) ((BW 14 rfl hg))),fun BW=>aa (bo (p:=(¬(True))∨(¬(cQ rh ch Mh))) (q:=((rh:Nat):Int)≠((rx:Nat):Int)) (BW 9 rfl) (fun hq=>(BW 15 rfl hq))),fun BW=>aa (cK.move ((BW 16 rfl))),fun BW=>gF (BW 17 rfl) fun hg=>aa (cK.fieldAddr et ((BX 3 rfl rfl))),fun BW=>gF (BW 17 rfl) fun hg=>aa (cK.fieldAddr bG ((BW 18 rfl hg))),fun BW=>gF (BW 17 rfl) fun hg=>aa (cK.load bI ((BW 19 rfl hg)) ((bc.ext hA2 BY).at_ (i:=1) rfl rfl)),fun BW=>gF (BW 17 rfl) fun hg=>aa (cK.fieldAddr bG ((BX 2 rfl rfl))),fun BW=>gF (BW 17 rfl) fun hg=>aa (cK.load bI ((BW 21 rfl hg)) ((bc.ext hA1 BY).at_ (i:=1) rfl rfl)),fun BW=>gF (BW 17 rfl) fun hg=>aa (cK.neq ((BW 20 rfl hg)) ((BW 22 rfl hg))),fun BW=>aa (bo (p:=((¬(True))∨(¬(cQ rh ch Mh)))∨(((rh:Nat):Int)≠((rx:Nat):Int))) (q:=((ch:Nat):Int)≠((cx:Nat):Int)) (BW 17 rfl) (fun hq=>(BW 23 rfl hq))),fun BW=>aa (cK.move ((BW 24 rfl))),fun BW=>gF (BW 25 rfl) fun hg=>aa (cK.fieldAddr gQ ((BX 3 rfl rfl))),fun BW=>gF (BW 25 rfl) fun hg=>aa (ah [.int .i64 ((ru:Nat)),.int .i64 ((cu:Nat)),s2] aZ ((BW 26 rfl hg)) ((bc.ext hA2 BY).cells 3 _ rfl rfl)),fun BW=>gF (BW 25 rfl) fun hg=>aa (cK.fieldAddr bk ((BX 2 rfl rfl))),fun BW=>gF (BW 25 rfl) fun hg=>aa (cK.load bI ((BW 28 rfl hg)) ((bc.ext hA1 BY).at_ (i:=0) rfl rfl)),fun BW=>gF (BW 25 rfl) fun hg=>df.call xO (aw ((BW 27 rfl hg)) ((BW 29 rfl hg))) (rj _ _ _ _ _ _ rx (cc.mk (cA.ext (cA.ext hShb hX) BY) (by omega) (by omega))),fun BW=>gF (BW 25 rfl) fun hg=>aa (cK.not (p:=ru=rx∧cu=rx) (BW 30 rfl hg)),fun BW=>aa (bo (p:=(((¬(True))∨(¬(cQ rh ch Mh)))∨(((rh:Nat):Int)≠((rx:Nat):Int)))∨(((ch:Nat):Int)≠((cx:Nat):Int))) (q:=¬(ru=rx∧cu=rx)) (BW 25 rfl) (fun hq=>(BW 31 rfl hq))),fun BW=>aa (cK.move ((BW 32 rfl))),fun BW=>gF (BW 33 rfl) fun hg=>aa (cK.fieldAddr kB ((BX 3 rfl rfl))),fun BW=>gF (BW 33 rfl) fun hg=>aa (ah [.int .i64 ((rv:Nat)),.int .i64 ((cv:Nat)),s3] aZ ((BW 34 rfl hg)) ((bc.ext hA2 BY).cells 6 _ rfl rfl)),fun BW=>gF (BW 33 rfl) fun hg=>aa (cK.fieldAddr bk ((BX 2 rfl rfl))),fun BW=>gF (BW 33 rfl) fun hg=>aa (cK.load bI ((BW 36 rfl hg)) ((bc.ext hA1 BY).at_ (i:=0) rfl rfl)),fun BW=>gF (BW 33 rfl) fun hg=>df.call xO (aw ((BW 35 rfl hg)) ((BW 37 rfl hg))) (rj _ _ _ _ _ _ rx (cc.mk (cA.ext (cA.ext hShc hX) BY) (by omega) (by omega))),fun BW=>gF (BW 33 rfl) fun hg=>aa (cK.not (p:=rv=rx∧cv=rx) (BW 38 rfl hg)),fun BW=>aa (bo (p:=((((¬(True))∨(¬(cQ rh ch Mh)))∨(((rh:Nat):Int)≠((rx:Nat):Int)))∨(((ch:Nat):Int)≠((cx:Nat):Int)))∨(¬(ru=rx∧cu=rx))) (q:=¬(rv=rx∧cv=rx)) (BW 33 rfl) (fun hq=>(BW 39 rfl hq))),trivial⟩) ?_;intro e1 w3 hx3 ho1 hf1;replace hA1:=bc.ext hA1 hx3;replace hA2:=bc.ext hA2 hx3;replace hX:=aF.trans hX hx3;have s2_e1:e1 2=_:=ho1 2 rfl rfl;have s3_e1:e1 3=_:=ho1 3 rfl rfl;have s49_e1:e1 49=_:=hf1 40 rfl;refine RL.nil ?_;refine af ((((((¬(True))∨(¬(cQ rh ch Mh)))∨(((rh:Nat):Int)≠((rx:Nat):Int)))∨(((ch:Nat):Int)≠((cx:Nat):Int)))∨(¬(ru=rx∧cu=rx)))∨(¬(rv=rx∧cv=rx))) s49_e1 (fun c49=> ?_) (fun c49=> ?_)
 ·
  refine ab ?_;refine RL.p rfl rfl (cK.assign rfl) ?_;refine RL.nil ?_;refine WP.ret ?_;refine qf.ret ?_;refine ⟨.bool (false),Bu.one (fZ.tmp rfl),_,rfl,hX,?_⟩;dsimp only;exact congrArg _ (decide_eq_false fun h=>vt h c49).symm
 ·
  refine WP.skip ?_;refine qf.norm ?_;obtain ⟨hka,hkb,hkc,hkd,hke⟩:=xf c49;refine ab ?_;refine RL.p rfl rfl (cK.fieldAddr gQ s3_e1) ?_;refine RL.p rfl rfl (ah [.int .i64 ((ru:Nat)),.int .i64 ((cu:Nat)),s2] aZ rfl (hA2.cells 3 _ rfl rfl)) ?_;refine RL.p rfl rfl (ah [.int .i64 ((rx:Nat)),.int .i64 ((cx:Nat)),sx] aZ s2_e1 (hA1.cells 0 _ rfl rfl)) ?_;refine RL.x rfl rfl (df.call xN (aw rfl rfl) (uL _ _ _ _ _ _ _ _ _ _ _ b (cc.mk (cA.ext hShb hX) (by omega) (by omega)) (cc.mk (cA.ext hSx hX) (by omega) (by omega)) (by omega) (by omega) (by omega) (kE (cA.bd hShb) (by rw [show cu=rx by omega];exact cA.bd hSx) (by omega) (by omega)))) ?_;rintro _ w4 ⟨hx4,v1,rfl,q1⟩;replace hA1:=bc.ext hA1 hx4;replace hA2:=bc.ext hA2 hx4;replace hX:=aF.trans hX hx4;refine RL.p rfl rfl (cK.move rfl) ?_;refine RL.p rfl rfl (cK.extract rfl rfl) ?_;refine RL.p rfl rfl (cK.extract rfl rfl) ?_;refine RL.x rfl rfl (df.alloc [.int .i64 (0),.int .i64 (0),.slice (none) (0) (0)] co rfl) ?_;rintro _ w5 ⟨g3,rfl,hge3,hx5,hA3⟩;have ne2:g1≠g3:=Nat.ne_of_lt (Nat.lt_of_lt_of_le hA1.lt hge3);have ne3:g2≠g3:=Nat.ne_of_lt (Nat.lt_of_lt_of_le hA2.lt hge3);have hbs3:w.heap.size≤g3:=Nat.le_trans hX.size hge3;replace hA1:=bc.ext hA1 hx5;replace hA2:=bc.ext hA2 hx5;replace q1:=cc.ext q1 hx5;replace hX:=aF.trans hX hx5;obtain ⟨sv1,hq1,hr1,hc1,hS1⟩:=q1.form;refine RL.x rfl rfl (df.store [.int .i64 ((ru:Nat)),.int .i64 ((cx:Nat)),sv1] cX rfl hq1 rfl hA3 (Nat.le_of_ble_eq_true rfl) (cY rfl rfl hS1.one)) ?_;rintro _ w6 ⟨hk1,hnew⟩;replace hA1:=hA1.keep hk1 ne2;replace hA2:=hA2.keep hk1 ne3;replace hS1:=bM hS1 hk1 hA3 (by decide);replace hX:=hX.step hk1 (fun b e=>by subst e;exact hbs3);replace hA3:=hnew.lit [.int .i64 ((ru:Nat)),.int .i64 ((cx:Nat)),sv1] rfl;clear hnew;refine RL.p rfl rfl (cK.assign rfl) ?_;refine RL.nil ?_;refine ab ?_;refine RL.p rfl rfl (cK.fieldAddr gQ s3_e1) ?_;refine RL.p rfl rfl (ah [.int .i64 ((ru:Nat)),.int .i64 ((cu:Nat)),s2] aZ rfl (hA2.cells 3 _ rfl rfl)) ?_;refine RL.p rfl rfl (cK.fieldAddr kB s3_e1) ?_;refine RL.p rfl rfl (ah [.int .i64 ((rv:Nat)),.int .i64 ((cv:Nat)),s3] aZ rfl (hA2.cells 6 _ rfl rfl)) ?_;refine RL.x rfl rfl (df.call xN (aw rfl rfl) (uL _ _ _ _ _ _ _ _ _ _ _ b (cc.mk (cA.ext hShb hX) (by omega) (by omega)) (cc.mk (cA.ext hShc hX) (by omega) (by omega)) (by omega) (by omega) (by omega) (kE (cA.bd hShb) (by rw [show cu=rv by omega];exact cA.bd hShc) (by omega) (by omega)))) ?_;rintro _ w7 ⟨hx6,v2,rfl,q2⟩;replace hA1:=bc.ext hA1 hx6;replace hA2:=bc.ext hA2 hx6;replace hA3:=bc.ext hA3 hx6;replace hS1:=cA.ext hS1 hx6;replace hX:=aF.trans hX hx6;refine RL.p rfl rfl (cK.move rfl) ?_;refine RL.p rfl rfl (cK.extract rfl rfl) ?_;refine RL.p rfl rfl (cK.extract rfl rfl) ?_;refine RL.x rfl rfl (df.alloc [.int .i64 (0),.int .i64 (0),.slice (none) (0) (0)] co rfl) ?_;rintro _ w8 ⟨g4,rfl,hge4,hx7,hA4⟩;have ne4:g1≠g4:=Nat.ne_of_lt (Nat.lt_of_lt_of_le hA1.lt hge4);have ne5:g2≠g4:=Nat.ne_of_lt (Nat.lt_of_lt_of_le hA2.lt hge4);have ne6:g3≠g4:=Nat.ne_of_lt (Nat.lt_of_lt_of_le hA3.lt hge4);have hbs4:w.heap.size≤g4:=Nat.le_trans hX.size hge4;replace hA1:=bc.ext hA1 hx7;replace hA2:=bc.ext hA2 hx7;replace hA3:=bc.ext hA3 hx7;replace hS1:=cA.ext hS1 hx7;replace q2:=cc.ext q2 hx7;replace hX:=aF.trans hX hx7;obtain ⟨sv2,hq2,hr2,hc2,hS2⟩:=q2.form;refine RL.x rfl rfl (df.store [.int .i64 ((ru:Nat)),.int .i64 ((cv:Nat)),sv2] cX rfl hq2 rfl hA4 (Nat.le_of_ble_eq_true rfl) (cY rfl rfl hS2.one)) ?_;rintro _ w9 ⟨hk2,hnew⟩;replace hA1:=hA1.keep hk2 ne4;replace hA2:=hA2.keep hk2 ne5;replace hA3:=hA3.keep hk2 ne6;replace hS1:=bM hS1 hk2 hA4 (by decide);replace hS2:=bM hS2 hk2 hA4 (by decide);replace hX:=hX.step hk2 (fun b e=>by subst e;exact hbs4);replace hA4:=hnew.lit [.int .i64 ((ru:Nat)),.int .i64 ((cv:Nat)),sv2] rfl;clear hnew;refine RL.p rfl rfl (cK.assign rfl) ?_;refine RL.nil ?_;have hBw1:w.heap.size≤w9.heap.size:=hX.size;refine aI am 11 [_,_,_,fun v BZ=>v= .bool (decide (aD ru cx rh ch (bt cu Mu Mx) Mh)),fun v BZ=>v= .bool (decide (aD ru cx rh ch (bt cu Mu Mx) Mh)),_,_,_,fun v BZ=>(aD ru cx rh ch (bt cu Mu Mx) Mh)→(cJ BZ v w9.heap.size rx rx dC 1),fun v BZ=>(aD ru cx rh ch (bt cu Mu Mx) Mh)→(v= .bool (decide (aD ru cv rx rx (bt cu Mu Mv) dC))),_] rfl rfl (fun e_ w_ BY BX=>⟨fun _=>aa (ah [.int .i64 ((ru:Nat)),.int .i64 ((cx:Nat)),sv1] aZ ((BX 5 rfl rfl)) ((bc.ext hA3 BY).cells 0 _ rfl rfl)),fun _=>aa (cK.fieldAddr et ((BX 3 rfl s3_e1))),fun BW=>aa (ah [.int .i64 ((rh:Nat)),.int .i64 ((ch:Nat)),s1] aZ ((BW 1 rfl)) ((bc.ext hA2 BY).cells 0 _ rfl rfl)),fun BW=>df.call xM (aw ((BW 0 rfl)) ((BW 2 rfl))) (qY _ _ _ _ _ _ _ _ _ _ _ (cc.mk (cA.ext hS1 BY) (by omega) (by omega)) (cc.mk (cA.ext (cA.ext hSha hX) BY) (by omega) (by omega))),fun BW=>aa (cK.move ((BW 3 rfl))),fun BW=>gT (BW 4 rfl) fun hg=>aa (ah [.int .i64 ((ru:Nat)),.int .i64 ((cv:Nat)),sv2] aZ ((BX 7 rfl rfl)) ((bc.ext hA4 BY).cells 0 _ rfl rfl)),fun BW=>gT (BW 4 rfl) fun hg=>aa (cK.fieldAddr bk ((BX 2 rfl s2_e1))),fun BW=>gT (BW 4 rfl) fun hg=>aa (cK.load bI ((BW 6 rfl hg)) ((bc.ext hA1 BY).at_ (i:=0) rfl rfl)),fun BW=>gT (BW 4 rfl) fun hg=>df.mono (df.call tC (aN ((BW 7 rfl hg))) (iw _ rx (by omega))) fun v B0 hv=>⟨hv.1,cJ.low hv.2 BY.size⟩,fun BW=>gT (BW 4 rfl) fun hg=>df.call xM (aw ((BW 5 rfl hg)) rfl) (qY _ _ _ _ _ _ _ _ _ _ _ (cc.mk (cA.ext hS2 BY) (by omega) (by omega)) (cJ.matV (BW 8 rfl hg))),fun BW=>aa (ay (p:=aD ru cx rh ch (bt cu Mu Mx) Mh) (q:=aD ru cv rx rx (bt cu Mu Mv) dC) (BW 4 rfl) (fun hq=>(BW 9 rfl hq))),trivial⟩) ?_;intro e2 w10 hx8 ho2 hf2;replace hX:=aF.trans hX hx8;have s75_e2:e2 75=_:=hf2 10 rfl;refine RL.p rfl rfl (cK.assign s75_e2) ?_;refine RL.nil ?_;refine WP.ret ?_;refine ⟨.bool (decide ((aD ru cx rh ch (bt cu Mu Mx) Mh)∧(aD ru cv rx rx (bt cu Mu Mv) dC))),Bu.one (fZ.tmp rfl),_,rfl,hX,?_⟩;dsimp only;exact congrArg _ (decide_eq_decide.2 ⟨fun h=>⟨⟨hka,hkb,hkc,hkd,hke⟩,h⟩,fun h=>h.2⟩)
end Go.TL
namespace Go.TL
set_option linter.unusedVariables false
def zI (r c:Nat) (M0:Nat→Nat→Int) (v:Nat→Int):Prop:=∀u:Nat→Int,(∀i,i<r→aJ c (fun j=>u j*M0 i j)=0)→aJ c (fun j=>v j*u j)=0
theorem qD (u v:Nat→Int) (n:Nat):aJ n (fun j=>u j*v j)=aJ n (fun j=>v j*u j):=aM fun _ _=>Int.mul_comm _ _
theorem kd {r c k k1:Nat} {M0 K1 M:Nat→Nat→Int} (h1:∀u,fz k1 c K1 u↔zM c r (yo M0) u) (h2:∀v,fz k c M v↔zM c k1 (yo K1) v) (v:Nat→Int):fz k c M v↔zI r c M0 v:=by
  rw [h2]
  constructor
  · intro hk u hu
    obtain ⟨a,ha⟩:=(h1 u).2 fun j hj=>hu j hj
    have e1:aJ c (fun j=>v j*u j)=aJ c (fun j=>u j*v j):=qD _ _ _;have e2:aJ c (fun j=>u j*v j)=aJ c (fun j=>aJ k1 (fun x=>a x*K1 x j)*v j):=aM fun j hj=>by rw [ha j hj]
    have e3:aJ c (fun j=>aJ k1 (fun x=>a x*K1 x j)*v j)=aJ k1 (fun x=>a x*aJ c (fun j=>K1 x j*v j)):=(eb k1 c a K1 (fun j _=>v j) 0).symm;rw [e1,e2,e3];refine di fun x hx=> ?_
    have e4:aJ c (fun j=>K1 x j*v j)=aJ c (fun j=>v j*yo K1 j x):=qD _ _ _;rw [e4,hk x hx,Int.mul_zero]
  · intro hs x hx
    exact hs (K1 x) fun i hi=>(h1 (K1 x)).1 (fz.row hx) i hi
theorem rM.lat {r c e0 k:Nat} {M0 M:Nat→Nat→Int} (h:rM r c e0 M0 k M):(∃P,eM k c M P)∧∀v,fz k c M v↔zI r c M0 v:=by
  obtain ⟨k1,K1,a1,a2⟩:=h;exact ⟨a2.lat.1,kd a1.lat.2 a2.lat.2⟩
theorem Bt.lat {r c e0 e1 k:Nat} {M0 M:Nat→Nat→Int} (h:Bt r c e0 e1 M0 k M):(∃P,eM k c M P)∧∀v,fz k c M v↔zI r c M0 v:=by
  obtain ⟨k1,K1,a1,a2⟩:=h;exact ⟨a2.lat.1,kd a1.lat.2 a2.lat.2⟩
end Go.TL
namespace Go.TL
open Go.RowKit Go.Proofs
set_option linter.unusedVariables false
def rP (w:World) (v:Value) (r c e0:Nat) (M0:Nat→Nat→Int) (b:Nat):Prop:=∃k M,gK r c e0 M0 k M∧cc w v k r M b
theorem rP.ext {w w':World} {v:Value} {r c e0 b:Nat} {M0:Nat→Nat→Int} (h:rP w v r c e0 M0 b) (hx:aF w w'):rP w' v r c e0 M0 b:=by obtain ⟨k,S,h1,h2⟩:=h;exact ⟨k,S,h1,h2.ext hx⟩
theorem pP (r c e0:Nat) (M0:Nat→Nat→Int) (b:Nat):bO (fun v w=>rP w v r c e0 M0 b):=fun _ _ _ h hx=>h.ext hx
instance (r c e0:Nat) (M0:Nat→Nat→Int) (b:Nat):Nonempty (bO (fun v w=>rP w v r c e0 M0 b)):=⟨pP r c e0 M0 b⟩
end Go.TL
namespace Go.TL
set_option linter.unusedVariables false
def aB (a b:Int):Nat→Nat→Int:=fun _ j=>if j=0 then a else b
end Go.TL
namespace Go.TL
open Go.RowKit Go.Proofs
set_option linter.unusedVariables false
def f2 (a b:Int):Nat→Int:=fun i=>if i=0 then a else b
def f4 (a b c d:Int):Nat→Int:=fun i=>if i=0 then a else if i=1 then b else if i=2 then c else d
def xe (a b:Int):Nat→Nat→Int:=fun i _=>if i=0 then a else b
def aS (a b c d:Int):Nat→Nat→Int:=fun i j=>if i=0 then (if j=0 then a else b) else (if j=0 then c else d)
theorem qT {w:World} {g T m:Nat} {a b:Int} (hA:bc w g T 2 (bP [.int .i64 a,.int .i64 b])):eg .i64 m w (.slice (some ⟨g,0,none⟩) 2 2) 2 (f2 a b):=
  ⟨_,_,rfl,Nat.le_refl _,by decide,fun _=>⟨g,0,rfl,fun i hi=>by
    rw [Nat.zero_add];have:=hA.cell hi;rcases (by omega:i=0∨i=1) with rfl | rfl
    · exact this
    · exact this⟩⟩
theorem qS {w:World} {g T m:Nat} {a b c d:Int} (hA:bc w g T 4 (bP [.int .i64 a,.int .i64 b,.int .i64 c,.int .i64 d])):eg .i64 m w (.slice (some ⟨g,0,none⟩) 4 4) 4 (f4 a b c d):=
  ⟨_,_,rfl,Nat.le_refl _,by decide,fun _=>⟨g,0,rfl,fun i hi=>by
    rw [Nat.zero_add];have:=hA.cell hi;rcases (by omega:i=0∨i=1∨i=2∨i=3) with rfl | rfl | rfl | rfl
    · exact this
    · exact this
    · exact this
    · exact this⟩⟩
section
variable {w:World} {l x y:Value} {a b c d:Int}
theorem lD (hl:eg .i64 2 w l 2 (f2 a b)) (ha:a.natAbs<16) (hb:b.natAbs<16):Calls Tryz.prog 36 #[.int .i64 1,.int .i64 2,l] w (cj w fun v w'=>cJ w' v w.heap.size 1 2 (aB a b) 4):=by
  have hf:∀i,i<2→(f2 a b i).natAbs<16:=fun i _=>by unfold f2;split<;>assumption
  refine (ni w 1 2 l 2 (f2 a b) 4 (by decide) (by decide) hl (by decide) (fun i hi=>by have:=hf i hi;omega) (fun i hi=>hf i hi)).mono fun _ w' ⟨v,g1,g2,g3⟩=>⟨v,g1,g2,cJ.congr g3 fun i j hi hj=> ?_⟩
  have:i=0:=by omega
  subst this
  unfold fp f2 aB
  rw [if_pos (by omega),show 0*2 + j=j by omega]
theorem uh (hl:eg .i64 2 w l 2 (f2 a b)) (ha:a.natAbs<16) (hb:b.natAbs<16):Calls Tryz.prog 36 #[.int .i64 2,.int .i64 1,l] w (cj w fun v w'=>cJ w' v w.heap.size 2 1 (xe a b) 4):=by
  have hf:∀i,i<2→(f2 a b i).natAbs<16:=fun i _=>by unfold f2;split<;>assumption
  refine (ni w 2 1 l 2 (f2 a b) 4 (by decide) (by decide) hl (by decide) (fun i hi=>by have:=hf i hi;omega) (fun i hi=>hf i hi)).mono fun _ w' ⟨v,g1,g2,g3⟩=>⟨v,g1,g2,cJ.congr g3 fun i j hi hj=> ?_⟩
  have:j=0:=by omega
  subst this
  unfold fp f2 xe
  rw [if_pos (by omega),show i*1 + 0=i by omega]
theorem iY (hl:eg .i64 2 w l 4 (f4 a b c d)) (ha:a.natAbs<16∧b.natAbs<16) (hb:c.natAbs<16∧d.natAbs<16):Calls Tryz.prog 36 #[.int .i64 2,.int .i64 2,l] w (cj w fun v w'=>cJ w' v w.heap.size 2 2 (aS a b c d) 4):=by
  have hf:∀i,i<4→(f4 a b c d i).natAbs<16:=fun i _=>by unfold f4;split<;>(try split)<;>(try split)<;>omega
  refine (ni w 2 2 l 4 (f4 a b c d) 4 (by decide) (by decide) hl (by decide) (fun i hi=>by have:=hf i hi;omega) (fun i hi=>hf i hi)).mono fun _ w' ⟨v,g1,g2,g3⟩=>⟨v,g1,g2,cJ.congr g3 fun i j hi hj=> ?_⟩
  unfold fp f4 aS
  rw [if_pos (by omega)];rcases (by omega:i=0∨i=1) with rfl | rfl<;>rcases (by omega:j=0∨j=1) with rfl | rfl<;>rfl
end
theorem nl (w:World) (c:Nat) (hc:c≤65536):cc w (.agg #[.int .i64 ((0:Nat):Int),.int .i64 ((c:Nat):Int),.slice none 0 0]) 0 c (fun _ _=>0) 4:=
  cc.mk ⟨none,0,rfl,Nat.le_refl _,⟨by decide,by decide,by decide⟩,fun h=>by omega⟩ (by decide) hc
theorem nk {e:cE} {i j l m:Nat} {x y z o:Operand} {v u t s:Value} (h:ev e x=v) (k:ev e y=u) (n:ev e z=t) (q:ev e o=s):
    #[(i,x),(j,y),(l,z),(m,o)].toList.map (fun p:Nat×Operand=>(p.1,ev e p.2))= [(i,v),(j,u),(l,t),(m,s)]:=by simp [h,k,n,q]
end Go.TL
namespace Go.TL
open Go.RowKit Go.Proofs
set_option linter.unusedVariables false
set_option linter.unusedSimpArgs false
set_option maxRecDepth 10000 in
set_option maxHeartbeats 800000 in
theorem BG (w:World) (x:Value) (rx cx:Nat) (Mx:Nat→Nat→Int) (btx:Nat) (hx:cc w x rx cx Mx btx) (hb1:btx + 1≤bp):Calls Tryz.prog 19 #[x] w (cj w fun v w'=>v= .bool (decide (cQ rx cx Mx))):=by
 have hLIM:bp=562949953421312:=rfl;have hmatx:=hx;obtain ⟨sx,rfl,hrx,hcx,hSx⟩:=hx.form;refine aj (N:=79) (rs:= #[.tmp 2]) Tryz.func19 rfl rfl rfl (Nat.le_of_ble_eq_true rfl) ?_;have hX:aF w w:=aF.refl w;refine ab ?_;refine RL.x rfl rfl (df.box [.int .i64 ((rx:Nat)),.int .i64 ((cx:Nat)),sx] rfl rfl) ?_;rintro _ w1 ⟨g1,rfl,hge1,hx1,hA1⟩;replace hX:=aF.trans hX hx1;refine RL.p rfl rfl (cK.assign rfl) ?_;refine RL.nil ?_;refine ab ?_;refine RL.p rfl rfl (ah [.int .i64 ((rx:Nat)),.int .i64 ((cx:Nat)),sx] aZ rfl (hA1.cells 0 _ rfl rfl)) ?_;refine RL.x rfl rfl (df.call tA (aN rfl) (lC _ _ _ _ _ _ (cc.mk (cA.ext hSx hX) (by omega) (by omega)))) ?_;rintro _ w2 ⟨hx2,rfl⟩;replace hA1:=bc.ext hA1 hx2;replace hX:=aF.trans hX hx2;refine RL.p rfl rfl (cK.assign rfl) ?_;refine RL.nil ?_;refine WP.seq ?_;refine ab ?_;refine RL.p rfl rfl (cK.move rfl) ?_;refine RL.p rfl rfl (cK.not (p:=True) rfl) ?_;refine RL.nil ?_;refine af (¬(True)) rfl (fun c11=> ?_) (fun c11=> ?_)
 ·
  refine ab ?_;refine RL.p rfl rfl (cK.assign rfl) ?_;refine RL.nil ?_;refine WP.ret ?_;refine qf.ret ?_;refine ⟨.bool (false),Bu.one (fZ.tmp rfl),_,rfl,hX,?_⟩;dsimp only;exact absurd trivial c11
 ·
  refine WP.skip ?_;refine qf.norm ?_;refine ab ?_;refine RL.p rfl rfl (cK.assign rfl) ?_;refine RL.nil ?_;refine WP.seq ?_;refine ab ?_;refine RL.p rfl rfl (cK.assign rfl) ?_;refine RL.nil ?_;refine WP.block ?_;refine WP.loop (fun mz ez uz=>∃i:Nat,(mz=rx - i)∧(ez 1= .pointer (some ⟨g1,0,none⟩))∧(ez 4= .int .i64 (lastP Mx cx i))∧(ez 5= .int .i64 ((i:Nat)))∧(i≤rx)∧(∀a,a<i→jo Mx cx a)∧(aF w uz)∧(bc uz g1 28 3 (bP [.int .i64 ((rx:Nat)),.int .i64 ((cx:Nat)),sx]))) (rx - 0) ?_ ?_
  · exact ⟨0,rfl,rfl,rfl,rfl,(by omega),(fun a ha=>absurd ha (by omega)),hX,hA1⟩
  rintro m1 e1 w3 ⟨i,hm1,s1_e1,s4_e1,s5_e1,hi,hok,hX1,hA1⟩;refine WP.seq ?_;refine ab ?_;refine RL.p rfl rfl (cK.move s5_e1) ?_;refine RL.p rfl rfl (cK.fieldAddr bk s1_e1) ?_;refine RL.p rfl rfl (cK.load bI rfl (hA1.at_ (i:=0) rfl rfl)) ?_;refine RL.p rfl rfl (cK.lss rfl rfl) ?_;refine RL.nil ?_;refine af (((i:Nat):Int)<((rx:Nat):Int)) rfl (fun c15=> ?_) (fun c15=> ?_)
  ·
   refine WP.skip ?_;refine qf.norm ?_;refine WP.seq ?_;refine WP.block ?_;refine ab ?_;refine RL.p rfl rfl (cK.fieldAddr aq s1_e1) ?_;refine RL.p rfl rfl (cK.load aG rfl (hA1.at_ (i:=2) rfl rfl)) ?_;refine RL.p rfl rfl (cK.move s5_e1) ?_;refine RL.x rfl rfl (aP (j:=i) az rfl (cA.ext hSx hX1) rfl (by omega) (by omega)) ?_;rintro v1 _ ⟨rfl,q1⟩;refine RL.x rfl rfl (aV aR rfl q1) ?_;rintro v2 _ ⟨rfl,q2⟩;refine RL.x rfl rfl (df.call xL (aN rfl) (qL _ _ _ _ _ q2)) ?_;rintro _ w4 ⟨hx3,rfl⟩;replace hA1:=bc.ext hA1 hx3;replace hX1:=aF.trans hX1 hx3;refine RL.p rfl rfl (cK.assign rfl) ?_;refine RL.nil ?_;refine WP.seq ?_;refine ab ?_;refine RL.p rfl rfl (cK.move rfl) ?_;refine RL.p rfl rfl (cK.lss rfl rfl) ?_;refine RL.nil ?_;refine af ((piv (Mx i) cx:Int)<(0:Int)) rfl (fun c25=> ?_) (fun c25=> ?_)
   ·
    refine ab ?_;refine RL.p rfl rfl (cK.fieldAddr bG s1_e1) ?_;refine RL.p rfl rfl (cK.load bI rfl (hA1.at_ (i:=1) rfl rfl)) ?_;refine RL.p rfl rfl (cK.assign rfl) ?_;refine RL.nil ?_;refine WP.exit ?_;refine qf.exit ?_;refine jp.same ?_;refine qf.norm ?_;refine WP.region ?_;refine RL.p rfl rfl (cK.move s5_e1) ?_;refine RL.p rfl rfl (cK.add (c:=((i + 1:Nat):Int)) rfl rfl (bY (by omega))) ?_;refine RL.p rfl rfl (cK.assign rfl) ?_;refine RL.nil ?_;refine qf.norm ⟨_,(by omega),i + 1,rfl,s1_e1,(congrArg (Value.int .i64) (jL c25)),rfl,(by omega),(er hok (.inl c25)),hX1,hA1⟩
   ·
    refine WP.skip ?_;refine qf.norm ?_;refine WP.seq ?_;have hpa:=jC c25;refine aI am 15 [_,_,_,fun v BZ=>v= .bool (decide ((piv (Mx i) cx:Int)≤(lastP Mx cx i:Int))),_,_,_,_,_,_,_,_,_,_,_] rfl rfl (fun e_ w_ BY BX=>⟨fun _=>aa (cK.move ((BX 6 rfl rfl))),fun _=>aa (cK.move ((BX 4 rfl s4_e1))),fun BW=>aa (cK.leq ((BW 0 rfl)) ((BW 1 rfl))),fun BW=>aa (cK.move ((BW 2 rfl))),fun BW=>gF (BW 3 rfl) fun hg=>aa (cK.fieldAddr aq ((BX 1 rfl s1_e1))),fun BW=>gF (BW 3 rfl) fun hg=>aa (cK.load aG ((BW 4 rfl hg)) ((bc.ext hA1 BY).at_ (i:=2) rfl rfl)),fun BW=>gF (BW 3 rfl) fun hg=>aa (cK.move ((BX 5 rfl s5_e1))),fun BW=>gF (BW 3 rfl) fun hg=>ag (aP (j:=i) az (BW 5 rfl hg) (cA.ext (cA.ext hSx hX1) BY) (BW 6 rfl hg) (by omega) (by omega)),fun BW=>gF (BW 3 rfl) fun hg=>ag (aV aR rfl (BW 7 rfl hg)),fun BW=>gF (BW 3 rfl) fun hg=>aa (cK.move ((BX 6 rfl rfl))),fun BW=>gF (BW 3 rfl) fun hg=>ag (aQ (j:=(piv (Mx i) cx).toNat) bl rfl (BW 8 rfl hg) (mI (a:=(((piv (Mx i) cx).toNat:Nat):Int)) (b:=piv (Mx i) cx) (BW 9 rfl hg) (by omega)) (by omega) (by omega)),fun BW=>gF (BW 3 rfl) fun hg=>ag (aW an rfl (BW 10 rfl hg)),fun BW=>gF (BW 3 rfl) fun hg=>df.call gl (aN rfl) (fe _ _ _ _ ((BW 11 rfl hg))),fun BW=>gF (BW 3 rfl) fun hg=>aa (cK.leq ((BW 12 rfl hg)) rfl),fun BW=>aa (bo (p:=(piv (Mx i) cx:Int)≤(lastP Mx cx i:Int)) (q:=(((Mx i) ((piv (Mx i) cx).toNat):Int).sign:Int)≤(0:Int)) (BW 3 rfl) (fun hq=>(BW 13 rfl hq))),trivial⟩) ?_;intro e2 w5 hx4 ho1 hf1;replace hA1:=bc.ext hA1 hx4;replace hX1:=aF.trans hX1 hx4;have s1_e2:=ho1 1 rfl s1_e1;have s4_e2:=ho1 4 rfl s4_e1;have s5_e2:=ho1 5 rfl s5_e1;have s6_e2:e2 6=_:=ho1 6 rfl rfl;have s42_e2:e2 42=_:=hf1 14 rfl;refine RL.nil ?_;refine af (((piv (Mx i) cx:Int)≤(lastP Mx cx i:Int))∨((((Mx i) ((piv (Mx i) cx).toNat):Int).sign:Int)≤(0:Int))) s42_e2 (fun c42=> ?_) (fun c42=> ?_)
    ·
     refine ab ?_;refine RL.p rfl rfl (cK.assign rfl) ?_;refine RL.nil ?_;refine WP.ret ?_;refine qf.ret ?_;refine jp.ret ?_;refine qf.ret ?_;refine qf.ret ?_;refine jp.ret ?_;refine qf.ret ?_;refine ⟨.bool (false),Bu.one (fZ.tmp rfl),_,rfl,hX1,?_⟩;dsimp only;refine congrArg _ (decide_eq_false fun h=> ?_).symm;rcases h i (by omega) with h1 | ⟨h1,h2,_⟩
     · exact absurd h1 c25
     · rcases c42 with h3 | h3
       · omega
       · have:=(lk _).1 h3;omega
    ·
     refine WP.skip ?_;refine qf.norm ?_;refine WP.seq ?_;refine ab ?_;refine RL.p rfl rfl (cK.assign rfl) ?_;refine RL.nil ?_;refine WP.block ?_;refine WP.loop (fun mz ez uz=>∃k:Nat,(mz=i - k)∧(ez 1= .pointer (some ⟨g1,0,none⟩))∧(ez 4= .int .i64 (lastP Mx cx i))∧(ez 5= .int .i64 ((i:Nat)))∧(ez 6= .int .i64 (piv (Mx i) cx))∧(ez 7= .int .i64 ((k:Nat)))∧(k≤i)∧(∀a,a<k→0≤Mx a (piv (Mx i) cx).toNat∧Mx a (piv (Mx i) cx).toNat<Mx i (piv (Mx i) cx).toNat)∧(aF w uz)∧(bc uz g1 28 3 (bP [.int .i64 ((rx:Nat)),.int .i64 ((cx:Nat)),sx]))) (i - 0) ?_ ?_
     · exact ⟨0,rfl,s1_e2,s4_e2,s5_e2,s6_e2,rfl,(by omega),(fun a ha=>absurd ha (by omega)),hX1,hA1⟩
     rintro m2 e3 w6 ⟨k,hm2,s1_e3,s4_e3,s5_e3,s6_e3,s7_e3,hk,hbel,hX2,hA1⟩;refine WP.seq ?_;refine ab ?_;refine RL.p rfl rfl (cK.move s7_e3) ?_;refine RL.p rfl rfl (cK.move s5_e3) ?_;refine RL.p rfl rfl (cK.lss rfl rfl) ?_;refine RL.nil ?_;refine af (((k:Nat):Int)<((i:Nat):Int)) rfl (fun c45=> ?_) (fun c45=> ?_)
     ·
      refine WP.skip ?_;refine qf.norm ?_;refine WP.seq ?_;refine WP.block ?_;refine aI am 30 [_,_,_,_,_,_,_,_,_,_,fun v BZ=>v= .bool (decide ((((Mx k) ((piv (Mx i) cx).toNat):Int).sign:Int)<(0:Int))),_,_,_,_,_,_,_,_,_,_,_,_,_,_,_,_,_,_,_] rfl rfl (fun e_ w_ BY BX=>⟨fun _=>aa (cK.fieldAddr aq ((BX 1 rfl s1_e3))),fun BW=>aa (cK.load aG ((BW 0 rfl)) ((bc.ext hA1 BY).at_ (i:=2) rfl rfl)),fun _=>aa (cK.move ((BX 7 rfl s7_e3))),fun BW=>ag (aP (j:=k) az (BW 1 rfl) (cA.ext (cA.ext hSx hX2) BY) (BW 2 rfl) (by omega) (by omega)),fun BW=>ag (aV aR rfl (BW 3 rfl)),fun _=>aa (cK.move ((BX 6 rfl s6_e3))),fun BW=>ag (aQ (j:=(piv (Mx i) cx).toNat) bl rfl (BW 4 rfl) (mI (a:=(((piv (Mx i) cx).toNat:Nat):Int)) (b:=piv (Mx i) cx) (BW 5 rfl) (by omega)) (by omega) (by omega)),fun BW=>ag (aW an rfl (BW 6 rfl)),fun BW=>df.call gl (aN rfl) (fe _ _ _ _ ((BW 7 rfl))),fun BW=>aa (cK.lss ((BW 8 rfl)) rfl),fun BW=>aa (cK.move ((BW 9 rfl))),fun BW=>gF (BW 10 rfl) fun hg=>aa (cK.fieldAddr aq ((BX 1 rfl s1_e3))),fun BW=>gF (BW 10 rfl) fun hg=>aa (cK.load aG ((BW 11 rfl hg)) ((bc.ext hA1 BY).at_ (i:=2) rfl rfl)),fun BW=>gF (BW 10 rfl) fun hg=>aa (cK.move ((BX 7 rfl s7_e3))),fun BW=>gF (BW 10 rfl) fun hg=>ag (aP (j:=k) az (BW 12 rfl hg) (cA.ext (cA.ext hSx hX2) BY) (BW 13 rfl hg) (by omega) (by omega)),fun BW=>gF (BW 10 rfl) fun hg=>ag (aV aR rfl (BW 14 rfl hg)),fun BW=>gF (BW 10 rfl) fun hg=>aa (cK.move ((BX 6 rfl s6_e3))),fun BW=>gF (BW 10 rfl) fun hg=>ag (aQ (j:=(piv (Mx i) cx).toNat) bl rfl (BW 15 rfl hg) (mI (a:=(((piv (Mx i) cx).toNat:Nat):Int)) (b:=piv (Mx i) cx) (BW 16 rfl hg) (by omega)) (by omega) (by omega)),fun BW=>gF (BW 10 rfl) fun hg=>ag (aW an rfl (BW 17 rfl hg)),fun BW=>gF (BW 10 rfl) fun hg=>aa (cK.fieldAddr aq ((BX 1 rfl s1_e3))),fun BW=>gF (BW 10 rfl) fun hg=>aa (cK.load aG ((BW 19 rfl hg)) ((bc.ext hA1 BY).at_ (i:=2) rfl rfl)),fun BW=>gF (BW 10 rfl) fun hg=>aa (cK.move ((BX 5 rfl s5_e3))),fun BW=>gF (BW 10 rfl) fun hg=>ag (aP (j:=i) az (BW 20 rfl hg) (cA.ext (cA.ext hSx hX2) BY) (BW 21 rfl hg) (by omega) (by omega)),fun BW=>gF (BW 10 rfl) fun hg=>ag (aV aR rfl (BW 22 rfl hg)),fun BW=>gF (BW 10 rfl) fun hg=>aa (cK.move ((BX 6 rfl s6_e3))),fun BW=>gF (BW 10 rfl) fun hg=>ag (aQ (j:=(piv (Mx i) cx).toNat) bl rfl (BW 23 rfl hg) (mI (a:=(((piv (Mx i) cx).toNat:Nat):Int)) (b:=piv (Mx i) cx) (BW 24 rfl hg) (by omega)) (by omega) (by omega)),fun BW=>gF (BW 10 rfl) fun hg=>ag (aW an rfl (BW 25 rfl hg)),fun BW=>gF (BW 10 rfl) fun hg=>df.call AE (aw rfl rfl) (AZ _ _ _ _ _ _ _ ((BW 18 rfl hg)) ((BW 26 rfl hg)) (by omega) (by omega)),fun BW=>gF (BW 10 rfl) fun hg=>aa (cK.geq ((BW 27 rfl hg)) rfl),fun BW=>aa (bo (p:=(((Mx k) ((piv (Mx i) cx).toNat):Int).sign:Int)<(0:Int)) (q:=(0:Int)≤(cm ((Mx k) ((piv (Mx i) cx).toNat)) ((Mx i) ((piv (Mx i) cx).toNat)):Int)) (BW 10 rfl) (fun hq=>(BW 28 rfl hq))),trivial⟩) ?_;intro e4 w7 hx5 ho2 hf2;replace hA1:=bc.ext hA1 hx5;replace hX2:=aF.trans hX2 hx5;have s1_e4:=ho2 1 rfl s1_e3;have s4_e4:=ho2 4 rfl s4_e3;have s5_e4:=ho2 5 rfl s5_e3;have s6_e4:=ho2 6 rfl s6_e3;have s7_e4:=ho2 7 rfl s7_e3;have s77_e4:e4 77=_:=hf2 29 rfl;refine RL.nil ?_;refine af (((((Mx k) ((piv (Mx i) cx).toNat):Int).sign:Int)<(0:Int))∨((0:Int)≤(cm ((Mx k) ((piv (Mx i) cx).toNat)) ((Mx i) ((piv (Mx i) cx).toNat)):Int))) s77_e4 (fun c77=> ?_) (fun c77=> ?_)
      ·
       refine ab ?_;refine RL.p rfl rfl (cK.assign rfl) ?_;refine RL.nil ?_;refine WP.ret ?_;refine jp.ret ?_;refine qf.ret ?_;refine qf.ret ?_;refine jp.ret ?_;refine qf.ret ?_;refine jp.ret ?_;refine qf.ret ?_;refine qf.ret ?_;refine jp.ret ?_;refine qf.ret ?_;refine ⟨.bool (false),Bu.one (fZ.tmp rfl),_,rfl,hX2,?_⟩;dsimp only;refine congrArg _ (decide_eq_false fun h=> ?_).symm;rcases h i (by omega) with h1 | ⟨_,_,h1⟩
       · exact absurd h1 c25
       · have h2:=h1 k (by omega)
         rcases c77 with h3 | h3
         · have:=(dk _).1 h3;omega
         · have:=(fV _ _).1 h3;omega
      ·
       refine WP.skip ?_;refine jp.norm ?_;refine qf.norm ?_;refine WP.region ?_;refine RL.p rfl rfl (cK.move s7_e4) ?_;refine RL.p rfl rfl (cK.add (c:=((k + 1:Nat):Int)) rfl rfl (bY (by omega))) ?_;refine RL.p rfl rfl (cK.assign rfl) ?_;refine RL.nil ?_;have hnb:0≤Mx k (piv (Mx i) cx).toNat∧Mx k (piv (Mx i) cx).toNat<Mx i (piv (Mx i) cx).toNat:=⟨by have:=mt (dk (Mx k (piv (Mx i) cx).toNat)).2 (fun h=>c77 (.inl h));omega,by have:=mt (fV (Mx k (piv (Mx i) cx).toNat) (Mx i (piv (Mx i) cx).toNat)).2 (fun h=>c77 (.inr h));omega⟩
       refine qf.norm ⟨_,(by omega),k + 1,rfl,s1_e4,s4_e4,s5_e4,s6_e4,rfl,(by omega),(er hbel hnb),hX2,hA1⟩
     ·
      refine WP.exit ?_;refine qf.exit ?_;refine qf.exit ?_;refine jp.same ?_;refine qf.norm ?_;refine WP.region ?_;refine RL.p rfl rfl (cK.move s6_e3) ?_;refine RL.p rfl rfl (cK.assign rfl) ?_;refine RL.nil ?_;refine jp.norm ?_;refine qf.norm ?_;refine WP.region ?_;refine RL.p rfl rfl (cK.move s5_e3) ?_;refine RL.p rfl rfl (cK.add (c:=((i + 1:Nat):Int)) rfl rfl (bY (by omega))) ?_;refine RL.p rfl rfl (cK.assign rfl) ?_;refine RL.nil ?_;have hor:jo Mx cx i:= .inr ⟨by omega,by have:=mt (lk (Mx i (piv (Mx i) cx).toNat)).2 (fun h=>c42 (.inr h));omega,fun a ha=>hbel a (by omega)⟩;refine qf.norm ⟨_,(by omega),i + 1,rfl,s1_e3,(congrArg (Value.int .i64) (jK c25)),rfl,(by omega),(er hok hor),hX2,hA1⟩
  ·
   refine WP.exit ?_;refine qf.exit ?_;refine qf.exit ?_;refine jp.same ?_;refine qf.norm ?_;refine ab ?_;refine RL.p rfl rfl (cK.assign rfl) ?_;refine RL.nil ?_;refine WP.ret ?_;refine ⟨.bool (true),Bu.one (fZ.tmp rfl),_,rfl,hX1,?_⟩;dsimp only;exact congrArg _ (decide_eq_true fun a ha=>hok a (by omega)).symm
end Go.TL
