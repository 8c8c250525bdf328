/-
  Lemmas towards the theorem of this claim (part 8).
  Conditions: those that each theorem names.
-/
import Derived.Test.YtgkokhkpdlekcaaGreatPA7
namespace Go.TL
set_option linter.unusedVariables false
theorem eu0 {x y:Int} (h0:y≠0):(1 + (x/y).natAbs)*((x % y).natAbs + 1)≤x.natAbs + 1 + 2*(x % y).natAbs:=by
  have h1:=Int.emod_nonneg x h0;have h2:=Int.emod_lt x h0;have h3:=Int.mul_ediv_add_emod x y;have h4:(y*(x/y)).natAbs≤x.natAbs + (x % y).natAbs:=by omega
  rw [Int.natAbs_mul] at h4;have h5:(x/y).natAbs*((x % y).natAbs + 1)≤(x/y).natAbs*y.natAbs:=Nat.mul_le_mul_left _ (by omega);rw [Nat.mul_comm (x/y).natAbs y.natAbs] at h5;rw [Nat.add_mul,Nat.one_mul];omega
theorem eu1 {x y:Int} {E:Nat} (hx:x.natAbs≤E) (hy:y.natAbs≤E) (h0:y≠0):(1 + (x/y).natAbs)*((y.natAbs + 1)*((x % y).natAbs + 1))≤(E + 1)*(3*E + 1):=by
  have h1:=eu0 (x:=x) h0;have h2:=Int.emod_nonneg x h0;have h3:=Int.emod_lt x h0;rw [Nat.mul_left_comm];exact Nat.mul_le_mul (by omega) (by omega)
theorem eu2 {x y:Int} {s C:Nat} (h0:y≠0) (hy:0≤y) (hyx:y<(x.natAbs:Int)) (hs:s*((x.natAbs + 1)*(y.natAbs + 1))≤C):s*(1 + (x/y).natAbs)*((y.natAbs + 1)*((x % y).natAbs + 1))≤3*C:=by
  have h1:=eu0 (x:=x) h0;have h2:=Int.emod_nonneg x h0;have h3:=Int.emod_lt x h0;have h4:(1 + (x/y).natAbs)*((x % y).natAbs + 1)≤3*(x.natAbs + 1):=by omega
  have e1:s*(1 + (x/y).natAbs)*((y.natAbs + 1)*((x % y).natAbs + 1))=s*(y.natAbs + 1)*((1 + (x/y).natAbs)*((x % y).natAbs + 1)):=by ac_rfl
  rw [e1];refine Nat.le_trans (Nat.mul_le_mul_left _ h4) ?_;have e2:s*(y.natAbs + 1)*(3*(x.natAbs + 1))=3*(s*((x.natAbs + 1)*(y.natAbs + 1))):=by ac_rfl
  rw [e2];exact Nat.mul_le_mul_left _ hs
theorem eu3 {x y:Int} {s C:Nat} (hx:0≤x) (h0:0<y) (hs:s*((x.natAbs + 1)*(y.natAbs + 1))≤C):s*(1 + (x/y).natAbs)*((y.natAbs + 1)*((x % y).natAbs + 1))≤C:=by
  have h2:=Int.emod_nonneg x (show y≠0 by omega);have h3:=Int.emod_lt x (show y≠0 by omega);have h4:=Int.mul_ediv_add_emod x y;have h5:0≤x/y:=Int.ediv_nonneg hx (by omega);have h6:(y*(x/y)).natAbs + (x % y).natAbs=x.natAbs:=by
    have:0≤y*(x/y):=Int.mul_nonneg (by omega) h5;omega
  rw [Int.natAbs_mul] at h6;have h7:(x/y).natAbs*((x % y).natAbs + 1)≤(x/y).natAbs*y.natAbs:=Nat.mul_le_mul_left _ (by omega);rw [Nat.mul_comm (x/y).natAbs y.natAbs] at h7;have h8:(1 + (x/y).natAbs)*((x % y).natAbs + 1)≤x.natAbs + 1:=by rw [Nat.add_mul,Nat.one_mul];omega
  have e1:s*(1 + (x/y).natAbs)*((y.natAbs + 1)*((x % y).natAbs + 1))=s*(y.natAbs + 1)*((1 + (x/y).natAbs)*((x % y).natAbs + 1)):=by ac_rfl
  rw [e1];refine Nat.le_trans (Nat.mul_le_mul_left _ h8) ?_;have e2:s*(y.natAbs + 1)*(x.natAbs + 1)=s*((x.natAbs + 1)*(y.natAbs + 1)):=by ac_rfl
  rw [e2];exact hs
section
variable {r c:Nat} {S:WS} {EM EU EV K:Nat}
theorem pM {i j:Nat} {k:Int} (hi:i<r) (hj:j<r) (hk:k.natAbs≤K) (hM:∀i j,i<r→j<c→(S.M i j).natAbs≤EM) (hU:∀i j,i<r→j<r→(S.U i j).natAbs≤EU) (hV:∀i j,i<r→j<r→(S.V i j).natAbs≤EV):
    (∀a b,a<r→b<c→((co S i j k).M a b).natAbs≤EM*(1 + K))∧(∀a b,a<r→b<r→((co S i j k).U a b).natAbs≤EU*(1 + K))∧∀a b,a<r→b<r→((co S i j k).V a b).natAbs≤EV*(1 + K):=by
  have hle:∀E L:Nat,E≤E*(1 + L):=fun E L=>by rw [Nat.mul_add,Nat.mul_one];omega
  refine ⟨fun a b ha hb=> ?_,fun a b ha hb=> ?_,fun a b ha hb=> ?_⟩
  · simp only [co,cL];split
    · exact fL (hM _ _ hi hb) (hM _ _ hj hb) hk
    · exact Nat.le_trans (hM _ _ ha hb) (hle _ _)
  · simp only [co,cL];split
    · exact fL (hU _ _ hi hb) (hU _ _ hj hb) hk
    · exact Nat.le_trans (hU _ _ ha hb) (hle _ _)
  · simp only [co,dz];split
    · have:=fL (k:= -k) (hV a j ha hj) (hV a i ha hi) (by rw [Int.natAbs_neg];exact hk)
      rw [Int.neg_mul] at this;rw [Int.sub_eq_add_neg];exact this
    · exact Nat.le_trans (hV _ _ ha hb) (hle _ _)
theorem jJ {i j:Nat} (hi:i<r) (hj:j<r) (hM:∀i j,i<r→j<c→(S.M i j).natAbs≤EM) (hU:∀i j,i<r→j<r→(S.U i j).natAbs≤EU) (hV:∀i j,i<r→j<r→(S.V i j).natAbs≤EV):
    (∀a b,a<r→b<c→((bk S i j).M a b).natAbs≤EM)∧(∀a b,a<r→b<r→((bk S i j).U a b).natAbs≤EU)∧∀a b,a<r→b<r→((bk S i j).V a b).natAbs≤EV:=by
  refine ⟨fun a b ha hb=> ?_,fun a b ha hb=> ?_,fun a b ha hb=> ?_⟩
  · simp only [bk,cj];split
    · exact hM _ _ hj hb
    · split
      · exact hM _ _ hi hb
      · exact hM _ _ ha hb
  · simp only [bk,cj];split
    · exact hU _ _ hj hb
    · split
      · exact hU _ _ hi hb
      · exact hU _ _ ha hb
  · simp only [bk,cM];split
    · exact hV _ _ ha hj
    · split
      · exact hV _ _ ha hi
      · exact hV _ _ ha hb
end
def eR (e0 r:Nat):Nat→Nat
  | 0=>e0
  | t + 1=>eR e0 r t + (2*eR e0 r t + 6)*(r - t - 1) + eR e0 r t + 1
def gR (e0 r:Nat):Nat→Nat
  | 0=>0
  | t + 1=>gR e0 r t + (2*eR e0 r t + 6)*(r - t - 1) + eR e0 r t + 3
structure FR (r c e0:Nat) (M0:Nat→Nat→Int) (top q:Nat) (S:WS):Prop where
  lin:Lin r c M0 S
  ech:iO r top q S.M
  bm:∀i j,i<r→j<c→(S.M i j).natAbs≤2^eR e0 r top
  bu:∀i j,i<r→j<r→(S.U i j).natAbs≤2^eR e0 r top
  bv:∀i j,i<r→j<r→(S.V i j).natAbs≤2^gR e0 r top
structure JR (r c e0:Nat) (M0:Nat→Nat→Int) (top q i:Nat) (S:WS):Prop where
  lin:Lin r c M0 S
  ech:iO r top q S.M
  col:∀k,k≤top∨i≤k→k<r→(S.M k q).natAbs≤2^eR e0 r top
  zer:∀k,top<k→k<i→S.M k q=0
  nul:S.M top q=0→(∀i j,i<r→j<c→(S.M i j).natAbs≤2^eR e0 r top)∧(∀i j,i<r→j<r→(S.U i j).natAbs≤2^eR e0 r top)∧∀i j,i<r→j<r→(S.V i j).natAbs≤2^gR e0 r top
  run:∃s:Nat,(∀a j,a<r→j<c→(S.M a j).natAbs≤2^eR e0 r top*(2^(2*eR e0 r top + 6))^(i - top - 1)*s)∧(∀a j,a<r→j<r→(S.U a j).natAbs≤2^eR e0 r top*(2^(2*eR e0 r top + 6))^(i - top - 1)*s)∧
    (∀a j,a<r→j<r→(S.V a j).natAbs≤2^gR e0 r top*(2^(2*eR e0 r top + 6))^(i - top - 1)*s)∧(i<r→s=1∨
      (0≤S.M i q∧S.M i q<((S.M top q).natAbs:Int)∧s*(((S.M top q).natAbs + 1)*((S.M i q).natAbs + 1))≤(2^eR e0 r top + 1)*(3*2^eR e0 r top + 1))∨
      (0≤S.M i q∧S.M i q<S.M top q∧s*(((S.M top q).natAbs + 1)*((S.M i q).natAbs + 1))≤3*((2^eR e0 r top + 1)*(3*2^eR e0 r top + 1))))∧(r≤i→s=1)
section
variable {r c e0:Nat} {M0:Nat→Nat→Int} {top q i:Nat} {S:WS}
theorem wY (e:Nat):3*((2^e + 1)*(3*2^e + 1))≤2^(2*e + 6):=by
  have h0:0<2^e:=Nat.two_pow_pos e;have h2:2^(2*e + 6)=(2^e*2^e)*64:=by rw [Nat.pow_add,Nat.two_mul,Nat.pow_add]
  rw [h2]
  generalize 2^e=x at*
  have h3:(x + 1)*(3*x + 1)≤(2*x)*(4*x):=Nat.mul_le_mul (by omega) (by omega);have h4:(2*x)*(4*x)=8*(x*x):=by rw [Nat.mul_mul_mul_comm]
  omega
theorem gD (e0 r:Nat):∀{s t:Nat},s≤t→eR e0 r s≤eR e0 r t
  | s,0,h=>by rw [show s=0 by omega];exact Nat.le_refl _
  | s,t + 1,h=>by
    by_cases e:s=t + 1
    · rw [e];exact Nat.le_refl _
    · have:=gD e0 r (s:=s) (t:=t) (by omega);simp only [eR];omega
theorem mH (e0 r:Nat):∀{s t:Nat},s≤t→gR e0 r s≤gR e0 r t
  | s,0,h=>by rw [show s=0 by omega];exact Nat.le_refl _
  | s,t + 1,h=>by
    by_cases e:s=t + 1
    · rw [e];exact Nat.le_refl _
    · have:=mH e0 r (s:=s) (t:=t) (by omega);simp only [gR];omega
theorem FR.start (hM:∀i j,i<r→j<c→(M0 i j).natAbs≤2^e0):FR r c e0 M0 0 0 ⟨M0,bH,bH⟩:=by
  have hid:∀(e i j:Nat),(bH i j).natAbs≤2^e:=fun e i j=>by
    have:=Nat.two_pow_pos e
    unfold bH;split<;>simp<;>omega
  exact ⟨Lin.start M0,⟨fun _=>0,fun i hi=>by omega,fun a _ _ j hj=>by omega⟩,hM,fun i j _ _=>hid _ i j,fun i j _ _=>hid _ i j⟩
theorem JR.of (h:FR r c e0 M0 top q S) (ht:top<r) (hq:q<c):JR r c e0 M0 top q (top + 1) S:=by
  have e1:∀x:Nat,x*(2^(2*eR e0 r top + 6))^(top + 1 - top - 1)*1=x:=fun x=>by rw [show top + 1 - top - 1=0 by omega,Nat.pow_zero,Nat.mul_one,Nat.mul_one]
  exact ⟨h.lin,h.ech,fun k _ hk=>h.bm k q hk hq,fun k h1 h2=>by omega,fun _=>⟨h.bm,h.bu,h.bv⟩,1,fun a j ha hj=>by rw [e1];exact h.bm a j ha hj,fun a j ha hj=>by rw [e1];exact h.bu a j ha hj,fun a j ha hj=>by rw [e1];exact h.bv a j ha hj,fun _=> .inl rfl,fun _=>rfl⟩
theorem iO.of {M M':Nat→Nat→Int} (h:iO r top q M) (h1:∀a,a<top→∀j,M' a j=M a j) (h2:∀a,top≤a→a<r→∀j,j<q→M' a j=0):iO r top q M':=by
  obtain ⟨P,g1,g2⟩:=h;refine ⟨P,fun i hi=> ?_,h2⟩;obtain ⟨k1,k2,k3,k4⟩:=g1 i hi;refine ⟨k1,by rw [h1 i hi];exact k2,fun j hj=>by rw [h1 i hi];exact k3 j hj,fun k hk=> ?_⟩;rw [h1 i hi,h1 k (by omega)];exact k4 k hk
theorem qB {a j:Nat} (hne:top≠i):(kK S top i q).M a j=if a=top then S.M i j else if a=i then S.M top j + -(S.M top q/S.M i q)*S.M i j else S.M a j:=by
  unfold kK bk co cj cL
  by_cases e1:a=top
  · subst e1;simp only [if_true,if_neg (Ne.symm hne)]
  · by_cases e2:a=i
    · subst e2;simp only [if_neg e1,if_true]
    · simp only [if_neg e1,if_neg e2]
theorem JR.zero (h:JR r c e0 M0 top q i S) (ht:top<i) (hi:i<r) (hz:S.M i q=0):JR r c e0 M0 top q (i + 1) S:=by
  obtain ⟨s,hM,hU,hV,hc,_⟩:=h.run;have hs:s≤2^(2*eR e0 r top + 6):=by
    have h0:=wY (eR e0 r top);have h1:1≤2^(2*eR e0 r top + 6):=Nat.two_pow_pos _;have h2:s≤s*(((S.M top q).natAbs + 1)*((S.M i q).natAbs + 1)):=Nat.le_mul_of_pos_right _ (Nat.mul_pos (by omega) (by omega));rcases hc hi with h3 | h3 | h3
    · omega
    · omega
    · omega
  have e1:∀x:Nat,x*(2^(2*eR e0 r top + 6))^(i - top - 1)*s≤x*(2^(2*eR e0 r top + 6))^(i + 1 - top - 1)*1:=fun x=>by
    clear hM hU hV
    generalize 2^(2*eR e0 r top + 6)=A at hs⊢
    rw [show i + 1 - top - 1=(i - top - 1) + 1 by omega,Nat.pow_succ,Nat.mul_one,←Nat.mul_assoc];exact Nat.mul_le_mul_left _ hs
  refine ⟨h.lin,h.ech,fun k hk hr=>h.col k (by omega) hr,fun k h1 h2=> ?_,h.nul,1,fun a j ha hj=>Nat.le_trans (hM a j ha hj) (e1 _),fun a j ha hj=>Nat.le_trans (hU a j ha hj) (e1 _),fun a j ha hj=>Nat.le_trans (hV a j ha hj) (e1 _),fun _=> .inl rfl,fun _=>rfl⟩
  by_cases e:k=i
  · subst e;exact hz
  · exact h.zer k h1 (by omega)
theorem JR.swap (h:JR r c e0 M0 top q i S) (ht:top<i) (hi:i<r) (hz:S.M i q≠0) (h0:S.M top q=0):JR r c e0 M0 top q i (bk S top i):=by
  obtain ⟨s,hM,hU,hV,hc,_⟩:=h.run;have hs:s=1:=by
    rcases hc hi with h3 | h3 | h3
    · exact h3
    · omega
    · omega
  have hrow:∀a j,(bk S top i).M a j=if a=top then S.M i j else if a=i then S.M top j else S.M a j:=fun a j=>by
    simp only [bk,cj];split
    · rfl
    · split<;>rfl
  obtain ⟨b1,b2,b3⟩:=jJ (show top<r by omega) hi hM hU hV;obtain ⟨P,p1,p2⟩:=id h.ech;refine ⟨h.lin.swap (by omega) hi,h.ech.of (fun a ha j=>by rw [hrow,if_neg (by omega),if_neg (by omega)]) (fun a ha har j hj=> ?_),fun k hk hr=> ?_,fun k h1 h2=>by rw [hrow,if_neg (by omega),if_neg (by omega)];exact h.zer k h1 h2,fun hx=>absurd hx (by rw [hrow,if_pos rfl];exact hz),s,b1,b2,b3,fun _=> .inl hs,fun hri=>hs⟩
  · rw [hrow];split
    · exact p2 i (by omega) hi j hj
    · split
      · exact p2 top (Nat.le_refl _) (by omega) j hj
      · exact p2 a ha har j hj
  · rw [hrow];split
    · exact h.col i (.inr (Nat.le_refl _)) hi
    · split
      · exact h.col top (.inl (Nat.le_refl _)) (by omega)
      · exact h.col k hk hr
theorem JR.step (h:JR r c e0 M0 top q i S) (ht:top<i) (hi:i<r) (hz:S.M i q≠0) (h0:S.M top q≠0):JR r c e0 M0 top q i (kK S top i q)∧
    ∃s,s≤2^(2*eR e0 r top + 6)∧(∀a j,a<r→j<c→((co S top i (-(S.M top q/S.M i q))).M a j).natAbs≤2^eR e0 r top*(2^(2*eR e0 r top + 6))^(i - top - 1)*s)∧
      (∀a j,a<r→j<r→((co S top i (-(S.M top q/S.M i q))).U a j).natAbs≤2^eR e0 r top*(2^(2*eR e0 r top + 6))^(i - top - 1)*s)∧
      ∀a j,a<r→j<r→((co S top i (-(S.M top q/S.M i q))).V a j).natAbs≤2^gR e0 r top*(2^(2*eR e0 r top + 6))^(i - top - 1)*s:=by
  obtain ⟨s,hM,hU,hV,hc,_⟩:=h.run;have htr:top<r:=by omega
  have hne:top≠i:=by omega
  obtain ⟨c1,c2,c3⟩:=pM (k:= -(S.M top q/S.M i q)) (K:=(S.M top q/S.M i q).natAbs) htr hi (by rw [Int.natAbs_neg];exact Nat.le_refl _) hM hU hV;simp only [Nat.mul_assoc _ s] at c1 c2 c3;obtain ⟨b1,b2,b3⟩:=jJ htr hi c1 c2 c3;have x1:(kK S top i q).M top q=S.M i q:=vJ hne;have x2:(kK S top i q).M i q=S.M top q % S.M i q:=wZ hne;have m1:=Int.emod_nonneg (S.M top q) hz;have m2:=Int.emod_lt (S.M top q) hz;have hct:=h.col top (.inl (Nat.le_refl _)) htr;have hci:=h.col i (.inr (Nat.le_refl _)) hi;have hst:(0≤(kK S top i q).M i q∧(kK S top i q).M i q<(((kK S top i q).M top q).natAbs:Int)∧s*(1 + (S.M top q/S.M i q).natAbs)*((((kK S top i q).M top q).natAbs + 1)*(((kK S top i q).M i q).natAbs + 1))≤(2^eR e0 r top + 1)*(3*2^eR e0 r top + 1))∨
      (0≤(kK S top i q).M i q∧(kK S top i q).M i q<(kK S top i q).M top q∧s*(1 + (S.M top q/S.M i q).natAbs)*((((kK S top i q).M top q).natAbs + 1)*(((kK S top i q).M i q).natAbs + 1))≤3*((2^eR e0 r top + 1)*(3*2^eR e0 r top + 1))):=by
    rw [x1,x2];rcases hc hi with h3 | h3 | h3
    · left
      refine ⟨m1,by omega,?_⟩;rw [h3,Nat.one_mul];exact eu1 hct hci hz
    · right
      exact ⟨m1,by omega,eu2 hz h3.1 h3.2.1 h3.2.2⟩
    · right
      exact ⟨m1,by omega,eu3 (by omega) (by omega) h3.2.2⟩
  have hsb:s*(1 + (S.M top q/S.M i q).natAbs)≤2^(2*eR e0 r top + 6):=by
    have g0:=wY (eR e0 r top);have g2:s*(1 + (S.M top q/S.M i q).natAbs)≤s*(1 + (S.M top q/S.M i q).natAbs)*((((kK S top i q).M top q).natAbs + 1)*(((kK S top i q).M i q).natAbs + 1)):=Nat.le_mul_of_pos_right _ (Nat.mul_pos (by omega) (by omega));rcases hst with h3 | h3<;>omega
  obtain ⟨P,p1,p2⟩:=id h.ech;refine ⟨⟨(h.lin.add _ htr hi hne).swap htr hi,h.ech.of (fun a ha j=>by rw [qB hne,if_neg (by omega),if_neg (by omega)]) (fun a ha har j hj=> ?_),fun k hk hr=> ?_,fun k h1 h2=>by rw [qB hne,if_neg (by omega),if_neg (by omega)];exact h.zer k h1 h2,fun hx=>absurd hx (by rw [x1];exact hz),_,b1,b2,b3,fun _=> .inr hst,fun hri=>by omega⟩,_,hsb,c1,c2,c3⟩
  · rw [qB hne];split
    · exact p2 i (by omega) hi j hj
    · split
      · rw [p2 top (Nat.le_refl _) htr j hj,p2 i (by omega) hi j hj,Int.mul_zero];rfl
      · exact p2 a ha har j hj
  · by_cases e1:k=top
    · subst e1;rw [x1];exact hci
    · by_cases e2:k=i
      · subst e2;rw [x2];omega
      · rw [qB hne,if_neg e1,if_neg e2];exact h.col k hk hr
theorem JR.none (h:JR r c e0 M0 top q r S) (ht:top<r) (hz:S.M top q=0):FR r c e0 M0 top (q + 1) S:=by
  obtain ⟨hM,hU,hV⟩:=h.nul hz;refine ⟨h.lin,?_,hM,hU,hV⟩;obtain ⟨P,h1,h2⟩:=h.ech;refine ⟨P,fun i hi=> ?_,fun a ha har j hj=> ?_⟩
  · obtain ⟨g1,g2⟩:=h1 i hi;exact ⟨by omega,g2⟩
  · by_cases e:j=q
    · subst e
      by_cases e2:a=top
      · subst e2;exact hz
      · exact h.zer a (by omega) har
    · exact h2 a ha har j (by omega)
theorem zr (e n:Nat):2^e*(2^(2*e + 6))^n*(1 + 2^e)≤2^(e + (2*e + 6)*n + e + 1):=by
  have h0:0<2^e:=Nat.two_pow_pos e;rw [Nat.pow_add 2 (e + (2*e + 6)*n + e) 1,Nat.pow_add 2 (e + (2*e + 6)*n) e,Nat.pow_add 2 e,Nat.pow_mul,Nat.mul_assoc (2^e*(2^(2*e + 6))^n)];exact Nat.mul_le_mul_left _ (by omega)
theorem Ac (g e n:Nat):2^g*(2^(2*e + 6))^n*(1 + 7*2^e)≤2^(g + (2*e + 6)*n + e + 3):=by
  have h0:0<2^e:=Nat.two_pow_pos e;rw [Nat.pow_add 2 (g + (2*e + 6)*n + e) 3,Nat.pow_add 2 (g + (2*e + 6)*n) e,Nat.pow_add 2 g,Nat.pow_mul,Nat.mul_assoc (2^g*(2^(2*e + 6))^n)];exact Nat.mul_le_mul_left _ (by omega)
theorem JR.pivot (h:JR r c e0 M0 top q r S) (ht:top<r) (hq:q<c) (h8:r≤8) (hp:S.M top q≠0):
    (∀n,n≤top→(∀i j,i<r→j<c→((ra (sg S top q) top q n).M i j).natAbs≤2^eR e0 r (top + 1))∧
        (∀i j,i<r→j<r→((ra (sg S top q) top q n).U i j).natAbs≤2^eR e0 r (top + 1))∧
        ∀i j,i<r→j<r→((ra (sg S top q) top q n).V i j).natAbs≤2^gR e0 r (top + 1))∧
      FR r c e0 M0 (top + 1) (q + 1) (ra (sg S top q) top q top):=by
  rw [←wS];have hE0:0<2^eR e0 r top:=Nat.two_pow_pos _;obtain ⟨s,hM,hU,hV,_,hs⟩:=h.run;rw [hs (Nat.le_refl _)] at hM hU hV;simp only [Nat.mul_one] at hM hU hV;have htop:=iQ S top top q;obtain ⟨hM2,hU2,hV2⟩:=sI (q:=q) ht ht hM hU hV;have hlin:=h.lin.sn q ht ht;have hech:=h.ech.sn (q:=q) ht (Nat.le_refl _) ht;have hcol:∀i,i≠top→(sn S top top q).M i q=S.M i q:=fun i hi=>by rw [(qT S top top q i q).1 hi,if_neg hi]
  have hab:∀i,i<top→((sn S top top q).M i q).natAbs≤2^eR e0 r top:=fun i hi=>by rw [hcol i (by omega)];exact h.col i (.inl (by omega)) (by omega)
  have hbelow:∀i,top<i→i<r→(sn S top top q).M i q=0:=fun i hi hir=>by
    rw [hcol i (by omega)];exact h.zer i hi hir
  generalize sn S top top q=S2 at*
  generalize hy:(S.M top q).natAbs=y at*
  have hy0:0<y:=by omega
  have hK:∀i,i<top→(kq S2 top q i).natAbs≤2^eR e0 r top:=fun i hi=>by
    unfold kq;rw [htop]
    exact Nat.le_trans (mJ (by omega)) (hab i hi)
  have hbd:=fun n (hn:n≤top)=>wU (n:=n) ht hn (by omega) hK hM2 hU2 hV2
  have hfin:∀n,n≤top→(∀i j,i<r→j<c→((ra S2 top q n).M i j).natAbs≤2^eR e0 r (top + 1))∧(∀i j,i<r→j<r→((ra S2 top q n).U i j).natAbs≤2^eR e0 r (top + 1))∧
      ∀i j,i<r→j<r→((ra S2 top q n).V i j).natAbs≤2^gR e0 r (top + 1):=fun n hn=>by
    refine ⟨fun i j hi hj=> ?_,fun i j hi hj=> ?_,fun i j hi hj=> ?_⟩
    · exact Nat.le_trans ((hbd n hn).1 i j hi hj) (zr _ _)
    · exact Nat.le_trans ((hbd n hn).2.1 i j hi hj) (zr _ _)
    · exact Nat.le_trans ((hbd n hn).2.2 i j hi hj) (Ac _ _ _)
  refine ⟨hfin,hlin.ra q ht top (Nat.le_refl _),?_,(hfin top (Nat.le_refl _)).1,(hfin top (Nat.le_refl _)).2.1,(hfin top (Nat.le_refl _)).2.2⟩;obtain ⟨P,h1,h2⟩:=hech;have hrow:∀i,i<top→∀j,j<q→(ra S2 top q top).M i j=S2.M i j:=fun i hi j hj=>by
    rw [lg _ _ _ _ _ _ (Nat.le_refl _),if_pos hi,h2 top (Nat.le_refl _) ht j hj,Int.mul_zero,Int.add_zero]
  have hrest:∀i,top≤i→∀j,(ra S2 top q top).M i j=S2.M i j:=fun i hi j=>by rw [lg _ _ _ _ _ _ (Nat.le_refl _),if_neg (by omega)]
  refine ⟨cg P top q,fun i hi=> ?_,fun a ha har j hj=> ?_⟩
  · by_cases e:i=top
    · subst e
      rw [aW];refine ⟨by omega,by rw [hrest i (Nat.le_refl _),htop];omega,fun j hj=>by rw [hrest i (Nat.le_refl _)];exact h2 i (Nat.le_refl _) ht j hj,fun k hk=> ?_⟩;rw [aV _ _ _ _ (by omega),hrest i (Nat.le_refl _),htop,lg _ _ _ _ _ _ (Nat.le_refl _),if_pos hk]
      unfold kq
      rw [htop];have e1:S2.M k q + -(S2.M k q/(y:Int))*(y:Int)=S2.M k q % (y:Int):=by
        have:=Int.mul_ediv_add_emod (S2.M k q) (y:Int);rw [Int.neg_mul,Int.mul_comm (S2.M k q/(y:Int))];omega
      rw [e1];exact ⟨(h1 k hk).1,Int.emod_nonneg _ (by omega),Int.emod_lt_of_pos _ (by omega)⟩
    · rw [aV _ _ _ _ e]
      obtain ⟨g1,g2,g3,g4⟩:=h1 i (by omega);refine ⟨by omega,by rw [hrow i (by omega) _ g1];exact g2,fun j hj=>by rw [hrow i (by omega) _ (by omega)];exact g3 j hj,fun k hk=> ?_⟩;rw [aV _ _ _ _ (by omega),hrow k (by omega) _ g1,hrow i (by omega) _ g1];exact g4 k hk
  · rw [hrest a (by omega)]
    by_cases e:j=q
    · subst e;exact hbelow a (by omega) har
    · exact h2 a (by omega) har j (by omega)
end
end Go.TL
namespace Go.TL
open Go.RowKit
set_option linter.unusedVariables false
def oK (w:World) (v:Value) (n:Nat) (ka ki kj:Nat→Nat) (kk:Nat→Int):Prop:=∃A c,v= .slice A n c∧n≤c∧c<9223372036854775808∧
  (0<n→∃g o,A=some ⟨g,o,none⟩∧∀i,i<n→(w.cell? ⟨g,o + i*4,none⟩=some (.int .u8 (ka i:Nat))∧w.cell? ⟨g,o + i*4 + 1,none⟩=some (.int .u8 (ki i:Nat)))∧w.cell? ⟨g,o + i*4 + 2,none⟩=some (.int .u8 (kj i:Nat))∧w.cell? ⟨g,o + i*4 + 3,none⟩=some (.int .i8 (kk i)))
theorem oK.ext {w w':World} {v:Value} {n:Nat} {ka ki kj:Nat→Nat} {kk:Nat→Int} (h:oK w v n ka ki kj kk) (hx:aG w w'):oK w' v n ka ki kj kk:=by
  obtain ⟨A,c,h1,h2,h3,h4⟩:=h;exact ⟨A,c,h1,h2,h3,fun hn=>by
    obtain ⟨g,o,hA,hc⟩:=h4 hn;exact ⟨g,o,hA,fun i hi=>by obtain ⟨⟨g1,g2⟩,g3,g4⟩:=hc i hi;exact ⟨⟨aG.cell g1 hx,aG.cell g2 hx⟩,aG.cell g3 hx,aG.cell g4 hx⟩⟩⟩
instance (n:Nat) (ka ki kj:Nat→Nat) (kk:Nat→Int):Nonempty (bD (fun v w=>oK w v n ka ki kj kk)):=⟨fun _ _ _ h hx=>h.ext hx⟩
def ls (w:World) (v:Value) (a b c:Nat) (d:Int):Prop:=∃g o,v= .pointer (some ⟨g,o,none⟩)∧(w.cell? ⟨g,o,none⟩=some (.int .u8 (a:Nat))∧w.cell? ⟨g,o + 1,none⟩=some (.int .u8 (b:Nat)))∧w.cell? ⟨g,o + 2,none⟩=some (.int .u8 (c:Nat))∧w.cell? ⟨g,o + 3,none⟩=some (.int .i8 d)
theorem ls.ext {w w':World} {v:Value} {a b c:Nat} {d:Int} (h:ls w v a b c d) (hx:aG w w'):ls w' v a b c d:=by
  obtain ⟨g,o,h1,⟨h2,h3⟩,h4,h5⟩:=h;exact ⟨g,o,h1,⟨aG.cell h2 hx,aG.cell h3 hx⟩,aG.cell h4 hx,aG.cell h5 hx⟩
theorem rf (a b c:Nat) (d:Int):bD (fun v w=>ls w v a b c d):=fun _ _ _ h hx=>h.ext hx
instance (a b c:Nat) (d:Int):Nonempty (bD (fun v w=>ls w v a b c d)):=⟨rf a b c d⟩
instance (k:IntKind) (x:Int):Nonempty (bD (fun v w=>gL k w v x)):=⟨fun _ _ _ h hx=>h.ext hx⟩
section
variable {P:Program} {e:cA} {w:World} {d:Option Tmp} {ty:TypeId} {pos:String} {after:Array Edge} {gd:Option (Nat×Bool)}
theorem en {t T n j m:Nat} {x ix:Operand} {v:Value} {ka ki kj:Nat→Nat} {kk:Nat→Int} {i:Int} {k2:IntKind} (ht:sliceB P t T 4 m=true) (hx:ev e x=v) (hN:oK w v n ka ki kj kk) (hi:ev e ix= .int k2 i) (hij:i=(j:Int)) (hj:j<n):
    cX P ⟨d,.indexAddr t x ix,ty,pos,after,gd⟩ e w (fun v' w'=>w=w'∧ls w' v' (ka j) (ki j) (kj j) (kk j)):=by
  obtain ⟨A,c,rfl,h2,h3,h4⟩:=hN;obtain ⟨g,o,rfl,hc⟩:=h4 (by omega);exact cI (φ:=fun v' w'=>ls w' v' (ka j) (ki j) (kj j) (kk j)) (cn.index (j:=j) ht hx hi rfl hij hj) ⟨g,_,rfl,hc j hj⟩
theorem rT {t a b c:Nat} {d2:Int} {x:Operand} {v:Value} (hf:dT P t 0 0=true) (hx:ev e x=v) (h:ls w v a b c d2):cX P ⟨d,.fieldAddr t x 0,ty,pos,after,gd⟩ e w (fun v' w'=>w=w'∧gL .u8 w' v' (a:Nat)):=by
  obtain ⟨g,o,rfl,⟨h1,h2⟩,h3,h4⟩:=h;exact cI (φ:=fun v' w'=>gL .u8 w' v' (a:Nat)) (cn.fieldAddr hf hx) ⟨g,_,rfl,h1⟩
theorem rS {t a b c:Nat} {d2:Int} {x:Operand} {v:Value} (hf:dT P t 1 1=true) (hx:ev e x=v) (h:ls w v a b c d2):cX P ⟨d,.fieldAddr t x 1,ty,pos,after,gd⟩ e w (fun v' w'=>w=w'∧gL .u8 w' v' (b:Nat)):=by
  obtain ⟨g,o,rfl,⟨h1,h2⟩,h3,h4⟩:=h;exact cI (φ:=fun v' w'=>gL .u8 w' v' (b:Nat)) (cn.fieldAddr hf hx) ⟨g,_,rfl,h2⟩
theorem rR {t a b c:Nat} {d2:Int} {x:Operand} {v:Value} (hf:dT P t 2 2=true) (hx:ev e x=v) (h:ls w v a b c d2):cX P ⟨d,.fieldAddr t x 2,ty,pos,after,gd⟩ e w (fun v' w'=>w=w'∧gL .u8 w' v' (c:Nat)):=by
  obtain ⟨g,o,rfl,⟨h1,h2⟩,h3,h4⟩:=h;exact cI (φ:=fun v' w'=>gL .u8 w' v' (c:Nat)) (cn.fieldAddr hf hx) ⟨g,_,rfl,h3⟩
theorem rQ {t a b c:Nat} {d2:Int} {x:Operand} {v:Value} (hf:dT P t 3 3=true) (hx:ev e x=v) (h:ls w v a b c d2):cX P ⟨d,.fieldAddr t x 3,ty,pos,after,gd⟩ e w (fun v' w'=>w=w'∧gL .i8 w' v' d2):=by
  obtain ⟨g,o,rfl,⟨h1,h2⟩,h3,h4⟩:=h;exact cI (φ:=fun v' w'=>gL .i8 w' v' d2) (cn.fieldAddr hf hx) ⟨g,_,rfl,h4⟩
theorem pI {t T n m:Nat} {x:Operand} {v:Value} {ka ki kj:Nat→Nat} {kk:Nat→Int} (ht:sliceB P t T 4 m=true) (hx:ev e x=v) (hN:oK w v n ka ki kj kk):
    cn P ⟨d,.call {callee:= .builtin .len,args:= #[x],argTypes:= #[t]},ty,pos,after,gd⟩ e w (.int .i64 (n:Nat)):=by
  obtain ⟨A,c,rfl,h2,h3,h4⟩:=hN;exact cn.len ht hx
end
structure MvI (r c e0:Nat) (M:Nat→Nat→Int) (n:Nat) (S:WS):Prop where
  lin:Lin r c M S
  bm:∀i j,i<r→j<c→(S.M i j).natAbs≤2^(e0 + 2*n)
  bu:∀i j,i<r→j<r→(S.U i j).natAbs≤2^(2*n)
  bv:∀i j,i<r→j<r→(S.V i j).natAbs≤2^(2*n)
section
variable {r c e0 n:Nat} {M:Nat→Nat→Int} {S:WS}
theorem pt (i j:Nat):(bH i j).natAbs≤1:=by unfold bH;split<;>decide
theorem MvI.start (h:∀i j,i<r→j<c→(M i j).natAbs≤2^e0):MvI r c e0 M 0 ⟨M,bH,bH⟩:=
  ⟨Lin.start M,h,fun i j _ _=>pt i j,fun i j _ _=>pt i j⟩
theorem MvI.next (h:MvI r c e0 M n S):MvI r c e0 M (n + 1) S:=
  ⟨h.lin,fun i j hi hj=>Nat.le_trans (h.bm i j hi hj) (Nat.pow_le_pow_right (by decide) (by omega)),fun i j hi hj=>Nat.le_trans (h.bu i j hi hj) (Nat.pow_le_pow_right (by decide) (by omega)),fun i j hi hj=>Nat.le_trans (h.bv i j hi hj) (Nat.pow_le_pow_right (by decide) (by omega))⟩
theorem uB {m:Nat} (h:MvI r c e0 M n S) (hm:n≤m):MvI r c e0 M m S:=
  ⟨h.lin,fun i j hi hj=>Nat.le_trans (h.bm i j hi hj) (Nat.pow_le_pow_right (by decide) (by omega)),fun i j hi hj=>Nat.le_trans (h.bu i j hi hj) (Nat.pow_le_pow_right (by decide) (by omega)),fun i j hi hj=>Nat.le_trans (h.bv i j hi hj) (Nat.pow_le_pow_right (by decide) (by omega))⟩
theorem MvI.swap (h:MvI r c e0 M n S) {i j:Nat} (hi:i<r) (hj:j<r):MvI r c e0 M (n + 1) (bk S i j):=by
  obtain ⟨h1,h2,h3⟩:=jJ (c:=c) hi hj h.bm h.bu h.bv;exact MvI.next ⟨h.lin.swap hi hj,h1,h2,h3⟩
theorem MvI.neg (h:MvI r c e0 M n S) {i:Nat} (hi:i<r):MvI r c e0 M (n + 1) (ei S i):=by
  refine MvI.next ⟨h.lin.neg hi,fun a b ha hb=> ?_,fun a b ha hb=> ?_,fun a b ha hb=> ?_⟩
  · simp only [ei,db];split
    · rw [Int.natAbs_neg];exact h.bm i b hi hb
    · exact h.bm a b ha hb
  · simp only [ei,db];split
    · rw [Int.natAbs_neg];exact h.bu i b hi hb
    · exact h.bu a b ha hb
  · simp only [ei,ek];split
    · rw [Int.natAbs_neg];exact h.bv a i ha hi
    · exact h.bv a b ha hb
theorem MvI.add (h:MvI r c e0 M n S) {i j:Nat} {k:Int} (hi:i<r) (hj:j<r) (hij:i≠j) (hk:k.natAbs≤3):MvI r c e0 M (n + 1) (co S i j k):=by
  obtain ⟨h1,h2,h3⟩:=pM (c:=c) hi hj hk h.bm h.bu h.bv;refine ⟨h.lin.add k hi hj hij,fun a b ha hb=> ?_,fun a b ha hb=> ?_,fun a b ha hb=> ?_⟩
  · rw [show e0 + 2*(n + 1)=e0 + 2*n + 2 by omega,Nat.pow_add];exact h1 a b ha hb
  · rw [show 2*(n + 1)=2*n + 2 by omega,Nat.pow_add];exact h2 a b ha hb
  · rw [show 2*(n + 1)=2*n + 2 by omega,Nat.pow_add];exact h3 a b ha hb
theorem MvI.fits {b:Nat} (h:MvI r c e0 M n S) (hn:n≤12) (hb:e0 + 24<b):gM r c b S:=
  ⟨fun i j hi hj=>Nat.lt_of_le_of_lt (h.bm i j hi hj) (Nat.pow_lt_pow_right (by decide) (by omega)),fun i j hi hj=>Nat.lt_of_le_of_lt (h.bu i j hi hj) (Nat.pow_lt_pow_right (by decide) (by omega)),fun i j hi hj=>Nat.lt_of_le_of_lt (h.bv i j hi hj) (Nat.pow_lt_pow_right (by decide) (by omega))⟩
end
theorem ip (x:Int):(x.tmod 4).natAbs<4:=by rw [Int.natAbs_tmod];exact Nat.mod_lt _ (by decide)
theorem pQ (x:Int): -9223372036854775808≤x.tmod 4∧x.tmod 4<9223372036854775808:=by have:=ip x;omega
end Go.TL
namespace Go.TL
open Go.RowKit Go.Proofs
set_option linter.unusedVariables false
set_option linter.unusedSimpArgs false
section
set_option maxRecDepth 100000
theorem uT:dT Tryz.prog 82 0 0=true:=by kernel_rfl
theorem uS:dT Tryz.prog 82 1 1=true:=by kernel_rfl
theorem uR:dT Tryz.prog 82 2 2=true:=by kernel_rfl
theorem uQ:dT Tryz.prog 82 3 3=true:=by kernel_rfl
theorem ni:sliceB Tryz.prog 56 82 4 4=true:=by kernel_rfl
end
set_option maxRecDepth 10000 in
set_option maxHeartbeats 1600000 in
theorem vh (w:World) (x:Value) (r c:Nat) (M:Nat→Nat→Int) (b0 e0 b:Nat) (l:Value) (m:Nat) (ka ki kj:Nat→Nat) (kk:Nat→Int) (hx:bf w x r c M b0) (hM:∀i j,i<r→j<c→(M i j).natAbs≤2^e0) (hb0:b0 + 1≤b) (he:e0 + 26<b) (hb:2*b + 300≤aZ) (hl:oK w l m ka ki kj kk) (hkb:∀i,i<m→ki i<256∧kj i<256∧ka i<256):Calls Tryz.prog 31 #[x,l] w (cb w fun v w'=>∃S,MvI r c e0 M 12 S∧bf w' v r c S.M b):=by
 have hLIM:aZ=562949953421312:=rfl;obtain ⟨sx,rfl,hr,hc,hSx⟩:=hx.form;have hwr:w.heap.size≤w.heap.size:=Nat.le_refl _;have hlm:m<9223372036854775808:=by obtain ⟨_,_,_,h2,h3,_⟩:=hl;omega
 refine aj (N:=80) (rs:= #[.cell 4 28]) Tryz.func31 rfl rfl rfl (Nat.le_of_ble_eq_true rfl) ?_;have hX:aG w w:=aG.refl w;refine ab ?_;refine RL.x rfl rfl (cX.box [.int .i64 ((r:Nat)),.int .i64 ((c:Nat)),sx] rfl rfl) ?_;rintro _ w1 ⟨g1,rfl,hge1,hx1,hA1⟩;replace hX:=aG.trans hX hx1;refine RL.x rfl rfl (cX.alloc [.int .i64 (0),.int .i64 (0),.slice (none) (0) (0)] bo rfl) ?_;rintro _ w2 ⟨g2,rfl,hge2,hx2,hA2⟩;have hbs2:w.heap.size≤g2:=Nat.le_trans hX.size hge2;replace hA1:=aR.ext hA1 hx2;replace hX:=aG.trans hX hx2;refine RL.nil ?_;refine ab ?_;refine RL.p rfl rfl (ae [.int .i64 ((r:Nat)),.int .i64 ((c:Nat)),sx] aM rfl (hA1.cells 0 _ rfl rfl)) ?_;refine RL.x rfl rfl (cX.call wE (aE rfl) (qf _ _ _ _ _ _ b (bf.mk (cE.ext hSx hX) (by omega) (by omega)) (by omega) (by omega))) ?_;rintro _ w3 ⟨hx3,gw,rfl,hW⟩;obtain ⟨B,hBe⟩:∃B:Nat,B=w2.heap.size:=⟨_,rfl⟩
 rw [←hBe] at hW;have hBle:w.heap.size≤B:=by rw [hBe];exact hX.size
 replace hA1:=aR.ext hA1 hx3;replace hA2:=aR.ext hA2 hx3;replace hX:=aG.trans hX hx3;refine RL.p rfl rfl (cn.assign rfl) ?_;refine RL.nil ?_;refine WP.seq ?_;refine ab ?_;refine RL.p rfl rfl (cn.assign rfl) ?_;refine RL.nil ?_;refine WP.block ?_;refine WP.loop (fun mz ez uz=>∃q:Nat,∃S:WS,(mz=m - q)∧(ez 1=l)∧(ez 2= .pointer (some ⟨g1,0,none⟩))∧(ez 4= .pointer (some ⟨g2,0,none⟩))∧(ez 5= .pointer (some ⟨gw,0,none⟩))∧(ez 6= .int .i64 ((q:Nat)))∧(q≤m∧q≤12)∧(MvI r c e0 M q S)∧(aG w uz)∧(aR uz g1 28 3 (bt [.int .i64 ((r:Nat)),.int .i64 ((c:Nat)),sx]))∧(aR uz g2 28 3 (bt [.int .i64 (0),.int .i64 (0),.slice (none) (0) (0)]))∧(bJ 87 uz B gw r c (S).M (S).U (S).V b)) (m - 0) ?_ ?_
 · exact ⟨0,⟨M,bH,bH⟩,rfl,rfl,rfl,rfl,rfl,rfl,(⟨by omega,by omega⟩),(MvI.start hM),hX,hA1,hA2,hW⟩
 rintro m1 e1 w4 ⟨q,S,hm1,s1_e1,s2_e1,s4_e1,s5_e1,s6_e1,hq,hG,hX1,hA1,hA2,hW⟩;have hG1:=hG;refine WP.seq ?_;refine aJ am 13 [_,_,_,_,fun v AC=>v= .bool (decide (((q:Nat):Int)<((m:Nat):Int))),_,_,_,fun v AC=>v= .bool (decide ((((q:Nat):Int)<((m:Nat):Int))∧(((q:Nat):Int)<(12:Int)))),_,_,_,_] rfl rfl (fun e_ w_ AB AA=>⟨fun _=>aa (cn.move ((AA 6 rfl s6_e1))),fun _=>aa (cn.move ((AA 1 rfl s1_e1))),fun Az=>aa (pI ni (Az 1 rfl) (oK.ext (oK.ext hl hX1) AB)),fun Az=>aa (cn.lss ((Az 0 rfl)) ((Az 2 rfl))),fun Az=>aa (cn.move ((Az 3 rfl))),fun Az=>gT (Az 4 rfl) fun hg=>aa (cn.move ((AA 6 rfl s6_e1))),fun Az=>gT (Az 4 rfl) fun hg=>aa (cn.lss ((Az 5 rfl hg)) rfl),fun Az=>aa (aB (p:=((q:Nat):Int)<((m:Nat):Int)) (q:=((q:Nat):Int)<(12:Int)) (Az 4 rfl) (fun hq=>(Az 6 rfl hq))),fun Az=>aa (cn.move ((Az 7 rfl))),fun Az=>gT (Az 8 rfl) fun hg=>aa (cn.fieldAddr aY ((AA 2 rfl s2_e1))),fun Az=>gT (Az 8 rfl) fun hg=>aa (cn.load bO ((Az 9 rfl hg)) ((aR.ext hA1 AB).at_ (i:=0) rfl rfl)),fun Az=>gT (Az 8 rfl) fun hg=>aa (cn.gtr ((Az 10 rfl hg)) rfl),fun Az=>aa (aB (p:=(((q:Nat):Int)<((m:Nat):Int))∧(((q:Nat):Int)<(12:Int))) (q:=(0:Int)<((r:Nat):Int)) (Az 8 rfl) (fun hq=>(Az 11 rfl hq))),trivial⟩) ?_;intro e2 w5 hx4 ho1 hf1;replace hA1:=aR.ext hA1 hx4;replace hA2:=aR.ext hA2 hx4;replace hW:=bJ.ext hW hx4;replace hX1:=aG.trans hX1 hx4;have s1_e2:=ho1 1 rfl s1_e1;have s2_e2:=ho1 2 rfl s2_e1;have s4_e2:=ho1 4 rfl s4_e1;have s5_e2:=ho1 5 rfl s5_e1;have s6_e2:=ho1 6 rfl s6_e1;have s23_e2:e2 23=_:=hf1 12 rfl;refine RL.nil ?_;refine af (((((q:Nat):Int)<((m:Nat):Int))∧(((q:Nat):Int)<(12:Int)))∧((0:Int)<((r:Nat):Int))) s23_e2 (fun c23=> ?_) (fun c23=> ?_)
 ·
  refine WP.skip ?_;refine pA.norm ?_;refine WP.seq ?_;refine WP.block ?_;have hkq:=hkb q (by omega);obtain ⟨ia,hiaE⟩:∃ia,ia=ki q % r:=⟨_,rfl⟩
  obtain ⟨ja,hjaE⟩:∃ja,ja=kj q % r:=⟨_,rfl⟩
  have hr0:0<r:=by omega
  have hia:ia<r:=by rw [hiaE];exact Nat.mod_lt _ hr0
  have hja:ja<r:=by rw [hjaE];exact Nat.mod_lt _ hr0
  refine aJ am 9 [_,_,_,_,_,_,_,_,_] rfl rfl (fun e_ w_ AB AA=>⟨fun _=>aa (cn.move ((AA 1 rfl s1_e2))),fun _=>aa (cn.move ((AA 6 rfl s6_e2))),fun Az=>ai (en (j:=q) ni (Az 0 rfl) (oK.ext (oK.ext hl hX1) AB) (Az 1 rfl) (by omega) (by omega)),fun Az=>ai (rS uS rfl (Az 2 rfl)),fun Az=>aa (dH oO rfl (Az 3 rfl)),fun Az=>aa (ax (c:=((ki q:Nat):Int)) nk nl ((Az 4 rfl)) (bA (by omega))),fun _=>aa (cn.fieldAddr aY ((AA 2 rfl s2_e2))),fun Az=>aa (cn.load bO ((Az 6 rfl)) ((aR.ext hA1 AB).at_ (i:=0) rfl rfl)),fun Az=>aa (cn.rem (c:=((ia:Nat):Int)) ((Az 5 rfl)) ((Az 7 rfl)) (by omega) (by rw [hiaE];exact zX _ _)),trivial⟩) ?_;intro e3 w6 hx5 ho2 hf2;replace hA1:=aR.ext hA1 hx5;replace hA2:=aR.ext hA2 hx5;replace hW:=bJ.ext hW hx5;replace hX1:=aG.trans hX1 hx5;have s1_e3:=ho2 1 rfl s1_e2;have s2_e3:=ho2 2 rfl s2_e2;have s4_e3:=ho2 4 rfl s4_e2;have s5_e3:=ho2 5 rfl s5_e2;have s6_e3:=ho2 6 rfl s6_e2;have s34_e3:e3 34=_:=hf2 8 rfl;refine RL.p rfl rfl (cn.assign s34_e3) ?_;refine RL.nil ?_;refine aJ am 9 [_,_,_,_,_,_,_,_,_] rfl rfl (fun e_ w_ AB AA=>⟨fun _=>aa (cn.move ((AA 1 rfl s1_e3))),fun _=>aa (cn.move ((AA 6 rfl s6_e3))),fun Az=>ai (en (j:=q) ni (Az 0 rfl) (oK.ext (oK.ext hl hX1) AB) (Az 1 rfl) (by omega) (by omega)),fun Az=>ai (rR uR rfl (Az 2 rfl)),fun Az=>aa (dH oO rfl (Az 3 rfl)),fun Az=>aa (ax (c:=((kj q:Nat):Int)) nk nl ((Az 4 rfl)) (bA (by omega))),fun _=>aa (cn.fieldAddr aY ((AA 2 rfl s2_e3))),fun Az=>aa (cn.load bO ((Az 6 rfl)) ((aR.ext hA1 AB).at_ (i:=0) rfl rfl)),fun Az=>aa (cn.rem (c:=((ja:Nat):Int)) ((Az 5 rfl)) ((Az 7 rfl)) (by omega) (by rw [hjaE];exact zX _ _)),trivial⟩) ?_;intro e4 w7 hx6 ho3 hf3;replace hA1:=aR.ext hA1 hx6;replace hA2:=aR.ext hA2 hx6;replace hW:=bJ.ext hW hx6;replace hX1:=aG.trans hX1 hx6;have s1_e4:=ho3 1 rfl s1_e3;have s2_e4:=ho3 2 rfl s2_e3;have s4_e4:=ho3 4 rfl s4_e3;have s5_e4:=ho3 5 rfl s5_e3;have s6_e4:=ho3 6 rfl s6_e3;have s7_e4:e4 7=_:=ho3 7 rfl rfl;have s43_e4:e4 43=_:=hf3 8 rfl;refine RL.p rfl rfl (cn.assign s43_e4) ?_;refine RL.nil ?_;refine ab ?_;refine RL.p rfl rfl (cn.move s1_e4) ?_;refine RL.p rfl rfl (cn.move s6_e4) ?_;refine RL.x rfl rfl (en (j:=q) ni rfl (oK.ext hl hX1) rfl (by omega) (by omega)) ?_;rintro v1 _ ⟨rfl,q1⟩;refine RL.x rfl rfl (rT uT rfl q1) ?_;rintro v2 _ ⟨rfl,q2⟩;refine RL.p rfl rfl (dH oO rfl q2) ?_;refine RL.p rfl rfl (cn.rem (c:=((ka q % 3:Nat):Int)) rfl rfl (by omega) rfl) ?_;refine RL.nil ?_;refine WP.block ?_;refine ab ?_;refine RL.p rfl rfl (cn.eql rfl rfl) ?_;refine RL.p rfl rfl (cn.assign rfl) ?_;refine RL.nil ?_;refine af ((((ka q % 3:Nat):Int):Int)=(0:Int)) rfl (fun c65=> ?_) (fun c65=> ?_)
  ·
   refine WP.region ?_;refine RL.p rfl rfl (cn.move s5_e4) ?_;refine RL.p rfl rfl (cn.move s7_e4) ?_;refine RL.p rfl rfl (cn.move rfl) ?_;refine RL.x rfl rfl (ca sl (cO rfl rfl rfl) (pa _ _ _ _ _ _ _ _ _ ia ja hW (by omega) (by omega))) ?_;rintro _ w9 ⟨hk1,hN1⟩;replace hA1:=cH hA1 hk1 (by decide);replace hA2:=cH hA2 hk1 (by decide);replace hX1:=cW hX1 hk1 hBle;replace hW:bJ 87 w9 B gw r c (bk S ia ja).M (bk S ia ja).U (bk S ia ja).V b:=hN1;refine RL.nil ?_;refine iM.norm ?_;refine iM.norm ?_;refine pA.norm ?_;refine WP.region ?_;refine RL.p rfl rfl (cn.move s6_e4) ?_;refine RL.p rfl rfl (cn.add (c:=((q + 1:Nat):Int)) rfl rfl (bA (by omega))) ?_;refine RL.p rfl rfl (cn.assign rfl) ?_;refine RL.nil ?_;refine pA.norm ⟨_,(by omega),q + 1,_,rfl,s1_e4,s2_e4,s4_e4,s5_e4,rfl,(⟨by omega,by omega⟩),(hG.swap hia hja),hX1,hA1,hA2,hW⟩
  ·
   refine ab ?_;refine RL.p rfl rfl (cn.eql rfl rfl) ?_;refine RL.p rfl rfl (cn.assign rfl) ?_;refine RL.nil ?_;refine af ((((ka q % 3:Nat):Int):Int)=(1:Int)) rfl (fun c71=> ?_) (fun c71=> ?_)
   ·
    refine WP.region ?_;refine RL.p rfl rfl (cn.move s5_e4) ?_;refine RL.p rfl rfl (cn.move s7_e4) ?_;refine RL.x rfl rfl (ca wD (aA rfl rfl) (nG _ _ _ _ _ _ _ _ _ ia hW (by omega))) ?_;rintro _ w11 ⟨hk2,hN2⟩;replace hA1:=cH hA1 hk2 (by decide);replace hA2:=cH hA2 hk2 (by decide);replace hX1:=cW hX1 hk2 hBle;replace hW:bJ 87 w11 B gw r c (ei S ia).M (ei S ia).U (ei S ia).V b:=hN2;refine RL.nil ?_;refine iM.norm ?_;refine iM.norm ?_;refine pA.norm ?_;refine WP.region ?_;refine RL.p rfl rfl (cn.move s6_e4) ?_;refine RL.p rfl rfl (cn.add (c:=((q + 1:Nat):Int)) rfl rfl (bA (by omega))) ?_;refine RL.p rfl rfl (cn.assign rfl) ?_;refine RL.nil ?_;refine pA.norm ⟨_,(by omega),q + 1,_,rfl,s1_e4,s2_e4,s4_e4,s5_e4,rfl,(⟨by omega,by omega⟩),(hG.neg hia),hX1,hA1,hA2,hW⟩
   ·
    refine ab ?_;refine RL.p rfl rfl (cn.move s7_e4) ?_;refine RL.p rfl rfl (cn.move rfl) ?_;refine RL.p rfl rfl (cn.neq rfl rfl) ?_;refine RL.nil ?_;refine af ((((ia:Nat):Int):Int)≠(((ja:Nat):Int):Int)) rfl (fun c52=> ?_) (fun c52=> ?_)
    ·
     have hij:ia≠ja:=by omega
     have hfitn:gM r c b (co S ia ja ((kk q).tmod 4)):=(hG.add hia hja hij (by have:=ip (kk q);omega)).fits (by omega) (by omega);refine WP.region ?_;refine RL.p rfl rfl (cn.move s5_e4) ?_;refine RL.p rfl rfl (cn.move s7_e4) ?_;refine RL.p rfl rfl (cn.move rfl) ?_;refine RL.p rfl rfl (cn.move s1_e4) ?_;refine RL.p rfl rfl (cn.move s6_e4) ?_;refine RL.x rfl rfl (en (j:=q) ni rfl (oK.ext hl hX1) rfl (by omega) (by omega)) ?_;rintro v3 _ ⟨rfl,q3⟩;refine RL.x rfl rfl (rQ uQ rfl q3) ?_;rintro v4 _ ⟨rfl,q4⟩;refine RL.p rfl rfl (dH wv rfl q4) ?_;refine RL.p rfl rfl (cn.rem (c:=(kk q).tmod 4) rfl rfl (by omega) rfl) ?_;refine RL.p rfl rfl (ax (c:=(kk q).tmod 4) wx nm rfl (bA ⟨(pQ _).1,Int.le_of_lt_add_one (pQ _).2,rfl⟩)) ?_;refine RL.x rfl rfl (cX.call jR (aE rfl) (pc ((kk q).tmod 4) (2) _ (by have:=ip (kk q);omega) (by have:=ip (kk q);omega) (by decide))) ?_;rintro v5 w12 ⟨hx9,q5⟩;replace hA1:=aR.ext hA1 hx9;replace hA2:=aR.ext hA2 hx9;replace hW:=bJ.ext hW hx9;replace hX1:=aG.trans hX1 hx9;refine RL.x rfl rfl (ca sk (qI rfl rfl rfl rfl) (mu _ _ _ _ _ _ _ _ _ ia ja _ _ _ hW (by omega) (by omega) q5 (by omega) (by omega) (od hfitn (by omega)) (oc hfitn (by omega)) (ob hfitn (by omega)))) ?_;rintro _ w14 ⟨hk3,hN3⟩;replace hA1:=cH hA1 hk3 (by decide);replace hA2:=cH hA2 hk3 (by decide);replace hX1:=cW hX1 hk3 hBle;replace hW:bJ 87 w14 B gw r c (co S ia ja ((kk q).tmod 4)).M (co S ia ja ((kk q).tmod 4)).U (co S ia ja ((kk q).tmod 4)).V b:=hN3;refine RL.nil ?_;refine iM.norm ?_;refine iM.norm ?_;refine pA.norm ?_;refine WP.region ?_;refine RL.p rfl rfl (cn.move s6_e4) ?_;refine RL.p rfl rfl (cn.add (c:=((q + 1:Nat):Int)) rfl rfl (bA (by omega))) ?_;refine RL.p rfl rfl (cn.assign rfl) ?_;refine RL.nil ?_;refine pA.norm ⟨_,(by omega),q + 1,_,rfl,s1_e4,s2_e4,s4_e4,s5_e4,rfl,(⟨by omega,by omega⟩),(hG.add hia hja hij (by have:=ip (kk q);omega)),hX1,hA1,hA2,hW⟩
    ·
     refine WP.skip ?_;refine iM.norm ?_;refine iM.norm ?_;refine pA.norm ?_;refine WP.region ?_;refine RL.p rfl rfl (cn.move s6_e4) ?_;refine RL.p rfl rfl (cn.add (c:=((q + 1:Nat):Int)) rfl rfl (bA (by omega))) ?_;refine RL.p rfl rfl (cn.assign rfl) ?_;refine RL.nil ?_;refine pA.norm ⟨_,(by omega),q + 1,_,rfl,s1_e4,s2_e4,s4_e4,s5_e4,rfl,(⟨by omega,by omega⟩),hG.next,hX1,hA1,hA2,hW⟩
 ·
  refine WP.exit ?_;refine pA.exit ?_;refine pA.exit ?_;refine iM.same ?_;refine pA.norm ?_;have hWc:=hW;obtain ⟨hm_1,hu_1,hv_1,km_1,ku_1,kv_1,ρm_1,ρu_1,ρv_1,_,hG_1,hMm_1,hMu_1,hMv_1,_⟩:=hWc;have hdm_1:=cu.dlim hMm_1;have hcm_1:=cu.clim hMm_1;have hdu_1:=cu.dlim hMu_1;have hdv_1:=cu.dlim hMv_1
  skip
  refine ab ?_;refine RL.p rfl rfl (cn.move s5_e2) ?_;refine RL.p rfl rfl (cn.nilCheck rfl) ?_;refine RL.p rfl rfl (cn.fieldAddr cv rfl) ?_;refine RL.p rfl rfl (ae [.int .i64 ((r:Nat)),.int .i64 ((c:Nat)),.slice (some ⟨hm_1,0,none⟩) (r) (km_1)] aM rfl (hG_1.cells 0 _ rfl rfl)) ?_;refine RL.x rfl rfl (cX.store [.int .i64 ((r:Nat)),.int .i64 ((c:Nat)),.slice (some ⟨hm_1,0,none⟩) (r) (km_1)] bE s4_e2 rfl rfl hA2 (Nat.le_of_ble_eq_true rfl) (bG rfl rfl rfl)) ?_;rintro _ w15 ⟨hk4,hnew⟩;replace hMm_1:=bc hMm_1 hk4 hA2 (by decide);replace hX1:=hX1.step hk4 (fun b e=>by subst e;exact hbs2);replace hA2:=hnew.lit [.int .i64 ((r:Nat)),.int .i64 ((c:Nat)),.slice (some ⟨hm_1,0,none⟩) (r) (km_1)] rfl;clear hnew;refine RL.nil ?_;refine WP.ret ?_;refine ⟨.agg #[.int .i64 ((r:Nat)),.int .i64 ((c:Nat)),.slice (some ⟨hm_1,0,none⟩) (r) (km_1)],zP.one (ag [.int .i64 ((r:Nat)),.int .i64 ((c:Nat)),.slice (some ⟨hm_1,0,none⟩) (r) (km_1)] aM s4_e2 (hA2.cells 0 _ rfl rfl)),_,rfl,hX1,?_⟩;dsimp only;exact ⟨S,uB hG (by omega),(cu.matV hMm_1 (by omega) (by omega))⟩
end Go.TL
namespace Go.TL
open Go.RowKit Go.Proofs
set_option linter.unusedVariables false
def bR (e0 r:Nat):Nat:=eR e0 r r + gR e0 r r + 2
structure HermR (r c e0:Nat) (M0:Nat→Nat→Int) (k:Nat) (S:WS):Prop where
  lin:Lin r c M0 S
  kr:k≤r
  kc:k≤c
  ech:iO r k c S.M
  bm:∀i j,i<r→j<c→(S.M i j).natAbs≤2^eR e0 r k
  bu:∀i j,i<r→j<r→(S.U i j).natAbs≤2^eR e0 r k
  bv:∀i j,i<r→j<r→(S.V i j).natAbs≤2^gR e0 r k
theorem mt (w:World) (x:Value) (r c:Nat) (M:Nat→Nat→Int) (b0 e0 b:Nat) (hx:bf w x r c M b0) (h8:r≤8) (hM:∀i j,i<r→j<c→(M i j).natAbs≤2^e0) (hb:bR e0 r≤b) (hb1:2 + e0≤b) (hl:2*b + 300≤aZ):
    Calls Tryz.prog 45 #[x] w (cb w fun v w'=>∃k S,HermR r c e0 M k S∧lc w' v r c S b):=by
  have hfit:∀{t:Nat} {S:WS},t≤r→(∀i j,i<r→j<c→(S.M i j).natAbs≤2^eR e0 r t)→(∀i j,i<r→j<r→(S.U i j).natAbs≤2^eR e0 r t)→(∀i j,i<r→j<r→(S.V i j).natAbs≤2^gR e0 r t)→gM r c b S:=by
    intro t S ht h1 h2 h3;have e1:=gD e0 r (s:=t) (t:=r) ht;have e2:=mH e0 r (s:=t) (t:=r) ht
    unfold bR at hb
    exact ⟨fun i j hi hj=>eG (h1 i j hi hj) (by omega),fun i j hi hj=>eG (h2 i j hi hj) (by omega),fun i j hi hj=>eG (h3 i j hi hj) (by omega)⟩
  have e0r:=gD e0 r (s:=0) (t:=r) (by omega);have hbb:=hb
  unfold bR at hbb
  simp only [eR] at e0r;have hx0:bf w x r c M (e0 + 1):=hx.more (fun i j hi hj=>eG (hM i j hi hj) (by omega)) (by omega);refine (xR w x r c M (e0 + 1) b (FR r c e0 M) (JR r c e0 M) hx0 (by omega) hl (FR.start hM) (fun top q S ht hq h=>JR.of h ht hq) ?_ ?_ ?_ ?_ ?_ ?_).mono ?_
  · intro top q i S hti hir hq hJ hz h0
    obtain ⟨_,s,hs,g1,g2,g3⟩:=hJ.step hti hir hz h0;have e1:=gD e0 r (s:=top + 1) (t:=r) (by omega);have e2:=mH e0 r (s:=top + 1) (t:=r) (by omega);have hp:∀x:Nat,2^x*(2^(2*eR e0 r top + 6))^(i - top - 1)*s≤2^(x + (2*eR e0 r top + 6)*(r - top - 1)):=fun x=>by
      have h1:2^x*(2^(2*eR e0 r top + 6))^(i - top - 1)*s≤2^x*(2^(2*eR e0 r top + 6))^(i - top - 1)*2^(2*eR e0 r top + 6):=Nat.mul_le_mul_left _ hs;refine Nat.le_trans h1 ?_;rw [←Nat.pow_mul,←Nat.pow_add,←Nat.pow_add];refine Nat.pow_le_pow_right (by omega) ?_;have h2:(2*eR e0 r top + 6)*(i - top - 1) + (2*eR e0 r top + 6)=(2*eR e0 r top + 6)*(i - top - 1 + 1):=by rw [Nat.mul_add,Nat.mul_one]
      have h3:(2*eR e0 r top + 6)*(i - top - 1 + 1)≤(2*eR e0 r top + 6)*(r - top - 1):=Nat.mul_le_mul_left _ (by omega);omega
    have k1:eR e0 r top + (2*eR e0 r top + 6)*(r - top - 1)<eR e0 r (top + 1):=by simp only [eR];omega
    have k2:gR e0 r top + (2*eR e0 r top + 6)*(r - top - 1)<gR e0 r (top + 1):=by simp only [gR];omega
    exact ⟨fun a j ha hj=>eG (Nat.le_trans (g1 a j ha hj) (hp _)) (by omega),fun a j ha hj=>eG (Nat.le_trans (g2 a j ha hj) (hp _)) (by omega),fun a j ha hj=>eG (Nat.le_trans (g3 a j ha hj) (hp _)) (by omega)⟩
  · intro top q i S hti hir hq hJ hz h0
    exact (hJ.step hti hir hz h0).1
  · intro top q i S hti hir hq hJ hz h0
    exact hJ.swap hti hir hz h0
  · intro top q i S hti hir hq hJ hz
    exact hJ.zero hti hir hz
  · intro top q S ht hq hJ hz
    exact hJ.none ht hz
  · intro top q S ht hq hJ hz
    obtain ⟨h1,h2⟩:=hJ.pivot ht hq h8 hz;exact ⟨fun n hn=>by obtain ⟨g1,g2,g3⟩:=h1 (n + 1) (by omega);exact hfit (by omega) g1 g2 g3,h2⟩
  · rintro e w' ⟨v,rfl,hx',top,q,S,hF,hex,ht,hq,hH⟩
    have hech:iO r top c S.M:=by
      obtain ⟨P,h1,h2⟩:=hF.ech;refine ⟨P,fun i hi=> ?_,fun a ha har j hj=> ?_⟩
      · obtain ⟨g1,g2⟩:=h1 i hi;exact ⟨by omega,g2⟩
      · rcases hex with h | h
        · exact h2 a ha har j (by omega)
        · omega
    exact ⟨v,rfl,hx',top,S,⟨hF.lin,ht,hech.kc (Nat.le_refl _),hech,hF.bm,hF.bu,hF.bv⟩,hH⟩
end Go.TL
namespace Go.TL
set_option linter.unusedVariables false
theorem iO.some {r k c:Nat} {M:Nat→Nat→Int} (h:iO r k c M) {i:Nat} (hi:i<k):0≤piv (M i) c:=by
  obtain ⟨P,h1,_⟩:=h;obtain ⟨g1,g2,_⟩:=h1 i hi
  by_cases hn:0≤piv (M i) c
  · exact hn
  · have h3:dc gP (M i) c= -1:=by have:=(eV (p:=gP) (z:=M i) c).2;unfold piv at hn;omega
    have:=fj h3 (P i) g1
    unfold gP at this
    omega
theorem iO.none {r k c:Nat} {M:Nat→Nat→Int} (h:iO r k c M) {i:Nat} (hi:k≤i) (hr:i<r):¬0≤piv (M i) c:=by
  obtain ⟨P,_,h2⟩:=h
  unfold piv
  rw [ko fun j hj=>by unfold gP;exact fun hne=>hne (h2 i hi hr j hj)];omega
def kZ (r c e0:Nat) (M0:Nat→Nat→Int) (k:Nat) (M:Nat→Nat→Int):Prop:=
  ∃k1 S1 S2,HermR r c e0 M0 k1 S1∧HermR (r - k1) r (eR e0 r k1) (fun i=>S1.U (k1 + i)) k S2∧M=S2.M
theorem kZ.bd {r c e0 e1 k:Nat} {M0 M:Nat→Nat→Int} (h:kZ r c e0 M0 k M) (he:∀k,k≤r→eR (eR e0 r k) (r - k) (r - k)≤e1) {i j:Nat} (hi:i<k) (hj:j<r):(M i j).natAbs≤2^e1:=by
  obtain ⟨k1,S1,S2,h1,h2,rfl⟩:=h;have g1:=h2.kr;exact Nat.le_trans (h2.bm i j (by omega) hj) (Nat.pow_le_pow_right (by omega) (Nat.le_trans (gD _ _ g1) (he k1 h1.kr)))
theorem kZ.kr {r c e0 k:Nat} {M0 M:Nat→Nat→Int} (h:kZ r c e0 M0 k M):k≤r:=by
  obtain ⟨k1,S1,S2,h1,h2,rfl⟩:=h;have g1:=h2.kr;omega
end Go.TL
namespace Go.TL
open Go.RowKit Go.Proofs
set_option linter.unusedVariables false
set_option linter.unusedSimpArgs false
set_option maxRecDepth 10000 in
theorem sW (w:World) (x:Value) (rx cx:Nat) (Mx:Nat→Nat→Int) (btx:Nat) (k:Nat) (hx:bf w x rx cx Mx btx) (hk:k≤rx) (h1:∀i,i<k→0≤piv (Mx i) cx) (h2:∀i,k≤i→i<rx→¬0≤piv (Mx i) cx):Calls Tryz.prog 24 #[x] w (cb w fun v w'=>v= .int .i64 (k:Nat)):=by
 have hLIM:aZ=562949953421312:=rfl;have hmatx:=hx;obtain ⟨sx,rfl,hrx,hcx,hSx⟩:=hx.form;refine aj (N:=21) (rs:= #[.tmp 2]) Tryz.func24 rfl rfl rfl (Nat.le_of_ble_eq_true rfl) ?_;have hX:aG w w:=aG.refl w;refine ab ?_;refine RL.x rfl rfl (cX.box [.int .i64 ((rx:Nat)),.int .i64 ((cx:Nat)),sx] rfl rfl) ?_;rintro _ w1 ⟨g1,rfl,hge1,hx1,hA1⟩;replace hX:=aG.trans hX hx1;refine RL.p rfl rfl (cn.assign rfl) ?_;refine RL.nil ?_;refine ab ?_;refine RL.p rfl rfl (cn.assign rfl) ?_;refine RL.nil ?_;refine WP.seq ?_;refine ab ?_;refine RL.p rfl rfl (cn.assign rfl) ?_;refine RL.nil ?_;refine WP.block ?_;refine WP.loop (fun mz ez uz=>∃n:Nat,∃m:Nat,(mz=rx - n)∧(ez 1= .pointer (some ⟨g1,0,none⟩))∧(ez 2= .int .i64 (0))∧(ez 3= .int .i64 ((m:Nat)))∧(ez 4= .int .i64 ((n:Nat)))∧(n≤rx)∧(m≤k∧(n≤k→m=n)∧(k≤n→m=k))∧(aG w uz)∧(aR uz g1 28 3 (bt [.int .i64 ((rx:Nat)),.int .i64 ((cx:Nat)),sx]))) (rx - 0) ?_ ?_
 · exact ⟨0,0,rfl,rfl,rfl,rfl,rfl,(by omega),(by omega),hX,hA1⟩
 rintro m1 e1 w2 ⟨n,m,hm1,s1_e1,s2_e1,s3_e1,s4_e1,hn,hm,hX1,hA1⟩;refine WP.seq ?_;refine ab ?_;refine RL.p rfl rfl (cn.move s4_e1) ?_;refine RL.p rfl rfl (cn.fieldAddr aY s1_e1) ?_;refine RL.p rfl rfl (cn.load bO rfl (hA1.at_ (i:=0) rfl rfl)) ?_;refine RL.p rfl rfl (cn.lss rfl rfl) ?_;refine RL.nil ?_;refine af (((n:Nat):Int)<((rx:Nat):Int)) rfl (fun c8=> ?_) (fun c8=> ?_)
 ·
  refine WP.skip ?_;refine pA.norm ?_;refine WP.seq ?_;refine WP.block ?_;refine ab ?_;refine RL.p rfl rfl (cn.fieldAddr au s1_e1) ?_;refine RL.p rfl rfl (cn.load aK rfl (hA1.at_ (i:=2) rfl rfl)) ?_;refine RL.p rfl rfl (cn.move s4_e1) ?_;refine RL.x rfl rfl (bK (j:=n) aF rfl (cE.ext hSx hX1) rfl (by omega) (by omega)) ?_;rintro v1 _ ⟨rfl,q1⟩;refine RL.x rfl rfl (bQ aU rfl q1) ?_;rintro v2 _ ⟨rfl,q2⟩;refine RL.x rfl rfl (cX.call zb (aE rfl) (vg _ _ _ _ _ q2)) ?_;rintro _ w3 ⟨hx2,rfl⟩;replace hA1:=aR.ext hA1 hx2;replace hX1:=aG.trans hX1 hx2;refine RL.p rfl rfl (cn.geq rfl rfl) ?_;refine RL.nil ?_;refine af ((0:Int)≤(piv (Mx n) cx:Int)) rfl (fun c17=> ?_) (fun c17=> ?_)
  ·
   refine WP.region ?_;refine RL.p rfl rfl (cn.move s3_e1) ?_;refine RL.p rfl rfl (cn.add (c:=((m + 1:Nat):Int)) rfl rfl (bA (by omega))) ?_;refine RL.p rfl rfl (cn.assign rfl) ?_;refine RL.nil ?_;refine iM.norm ?_;refine pA.norm ?_;refine WP.region ?_;refine RL.p rfl rfl (cn.move s4_e1) ?_;refine RL.p rfl rfl (cn.add (c:=((n + 1:Nat):Int)) rfl rfl (bA (by omega))) ?_;refine RL.p rfl rfl (cn.assign rfl) ?_;refine RL.nil ?_;have hnk:n<k:=by
     rcases Nat.lt_or_ge n k with h | h
     · exact h
     · exact absurd c17 (h2 n h (by omega))
   refine pA.norm ⟨_,(by omega),n + 1,m + 1,rfl,s1_e1,s2_e1,rfl,rfl,(by omega),(by omega),hX1,hA1⟩
  ·
   refine WP.skip ?_;refine iM.norm ?_;refine pA.norm ?_;refine WP.region ?_;refine RL.p rfl rfl (cn.move s4_e1) ?_;refine RL.p rfl rfl (cn.add (c:=((n + 1:Nat):Int)) rfl rfl (bA (by omega))) ?_;refine RL.p rfl rfl (cn.assign rfl) ?_;refine RL.nil ?_;have hnk:k≤n:=by
     rcases Nat.lt_or_ge n k with h | h
     · exact absurd (h1 n h) c17
     · exact h
   refine pA.norm ⟨_,(by omega),n + 1,m,rfl,s1_e1,s2_e1,s3_e1,rfl,(by omega),(by omega),hX1,hA1⟩
 ·
  refine WP.exit ?_;refine pA.exit ?_;refine pA.exit ?_;refine iM.same ?_;refine pA.norm ?_;refine ab ?_;refine RL.p rfl rfl (cn.move s3_e1) ?_;refine RL.p rfl rfl (cn.assign rfl) ?_;refine RL.nil ?_;refine WP.ret ?_;refine ⟨.int .i64 ((m:Nat)),zP.one (fN.tmp rfl),_,rfl,hX1,?_⟩;dsimp only;rw [show m=k by omega]
set_option maxRecDepth 10000 in
theorem wV (w:World) (x:Value) (rx cx:Nat) (Mx:Nat→Nat→Int) (btx:Nat) (k:Nat) (hx:bf w x rx cx Mx btx) (hk:k≤rx):Calls Tryz.prog 33 #[x,.int .i64 (k:Nat)] w (cb w fun v w'=>bf w' v k cx Mx btx):=by
 have hLIM:aZ=562949953421312:=rfl;have hmatx:=hx;obtain ⟨sx,rfl,hrx,hcx,hSx⟩:=hx.form;refine aj (N:=13) (rs:= #[.cell 4 28]) Tryz.func33 rfl rfl rfl (Nat.le_of_ble_eq_true rfl) ?_;have hX:aG w w:=aG.refl w;refine ab ?_;refine RL.x rfl rfl (cX.box [.int .i64 ((rx:Nat)),.int .i64 ((cx:Nat)),sx] rfl rfl) ?_;rintro _ w1 ⟨g1,rfl,hge1,hx1,hA1⟩;replace hX:=aG.trans hX hx1;refine RL.x rfl rfl (cX.alloc [.int .i64 (0),.int .i64 (0),.slice (none) (0) (0)] bo rfl) ?_;rintro _ w2 ⟨g2,rfl,hge2,hx2,hA2⟩;have hbs2:w.heap.size≤g2:=Nat.le_trans hX.size hge2;replace hA1:=aR.ext hA1 hx2;replace hX:=aG.trans hX hx2;refine RL.nil ?_;refine aJ am 7 [_,_,_,_,_,_,_] rfl rfl (fun e_ w_ AB AA=>⟨fun _=>aa (cn.move ((AA 1 rfl rfl))),fun _=>aa (cn.fieldAddr bC ((AA 2 rfl rfl))),fun Az=>aa (cn.load bO ((Az 1 rfl)) ((aR.ext hA1 AB).at_ (i:=1) rfl rfl)),fun _=>aa (cn.fieldAddr au ((AA 2 rfl rfl))),fun Az=>aa (cn.load aK ((Az 3 rfl)) ((aR.ext hA1 AB).at_ (i:=2) rfl rfl)),fun _=>aa (cn.move ((AA 1 rfl rfl))),fun Az=>ai (gS (j:=k) aF (Az 4 rfl) (cE.ext (cE.ext hSx hX) AB) (Az 5 rfl) (by omega) (by omega)),trivial⟩) ?_;intro e1 w3 hx3 ho1 hf1;replace hA2:=aR.ext hA2 hx3;replace hX:=aG.trans hX hx3;have s4_e1:e1 4=_:=ho1 4 rfl rfl;have s5_e1:e1 5=_:=hf1 0 rfl;have s7_e1:e1 7=_:=hf1 2 rfl;have s11_e1:cE w3 (e1 11) k cx Mx btx:=hf1 6 rfl;refine RL.p rfl rfl (cn.build (vs:= [(0,.int .i64 ((k:Nat))),(1,.int .i64 ((cx:Nat))),(2,(e1 11))]) [(0,1),(1,1),(2,1)] fU bo (fa s5_e1 s7_e1 rfl) (qz s11_e1)) ?_;refine RL.x rfl rfl (cX.store [.int .i64 ((k:Nat)),.int .i64 ((cx:Nat)),(e1 11)] bE s4_e1 rfl rfl hA2 (Nat.le_of_ble_eq_true rfl) (bG rfl rfl (s11_e1.one))) ?_;rintro _ w4 ⟨hk1,hnew⟩;replace s11_e1:=aD s11_e1 hk1 hA2 (by decide);replace hX:=hX.step hk1 (fun b e=>by subst e;exact hbs2);replace hA2:=hnew.lit [.int .i64 ((k:Nat)),.int .i64 ((cx:Nat)),(e1 11)] rfl;clear hnew;refine RL.nil ?_;refine WP.ret ?_;refine ⟨.agg #[.int .i64 ((k:Nat)),.int .i64 ((cx:Nat)),(e1 11)],zP.one (ag [.int .i64 ((k:Nat)),.int .i64 ((cx:Nat)),(e1 11)] aM s4_e1 (hA2.cells 0 _ rfl rfl)),_,rfl,hX,?_⟩;dsimp only;exact (bf.mk s11_e1 (by omega) (by omega))
set_option maxRecDepth 10000 in
theorem vl (w:World) (x:Value) (rx cx:Nat) (Mx:Nat→Nat→Int) (btx:Nat) (e0 b:Nat) (hx:bf w x rx cx Mx btx) (h8:rx≤8) (hM:∀i j,i<rx→j<cx→(Mx i j).natAbs≤2^e0) (hb:bR e0 rx≤b) (hb1:2 + e0≤b) (hl:2*b + 300≤aZ):Calls Tryz.prog 12 #[x] w (cb w fun v w'=>∃k S,HermR rx cx e0 Mx k S∧bf w' v k cx S.M b):=by
 have hLIM:aZ=562949953421312:=rfl;have hmatx:=hx;obtain ⟨sx,rfl,hrx,hcx,hSx⟩:=hx.form;refine aj (N:=12) (rs:= #[.cell 2 28]) Tryz.func12 rfl rfl rfl (Nat.le_of_ble_eq_true rfl) ?_;have hX:aG w w:=aG.refl w;refine ab ?_;refine RL.x rfl rfl (cX.box [.int .i64 ((rx:Nat)),.int .i64 ((cx:Nat)),sx] rfl rfl) ?_;rintro _ w1 ⟨g1,rfl,hge1,hx1,hA1⟩;replace hX:=aG.trans hX hx1;refine RL.x rfl rfl (cX.alloc [.int .i64 (0),.int .i64 (0),.slice (none) (0) (0)] bo rfl) ?_;rintro _ w2 ⟨g2,rfl,hge2,hx2,hA2⟩;have hbs2:w.heap.size≤g2:=Nat.le_trans hX.size hge2;replace hA1:=aR.ext hA1 hx2;replace hX:=aG.trans hX hx2;refine RL.nil ?_;refine ab ?_;refine RL.p rfl rfl (ae [.int .i64 ((rx:Nat)),.int .i64 ((cx:Nat)),sx] aM rfl (hA1.cells 0 _ rfl rfl)) ?_;refine RL.x rfl rfl (cX.call so (aE rfl) (mt _ _ rx cx Mx _ e0 b (bf.mk (cE.ext hSx hX) (by omega) (by omega)) h8 hM hb hb1 hl)) ?_;rintro _ w3 ⟨hx3,kf_1,Sf_1,hHf_1,sa_1,sb_1,sc_1,rfl,hdr_1,hdc_1,hSa_1,hSb_1,hSc_1⟩;replace hA2:=aR.ext hA2 hx3;replace hX:=aG.trans hX hx3;refine RL.x rfl rfl (cX.alloc [.int .i64 (0),.int .i64 (0),.slice (none) (0) (0),.int .i64 (0),.int .i64 (0),.slice (none) (0) (0),.int .i64 (0),.int .i64 (0),.slice (none) (0) (0)] ji rfl) ?_;rintro _ w4 ⟨g3,rfl,hge3,hx4,hA3⟩;have ne3:g2≠g3:=Nat.ne_of_lt (Nat.lt_of_lt_of_le hA2.lt hge3);have hbs3:w.heap.size≤g3:=Nat.le_trans hX.size hge3;replace hA2:=aR.ext hA2 hx4;replace hSa_1:=cE.ext hSa_1 hx4;replace hSb_1:=cE.ext hSb_1 hx4;replace hSc_1:=cE.ext hSc_1 hx4;replace hX:=aG.trans hX hx4;refine RL.x rfl rfl (cX.store [.int .i64 ((rx:Nat)),.int .i64 ((cx:Nat)),sa_1,.int .i64 ((rx:Nat)),.int .i64 ((rx:Nat)),sb_1,.int .i64 ((rx:Nat)),.int .i64 ((rx:Nat)),sc_1] lA rfl rfl rfl hA3 (Nat.le_of_ble_eq_true rfl) (lM rfl rfl (hSa_1.one) rfl rfl (hSb_1.one) rfl rfl (hSc_1.one))) ?_;rintro _ w5 ⟨hk1,hnew⟩;replace hA2:=hA2.keep hk1 ne3;replace hSa_1:=aD hSa_1 hk1 hA3 (by decide);replace hX:=hX.step hk1 (fun b e=>by subst e;exact hbs3);replace hA3:=hnew.lit [.int .i64 ((rx:Nat)),.int .i64 ((cx:Nat)),sa_1,.int .i64 ((rx:Nat)),.int .i64 ((rx:Nat)),sb_1,.int .i64 ((rx:Nat)),.int .i64 ((rx:Nat)),sc_1] rfl;clear hnew;refine RL.nil ?_;have hkr:=hHf_1.kr;refine aJ am 6 [_,_,_,_,_,_] rfl rfl (fun e_ w_ AB AA=>⟨fun _=>aa (cn.fieldAddr gm ((AA 3 rfl rfl))),fun Az=>aa (ae [.int .i64 ((rx:Nat)),.int .i64 ((cx:Nat)),sa_1] aM ((Az 0 rfl)) ((aR.ext hA3 AB).cells 0 _ rfl rfl)),fun _=>aa (cn.fieldAddr gm ((AA 3 rfl rfl))),fun Az=>aa (ae [.int .i64 ((rx:Nat)),.int .i64 ((cx:Nat)),sa_1] aM ((Az 2 rfl)) ((aR.ext hA3 AB).cells 0 _ rfl rfl)),fun Az=>cX.call wM (aE ((Az 3 rfl))) (sW _ _ _ _ _ _ kf_1 (bf.mk (cE.ext hSa_1 AB) (by omega) (by omega)) hHf_1.kr (fun i hi=>hHf_1.ech.some hi) (fun i hi hr=>hHf_1.ech.none hi hr)),fun Az=>cX.call wL (aA ((Az 1 rfl)) ((Az 4 rfl))) (wV _ _ _ _ _ _ kf_1 (bf.mk (cE.ext hSa_1 AB) (by omega) (by omega)) (by omega)),trivial⟩) ?_;intro e1 w6 hx5 ho1 hf1;replace hA2:=aR.ext hA2 hx5;replace hX:=aG.trans hX hx5;have s2_e1:e1 2=_:=ho1 2 rfl rfl;have s11_e1:bf w6 (e1 11) kf_1 cx Sf_1.M b:=hf1 5 rfl;obtain ⟨sv1,hq1,hr1,hc1,hS1⟩:=s11_e1.form;refine RL.x rfl rfl (cX.store [.int .i64 ((kf_1:Nat)),.int .i64 ((cx:Nat)),sv1] bE s2_e1 hq1 rfl hA2 (Nat.le_of_ble_eq_true rfl) (bG rfl rfl hS1.one)) ?_;rintro _ w7 ⟨hk2,hnew⟩;replace hS1:=aD hS1 hk2 hA2 (by decide);replace hX:=hX.step hk2 (fun b e=>by subst e;exact hbs2);replace hA2:=hnew.lit [.int .i64 ((kf_1:Nat)),.int .i64 ((cx:Nat)),sv1] rfl;clear hnew;refine RL.nil ?_;refine WP.ret ?_;refine ⟨.agg #[.int .i64 ((kf_1:Nat)),.int .i64 ((cx:Nat)),sv1],zP.one (ag [.int .i64 ((kf_1:Nat)),.int .i64 ((cx:Nat)),sv1] aM s2_e1 (hA2.cells 0 _ rfl rfl)),_,rfl,hX,?_⟩;dsimp only;exact ⟨kf_1,Sf_1,hHf_1,(bf.mk hS1 (by omega) (by omega))⟩
set_option maxRecDepth 10000 in
theorem sX (w:World) (x:Value) (rx cx:Nat) (Mx:Nat→Nat→Int) (btx:Nat) (e0 b:Nat) (hx:bf w x rx cx Mx btx) (h8:rx≤8) (hM:∀i j,i<rx→j<cx→(Mx i j).natAbs≤2^e0) (hb:bR e0 rx≤b) (hb1:2 + e0≤b) (hl:2*b + 300≤aZ) (hb2:∀k,k≤rx→bR (eR e0 rx k) (rx - k)≤b) (hb3:2 + eR e0 rx rx≤b):Calls Tryz.prog 14 #[x] w (cb w fun v w'=>∃k M,kZ rx cx e0 Mx k M∧bf w' v k rx M b):=by
 have hLIM:aZ=562949953421312:=rfl;have hmatx:=hx;obtain ⟨sx,rfl,hrx,hcx,hSx⟩:=hx.form;refine aj (N:=25) (rs:= #[.cell 2 28]) Tryz.func14 rfl rfl rfl (Nat.le_of_ble_eq_true rfl) ?_;have hX:aG w w:=aG.refl w;refine ab ?_;refine RL.x rfl rfl (cX.box [.int .i64 ((rx:Nat)),.int .i64 ((cx:Nat)),sx] rfl rfl) ?_;rintro _ w1 ⟨g1,rfl,hge1,hx1,hA1⟩;replace hX:=aG.trans hX hx1;refine RL.x rfl rfl (cX.alloc [.int .i64 (0),.int .i64 (0),.slice (none) (0) (0)] bo rfl) ?_;rintro _ w2 ⟨g2,rfl,hge2,hx2,hA2⟩;have hbs2:w.heap.size≤g2:=Nat.le_trans hX.size hge2;replace hA1:=aR.ext hA1 hx2;replace hX:=aG.trans hX hx2;refine RL.nil ?_;refine ab ?_;refine RL.p rfl rfl (ae [.int .i64 ((rx:Nat)),.int .i64 ((cx:Nat)),sx] aM rfl (hA1.cells 0 _ rfl rfl)) ?_;refine RL.x rfl rfl (cX.call so (aE rfl) (mt _ _ rx cx Mx _ e0 b (bf.mk (cE.ext hSx hX) (by omega) (by omega)) h8 hM hb hb1 hl)) ?_;rintro _ w3 ⟨hx3,kf_1,Sf_1,hHf_1,sa_1,sb_1,sc_1,rfl,hdr_1,hdc_1,hSa_1,hSb_1,hSc_1⟩;replace hA1:=aR.ext hA1 hx3;replace hA2:=aR.ext hA2 hx3;replace hX:=aG.trans hX hx3;refine RL.x rfl rfl (cX.alloc [.int .i64 (0),.int .i64 (0),.slice (none) (0) (0),.int .i64 (0),.int .i64 (0),.slice (none) (0) (0),.int .i64 (0),.int .i64 (0),.slice (none) (0) (0)] ji rfl) ?_;rintro _ w4 ⟨g3,rfl,hge3,hx4,hA3⟩;have ne2:g1≠g3:=Nat.ne_of_lt (Nat.lt_of_lt_of_le hA1.lt hge3);have ne3:g2≠g3:=Nat.ne_of_lt (Nat.lt_of_lt_of_le hA2.lt hge3);have hbs3:w.heap.size≤g3:=Nat.le_trans hX.size hge3;replace hA1:=aR.ext hA1 hx4;replace hA2:=aR.ext hA2 hx4;replace hSa_1:=cE.ext hSa_1 hx4;replace hSb_1:=cE.ext hSb_1 hx4;replace hSc_1:=cE.ext hSc_1 hx4;replace hX:=aG.trans hX hx4;refine RL.x rfl rfl (cX.store [.int .i64 ((rx:Nat)),.int .i64 ((cx:Nat)),sa_1,.int .i64 ((rx:Nat)),.int .i64 ((rx:Nat)),sb_1,.int .i64 ((rx:Nat)),.int .i64 ((rx:Nat)),sc_1] lA rfl rfl rfl hA3 (Nat.le_of_ble_eq_true rfl) (lM rfl rfl (hSa_1.one) rfl rfl (hSb_1.one) rfl rfl (hSc_1.one))) ?_;rintro _ w5 ⟨hk1,hnew⟩;replace hA1:=hA1.keep hk1 ne2;replace hA2:=hA2.keep hk1 ne3;replace hSa_1:=aD hSa_1 hk1 hA3 (by decide);replace hSb_1:=aD hSb_1 hk1 hA3 (by decide);replace hX:=hX.step hk1 (fun b e=>by subst e;exact hbs3);replace hA3:=hnew.lit [.int .i64 ((rx:Nat)),.int .i64 ((cx:Nat)),sa_1,.int .i64 ((rx:Nat)),.int .i64 ((rx:Nat)),sb_1,.int .i64 ((rx:Nat)),.int .i64 ((rx:Nat)),sc_1] rfl;clear hnew;refine RL.nil ?_;refine ab ?_;refine RL.p rfl rfl (cn.fieldAddr gm rfl) ?_;refine RL.p rfl rfl (ae [.int .i64 ((rx:Nat)),.int .i64 ((cx:Nat)),sa_1] aM rfl (hA3.cells 0 _ rfl rfl)) ?_;refine RL.x rfl rfl (cX.call wM (aE rfl) (sW _ _ _ _ _ _ kf_1 (bf.mk hSa_1 (by omega) (by omega)) hHf_1.kr (fun i hi=>hHf_1.ech.some hi) (fun i hi hr=>hHf_1.ech.none hi hr))) ?_;rintro _ w6 ⟨hx5,rfl⟩;replace hA1:=aR.ext hA1 hx5;replace hA2:=aR.ext hA2 hx5;replace hSb_1:=cE.ext hSb_1 hx5;replace hA3:=aR.ext hA3 hx5;replace hX:=aG.trans hX hx5;refine RL.p rfl rfl (cn.assign rfl) ?_;refine RL.nil ?_;have hXf:=hX;have hlt_g1:=hA1.lt;have hlt_g2:=hA2.lt;have hlt_g3:=hA3.lt;have hkr:=hHf_1.kr;have hbu:∀i j,i<rx - kf_1→j<rx→(Sf_1.U (kf_1 + i) j).natAbs≤2^eR e0 rx kf_1:=fun i j hi hj=>hHf_1.bu (kf_1 + i) j (by omega) hj
 refine aJ am 13 [_,_,_,_,_,_,_,_,_,_,_,fun v AC=>bf AC v (rx - kf_1) rx ((fun a=>Sf_1.U (kf_1 + a))) b,fun v AC=>fx AC v w6.heap.size 28 ([.int .i64 (0),.int .i64 (0),.slice (none) (0) (0)])] rfl rfl (fun e_ w_ AB AA=>⟨fun _=>aa (cn.fieldAddr aY ((AA 1 rfl rfl))),fun Az=>aa (cn.load bO ((Az 0 rfl)) ((aR.ext hA1 AB).at_ (i:=0) rfl rfl)),fun _=>aa (cn.move ((AA 4 rfl rfl))),fun Az=>aa (cn.sub (c:=((rx - kf_1:Nat):Int)) ((Az 1 rfl)) ((Az 2 rfl)) (bA (by omega))),fun _=>aa (cn.fieldAddr aY ((AA 1 rfl rfl))),fun Az=>aa (cn.load bO ((Az 4 rfl)) ((aR.ext hA1 AB).at_ (i:=0) rfl rfl)),fun _=>aa (cn.fieldAddr pS ((AA 3 rfl rfl))),fun Az=>aa (cn.fieldAddr au ((Az 6 rfl))),fun Az=>aa (cn.load aK ((Az 7 rfl)) ((aR.ext hA3 AB).at_ (i:=5) rfl rfl)),fun _=>aa (cn.move ((AA 4 rfl rfl))),fun Az=>ai (lm (j:=kf_1) aF (Az 8 rfl) (cE.ext hSb_1 AB) (Az 9 rfl) (by omega) (by omega)),fun Az=>ai (φ:=fun v AC=>bf AC v (rx - kf_1) rx ((fun a=>Sf_1.U (kf_1 + a))) b) (cI (φ:=fun v AC=>bf AC v (rx - kf_1) rx ((fun a=>Sf_1.U (kf_1 + a))) b) (v:= .agg #[.int .i64 (((rx - kf_1:Nat):Int)),.int .i64 ((rx:Nat)),(e_ 21)]) (cn.build (vs:= [(0,.int .i64 (((rx - kf_1:Nat):Int))),(1,.int .i64 ((rx:Nat))),(2,(e_ 21))]) [(0,1),(1,1),(2,1)] fU bo (fa ((Az 3 rfl)) ((Az 5 rfl)) rfl) (qz (Az 10 rfl))) (bf.mk (Az 10 rfl) (by omega) (by omega))),fun _=>cX.mono (dE [.int .i64 (0),.int .i64 (0),.slice (none) (0) (0)] bo rfl AB.size) fun v AD hv=>⟨hv.1,hv.2.1⟩,trivial⟩) ?_;intro e1 w7 hx6 ho1 hf1;replace hA2:=aR.ext hA2 hx6;replace hX:=aG.trans hX hx6;have s2_e1:e1 2=_:=ho1 2 rfl rfl;have s22_e1:bf w7 (e1 22) (rx - kf_1) rx ((fun a=>Sf_1.U (kf_1 + a))) b:=hf1 11 rfl;have s5_e1:fx w7 (e1 5) w6.heap.size 28 ([.int .i64 (0),.int .i64 (0),.slice (none) (0) (0)]):=hf1 12 rfl;obtain ⟨gd5,hvd5,hBd5,hAd5⟩:=s5_e1;have hneo_g1_gd5:g1≠gd5:=Nat.ne_of_lt (Nat.lt_of_lt_of_le hlt_g1 hBd5);have hneo_g2_gd5:g2≠gd5:=Nat.ne_of_lt (Nat.lt_of_lt_of_le hlt_g2 hBd5);have hneo_g3_gd5:g3≠gd5:=Nat.ne_of_lt (Nat.lt_of_lt_of_le hlt_g3 hBd5);have hbd5:w.heap.size≤gd5:=Nat.le_trans hXf.size hBd5;obtain ⟨sv1,hq1,hr1,hc1,hS1⟩:=s22_e1.form;refine RL.x rfl rfl (cX.store [.int .i64 ((rx - kf_1:Nat)),.int .i64 ((rx:Nat)),sv1] bE hvd5 hq1 rfl hAd5 (Nat.le_of_ble_eq_true rfl) (bG rfl rfl hS1.one)) ?_;rintro _ w8 ⟨hk2,hnew⟩;replace hA2:=hA2.keep hk2 hneo_g2_gd5;replace hS1:=aD hS1 hk2 hAd5 (by decide);replace hX:=hX.step hk2 (fun b e=>by subst e;exact hbd5);replace hAd5:=hnew.lit [.int .i64 ((rx - kf_1:Nat)),.int .i64 ((rx:Nat)),sv1] rfl;clear hnew;refine RL.nil ?_;refine ab ?_;refine RL.p rfl rfl (ae [.int .i64 ((rx - kf_1:Nat)),.int .i64 ((rx:Nat)),sv1] aM hvd5 (hAd5.cells 0 _ rfl rfl)) ?_;refine RL.x rfl rfl (cX.call zm (aE rfl) (vl _ _ (rx - kf_1) rx (fun a=>Sf_1.U (kf_1 + a)) _ (eR e0 rx kf_1) b (bf.mk hS1 (by omega) (by omega)) (by omega) hbu (hb2 _ hkr) (by have:=gD e0 rx hkr;omega) hl)) ?_;rintro v1 w9 ⟨hx7,kf_2,Sf_2,hHf_2,q1⟩;replace hA2:=aR.ext hA2 hx7;replace hX:=aG.trans hX hx7;obtain ⟨sv2,hq2,hr2,hc2,hS2⟩:=q1.form;refine RL.x rfl rfl (cX.store [.int .i64 ((kf_2:Nat)),.int .i64 ((rx:Nat)),sv2] bE s2_e1 hq2 rfl hA2 (Nat.le_of_ble_eq_true rfl) (bG rfl rfl hS2.one)) ?_;rintro _ w10 ⟨hk3,hnew⟩;replace hS2:=aD hS2 hk3 hA2 (by decide);replace hX:=hX.step hk3 (fun b e=>by subst e;exact hbs2);replace hA2:=hnew.lit [.int .i64 ((kf_2:Nat)),.int .i64 ((rx:Nat)),sv2] rfl;clear hnew;refine RL.nil ?_;refine WP.ret ?_;refine ⟨.agg #[.int .i64 ((kf_2:Nat)),.int .i64 ((rx:Nat)),sv2],zP.one (ag [.int .i64 ((kf_2:Nat)),.int .i64 ((rx:Nat)),sv2] aM s2_e1 (hA2.cells 0 _ rfl rfl)),_,rfl,hX,?_⟩;dsimp only;exact ⟨kf_2,Sf_2.M,⟨kf_1,Sf_1,Sf_2,hHf_1,hHf_2,rfl⟩,(bf.mk hS2 (by omega) (by omega))⟩
end Go.TL
namespace Go.TL
open Go.RowKit Go.Proofs
set_option linter.unusedVariables false
def wh (r c e0 e1:Nat) (M0:Nat→Nat→Int) (k:Nat) (M:Nat→Nat→Int):Prop:=∃k1 K1,kZ c r e0 (fS M0) k1 K1∧kZ c k1 e1 (fS K1) k M
def jg (w:World) (v:Value) (r c e0:Nat) (M0:Nat→Nat→Int) (b:Nat):Prop:=∃k S,HermR r c e0 M0 k S∧lc w v r c S b
theorem jg.ext {w w':World} {v:Value} {r c e0 b:Nat} {M0:Nat→Nat→Int} (h:jg w v r c e0 M0 b) (hx:aG w w'):jg w' v r c e0 M0 b:=by obtain ⟨k,S,h1,h2⟩:=h;exact ⟨k,S,h1,h2.ext hx⟩
theorem nU (r c e0:Nat) (M0:Nat→Nat→Int) (b:Nat):bD (fun v w=>jg w v r c e0 M0 b):=fun _ _ _ h hx=>h.ext hx
instance (r c e0:Nat) (M0:Nat→Nat→Int) (b:Nat):Nonempty (bD (fun v w=>jg w v r c e0 M0 b)):=⟨nU r c e0 M0 b⟩
def iN (w:World) (v:Value) (r c e0:Nat) (M0:Nat→Nat→Int) (b:Nat):Prop:=∃k S,HermR r c e0 M0 k S∧bf w v r c S.M b
theorem iN.ext {w w':World} {v:Value} {r c e0 b:Nat} {M0:Nat→Nat→Int} (h:iN w v r c e0 M0 b) (hx:aG w w'):iN w' v r c e0 M0 b:=by obtain ⟨k,S,h1,h2⟩:=h;exact ⟨k,S,h1,h2.ext hx⟩
theorem pj (r c e0:Nat) (M0:Nat→Nat→Int) (b:Nat):bD (fun v w=>iN w v r c e0 M0 b):=fun _ _ _ h hx=>h.ext hx
instance (r c e0:Nat) (M0:Nat→Nat→Int) (b:Nat):Nonempty (bD (fun v w=>iN w v r c e0 M0 b)):=⟨pj r c e0 M0 b⟩
def qN (w:World) (v:Value) (r c e0:Nat) (M0:Nat→Nat→Int) (b:Nat):Prop:=∃k S,HermR r c e0 M0 k S∧bf w v k c S.M b
theorem qN.ext {w w':World} {v:Value} {r c e0 b:Nat} {M0:Nat→Nat→Int} (h:qN w v r c e0 M0 b) (hx:aG w w'):qN w' v r c e0 M0 b:=by obtain ⟨k,S,h1,h2⟩:=h;exact ⟨k,S,h1,h2.ext hx⟩
theorem pk (r c e0:Nat) (M0:Nat→Nat→Int) (b:Nat):bD (fun v w=>qN w v r c e0 M0 b):=fun _ _ _ h hx=>h.ext hx
instance (r c e0:Nat) (M0:Nat→Nat→Int) (b:Nat):Nonempty (bD (fun v w=>qN w v r c e0 M0 b)):=⟨pk r c e0 M0 b⟩
def qM (w:World) (v:Value) (r c e0:Nat) (M0:Nat→Nat→Int) (b:Nat):Prop:=∃k M,kZ r c e0 M0 k M∧bf w v k r M b
theorem qM.ext {w w':World} {v:Value} {r c e0 b:Nat} {M0:Nat→Nat→Int} (h:qM w v r c e0 M0 b) (hx:aG w w'):qM w' v r c e0 M0 b:=by obtain ⟨k,S,h1,h2⟩:=h;exact ⟨k,S,h1,h2.ext hx⟩
theorem pi (r c e0:Nat) (M0:Nat→Nat→Int) (b:Nat):bD (fun v w=>qM w v r c e0 M0 b):=fun _ _ _ h hx=>h.ext hx
instance (r c e0:Nat) (M0:Nat→Nat→Int) (b:Nat):Nonempty (bD (fun v w=>qM w v r c e0 M0 b)):=⟨pi r c e0 M0 b⟩
section
variable {P:Program} {e:cA} {w:World} {d:Option Tmp} {ty:TypeId} {pos:String} {after:Array Edge} {gd:Option (Nat×Bool)}
theorem rU {t ft r c e0 b:Nat} {M0:Nat→Nat→Int} {x:Operand} {v:Value} (hf:gV P t 0 ft 0=true) (ha:iF P ft 3=true) (hx:ev e x=v) (h:jg w v r c e0 M0 b):
    cX P ⟨d,.field t x 0,ty,pos,after,gd⟩ e w (fun v' w'=>w=w'∧iN w' v' r c e0 M0 b):=by
  obtain ⟨k,S,hH,s1,s2,s3,rfl,⟨d1,_⟩,d2,h1,_⟩:=h;exact cI (φ:=fun v' w'=>iN w' v' r c e0 M0 b) (kV hf ha hx (by rfl)) ⟨k,S,hH,bf.mk h1 d1 d2⟩
end
theorem vf {w:World} {x y:Value} {r c e0 b ry cy bty:Nat} {M0 My:Nat→Nat→Int} (h:iN w x r c e0 M0 b) (hy:bf w y ry cy My bty) (hU:∀k S,HermR r c e0 M0 k S→eS r c ry cy S.M My):
    Calls Tryz.prog 11 #[x,y] w (cb w fun v _=>v= .bool (decide True)):=by
  obtain ⟨k,S,h1,h2⟩:=h;exact (ms _ _ _ _ _ _ _ _ _ _ _ h2 hy).mono fun e w' ⟨v,g1,g2,g3⟩=>⟨v,g1,g2,g3.trans (congrArg _ (decide_eq_true (hU k S h1)))⟩
end Go.TL
namespace Go.TL
open Go.RowKit Go.Proofs
set_option linter.unusedVariables false
set_option linter.unusedSimpArgs false
set_option maxRecDepth 10000 in
theorem pb (w:World) (x:Value) (rx cx:Nat) (Mx:Nat→Nat→Int) (btx:Nat) (e0 e1 b:Nat) (hx:bf w x rx cx Mx btx) (h8:cx≤8) (hM:∀i j,i<rx→j<cx→(Mx i j).natAbs≤2^e0) (hb:bR e0 cx≤b) (hb1:2 + e0≤b) (hl:2*b + 300≤aZ) (hb2:∀k,k≤cx→bR (eR e0 cx k) (cx - k)≤b) (hb3:2 + eR e0 cx cx≤b) (he1:∀k,k≤cx→eR (eR e0 cx k) (cx - k) (cx - k)≤e1) (hb4:bR e1 cx≤b) (hb5:2 + e1≤b) (hb6:∀k,k≤cx→bR (eR e1 cx k) (cx - k)≤b) (hb7:2 + eR e1 cx cx≤b):Calls Tryz.prog 9 #[x] w (cb w fun v w'=>∃k M,wh rx cx e0 e1 Mx k M∧bf w' v k cx M b):=by
 have hLIM:aZ=562949953421312:=rfl;have hmatx:=hx;obtain ⟨sx,rfl,hrx,hcx,hSx⟩:=hx.form;refine aj (N:=10) (rs:= #[.cell 2 28]) Tryz.func9 rfl rfl rfl (Nat.le_of_ble_eq_true rfl) ?_;have hX:aG w w:=aG.refl w;refine ab ?_;refine RL.x rfl rfl (cX.box [.int .i64 ((rx:Nat)),.int .i64 ((cx:Nat)),sx] rfl rfl) ?_;rintro _ w1 ⟨g1,rfl,hge1,hx1,hA1⟩;replace hX:=aG.trans hX hx1;refine RL.x rfl rfl (cX.alloc [.int .i64 (0),.int .i64 (0),.slice (none) (0) (0)] bo rfl) ?_;rintro _ w2 ⟨g2,rfl,hge2,hx2,hA2⟩;have hbs2:w.heap.size≤g2:=Nat.le_trans hX.size hge2;replace hA1:=aR.ext hA1 hx2;replace hX:=aG.trans hX hx2;refine RL.nil ?_;refine ab ?_;refine RL.p rfl rfl (ae [.int .i64 ((rx:Nat)),.int .i64 ((cx:Nat)),sx] aM rfl (hA1.cells 0 _ rfl rfl)) ?_;have hBw1:w.heap.size≤w2.heap.size:=hX.size;refine RL.x rfl rfl (cX.call wK (aE rfl) (jl _ _ _ _ _ _ (bf.mk (cE.ext hSx hX) (by omega) (by omega)))) ?_;rintro v1 w3 ⟨hx3,q1⟩;replace hA2:=aR.ext hA2 hx3;replace hX:=aG.trans hX hx3;refine RL.x rfl rfl (cX.call wP (aE rfl) (sX _ _ cx rx (fS Mx) _ e0 b (cz.matV q1) (by omega) (fun i j hi hj=>hM j i hj hi) hb hb1 hl hb2 hb3)) ?_;rintro v2 w4 ⟨hx4,kl_1,Ml_1,hLf_1,q2⟩;replace hA2:=aR.ext hA2 hx4;replace hX:=aG.trans hX hx4;refine RL.x rfl rfl (cX.alloc [.int .i64 (0),.int .i64 (0),.slice (none) (0) (0)] bo rfl) ?_;rintro _ w5 ⟨g3,rfl,hge3,hx5,hA3⟩;have ne3:g2≠g3:=Nat.ne_of_lt (Nat.lt_of_lt_of_le hA2.lt hge3);have hbs3:w.heap.size≤g3:=Nat.le_trans hX.size hge3;replace hA2:=aR.ext hA2 hx5;replace q2:=bf.ext q2 hx5;replace hX:=aG.trans hX hx5;obtain ⟨sv1,hq1,hr1,hc1,hS1⟩:=q2.form;refine RL.x rfl rfl (cX.store [.int .i64 ((kl_1:Nat)),.int .i64 ((cx:Nat)),sv1] bE rfl hq1 rfl hA3 (Nat.le_of_ble_eq_true rfl) (bG rfl rfl hS1.one)) ?_;rintro _ w6 ⟨hk1,hnew⟩;replace hA2:=hA2.keep hk1 ne3;replace hS1:=aD hS1 hk1 hA3 (by decide);replace hX:=hX.step hk1 (fun b e=>by subst e;exact hbs3);replace hA3:=hnew.lit [.int .i64 ((kl_1:Nat)),.int .i64 ((cx:Nat)),sv1] rfl;clear hnew;refine RL.nil ?_;refine ab ?_;refine RL.p rfl rfl (ae [.int .i64 ((kl_1:Nat)),.int .i64 ((cx:Nat)),sv1] aM rfl (hA3.cells 0 _ rfl rfl)) ?_;have hBw2:w.heap.size≤w6.heap.size:=hX.size;refine RL.x rfl rfl (cX.call wK (aE rfl) (jl _ _ _ _ _ _ (bf.mk hS1 (by omega) (by omega)))) ?_;rintro v3 w7 ⟨hx6,q3⟩;replace hA2:=aR.ext hA2 hx6;replace hX:=aG.trans hX hx6;refine RL.x rfl rfl (cX.call wP (aE rfl) (sX _ _ cx kl_1 (fS Ml_1) _ e1 b (cz.matV q3) (by omega) (fun i j hi hj=>hLf_1.bd he1 hj hi) hb4 hb5 hl hb6 hb7)) ?_;rintro v4 w8 ⟨hx7,kl_2,Ml_2,hLf_2,q4⟩;replace hA2:=aR.ext hA2 hx7;replace hX:=aG.trans hX hx7;obtain ⟨sv2,hq2,hr2,hc2,hS2⟩:=q4.form;refine RL.x rfl rfl (cX.store [.int .i64 ((kl_2:Nat)),.int .i64 ((cx:Nat)),sv2] bE rfl hq2 rfl hA2 (Nat.le_of_ble_eq_true rfl) (bG rfl rfl hS2.one)) ?_;rintro _ w9 ⟨hk2,hnew⟩;replace hS2:=aD hS2 hk2 hA2 (by decide);replace hX:=hX.step hk2 (fun b e=>by subst e;exact hbs2);replace hA2:=hnew.lit [.int .i64 ((kl_2:Nat)),.int .i64 ((cx:Nat)),sv2] rfl;clear hnew;refine RL.nil ?_;refine WP.ret ?_;refine ⟨.agg #[.int .i64 ((kl_2:Nat)),.int .i64 ((cx:Nat)),sv2],zP.one (ag [.int .i64 ((kl_2:Nat)),.int .i64 ((cx:Nat)),sv2] aM rfl (hA2.cells 0 _ rfl rfl)),_,rfl,hX,?_⟩;dsimp only;exact ⟨kl_2,Ml_2,⟨kl_1,Ml_1,hLf_1,hLf_2⟩,(bf.mk hS2 (by omega) (by omega))⟩
set_option maxRecDepth 10000 in
theorem mq (w:World) (x:Value) (rx cx:Nat) (Mx:Nat→Nat→Int) (btx:Nat) (e0 b:Nat) (hx:bf w x rx cx Mx btx) (h8:rx≤8) (hM:∀i j,i<rx→j<cx→(Mx i j).natAbs≤2^e0) (hb:bR e0 rx≤b) (hb1:2 + e0≤b) (hl:2*b + 300≤aZ) (hsq:rx=cx) (hU:∀k S,HermR rx cx e0 Mx k S→eS rx cx rx rx S.M bH):Calls Tryz.prog 50 #[x] w (cb w fun v w'=>v= .bool true):=by
 have hLIM:aZ=562949953421312:=rfl;have hmatx:=hx;obtain ⟨sx,rfl,hrx,hcx,hSx⟩:=hx.form;refine aj (N:=23) (rs:= #[.tmp 2]) Tryz.func50 rfl rfl rfl (Nat.le_of_ble_eq_true rfl) ?_;have hX:aG w w:=aG.refl w;refine ab ?_;refine RL.x rfl rfl (cX.box [.int .i64 ((rx:Nat)),.int .i64 ((cx:Nat)),sx] rfl rfl) ?_;rintro _ w1 ⟨g1,rfl,hge1,hx1,hA1⟩;replace hX:=aG.trans hX hx1;refine RL.p rfl rfl (cn.assign rfl) ?_;refine RL.nil ?_;refine ab ?_;refine RL.p rfl rfl (ae [.int .i64 ((rx:Nat)),.int .i64 ((cx:Nat)),sx] aM rfl (hA1.cells 0 _ rfl rfl)) ?_;refine RL.x rfl rfl (cX.call wF (aE rfl) (nH _ _ _ _ _ _ (bf.mk (cE.ext hSx hX) (by omega) (by omega)))) ?_;rintro _ w2 ⟨hx2,rfl⟩;replace hA1:=aR.ext hA1 hx2;replace hX:=aG.trans hX hx2;refine RL.p rfl rfl (cn.assign rfl) ?_;refine RL.nil ?_;have hBw1:w.heap.size≤w2.heap.size:=hX.size;refine aJ am 17 [fun v AC=>v= .bool (decide (True)),fun v AC=>v= .bool (decide (True)),_,_,_,_,_,_,fun v AC=>v= .bool (decide ((True)∧(((rx:Nat):Int)=((cx:Nat):Int)))),_,fun v AC=>((True)∧(((rx:Nat):Int)=((cx:Nat):Int)))→(jg AC v rx cx e0 Mx b),fun v AC=>((True)∧(((rx:Nat):Int)=((cx:Nat):Int)))→(iN AC v rx cx e0 Mx b),_,_,fun v AC=>((True)∧(((rx:Nat):Int)=((cx:Nat):Int)))→(cz AC v w2.heap.size rx rx bH 1),fun v AC=>((True)∧(((rx:Nat):Int)=((cx:Nat):Int)))→(v= .bool (decide (True))),_] rfl rfl (fun e_ w_ AB AA=>⟨fun _=>aa (cn.move ((AA 3 rfl rfl))),fun Az=>aa (cn.move ((Az 0 rfl))),fun Az=>gT (Az 1 rfl) fun hg=>aa (cn.fieldAddr aY ((AA 1 rfl rfl))),fun Az=>gT (Az 1 rfl) fun hg=>aa (cn.load bO ((Az 2 rfl hg)) ((aR.ext hA1 AB).at_ (i:=0) rfl rfl)),fun Az=>gT (Az 1 rfl) fun hg=>aa (cn.fieldAddr bC ((AA 1 rfl rfl))),fun Az=>gT (Az 1 rfl) fun hg=>aa (cn.load bO ((Az 4 rfl hg)) ((aR.ext hA1 AB).at_ (i:=1) rfl rfl)),fun Az=>gT (Az 1 rfl) fun hg=>aa (cn.eql ((Az 3 rfl hg)) ((Az 5 rfl hg))),fun Az=>aa (aB (p:=True) (q:=((rx:Nat):Int)=((cx:Nat):Int)) (Az 1 rfl) (fun hq=>(Az 6 rfl hq))),fun Az=>aa (cn.move ((Az 7 rfl))),fun Az=>gT (Az 8 rfl) fun hg=>aa (ae [.int .i64 ((rx:Nat)),.int .i64 ((cx:Nat)),sx] aM ((AA 1 rfl rfl)) ((aR.ext hA1 AB).cells 0 _ rfl rfl)),fun Az=>gT (Az 8 rfl) fun hg=>cX.call so (aE (Az 9 rfl hg)) (mt _ _ _ _ _ _ e0 b (bf.mk (cE.ext (cE.ext hSx hX) AB) (by omega) (by omega)) h8 hM hb hb1 hl),fun Az=>gT (Az 8 rfl) fun hg=>ai (φ:=fun v AC=>iN AC v rx cx e0 Mx b) (rU pR aM rfl (Az 10 rfl hg)),fun Az=>gT (Az 8 rfl) fun hg=>aa (cn.fieldAddr aY ((AA 1 rfl rfl))),fun Az=>gT (Az 8 rfl) fun hg=>aa (cn.load bO ((Az 12 rfl hg)) ((aR.ext hA1 AB).at_ (i:=0) rfl rfl)),fun Az=>gT (Az 8 rfl) fun hg=>cX.mono (cX.call nt (aE ((Az 13 rfl hg))) (eM _ rx (by omega))) fun v AD hv=>⟨hv.1,cz.low hv.2 AB.size⟩,fun Az=>gT (Az 8 rfl) fun hg=>cX.call nv (aA rfl rfl) (vf (Az 11 rfl hg) (cz.matV (Az 14 rfl hg)) hU),fun Az=>aa (aB (p:=(True)∧(((rx:Nat):Int)=((cx:Nat):Int))) (q:=True) (Az 8 rfl) (fun hq=>(Az 15 rfl hq))),trivial⟩) ?_;intro e1 w3 hx3 ho1 hf1;replace hX:=aG.trans hX hx3;have s22_e1:e1 22=_:=hf1 16 rfl;refine RL.p rfl rfl (cn.assign s22_e1) ?_;refine RL.nil ?_;refine WP.ret ?_;refine ⟨.bool (decide (((True)∧(((rx:Nat):Int)=((cx:Nat):Int)))∧(True))),zP.one (fN.tmp rfl),_,rfl,hX,?_⟩;dsimp only;exact congrArg _ (decide_eq_true ⟨⟨trivial,by omega⟩,trivial⟩)
set_option maxRecDepth 10000 in
theorem jm (w:World) (x:Value) (rx cx:Nat) (Mx:Nat→Nat→Int) (btx:Nat) (y:Value) (ry:Nat) (My:Nat→Nat→Int) (bty:Nat) (e0 b:Nat) (hx:bf w x rx cx Mx btx) (hy:bf w y ry cx My bty) (h8:rx + ry≤8) (hsq:rx + ry=cx) (hM:∀i j,i<rx + ry→j<cx→(eL rx Mx My i j).natAbs≤2^e0) (hbx:btx + 1≤b) (hby:bty + 1≤b) (hb:bR e0 (rx + ry)≤b) (hb1:2 + e0≤b) (hl:2*b + 300≤aZ) (hU:∀k S,HermR (rx + ry) cx e0 (eL rx Mx My) k S→eS (rx + ry) cx (rx + ry) (rx + ry) S.M bH):Calls Tryz.prog 17 #[x,y] w (cb w fun v w'=>v= .bool true):=by
 have hLIM:aZ=562949953421312:=rfl;have hmatx:=hx;obtain ⟨sx,rfl,hrx,hcx,hSx⟩:=hx.form;have hmaty:=hy;obtain ⟨sy,rfl,hry,_,hSy⟩:=hy.form;refine aj (N:=31) (rs:= #[.tmp 4]) Tryz.func17 rfl rfl rfl (Nat.le_of_ble_eq_true rfl) ?_;have hX:aG w w:=aG.refl w;refine ab ?_;refine RL.x rfl rfl (cX.box [.int .i64 ((rx:Nat)),.int .i64 ((cx:Nat)),sx] rfl rfl) ?_;rintro _ w1 ⟨g1,rfl,hge1,hx1,hA1⟩;replace hX:=aG.trans hX hx1;refine RL.x rfl rfl (cX.box [.int .i64 ((ry:Nat)),.int .i64 ((cx:Nat)),sy] rfl rfl) ?_;rintro _ w2 ⟨g2,rfl,hge2,hx2,hA2⟩;replace hA1:=aR.ext hA1 hx2;replace hX:=aG.trans hX hx2;refine RL.p rfl rfl (cn.assign rfl) ?_;refine RL.nil ?_;refine ab ?_;refine RL.p rfl rfl (ae [.int .i64 ((ry:Nat)),.int .i64 ((cx:Nat)),sy] aM rfl (hA2.cells 0 _ rfl rfl)) ?_;refine RL.x rfl rfl (cX.call wF (aE rfl) (nH _ _ _ _ _ _ (bf.mk (cE.ext hSy hX) (by omega) (by omega)))) ?_;rintro _ w3 ⟨hx3,rfl⟩;replace hA1:=aR.ext hA1 hx3;replace hA2:=aR.ext hA2 hx3;replace hX:=aG.trans hX hx3;refine RL.p rfl rfl (cn.assign rfl) ?_;refine RL.nil ?_;refine WP.seq ?_;refine aJ am 9 [fun v AC=>v= .bool (decide (True)),_,fun v AC=>v= .bool (decide (¬(True))),_,_,_,_,_,_] rfl rfl (fun e_ w_ AB AA=>⟨fun _=>aa (cn.move ((AA 5 rfl rfl))),fun Az=>aa (cn.not (p:=True) (Az 0 rfl)),fun Az=>aa (cn.move ((Az 1 rfl))),fun Az=>gF (Az 2 rfl) fun hg=>aa (cn.fieldAddr bC ((AA 3 rfl rfl))),fun Az=>gF (Az 2 rfl) fun hg=>aa (cn.load bO ((Az 3 rfl hg)) ((aR.ext hA2 AB).at_ (i:=1) rfl rfl)),fun Az=>gF (Az 2 rfl) fun hg=>aa (cn.fieldAddr bC ((AA 2 rfl rfl))),fun Az=>gF (Az 2 rfl) fun hg=>aa (cn.load bO ((Az 5 rfl hg)) ((aR.ext hA1 AB).at_ (i:=1) rfl rfl)),fun Az=>gF (Az 2 rfl) fun hg=>aa (cn.neq ((Az 4 rfl hg)) ((Az 6 rfl hg))),fun Az=>aa (cJ (p:=¬(True)) (q:=((cx:Nat):Int)≠((cx:Nat):Int)) (Az 2 rfl) (fun hq=>(Az 7 rfl hq))),trivial⟩) ?_;intro e1 w4 hx4 ho1 hf1;replace hA1:=aR.ext hA1 hx4;replace hA2:=aR.ext hA2 hx4;replace hX:=aG.trans hX hx4;have s2_e1:e1 2=_:=ho1 2 rfl rfl;have s3_e1:e1 3=_:=ho1 3 rfl rfl;have s18_e1:e1 18=_:=hf1 8 rfl;refine RL.nil ?_;refine af ((¬(True))∨(((cx:Nat):Int)≠((cx:Nat):Int))) s18_e1 (fun c18=> ?_) (fun c18=> ?_)
 ·
  refine ab ?_;refine RL.p rfl rfl (cn.assign rfl) ?_;refine RL.nil ?_;refine WP.ret ?_;refine pA.ret ?_;refine ⟨.bool (false),zP.one (fN.tmp rfl),_,rfl,hX,?_⟩;dsimp only;exact c18.elim (fun h=>absurd trivial h) (fun h=>absurd rfl h)
 ·
  refine WP.skip ?_;refine pA.norm ?_;refine ab ?_;refine RL.p rfl rfl (ae [.int .i64 ((rx:Nat)),.int .i64 ((cx:Nat)),sx] aM s2_e1 (hA1.cells 0 _ rfl rfl)) ?_;refine RL.p rfl rfl (ae [.int .i64 ((ry:Nat)),.int .i64 ((cx:Nat)),sy] aM s3_e1 (hA2.cells 0 _ rfl rfl)) ?_;refine RL.x rfl rfl (cX.call zj (aA rfl rfl) (vc _ _ _ _ _ _ _ _ _ _ b (bf.mk (cE.ext hSx hX) (by omega) (by omega)) (bf.mk (cE.ext hSy hX) (by omega) (by omega)) (by omega) hbx hby (by omega))) ?_;rintro _ w5 ⟨hx5,v1,rfl,q1⟩;replace hX:=aG.trans hX hx5;refine RL.p rfl rfl (cn.move rfl) ?_;refine RL.p rfl rfl (cn.extract rfl rfl) ?_;refine RL.p rfl rfl (cn.extract rfl rfl) ?_;refine RL.x rfl rfl (cX.alloc [.int .i64 (0),.int .i64 (0),.slice (none) (0) (0)] bo rfl) ?_;rintro _ w6 ⟨g3,rfl,hge3,hx6,hA3⟩;have hbs3:w.heap.size≤g3:=Nat.le_trans hX.size hge3;replace q1:=bf.ext q1 hx6;replace hX:=aG.trans hX hx6;obtain ⟨sv1,hq1,hr1,hc1,hS1⟩:=q1.form;refine RL.x rfl rfl (cX.store [.int .i64 ((rx + ry:Nat)),.int .i64 ((cx:Nat)),sv1] bE rfl hq1 rfl hA3 (Nat.le_of_ble_eq_true rfl) (bG rfl rfl hS1.one)) ?_;rintro _ w7 ⟨hk1,hnew⟩;replace hS1:=aD hS1 hk1 hA3 (by decide);replace hX:=hX.step hk1 (fun b e=>by subst e;exact hbs3);replace hA3:=hnew.lit [.int .i64 ((rx + ry:Nat)),.int .i64 ((cx:Nat)),sv1] rfl;clear hnew;refine RL.p rfl rfl (cn.assign rfl) ?_;refine RL.nil ?_;refine aJ am 6 [_,_,fun v AC=>v= .bool (decide ((0:Int)=(0:Int))),_,fun v AC=>((0:Int)=(0:Int))→(v= .bool (decide (True))),_] rfl rfl (fun e_ w_ AB AA=>⟨fun _=>aa (cn.move ((AA 7 rfl rfl))),fun Az=>aa (cn.eql ((Az 0 rfl)) rfl),fun Az=>aa (cn.move ((Az 1 rfl))),fun Az=>gT (Az 2 rfl) fun hg=>aa (ae [.int .i64 ((rx + ry:Nat)),.int .i64 ((cx:Nat)),sv1] aM ((AA 6 rfl rfl)) ((aR.ext hA3 AB).cells 0 _ rfl rfl)),fun Az=>gT (Az 2 rfl) fun hg=>cX.call zc (aE ((Az 3 rfl hg))) ((mq _ _ (rx + ry) cx (eL rx Mx My) _ e0 b (bf.mk (cE.ext hS1 AB) (by omega) (by omega)) h8 hM hb hb1 hl hsq hU)),fun Az=>aa (aB (p:=(0:Int)=(0:Int)) (q:=True) (Az 2 rfl) (fun hq=>(Az 4 rfl hq))),trivial⟩) ?_;intro e2 w8 hx7 ho2 hf2;replace hX:=aG.trans hX hx7;have s30_e2:e2 30=_:=hf2 5 rfl;refine RL.p rfl rfl (cn.assign s30_e2) ?_;refine RL.nil ?_;refine WP.ret ?_;refine ⟨.bool (decide (((0:Int)=(0:Int))∧(True))),zP.one (fN.tmp rfl),_,rfl,hX,?_⟩;dsimp only;exact congrArg _ (decide_eq_true ⟨rfl,trivial⟩)
end Go.TL
namespace Go.TL
set_option linter.unusedVariables false
theorem eJ {f:Nat→Int} {k:Nat}:∀{n:Nat},k≤n→(∀i,k≤i→i<n→f i=0)→aq n f=aq k f
  | 0,h,_=>by rw [show k=0 by omega]
  | n + 1,h,hz=>by
    by_cases e:k=n + 1
    · rw [e]
    · simp only [aq];rw [eJ (n:=n) (by omega) fun i h1 h2=>hz i h1 (by omega),hz n (by omega) (by omega)];omega
theorem jW (f:Nat→Int) (k:Nat):∀n,aq (k + n) f=aq k f + aq n (fun i=>f (k + i))
  | 0=>by simp [aq]
  | n + 1=>by rw [show k + (n + 1)=k + n + 1 by omega];simp only [aq];rw [jW f k n];omega
def er (n c:Nat) (M:Nat→Nat→Int) (v:Nat→Int):Prop:=∃a:Nat→Int,∀j,j<c→v j=aq n (fun i=>a i*M i j)
theorem er.congr {n c:Nat} {M M':Nat→Nat→Int} {v:Nat→Int} (h:er n c M v) (he:∀i j,i<n→j<c→M i j=M' i j):er n c M' v:=by
  obtain ⟨a,h⟩:=h;exact ⟨a,fun j hj=>by rw [h j hj];exact an fun i hi=>by rw [he i j hi hj]⟩
theorem er.row {n c:Nat} {M:Nat→Nat→Int} {i:Nat} (hi:i<n):er n c M (M i):=
  ⟨fun x=>if x=i then 1 else 0,fun j hj=>by
    have:=eI (f:=fun x=>M x j) hi;rw [←this];exact an fun x _=>by by_cases e:x=i<;>simp [e]⟩
theorem er.sub {n c:Nat} {M:Nat→Nat→Int} {u v:Nat→Int} (h:er n c M u) (g:er n c M v):er n c M (fun j=>u j - v j):=by
  obtain ⟨a,h⟩:=h;obtain ⟨b,g⟩:=g;refine ⟨fun i=>a i - b i,fun j hj=> ?_⟩;show u j - v j=_;rw [h j hj,g j hj,←fh];exact an fun i _=>(Int.sub_mul _ _ _).symm
theorem er.cut {k n c:Nat} {M:Nat→Nat→Int} (hk:k≤n) (hz:∀i,k≤i→i<n→∀j,j<c→M i j=0) {v:Nat→Int}:er n c M v↔er k c M v:=by
  constructor
  · rintro ⟨a,h⟩
    exact ⟨a,fun j hj=>by rw [h j hj];exact eJ hk fun i h1 h2=>by rw [hz i h1 h2 j hj,Int.mul_zero]⟩
  · rintro ⟨a,h⟩
    refine ⟨fun i=>if i<k then a i else 0,fun j hj=> ?_⟩;rw [h j hj,eJ (n:=n) hk fun i h1 h2=>by rw [hz i h1 h2 j hj,Int.mul_zero]];exact an fun i hi=>by simp only [if_pos hi]
theorem cB (r n:Nat) (a:Nat→Int) (A B:Nat→Nat→Int) (j:Nat):aq r (fun i=>a i*ci n A B i j)=aq n (fun x=>aq r (fun i=>a i*A i x)*B x j):=
  (kA r n (fun _=>a) A B 0 j).symm
section
variable {r c:Nat} {M0:Nat→Nat→Int} {S:WS}
theorem Lin.lat (h:Lin r c M0 S) {v:Nat→Int}:er r c M0 v↔er r c S.M v:=by
  constructor
  · rintro ⟨a,g⟩
    refine ⟨fun x=>aq r (fun i=>a i*S.V i x),fun j hj=> ?_⟩;rw [g j hj,←cB];exact an fun i hi=>by rw [h.back hi hj]
  · rintro ⟨a,g⟩
    refine ⟨fun x=>aq r (fun i=>a i*S.U i x),fun j hj=> ?_⟩;rw [g j hj,←cB];exact an fun i hi=>by rw [h.eq i j hi hj]
end
def dZ (k c:Nat) (M:Nat→Nat→Int) (P:Nat→Nat):Prop:=∀i,i<k→P i<c∧0<M i (P i)∧(∀j,j<P i→M i j=0)∧∀n,n<i→P n<P i∧0≤M n (P i)∧M n (P i)<M i (P i)
theorem dZ.lead {k c:Nat} {M:Nat→Nat→Int} {P:Nat→Nat} (h:dZ k c M P) {a:Nat→Int} {v:Nat→Int} (hv:∀j,j<c→v j=aq k (fun i=>a i*M i j)):
    (∀i,i<k→a i=0)∨∃j,j<k∧(∀x,x<P j→v x=0)∧v (P j)≠0∧M j (P j)∣v (P j):=by
  by_cases hz:∀i,i<k→a i=0
  · exact .inl hz
  · have hex:∃i,i<k∧a i≠0:=by
      apply Classical.byContradiction;intro hn
      exact hz fun i hi=>Classical.byContradiction fun h=>hn ⟨i,hi,h⟩
    have hmin:∃j,j<k∧a j≠0∧∀i,i<j→a i=0:=by
      obtain ⟨i,hi,ha⟩:=hex
      induction i using Nat.strongRecOn with
      | _ i ih=>
        by_cases hk:∃x,x<i∧a x≠0
        · obtain ⟨x,hx,hxa⟩:=hk;exact ih x hx (by omega) hxa
        · exact ⟨i,hi,ha,fun x hx=>Classical.byContradiction fun h=>hk ⟨x,hx,h⟩⟩
    obtain ⟨j,hj,hja,hjm⟩:=hmin;obtain ⟨g1,g2,g3,_⟩:=h j hj;have hval:v (P j)=a j*M j (P j):=by
      rw [hv _ g1];refine cf hj fun i hi hne=> ?_
      rcases Nat.lt_or_ge i j with hlt | hge
      · rw [hjm i hlt,Int.zero_mul]
      · obtain ⟨_,_,k3,k4⟩:=h i hi
        rw [k3 (P j) (k4 j (by omega)).1,Int.mul_zero]
    refine .inr ⟨j,hj,fun x hx=> ?_,?_,⟨a j,by rw [hval,Int.mul_comm]⟩⟩
    · rw [hv x (by omega)]
      refine bX fun i hi=> ?_
      rcases Nat.lt_or_ge i j with hlt | hge
      · rw [hjm i hlt,Int.zero_mul]
      · obtain ⟨_,_,k3,k4⟩:=h i hi
        by_cases e:i=j
        · subst e;rw [k3 x hx,Int.mul_zero]
        · have:=(k4 j (by omega)).1
          rw [k3 x (by omega),Int.mul_zero]
    · rw [hval];intro h0
      rcases Int.mul_eq_zero.1 h0 with h1 | h1
      · exact hja h1
      · omega
theorem dZ.inl {k c:Nat} {M:Nat→Nat→Int} {P:Nat→Nat} (h:dZ k c M P) {v:Nat→Int} (hv:er k c M v):
    (∀j,j<c→v j=0)∨∃j,j<k∧(∀x,x<P j→v x=0)∧v (P j)≠0∧M j (P j)∣v (P j):=by
  obtain ⟨a,hv⟩:=hv;rcases h.lead hv with h1 | h1
  · exact .inl fun j hj=>by rw [hv j hj];exact bX fun i hi=>by rw [h1 i hi,Int.zero_mul]
  · exact .inr h1
theorem dZ.inc {k c:Nat} {M:Nat→Nat→Int} {P:Nat→Nat} (h:dZ k c M P) {i j:Nat} (hi:i<k) (hj:j<k) (e:P i=P j):i=j:=by
  rcases Nat.lt_trichotomy i j with h1 | h1 | h1
  · have:=((h j hj).2.2.2 i h1).1;omega
  · exact h1
  · have:=((h i hi).2.2.2 j h1).1;omega
theorem dZ.sub {k k' c:Nat} {M M':Nat→Nat→Int} {P P':Nat→Nat} (h:dZ k c M P) (h':dZ k' c M' P') (hs:∀v,er k c M v→er k' c M' v) {i:Nat} (hi:i<k):
    ∃j,j<k'∧P' j=P i∧M' j (P i)∣M i (P i):=by
  obtain ⟨g1,g2,g3,_⟩:=h i hi;rcases h'.inl (hs _ (er.row (M:=M) hi)) with h1 | ⟨j,hj,h1,h2,h3⟩
  · have:=h1 _ g1;omega
  · have e:P' j=P i:=by
      rcases Nat.lt_trichotomy (P' j) (P i) with h4 | h4 | h4
      · exact absurd (g3 _ h4) h2
      · exact h4
      · have:=h1 _ h4;omega
    exact ⟨j,hj,e,by rw [←e];exact h3⟩
theorem dZ.same {k k' c:Nat} {M M':Nat→Nat→Int} {P P':Nat→Nat} (h:dZ k c M P) (h':dZ k' c M' P') (hs:∀v,er k c M v→er k' c M' v) (hs':∀v,er k' c M' v→er k c M v):
    ∀n,∀i,i<n→i<k→i<k'∧P' i=P i∧M' i (P i)=M i (P i)
  | 0,i,hn,_=>by omega
  | n + 1,i,hn,hi=>by
    by_cases e:i<n
    · exact dZ.same h h' hs hs' n i e hi
    · have ih:=dZ.same h h' hs hs' n
      obtain ⟨j,hj,hP,hd⟩:=h.sub h' hs hi;obtain ⟨i2,hi2,hP2,hd2⟩:=h'.sub h hs' hj;have e2:i2=i:=h.inc hi2 hi (hP2.trans hP);subst e2;have hij:i2≤j:=by
        rcases Nat.lt_or_ge j i2 with h1 | h1
        · obtain ⟨_,h3,_⟩:=ih j (by omega) (by omega)
          have:=h.inc (i:=j) (j:=i2) (by omega) hi (by rw [←h3];exact hP);omega
        · exact h1
      have hji:j≤i2:=by
        rcases Nat.lt_or_ge i2 j with h1 | h1
        ·
          obtain ⟨m,hm,hPm,_⟩:=h'.sub h hs' (i:=i2) (by omega);have h3:=((h' j hj).2.2.2 i2 h1).1;have h4:m<i2:=by
            rcases Nat.lt_trichotomy m i2 with h5 | h5 | h5
            · exact h5
            · subst h5;omega
            · have:=((h m hm).2.2.2 i2 h5).1;omega
          obtain ⟨h6,h7,_⟩:=ih m (by omega) hm;have:=h'.inc (i:=m) (j:=i2) h6 (by omega) (by omega);omega
        · exact h1
      have e3:j=i2:=by omega
      subst e3;refine ⟨hj,hP,?_⟩;have p1:=(h j hi).2.1;have p2:=(h' j hj).2.1;rw [hP] at p2 hd2;exact Int.dvd_antisymm (by omega) (by omega) hd hd2
theorem dZ.unique {k k' c:Nat} {M M':Nat→Nat→Int} {P P':Nat→Nat} (h:dZ k c M P) (h':dZ k' c M' P') (hs:∀v,er k c M v↔er k' c M' v):k=k'∧∀i j,i<k→j<c→M i j=M' i j:=by
  have h1:=fun i hi=>dZ.same h h' (fun v=>(hs v).1) (fun v=>(hs v).2) (i + 1) i (by omega) hi
  have h2:=fun i hi=>dZ.same h' h (fun v=>(hs v).2) (fun v=>(hs v).1) (i + 1) i (by omega) hi
  have hk:k=k':=by
    rcases Nat.lt_trichotomy k k' with h3 | h3 | h3
    · have:=(h2 k h3).1;omega
    · exact h3
    · have:=(h1 k' h3).1;omega
  refine ⟨hk,fun i j hi hj=> ?_⟩;have hrow:er k c M (fun j=>M i j - M' i j):=er.sub (er.row hi) ((hs _).2 (er.row (h1 i hi).1));rcases h.inl hrow with h3 | ⟨m,hm,h3,h4,h5⟩
  · have:=h3 j hj;omega
  · exfalso
    obtain ⟨a1,a2,a3⟩:=h1 i hi;obtain ⟨b1,b2,b3⟩:=h1 m hm;obtain ⟨g1,g2,g3,g4⟩:=h i hi;obtain ⟨f1,f2,f3,f4⟩:=h m hm;have hmi:i<m:=by
      rcases Nat.lt_trichotomy i m with e | e | e
      · exact e
      · subst e;exact absurd (by rw [a3];omega) h4
      · have e1:=(g4 m e).1
        have e2:=g3 _ e1;have e3:=(h' i a1).2.2.1 (P m) (by omega);exact absurd (by rw [e2,e3];rfl) h4
    have c1:=(f4 i hmi).2;have c2:=((h' m b1).2.2.2 i hmi).2;rw [b2,b3] at c2;obtain ⟨t,ht⟩:=h5;have c3:(M i (P m) - M' i (P m)).natAbs<(M m (P m)).natAbs:=by omega
    have c4:(M m (P m)).natAbs≤(M i (P m) - M' i (P m)).natAbs:=by
      rw [ht,Int.natAbs_mul];refine Nat.le_mul_of_pos_right _ ?_;rcases Nat.eq_zero_or_pos t.natAbs with h0 | h0
      · have:t=0:=by omega
        subst this;exact absurd (by rw [ht,Int.mul_zero]) h4
      · exact h0
    omega
theorem iO.toP {r k c:Nat} {M:Nat→Nat→Int} (h:iO r k c M):(∃P,dZ k c M P)∧∀i,k≤i→i<r→∀j,j<c→M i j=0:=by
  obtain ⟨P,h1,h2⟩:=h;exact ⟨⟨P,h1⟩,h2⟩
theorem gC {r c k:Nat} {M0:Nat→Nat→Int} {S:WS} (hl:Lin r c M0 S) (hk:k≤r) (he:iO r k c S.M) {v:Nat→Int}:er r c M0 v↔er k c S.M v:=
  hl.lat.trans (er.cut hk he.toP.2)
def Ker (r c:Nat) (M0:Nat→Nat→Int) (u:Nat→Int):Prop:=∀j,j<c→aq r (fun i=>u i*M0 i j)=0
theorem mE {r c k:Nat} {M0:Nat→Nat→Int} {S:WS} (hl:Lin r c M0 S) (hk:k≤r) (he:iO r k c S.M) {u:Nat→Int}:Ker r c M0 u↔er (r - k) r (fun i=>S.U (k + i)) u:=by
  obtain ⟨⟨P,hP⟩,hz⟩:=he.toP
  constructor
  · intro hu
    have hcoord:∀j,j<r→u j=aq r (fun i=>aq r (fun x=>u x*S.V x i)*S.U i j):=fun j hj=>by
      rw [←cB];have h1:aq r (fun i=>u i*ci r S.V S.U i j)=aq r (fun i=>u i*bH i j):=an fun i hi=>by rw [hl.vu i j hi hj]
      rw [h1,cf hj fun x _ hne=>by simp [bH,hne]];simp [bH]
    have hzero:∀j,j<c→aq k (fun i=>aq r (fun x=>u x*S.V x i)*S.M i j)=0:=fun j hj=>by
      have h1:aq r (fun i=>u i*ci r S.V S.M i j)=0:=by rw [←hu j hj];exact an fun i hi=>by rw [hl.back hi hj]
      rw [cB,eJ hk fun i h2 h3=>by rw [hz i h2 h3 j hj,Int.mul_zero]] at h1;exact h1
    have hc:∀i,i<k→aq r (fun x=>u x*S.V x i)=0:=by
      rcases hP.lead (a:=fun i=>aq r (fun x=>u x*S.V x i)) (v:=fun _=>0) (fun j hj=>(hzero j hj).symm) with h1 | ⟨_,_,_,h2,_⟩
      · exact h1
      · exact absurd rfl h2
    refine ⟨fun i=>aq r (fun x=>u x*S.V x (k + i)),fun j hj=> ?_⟩;have h5:=jW (fun i=>aq r (fun x=>u x*S.V x i)*S.U i j) k (r - k);rw [show k + (r - k)=r by omega] at h5;rw [hcoord j hj,h5,bX fun i hi=>by rw [hc i hi,Int.zero_mul],Int.zero_add]
  · rintro ⟨a,h⟩ j hj
    have h1:aq r (fun i=>u i*M0 i j)=aq r (fun i=>aq (r - k) (fun x=>a x*S.U (k + x) i)*M0 i j):=an fun i hi=>by rw [h i hi]
    rw [h1];have h2:=(cB (r - k) r a (fun x=>S.U (k + x)) M0 j).symm;rw [h2];refine bX fun i hi=> ?_
    have h3:ci r (fun x=>S.U (k + x)) M0 i j=S.M (k + i) j:=(hl.eq (k + i) j (by omega) hj).symm;rw [h3,hz (k + i) (by omega) (by omega) j hj,Int.mul_zero]
theorem Ker.congr {r c:Nat} {M M':Nat→Nat→Int} (he:∀i j,i<r→j<c→M i j=M' i j) {u:Nat→Int}:Ker r c M u↔Ker r c M' u:=by
  constructor<;>intro h j hj
  · rw [←h j hj];exact an fun i hi=>by rw [he i j hi hj]
  · rw [←h j hj];exact an fun i hi=>by rw [he i j hi hj]
theorem fP.lat {r c e0 k:Nat} {M0 M:Nat→Nat→Int} (h:fP r c e0 M0 k M):(∃P,dZ k r M P)∧∀u,er k r M u↔Ker r c M0 u:=by
  obtain ⟨k1,S1,S2,h1,h2,rfl⟩:=h;exact ⟨h2.ech.toP.1,fun u=>(gC h2.lin h2.kr h2.ech).symm.trans (mE h1.lin h1.kr h1.ech).symm⟩
theorem kZ.lat {r c e0 k:Nat} {M0 M:Nat→Nat→Int} (h:kZ r c e0 M0 k M):(∃P,dZ k r M P)∧∀u,er k r M u↔Ker r c M0 u:=by
  obtain ⟨k1,S1,S2,h1,h2,rfl⟩:=h;exact ⟨h2.ech.toP.1,fun u=>(gC h2.lin h2.kr h2.ech).symm.trans (mE h1.lin h1.kr h1.ech).symm⟩
end Go.TL
namespace Go.TL
set_option linter.unusedVariables false
def lastP (M:Nat→Nat→Int) (c:Nat):Nat→Int
  | 0=> -1
  | i + 1=>if piv (M i) c<0 then (c:Int) else piv (M i) c
def uA (M:Nat→Nat→Int) (c i:Nat):Prop:=
  piv (M i) c<0∨(lastP M c i<piv (M i) c∧0<M i (piv (M i) c).toNat∧∀k,k<i→0≤M k (piv (M i) c).toNat∧M k (piv (M i) c).toNat<M i (piv (M i) c).toNat)
def IsH (r c:Nat) (M:Nat→Nat→Int):Prop:=∀i,i<r→uA M c i
instance (M:Nat→Nat→Int) (c i:Nat):Decidable (uA M c i):=inferInstanceAs (Decidable (_∨_))
instance (r c:Nat) (M:Nat→Nat→Int):Decidable (IsH r c M):=inferInstanceAs (Decidable (∀i,i<r→uA M c i))
theorem rv {M:Nat→Nat→Int} {c i:Nat} (h:piv (M i) c<0):((c:Nat):Int)=lastP M c (i + 1):=by simp only [lastP];rw [if_pos h]
theorem ru {M:Nat→Nat→Int} {c i:Nat} (h:¬piv (M i) c<0):piv (M i) c=lastP M c (i + 1):=by simp only [lastP];rw [if_neg h]
theorem xS {z:Nat→Int} {n:Nat} (h:¬piv z n<0):(piv z n).toNat<n∧((piv z n).toNat:Int)=piv z n∧z (piv z n).toNat≠0∧∀j,j<(piv z n).toNat→z j=0:=by
  obtain ⟨i,h1,h2,h3,h4⟩:=lJ (p:=gP) (z:=z) (n:=n) (by unfold piv at h;omega);have h5:piv z n=(i:Int):=h2;rw [h5,Int.toNat_natCast];exact ⟨h1,rfl,h3,fun j hj=>Classical.byContradiction fun e=>h4 j hj e⟩
theorem td {z:Nat→Int} {n p:Nat} (hp:p<n) (hz:z p≠0) (h0:∀j,j<p→z j=0):piv z n=(p:Int):=
  fD (p:=gP) (ko (p:=gP) fun i hi=>by simp [gP,h0 i hi]) hz hp
theorem tc {z:Nat→Int} {n:Nat} (h:piv z n<0):∀j,j<n→z j=0:=by
  intro j hj;have h1:=(eV (p:=gP) (z:=z) n).2;have h2:dc gP z n= -1:=by unfold piv at h;omega
  exact Classical.byContradiction fun e=>fj h2 j hj e
theorem iO.lastP {r k c:Nat} {M:Nat→Nat→Int} {P:Nat→Nat} (h1:∀i,i<k→P i<c∧0<M i (P i)∧(∀j,j<P i→M i j=0)∧∀n,n<i→P n<P i∧0≤M n (P i)∧M n (P i)<M i (P i)):
    ∀{i:Nat},i≤k→lastP M c i=if i=0 then -1 else ((P (i - 1):Nat):Int)
  | 0,_=>rfl
  | i + 1,hi=>by
    obtain ⟨g1,g2,g3,_⟩:=h1 i (by omega);have hp:piv (M i) c=(P i:Int):=td g1 (by omega) g3;simp only [Go.TL.lastP];rw [if_neg (by rw [hp];omega),hp,if_neg (by omega)];simp
theorem IsH.ech {c:Nat} {M:Nat→Nat→Int}:∀{r:Nat},IsH r c M→∃k P,k≤r∧dZ k c M P∧(∀a,k≤a→a<r→∀j,j<c→M a j=0)∧(k<r→lastP M c r=c)∧(0<k→k=r→lastP M c r=(P (k - 1):Nat))
  | 0,_=>⟨0,fun _=>0,Nat.le_refl _,fun i hi=>absurd hi (by omega),fun a _ ha=>absurd ha (by omega),fun h=>absurd h (by omega),fun h=>absurd h (by omega)⟩
  | r + 1,h=>by
    obtain ⟨k,P,hk,hE,hz,hl,hl2⟩:=IsH.ech (r:=r) fun i hi=>h i (by omega)
    rcases h r (by omega) with hr | ⟨g1,g2,g3⟩
    · refine ⟨k,P,by omega,hE,fun a h1 h2=> ?_,fun _=>(rv hr).symm,fun _ e=>absurd e (by omega)⟩
      rcases Nat.lt_or_ge a r with e | e
      · exact hz a h1 e
      · obtain rfl:a=r:=by omega
        exact tc hr
    · have hnn:¬piv (M r) c<0:=by
        intro hn;have h1:=(eV (p:=gP) (z:=M r) c).2;have h2:dc gP (M r) c= -1:=by unfold piv at hn;omega
        have h3:piv (M r) c= -1:=h2;have h4:(-1:Int)≤lastP M c r:=by
          cases r with
          | zero=>simp [lastP]
          | succ r=>simp only [lastP];have:=(eV (p:=gP) (z:=M r) c).2;split<;>(unfold piv at*;omega)
        omega
      obtain ⟨a1,a2,a3,a4⟩:=xS hnn;have hkr:k=r:=by
        rcases Nat.lt_or_ge k r with e | e
        · have:=hl e;omega
        · omega
      subst hkr;refine ⟨k + 1,fun i=>if i=k then (piv (M k) c).toNat else P i,by omega,?_,fun a h1 h2=>absurd h2 (by omega),fun h=>absurd h (by omega),fun _ _=> ?_⟩
      · intro i hi
        rcases Nat.lt_or_ge i k with e | e
        · obtain ⟨b1,b2,b3,b4⟩:=hE i e
          simp only [if_neg (show ¬i=k by omega)];exact ⟨b1,b2,b3,fun n hn=>by simp only [if_neg (show ¬n=k by omega)];exact b4 n hn⟩
        · obtain rfl:i=k:=by omega
          simp only [if_pos];refine ⟨a1,g2,a4,fun n hn=> ?_⟩;simp only [if_neg (show ¬n=i by omega)];refine ⟨?_,g3 n hn⟩;have hl3:=hl2 (by omega) rfl;have:∀m,m<i→P m≤P (i - 1):=by
            intro m hm;rcases Nat.lt_or_ge m (i - 1) with e | e
            · exact Nat.le_of_lt ((hE (i - 1) (by omega)).2.2.2 m e).1
            · obtain rfl:m=i - 1:=by omega
              exact Nat.le_refl _
          have:=this n hn;omega
      · rw [←ru hnn,←a2];simp
end Go.TL
namespace Go.TL
set_option linter.unusedVariables false
def oy (r c:Nat) (M0:Nat→Nat→Int) (v:Nat→Int):Prop:=∀u:Nat→Int,(∀i,i<r→aq c (fun j=>u j*M0 i j)=0)→aq c (fun j=>v j*u j)=0
theorem ej (u v:Nat→Int) (n:Nat):aq n (fun j=>u j*v j)=aq n (fun j=>v j*u j):=an fun _ _=>Int.mul_comm _ _
theorem jk {r c k k1:Nat} {M0 K1 M:Nat→Nat→Int} (h1:∀u,er k1 c K1 u↔Ker c r (fS M0) u) (h2:∀v,er k c M v↔Ker c k1 (fS K1) v) (v:Nat→Int):er k c M v↔oy r c M0 v:=by
  rw [h2]
  constructor
  · intro hk u hu
    obtain ⟨a,ha⟩:=(h1 u).2 fun j hj=>hu j hj
    have e1:aq c (fun j=>v j*u j)=aq c (fun j=>u j*v j):=ej _ _ _;have e2:aq c (fun j=>u j*v j)=aq c (fun j=>aq k1 (fun x=>a x*K1 x j)*v j):=an fun j hj=>by rw [ha j hj]
    have e3:aq c (fun j=>aq k1 (fun x=>a x*K1 x j)*v j)=aq k1 (fun x=>a x*aq c (fun j=>K1 x j*v j)):=(cB k1 c a K1 (fun j _=>v j) 0).symm;rw [e1,e2,e3];refine bX fun x hx=> ?_
    have e4:aq c (fun j=>K1 x j*v j)=aq c (fun j=>v j*fS K1 j x):=ej _ _ _;rw [e4,hk x hx,Int.mul_zero]
  · intro hs x hx
    exact hs (K1 x) fun i hi=>(h1 (K1 x)).1 (er.row hx) i hi
theorem iH.lat {r c e0 k:Nat} {M0 M:Nat→Nat→Int} (h:iH r c e0 M0 k M):(∃P,dZ k c M P)∧∀v,er k c M v↔oy r c M0 v:=by
  obtain ⟨k1,K1,a1,a2⟩:=h;exact ⟨a2.lat.1,jk a1.lat.2 a2.lat.2⟩
theorem wh.lat {r c e0 e1 k:Nat} {M0 M:Nat→Nat→Int} (h:wh r c e0 e1 M0 k M):(∃P,dZ k c M P)∧∀v,er k c M v↔oy r c M0 v:=by
  obtain ⟨k1,K1,a1,a2⟩:=h;exact ⟨a2.lat.1,jk a1.lat.2 a2.lat.2⟩
section
variable {r c k:Nat} {M0:Nat→Nat→Int} {S:WS}
theorem ml (hl:Lin c r (fS M0) S) (hk:k≤c) (he:iO c k r S.M) {i j:Nat} (hi:i<r) (hj:j<c):M0 i j=aq k (fun x=>S.M x i*S.V j x):=by
  have h1:M0 i j=ci c S.V S.M j i:=hl.back hj hi;rw [h1]
  unfold ci
  rw [eJ hk fun x h2 h3=>by rw [he.toP.2 x h2 h3 i hi,Int.mul_zero]];exact ej _ _ _
theorem xb (hl:Lin c r (fS M0) S) (v:Nat→Int) {j:Nat} (hj:j<c):v j=aq c (fun x=>aq c (fun y=>S.U x y*v y)*S.V j x):=by
  have h1:aq c (fun x=>aq c (fun y=>S.U x y*v y)*S.V j x)=aq c (fun x=>S.V j x*aq c (fun y=>S.U x y*v y)):=ej _ _ _;have h2:aq c (fun x=>S.V j x*aq c (fun y=>S.U x y*v y))=aq c (fun y=>aq c (fun x=>S.V j x*S.U x y)*v y):=cB c c (S.V j) S.U (fun y _=>v y) 0;have h3:aq c (fun y=>aq c (fun x=>S.V j x*S.U x y)*v y)=aq c (fun y=>bH j y*v y):=an fun y hy=>by rw [←hl.vu j y hj hy];rfl
  rw [h1,h2,h3,cf hj fun x _ hne=>by simp [bH,Ne.symm hne]];simp [bH]
theorem nD (hl:Lin c r (fS M0) S) (hk:k≤c) (he:iO c k r S.M) (v:Nat→Int):oy r c M0 v↔er k c (fun x j=>S.V j x) v:=by
  constructor
  · intro hs
    have h0:∀x,k≤x→x<c→aq c (fun y=>S.U x y*v y)=0:=fun x h1 h2=>by
      have e1:aq c (fun y=>S.U x y*v y)=aq c (fun y=>v y*S.U x y):=ej _ _ _;rw [e1];refine hs (S.U x) fun i hi=> ?_
      have e2:aq c (fun j=>S.U x j*M0 i j)=S.M x i:=(hl.eq x i h2 hi).symm;rw [e2,he.toP.2 x h1 h2 i hi]
    refine ⟨fun x=>aq c (fun y=>S.U x y*v y),fun j hj=> ?_⟩;have h2:=xb hl v hj;rw [eJ hk fun x h1 h2=>by rw [h0 x h1 h2,Int.zero_mul]] at h2;exact h2
  · rintro ⟨a,ha⟩ u hu
    obtain ⟨b,hb⟩:=(mE hl hk he (u:=u)).1 fun i hi=>hu i hi
    have e1:aq c (fun j=>v j*u j)=aq c (fun j=>aq k (fun x=>a x*S.V j x)*u j):=an fun j hj=>by rw [ha j hj]
    have e2:aq c (fun j=>aq k (fun x=>a x*S.V j x)*u j)=aq k (fun x=>a x*aq c (fun j=>S.V j x*u j)):=(cB k c a (fun x j=>S.V j x) (fun j _=>u j) 0).symm;rw [e1,e2];refine bX fun x hx=> ?_
    have e3:aq c (fun j=>S.V j x*u j)=aq c (fun j=>aq (c - k) (fun y=>b y*S.U (k + y) j)*S.V j x):=by
      rw [ej];exact an fun j hj=>by rw [hb j hj]
    have e4:aq c (fun j=>aq (c - k) (fun y=>b y*S.U (k + y) j)*S.V j x)=aq (c - k) (fun y=>b y*aq c (fun j=>S.U (k + y) j*S.V j x)):=(cB (c - k) c b (fun y=>S.U (k + y)) (fun j _=>S.V j x) 0).symm;rw [e3,e4,bX fun y hy=> ?_,Int.mul_zero];have e5:aq c (fun j=>S.U (k + y) j*S.V j x)=bH (k + y) x:=hl.uv (k + y) x (by omega) (by omega);rw [e5];have:bH (k + y) x=0:=by unfold bH;rw [if_neg (by omega)]
    rw [this,Int.mul_zero]
theorem lW (hl:Lin c r (fS M0) S) {a:Nat→Int} {n:Nat} (hn:n≤c) (h:∀j,j<c→aq n (fun x=>a x*S.V j x)=0) {x:Nat} (hx:x<n):a x=0:=by
  have e1:aq c (fun j=>S.U x j*aq n (fun y=>a y*S.V j y))=0:=bX fun j hj=>by rw [h j hj,Int.mul_zero]
  have e2:aq c (fun j=>S.U x j*aq n (fun y=>a y*S.V j y))=aq n (fun y=>aq c (fun j=>S.U x j*S.V j y)*a y):=by
    rw [←cB c n (S.U x) S.V (fun y _=>a y) 0];exact an fun j _=>by rw [ej];rfl
  have e3:aq n (fun y=>aq c (fun j=>S.U x j*S.V j y)*a y)=aq n (fun y=>bH x y*a y):=an fun y hy=>by rw [←hl.uv x y (by omega) (by omega)];rfl
  rw [e2,e3,cf hx fun y _ hne=>by simp [bH,Ne.symm hne]] at e1
  simpa [bH] using e1
end
end Go.TL
namespace Go.TL
set_option linter.unusedVariables false
theorem mL (n:Nat):dZ n n bH (fun i=>i):=fun i hi=>by
  show i<n∧0<bH i i∧(∀j,j<i→bH i j=0)∧∀m,m<i→m<i∧0≤bH m i∧bH m i<bH i i;refine ⟨hi,by simp [bH],fun j hj=>by unfold bH;rw [if_neg (by omega)],fun m hm=>⟨hm,?_,?_⟩⟩
  · unfold bH;rw [if_neg (by omega)];omega
  · unfold bH;rw [if_neg (by omega),if_pos rfl];omega
theorem pr {n:Nat} (v:Nat→Int):er n n bH v:=⟨v,fun j hj=>by
  rw [cf hj fun x _ hne=>by simp [bH,hne]];simp [bH]⟩
theorem tX {r k n:Nat} {M0:Nat→Nat→Int} {S:WS} (hl:Lin r n M0 S) (hk:k≤r) (he:iO r k n S.M) (hall:∀v,er r n M0 v):k=n∧∀i j,i<k→j<n→S.M i j=bH i j:=by
  obtain ⟨P,hP⟩:=he.toP.1;exact hP.unique (mL n) fun v=>⟨fun _=>pr v,fun _=>(gC hl hk he).1 (hall v)⟩
section
variable {r c k:Nat} {M0:Nat→Nat→Int} {S:WS}
theorem qu (hk:k≤c) (hkr:k≤r) (he:iO c k r S.M) (hid:∀i j,i<c→j<r→S.M i j=bH i j) (hrc:r≤c):k=r:=by
  rcases Nat.lt_or_ge k r with h | h
  · have h1:=he.toP.2 k (Nat.le_refl _) (by omega) k h
    rw [hid k k (by omega) h] at h1;simp [bH] at h1
  · omega
theorem qt (hl:Lin c r (fS M0) S) (hk:k≤c) (hkr:k≤r) (he:iO c k r S.M) (hid:∀i j,i<c→j<r→S.M i j=bH i j) (hrc:r≤c) {i j:Nat} (hi:i<r) (hj:j<c):M0 i j=S.V j i:=by
  have hkr2:=qu hk hkr he hid hrc;subst hkr2;rw [ml hl hk he hi hj,cf hi fun x hx hne=>by rw [hid x i (by omega) hi];simp [bH,hne]];rw [hid i i (by omega) hi];simp [bH]
theorem kL {e0 k4:Nat} {S4:WS} (hl:Lin c r (fS M0) S) (hk:k≤c) (hkr:k≤r) (he:iO c k r S.M) (hid:∀i j,i<c→j<r→S.M i j=bH i j) (hrc:r≤c)
    (h4:HermR (r + (c - r)) c e0 (eL r M0 (fun a e=>S.V e (r + a))) k4 S4):eS (r + (c - r)) c (r + (c - r)) (r + (c - r)) S4.M bH:=by
  have hst:∀i j,i<c→j<c→eL r M0 (fun a e=>S.V e (r + a)) i j=S.V j i:=fun i j hi hj=>by
    unfold eL
    by_cases h:i<r
    · rw [if_pos h];exact qt hl hk hkr he hid hrc h hj
    · rw [if_neg h];show S.V j (r + (i - r))=_;rw [show r + (i - r)=i by omega]
  have hn:r + (c - r)=c:=by omega
  rw [hn] at h4⊢;obtain ⟨g1,g2⟩:=tX h4.lin h4.kr h4.ech fun v=>⟨fun x=>aq c (fun y=>S.U x y*v y),fun j hj=>by
    rw [xb hl v hj];exact an fun x hx=>by rw [hst x j hx hj]⟩
  exact ⟨rfl,rfl,fun i hi j hj=>g2 i j (by omega) hj⟩
end
end Go.TL
namespace Go.TL
open Go.RowKit Go.Proofs
set_option linter.unusedVariables false
def kP (r c:Nat) (M:Nat→Nat→Int):Prop:=∀v,er r c M v↔oy r c M v
theorem sP {r c k3 k2:Nat} {M M2:Nat→Nat→Int} {S3:WS} (hl:Lin r c M S3) (hk:k3≤r) (he:iO r k3 c S3.M) (h2:(∃P,dZ k2 c M2 P)∧∀v,er k2 c M2 v↔oy r c M v):eS k3 c k2 c S3.M M2↔kP r c M:=by
  obtain ⟨⟨P2,hP2⟩,h2⟩:=h2;obtain ⟨P,hP⟩:=he.toP.1
  constructor
  · rintro ⟨rfl,_,e⟩ v
    rw [gC hl hk he,←h2 v];exact ⟨fun h=>h.congr fun i j hi hj=>e i hi j hj,fun h=>h.congr fun i j hi hj=>(e i hi j hj).symm⟩
  · intro hq
    obtain ⟨e1,e2⟩:=hP.unique hP2 fun v=>(gC hl hk he).symm.trans ((hq v).trans (h2 v).symm)
    exact ⟨e1,rfl,fun i hi j hj=>e2 i j hi hj⟩
theorem yi {p:Prop} [Decidable p] {sb:Bool} (h:p↔sb=true):Value.bool (decide p)= .bool (decide (sb=true)):=congrArg _ (by by_cases e:p<;>simp [e,←h])
def jq (w:World) (v:Value) (r c e0:Nat) (M0:Nat→Nat→Int) (b:Nat):Prop:=∃k M,fP r c e0 M0 k M∧bf w v k r M b
theorem jq.ext {w w':World} {v:Value} {r c e0 b:Nat} {M0:Nat→Nat→Int} (h:jq w v r c e0 M0 b) (hx:aG w w'):jq w' v r c e0 M0 b:=by obtain ⟨k,S,h1,h2⟩:=h;exact ⟨k,S,h1,h2.ext hx⟩
theorem fG (r c e0:Nat) (M0:Nat→Nat→Int) (b:Nat):bD (fun v w=>jq w v r c e0 M0 b):=fun _ _ _ h hx=>h.ext hx
instance (r c e0:Nat) (M0:Nat→Nat→Int) (b:Nat):Nonempty (bD (fun v w=>jq w v r c e0 M0 b)):=⟨fG r c e0 M0 b⟩
def yu (w:World) (v:Value) (r c e0:Nat) (M:Nat→Nat→Int) (b:Nat):Prop:=∃k S R' C' st s' Mc,Herm c r e0 (fS M) k S∧v= .tuple #[.agg #[.int .i64 ((R':Nat):Int),.int .i64 ((C':Nat):Int),s'],.int .i64 ((st:Nat):Int)]∧R'≤65536∧C'≤65536∧cE w s' R' C' Mc b∧
  ((((∀i j,i<c→j<r→S.M i j=bH i j)∧r≤c)∧R'=c - r∧C'=c∧st=0∧Mc=fun a e=>S.V e (r + a))∨(¬((∀i j,i<c→j<r→S.M i j=bH i j)∧r≤c)∧R'=0∧C'=0∧st=170))
theorem fY (w:World) (x:Value) (rx cx:Nat) (Mx:Nat→Nat→Int) (btx e0 b:Nat) (hx:bf w x rx cx Mx btx) (h8:cx≤8) (hM:∀i j,i<rx→j<cx→(Mx i j).natAbs≤2^e0) (hb:bB e0 cx≤b) (hb1:1 + e0≤b) (hl:2*b + 4≤aZ):
    Calls Tryz.prog 10 #[x] w (cb w fun v w'=>yu w' v rx cx e0 Mx b):=by
  refine (mF w x rx cx Mx btx e0 b hx h8 hM hb hb1 hl).mono fun e w' h=> ?_
  obtain ⟨v,h1,h2,k,S,hH,h3⟩:=h;refine ⟨v,h1,h2,k,S,?_⟩;rcases h3 with ⟨g1,g2,v1,rfl,g3⟩ | ⟨g1,rfl⟩
  · obtain ⟨s',rfl,d1,d2,g4⟩:=g3.form
    exact ⟨_,_,0,s',_,hH,rfl,d1.1,d2,g4,.inl ⟨⟨g1,g2⟩,rfl,rfl,rfl,rfl⟩⟩
  · exact ⟨0,0,170,_,fun _ _=>0,hH,rfl,by decide,by decide,⟨none,0,rfl,Nat.le_refl _,⟨by decide,by decide,by have:aZ=562949953421312:=rfl;omega⟩,fun h=>by omega⟩,.inr ⟨g1,rfl,rfl,rfl⟩⟩
theorem qs (w:World) (x:Value) (rx cx:Nat) (Mx:Nat→Nat→Int) (btx e0 b:Nat) {sb:Bool} (hx:bf w x rx cx Mx btx) (h8r:rx≤8) (hb0:bB e0 rx≤b) (h8:cx≤8) (hM:∀i j,i<rx→j<cx→(Mx i j).natAbs≤2^e0)
    (hb:bB e0 cx≤b) (hb1:1 + e0≤b) (hb2:bB (eB e0 cx) cx≤b) (hb3:1 + eB e0 cx≤b) (hl:2*b + 4≤aZ) (hsb:sb=true↔kP rx cx Mx):
    Calls Tryz.prog 16 #[x] w (cb w fun v _=>v= .bool (decide (sb=true))):=by
  refine (nZ w x rx cx Mx btx e0 b hx h8r hb0 h8 hM hb hb1 hb2 hb3 hl).mono fun e w' h=> ?_
  obtain ⟨v,h1,h2,k,S,k2,M2,hH,hS,rfl⟩:=h;exact ⟨_,h1,h2,yi ((sP hH.lin hH.kr hH.ech hS.lat).trans hsb.symm)⟩
def B1:Nat:=281474976710000
def E1:Nat:=3000
theorem fF:∀c,c<5→bR 4 c≤B1∧2 + 4≤B1∧2 + eR 4 c c≤B1∧bR E1 c≤B1∧2 + E1≤B1∧2 + eR E1 c c≤B1∧bB 4 c≤B1∧bB (eB 4 c) c≤B1∧1 + eB 4 c≤B1:=by decide
theorem Ah:∀c,c<5→∀k,k<5→bR (eR 4 c k) (c - k)≤B1∧eR (eR 4 c k) (c - k) (c - k)≤E1∧bR (eR E1 c k) (c - k)≤B1:=by decide
theorem zu:2*B1 + 300≤aZ:=by decide
end Go.TL
namespace Go.TL
open Go.RowKit Go.Proofs
set_option linter.unusedVariables false
def E2:Nat:=20000
theorem Ag:∀c,c<5→bR E2 c≤B1∧∀k,k<5→gB 4 k≤E2:=by decide
theorem num3b:2*(B1 + 1) + 300≤aZ∧2 + E2≤B1 + 1∧4 + 1≤B1 + 1∧4≤E2:=by decide
theorem nK {w:World} {x y:Value} {r c R' C' k:Nat} {M Mc:Nat→Nat→Int} {S:WS} (hx:bf w x r c M 4) (hy:bf w y R' C' Mc B1) (h5:c<5) (hMb:∀i j,i<r→j<c→(M i j).natAbs≤2^4) (hH:Herm c r 4 (fS M) k S)
    (hid:∀i j,i<c→j<r→S.M i j=bH i j) (hrc:r≤c) (hR:R'=c - r) (hC:C'=c) (hMc:Mc=fun a e=>S.V e (r + a)):Calls Tryz.prog 17 #[x,y] w (cb w fun v _=>v= .bool (decide True)):=by
  subst hR;subst hC;subst hMc;have h1:=Ag C' h5;have h2:=zu;have hn:r + (C' - r)=C':=by omega
  refine (jm w x r C' M 4 y (C' - r) _ B1 E2 (B1 + 1) hx hy (by omega) hn ?_ num3b.2.2.1 (Nat.le_refl _) (by rw [hn];exact Nat.le_succ_of_le h1.1) num3b.2.1 num3b.1 fun k4 S4 h4=>kL hH.lin hH.kr hH.kc hH.ech hid hrc h4).mono fun _ w' ⟨v,g1,g2,g3⟩=>⟨v,g1,g2,g3⟩
  intro i j hi hj
  unfold eL
  split
  · rename_i h
    exact Nat.le_trans (hMb i j h hj) (Nat.pow_le_pow_right (by decide) num3b.2.2.2)
  · exact Nat.le_trans (hH.bv j (r + (i - r)) hj (by omega)) (Nat.pow_le_pow_right (by decide) (h1.2 k (by have:=hH.kr;omega)))
end Go.TL
namespace Go.TL
set_option linter.unusedVariables false
section
variable {r c k:Nat} {M0:Nat→Nat→Int} {S:WS}
theorem fZ (hl:Lin c r (fS M0) S) (hk:k≤c) (hkr:k≤r) (he:iO c k r S.M) (hfree:∀u:Nat→Int,(∀j,j<c→aq r (fun i=>u i*M0 i j)=0)→∀i,i<r→u i=0) (hq:kP r c M0):(∀i j,i<c→j<r→S.M i j=bH i j)∧r≤c:=by
  have hlat:∀v,er r c M0 v↔er k c (fun x j=>S.V j x) v:=fun v=>by rw [←nD hl hk he];exact hq v
  have hB:∀x,∃a:Nat→Int,x<k→∀j,j<c→S.V j x=aq r (fun i=>a i*M0 i j):=fun x=>by
    by_cases hx:x<k
    · obtain ⟨a,ha⟩:=(hlat (fun j=>S.V j x)).2 (er.row (M:=fun x j=>S.V j x) hx)
      exact ⟨a,fun _=>ha⟩
    · exact ⟨fun _=>0,fun h=>absurd h hx⟩
  obtain ⟨b,hb⟩:=Classical.skolem.1 hB;have hTB:∀i j,i<r→j<r→aq k (fun x=>S.M x i*b x j)=bH i j:=fun i j hi hj=>by
    have h1:=hfree (fun y=>aq k (fun x=>S.M x i*b x y) - bH i y) (fun y hy=>by
      have h4:aq r (fun z=>(aq k (fun x=>S.M x i*b x z) - bH i z)*M0 z y)=aq r (fun z=>aq k (fun x=>S.M x i*b x z)*M0 z y) - aq r (fun z=>bH i z*M0 z y):=by
        rw [←fh];exact an fun z _=>Int.sub_mul _ _ _
      have h5:aq r (fun z=>aq k (fun x=>S.M x i*b x z)*M0 z y)=aq k (fun x=>S.M x i*aq r (fun z=>b x z*M0 z y)):=(cB k r (fun x=>S.M x i) b M0 y).symm;have h6:aq k (fun x=>S.M x i*aq r (fun z=>b x z*M0 z y))=M0 i y:=by
        rw [ml hl hk he hi hy];exact an fun x hx=>by rw [←hb x hx y hy]
      have h7:aq r (fun z=>bH i z*M0 z y)=M0 i y:=by
        rw [cf hi fun z _ hne=>by simp [bH,Ne.symm hne]];simp [bH]
      rw [h4,h5,h6,h7];omega) j hj
    have h8:aq k (fun x=>S.M x i*b x j) - bH i j=0:=h1;omega
  have hBT:∀x,x<k→aq r (fun i=>b x i*S.M x i)=1:=fun x hx=>by
    have h1:=lW hl (a:=fun y=>aq r (fun i=>b x i*S.M y i) - bH x y) (n:=k) hk (fun j hj=>by
      have h4:aq k (fun y=>(aq r (fun i=>b x i*S.M y i) - bH x y)*S.V j y)=aq k (fun y=>aq r (fun i=>b x i*S.M y i)*S.V j y) - aq k (fun y=>bH x y*S.V j y):=by
        rw [←fh];exact an fun z _=>Int.sub_mul _ _ _
      have h5:aq k (fun y=>aq r (fun i=>b x i*S.M y i)*S.V j y)=aq r (fun i=>b x i*aq k (fun y=>S.M y i*S.V j y)):=(cB r k (b x) (fun i y=>S.M y i) (fun y _=>S.V j y) 0).symm;have h6:aq r (fun i=>b x i*aq k (fun y=>S.M y i*S.V j y))=S.V j x:=by
        rw [hb x hx j hj];exact an fun i hi=>by rw [ml hl hk he hi hj]
      have h7:aq k (fun y=>bH x y*S.V j y)=S.V j x:=by
        rw [cf hx fun z _ hne=>by simp [bH,Ne.symm hne]];simp [bH]
      rw [h4,h5,h6,h7];omega) hx
    have h8:aq r (fun i=>b x i*S.M x i) - bH x x=0:=h1;have h9:bH x x=1:=by simp [bH]
    omega
  have hone:∀n,aq n (fun _=>(1:Int))=(n:Int):=fun n=>by
    induction n with
    | zero=>rfl
    | succ n ih=>simp only [aq];rw [ih];omega
  have htr:(r:Int)=(k:Int):=by
    rw [←hone r,←hone k];have h1:aq r (fun _=>(1:Int))=aq r (fun i=>aq k (fun x=>S.M x i*b x i)):=an fun i hi=>by rw [hTB i i hi hi];simp [bH]
    have h2:aq k (fun _=>(1:Int))=aq k (fun x=>aq r (fun i=>b x i*S.M x i)):=an fun x hx=>(hBT x hx).symm
    rw [h1,h2,gp];exact an fun x _=>ej _ _ _
  have hkk:k=r:=by omega
  obtain ⟨P,hP⟩:=he.toP.1;rw [hkk] at hP;have huq:=hP.unique (mL r) fun v=>⟨fun _=>pr v,fun _=>⟨fun x=>aq r (fun i=>b x i*v i),fun j hj=>by
    have h1:aq r (fun x=>aq r (fun i=>b x i*v i)*S.M x j)=aq r (fun x=>S.M x j*aq r (fun i=>b x i*v i)):=ej _ _ _;have h2:aq r (fun x=>S.M x j*aq r (fun i=>b x i*v i))=aq r (fun i=>aq r (fun x=>S.M x j*b x i)*v i):=cB r r (fun x=>S.M x j) b (fun i _=>v i) 0;have h3:aq r (fun i=>aq r (fun x=>S.M x j*b x i)*v i)=aq r (fun i=>bH j i*v i):=an fun i hi=>by
      have:=hTB j i hj hi;rw [hkk] at this;rw [this]
    rw [h1,h2,h3,cf hj fun x _ hne=>by simp [bH,Ne.symm hne]];simp [bH]⟩⟩
  refine ⟨fun i j hi hj=> ?_,by omega⟩;rcases Nat.lt_or_ge i r with h | h
  · exact huq.2 i j h hj
  · rw [he.toP.2 i (by omega) hi j hj];unfold bH;rw [if_neg (by omega)]
theorem lV (hl:Lin c r (fS M0) S) (hk:k≤c) (hkr:k≤r) (he:iO c k r S.M) (hid:∀i j,i<c→j<r→S.M i j=bH i j) (hrc:r≤c):
    kP r c M0∧∀u:Nat→Int,(∀j,j<c→aq r (fun i=>u i*M0 i j)=0)→∀i,i<r→u i=0:=by
  have hkr2:=qu hk hkr he hid hrc;subst hkr2;have hrow:=fun {i j:Nat} (hi:i<k) (hj:j<c)=>qt hl hk hkr he hid hrc hi hj
  refine ⟨fun v=> ?_,fun u hu i hi=>lW hl (a:=u) (n:=k) hk (fun j hj=> ?_) hi⟩
  · rw [nD hl hk he]
    exact ⟨fun h=>h.congr fun i j hi hj=>hrow hi hj,fun h=>h.congr fun i j hi hj=>(hrow hi hj).symm⟩
  · rw [←hu j hj];exact an fun x hx=>by rw [hrow hx hj]
end
def da (a b:Int):Nat→Nat→Int:=fun _ j=>if j=0 then a else b
theorem uZ (f:Nat→Int):aq 1 f=f 0:=by simp [aq]
theorem sG (f:Nat→Int):aq 2 f=f 0 + f 1:=by simp [aq]
theorem kH {a b:Int} {v:Nat→Int}:er 1 2 (da a b) v↔∃t:Int,v 0=t*a∧v 1=t*b:=by
  constructor
  · rintro ⟨t,h⟩
    exact ⟨t 0,by rw [h 0 (by decide),uZ];rfl,by rw [h 1 (by decide),uZ];rfl⟩
  · rintro ⟨t,h0,h1⟩
    refine ⟨fun _=>t,fun j hj=> ?_⟩;rw [uZ];rcases (by omega:j=0∨j=1) with rfl | rfl
    · exact h0
    · exact h1
theorem sO (v:Nat→Int):oy 1 2 (da 1 2) v↔v 1=2*v 0:=by
  unfold oy
  simp only [sG]
  constructor
  · intro h
    have:=h (fun j=>if j=0 then 2 else -1) (fun i hi=>by simp [da]);simp at this;omega
  · intro h u hu
    have:=hu 0 (by decide);simp [da] at this;rw [h];have e1:u 0= -(u 1*2):=by omega
    rw [e1,Int.mul_neg,←Int.mul_assoc,Int.mul_comm (v 0*u 1) 2,←Int.mul_assoc];omega
theorem mj:kP 1 2 (da 1 2):=fun v=>by
  rw [kH,sO]
  constructor
  · rintro ⟨t,h0,h1⟩;omega
  · intro h;exact ⟨v 0,by omega,by omega⟩
theorem sN (v:Nat→Int):oy 1 2 (da 2 4) v↔oy 1 2 (da 1 2) v:=by
  unfold oy
  simp only [sG]
  constructor<;>intro h u hu<;>refine h u fun i hi=> ?_<;>have:=hu i hi<;>simp [da] at this⊢<;>omega
theorem jn:¬kP 1 2 (da 2 4):=fun h=>by
  have h1:=(h (fun j=>if j=0 then 1 else 2)).2 (by rw [sN,sO];simp);rw [kH] at h1;obtain ⟨t,h2,_⟩:=h1;simp at h2;omega
theorem vC (u:Nat→Int) (h:∀j,j<2→aq 1 (fun i=>u i*da 1 2 i j)=0):∀i,i<1→u i=0:=fun i hi=>by
  have:=h 0 (by decide);rw [uZ] at this;simp [da] at this;rw [show i=0 by omega];exact this
theorem xO (c:Nat) (M:Nat→Nat→Int):kP 0 c M:=fun v=>by
  constructor
  · rintro ⟨a,h⟩ u _
    exact bX fun j hj=>by rw [h j hj];simp [aq]
  · intro h
    refine ⟨fun _=>0,fun j hj=> ?_⟩;have:=h (fun x=>if x=j then 1 else 0) (fun i hi=>by omega);rw [cf hj fun x _ hne=>by simp [hne]] at this
    simpa [aq] using this
theorem lU {a b:Int} (h:0<a):dZ 1 2 (da a b) (fun _=>0):=fun i hi=>by
  show 0<2∧0<da a b i 0∧(∀j,j<0→da a b i j=0)∧∀n,n<i→0<0∧0≤da a b n 0∧da a b n 0<da a b i 0;exact ⟨by decide,by simpa [da] using h,fun j hj=>by omega,fun n hn=>by omega⟩
end Go.TL
namespace Go.TL
open Go.RowKit Go.Proofs
set_option linter.unusedVariables false
def f2 (a b:Int):Nat→Int:=fun i=>if i=0 then a else b
def f4 (a b c d:Int):Nat→Int:=fun i=>if i=0 then a else if i=1 then b else if i=2 then c else d
def mN (a b:Int):Nat→Nat→Int:=fun i _=>if i=0 then a else b
def yy (a b c d:Int):Nat→Nat→Int:=fun i j=>if i=0 then (if j=0 then a else b) else (if j=0 then c else d)
theorem lO {w:World} {g T m:Nat} {a b:Int} (hA:aR w g T 2 (bt [.int .i64 a,.int .i64 b])):fw .i64 m w (.slice (some ⟨g,0,none⟩) 2 2) 2 (f2 a b):=
  ⟨_,_,rfl,Nat.le_refl _,by decide,fun _=>⟨g,0,rfl,fun i hi=>by
    rw [Nat.zero_add];have:=hA.cell hi;rcases (by omega:i=0∨i=1) with rfl | rfl
    · exact this
    · exact this⟩⟩
theorem zt {w:World} {g T m:Nat} {a b c d:Int} (hA:aR w g T 4 (bt [.int .i64 a,.int .i64 b,.int .i64 c,.int .i64 d])):fw .i64 m w (.slice (some ⟨g,0,none⟩) 4 4) 4 (f4 a b c d):=
  ⟨_,_,rfl,Nat.le_refl _,by decide,fun _=>⟨g,0,rfl,fun i hi=>by
    rw [Nat.zero_add];have:=hA.cell hi;rcases (by omega:i=0∨i=1∨i=2∨i=3) with rfl | rfl | rfl | rfl
    · exact this
    · exact this
    · exact this
    · exact this⟩⟩
section
variable {w:World} {l x y:Value} {a b c d:Int}
theorem fW (hl:fw .i64 2 w l 2 (f2 a b)) (ha:a.natAbs<16) (hb:b.natAbs<16):Calls Tryz.prog 28 #[.int .i64 1,.int .i64 2,l] w (cb w fun v w'=>cz w' v w.heap.size 1 2 (da a b) 4):=by
  have hf:∀i,i<2→(f2 a b i).natAbs<16:=fun i _=>by unfold f2;split<;>assumption
  refine (pd w 1 2 l 2 (f2 a b) 4 (by decide) (by decide) hl (by decide) (fun i hi=>by have:=hf i hi;omega) (fun i hi=>hf i hi)).mono fun _ w' ⟨v,g1,g2,g3⟩=>⟨v,g1,g2,cz.congr g3 fun i j hi hj=> ?_⟩
  have:i=0:=by omega
  subst this
  unfold fo f2 da
  rw [if_pos (by omega),show 0*2 + j=j by omega]
theorem sZ (hl:fw .i64 2 w l 2 (f2 a b)) (ha:a.natAbs<16) (hb:b.natAbs<16):Calls Tryz.prog 28 #[.int .i64 2,.int .i64 1,l] w (cb w fun v w'=>cz w' v w.heap.size 2 1 (mN a b) 4):=by
  have hf:∀i,i<2→(f2 a b i).natAbs<16:=fun i _=>by unfold f2;split<;>assumption
  refine (pd w 2 1 l 2 (f2 a b) 4 (by decide) (by decide) hl (by decide) (fun i hi=>by have:=hf i hi;omega) (fun i hi=>hf i hi)).mono fun _ w' ⟨v,g1,g2,g3⟩=>⟨v,g1,g2,cz.congr g3 fun i j hi hj=> ?_⟩
  have:j=0:=by omega
  subst this
  unfold fo f2 mN
  rw [if_pos (by omega),show i*1 + 0=i by omega]
theorem sY (hl:fw .i64 2 w l 4 (f4 a b c d)) (ha:a.natAbs<16∧b.natAbs<16) (hb:c.natAbs<16∧d.natAbs<16):Calls Tryz.prog 28 #[.int .i64 2,.int .i64 2,l] w (cb w fun v w'=>cz w' v w.heap.size 2 2 (yy a b c d) 4):=by
  have hf:∀i,i<4→(f4 a b c d i).natAbs<16:=fun i _=>by unfold f4;split<;>(try split)<;>(try split)<;>omega
  refine (pd w 2 2 l 4 (f4 a b c d) 4 (by decide) (by decide) hl (by decide) (fun i hi=>by have:=hf i hi;omega) (fun i hi=>hf i hi)).mono fun _ w' ⟨v,g1,g2,g3⟩=>⟨v,g1,g2,cz.congr g3 fun i j hi hj=> ?_⟩
  unfold fo f4 yy
  rw [if_pos (by omega)];rcases (by omega:i=0∨i=1) with rfl | rfl<;>rcases (by omega:j=0∨j=1) with rfl | rfl<;>rfl
theorem mr {r cc e0 b1 k2 by':Nat} {M N:Nat→Nat→Int} {P:Nat→Nat} (h:jq w x r cc e0 M b1) (hy:bf w y k2 r N by') (hP:dZ k2 r N P) (hN:∀u,er k2 r N u↔Ker r cc M u):
    Calls Tryz.prog 11 #[x,y] w (cb w fun v _=>v= .bool (decide True)):=by
  obtain ⟨k,M1,h1,h2⟩:=h;obtain ⟨⟨P1,hP1⟩,h3⟩:=h1.lat;obtain ⟨rfl,e⟩:=hP1.unique hP fun v=>(h3 v).trans (hN v).symm
  exact (ms _ _ _ _ _ _ _ _ _ _ _ h2 hy).mono fun _ w' ⟨v,g1,g2,g3⟩=>⟨v,g1,g2,g3.trans (congrArg _ (decide_eq_true ⟨rfl,rfl,fun i hi j hj=>e i j hi hj⟩))⟩
theorem ve {r cc e0 b1 k2 by':Nat} {M N:Nat→Nat→Int} {P:Nat→Nat} (h:pB w x r cc e0 M b1) (hy:bf w y k2 cc N by') (hP:dZ k2 cc N P) (hN:∀v,er k2 cc N v↔oy r cc M v):
    Calls Tryz.prog 11 #[x,y] w (cb w fun v _=>v= .bool (decide True)):=by
  obtain ⟨k,M1,h1,h2⟩:=h;obtain ⟨⟨P1,hP1⟩,h3⟩:=h1.lat;obtain ⟨rfl,e⟩:=hP1.unique hP fun v=>(h3 v).trans (hN v).symm
  exact (ms _ _ _ _ _ _ _ _ _ _ _ h2 hy).mono fun _ w' ⟨v,g1,g2,g3⟩=>⟨v,g1,g2,g3.trans (congrArg _ (decide_eq_true ⟨rfl,rfl,fun i hi j hj=>e i j hi hj⟩))⟩
end
theorem pn (u:Nat→Int):er 1 2 (da 2 (-1)) u↔Ker 2 1 (mN 1 2) u:=by
  rw [kH]
  constructor
  · rintro ⟨t,h0,h1⟩ j hj
    rw [sG];simp [mN];omega
  · intro h
    have:=h 0 (by decide);rw [sG] at this;simp [mN] at this;exact ⟨-u 1,by omega,by omega⟩
theorem rt (v:Nat→Int):er 1 2 (da 1 2) v↔oy 1 2 (da 2 4) v:=(mj v).trans (sN v).symm
theorem pm (M:Nat→Nat→Int) (u:Nat→Int):er 2 2 bH u↔Ker 2 0 M u:=⟨fun _ j hj=>by omega,fun _=>pr u⟩
theorem po (N M:Nat→Nat→Int) (u:Nat→Int):er 0 0 N u↔Ker 0 3 M u:=⟨fun _ j _=>rfl,fun _=>⟨fun _=>0,fun j hj=>by omega⟩⟩
theorem ye (c:Nat) (N:Nat→Nat→Int):dZ 0 c N (fun _=>0):=fun i hi=>by omega
theorem nQ:¬∀u:Nat→Int,(∀j,j<2→aq 2 (fun i=>u i*yy 1 0 1 0 i j)=0)→∀i,i<2→u i=0:=fun h=>by
  have h1:=h (fun i=>if i=0 then 1 else -1) (fun j hj=>by
    rw [sG];rcases (by omega:j=0∨j=1) with rfl | rfl<;>simp [yy]) 0 (by decide)
  simp at h1
theorem mv (w:World) (c:Nat) (hc:c≤65536):bf w (.agg #[.int .i64 ((0:Nat):Int),.int .i64 ((c:Nat):Int),.slice none 0 0]) 0 c (fun _ _=>0) 4:=
  bf.mk ⟨none,0,rfl,Nat.le_refl _,⟨by decide,by decide,by decide⟩,fun h=>by omega⟩ (by decide) hc
theorem xT {e:cA} {i j l m:Nat} {x y z o:Operand} {v u t s:Value} (h:ev e x=v) (k:ev e y=u) (n:ev e z=t) (q:ev e o=s):
    #[(i,x),(j,y),(l,z),(m,o)].toList.map (fun p:Nat×Operand=>(p.1,ev e p.2))= [(i,v),(j,u),(l,t),(m,s)]:=by simp [h,k,n,q]
end Go.TL
namespace Go.TL
open Go.RowKit Go.Proofs
set_option linter.unusedVariables false
set_option linter.unusedSimpArgs false
set_option maxRecDepth 10000 in
set_option maxHeartbeats 1600000 in
theorem tD (w:World):Calls Tryz.prog 7 #[] w (cb w fun v w'=>v= .bool true):=by
 have hLIM:aZ=562949953421312:=rfl;refine aj (N:=95) (rs:= #[.tmp 0]) Tryz.func7 rfl rfl rfl (Nat.le_of_ble_eq_true rfl) ?_;have hX:aG w w:=aG.refl w;refine ab ?_;refine RL.p rfl rfl (cn.assign rfl) ?_;refine RL.nil ?_;refine ab ?_;refine RL.x rfl rfl (cX.buildSlice (vs:= [(0,.int .i64 (1)),(1,.int .i64 (2))]) [.int .i64 (0)] [.int .i64 (1),.int .i64 (2)] io oN rfl (dK rfl rfl) rfl (by decide) iP rfl) ?_;rintro _ w1 ⟨g1,rfl,hge1,hx1,hA1⟩;replace hX:=aG.trans hX hx1;have hBw1:w.heap.size≤w1.heap.size:=hX.size;refine RL.x rfl rfl (cX.call jT (cO rfl rfl rfl) (fW (lO hA1) (by decide) (by decide))) ?_;rintro v1 w2 ⟨hx2,q1⟩;replace hX:=aG.trans hX hx2;refine RL.x rfl rfl (cX.alloc [.int .i64 (0),.int .i64 (0),.slice (none) (0) (0)] bo rfl) ?_;rintro _ w3 ⟨g2,rfl,hge2,hx3,hA2⟩;have hbs2:w.heap.size≤g2:=Nat.le_trans hX.size hge2;replace q1:=cz.ext q1 hx3;replace hX:=aG.trans hX hx3;obtain ⟨gh1,kh1,ρ1,hq1,hM1⟩:=q1;have hd1:=cu.dlim hM1;have hd2:=cu.clim hM1;refine RL.x rfl rfl (cX.store [.int .i64 ((1:Nat)),.int .i64 ((2:Nat)),.slice (some ⟨gh1,0,none⟩) (1) (kh1)] bE rfl hq1 rfl hA2 (Nat.le_of_ble_eq_true rfl) (bG rfl rfl rfl)) ?_;rintro _ w4 ⟨hk1,hnew⟩;replace hM1:=bc hM1 hk1 hA2 (by decide);replace hX:=hX.step hk1 (fun b e=>by subst e;exact hbs2);replace hA2:=hnew.lit [.int .i64 ((1:Nat)),.int .i64 ((2:Nat)),.slice (some ⟨gh1,0,none⟩) (1) (kh1)] rfl;clear hnew;refine RL.nil ?_;refine ab ?_;refine RL.p rfl rfl (ae [.int .i64 ((1:Nat)),.int .i64 ((2:Nat)),.slice (some ⟨gh1,0,none⟩) (1) (kh1)] aM rfl (hA2.cells 0 _ rfl rfl)) ?_;refine RL.x rfl rfl (cX.call lD (aE rfl) (fY _ _ 1 2 (da (1) (2)) _ 4 B1 (cu.matV hM1 (by omega) (by omega)) (by decide) (fun i j _ _=>by simp only [da];split<;>decide) (fF 2 (by decide)).2.2.2.2.2.2.1 (by decide) (by decide))) ?_;rintro _ w5 ⟨hx4,kc1,Sc1,R1,C1,stt1,s1,Mc1,hHc1,rfl,hR1,hC1,q2,hcase1⟩;replace hA2:=aR.ext hA2 hx4;replace hM1:=cu.ext hM1 hx4;replace hX:=aG.trans hX hx4;have hidc1:=fZ hHc1.lin hHc1.kr hHc1.kc hHc1.ech vC mj;obtain ⟨hRr1,hCc1,hst1,hMc1⟩:R1=2 - 1∧C1=2∧stt1=0∧Mc1=fun a e=>Sc1.V e (1 + a):=by
   rcases hcase1 with h | h
   · exact h.2
   · exact absurd hidc1 h.1
 refine RL.p rfl rfl (cn.move rfl) ?_;refine RL.p rfl rfl (cn.extract rfl rfl) ?_;refine RL.p rfl rfl (cn.extract rfl rfl) ?_;refine RL.x rfl rfl (cX.alloc [.int .i64 (0),.int .i64 (0),.slice (none) (0) (0)] bo rfl) ?_;rintro _ w6 ⟨g3,rfl,hge3,hx5,hA3⟩;have ne2:g2≠g3:=Nat.ne_of_lt (Nat.lt_of_lt_of_le hA2.lt hge3);have hbs4:w.heap.size≤g3:=Nat.le_trans hX.size hge3;replace hA2:=aR.ext hA2 hx5;replace hM1:=cu.ext hM1 hx5;replace q2:=cE.ext q2 hx5;replace hX:=aG.trans hX hx5;refine RL.x rfl rfl (cX.store [.int .i64 ((R1:Nat)),.int .i64 ((C1:Nat)),s1] bE rfl rfl rfl hA3 (Nat.le_of_ble_eq_true rfl) (bG rfl rfl (q2.one))) ?_;rintro _ w7 ⟨hk2,hnew⟩;replace hM1:=bc hM1 hk2 hA3 (by decide);replace hA2:=hA2.keep hk2 ne2;replace q2:=aD q2 hk2 hA3 (by decide);replace hX:=hX.step hk2 (fun b e=>by subst e;exact hbs4);replace hA3:=hnew.lit [.int .i64 ((R1:Nat)),.int .i64 ((C1:Nat)),s1] rfl;clear hnew;refine RL.p rfl rfl (cn.assign rfl) ?_;refine RL.nil ?_;refine ab ?_;refine RL.x rfl rfl (cX.buildSlice (vs:= [(0,.int .i64 (2)),(1,.int .i64 (4))]) [.int .i64 (0)] [.int .i64 (2),.int .i64 (4)] io oN rfl (dK rfl rfl) rfl (by decide) iP rfl) ?_;rintro _ w8 ⟨g4,rfl,hge4,hx6,hA4⟩;replace hA2:=aR.ext hA2 hx6;replace q2:=cE.ext q2 hx6;replace hA3:=aR.ext hA3 hx6;replace hM1:=cu.ext hM1 hx6;replace hX:=aG.trans hX hx6;have hBw2:w.heap.size≤w8.heap.size:=hX.size;refine RL.x rfl rfl (cX.call jT (cO rfl rfl rfl) (fW (lO hA4) (by decide) (by decide))) ?_;rintro v2 w9 ⟨hx7,q3⟩;replace hA2:=aR.ext hA2 hx7;replace q2:=cE.ext q2 hx7;replace hA3:=aR.ext hA3 hx7;replace hM1:=cu.ext hM1 hx7;replace hX:=aG.trans hX hx7;refine RL.x rfl rfl (cX.call lD (aE rfl) (fY _ _ 1 2 (da (2) (4)) _ 4 B1 (cz.matV q3) (by decide) (fun i j _ _=>by simp only [da];split<;>decide) (fF 2 (by decide)).2.2.2.2.2.2.1 (by decide) (by decide))) ?_;rintro _ w10 ⟨hx8,kc2,Sc2,R2,C2,stt2,s2,Mc2,hHc2,rfl,hR2,hC2,q4,hcase2⟩;replace hA2:=aR.ext hA2 hx8;replace q2:=cE.ext q2 hx8;replace hA3:=aR.ext hA3 hx8;replace hM1:=cu.ext hM1 hx8;replace hX:=aG.trans hX hx8;have hst2:stt2=170:=by
   rcases hcase2 with h | h
   · exfalso
     obtain ⟨g1,g2⟩:=lV hHc2.lin hHc2.kr hHc2.kc hHc2.ech h.1.1 h.1.2;exact jn g1
   · exact h.2.2.2
 refine RL.p rfl rfl (cn.move rfl) ?_;refine RL.p rfl rfl (cn.extract rfl rfl) ?_;refine RL.p rfl rfl (cn.extract rfl rfl) ?_;refine RL.x rfl rfl (cX.alloc [.int .i64 (0),.int .i64 (0),.slice (none) (0) (0)] bo rfl) ?_;rintro _ w11 ⟨g5,rfl,hge5,hx9,hA5⟩;have ne9:g2≠g5:=Nat.ne_of_lt (Nat.lt_of_lt_of_le hA2.lt hge5);have ne10:g3≠g5:=Nat.ne_of_lt (Nat.lt_of_lt_of_le hA3.lt hge5);have hbs6:w.heap.size≤g5:=Nat.le_trans hX.size hge5;replace hA2:=aR.ext hA2 hx9;replace q2:=cE.ext q2 hx9;replace hA3:=aR.ext hA3 hx9;replace hM1:=cu.ext hM1 hx9;replace q4:=cE.ext q4 hx9;replace hX:=aG.trans hX hx9;refine RL.x rfl rfl (cX.store [.int .i64 ((R2:Nat)),.int .i64 ((C2:Nat)),s2] bE rfl rfl rfl hA5 (Nat.le_of_ble_eq_true rfl) (bG rfl rfl (q4.one))) ?_;rintro _ w12 ⟨hk3,hnew⟩;replace hM1:=bc hM1 hk3 hA5 (by decide);replace hA2:=hA2.keep hk3 ne9;replace q2:=aD q2 hk3 hA5 (by decide);replace hA3:=hA3.keep hk3 ne10;replace hX:=hX.step hk3 (fun b e=>by subst e;exact hbs6);clear hnew;refine RL.p rfl rfl (cn.assign rfl) ?_;refine RL.nil ?_;refine ab ?_;refine RL.x rfl rfl (cX.buildSlice (vs:= [(0,.int .i64 (1)),(1,.int .i64 (0)),(2,.int .i64 (1)),(3,.int .i64 (0))]) [.int .i64 (0)] [.int .i64 (1),.int .i64 (0),.int .i64 (1),.int .i64 (0)] io oN rfl (xT rfl rfl rfl rfl) rfl (by decide) xf rfl) ?_;rintro _ w13 ⟨g6,rfl,hge6,hx10,hA6⟩;replace hA2:=aR.ext hA2 hx10;replace q2:=cE.ext q2 hx10;replace hA3:=aR.ext hA3 hx10;replace hM1:=cu.ext hM1 hx10;replace hX:=aG.trans hX hx10;have hBw3:w.heap.size≤w13.heap.size:=hX.size;refine RL.x rfl rfl (cX.call jT (cO rfl rfl rfl) (sY (zt hA6) (by decide) (by decide))) ?_;rintro v3 w14 ⟨hx11,q5⟩;replace hA2:=aR.ext hA2 hx11;replace q2:=cE.ext q2 hx11;replace hA3:=aR.ext hA3 hx11;replace hM1:=cu.ext hM1 hx11;replace hX:=aG.trans hX hx11;refine RL.x rfl rfl (cX.call lD (aE rfl) (fY _ _ 2 2 (yy (1) (0) (1) (0)) _ 4 B1 (cz.matV q5) (by decide) (fun i j _ _=>by simp only [yy];split<;>split<;>decide) (fF 2 (by decide)).2.2.2.2.2.2.1 (by decide) (by decide))) ?_;rintro _ w15 ⟨hx12,kc3,Sc3,R3,C3,stt3,s3,Mc3,hHc3,rfl,hR3,hC3,q6,hcase3⟩;replace hA2:=aR.ext hA2 hx12;replace q2:=cE.ext q2 hx12;replace hA3:=aR.ext hA3 hx12;replace hM1:=cu.ext hM1 hx12;replace hX:=aG.trans hX hx12;have hst3:stt3=170:=by
   rcases hcase3 with h | h
   · exfalso
     obtain ⟨g1,g2⟩:=lV hHc3.lin hHc3.kr hHc3.kc hHc3.ech h.1.1 h.1.2;exact nQ g2
   · exact h.2.2.2
 refine RL.p rfl rfl (cn.move rfl) ?_;refine RL.p rfl rfl (cn.extract rfl rfl) ?_;refine RL.p rfl rfl (cn.extract rfl rfl) ?_;refine RL.x rfl rfl (cX.alloc [.int .i64 (0),.int .i64 (0),.slice (none) (0) (0)] bo rfl) ?_;rintro _ w16 ⟨g7,rfl,hge7,hx13,hA7⟩;have ne18:g2≠g7:=Nat.ne_of_lt (Nat.lt_of_lt_of_le hA2.lt hge7);have ne19:g3≠g7:=Nat.ne_of_lt (Nat.lt_of_lt_of_le hA3.lt hge7);have hbs8:w.heap.size≤g7:=Nat.le_trans hX.size hge7;replace hA2:=aR.ext hA2 hx13;replace q2:=cE.ext q2 hx13;replace hA3:=aR.ext hA3 hx13;replace hM1:=cu.ext hM1 hx13;replace q6:=cE.ext q6 hx13;replace hX:=aG.trans hX hx13;refine RL.x rfl rfl (cX.store [.int .i64 ((R3:Nat)),.int .i64 ((C3:Nat)),s3] bE rfl rfl rfl hA7 (Nat.le_of_ble_eq_true rfl) (bG rfl rfl (q6.one))) ?_;rintro _ w17 ⟨hk4,hnew⟩;replace hM1:=bc hM1 hk4 hA7 (by decide);replace hA2:=hA2.keep hk4 ne18;replace q2:=aD q2 hk4 hA7 (by decide);replace hA3:=hA3.keep hk4 ne19;replace hX:=hX.step hk4 (fun b e=>by subst e;exact hbs8);clear hnew;refine RL.p rfl rfl (cn.assign rfl) ?_;refine RL.nil ?_;refine ab ?_;refine RL.p rfl rfl (cn.build (vs:= [(1,.int .i64 (2))]) [(0,1),(1,1),(2,1)] fU bo (eN rfl) rfl) ?_;refine RL.x rfl rfl (cX.call lD (aE rfl) (fY _ _ 0 2 (fun _ _=>0) _ 4 B1 (mv _ 2 (by decide)) (by decide) (fun i j hi hj=>by first | exact absurd hi (Nat.not_lt_zero _) | exact absurd hj (Nat.not_lt_zero _)) (fF 2 (by decide)).2.2.2.2.2.2.1 (by decide) (by decide))) ?_;rintro _ w18 ⟨hx14,kc4,Sc4,R4,C4,stt4,s4,Mc4,hHc4,rfl,hR4,hC4,q7,hcase4⟩;replace hA2:=aR.ext hA2 hx14;replace q2:=cE.ext q2 hx14;replace hA3:=aR.ext hA3 hx14;replace hM1:=cu.ext hM1 hx14;replace hX:=aG.trans hX hx14;have hidc4:=fZ hHc4.lin hHc4.kr hHc4.kc hHc4.ech (fun u _ i hi=>absurd hi (Nat.not_lt_zero _)) (xO 2 _);obtain ⟨hRr4,hCc4,hst4,hMc4⟩:R4=2 - 0∧C4=2∧stt4=0∧Mc4=fun a e=>Sc4.V e (0 + a):=by
   rcases hcase4 with h | h
   · exact h.2
   · exact absurd hidc4 h.1
 refine RL.p rfl rfl (cn.move rfl) ?_;refine RL.p rfl rfl (cn.extract rfl rfl) ?_;refine RL.p rfl rfl (cn.extract rfl rfl) ?_;refine RL.x rfl rfl (cX.alloc [.int .i64 (0),.int .i64 (0),.slice (none) (0) (0)] bo rfl) ?_;rintro _ w19 ⟨g8,rfl,hge8,hx15,hA8⟩;have ne23:g2≠g8:=Nat.ne_of_lt (Nat.lt_of_lt_of_le hA2.lt hge8);have ne24:g3≠g8:=Nat.ne_of_lt (Nat.lt_of_lt_of_le hA3.lt hge8);have hbs9:w.heap.size≤g8:=Nat.le_trans hX.size hge8;replace hA2:=aR.ext hA2 hx15;replace q2:=cE.ext q2 hx15;replace hA3:=aR.ext hA3 hx15;replace hM1:=cu.ext hM1 hx15;replace q7:=cE.ext q7 hx15;replace hX:=aG.trans hX hx15;refine RL.x rfl rfl (cX.store [.int .i64 ((R4:Nat)),.int .i64 ((C4:Nat)),s4] bE rfl rfl rfl hA8 (Nat.le_of_ble_eq_true rfl) (bG rfl rfl (q7.one))) ?_;rintro _ w20 ⟨hk5,hnew⟩;replace hM1:=bc hM1 hk5 hA8 (by decide);replace hA2:=hA2.keep hk5 ne23;replace q2:=aD q2 hk5 hA8 (by decide);replace hA3:=hA3.keep hk5 ne24;replace q7:=aD q7 hk5 hA8 (by decide);replace hX:=hX.step hk5 (fun b e=>by subst e;exact hbs9);replace hA8:=hnew.lit [.int .i64 ((R4:Nat)),.int .i64 ((C4:Nat)),s4] rfl;clear hnew;refine RL.p rfl rfl (cn.assign rfl) ?_;refine RL.nil ?_;have hBw4:w.heap.size≤w20.heap.size:=hX.size;have hBw5:w.heap.size≤w20.heap.size:=hX.size;have hBw6:w.heap.size≤w20.heap.size:=hX.size;have hBw7:w.heap.size≤w20.heap.size:=hX.size;have hBw8:w.heap.size≤w20.heap.size:=hX.size;have hBw9:w.heap.size≤w20.heap.size:=hX.size;have hBw10:w.heap.size≤w20.heap.size:=hX.size;refine aJ (hmono:=⟨⟨(fun _ _ _ h hx=>fw.ext h hx),cG _ _ _ _ _,fG _ _ _ _ _,(fun _ _ _ h hx=>fw.ext h hx),cG _ _ _ _ _,ad _,ad _,bD.imp ((fun _ _ _ h hx=>fw.ext h hx)),bD.imp (cG _ _ _ _ _),bD.imp (lR _ _ _ _ _),bD.imp (ad _),bD.imp (ad _),ad _,ad _,bD.imp (ad _),bD.imp (ad _),ad _,ad _,bD.imp ((fun _ _ _ h hx=>fw.ext h hx)),bD.imp (cG _ _ _ _ _),bD.imp (ad _),bD.imp (ad _),ad _,ad _,bD.imp (ad _),bD.imp (ad _),ad _,ad _,bD.imp (ad _),bD.imp (ad _),bD.imp (ad _),ad _,ad _,bD.imp (ad _),bD.imp (ad _),ad _,ad _,bD.imp (ad _),bD.imp (ad _),ad _,ad _,bD.imp (ad _),bD.imp (ad _),ad _,ad _,bD.imp (ad _),bD.imp (ad _),bD.imp (ad _),ad _,ad _,bD.imp (cG _ _ _ _ _),bD.imp (fG _ _ _ _ _),bD.imp (cG _ _ _ _ _),bD.imp (ad _),ad _,ad _,bD.imp (ad _),bD.imp (fG _ _ _ _ _),bD.imp (cG _ _ _ _ _),bD.imp (ad _),ad _,trivial⟩⟩) am 61 ((fun v AC=>fw .i64 2 AC v 2 (f2 (1) (2)))::(fun v AC=>cz AC v w20.heap.size 2 1 (mN (1) (2)) 4)::(fun v AC=>jq AC v 2 1 4 (mN (1) (2)) B1)::(fun v AC=>fw .i64 2 AC v 2 (f2 (2) (-1)))::(fun v AC=>cz AC v w20.heap.size 1 2 (da (2) (-1)) 4)::(fun v AC=>v= .bool (decide (True)))::(fun v AC=>v= .bool (decide (True)))::(fun v AC=>(True)→(fw .i64 2 AC v 2 (f2 (2) (4))))::(fun v AC=>(True)→(cz AC v w20.heap.size 1 2 (da (2) (4)) 4))::(fun v AC=>(True)→(pB AC v 1 2 4 (da (2) (4)) B1))::_::(fun v AC=>(True)→(v= .bool (decide (True))))::_::(fun v AC=>v= .bool (decide ((True)∧(True))))::_::(fun v AC=>((True)∧(True))→(v= .bool (decide (True))))::_::(fun v AC=>v= .bool (decide (((True)∧(True))∧(True))))::(fun v AC=>(((True)∧(True))∧(True))→(fw .i64 2 AC v 2 (f2 (2) (4))))::(fun v AC=>(((True)∧(True))∧(True))→(cz AC v w20.heap.size 1 2 (da (2) (4)) 4))::(fun v AC=>(((True)∧(True))∧(True))→(v= .bool (decide (False))))::_::_::(fun v AC=>v= .bool (decide ((((True)∧(True))∧(True))∧(¬(False)))))::_::_::_::(fun v AC=>v= .bool (decide (((((True)∧(True))∧(True))∧(¬(False)))∧(((stt1:Nat):Int)=(0:Int)))))::_::_::(fun v AC=>(((((True)∧(True))∧(True))∧(¬(False)))∧(((stt1:Nat):Int)=(0:Int)))→(v= .bool (decide (True)))):: [_,fun v AC=>v= .bool (decide ((((((True)∧(True))∧(True))∧(¬(False)))∧(((stt1:Nat):Int)=(0:Int)))∧(True))),_,_,_,fun v AC=>v= .bool (decide (((((((True)∧(True))∧(True))∧(¬(False)))∧(((stt1:Nat):Int)=(0:Int)))∧(True))∧(((stt2:Nat):Int)=(170:Int)))),_,_,_,fun v AC=>v= .bool (decide ((((((((True)∧(True))∧(True))∧(¬(False)))∧(((stt1:Nat):Int)=(0:Int)))∧(True))∧(((stt2:Nat):Int)=(170:Int)))∧(((stt3:Nat):Int)=(170:Int)))),_,_,_,fun v AC=>v= .bool (decide (((((((((True)∧(True))∧(True))∧(¬(False)))∧(((stt1:Nat):Int)=(0:Int)))∧(True))∧(((stt2:Nat):Int)=(170:Int)))∧(((stt3:Nat):Int)=(170:Int)))∧(((stt4:Nat):Int)=(0:Int)))),_,_,fun v AC=>(((((((((True)∧(True))∧(True))∧(¬(False)))∧(((stt1:Nat):Int)=(0:Int)))∧(True))∧(((stt2:Nat):Int)=(170:Int)))∧(((stt3:Nat):Int)=(170:Int)))∧(((stt4:Nat):Int)=(0:Int)))→(v= .bool (decide (True))),_,fun v AC=>v= .bool (decide ((((((((((True)∧(True))∧(True))∧(¬(False)))∧(((stt1:Nat):Int)=(0:Int)))∧(True))∧(((stt2:Nat):Int)=(170:Int)))∧(((stt3:Nat):Int)=(170:Int)))∧(((stt4:Nat):Int)=(0:Int)))∧(True))),fun v AC=>((((((((((True)∧(True))∧(True))∧(¬(False)))∧(((stt1:Nat):Int)=(0:Int)))∧(True))∧(((stt2:Nat):Int)=(170:Int)))∧(((stt3:Nat):Int)=(170:Int)))∧(((stt4:Nat):Int)=(0:Int)))∧(True))→(cz AC v w20.heap.size 2 0 ((fun _ _=>0)) 4),fun v AC=>((((((((((True)∧(True))∧(True))∧(¬(False)))∧(((stt1:Nat):Int)=(0:Int)))∧(True))∧(((stt2:Nat):Int)=(170:Int)))∧(((stt3:Nat):Int)=(170:Int)))∧(((stt4:Nat):Int)=(0:Int)))∧(True))→(jq AC v 2 0 4 ((fun _ _=>0)) B1),fun v AC=>((((((((((True)∧(True))∧(True))∧(¬(False)))∧(((stt1:Nat):Int)=(0:Int)))∧(True))∧(((stt2:Nat):Int)=(170:Int)))∧(((stt3:Nat):Int)=(170:Int)))∧(((stt4:Nat):Int)=(0:Int)))∧(True))→(cz AC v w20.heap.size 2 2 bH 1),fun v AC=>((((((((((True)∧(True))∧(True))∧(¬(False)))∧(((stt1:Nat):Int)=(0:Int)))∧(True))∧(((stt2:Nat):Int)=(170:Int)))∧(((stt3:Nat):Int)=(170:Int)))∧(((stt4:Nat):Int)=(0:Int)))∧(True))→(v= .bool (decide (True))),_,fun v AC=>v= .bool (decide (((((((((((True)∧(True))∧(True))∧(¬(False)))∧(((stt1:Nat):Int)=(0:Int)))∧(True))∧(((stt2:Nat):Int)=(170:Int)))∧(((stt3:Nat):Int)=(170:Int)))∧(((stt4:Nat):Int)=(0:Int)))∧(True))∧(True))),_,fun v AC=>(((((((((((True)∧(True))∧(True))∧(¬(False)))∧(((stt1:Nat):Int)=(0:Int)))∧(True))∧(((stt2:Nat):Int)=(170:Int)))∧(((stt3:Nat):Int)=(170:Int)))∧(((stt4:Nat):Int)=(0:Int)))∧(True))∧(True))→(jq AC v 0 3 4 ((fun _ _=>0)) B1),fun v AC=>(((((((((((True)∧(True))∧(True))∧(¬(False)))∧(((stt1:Nat):Int)=(0:Int)))∧(True))∧(((stt2:Nat):Int)=(170:Int)))∧(((stt3:Nat):Int)=(170:Int)))∧(((stt4:Nat):Int)=(0:Int)))∧(True))∧(True))→(cz AC v w20.heap.size 0 0 ((fun _ _=>0)) 4),fun v AC=>(((((((((((True)∧(True))∧(True))∧(¬(False)))∧(((stt1:Nat):Int)=(0:Int)))∧(True))∧(((stt2:Nat):Int)=(170:Int)))∧(((stt3:Nat):Int)=(170:Int)))∧(((stt4:Nat):Int)=(0:Int)))∧(True))∧(True))→(v= .bool (decide (True))),_]) rfl rfl (fun e_ w_ AB AA=>⟨fun _=>cX.mono (cX.buildSlice (vs:= [(0,.int .i64 (1)),(1,.int .i64 (2))]) [.int .i64 (0)] [.int .i64 (1),.int .i64 (2)] io oN rfl (dK rfl rfl) rfl (by decide) iP rfl) fun v AD ⟨g,hv,hge,hx,hA⟩=>⟨hx,hv▸lO hA⟩,fun Az=>cX.mono (cX.call jT (cO rfl rfl rfl) (sZ (Az 0 rfl) (by decide) (by decide))) fun v AD hv=>⟨hv.1,cz.low hv.2 AB.size⟩,fun Az=>cX.call pW (aE rfl) (iA _ _ 2 1 (mN (1) (2)) _ 4 B1 (cz.matV (Az 1 rfl)) (by decide) (fun i j _ _=>by simp only [mN];split<;>decide) (fF 2 (by decide)).2.2.2.2.2.2.1 (by decide) (by decide)),fun _=>cX.mono (cX.buildSlice (vs:= [(0,.int .i64 (2)),(1,.int .i64 (-1))]) [.int .i64 (0)] [.int .i64 (2),.int .i64 (-1)] io oN rfl (dK rfl rfl) rfl (by decide) iP rfl) fun v AD ⟨g,hv,hge,hx,hA⟩=>⟨hx,hv▸lO hA⟩,fun Az=>cX.mono (cX.call jT (cO rfl rfl rfl) (fW (Az 3 rfl) (by decide) (by decide))) fun v AD hv=>⟨hv.1,cz.low hv.2 AB.size⟩,fun Az=>cX.call nv (aA rfl rfl) (mr (Az 2 rfl) (cz.matV (Az 4 rfl)) (lU (by decide)) pn),fun Az=>aa (cn.move ((Az 5 rfl))),fun Az=>gT (Az 6 rfl) fun hg=>cX.mono (cX.buildSlice (vs:= [(0,.int .i64 (2)),(1,.int .i64 (4))]) [.int .i64 (0)] [.int .i64 (2),.int .i64 (4)] io oN rfl (dK rfl rfl) rfl (by decide) iP rfl) fun v AD ⟨g,hv,hge,hx,hA⟩=>⟨hx,hv▸lO hA⟩,fun Az=>gT (Az 6 rfl) fun hg=>cX.mono (cX.call jT (cO rfl rfl rfl) (fW (Az 7 rfl hg) (by decide) (by decide))) fun v AD hv=>⟨hv.1,cz.low hv.2 AB.size⟩,fun Az=>gT (Az 6 rfl) fun hg=>cX.call wO (aE rfl) (kG _ _ 1 2 (da (2) (4)) _ 4 B1 (cz.matV (Az 8 rfl hg)) (by decide) (fun i j _ _=>by simp only [da];split<;>decide) (fF 2 (by decide)).2.2.2.2.2.2.1 (by decide) (fF 2 (by decide)).2.2.2.2.2.2.2.1 (fF 2 (by decide)).2.2.2.2.2.2.2.2 (by decide)),fun Az=>gT (Az 6 rfl) fun hg=>aa (ae [.int .i64 ((1:Nat)),.int .i64 ((2:Nat)),.slice (some ⟨gh1,0,none⟩) (1) (kh1)] aM ((AA 1 rfl rfl)) ((aR.ext hA2 AB).cells 0 _ rfl rfl)),fun Az=>gT (Az 6 rfl) fun hg=>cX.call nv (aA rfl ((Az 10 rfl hg))) (ve (Az 9 rfl hg) (cu.matV (cu.ext hM1 AB) (by omega) (by omega)) (lU (by decide)) rt),fun Az=>aa (aB (p:=True) (q:=True) (Az 6 rfl) (fun hq=>(Az 11 rfl hq))),fun Az=>aa (cn.move ((Az 12 rfl))),fun Az=>gT (Az 13 rfl) fun hg=>aa (ae [.int .i64 ((1:Nat)),.int .i64 ((2:Nat)),.slice (some ⟨gh1,0,none⟩) (1) (kh1)] aM ((AA 1 rfl rfl)) ((aR.ext hA2 AB).cells 0 _ rfl rfl)),fun Az=>gT (Az 13 rfl) fun hg=>cX.call wN (aE ((Az 14 rfl hg))) (qs _ _ 1 2 (da (1) (2)) _ 4 B1 (sb:=true) (cu.matV (cu.ext hM1 AB) (by omega) (by omega)) (by decide) (fF 1 (by decide)).2.2.2.2.2.2.1 (by decide) (fun i j _ _=>by simp only [da];split<;>decide) (fF 2 (by decide)).2.2.2.2.2.2.1 (by decide) (fF 2 (by decide)).2.2.2.2.2.2.2.1 (fF 2 (by decide)).2.2.2.2.2.2.2.2 (by decide) (iff_of_true rfl mj)),fun Az=>aa (aB (p:=(True)∧(True)) (q:=True) (Az 13 rfl) (fun hq=>(Az 15 rfl hq))),fun Az=>aa (cn.move ((Az 16 rfl))),fun Az=>gT (Az 17 rfl) fun hg=>cX.mono (cX.buildSlice (vs:= [(0,.int .i64 (2)),(1,.int .i64 (4))]) [.int .i64 (0)] [.int .i64 (2),.int .i64 (4)] io oN rfl (dK rfl rfl) rfl (by decide) iP rfl) fun v AD ⟨g,hv,hge,hx,hA⟩=>⟨hx,hv▸lO hA⟩,fun Az=>gT (Az 17 rfl) fun hg=>cX.mono (cX.call jT (cO rfl rfl rfl) (fW (Az 18 rfl hg) (by decide) (by decide))) fun v AD hv=>⟨hv.1,cz.low hv.2 AB.size⟩,fun Az=>gT (Az 17 rfl) fun hg=>cX.call wN (aE rfl) (qs _ _ 1 2 (da (2) (4)) _ 4 B1 (sb:=false) (cz.matV (Az 19 rfl hg)) (by decide) (fF 1 (by decide)).2.2.2.2.2.2.1 (by decide) (fun i j _ _=>by simp only [da];split<;>decide) (fF 2 (by decide)).2.2.2.2.2.2.1 (by decide) (fF 2 (by decide)).2.2.2.2.2.2.2.1 (fF 2 (by decide)).2.2.2.2.2.2.2.2 (by decide) (iff_of_false (by decide) jn)),fun Az=>gT (Az 17 rfl) fun hg=>aa (cn.not (p:=False) (Az 20 rfl hg)),fun Az=>aa (aB (p:=((True)∧(True))∧(True)) (q:=¬(False)) (Az 17 rfl) (fun hq=>(Az 21 rfl hq))),fun Az=>aa (cn.move ((Az 22 rfl))),fun Az=>gT (Az 23 rfl) fun hg=>aa (cn.move ((AA 3 rfl rfl))),fun Az=>gT (Az 23 rfl) fun hg=>aa (cn.eql ((Az 24 rfl hg)) rfl),fun Az=>aa (aB (p:=(((True)∧(True))∧(True))∧(¬(False))) (q:=((stt1:Nat):Int)=(0:Int)) (Az 23 rfl) (fun hq=>(Az 25 rfl hq))),fun Az=>aa (cn.move ((Az 26 rfl))),fun Az=>gT (Az 27 rfl) fun hg=>aa (ae [.int .i64 ((1:Nat)),.int .i64 ((2:Nat)),.slice (some ⟨gh1,0,none⟩) (1) (kh1)] aM ((AA 1 rfl rfl)) ((aR.ext hA2 AB).cells 0 _ rfl rfl)),fun Az=>gT (Az 27 rfl) fun hg=>aa (ae [.int .i64 ((R1:Nat)),.int .i64 ((C1:Nat)),s1] aM ((AA 2 rfl rfl)) ((aR.ext hA3 AB).cells 0 _ rfl rfl)),fun Az=>gT (Az 27 rfl) fun hg=>cX.call pV (aA ((Az 28 rfl hg)) ((Az 29 rfl hg))) (nK (cu.matV (cu.ext hM1 AB) (by omega) (by omega)) (bf.mk (cE.ext q2 AB) (by omega) (by omega)) (by decide) (fun i j _ _=>by simp only [da];split<;>decide) hHc1 hidc1.1 hidc1.2 hRr1 hCc1 hMc1),fun Az=>aa (aB (p:=((((True)∧(True))∧(True))∧(¬(False)))∧(((stt1:Nat):Int)=(0:Int))) (q:=True) (Az 27 rfl) (fun hq=>(Az 30 rfl hq))),fun Az=>aa (cn.move ((Az 31 rfl))),fun Az=>gT (Az 32 rfl) fun hg=>aa (cn.move ((AA 5 rfl rfl))),fun Az=>gT (Az 32 rfl) fun hg=>aa (cn.eql ((Az 33 rfl hg)) rfl),fun Az=>aa (aB (p:=(((((True)∧(True))∧(True))∧(¬(False)))∧(((stt1:Nat):Int)=(0:Int)))∧(True)) (q:=((stt2:Nat):Int)=(170:Int)) (Az 32 rfl) (fun hq=>(Az 34 rfl hq))),fun Az=>aa (cn.move ((Az 35 rfl))),fun Az=>gT (Az 36 rfl) fun hg=>aa (cn.move ((AA 7 rfl rfl))),fun Az=>gT (Az 36 rfl) fun hg=>aa (cn.eql ((Az 37 rfl hg)) rfl),fun Az=>aa (aB (p:=((((((True)∧(True))∧(True))∧(¬(False)))∧(((stt1:Nat):Int)=(0:Int)))∧(True))∧(((stt2:Nat):Int)=(170:Int))) (q:=((stt3:Nat):Int)=(170:Int)) (Az 36 rfl) (fun hq=>(Az 38 rfl hq))),fun Az=>aa (cn.move ((Az 39 rfl))),fun Az=>gT (Az 40 rfl) fun hg=>aa (cn.move ((AA 9 rfl rfl))),fun Az=>gT (Az 40 rfl) fun hg=>aa (cn.eql ((Az 41 rfl hg)) rfl),fun Az=>aa (aB (p:=(((((((True)∧(True))∧(True))∧(¬(False)))∧(((stt1:Nat):Int)=(0:Int)))∧(True))∧(((stt2:Nat):Int)=(170:Int)))∧(((stt3:Nat):Int)=(170:Int))) (q:=((stt4:Nat):Int)=(0:Int)) (Az 40 rfl) (fun hq=>(Az 42 rfl hq))),fun Az=>aa (cn.move ((Az 43 rfl))),fun Az=>gT (Az 44 rfl) fun hg=>aa (cn.build (vs:= [(1,.int .i64 (2))]) [(0,1),(1,1),(2,1)] fU bo (eN rfl) rfl),fun Az=>gT (Az 44 rfl) fun hg=>aa (ae [.int .i64 ((R4:Nat)),.int .i64 ((C4:Nat)),s4] aM ((AA 8 rfl rfl)) ((aR.ext hA8 AB).cells 0 _ rfl rfl)),fun Az=>gT (Az 44 rfl) fun hg=>cX.call pV (aA ((Az 45 rfl hg)) ((Az 46 rfl hg))) (nK (mv _ 2 (by decide)) (bf.mk (cE.ext q7 AB) (by omega) (by omega)) (by decide) (fun i j hi hj=>by first | exact absurd hi (Nat.not_lt_zero _) | exact absurd hj (Nat.not_lt_zero _)) hHc4 hidc4.1 hidc4.2 hRr4 hCc4 hMc4),fun Az=>aa (aB (p:=((((((((True)∧(True))∧(True))∧(¬(False)))∧(((stt1:Nat):Int)=(0:Int)))∧(True))∧(((stt2:Nat):Int)=(170:Int)))∧(((stt3:Nat):Int)=(170:Int)))∧(((stt4:Nat):Int)=(0:Int))) (q:=True) (Az 44 rfl) (fun hq=>(Az 47 rfl hq))),fun Az=>aa (cn.move ((Az 48 rfl))),fun Az=>gT (Az 49 rfl) fun hg=>cX.mono (cX.call jU (aA rfl rfl) (kd _ 2 0 4 (by omega) (by omega) (by omega))) fun v AD hv=>⟨hv.1,cz.low hv.2 AB.size⟩,fun Az=>gT (Az 49 rfl) fun hg=>cX.call pW (aE rfl) (iA _ _ 2 0 (fun _ _=>0) _ 4 B1 (cz.matV (Az 50 rfl hg)) (by decide) (fun i j hi hj=>by first | exact absurd hi (Nat.not_lt_zero _) | exact absurd hj (Nat.not_lt_zero _)) (fF 2 (by decide)).2.2.2.2.2.2.1 (by decide) (by decide)),fun Az=>gT (Az 49 rfl) fun hg=>cX.mono (cX.call nt (aE rfl) (eM _ 2 (by omega))) fun v AD hv=>⟨hv.1,cz.low hv.2 AB.size⟩,fun Az=>gT (Az 49 rfl) fun hg=>cX.call nv (aA rfl rfl) (mr (Az 51 rfl hg) (cz.matV (Az 52 rfl hg)) (mL 2) (pm _)),fun Az=>aa (aB (p:=(((((((((True)∧(True))∧(True))∧(¬(False)))∧(((stt1:Nat):Int)=(0:Int)))∧(True))∧(((stt2:Nat):Int)=(170:Int)))∧(((stt3:Nat):Int)=(170:Int)))∧(((stt4:Nat):Int)=(0:Int)))∧(True)) (q:=True) (Az 49 rfl) (fun hq=>(Az 53 rfl hq))),fun Az=>aa (cn.move ((Az 54 rfl))),fun Az=>gT (Az 55 rfl) fun hg=>aa (cn.build (vs:= [(1,.int .i64 (3))]) [(0,1),(1,1),(2,1)] fU bo (eN rfl) rfl),fun Az=>gT (Az 55 rfl) fun hg=>cX.call pW (aE (Az 56 rfl hg)) (iA _ _ 0 3 (fun _ _=>0) _ 4 B1 (mv _ 3 (by decide)) (by decide) (fun i j hi hj=>by first | exact absurd hi (Nat.not_lt_zero _) | exact absurd hj (Nat.not_lt_zero _)) (fF 0 (by decide)).2.2.2.2.2.2.1 (by decide) (by decide)),fun Az=>gT (Az 55 rfl) fun hg=>cX.mono (cX.call jU (aA rfl rfl) (kd _ 0 0 4 (by omega) (by omega) (by omega))) fun v AD hv=>⟨hv.1,cz.low hv.2 AB.size⟩,fun Az=>gT (Az 55 rfl) fun hg=>cX.call nv (aA rfl rfl) (mr (Az 57 rfl hg) (cz.matV (Az 58 rfl hg)) (ye 0 _) (po _ _)),fun Az=>aa (aB (p:=((((((((((True)∧(True))∧(True))∧(¬(False)))∧(((stt1:Nat):Int)=(0:Int)))∧(True))∧(((stt2:Nat):Int)=(170:Int)))∧(((stt3:Nat):Int)=(170:Int)))∧(((stt4:Nat):Int)=(0:Int)))∧(True))∧(True)) (q:=True) (Az 55 rfl) (fun hq=>(Az 59 rfl hq))),trivial⟩) ?_;intro e1 w21 hx16 ho1 hf1;replace hX:=aG.trans hX hx16;have s94_e1:e1 94=_:=hf1 60 rfl;refine RL.p rfl rfl (cn.assign s94_e1) ?_;refine RL.nil ?_;refine WP.ret ?_;refine ⟨.bool (decide ((((((((((((True)∧(True))∧(True))∧(¬(False)))∧(((stt1:Nat):Int)=(0:Int)))∧(True))∧(((stt2:Nat):Int)=(170:Int)))∧(((stt3:Nat):Int)=(170:Int)))∧(((stt4:Nat):Int)=(0:Int)))∧(True))∧(True))∧(True))),zP.one (fN.tmp rfl),_,rfl,hX,?_⟩;dsimp only;exact congrArg _ (decide_eq_true ⟨⟨⟨⟨⟨⟨⟨⟨⟨⟨⟨trivial,trivial⟩,trivial⟩,id⟩,by omega⟩,trivial⟩,by omega⟩,by omega⟩,by omega⟩,trivial⟩,trivial⟩,trivial⟩)
end Go.TL
namespace Go.TL
open Go.RowKit
set_option linter.unusedVariables false
def At (w:World) (v:Value) (B n:Nat) (z:Nat→Int) (b:Nat):Prop:=∃g k,v= .slice (some ⟨g,0,none⟩) n k∧n≤k∧k<9223372036854775808∧B≤g∧cK w g n z b
theorem At.rowV {w:World} {v:Value} {B n b:Nat} {z:Nat→Int} (h:At w v B n z b) (hn:n≤65536):cV w v n z b:=by
  obtain ⟨g,k,rfl,h1,h2,_,h3⟩:=h;exact h3.rowV h1 ⟨h2,hn⟩
end Go.TL
namespace Go.TL
set_option linter.unusedVariables false
theorem qU {r c n k:Nat} {M0:Nat→Nat→Int} {S:WS} (hl:Lin r c M0 S) {a:Nat→Int} (hk:k + n≤r) (h:∀j,j<r→aq n (fun x=>a x*S.U (k + x) j)=0) {y:Nat} (hy:y<n):a y=0:=by
  have e1:=cB n r a (fun i=>S.U (k + i)) S.V (k + y);rw [bX (f:=fun x=>aq n (fun i=>a i*S.U (k + i) x)*S.V x (k + y)) fun x hx=>by rw [h x hx,Int.zero_mul]] at e1;have e2:aq n (fun i=>a i*ci r (fun i=>S.U (k + i)) S.V i (k + y))=aq n (fun i=>a i*bH (k + i) (k + y)):=an fun i hi=>by
    have:=hl.uv (k + i) (k + y) (by omega) (by omega);rw [←this];rfl
  rw [e2,cf hy fun x _ hne=>by simp [bH,hne]] at e1
  simpa [bH] using e1
theorem jz {k c:Nat} {M:Nat→Nat→Int} {v:Nat→Int} (h:er k c M v):oy k c M v:=by
  obtain ⟨a,ha⟩:=h;intro u hu;rw [an (g:=fun j=>aq k (fun i=>a i*M i j)*u j) fun j hj=>by rw [ha j hj]];rw [←cB k c a M (fun j _=>u j) 0];refine bX fun i hi=> ?_
  have:ci c M (fun j _=>u j) i 0=0:=by
    rw [←hu i hi];exact an fun j _=>Int.mul_comm _ _
  rw [this,Int.mul_zero]
theorem fP.satQ {r c e0 k:Nat} {M0 M:Nat→Nat→Int} (h:fP r c e0 M0 k M):kP k r M:=by
  obtain ⟨_,hl⟩:=h.lat;intro v;refine ⟨jz,fun hs=>(hl v).2 fun j hj=> ?_⟩;exact hs (fun i=>M0 i j) fun i hi=>by
    have:=(hl (M i)).1 (er.row hi) j hj;rw [←this];exact an fun x _=>Int.mul_comm _ _
end Go.TL
