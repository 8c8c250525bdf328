/-
  Lemmas towards the theorem of this claim (part 10).
  Conditions: those that each theorem names.
-/
import Derived.Test.YtgkokhkpdlekcaaGreatK9
namespace Go.TL
set_option linter.unusedVariables false
theorem eu0 {x y:Int} (h0:y≠0):(1 + (x/y).natAbs)*((x % y).natAbs + 1)≤x.natAbs + 1 + 2*(x % y).natAbs:=by
  have h1:=Int.emod_nonneg x h0;have h2:=Int.emod_lt x h0;have h3:=Int.mul_ediv_add_emod x y;have h4:(y*(x/y)).natAbs≤x.natAbs + (x % y).natAbs:=by omega
  rw [Int.natAbs_mul] at h4;have h5:(x/y).natAbs*((x % y).natAbs + 1)≤(x/y).natAbs*y.natAbs:=Nat.mul_le_mul_left _ (by omega);rw [Nat.mul_comm (x/y).natAbs y.natAbs] at h5;rw [Nat.add_mul,Nat.one_mul];omega
theorem eu1 {x y:Int} {E:Nat} (hx:x.natAbs≤E) (hy:y.natAbs≤E) (h0:y≠0):(1 + (x/y).natAbs)*((y.natAbs + 1)*((x % y).natAbs + 1))≤(E + 1)*(3*E + 1):=by
  have h1:=eu0 (x:=x) h0;have h2:=Int.emod_nonneg x h0;have h3:=Int.emod_lt x h0;rw [Nat.mul_left_comm];exact Nat.mul_le_mul (by omega) (by omega)
theorem eu2 {x y:Int} {s C:Nat} (h0:y≠0) (hy:0≤y) (hyx:y<(x.natAbs:Int)) (hs:s*((x.natAbs + 1)*(y.natAbs + 1))≤C):s*(1 + (x/y).natAbs)*((y.natAbs + 1)*((x % y).natAbs + 1))≤3*C:=by
  have h1:=eu0 (x:=x) h0;have h2:=Int.emod_nonneg x h0;have h3:=Int.emod_lt x h0;have h4:(1 + (x/y).natAbs)*((x % y).natAbs + 1)≤3*(x.natAbs + 1):=by omega
  have e1:s*(1 + (x/y).natAbs)*((y.natAbs + 1)*((x % y).natAbs + 1))=s*(y.natAbs + 1)*((1 + (x/y).natAbs)*((x % y).natAbs + 1)):=by ac_rfl
  rw [e1];refine Nat.le_trans (Nat.mul_le_mul_left _ h4) ?_;have e2:s*(y.natAbs + 1)*(3*(x.natAbs + 1))=3*(s*((x.natAbs + 1)*(y.natAbs + 1))):=by ac_rfl
  rw [e2];exact Nat.mul_le_mul_left _ hs
theorem eu3 {x y:Int} {s C:Nat} (hx:0≤x) (h0:0<y) (hs:s*((x.natAbs + 1)*(y.natAbs + 1))≤C):s*(1 + (x/y).natAbs)*((y.natAbs + 1)*((x % y).natAbs + 1))≤C:=by
  have h2:=Int.emod_nonneg x (show y≠0 by omega);have h3:=Int.emod_lt x (show y≠0 by omega);have h4:=Int.mul_ediv_add_emod x y;have h5:0≤x/y:=Int.ediv_nonneg hx (by omega);have h6:(y*(x/y)).natAbs + (x % y).natAbs=x.natAbs:=by
    have:0≤y*(x/y):=Int.mul_nonneg (by omega) h5;omega
  rw [Int.natAbs_mul] at h6;have h7:(x/y).natAbs*((x % y).natAbs + 1)≤(x/y).natAbs*y.natAbs:=Nat.mul_le_mul_left _ (by omega);rw [Nat.mul_comm (x/y).natAbs y.natAbs] at h7;have h8:(1 + (x/y).natAbs)*((x % y).natAbs + 1)≤x.natAbs + 1:=by rw [Nat.add_mul,Nat.one_mul];omega
  have e1:s*(1 + (x/y).natAbs)*((y.natAbs + 1)*((x % y).natAbs + 1))=s*(y.natAbs + 1)*((1 + (x/y).natAbs)*((x % y).natAbs + 1)):=by ac_rfl
  rw [e1];refine Nat.le_trans (Nat.mul_le_mul_left _ h8) ?_;have e2:s*(y.natAbs + 1)*(x.natAbs + 1)=s*((x.natAbs + 1)*(y.natAbs + 1)):=by ac_rfl
  rw [e2];exact hs
section
variable {r c:Nat} {S:WS} {EM EU EV K:Nat}
theorem tK {i j:Nat} {k:Int} (hi:i<r) (hj:j<r) (hk:k.natAbs≤K) (hM:∀i j,i<r→j<c→(S.M i j).natAbs≤EM) (hU:∀i j,i<r→j<r→(S.U i j).natAbs≤EU) (hV:∀i j,i<r→j<r→(S.V i j).natAbs≤EV):
    (∀a b,a<r→b<c→((cJ S i j k).M a b).natAbs≤EM*(1 + K))∧(∀a b,a<r→b<r→((cJ S i j k).U a b).natAbs≤EU*(1 + K))∧∀a b,a<r→b<r→((cJ S i j k).V a b).natAbs≤EV*(1 + K):=by
  have hle:∀E L:Nat,E≤E*(1 + L):=fun E L=>by rw [Nat.mul_add,Nat.mul_one];omega
  refine ⟨fun a b ha hb=> ?_,fun a b ha hb=> ?_,fun a b ha hb=> ?_⟩
  · simp only [cJ,cd];split
    · exact fP (hM _ _ hi hb) (hM _ _ hj hb) hk
    · exact Nat.le_trans (hM _ _ ha hb) (hle _ _)
  · simp only [cJ,cd];split
    · exact fP (hU _ _ hi hb) (hU _ _ hj hb) hk
    · exact Nat.le_trans (hU _ _ ha hb) (hle _ _)
  · simp only [cJ,cP];split
    · have:=fP (k:= -k) (hV a j ha hj) (hV a i ha hi) (by rw [Int.natAbs_neg];exact hk)
      rw [Int.neg_mul] at this;rw [Int.sub_eq_add_neg];exact this
    · exact Nat.le_trans (hV _ _ ha hb) (hle _ _)
theorem na {i j:Nat} (hi:i<r) (hj:j<r) (hM:∀i j,i<r→j<c→(S.M i j).natAbs≤EM) (hU:∀i j,i<r→j<r→(S.U i j).natAbs≤EU) (hV:∀i j,i<r→j<r→(S.V i j).natAbs≤EV):
    (∀a b,a<r→b<c→((bA S i j).M a b).natAbs≤EM)∧(∀a b,a<r→b<r→((bA S i j).U a b).natAbs≤EU)∧∀a b,a<r→b<r→((bA S i j).V a b).natAbs≤EV:=by
  refine ⟨fun a b ha hb=> ?_,fun a b ha hb=> ?_,fun a b ha hb=> ?_⟩
  · simp only [bA,cm];split
    · exact hM _ _ hj hb
    · split
      · exact hM _ _ hi hb
      · exact hM _ _ ha hb
  · simp only [bA,cm];split
    · exact hU _ _ hj hb
    · split
      · exact hU _ _ hi hb
      · exact hU _ _ ha hb
  · simp only [bA,cn];split
    · exact hV _ _ ha hj
    · split
      · exact hV _ _ ha hi
      · exact hV _ _ ha hb
end
def eR (e0 r:Nat):Nat→Nat
  | 0=>e0
  | t + 1=>eR e0 r t + (2*eR e0 r t + 6)*(r - t - 1) + eR e0 r t + 1
def gR (e0 r:Nat):Nat→Nat
  | 0=>0
  | t + 1=>gR e0 r t + (2*eR e0 r t + 6)*(r - t - 1) + eR e0 r t + 3
structure FR (r c e0:Nat) (M0:Nat→Nat→Int) (top q:Nat) (S:WS):Prop where
  lin:Lin r c M0 S
  ech:io r top q S.M
  bm:∀i j,i<r→j<c→(S.M i j).natAbs≤2^eR e0 r top
  bu:∀i j,i<r→j<r→(S.U i j).natAbs≤2^eR e0 r top
  bv:∀i j,i<r→j<r→(S.V i j).natAbs≤2^gR e0 r top
structure JR (r c e0:Nat) (M0:Nat→Nat→Int) (top q i:Nat) (S:WS):Prop where
  lin:Lin r c M0 S
  ech:io r top q S.M
  col:∀k,k≤top∨i≤k→k<r→(S.M k q).natAbs≤2^eR e0 r top
  zer:∀k,top<k→k<i→S.M k q=0
  nul:S.M top q=0→(∀i j,i<r→j<c→(S.M i j).natAbs≤2^eR e0 r top)∧(∀i j,i<r→j<r→(S.U i j).natAbs≤2^eR e0 r top)∧∀i j,i<r→j<r→(S.V i j).natAbs≤2^gR e0 r top
  run:∃s:Nat,(∀a j,a<r→j<c→(S.M a j).natAbs≤2^eR e0 r top*(2^(2*eR e0 r top + 6))^(i - top - 1)*s)∧(∀a j,a<r→j<r→(S.U a j).natAbs≤2^eR e0 r top*(2^(2*eR e0 r top + 6))^(i - top - 1)*s)∧
    (∀a j,a<r→j<r→(S.V a j).natAbs≤2^gR e0 r top*(2^(2*eR e0 r top + 6))^(i - top - 1)*s)∧(i<r→s=1∨
      (0≤S.M i q∧S.M i q<((S.M top q).natAbs:Int)∧s*(((S.M top q).natAbs + 1)*((S.M i q).natAbs + 1))≤(2^eR e0 r top + 1)*(3*2^eR e0 r top + 1))∨
      (0≤S.M i q∧S.M i q<S.M top q∧s*(((S.M top q).natAbs + 1)*((S.M i q).natAbs + 1))≤3*((2^eR e0 r top + 1)*(3*2^eR e0 r top + 1))))∧(r≤i→s=1)
section
variable {r c e0:Nat} {M0:Nat→Nat→Int} {top q i:Nat} {S:WS}
theorem vW (e:Nat):3*((2^e + 1)*(3*2^e + 1))≤2^(2*e + 6):=by
  have h0:0<2^e:=Nat.two_pow_pos e;have h2:2^(2*e + 6)=(2^e*2^e)*64:=by rw [Nat.pow_add,Nat.two_mul,Nat.pow_add]
  rw [h2]
  generalize 2^e=x at*
  have h3:(x + 1)*(3*x + 1)≤(2*x)*(4*x):=Nat.mul_le_mul (by omega) (by omega);have h4:(2*x)*(4*x)=8*(x*x):=by rw [Nat.mul_mul_mul_comm]
  omega
theorem iH (e0 r:Nat):∀{s t:Nat},s≤t→eR e0 r s≤eR e0 r t
  | s,0,h=>by rw [show s=0 by omega];exact Nat.le_refl _
  | s,t + 1,h=>by
    by_cases e:s=t + 1
    · rw [e];exact Nat.le_refl _
    · have:=iH e0 r (s:=s) (t:=t) (by omega);simp only [eR];omega
theorem jN (e0 r:Nat):∀{s t:Nat},s≤t→gR e0 r s≤gR e0 r t
  | s,0,h=>by rw [show s=0 by omega];exact Nat.le_refl _
  | s,t + 1,h=>by
    by_cases e:s=t + 1
    · rw [e];exact Nat.le_refl _
    · have:=jN e0 r (s:=s) (t:=t) (by omega);simp only [gR];omega
theorem FR.start (hM:∀i j,i<r→j<c→(M0 i j).natAbs≤2^e0):FR r c e0 M0 0 0 ⟨M0,bI,bI⟩:=by
  have hid:∀(e i j:Nat),(bI i j).natAbs≤2^e:=fun e i j=>by
    have:=Nat.two_pow_pos e
    unfold bI;split<;>simp<;>omega
  exact ⟨Lin.start M0,⟨fun _=>0,fun i hi=>by omega,fun a _ _ j hj=>by omega⟩,hM,fun i j _ _=>hid _ i j,fun i j _ _=>hid _ i j⟩
theorem JR.of (h:FR r c e0 M0 top q S) (ht:top<r) (hq:q<c):JR r c e0 M0 top q (top + 1) S:=by
  have e1:∀x:Nat,x*(2^(2*eR e0 r top + 6))^(top + 1 - top - 1)*1=x:=fun x=>by rw [show top + 1 - top - 1=0 by omega,Nat.pow_zero,Nat.mul_one,Nat.mul_one]
  exact ⟨h.lin,h.ech,fun k _ hk=>h.bm k q hk hq,fun k h1 h2=>by omega,fun _=>⟨h.bm,h.bu,h.bv⟩,1,fun a j ha hj=>by rw [e1];exact h.bm a j ha hj,fun a j ha hj=>by rw [e1];exact h.bu a j ha hj,fun a j ha hj=>by rw [e1];exact h.bv a j ha hj,fun _=> .inl rfl,fun _=>rfl⟩
theorem io.of {M M':Nat→Nat→Int} (h:io r top q M) (h1:∀a,a<top→∀j,M' a j=M a j) (h2:∀a,top≤a→a<r→∀j,j<q→M' a j=0):io r top q M':=by
  obtain ⟨P,g1,g2⟩:=h;refine ⟨P,fun i hi=> ?_,h2⟩;obtain ⟨k1,k2,k3,k4⟩:=g1 i hi;refine ⟨k1,by rw [h1 i hi];exact k2,fun j hj=>by rw [h1 i hi];exact k3 j hj,fun k hk=> ?_⟩;rw [h1 i hi,h1 k (by omega)];exact k4 k hk
theorem qe {a j:Nat} (hne:top≠i):(kR S top i q).M a j=if a=top then S.M i j else if a=i then S.M top j + -(S.M top q/S.M i q)*S.M i j else S.M a j:=by
  unfold kR bA cJ cm cd
  by_cases e1:a=top
  · subst e1;simp only [if_true,if_neg (Ne.symm hne)]
  · by_cases e2:a=i
    · subst e2;simp only [if_neg e1,if_true]
    · simp only [if_neg e1,if_neg e2]
theorem JR.zero (h:JR r c e0 M0 top q i S) (ht:top<i) (hi:i<r) (hz:S.M i q=0):JR r c e0 M0 top q (i + 1) S:=by
  obtain ⟨s,hM,hU,hV,hc,_⟩:=h.run;have hs:s≤2^(2*eR e0 r top + 6):=by
    have h0:=vW (eR e0 r top);have h1:1≤2^(2*eR e0 r top + 6):=Nat.two_pow_pos _;have h2:s≤s*(((S.M top q).natAbs + 1)*((S.M i q).natAbs + 1)):=Nat.le_mul_of_pos_right _ (Nat.mul_pos (by omega) (by omega));rcases hc hi with h3 | h3 | h3
    · omega
    · omega
    · omega
  have e1:∀x:Nat,x*(2^(2*eR e0 r top + 6))^(i - top - 1)*s≤x*(2^(2*eR e0 r top + 6))^(i + 1 - top - 1)*1:=fun x=>by
    clear hM hU hV
    generalize 2^(2*eR e0 r top + 6)=A at hs⊢
    rw [show i + 1 - top - 1=(i - top - 1) + 1 by omega,Nat.pow_succ,Nat.mul_one,←Nat.mul_assoc];exact Nat.mul_le_mul_left _ hs
  refine ⟨h.lin,h.ech,fun k hk hr=>h.col k (by omega) hr,fun k h1 h2=> ?_,h.nul,1,fun a j ha hj=>Nat.le_trans (hM a j ha hj) (e1 _),fun a j ha hj=>Nat.le_trans (hU a j ha hj) (e1 _),fun a j ha hj=>Nat.le_trans (hV a j ha hj) (e1 _),fun _=> .inl rfl,fun _=>rfl⟩
  by_cases e:k=i
  · subst e;exact hz
  · exact h.zer k h1 (by omega)
theorem JR.swap (h:JR r c e0 M0 top q i S) (ht:top<i) (hi:i<r) (hz:S.M i q≠0) (h0:S.M top q=0):JR r c e0 M0 top q i (bA S top i):=by
  obtain ⟨s,hM,hU,hV,hc,_⟩:=h.run;have hs:s=1:=by
    rcases hc hi with h3 | h3 | h3
    · exact h3
    · omega
    · omega
  have hrow:∀a j,(bA S top i).M a j=if a=top then S.M i j else if a=i then S.M top j else S.M a j:=fun a j=>by
    simp only [bA,cm];split
    · rfl
    · split<;>rfl
  obtain ⟨b1,b2,b3⟩:=na (show top<r by omega) hi hM hU hV;obtain ⟨P,p1,p2⟩:=id h.ech;refine ⟨h.lin.swap (by omega) hi,h.ech.of (fun a ha j=>by rw [hrow,if_neg (by omega),if_neg (by omega)]) (fun a ha har j hj=> ?_),fun k hk hr=> ?_,fun k h1 h2=>by rw [hrow,if_neg (by omega),if_neg (by omega)];exact h.zer k h1 h2,fun hx=>absurd hx (by rw [hrow,if_pos rfl];exact hz),s,b1,b2,b3,fun _=> .inl hs,fun hri=>hs⟩
  · rw [hrow];split
    · exact p2 i (by omega) hi j hj
    · split
      · exact p2 top (Nat.le_refl _) (by omega) j hj
      · exact p2 a ha har j hj
  · rw [hrow];split
    · exact h.col i (.inr (Nat.le_refl _)) hi
    · split
      · exact h.col top (.inl (Nat.le_refl _)) (by omega)
      · exact h.col k hk hr
theorem JR.step (h:JR r c e0 M0 top q i S) (ht:top<i) (hi:i<r) (hz:S.M i q≠0) (h0:S.M top q≠0):JR r c e0 M0 top q i (kR S top i q)∧
    ∃s,s≤2^(2*eR e0 r top + 6)∧(∀a j,a<r→j<c→((cJ S top i (-(S.M top q/S.M i q))).M a j).natAbs≤2^eR e0 r top*(2^(2*eR e0 r top + 6))^(i - top - 1)*s)∧
      (∀a j,a<r→j<r→((cJ S top i (-(S.M top q/S.M i q))).U a j).natAbs≤2^eR e0 r top*(2^(2*eR e0 r top + 6))^(i - top - 1)*s)∧
      ∀a j,a<r→j<r→((cJ S top i (-(S.M top q/S.M i q))).V a j).natAbs≤2^gR e0 r top*(2^(2*eR e0 r top + 6))^(i - top - 1)*s:=by
  obtain ⟨s,hM,hU,hV,hc,_⟩:=h.run;have htr:top<r:=by omega
  have hne:top≠i:=by omega
  obtain ⟨c1,c2,c3⟩:=tK (k:= -(S.M top q/S.M i q)) (K:=(S.M top q/S.M i q).natAbs) htr hi (by rw [Int.natAbs_neg];exact Nat.le_refl _) hM hU hV;simp only [Nat.mul_assoc _ s] at c1 c2 c3;obtain ⟨b1,b2,b3⟩:=na htr hi c1 c2 c3;have x1:(kR S top i q).M top q=S.M i q:=uN hne;have x2:(kR S top i q).M i q=S.M top q % S.M i q:=vX hne;have m1:=Int.emod_nonneg (S.M top q) hz;have m2:=Int.emod_lt (S.M top q) hz;have hct:=h.col top (.inl (Nat.le_refl _)) htr;have hci:=h.col i (.inr (Nat.le_refl _)) hi;have hst:(0≤(kR S top i q).M i q∧(kR S top i q).M i q<(((kR S top i q).M top q).natAbs:Int)∧s*(1 + (S.M top q/S.M i q).natAbs)*((((kR S top i q).M top q).natAbs + 1)*(((kR S top i q).M i q).natAbs + 1))≤(2^eR e0 r top + 1)*(3*2^eR e0 r top + 1))∨
      (0≤(kR S top i q).M i q∧(kR S top i q).M i q<(kR S top i q).M top q∧s*(1 + (S.M top q/S.M i q).natAbs)*((((kR S top i q).M top q).natAbs + 1)*(((kR S top i q).M i q).natAbs + 1))≤3*((2^eR e0 r top + 1)*(3*2^eR e0 r top + 1))):=by
    rw [x1,x2];rcases hc hi with h3 | h3 | h3
    · left
      refine ⟨m1,by omega,?_⟩;rw [h3,Nat.one_mul];exact eu1 hct hci hz
    · right
      exact ⟨m1,by omega,eu2 hz h3.1 h3.2.1 h3.2.2⟩
    · right
      exact ⟨m1,by omega,eu3 (by omega) (by omega) h3.2.2⟩
  have hsb:s*(1 + (S.M top q/S.M i q).natAbs)≤2^(2*eR e0 r top + 6):=by
    have g0:=vW (eR e0 r top);have g2:s*(1 + (S.M top q/S.M i q).natAbs)≤s*(1 + (S.M top q/S.M i q).natAbs)*((((kR S top i q).M top q).natAbs + 1)*(((kR S top i q).M i q).natAbs + 1)):=Nat.le_mul_of_pos_right _ (Nat.mul_pos (by omega) (by omega));rcases hst with h3 | h3<;>omega
  obtain ⟨P,p1,p2⟩:=id h.ech;refine ⟨⟨(h.lin.add _ htr hi hne).swap htr hi,h.ech.of (fun a ha j=>by rw [qe hne,if_neg (by omega),if_neg (by omega)]) (fun a ha har j hj=> ?_),fun k hk hr=> ?_,fun k h1 h2=>by rw [qe hne,if_neg (by omega),if_neg (by omega)];exact h.zer k h1 h2,fun hx=>absurd hx (by rw [x1];exact hz),_,b1,b2,b3,fun _=> .inr hst,fun hri=>by omega⟩,_,hsb,c1,c2,c3⟩
  · rw [qe hne];split
    · exact p2 i (by omega) hi j hj
    · split
      · rw [p2 top (Nat.le_refl _) htr j hj,p2 i (by omega) hi j hj,Int.mul_zero];rfl
      · exact p2 a ha har j hj
  · by_cases e1:k=top
    · subst e1;rw [x1];exact hci
    · by_cases e2:k=i
      · subst e2;rw [x2];omega
      · rw [qe hne,if_neg e1,if_neg e2];exact h.col k hk hr
theorem JR.none (h:JR r c e0 M0 top q r S) (ht:top<r) (hz:S.M top q=0):FR r c e0 M0 top (q + 1) S:=by
  obtain ⟨hM,hU,hV⟩:=h.nul hz;refine ⟨h.lin,?_,hM,hU,hV⟩;obtain ⟨P,h1,h2⟩:=h.ech;refine ⟨P,fun i hi=> ?_,fun a ha har j hj=> ?_⟩
  · obtain ⟨g1,g2⟩:=h1 i hi;exact ⟨by omega,g2⟩
  · by_cases e:j=q
    · subst e
      by_cases e2:a=top
      · subst e2;exact hz
      · exact h.zer a (by omega) har
    · exact h2 a ha har j (by omega)
theorem yp (e n:Nat):2^e*(2^(2*e + 6))^n*(1 + 2^e)≤2^(e + (2*e + 6)*n + e + 1):=by
  have h0:0<2^e:=Nat.two_pow_pos e;rw [Nat.pow_add 2 (e + (2*e + 6)*n + e) 1,Nat.pow_add 2 (e + (2*e + 6)*n) e,Nat.pow_add 2 e,Nat.pow_mul,Nat.mul_assoc (2^e*(2^(2*e + 6))^n)];exact Nat.mul_le_mul_left _ (by omega)
theorem yX (g e n:Nat):2^g*(2^(2*e + 6))^n*(1 + 7*2^e)≤2^(g + (2*e + 6)*n + e + 3):=by
  have h0:0<2^e:=Nat.two_pow_pos e;rw [Nat.pow_add 2 (g + (2*e + 6)*n + e) 3,Nat.pow_add 2 (g + (2*e + 6)*n) e,Nat.pow_add 2 g,Nat.pow_mul,Nat.mul_assoc (2^g*(2^(2*e + 6))^n)];exact Nat.mul_le_mul_left _ (by omega)
theorem JR.pivot (h:JR r c e0 M0 top q r S) (ht:top<r) (hq:q<c) (h8:r≤8) (hp:S.M top q≠0):
    (∀n,n≤top→(∀i j,i<r→j<c→((ra (sg S top q) top q n).M i j).natAbs≤2^eR e0 r (top + 1))∧
        (∀i j,i<r→j<r→((ra (sg S top q) top q n).U i j).natAbs≤2^eR e0 r (top + 1))∧
        ∀i j,i<r→j<r→((ra (sg S top q) top q n).V i j).natAbs≤2^gR e0 r (top + 1))∧
      FR r c e0 M0 (top + 1) (q + 1) (ra (sg S top q) top q top):=by
  rw [←vR];have hE0:0<2^eR e0 r top:=Nat.two_pow_pos _;obtain ⟨s,hM,hU,hV,_,hs⟩:=h.run;rw [hs (Nat.le_refl _)] at hM hU hV;simp only [Nat.mul_one] at hM hU hV;have htop:=iW S top top q;obtain ⟨hM2,hU2,hV2⟩:=rH (q:=q) ht ht hM hU hV;have hlin:=h.lin.sn q ht ht;have hech:=h.ech.sn (q:=q) ht (Nat.le_refl _) ht;have hcol:∀i,i≠top→(sn S top top q).M i q=S.M i q:=fun i hi=>by rw [(qt S top top q i q).1 hi,if_neg hi]
  have hab:∀i,i<top→((sn S top top q).M i q).natAbs≤2^eR e0 r top:=fun i hi=>by rw [hcol i (by omega)];exact h.col i (.inl (by omega)) (by omega)
  have hbelow:∀i,top<i→i<r→(sn S top top q).M i q=0:=fun i hi hir=>by
    rw [hcol i (by omega)];exact h.zer i hi hir
  generalize sn S top top q=S2 at*
  generalize hy:(S.M top q).natAbs=y at*
  have hy0:0<y:=by omega
  have hK:∀i,i<top→(kq S2 top q i).natAbs≤2^eR e0 r top:=fun i hi=>by
    unfold kq;rw [htop]
    exact Nat.le_trans (mG (by omega)) (hab i hi)
  have hbd:=fun n (hn:n≤top)=>vT (n:=n) ht hn (by omega) hK hM2 hU2 hV2
  have hfin:∀n,n≤top→(∀i j,i<r→j<c→((ra S2 top q n).M i j).natAbs≤2^eR e0 r (top + 1))∧(∀i j,i<r→j<r→((ra S2 top q n).U i j).natAbs≤2^eR e0 r (top + 1))∧
      ∀i j,i<r→j<r→((ra S2 top q n).V i j).natAbs≤2^gR e0 r (top + 1):=fun n hn=>by
    refine ⟨fun i j hi hj=> ?_,fun i j hi hj=> ?_,fun i j hi hj=> ?_⟩
    · exact Nat.le_trans ((hbd n hn).1 i j hi hj) (yp _ _)
    · exact Nat.le_trans ((hbd n hn).2.1 i j hi hj) (yp _ _)
    · exact Nat.le_trans ((hbd n hn).2.2 i j hi hj) (yX _ _ _)
  refine ⟨hfin,hlin.ra q ht top (Nat.le_refl _),?_,(hfin top (Nat.le_refl _)).1,(hfin top (Nat.le_refl _)).2.1,(hfin top (Nat.le_refl _)).2.2⟩;obtain ⟨P,h1,h2⟩:=hech;have hrow:∀i,i<top→∀j,j<q→(ra S2 top q top).M i j=S2.M i j:=fun i hi j hj=>by
    rw [li _ _ _ _ _ _ (Nat.le_refl _),if_pos hi,h2 top (Nat.le_refl _) ht j hj,Int.mul_zero,Int.add_zero]
  have hrest:∀i,top≤i→∀j,(ra S2 top q top).M i j=S2.M i j:=fun i hi j=>by rw [li _ _ _ _ _ _ (Nat.le_refl _),if_neg (by omega)]
  refine ⟨bS P top q,fun i hi=> ?_,fun a ha har j hj=> ?_⟩
  · by_cases e:i=top
    · subst e
      rw [bg];refine ⟨by omega,by rw [hrest i (Nat.le_refl _),htop];omega,fun j hj=>by rw [hrest i (Nat.le_refl _)];exact h2 i (Nat.le_refl _) ht j hj,fun k hk=> ?_⟩;rw [be _ _ _ _ (by omega),hrest i (Nat.le_refl _),htop,li _ _ _ _ _ _ (Nat.le_refl _),if_pos hk]
      unfold kq
      rw [htop];have e1:S2.M k q + -(S2.M k q/(y:Int))*(y:Int)=S2.M k q % (y:Int):=by
        have:=Int.mul_ediv_add_emod (S2.M k q) (y:Int);rw [Int.neg_mul,Int.mul_comm (S2.M k q/(y:Int))];omega
      rw [e1];exact ⟨(h1 k hk).1,Int.emod_nonneg _ (by omega),Int.emod_lt_of_pos _ (by omega)⟩
    · rw [be _ _ _ _ e]
      obtain ⟨g1,g2,g3,g4⟩:=h1 i (by omega);refine ⟨by omega,by rw [hrow i (by omega) _ g1];exact g2,fun j hj=>by rw [hrow i (by omega) _ (by omega)];exact g3 j hj,fun k hk=> ?_⟩;rw [be _ _ _ _ (by omega),hrow k (by omega) _ g1,hrow i (by omega) _ g1];exact g4 k hk
  · rw [hrest a (by omega)]
    by_cases e:j=q
    · subst e;exact hbelow a (by omega) har
    · exact h2 a (by omega) har j (by omega)
end
end Go.TL
namespace Go.TL
open Go.RowKit Go.Proofs
set_option linter.unusedVariables false
def bR (e0 r:Nat):Nat:=eR e0 r r + gR e0 r r + 2
structure HermR (r c e0:Nat) (M0:Nat→Nat→Int) (k:Nat) (S:WS):Prop where
  lin:Lin r c M0 S
  kr:k≤r
  kc:k≤c
  ech:io r k c S.M
  bm:∀i j,i<r→j<c→(S.M i j).natAbs≤2^eR e0 r r
  bu:∀i j,i<r→j<r→(S.U i j).natAbs≤2^eR e0 r r
  bv:∀i j,i<r→j<r→(S.V i j).natAbs≤2^gR e0 r r
theorem mo (w:World) (x:Value) (r c:Nat) (M:Nat→Nat→Int) (b0 e0 b:Nat) (hx:bo w x r c M b0) (h8:r≤8) (hM:∀i j,i<r→j<c→(M i j).natAbs≤2^e0) (hb:bR e0 r≤b) (hb1:2 + e0≤b) (hl:2*b + 300≤bl):
    Calls Tryz.prog 45 #[x] w (cg w fun v w'=>∃k S,HermR r c e0 M k S∧lg w' v r c S b):=by
  have hfit:∀{t:Nat} {S:WS},t≤r→(∀i j,i<r→j<c→(S.M i j).natAbs≤2^eR e0 r t)→(∀i j,i<r→j<r→(S.U i j).natAbs≤2^eR e0 r t)→(∀i j,i<r→j<r→(S.V i j).natAbs≤2^gR e0 r t)→iU r c b S:=by
    intro t S ht h1 h2 h3;have e1:=iH e0 r (s:=t) (t:=r) ht;have e2:=jN e0 r (s:=t) (t:=r) ht
    unfold bR at hb
    exact ⟨fun i j hi hj=>eL (h1 i j hi hj) (by omega),fun i j hi hj=>eL (h2 i j hi hj) (by omega),fun i j hi hj=>eL (h3 i j hi hj) (by omega)⟩
  have e0r:=iH e0 r (s:=0) (t:=r) (by omega);have hbb:=hb
  unfold bR at hbb
  simp only [eR] at e0r;have hx0:bo w x r c M (e0 + 1):=hx.more (fun i j hi hj=>eL (hM i j hi hj) (by omega)) (by omega);refine (wP w x r c M (e0 + 1) b (FR r c e0 M) (JR r c e0 M) hx0 (by omega) hl (FR.start hM) (fun top q S ht hq h=>JR.of h ht hq) ?_ ?_ ?_ ?_ ?_ ?_).mono ?_
  · intro top q i S hti hir hq hJ hz h0
    obtain ⟨_,s,hs,g1,g2,g3⟩:=hJ.step hti hir hz h0;have e1:=iH e0 r (s:=top + 1) (t:=r) (by omega);have e2:=jN e0 r (s:=top + 1) (t:=r) (by omega);have hp:∀x:Nat,2^x*(2^(2*eR e0 r top + 6))^(i - top - 1)*s≤2^(x + (2*eR e0 r top + 6)*(r - top - 1)):=fun x=>by
      have h1:2^x*(2^(2*eR e0 r top + 6))^(i - top - 1)*s≤2^x*(2^(2*eR e0 r top + 6))^(i - top - 1)*2^(2*eR e0 r top + 6):=Nat.mul_le_mul_left _ hs;refine Nat.le_trans h1 ?_;rw [←Nat.pow_mul,←Nat.pow_add,←Nat.pow_add];refine Nat.pow_le_pow_right (by omega) ?_;have h2:(2*eR e0 r top + 6)*(i - top - 1) + (2*eR e0 r top + 6)=(2*eR e0 r top + 6)*(i - top - 1 + 1):=by rw [Nat.mul_add,Nat.mul_one]
      have h3:(2*eR e0 r top + 6)*(i - top - 1 + 1)≤(2*eR e0 r top + 6)*(r - top - 1):=Nat.mul_le_mul_left _ (by omega);omega
    have k1:eR e0 r top + (2*eR e0 r top + 6)*(r - top - 1)<eR e0 r (top + 1):=by simp only [eR];omega
    have k2:gR e0 r top + (2*eR e0 r top + 6)*(r - top - 1)<gR e0 r (top + 1):=by simp only [gR];omega
    exact ⟨fun a j ha hj=>eL (Nat.le_trans (g1 a j ha hj) (hp _)) (by omega),fun a j ha hj=>eL (Nat.le_trans (g2 a j ha hj) (hp _)) (by omega),fun a j ha hj=>eL (Nat.le_trans (g3 a j ha hj) (hp _)) (by omega)⟩
  · intro top q i S hti hir hq hJ hz h0
    exact (hJ.step hti hir hz h0).1
  · intro top q i S hti hir hq hJ hz h0
    exact hJ.swap hti hir hz h0
  · intro top q i S hti hir hq hJ hz
    exact hJ.zero hti hir hz
  · intro top q S ht hq hJ hz
    exact hJ.none ht hz
  · intro top q S ht hq hJ hz
    obtain ⟨h1,h2⟩:=hJ.pivot ht hq h8 hz;exact ⟨fun n hn=>by obtain ⟨g1,g2,g3⟩:=h1 (n + 1) (by omega);exact hfit (by omega) g1 g2 g3,h2⟩
  · rintro e w' ⟨v,rfl,hx',top,q,S,hF,hex,ht,hq,hH⟩
    have hech:io r top c S.M:=by
      obtain ⟨P,h1,h2⟩:=hF.ech;refine ⟨P,fun i hi=> ?_,fun a ha har j hj=> ?_⟩
      · obtain ⟨g1,g2⟩:=h1 i hi;exact ⟨by omega,g2⟩
      · rcases hex with h | h
        · exact h2 a ha har j (by omega)
        · omega
    have e1:=iH e0 r (s:=top) (t:=r) ht;have e2:=jN e0 r (s:=top) (t:=r) ht;have up:∀{z:Int} {a b:Nat},a≤b→z.natAbs≤2^a→z.natAbs≤2^b:=fun hab h=>Nat.le_trans h (Nat.pow_le_pow_right (by omega) hab)
    exact ⟨v,rfl,hx',top,S,⟨hF.lin,ht,hech.kc (Nat.le_refl _),hech,fun i j hi hj=>up e1 (hF.bm i j hi hj),fun i j hi hj=>up e1 (hF.bu i j hi hj),fun i j hi hj=>up e2 (hF.bv i j hi hj)⟩,hH⟩
end Go.TL
namespace Go.TL
set_option linter.unusedVariables false
theorem io.some {r k c:Nat} {M:Nat→Nat→Int} (h:io r k c M) {i:Nat} (hi:i<k):0≤piv (M i) c:=by
  obtain ⟨P,h1,_⟩:=h;obtain ⟨g1,g2,_⟩:=h1 i hi
  by_cases hn:0≤piv (M i) c
  · exact hn
  · have h3:dq kF (M i) c= -1:=by have:=(iE (p:=kF) (z:=M i) c).2;unfold piv at hn;omega
    have:=gI h3 (P i) g1
    unfold kF at this
    omega
theorem io.none {r k c:Nat} {M:Nat→Nat→Int} (h:io r k c M) {i:Nat} (hi:k≤i) (hr:i<r):¬0≤piv (M i) c:=by
  obtain ⟨P,_,h2⟩:=h
  unfold piv
  rw [nF fun j hj=>by unfold kF;exact fun hne=>hne (h2 i hi hr j hj)];omega
def jC (r c e0:Nat) (M0:Nat→Nat→Int) (k:Nat) (M:Nat→Nat→Int):Prop:=
  ∃k1 S1 S2,HermR r c e0 M0 k1 S1∧HermR (r - k1) r (eR e0 r r) (fun i=>S1.U (k1 + i)) k S2∧M=S2.M
theorem jC.bd {r c e0 e1 k:Nat} {M0 M:Nat→Nat→Int} (h:jC r c e0 M0 k M) (he:∀k,k≤r→eR (eR e0 r r) (r - k) (r - k)≤e1) {i j:Nat} (hi:i<k) (hj:j<r):(M i j).natAbs≤2^e1:=by
  obtain ⟨k1,S1,S2,h1,h2,rfl⟩:=h;have g1:=h2.kr;exact Nat.le_trans (h2.bm i j (by omega) hj) (Nat.pow_le_pow_right (by omega) (he k1 h1.kr))
theorem jC.kr {r c e0 k:Nat} {M0 M:Nat→Nat→Int} (h:jC r c e0 M0 k M):k≤r:=by
  obtain ⟨k1,S1,S2,h1,h2,rfl⟩:=h;have g1:=h2.kr;omega
end Go.TL
namespace Go.TL
open Go.RowKit Go.Proofs
set_option linter.unusedVariables false
set_option linter.unusedSimpArgs false
set_option maxRecDepth 10000 in
theorem rW (w:World) (x:Value) (rx cx:Nat) (Mx:Nat→Nat→Int) (btx:Nat) (k:Nat) (hx:bo w x rx cx Mx btx) (hk:k≤rx) (h1:∀i,i<k→0≤piv (Mx i) cx) (h2:∀i,k≤i→i<rx→¬0≤piv (Mx i) cx):Calls Tryz.prog 24 #[x] w (cg w fun v w'=>v= .int .i64 (k:Nat)):=by
 have hLIM:bl=562949953421312:=rfl;have hmatx:=hx;obtain ⟨sx,rfl,hrx,hcx,hSx⟩:=hx.form;refine ak (N:=21) (rs:= #[.tmp 2]) Tryz.func24 rfl rfl rfl (Nat.le_of_ble_eq_true rfl) ?_;have hX:aQ w w:=aQ.refl w;refine ad ?_;refine RL.x rfl rfl (dv.box [.int .i64 ((rx:Nat)),.int .i64 ((cx:Nat)),sx] rfl rfl) ?_;rintro _ w1 ⟨g1,rfl,hge1,hx1,hA1⟩;have hbs1:w.heap.size≤g1:=Nat.le_trans hX.size hge1;replace hX:=aQ.trans hX hx1;refine RL.p rfl rfl (cz.assign rfl) ?_;refine RL.nil ?_;refine ad ?_;refine RL.p rfl rfl (cz.assign rfl) ?_;refine RL.nil ?_;refine WP.seq ?_;refine ad ?_;refine RL.p rfl rfl (cz.assign rfl) ?_;refine RL.nil ?_;refine WP.block ?_;refine WP.loop (fun mz ez uz=>∃n:Nat,∃m:Nat,(mz=rx - n)∧(ez 1= .pointer (some ⟨g1,0,none⟩))∧(ez 2= .int .i64 (0))∧(ez 3= .int .i64 ((m:Nat)))∧(ez 4= .int .i64 ((n:Nat)))∧(n≤rx)∧(m≤k∧(n≤k→m=n)∧(k≤n→m=k))∧(aQ w uz)∧(aX uz g1 28 3 (bG [.int .i64 ((rx:Nat)),.int .i64 ((cx:Nat)),sx]))) (rx - 0) ?_ ?_
 · exact ⟨0,0,rfl,rfl,rfl,rfl,rfl,(by omega),(by omega),hX,hA1⟩
 rintro m1 e1 w2 ⟨n,m,hm1,s1_e1,s2_e1,s3_e1,s4_e1,hn,hm,hX1,hA1⟩;refine WP.seq ?_;refine ad ?_;refine RL.p rfl rfl (cz.move s4_e1) ?_;refine RL.p rfl rfl (cz.fieldAddr bj s1_e1) ?_;refine RL.p rfl rfl (cz.load bT rfl (hA1.at_ (i:=0) rfl rfl)) ?_;refine RL.p rfl rfl (cz.lss rfl rfl) ?_;refine RL.nil ?_;refine ag (((n:Nat):Int)<((rx:Nat):Int)) rfl (fun c8=> ?_) (fun c8=> ?_)
 ·
  refine WP.skip ?_;refine pi.norm ?_;refine WP.seq ?_;refine WP.block ?_;refine ad ?_;refine RL.p rfl rfl (cz.fieldAddr av s1_e1) ?_;refine RL.p rfl rfl (cz.load aR rfl (hA1.at_ (i:=2) rfl rfl)) ?_;refine RL.p rfl rfl (cz.move s4_e1) ?_;refine RL.x rfl rfl (bL (j:=n) aK rfl (cu.ext hSx hX1) rfl (by omega) (by omega)) ?_;rintro v1 _ ⟨rfl,q1⟩;refine RL.x rfl rfl (bW bc rfl q1) ?_;rintro v2 _ ⟨rfl,q2⟩;refine RL.x rfl rfl (dv.call ya (aJ rfl) (uk _ _ _ _ _ q2)) ?_;rintro _ w3 ⟨hx2,rfl⟩;replace hA1:=aX.ext hA1 hx2;replace q1:=ec.ext q1 hx2;replace q2:=ci.ext q2 hx2;replace hX1:=aQ.trans hX1 hx2;refine RL.p rfl rfl (cz.geq rfl rfl) ?_;refine RL.nil ?_;refine ag ((0:Int)≤(piv (Mx n) cx:Int)) rfl (fun c17=> ?_) (fun c17=> ?_)
  ·
   refine WP.region ?_;refine RL.p rfl rfl (cz.move s3_e1) ?_;refine RL.p rfl rfl (cz.add (c:=((m + 1:Nat):Int)) rfl rfl (bN (by omega))) ?_;refine RL.p rfl rfl (cz.assign rfl) ?_;refine RL.nil ?_;refine iS.norm ?_;refine pi.norm ?_;refine WP.region ?_;refine RL.p rfl rfl (cz.move s4_e1) ?_;refine RL.p rfl rfl (cz.add (c:=((n + 1:Nat):Int)) rfl rfl (bN (by omega))) ?_;refine RL.p rfl rfl (cz.assign rfl) ?_;refine RL.nil ?_;have hnk:n<k:=by
     rcases Nat.lt_or_ge n k with h | h
     · exact h
     · exact absurd c17 (h2 n h (by omega))
   refine pi.norm ⟨_,(by omega),n + 1,m + 1,rfl,s1_e1,s2_e1,rfl,rfl,(by omega),(by omega),hX1,hA1⟩
  ·
   refine WP.skip ?_;refine iS.norm ?_;refine pi.norm ?_;refine WP.region ?_;refine RL.p rfl rfl (cz.move s4_e1) ?_;refine RL.p rfl rfl (cz.add (c:=((n + 1:Nat):Int)) rfl rfl (bN (by omega))) ?_;refine RL.p rfl rfl (cz.assign rfl) ?_;refine RL.nil ?_;have hnk:k≤n:=by
     rcases Nat.lt_or_ge n k with h | h
     · exact absurd (h1 n h) c17
     · exact h
   refine pi.norm ⟨_,(by omega),n + 1,m,rfl,s1_e1,s2_e1,s3_e1,rfl,(by omega),(by omega),hX1,hA1⟩
 ·
  refine WP.exit ?_;refine pi.exit ?_;refine pi.exit ?_;refine iS.same ?_;refine pi.norm ?_;refine ad ?_;refine RL.p rfl rfl (cz.move s3_e1) ?_;refine RL.p rfl rfl (cz.assign rfl) ?_;refine RL.nil ?_;refine WP.ret ?_;refine ⟨.int .i64 ((m:Nat)),yL.one (fR.tmp rfl),_,rfl,hX1,?_⟩;dsimp only;rw [show m=k by omega]
set_option maxRecDepth 10000 in
theorem yo (w:World) (x:Value) (rx cx:Nat) (Mx:Nat→Nat→Int) (btx:Nat) (k:Nat) (hx:bo w x rx cx Mx btx) (hk:k≤rx):Calls Tryz.prog 33 #[x,.int .i64 (k:Nat)] w (cg w fun v w'=>bo w' v k cx Mx btx):=by
 have hLIM:bl=562949953421312:=rfl;have hmatx:=hx;obtain ⟨sx,rfl,hrx,hcx,hSx⟩:=hx.form;refine ak (N:=13) (rs:= #[.cell 4 28]) Tryz.func33 rfl rfl rfl (Nat.le_of_ble_eq_true rfl) ?_;have hX:aQ w w:=aQ.refl w;refine ad ?_;refine RL.x rfl rfl (dv.box [.int .i64 ((rx:Nat)),.int .i64 ((cx:Nat)),sx] rfl rfl) ?_;rintro _ w1 ⟨g1,rfl,hge1,hx1,hA1⟩;have hbs1:w.heap.size≤g1:=Nat.le_trans hX.size hge1;replace hX:=aQ.trans hX hx1;refine RL.x rfl rfl (dv.alloc [.int .i64 (0),.int .i64 (0),.slice (none) (0) (0)] bE rfl) ?_;rintro _ w2 ⟨g2,rfl,hge2,hx2,hA2⟩;have ne1:g1≠g2:=Nat.ne_of_lt (Nat.lt_of_lt_of_le hA1.lt hge2);have hbs2:w.heap.size≤g2:=Nat.le_trans hX.size hge2;replace hA1:=aX.ext hA1 hx2;replace hX:=aQ.trans hX hx2;refine RL.nil ?_;refine ay aq 7 [fun v zq=>v= .int .i64 ((k:Nat)),fun v zq=>v= .pointer (some ⟨g1,1,none⟩),fun v zq=>v= .int .i64 ((cx:Nat)),fun v zq=>v= .pointer (some ⟨g1,2,none⟩),fun v zq=>v=sx,fun v zq=>v= .int .i64 ((k:Nat)),fun v zq=>cu zq v k cx Mx btx] rfl rfl ⟨aa _,aa _,aa _,aa _,aa _,aa _,gL _ _ _ _,trivial⟩ ⟨fun e_ w_ zp zo zn=>ab (cz.move (((zo 1 rfl).trans rfl))),fun e_ w_ zp zo zn=>ab (cz.fieldAddr bF (((zo 2 rfl).trans rfl))),fun e_ w_ zp zo zn=>ab (cz.load bT ((zn 1 rfl)) ((aX.ext hA1 zp).at_ (i:=1) rfl rfl)),fun e_ w_ zp zo zn=>ab (cz.fieldAddr av (((zo 2 rfl).trans rfl))),fun e_ w_ zp zo zn=>ab (cz.load aR ((zn 3 rfl)) ((aX.ext hA1 zp).at_ (i:=2) rfl rfl)),fun e_ w_ zp zo zn=>ab (cz.move (((zo 1 rfl).trans rfl))),fun e_ w_ zp zo zn=>aj (φ:=fun v zq=>cu zq v k cx Mx btx) (gY (j:=k) aK (zn 4 rfl) (cu.ext (cu.ext hSx hX) zp) (zn 5 rfl) (by omega) (by omega)),trivial⟩ ?_;intro e1 w3 hx3 ho1 hf1;replace hA1:=aX.ext hA1 hx3;replace hA2:=aX.ext hA2 hx3;replace hX:=aQ.trans hX hx3;have s4_e1:e1 4= .pointer (some ⟨g2,0,none⟩):=(ho1 4 rfl).trans rfl;have s5_e1:e1 5= .int .i64 ((k:Nat)):=hf1 0 rfl;have s7_e1:e1 7= .int .i64 ((cx:Nat)):=hf1 2 rfl;have s11_e1:cu w3 (e1 11) k cx Mx btx:=hf1 6 rfl;refine RL.p rfl rfl (cz.build (vs:= [(0,.int .i64 ((k:Nat))),(1,.int .i64 ((cx:Nat))),(2,(e1 11))]) [(0,1),(1,1),(2,1)] ga bE (ff s5_e1 s7_e1 rfl) (qc s11_e1)) ?_;refine RL.x rfl rfl (dv.store [.int .i64 ((k:Nat)),.int .i64 ((cx:Nat)),(e1 11)] bO s4_e1 rfl rfl hA2 (Nat.le_of_ble_eq_true rfl) (bP rfl rfl (s11_e1.one))) ?_;rintro _ w4 ⟨hk1,hnew⟩;replace hA1:=hA1.keep hk1 ne1;replace s11_e1:=aA s11_e1 hk1 hA2 (by decide);replace hX:=hX.step hk1 (fun b e=>by subst e;exact hbs2);replace hA2:=hnew.lit [.int .i64 ((k:Nat)),.int .i64 ((cx:Nat)),(e1 11)] rfl;clear hnew;refine RL.nil ?_;refine WP.ret ?_;refine ⟨.agg #[.int .i64 ((k:Nat)),.int .i64 ((cx:Nat)),(e1 11)],yL.one (ai [.int .i64 ((k:Nat)),.int .i64 ((cx:Nat)),(e1 11)] aT s4_e1 (hA2.cells 0 _ rfl rfl)),_,rfl,hX,?_⟩;dsimp only;exact (bo.mk s11_e1 (by omega) (by omega))
set_option maxRecDepth 10000 in
theorem pI (w:World) (x:Value) (rx cx:Nat) (Mx:Nat→Nat→Int) (btx:Nat) (e0 b:Nat) (hx:bo w x rx cx Mx btx) (h8:rx≤8) (hM:∀i j,i<rx→j<cx→(Mx i j).natAbs≤2^e0) (hb:bR e0 rx≤b) (hb1:2 + e0≤b) (hl:2*b + 300≤bl):Calls Tryz.prog 12 #[x] w (cg w fun v w'=>∃k S,HermR rx cx e0 Mx k S∧bo w' v k cx S.M b):=by
 have hLIM:bl=562949953421312:=rfl;have hmatx:=hx;obtain ⟨sx,rfl,hrx,hcx,hSx⟩:=hx.form;refine ak (N:=12) (rs:= #[.cell 2 28]) Tryz.func12 rfl rfl rfl (Nat.le_of_ble_eq_true rfl) ?_;have hX:aQ w w:=aQ.refl w;refine ad ?_;refine RL.x rfl rfl (dv.box [.int .i64 ((rx:Nat)),.int .i64 ((cx:Nat)),sx] rfl rfl) ?_;rintro _ w1 ⟨g1,rfl,hge1,hx1,hA1⟩;have hbs1:w.heap.size≤g1:=Nat.le_trans hX.size hge1;replace hX:=aQ.trans hX hx1;refine RL.x rfl rfl (dv.alloc [.int .i64 (0),.int .i64 (0),.slice (none) (0) (0)] bE rfl) ?_;rintro _ w2 ⟨g2,rfl,hge2,hx2,hA2⟩;have ne1:g1≠g2:=Nat.ne_of_lt (Nat.lt_of_lt_of_le hA1.lt hge2);have hbs2:w.heap.size≤g2:=Nat.le_trans hX.size hge2;replace hA1:=aX.ext hA1 hx2;replace hX:=aQ.trans hX hx2;refine RL.nil ?_;refine ad ?_;refine RL.p rfl rfl (af [.int .i64 ((rx:Nat)),.int .i64 ((cx:Nat)),sx] aT rfl (hA1.cells 0 _ rfl rfl)) ?_;refine RL.x rfl rfl (dv.call rm (aJ rfl) (mo _ _ rx cx Mx _ e0 b (bo.mk (cu.ext hSx hX) (by omega) (by omega)) h8 hM hb hb1 hl)) ?_;rintro _ w3 ⟨hx3,kf_1,Sf_1,hHf_1,sa_1,sb_1,sc_1,rfl,hdr_1,hdc_1,hSa_1,hSb_1,hSc_1⟩;replace hA1:=aX.ext hA1 hx3;replace hA2:=aX.ext hA2 hx3;replace hX:=aQ.trans hX hx3;refine RL.x rfl rfl (dv.alloc [.int .i64 (0),.int .i64 (0),.slice (none) (0) (0),.int .i64 (0),.int .i64 (0),.slice (none) (0) (0),.int .i64 (0),.int .i64 (0),.slice (none) (0) (0)] jr rfl) ?_;rintro _ w4 ⟨g3,rfl,hge3,hx4,hA3⟩;have ne2:g1≠g3:=Nat.ne_of_lt (Nat.lt_of_lt_of_le hA1.lt hge3);have ne3:g2≠g3:=Nat.ne_of_lt (Nat.lt_of_lt_of_le hA2.lt hge3);have hbs3:w.heap.size≤g3:=Nat.le_trans hX.size hge3;replace hA1:=aX.ext hA1 hx4;replace hA2:=aX.ext hA2 hx4;replace hSa_1:=cu.ext hSa_1 hx4;replace hSb_1:=cu.ext hSb_1 hx4;replace hSc_1:=cu.ext hSc_1 hx4;replace hX:=aQ.trans hX hx4;refine RL.x rfl rfl (dv.store [.int .i64 ((rx:Nat)),.int .i64 ((cx:Nat)),sa_1,.int .i64 ((rx:Nat)),.int .i64 ((rx:Nat)),sb_1,.int .i64 ((rx:Nat)),.int .i64 ((rx:Nat)),sc_1] lB rfl rfl rfl hA3 (Nat.le_of_ble_eq_true rfl) (lK rfl rfl (hSa_1.one) rfl rfl (hSb_1.one) rfl rfl (hSc_1.one))) ?_;rintro _ w5 ⟨hk1,hnew⟩;replace hA1:=hA1.keep hk1 ne2;replace hA2:=hA2.keep hk1 ne3;replace hSa_1:=aA hSa_1 hk1 hA3 (by decide);replace hSb_1:=aA hSb_1 hk1 hA3 (by decide);replace hSc_1:=aA hSc_1 hk1 hA3 (by decide);replace hX:=hX.step hk1 (fun b e=>by subst e;exact hbs3);replace hA3:=hnew.lit [.int .i64 ((rx:Nat)),.int .i64 ((cx:Nat)),sa_1,.int .i64 ((rx:Nat)),.int .i64 ((rx:Nat)),sb_1,.int .i64 ((rx:Nat)),.int .i64 ((rx:Nat)),sc_1] rfl;clear hnew;refine RL.nil ?_;have hkr:=hHf_1.kr;refine ay aq 6 [fun v zq=>v= .pointer (some ⟨g3,0,none⟩),fun v zq=>v= .agg #[.int .i64 ((rx:Nat)),.int .i64 ((cx:Nat)),sa_1],fun v zq=>v= .pointer (some ⟨g3,0,none⟩),fun v zq=>v= .agg #[.int .i64 ((rx:Nat)),.int .i64 ((cx:Nat)),sa_1],fun v zq=>v= .int .i64 ((kf_1:Nat)),fun v zq=>bo zq v kf_1 cx Sf_1.M b] rfl rfl ⟨aa _,aa _,aa _,aa _,aa _,gK _ _ _ _,trivial⟩ ⟨fun e_ w_ zp zo zn=>ab (cz.fieldAddr gz (((zo 3 rfl).trans rfl))),fun e_ w_ zp zo zn=>ab (af [.int .i64 ((rx:Nat)),.int .i64 ((cx:Nat)),sa_1] aT ((zn 0 rfl)) ((aX.ext hA3 zp).cells 0 _ rfl rfl)),fun e_ w_ zp zo zn=>ab (cz.fieldAddr gz (((zo 3 rfl).trans rfl))),fun e_ w_ zp zo zn=>ab (af [.int .i64 ((rx:Nat)),.int .i64 ((cx:Nat)),sa_1] aT ((zn 2 rfl)) ((aX.ext hA3 zp).cells 0 _ rfl rfl)),fun e_ w_ zp zo zn=>dv.call vN (aJ ((zn 3 rfl))) (rW _ _ _ _ _ _ kf_1 (bo.mk (cu.ext hSa_1 zp) (by omega) (by omega)) hHf_1.kr (fun i hi=>hHf_1.ech.some hi) (fun i hi hr=>hHf_1.ech.none hi hr)),fun e_ w_ zp zo zn=>dv.call yh (aF ((zn 1 rfl)) ((zn 4 rfl))) (yo _ _ _ _ _ _ kf_1 (bo.mk (cu.ext hSa_1 zp) (by omega) (by omega)) (by omega)),trivial⟩ ?_;intro e1 w6 hx5 ho1 hf1;replace hA2:=aX.ext hA2 hx5;replace hSa_1:=cu.ext hSa_1 hx5;replace hSb_1:=cu.ext hSb_1 hx5;replace hSc_1:=cu.ext hSc_1 hx5;replace hA3:=aX.ext hA3 hx5;replace hX:=aQ.trans hX hx5;have s2_e1:e1 2= .pointer (some ⟨g2,0,none⟩):=(ho1 2 rfl).trans rfl;have s11_e1:bo w6 (e1 11) kf_1 cx Sf_1.M b:=hf1 5 rfl;obtain ⟨sv1,hq1,hr1,hc1,hS1⟩:=s11_e1.form;refine RL.x rfl rfl (dv.store [.int .i64 ((kf_1:Nat)),.int .i64 ((cx:Nat)),sv1] bO s2_e1 hq1 rfl hA2 (Nat.le_of_ble_eq_true rfl) (bP rfl rfl hS1.one)) ?_;rintro _ w7 ⟨hk2,hnew⟩;replace hSa_1:=aA hSa_1 hk2 hA2 (by decide);replace hSb_1:=aA hSb_1 hk2 hA2 (by decide);replace hSc_1:=aA hSc_1 hk2 hA2 (by decide);replace hA3:=hA3.keep hk2 (Ne.symm ne3);replace s11_e1:=cS s11_e1 hk2 hA2 (by decide);replace hS1:=aA hS1 hk2 hA2 (by decide);replace hX:=hX.step hk2 (fun b e=>by subst e;exact hbs2);replace hA2:=hnew.lit [.int .i64 ((kf_1:Nat)),.int .i64 ((cx:Nat)),sv1] rfl;clear hnew;refine RL.nil ?_;refine WP.ret ?_;refine ⟨.agg #[.int .i64 ((kf_1:Nat)),.int .i64 ((cx:Nat)),sv1],yL.one (ai [.int .i64 ((kf_1:Nat)),.int .i64 ((cx:Nat)),sv1] aT s2_e1 (hA2.cells 0 _ rfl rfl)),_,rfl,hX,?_⟩;dsimp only;exact ⟨kf_1,Sf_1,hHf_1,(bo.mk hS1 (by omega) (by omega))⟩
set_option maxRecDepth 10000 in
theorem oL (w:World) (x:Value) (rx cx:Nat) (Mx:Nat→Nat→Int) (btx:Nat) (e0 b:Nat) (hx:bo w x rx cx Mx btx) (h8:rx≤8) (hM:∀i j,i<rx→j<cx→(Mx i j).natAbs≤2^e0) (hb:bR e0 rx≤b) (hb1:2 + e0≤b) (hl:2*b + 300≤bl) (hb2:∀k,k≤rx→bR (eR e0 rx rx) (rx - k)≤b) (hb3:2 + eR e0 rx rx≤b):Calls Tryz.prog 14 #[x] w (cg w fun v w'=>∃k M,jC rx cx e0 Mx k M∧bo w' v k rx M b):=by
 have hLIM:bl=562949953421312:=rfl;have hmatx:=hx;obtain ⟨sx,rfl,hrx,hcx,hSx⟩:=hx.form;refine ak (N:=25) (rs:= #[.cell 2 28]) Tryz.func14 rfl rfl rfl (Nat.le_of_ble_eq_true rfl) ?_;have hX:aQ w w:=aQ.refl w;refine ad ?_;refine RL.x rfl rfl (dv.box [.int .i64 ((rx:Nat)),.int .i64 ((cx:Nat)),sx] rfl rfl) ?_;rintro _ w1 ⟨g1,rfl,hge1,hx1,hA1⟩;have hbs1:w.heap.size≤g1:=Nat.le_trans hX.size hge1;replace hX:=aQ.trans hX hx1;refine RL.x rfl rfl (dv.alloc [.int .i64 (0),.int .i64 (0),.slice (none) (0) (0)] bE rfl) ?_;rintro _ w2 ⟨g2,rfl,hge2,hx2,hA2⟩;have ne1:g1≠g2:=Nat.ne_of_lt (Nat.lt_of_lt_of_le hA1.lt hge2);have hbs2:w.heap.size≤g2:=Nat.le_trans hX.size hge2;replace hA1:=aX.ext hA1 hx2;replace hX:=aQ.trans hX hx2;refine RL.nil ?_;refine ad ?_;refine RL.p rfl rfl (af [.int .i64 ((rx:Nat)),.int .i64 ((cx:Nat)),sx] aT rfl (hA1.cells 0 _ rfl rfl)) ?_;refine RL.x rfl rfl (dv.call rm (aJ rfl) (mo _ _ rx cx Mx _ e0 b (bo.mk (cu.ext hSx hX) (by omega) (by omega)) h8 hM hb hb1 hl)) ?_;rintro _ w3 ⟨hx3,kf_1,Sf_1,hHf_1,sa_1,sb_1,sc_1,rfl,hdr_1,hdc_1,hSa_1,hSb_1,hSc_1⟩;replace hA1:=aX.ext hA1 hx3;replace hA2:=aX.ext hA2 hx3;replace hX:=aQ.trans hX hx3;refine RL.x rfl rfl (dv.alloc [.int .i64 (0),.int .i64 (0),.slice (none) (0) (0),.int .i64 (0),.int .i64 (0),.slice (none) (0) (0),.int .i64 (0),.int .i64 (0),.slice (none) (0) (0)] jr rfl) ?_;rintro _ w4 ⟨g3,rfl,hge3,hx4,hA3⟩;have ne2:g1≠g3:=Nat.ne_of_lt (Nat.lt_of_lt_of_le hA1.lt hge3);have ne3:g2≠g3:=Nat.ne_of_lt (Nat.lt_of_lt_of_le hA2.lt hge3);have hbs3:w.heap.size≤g3:=Nat.le_trans hX.size hge3;replace hA1:=aX.ext hA1 hx4;replace hA2:=aX.ext hA2 hx4;replace hSa_1:=cu.ext hSa_1 hx4;replace hSb_1:=cu.ext hSb_1 hx4;replace hSc_1:=cu.ext hSc_1 hx4;replace hX:=aQ.trans hX hx4;refine RL.x rfl rfl (dv.store [.int .i64 ((rx:Nat)),.int .i64 ((cx:Nat)),sa_1,.int .i64 ((rx:Nat)),.int .i64 ((rx:Nat)),sb_1,.int .i64 ((rx:Nat)),.int .i64 ((rx:Nat)),sc_1] lB rfl rfl rfl hA3 (Nat.le_of_ble_eq_true rfl) (lK rfl rfl (hSa_1.one) rfl rfl (hSb_1.one) rfl rfl (hSc_1.one))) ?_;rintro _ w5 ⟨hk1,hnew⟩;replace hA1:=hA1.keep hk1 ne2;replace hA2:=hA2.keep hk1 ne3;replace hSa_1:=aA hSa_1 hk1 hA3 (by decide);replace hSb_1:=aA hSb_1 hk1 hA3 (by decide);replace hSc_1:=aA hSc_1 hk1 hA3 (by decide);replace hX:=hX.step hk1 (fun b e=>by subst e;exact hbs3);replace hA3:=hnew.lit [.int .i64 ((rx:Nat)),.int .i64 ((cx:Nat)),sa_1,.int .i64 ((rx:Nat)),.int .i64 ((rx:Nat)),sb_1,.int .i64 ((rx:Nat)),.int .i64 ((rx:Nat)),sc_1] rfl;clear hnew;refine RL.nil ?_;refine ad ?_;refine RL.p rfl rfl (cz.fieldAddr gz rfl) ?_;refine RL.p rfl rfl (af [.int .i64 ((rx:Nat)),.int .i64 ((cx:Nat)),sa_1] aT rfl (hA3.cells 0 _ rfl rfl)) ?_;refine RL.x rfl rfl (dv.call vN (aJ rfl) (rW _ _ _ _ _ _ kf_1 (bo.mk hSa_1 (by omega) (by omega)) hHf_1.kr (fun i hi=>hHf_1.ech.some hi) (fun i hi hr=>hHf_1.ech.none hi hr))) ?_;rintro _ w6 ⟨hx5,rfl⟩;replace hA1:=aX.ext hA1 hx5;replace hA2:=aX.ext hA2 hx5;replace hSa_1:=cu.ext hSa_1 hx5;replace hSb_1:=cu.ext hSb_1 hx5;replace hSc_1:=cu.ext hSc_1 hx5;replace hA3:=aX.ext hA3 hx5;replace hX:=aQ.trans hX hx5;refine RL.p rfl rfl (cz.assign rfl) ?_;refine RL.nil ?_;have hXf:=hX;have hlt_g1:=hA1.lt;have hlt_g2:=hA2.lt;have hlt_g3:=hA3.lt;have hkr:=hHf_1.kr;have hbu:∀i j,i<rx - kf_1→j<rx→(Sf_1.U (kf_1 + i) j).natAbs≤2^eR e0 rx rx:=fun i j hi hj=>hHf_1.bu (kf_1 + i) j (by omega) hj
 refine ay aq 13 [fun v zq=>v= .pointer (some ⟨g1,0,none⟩),fun v zq=>v= .int .i64 ((rx:Nat)),fun v zq=>v= .int .i64 ((kf_1:Nat)),fun v zq=>v= .int .i64 (((rx - kf_1:Nat):Int)),fun v zq=>v= .pointer (some ⟨g1,0,none⟩),fun v zq=>v= .int .i64 ((rx:Nat)),fun v zq=>v= .pointer (some ⟨g3,3,none⟩),fun v zq=>v= .pointer (some ⟨g3,5,none⟩),fun v zq=>v=sb_1,fun v zq=>v= .int .i64 ((kf_1:Nat)),fun v zq=>cu zq v (rx - kf_1) rx ((fun a=>Sf_1.U (kf_1 + a))) b,fun v zq=>bo zq v (rx - kf_1) rx ((fun a=>Sf_1.U (kf_1 + a))) b,fun v zq=>gl zq v w6.heap.size 28 ([.int .i64 (0),.int .i64 (0),.slice (none) (0) (0)])] rfl rfl ⟨aa _,aa _,aa _,aa _,aa _,aa _,aa _,aa _,aa _,aa _,gL _ _ _ _,gK _ _ _ _,eA _ _ _,trivial⟩ ⟨fun e_ w_ zp zo zn=>ab (cz.fieldAddr bj (((zo 1 rfl).trans rfl))),fun e_ w_ zp zo zn=>ab (cz.load bT ((zn 0 rfl)) ((aX.ext hA1 zp).at_ (i:=0) rfl rfl)),fun e_ w_ zp zo zn=>ab (cz.move (((zo 4 rfl).trans rfl))),fun e_ w_ zp zo zn=>ab (cz.sub (c:=((rx - kf_1:Nat):Int)) ((zn 1 rfl)) ((zn 2 rfl)) (bN (by omega))),fun e_ w_ zp zo zn=>ab (cz.fieldAddr bj (((zo 1 rfl).trans rfl))),fun e_ w_ zp zo zn=>ab (cz.load bT ((zn 4 rfl)) ((aX.ext hA1 zp).at_ (i:=0) rfl rfl)),fun e_ w_ zp zo zn=>ab (cz.fieldAddr pv (((zo 3 rfl).trans rfl))),fun e_ w_ zp zo zn=>ab (cz.fieldAddr av ((zn 6 rfl))),fun e_ w_ zp zo zn=>ab (cz.load aR ((zn 7 rfl)) ((aX.ext hA3 zp).at_ (i:=5) rfl rfl)),fun e_ w_ zp zo zn=>ab (cz.move (((zo 4 rfl).trans rfl))),fun e_ w_ zp zo zn=>aj (φ:=fun v zq=>cu zq v (rx - kf_1) rx ((fun a=>Sf_1.U (kf_1 + a))) b) (ln (j:=kf_1) aK (zn 8 rfl) (cu.ext hSb_1 zp) (zn 9 rfl) (by omega) (by omega)),fun e_ w_ zp zo zn=>aj (φ:=fun v zq=>bo zq v (rx - kf_1) rx ((fun a=>Sf_1.U (kf_1 + a))) b) (de (φ:=fun v zq=>bo zq v (rx - kf_1) rx ((fun a=>Sf_1.U (kf_1 + a))) b) (v:= .agg #[.int .i64 (((rx - kf_1:Nat):Int)),.int .i64 ((rx:Nat)),(e_ 21)]) (cz.build (vs:= [(0,.int .i64 (((rx - kf_1:Nat):Int))),(1,.int .i64 ((rx:Nat))),(2,(e_ 21))]) [(0,1),(1,1),(2,1)] ga bE (ff ((zn 3 rfl)) ((zn 5 rfl)) rfl) (qc (zn 10 rfl))) (bo.mk (zn 10 rfl) (by omega) (by omega))),fun e_ w_ zp zo zn=>dv.mono (ef [.int .i64 (0),.int .i64 (0),.slice (none) (0) (0)] bE rfl zp.size) fun v zr hv=>⟨hv.1,hv.2.1⟩,trivial⟩ ?_;intro e1 w7 hx6 ho1 hf1;replace hA1:=aX.ext hA1 hx6;replace hA2:=aX.ext hA2 hx6;replace hSa_1:=cu.ext hSa_1 hx6;replace hSb_1:=cu.ext hSb_1 hx6;replace hSc_1:=cu.ext hSc_1 hx6;replace hA3:=aX.ext hA3 hx6;replace hX:=aQ.trans hX hx6;have s2_e1:e1 2= .pointer (some ⟨g2,0,none⟩):=(ho1 2 rfl).trans rfl;have s22_e1:bo w7 (e1 22) (rx - kf_1) rx ((fun a=>Sf_1.U (kf_1 + a))) b:=hf1 11 rfl;have s5_e1:gl w7 (e1 5) w6.heap.size 28 ([.int .i64 (0),.int .i64 (0),.slice (none) (0) (0)]):=hf1 12 rfl;obtain ⟨gd5,hvd5,hBd5,hAd5⟩:=s5_e1;have hneo_g1_gd5:g1≠gd5:=Nat.ne_of_lt (Nat.lt_of_lt_of_le hlt_g1 hBd5);have hneo_g2_gd5:g2≠gd5:=Nat.ne_of_lt (Nat.lt_of_lt_of_le hlt_g2 hBd5);have hneo_g3_gd5:g3≠gd5:=Nat.ne_of_lt (Nat.lt_of_lt_of_le hlt_g3 hBd5);have hbd5:w.heap.size≤gd5:=Nat.le_trans hXf.size hBd5;obtain ⟨sv1,hq1,hr1,hc1,hS1⟩:=s22_e1.form;refine RL.x rfl rfl (dv.store [.int .i64 ((rx - kf_1:Nat)),.int .i64 ((rx:Nat)),sv1] bO hvd5 hq1 rfl hAd5 (Nat.le_of_ble_eq_true rfl) (bP rfl rfl hS1.one)) ?_;rintro _ w8 ⟨hk2,hnew⟩;replace hA1:=hA1.keep hk2 hneo_g1_gd5;replace hA2:=hA2.keep hk2 hneo_g2_gd5;replace hSa_1:=aA hSa_1 hk2 hAd5 (by decide);replace hSb_1:=aA hSb_1 hk2 hAd5 (by decide);replace hSc_1:=aA hSc_1 hk2 hAd5 (by decide);replace hA3:=hA3.keep hk2 hneo_g3_gd5;replace s22_e1:=cS s22_e1 hk2 hAd5 (by decide);replace hS1:=aA hS1 hk2 hAd5 (by decide);replace hX:=hX.step hk2 (fun b e=>by subst e;exact hbd5);replace hAd5:=hnew.lit [.int .i64 ((rx - kf_1:Nat)),.int .i64 ((rx:Nat)),sv1] rfl;clear hnew;refine RL.nil ?_;refine ad ?_;refine RL.p rfl rfl (af [.int .i64 ((rx - kf_1:Nat)),.int .i64 ((rx:Nat)),sv1] aT hvd5 (hAd5.cells 0 _ rfl rfl)) ?_;refine RL.x rfl rfl (dv.call vO (aJ rfl) (pI _ _ (rx - kf_1) rx (fun a=>Sf_1.U (kf_1 + a)) _ (eR e0 rx rx) b (bo.mk hS1 (by omega) (by omega)) (by omega) hbu (hb2 _ hkr) hb3 hl)) ?_;rintro v1 w9 ⟨hx7,kf_2,Sf_2,hHf_2,q1⟩;replace hA2:=aX.ext hA2 hx7;replace hAd5:=aX.ext hAd5 hx7;replace hS1:=cu.ext hS1 hx7;replace hX:=aQ.trans hX hx7;obtain ⟨sv2,hq2,hr2,hc2,hS2⟩:=q1.form;refine RL.x rfl rfl (dv.store [.int .i64 ((kf_2:Nat)),.int .i64 ((rx:Nat)),sv2] bO s2_e1 hq2 rfl hA2 (Nat.le_of_ble_eq_true rfl) (bP rfl rfl hS2.one)) ?_;rintro _ w10 ⟨hk3,hnew⟩;replace hAd5:=hAd5.keep hk3 (Ne.symm hneo_g2_gd5);replace hS1:=aA hS1 hk3 hA2 (by decide);replace q1:=cS q1 hk3 hA2 (by decide);replace hS2:=aA hS2 hk3 hA2 (by decide);replace hX:=hX.step hk3 (fun b e=>by subst e;exact hbs2);replace hA2:=hnew.lit [.int .i64 ((kf_2:Nat)),.int .i64 ((rx:Nat)),sv2] rfl;clear hnew;refine RL.nil ?_;refine WP.ret ?_;refine ⟨.agg #[.int .i64 ((kf_2:Nat)),.int .i64 ((rx:Nat)),sv2],yL.one (ai [.int .i64 ((kf_2:Nat)),.int .i64 ((rx:Nat)),sv2] aT s2_e1 (hA2.cells 0 _ rfl rfl)),_,rfl,hX,?_⟩;dsimp only;exact ⟨kf_2,Sf_2.M,⟨kf_1,Sf_1,Sf_2,hHf_1,hHf_2,rfl⟩,(bo.mk hS2 (by omega) (by omega))⟩
end Go.TL
namespace Go.TL
open Go.RowKit Go.Proofs
set_option linter.unusedVariables false
def vj (r c e0 e1:Nat) (M0:Nat→Nat→Int) (k:Nat) (M:Nat→Nat→Int):Prop:=∃k1 K1,jC c r e0 (fX M0) k1 K1∧jC c k1 e1 (fX K1) k M
def jo (w:World) (v:Value) (r c e0:Nat) (M0:Nat→Nat→Int) (b:Nat):Prop:=∃k S,HermR r c e0 M0 k S∧lg w v r c S b
theorem jo.ext {w w':World} {v:Value} {r c e0 b:Nat} {M0:Nat→Nat→Int} (h:jo w v r c e0 M0 b) (hx:aQ w w'):jo w' v r c e0 M0 b:=by obtain ⟨k,S,h1,h2⟩:=h;exact ⟨k,S,h1,h2.ext hx⟩
theorem nK (r c e0:Nat) (M0:Nat→Nat→Int) (b:Nat):dG (fun v w=>jo w v r c e0 M0 b):=fun _ _ _ h hx=>h.ext hx
def iT (w:World) (v:Value) (r c e0:Nat) (M0:Nat→Nat→Int) (b:Nat):Prop:=∃k S,HermR r c e0 M0 k S∧bo w v r c S.M b
theorem iT.ext {w w':World} {v:Value} {r c e0 b:Nat} {M0:Nat→Nat→Int} (h:iT w v r c e0 M0 b) (hx:aQ w w'):iT w' v r c e0 M0 b:=by obtain ⟨k,S,h1,h2⟩:=h;exact ⟨k,S,h1,h2.ext hx⟩
theorem oR (r c e0:Nat) (M0:Nat→Nat→Int) (b:Nat):dG (fun v w=>iT w v r c e0 M0 b):=fun _ _ _ h hx=>h.ext hx
def ma (w:World) (v:Value) (r c e0:Nat) (M0:Nat→Nat→Int) (b:Nat):Prop:=∃k S,HermR r c e0 M0 k S∧bo w v k c S.M b
theorem ma.ext {w w':World} {v:Value} {r c e0 b:Nat} {M0:Nat→Nat→Int} (h:ma w v r c e0 M0 b) (hx:aQ w w'):ma w' v r c e0 M0 b:=by obtain ⟨k,S,h1,h2⟩:=h;exact ⟨k,S,h1,h2.ext hx⟩
theorem oS (r c e0:Nat) (M0:Nat→Nat→Int) (b:Nat):dG (fun v w=>ma w v r c e0 M0 b):=fun _ _ _ h hx=>h.ext hx
def ox (w:World) (v:Value) (r c e0:Nat) (M0:Nat→Nat→Int) (b:Nat):Prop:=∃k M,jC r c e0 M0 k M∧bo w v k r M b
theorem ox.ext {w w':World} {v:Value} {r c e0 b:Nat} {M0:Nat→Nat→Int} (h:ox w v r c e0 M0 b) (hx:aQ w w'):ox w' v r c e0 M0 b:=by obtain ⟨k,S,h1,h2⟩:=h;exact ⟨k,S,h1,h2.ext hx⟩
theorem oQ (r c e0:Nat) (M0:Nat→Nat→Int) (b:Nat):dG (fun v w=>ox w v r c e0 M0 b):=fun _ _ _ h hx=>h.ext hx
section
variable {P:Program} {e:cM} {w:World} {d:Option Tmp} {ty:TypeId} {pos:String} {after:Array Edge} {gd:Option (Nat×Bool)}
theorem qY {t ft r c e0 b:Nat} {M0:Nat→Nat→Int} {x:Operand} {v:Value} (hf:ig P t 0 ft 0=true) (ha:iL P ft 3=true) (hx:ev e x=v) (h:jo w v r c e0 M0 b):
    dv P ⟨d,.field t x 0,ty,pos,after,gd⟩ e w (fun v' w'=>w=w'∧iT w' v' r c e0 M0 b):=by
  obtain ⟨k,S,hH,s1,s2,s3,rfl,⟨d1,_⟩,d2,h1,_⟩:=h;exact de (φ:=fun v' w'=>iT w' v' r c e0 M0 b) (kZ hf ha hx (by rfl)) ⟨k,S,hH,bo.mk h1 d1 d2⟩
end
theorem uj {w:World} {x y:Value} {r c e0 b ry cy bty:Nat} {M0 My:Nat→Nat→Int} (h:iT w x r c e0 M0 b) (hy:bo w y ry cy My bty) (hU:∀k S,HermR r c e0 M0 k S→en r c ry cy S.M My):
    Calls Tryz.prog 11 #[x,y] w (cg w fun v _=>v= .bool (decide True)):=by
  obtain ⟨k,S,h1,h2⟩:=h;exact (gH _ _ _ _ _ _ _ _ _ _ _ h2 hy).mono fun e w' ⟨v,g1,g2,g3⟩=>⟨v,g1,g2,g3.trans (congrArg _ (decide_eq_true (hU k S h1)))⟩
end Go.TL
namespace Go.TL
open Go.RowKit Go.Proofs
set_option linter.unusedVariables false
set_option linter.unusedSimpArgs false
set_option maxRecDepth 10000 in
theorem oK (w:World) (x:Value) (rx cx:Nat) (Mx:Nat→Nat→Int) (btx:Nat) (e0 e1 b:Nat) (hx:bo w x rx cx Mx btx) (h8:cx≤8) (hM:∀i j,i<rx→j<cx→(Mx i j).natAbs≤2^e0) (hb:bR e0 cx≤b) (hb1:2 + e0≤b) (hl:2*b + 300≤bl) (hb2:∀k,k≤cx→bR (eR e0 cx cx) (cx - k)≤b) (hb3:2 + eR e0 cx cx≤b) (he1:∀k,k≤cx→eR (eR e0 cx cx) (cx - k) (cx - k)≤e1) (hb4:bR e1 cx≤b) (hb5:2 + e1≤b) (hb6:∀k,k≤cx→bR (eR e1 cx cx) (cx - k)≤b) (hb7:2 + eR e1 cx cx≤b):Calls Tryz.prog 9 #[x] w (cg w fun v w'=>∃k M,vj rx cx e0 e1 Mx k M∧bo w' v k cx M b):=by
 have hLIM:bl=562949953421312:=rfl;have hmatx:=hx;obtain ⟨sx,rfl,hrx,hcx,hSx⟩:=hx.form;refine ak (N:=10) (rs:= #[.cell 2 28]) Tryz.func9 rfl rfl rfl (Nat.le_of_ble_eq_true rfl) ?_;have hX:aQ w w:=aQ.refl w;refine ad ?_;refine RL.x rfl rfl (dv.box [.int .i64 ((rx:Nat)),.int .i64 ((cx:Nat)),sx] rfl rfl) ?_;rintro _ w1 ⟨g1,rfl,hge1,hx1,hA1⟩;have hbs1:w.heap.size≤g1:=Nat.le_trans hX.size hge1;replace hX:=aQ.trans hX hx1;refine RL.x rfl rfl (dv.alloc [.int .i64 (0),.int .i64 (0),.slice (none) (0) (0)] bE rfl) ?_;rintro _ w2 ⟨g2,rfl,hge2,hx2,hA2⟩;have ne1:g1≠g2:=Nat.ne_of_lt (Nat.lt_of_lt_of_le hA1.lt hge2);have hbs2:w.heap.size≤g2:=Nat.le_trans hX.size hge2;replace hA1:=aX.ext hA1 hx2;replace hX:=aQ.trans hX hx2;refine RL.nil ?_;refine ad ?_;refine RL.p rfl rfl (af [.int .i64 ((rx:Nat)),.int .i64 ((cx:Nat)),sx] aT rfl (hA1.cells 0 _ rfl rfl)) ?_;have hBw1:w.heap.size≤w2.heap.size:=hX.size;refine RL.x rfl rfl (dv.call vM (aJ rfl) (jv _ _ _ _ _ _ (bo.mk (cu.ext hSx hX) (by omega) (by omega)))) ?_;rintro v1 w3 ⟨hx3,q1⟩;replace hA1:=aX.ext hA1 hx3;replace hA2:=aX.ext hA2 hx3;replace hX:=aQ.trans hX hx3;refine RL.x rfl rfl (dv.call rt (aJ rfl) (oL _ _ cx rx (fX Mx) _ e0 b (ck.matV q1) (by omega) (fun i j hi hj=>hM j i hj hi) hb hb1 hl hb2 hb3)) ?_;rintro v2 w4 ⟨hx4,kl_1,Ml_1,hLf_1,q2⟩;replace hA1:=aX.ext hA1 hx4;replace hA2:=aX.ext hA2 hx4;replace q1:=ck.ext q1 hx4;replace hX:=aQ.trans hX hx4;refine RL.x rfl rfl (dv.alloc [.int .i64 (0),.int .i64 (0),.slice (none) (0) (0)] bE rfl) ?_;rintro _ w5 ⟨g3,rfl,hge3,hx5,hA3⟩;have ne2:g1≠g3:=Nat.ne_of_lt (Nat.lt_of_lt_of_le hA1.lt hge3);have ne3:g2≠g3:=Nat.ne_of_lt (Nat.lt_of_lt_of_le hA2.lt hge3);have hbs3:w.heap.size≤g3:=Nat.le_trans hX.size hge3;replace hA1:=aX.ext hA1 hx5;replace hA2:=aX.ext hA2 hx5;replace q1:=ck.ext q1 hx5;replace q2:=bo.ext q2 hx5;replace hX:=aQ.trans hX hx5;obtain ⟨sv1,hq1,hr1,hc1,hS1⟩:=q2.form;refine RL.x rfl rfl (dv.store [.int .i64 ((kl_1:Nat)),.int .i64 ((cx:Nat)),sv1] bO rfl hq1 rfl hA3 (Nat.le_of_ble_eq_true rfl) (bP rfl rfl hS1.one)) ?_;rintro _ w6 ⟨hk1,hnew⟩;replace hA1:=hA1.keep hk1 ne2;replace hA2:=hA2.keep hk1 ne3;replace q2:=cS q2 hk1 hA3 (by decide);replace hS1:=aA hS1 hk1 hA3 (by decide);replace hX:=hX.step hk1 (fun b e=>by subst e;exact hbs3);replace hA3:=hnew.lit [.int .i64 ((kl_1:Nat)),.int .i64 ((cx:Nat)),sv1] rfl;clear hnew;refine RL.nil ?_;refine ad ?_;refine RL.p rfl rfl (af [.int .i64 ((kl_1:Nat)),.int .i64 ((cx:Nat)),sv1] aT rfl (hA3.cells 0 _ rfl rfl)) ?_;have hBw2:w.heap.size≤w6.heap.size:=hX.size;refine RL.x rfl rfl (dv.call vM (aJ rfl) (jv _ _ _ _ _ _ (bo.mk hS1 (by omega) (by omega)))) ?_;rintro v3 w7 ⟨hx6,q3⟩;replace hA2:=aX.ext hA2 hx6;replace hA3:=aX.ext hA3 hx6;replace hS1:=cu.ext hS1 hx6;replace hX:=aQ.trans hX hx6;refine RL.x rfl rfl (dv.call rt (aJ rfl) (oL _ _ cx kl_1 (fX Ml_1) _ e1 b (ck.matV q3) (by omega) (fun i j hi hj=>hLf_1.bd he1 hj hi) hb4 hb5 hl hb6 hb7)) ?_;rintro v4 w8 ⟨hx7,kl_2,Ml_2,hLf_2,q4⟩;replace hA2:=aX.ext hA2 hx7;replace hA3:=aX.ext hA3 hx7;replace hS1:=cu.ext hS1 hx7;replace q3:=ck.ext q3 hx7;replace hX:=aQ.trans hX hx7;obtain ⟨sv2,hq2,hr2,hc2,hS2⟩:=q4.form;refine RL.x rfl rfl (dv.store [.int .i64 ((kl_2:Nat)),.int .i64 ((cx:Nat)),sv2] bO rfl hq2 rfl hA2 (Nat.le_of_ble_eq_true rfl) (bP rfl rfl hS2.one)) ?_;rintro _ w9 ⟨hk2,hnew⟩;replace hA3:=hA3.keep hk2 (Ne.symm ne3);replace hS1:=aA hS1 hk2 hA2 (by decide);replace q4:=cS q4 hk2 hA2 (by decide);replace hS2:=aA hS2 hk2 hA2 (by decide);replace hX:=hX.step hk2 (fun b e=>by subst e;exact hbs2);replace hA2:=hnew.lit [.int .i64 ((kl_2:Nat)),.int .i64 ((cx:Nat)),sv2] rfl;clear hnew;refine RL.nil ?_;refine WP.ret ?_;refine ⟨.agg #[.int .i64 ((kl_2:Nat)),.int .i64 ((cx:Nat)),sv2],yL.one (ai [.int .i64 ((kl_2:Nat)),.int .i64 ((cx:Nat)),sv2] aT rfl (hA2.cells 0 _ rfl rfl)),_,rfl,hX,?_⟩;dsimp only;exact ⟨kl_2,Ml_2,⟨kl_1,Ml_1,hLf_1,hLf_2⟩,(bo.mk hS2 (by omega) (by omega))⟩
set_option maxRecDepth 10000 in
theorem ml (w:World) (x:Value) (rx cx:Nat) (Mx:Nat→Nat→Int) (btx:Nat) (e0 b:Nat) (hx:bo w x rx cx Mx btx) (h8:rx≤8) (hM:∀i j,i<rx→j<cx→(Mx i j).natAbs≤2^e0) (hb:bR e0 rx≤b) (hb1:2 + e0≤b) (hl:2*b + 300≤bl) (hsq:rx=cx) (hU:∀k S,HermR rx cx e0 Mx k S→en rx cx rx rx S.M bI):Calls Tryz.prog 50 #[x] w (cg w fun v w'=>v= .bool true):=by
 have hLIM:bl=562949953421312:=rfl;have hmatx:=hx;obtain ⟨sx,rfl,hrx,hcx,hSx⟩:=hx.form;refine ak (N:=23) (rs:= #[.tmp 2]) Tryz.func50 rfl rfl rfl (Nat.le_of_ble_eq_true rfl) ?_;have hX:aQ w w:=aQ.refl w;refine ad ?_;refine RL.x rfl rfl (dv.box [.int .i64 ((rx:Nat)),.int .i64 ((cx:Nat)),sx] rfl rfl) ?_;rintro _ w1 ⟨g1,rfl,hge1,hx1,hA1⟩;have hbs1:w.heap.size≤g1:=Nat.le_trans hX.size hge1;replace hX:=aQ.trans hX hx1;refine RL.p rfl rfl (cz.assign rfl) ?_;refine RL.nil ?_;refine ad ?_;refine RL.p rfl rfl (af [.int .i64 ((rx:Nat)),.int .i64 ((cx:Nat)),sx] aT rfl (hA1.cells 0 _ rfl rfl)) ?_;refine RL.x rfl rfl (dv.call vH (aJ rfl) (nv _ _ _ _ _ _ (bo.mk (cu.ext hSx hX) (by omega) (by omega)))) ?_;rintro _ w2 ⟨hx2,rfl⟩;replace hA1:=aX.ext hA1 hx2;replace hX:=aQ.trans hX hx2;refine RL.p rfl rfl (cz.assign rfl) ?_;refine RL.nil ?_;have hBw1:w.heap.size≤w2.heap.size:=hX.size;refine ay aq 17 [fun v zq=>v= .bool (decide (True)),fun v zq=>v= .bool (decide (True)),fun v zq=>(True)→(v= .pointer (some ⟨g1,0,none⟩)),fun v zq=>(True)→(v= .int .i64 ((rx:Nat))),fun v zq=>(True)→(v= .pointer (some ⟨g1,1,none⟩)),fun v zq=>(True)→(v= .int .i64 ((cx:Nat))),fun v zq=>(True)→(v= .bool (decide (((rx:Nat):Int)=((cx:Nat):Int)))),fun v zq=>v= .bool (decide ((True)∧(((rx:Nat):Int)=((cx:Nat):Int)))),fun v zq=>v= .bool (decide ((True)∧(((rx:Nat):Int)=((cx:Nat):Int)))),fun v zq=>((True)∧(((rx:Nat):Int)=((cx:Nat):Int)))→(v= .agg #[.int .i64 ((rx:Nat)),.int .i64 ((cx:Nat)),sx]),fun v zq=>((True)∧(((rx:Nat):Int)=((cx:Nat):Int)))→(jo zq v rx cx e0 Mx b),fun v zq=>((True)∧(((rx:Nat):Int)=((cx:Nat):Int)))→(iT zq v rx cx e0 Mx b),fun v zq=>((True)∧(((rx:Nat):Int)=((cx:Nat):Int)))→(v= .pointer (some ⟨g1,0,none⟩)),fun v zq=>((True)∧(((rx:Nat):Int)=((cx:Nat):Int)))→(v= .int .i64 ((rx:Nat))),fun v zq=>((True)∧(((rx:Nat):Int)=((cx:Nat):Int)))→(ck zq v w2.heap.size rx rx bI 1),fun v zq=>((True)∧(((rx:Nat):Int)=((cx:Nat):Int)))→(v= .bool (decide (True))),fun v zq=>v= .bool (decide (((True)∧(((rx:Nat):Int)=((cx:Nat):Int)))∧(True)))] rfl rfl ⟨aa _,aa _,dG.imp (aa _),dG.imp (aa _),dG.imp (aa _),dG.imp (aa _),dG.imp (aa _),aa _,aa _,dG.imp (aa _),dG.imp (nK _ _ _ _ _),dG.imp (oR _ _ _ _ _),dG.imp (aa _),dG.imp (aa _),dG.imp (bZ _ _ _ _ _),dG.imp (aa _),aa _,trivial⟩ ⟨fun e_ w_ zp zo zn=>ab (cz.move (((zo 3 rfl).trans rfl))),fun e_ w_ zp zo zn=>ab (cz.move ((zn 0 rfl))),fun e_ w_ zp zo zn=>am (p:=True) (zn 1 rfl) (fun hg=>dv.imp (p:=True) (φ:=fun v zq=>v= .pointer (some ⟨g1,0,none⟩)) (ab (cz.fieldAddr bj (((zo 1 rfl).trans rfl))))) (fun hn=>(fun hg=>absurd hg hn)),fun e_ w_ zp zo zn=>am (p:=True) (zn 1 rfl) (fun hg=>dv.imp (p:=True) (φ:=fun v zq=>v= .int .i64 ((rx:Nat))) (ab (cz.load bT ((zn 2 rfl hg)) ((aX.ext hA1 zp).at_ (i:=0) rfl rfl)))) (fun hn=>(fun hg=>absurd hg hn)),fun e_ w_ zp zo zn=>am (p:=True) (zn 1 rfl) (fun hg=>dv.imp (p:=True) (φ:=fun v zq=>v= .pointer (some ⟨g1,1,none⟩)) (ab (cz.fieldAddr bF (((zo 1 rfl).trans rfl))))) (fun hn=>(fun hg=>absurd hg hn)),fun e_ w_ zp zo zn=>am (p:=True) (zn 1 rfl) (fun hg=>dv.imp (p:=True) (φ:=fun v zq=>v= .int .i64 ((cx:Nat))) (ab (cz.load bT ((zn 4 rfl hg)) ((aX.ext hA1 zp).at_ (i:=1) rfl rfl)))) (fun hn=>(fun hg=>absurd hg hn)),fun e_ w_ zp zo zn=>am (p:=True) (zn 1 rfl) (fun hg=>dv.imp (p:=True) (φ:=fun v zq=>v= .bool (decide (((rx:Nat):Int)=((cx:Nat):Int)))) (ab (cz.eql ((zn 3 rfl hg)) ((zn 5 rfl hg))))) (fun hn=>(fun hg=>absurd hg hn)),fun e_ w_ zp zo zn=>ab (aG (p:=True) (q:=((rx:Nat):Int)=((cx:Nat):Int)) (zn 1 rfl) (fun hq=>(zn 6 rfl hq))),fun e_ w_ zp zo zn=>ab (cz.move ((zn 7 rfl))),fun e_ w_ zp zo zn=>am (p:=(True)∧(((rx:Nat):Int)=((cx:Nat):Int))) (zn 8 rfl) (fun hg=>dv.imp (p:=(True)∧(((rx:Nat):Int)=((cx:Nat):Int))) (φ:=fun v zq=>v= .agg #[.int .i64 ((rx:Nat)),.int .i64 ((cx:Nat)),sx]) (ab (af [.int .i64 ((rx:Nat)),.int .i64 ((cx:Nat)),sx] aT (((zo 1 rfl).trans rfl)) ((aX.ext hA1 zp).cells 0 _ rfl rfl)))) (fun hn=>(fun hg=>absurd hg hn)),fun e_ w_ zp zo zn=>am (p:=(True)∧(((rx:Nat):Int)=((cx:Nat):Int))) (zn 8 rfl) (fun hg=>dv.imp (p:=(True)∧(((rx:Nat):Int)=((cx:Nat):Int))) (φ:=fun v zq=>jo zq v rx cx e0 Mx b) (dv.call rm (aJ (zn 9 rfl hg)) (mo _ _ _ _ _ _ e0 b (bo.mk (cu.ext (cu.ext hSx hX) zp) (by omega) (by omega)) h8 hM hb hb1 hl))) (fun hn=>(fun hg=>absurd hg hn)),fun e_ w_ zp zo zn=>am (p:=(True)∧(((rx:Nat):Int)=((cx:Nat):Int))) (zn 8 rfl) (fun hg=>dv.imp (p:=(True)∧(((rx:Nat):Int)=((cx:Nat):Int))) (φ:=fun v zq=>iT zq v rx cx e0 Mx b) (aj (φ:=fun v zq=>iT zq v rx cx e0 Mx b) (qY pu aT rfl (zn 10 rfl hg)))) (fun hn=>(fun hg=>absurd hg hn)),fun e_ w_ zp zo zn=>am (p:=(True)∧(((rx:Nat):Int)=((cx:Nat):Int))) (zn 8 rfl) (fun hg=>dv.imp (p:=(True)∧(((rx:Nat):Int)=((cx:Nat):Int))) (φ:=fun v zq=>v= .pointer (some ⟨g1,0,none⟩)) (ab (cz.fieldAddr bj (((zo 1 rfl).trans rfl))))) (fun hn=>(fun hg=>absurd hg hn)),fun e_ w_ zp zo zn=>am (p:=(True)∧(((rx:Nat):Int)=((cx:Nat):Int))) (zn 8 rfl) (fun hg=>dv.imp (p:=(True)∧(((rx:Nat):Int)=((cx:Nat):Int))) (φ:=fun v zq=>v= .int .i64 ((rx:Nat))) (ab (cz.load bT ((zn 12 rfl hg)) ((aX.ext hA1 zp).at_ (i:=0) rfl rfl)))) (fun hn=>(fun hg=>absurd hg hn)),fun e_ w_ zp zo zn=>am (p:=(True)∧(((rx:Nat):Int)=((cx:Nat):Int))) (zn 8 rfl) (fun hg=>dv.imp (p:=(True)∧(((rx:Nat):Int)=((cx:Nat):Int))) (φ:=fun v zq=>ck zq v w2.heap.size rx rx bI 1) (dv.mono (dv.call py (aJ ((zn 13 rfl hg))) (fG _ rx (by omega))) fun v zr hv=>⟨hv.1,ck.low hv.2 zp.size⟩)) (fun hn=>(fun hg=>absurd hg hn)),fun e_ w_ zp zo zn=>am (p:=(True)∧(((rx:Nat):Int)=((cx:Nat):Int))) (zn 8 rfl) (fun hg=>dv.imp (p:=(True)∧(((rx:Nat):Int)=((cx:Nat):Int))) (φ:=fun v zq=>v= .bool (decide (True))) (dv.call jt (aF rfl rfl) (uj (zn 11 rfl hg) (ck.matV (zn 14 rfl hg)) hU))) (fun hn=>(fun hg=>absurd hg hn)),fun e_ w_ zp zo zn=>ab (aG (p:=(True)∧(((rx:Nat):Int)=((cx:Nat):Int))) (q:=True) (zn 8 rfl) (fun hq=>(zn 15 rfl hq))),trivial⟩ ?_;intro e1 w3 hx3 ho1 hf1;replace hA1:=aX.ext hA1 hx3;replace hX:=aQ.trans hX hx3;have s2_e1:e1 2= .bool (false):=(ho1 2 rfl).trans rfl;have s22_e1:e1 22= .bool (decide (((True)∧(((rx:Nat):Int)=((cx:Nat):Int)))∧(True))):=hf1 16 rfl;refine RL.p rfl rfl (cz.assign s22_e1) ?_;refine RL.nil ?_;refine WP.ret ?_;refine ⟨.bool (decide (((True)∧(((rx:Nat):Int)=((cx:Nat):Int)))∧(True))),yL.one (fR.tmp rfl),_,rfl,hX,?_⟩;dsimp only;exact congrArg _ (decide_eq_true ⟨⟨trivial,by omega⟩,trivial⟩)
set_option maxRecDepth 10000 in
theorem nz (w:World) (x:Value) (rx cx:Nat) (Mx:Nat→Nat→Int) (btx:Nat) (y:Value) (ry:Nat) (My:Nat→Nat→Int) (bty:Nat) (e0 b:Nat) (hx:bo w x rx cx Mx btx) (hy:bo w y ry cx My bty) (h8:rx + ry≤8) (hsq:rx + ry=cx) (hM:∀i j,i<rx + ry→j<cx→(fe rx Mx My i j).natAbs≤2^e0) (hbx:btx + 1≤b) (hby:bty + 1≤b) (hb:bR e0 (rx + ry)≤b) (hb1:2 + e0≤b) (hl:2*b + 300≤bl) (hU:∀k S,HermR (rx + ry) cx e0 (fe rx Mx My) k S→en (rx + ry) cx (rx + ry) (rx + ry) S.M bI):Calls Tryz.prog 17 #[x,y] w (cg w fun v w'=>v= .bool true):=by
 have hLIM:bl=562949953421312:=rfl;have hmatx:=hx;obtain ⟨sx,rfl,hrx,hcx,hSx⟩:=hx.form;have hmaty:=hy;obtain ⟨sy,rfl,hry,_,hSy⟩:=hy.form;refine ak (N:=31) (rs:= #[.tmp 4]) Tryz.func17 rfl rfl rfl (Nat.le_of_ble_eq_true rfl) ?_;have hX:aQ w w:=aQ.refl w;refine ad ?_;refine RL.x rfl rfl (dv.box [.int .i64 ((rx:Nat)),.int .i64 ((cx:Nat)),sx] rfl rfl) ?_;rintro _ w1 ⟨g1,rfl,hge1,hx1,hA1⟩;have hbs1:w.heap.size≤g1:=Nat.le_trans hX.size hge1;replace hX:=aQ.trans hX hx1;refine RL.x rfl rfl (dv.box [.int .i64 ((ry:Nat)),.int .i64 ((cx:Nat)),sy] rfl rfl) ?_;rintro _ w2 ⟨g2,rfl,hge2,hx2,hA2⟩;have ne1:g1≠g2:=Nat.ne_of_lt (Nat.lt_of_lt_of_le hA1.lt hge2);have hbs2:w.heap.size≤g2:=Nat.le_trans hX.size hge2;replace hA1:=aX.ext hA1 hx2;replace hX:=aQ.trans hX hx2;refine RL.p rfl rfl (cz.assign rfl) ?_;refine RL.nil ?_;refine ad ?_;refine RL.p rfl rfl (af [.int .i64 ((ry:Nat)),.int .i64 ((cx:Nat)),sy] aT rfl (hA2.cells 0 _ rfl rfl)) ?_;refine RL.x rfl rfl (dv.call vH (aJ rfl) (nv _ _ _ _ _ _ (bo.mk (cu.ext hSy hX) (by omega) (by omega)))) ?_;rintro _ w3 ⟨hx3,rfl⟩;replace hA1:=aX.ext hA1 hx3;replace hA2:=aX.ext hA2 hx3;replace hX:=aQ.trans hX hx3;refine RL.p rfl rfl (cz.assign rfl) ?_;refine RL.nil ?_;refine WP.seq ?_;refine ay aq 9 [fun v zq=>v= .bool (decide (True)),fun v zq=>v= .bool (decide (¬(True))),fun v zq=>v= .bool (decide (¬(True))),fun v zq=>(¬(¬(True)))→(v= .pointer (some ⟨g2,1,none⟩)),fun v zq=>(¬(¬(True)))→(v= .int .i64 ((cx:Nat))),fun v zq=>(¬(¬(True)))→(v= .pointer (some ⟨g1,1,none⟩)),fun v zq=>(¬(¬(True)))→(v= .int .i64 ((cx:Nat))),fun v zq=>(¬(¬(True)))→(v= .bool (decide (((cx:Nat):Int)≠((cx:Nat):Int)))),fun v zq=>v= .bool (decide ((¬(True))∨(((cx:Nat):Int)≠((cx:Nat):Int))))] rfl rfl ⟨aa _,aa _,aa _,dG.imp (aa _),dG.imp (aa _),dG.imp (aa _),dG.imp (aa _),dG.imp (aa _),aa _,trivial⟩ ⟨fun e_ w_ zp zo zn=>ab (cz.move (((zo 5 rfl).trans rfl))),fun e_ w_ zp zo zn=>ab (cz.not (p:=True) (zn 0 rfl)),fun e_ w_ zp zo zn=>ab (cz.move ((zn 1 rfl))),fun e_ w_ zp zo zn=>aC (p:=¬(True)) (zn 2 rfl) (fun hg=>dv.imp (p:=¬(¬(True))) (φ:=fun v zq=>v= .pointer (some ⟨g2,1,none⟩)) (ab (cz.fieldAddr bF (((zo 3 rfl).trans rfl))))) (fun hn=>(fun hg=>absurd hn hg)),fun e_ w_ zp zo zn=>aC (p:=¬(True)) (zn 2 rfl) (fun hg=>dv.imp (p:=¬(¬(True))) (φ:=fun v zq=>v= .int .i64 ((cx:Nat))) (ab (cz.load bT ((zn 3 rfl hg)) ((aX.ext hA2 zp).at_ (i:=1) rfl rfl)))) (fun hn=>(fun hg=>absurd hn hg)),fun e_ w_ zp zo zn=>aC (p:=¬(True)) (zn 2 rfl) (fun hg=>dv.imp (p:=¬(¬(True))) (φ:=fun v zq=>v= .pointer (some ⟨g1,1,none⟩)) (ab (cz.fieldAddr bF (((zo 2 rfl).trans rfl))))) (fun hn=>(fun hg=>absurd hn hg)),fun e_ w_ zp zo zn=>aC (p:=¬(True)) (zn 2 rfl) (fun hg=>dv.imp (p:=¬(¬(True))) (φ:=fun v zq=>v= .int .i64 ((cx:Nat))) (ab (cz.load bT ((zn 5 rfl hg)) ((aX.ext hA1 zp).at_ (i:=1) rfl rfl)))) (fun hn=>(fun hg=>absurd hn hg)),fun e_ w_ zp zo zn=>aC (p:=¬(True)) (zn 2 rfl) (fun hg=>dv.imp (p:=¬(¬(True))) (φ:=fun v zq=>v= .bool (decide (((cx:Nat):Int)≠((cx:Nat):Int)))) (ab (cz.neq ((zn 4 rfl hg)) ((zn 6 rfl hg))))) (fun hn=>(fun hg=>absurd hn hg)),fun e_ w_ zp zo zn=>ab (ce (p:=¬(True)) (q:=((cx:Nat):Int)≠((cx:Nat):Int)) (zn 2 rfl) (fun hq=>(zn 7 rfl hq))),trivial⟩ ?_;intro e1 w4 hx4 ho1 hf1;replace hA1:=aX.ext hA1 hx4;replace hA2:=aX.ext hA2 hx4;replace hX:=aQ.trans hX hx4;have s2_e1:e1 2= .pointer (some ⟨g1,0,none⟩):=(ho1 2 rfl).trans rfl;have s3_e1:e1 3= .pointer (some ⟨g2,0,none⟩):=(ho1 3 rfl).trans rfl;have s4_e1:e1 4= .bool (false):=(ho1 4 rfl).trans rfl;have s18_e1:e1 18= .bool (decide ((¬(True))∨(((cx:Nat):Int)≠((cx:Nat):Int)))):=hf1 8 rfl;refine RL.nil ?_;refine ag ((¬(True))∨(((cx:Nat):Int)≠((cx:Nat):Int))) s18_e1 (fun c18=> ?_) (fun c18=> ?_)
 ·
  refine ad ?_;refine RL.p rfl rfl (cz.assign rfl) ?_;refine RL.nil ?_;refine WP.ret ?_;refine pi.ret ?_;refine ⟨.bool (false),yL.one (fR.tmp rfl),_,rfl,hX,?_⟩;dsimp only;exact c18.elim (fun h=>absurd trivial h) (fun h=>absurd rfl h)
 ·
  refine WP.skip ?_;refine pi.norm ?_;refine ad ?_;refine RL.p rfl rfl (af [.int .i64 ((rx:Nat)),.int .i64 ((cx:Nat)),sx] aT s2_e1 (hA1.cells 0 _ rfl rfl)) ?_;refine RL.p rfl rfl (af [.int .i64 ((ry:Nat)),.int .i64 ((cx:Nat)),sy] aT s3_e1 (hA2.cells 0 _ rfl rfl)) ?_;refine RL.x rfl rfl (dv.call yi (aF rfl rfl) (ud _ _ _ _ _ _ _ _ _ _ b (bo.mk (cu.ext hSx hX) (by omega) (by omega)) (bo.mk (cu.ext hSy hX) (by omega) (by omega)) (by omega) hbx hby (by omega))) ?_;rintro _ w5 ⟨hx5,v1,rfl,q1⟩;replace hA1:=aX.ext hA1 hx5;replace hA2:=aX.ext hA2 hx5;replace hX:=aQ.trans hX hx5;refine RL.p rfl rfl (cz.move rfl) ?_;refine RL.p rfl rfl (cz.extract rfl rfl) ?_;refine RL.p rfl rfl (cz.extract rfl rfl) ?_;refine RL.x rfl rfl (dv.alloc [.int .i64 (0),.int .i64 (0),.slice (none) (0) (0)] bE rfl) ?_;rintro _ w6 ⟨g3,rfl,hge3,hx6,hA3⟩;have ne2:g1≠g3:=Nat.ne_of_lt (Nat.lt_of_lt_of_le hA1.lt hge3);have ne3:g2≠g3:=Nat.ne_of_lt (Nat.lt_of_lt_of_le hA2.lt hge3);have hbs3:w.heap.size≤g3:=Nat.le_trans hX.size hge3;replace hA1:=aX.ext hA1 hx6;replace hA2:=aX.ext hA2 hx6;replace q1:=bo.ext q1 hx6;replace hX:=aQ.trans hX hx6;obtain ⟨sv1,hq1,hr1,hc1,hS1⟩:=q1.form;refine RL.x rfl rfl (dv.store [.int .i64 ((rx + ry:Nat)),.int .i64 ((cx:Nat)),sv1] bO rfl hq1 rfl hA3 (Nat.le_of_ble_eq_true rfl) (bP rfl rfl hS1.one)) ?_;rintro _ w7 ⟨hk1,hnew⟩;replace hA1:=hA1.keep hk1 ne2;replace hA2:=hA2.keep hk1 ne3;replace q1:=cS q1 hk1 hA3 (by decide);replace hS1:=aA hS1 hk1 hA3 (by decide);replace hX:=hX.step hk1 (fun b e=>by subst e;exact hbs3);replace hA3:=hnew.lit [.int .i64 ((rx + ry:Nat)),.int .i64 ((cx:Nat)),sv1] rfl;clear hnew;refine RL.p rfl rfl (cz.assign rfl) ?_;refine RL.nil ?_;refine ay aq 6 [fun v zq=>v= .int .i64 (0),fun v zq=>v= .bool (decide ((0:Int)=(0:Int))),fun v zq=>v= .bool (decide ((0:Int)=(0:Int))),fun v zq=>((0:Int)=(0:Int))→(v= .agg #[.int .i64 ((rx + ry:Nat)),.int .i64 ((cx:Nat)),sv1]),fun v zq=>((0:Int)=(0:Int))→(v= .bool (decide (True))),fun v zq=>v= .bool (decide (((0:Int)=(0:Int))∧(True)))] rfl rfl ⟨aa _,aa _,aa _,dG.imp (aa _),dG.imp (aa _),aa _,trivial⟩ ⟨fun e_ w_ zp zo zn=>ab (cz.move (((zo 7 rfl).trans rfl))),fun e_ w_ zp zo zn=>ab (cz.eql ((zn 0 rfl)) rfl),fun e_ w_ zp zo zn=>ab (cz.move ((zn 1 rfl))),fun e_ w_ zp zo zn=>am (p:=(0:Int)=(0:Int)) (zn 2 rfl) (fun hg=>dv.imp (p:=(0:Int)=(0:Int)) (φ:=fun v zq=>v= .agg #[.int .i64 ((rx + ry:Nat)),.int .i64 ((cx:Nat)),sv1]) (ab (af [.int .i64 ((rx + ry:Nat)),.int .i64 ((cx:Nat)),sv1] aT (((zo 6 rfl).trans rfl)) ((aX.ext hA3 zp).cells 0 _ rfl rfl)))) (fun hn=>(fun hg=>absurd hg hn)),fun e_ w_ zp zo zn=>am (p:=(0:Int)=(0:Int)) (zn 2 rfl) (fun hg=>dv.imp (p:=(0:Int)=(0:Int)) (φ:=fun v zq=>v= .bool (decide (True))) (dv.call yb (aJ ((zn 3 rfl hg))) ((ml _ _ (rx + ry) cx (fe rx Mx My) _ e0 b (bo.mk (cu.ext hS1 zp) (by omega) (by omega)) h8 hM hb hb1 hl hsq hU)))) (fun hn=>(fun hg=>absurd hg hn)),fun e_ w_ zp zo zn=>ab (aG (p:=(0:Int)=(0:Int)) (q:=True) (zn 2 rfl) (fun hq=>(zn 4 rfl hq))),trivial⟩ ?_;intro e2 w8 hx7 ho2 hf2;replace q1:=bo.ext q1 hx7;replace hA3:=aX.ext hA3 hx7;replace hS1:=cu.ext hS1 hx7;replace hX:=aQ.trans hX hx7;have s4_e2:e2 4= .bool (false):=(ho2 4 rfl).trans s4_e1;have s30_e2:e2 30= .bool (decide (((0:Int)=(0:Int))∧(True))):=hf2 5 rfl;refine RL.p rfl rfl (cz.assign s30_e2) ?_;refine RL.nil ?_;refine WP.ret ?_;refine ⟨.bool (decide (((0:Int)=(0:Int))∧(True))),yL.one (fR.tmp rfl),_,rfl,hX,?_⟩;dsimp only;exact congrArg _ (decide_eq_true ⟨rfl,trivial⟩)
end Go.TL
namespace Go.TL
set_option linter.unusedVariables false
theorem fp {f:Nat→Int} {k:Nat}:∀{n:Nat},k≤n→(∀i,k≤i→i<n→f i=0)→ar n f=ar k f
  | 0,h,_=>by rw [show k=0 by omega]
  | n + 1,h,hz=>by
    by_cases e:k=n + 1
    · rw [e]
    · simp only [ar];rw [fp (n:=n) (by omega) fun i h1 h2=>hz i h1 (by omega),hz n (by omega) (by omega)];omega
theorem kl (f:Nat→Int) (k:Nat):∀n,ar (k + n) f=ar k f + ar n (fun i=>f (k + i))
  | 0=>by simp [ar]
  | n + 1=>by rw [show k + (n + 1)=k + n + 1 by omega];simp only [ar];rw [kl f k n];omega
def er (n c:Nat) (M:Nat→Nat→Int) (v:Nat→Int):Prop:=∃a:Nat→Int,∀j,j<c→v j=ar n (fun i=>a i*M i j)
theorem er.congr {n c:Nat} {M M':Nat→Nat→Int} {v:Nat→Int} (h:er n c M v) (he:∀i j,i<n→j<c→M i j=M' i j):er n c M' v:=by
  obtain ⟨a,h⟩:=h;exact ⟨a,fun j hj=>by rw [h j hj];exact az fun i hi=>by rw [he i j hi hj]⟩
theorem er.row {n c:Nat} {M:Nat→Nat→Int} {i:Nat} (hi:i<n):er n c M (M i):=
  ⟨fun x=>if x=i then 1 else 0,fun j hj=>by
    have:=eO (f:=fun x=>M x j) hi;rw [←this];exact az fun x _=>by by_cases e:x=i<;>simp [e]⟩
theorem er.sub {n c:Nat} {M:Nat→Nat→Int} {u v:Nat→Int} (h:er n c M u) (g:er n c M v):er n c M (fun j=>u j - v j):=by
  obtain ⟨a,h⟩:=h;obtain ⟨b,g⟩:=g;refine ⟨fun i=>a i - b i,fun j hj=> ?_⟩;show u j - v j=_;rw [h j hj,g j hj,←eN];exact az fun i _=>(Int.sub_mul _ _ _).symm
theorem er.cut {k n c:Nat} {M:Nat→Nat→Int} (hk:k≤n) (hz:∀i,k≤i→i<n→∀j,j<c→M i j=0) {v:Nat→Int}:er n c M v↔er k c M v:=by
  constructor
  · rintro ⟨a,h⟩
    exact ⟨a,fun j hj=>by rw [h j hj];exact fp hk fun i h1 h2=>by rw [hz i h1 h2 j hj,Int.mul_zero]⟩
  · rintro ⟨a,h⟩
    refine ⟨fun i=>if i<k then a i else 0,fun j hj=> ?_⟩;rw [h j hj,fp (n:=n) hk fun i h1 h2=>by rw [hz i h1 h2 j hj,Int.mul_zero]];exact az fun i hi=>by simp only [if_pos hi]
theorem cK (r n:Nat) (a:Nat→Int) (A B:Nat→Nat→Int) (j:Nat):ar r (fun i=>a i*cv n A B i j)=ar n (fun x=>ar r (fun i=>a i*A i x)*B x j):=
  (kI r n (fun _=>a) A B 0 j).symm
section
variable {r c:Nat} {M0:Nat→Nat→Int} {S:WS}
theorem Lin.lat (h:Lin r c M0 S) {v:Nat→Int}:er r c M0 v↔er r c S.M v:=by
  constructor
  · rintro ⟨a,g⟩
    refine ⟨fun x=>ar r (fun i=>a i*S.V i x),fun j hj=> ?_⟩;rw [g j hj,←cK];exact az fun i hi=>by rw [h.back hi hj]
  · rintro ⟨a,g⟩
    refine ⟨fun x=>ar r (fun i=>a i*S.U i x),fun j hj=> ?_⟩;rw [g j hj,←cK];exact az fun i hi=>by rw [h.eq i j hi hj]
end
def eV (k c:Nat) (M:Nat→Nat→Int) (P:Nat→Nat):Prop:=∀i,i<k→P i<c∧0<M i (P i)∧(∀j,j<P i→M i j=0)∧∀n,n<i→P n<P i∧0≤M n (P i)∧M n (P i)<M i (P i)
theorem eV.lead {k c:Nat} {M:Nat→Nat→Int} {P:Nat→Nat} (h:eV k c M P) {a:Nat→Int} {v:Nat→Int} (hv:∀j,j<c→v j=ar k (fun i=>a i*M i j)):
    (∀i,i<k→a i=0)∨∃j,j<k∧(∀x,x<P j→v x=0)∧v (P j)≠0∧M j (P j)∣v (P j):=by
  by_cases hz:∀i,i<k→a i=0
  · exact .inl hz
  · have hex:∃i,i<k∧a i≠0:=by
      apply Classical.byContradiction;intro hn
      exact hz fun i hi=>Classical.byContradiction fun h=>hn ⟨i,hi,h⟩
    have hmin:∃j,j<k∧a j≠0∧∀i,i<j→a i=0:=by
      obtain ⟨i,hi,ha⟩:=hex
      induction i using Nat.strongRecOn with
      | _ i ih=>
        by_cases hk:∃x,x<i∧a x≠0
        · obtain ⟨x,hx,hxa⟩:=hk;exact ih x hx (by omega) hxa
        · exact ⟨i,hi,ha,fun x hx=>Classical.byContradiction fun h=>hk ⟨x,hx,h⟩⟩
    obtain ⟨j,hj,hja,hjm⟩:=hmin;obtain ⟨g1,g2,g3,_⟩:=h j hj;have hval:v (P j)=a j*M j (P j):=by
      rw [hv _ g1];refine cH hj fun i hi hne=> ?_
      rcases Nat.lt_or_ge i j with hlt | hge
      · rw [hjm i hlt,Int.zero_mul]
      · obtain ⟨_,_,k3,k4⟩:=h i hi
        rw [k3 (P j) (k4 j (by omega)).1,Int.mul_zero]
    refine .inr ⟨j,hj,fun x hx=> ?_,?_,⟨a j,by rw [hval,Int.mul_comm]⟩⟩
    · rw [hv x (by omega)]
      refine cN fun i hi=> ?_
      rcases Nat.lt_or_ge i j with hlt | hge
      · rw [hjm i hlt,Int.zero_mul]
      · obtain ⟨_,_,k3,k4⟩:=h i hi
        by_cases e:i=j
        · subst e;rw [k3 x hx,Int.mul_zero]
        · have:=(k4 j (by omega)).1
          rw [k3 x (by omega),Int.mul_zero]
    · rw [hval];intro h0
      rcases Int.mul_eq_zero.1 h0 with h1 | h1
      · exact hja h1
      · omega
theorem eV.inl {k c:Nat} {M:Nat→Nat→Int} {P:Nat→Nat} (h:eV k c M P) {v:Nat→Int} (hv:er k c M v):
    (∀j,j<c→v j=0)∨∃j,j<k∧(∀x,x<P j→v x=0)∧v (P j)≠0∧M j (P j)∣v (P j):=by
  obtain ⟨a,hv⟩:=hv;rcases h.lead hv with h1 | h1
  · exact .inl fun j hj=>by rw [hv j hj];exact cN fun i hi=>by rw [h1 i hi,Int.zero_mul]
  · exact .inr h1
theorem eV.inc {k c:Nat} {M:Nat→Nat→Int} {P:Nat→Nat} (h:eV k c M P) {i j:Nat} (hi:i<k) (hj:j<k) (e:P i=P j):i=j:=by
  rcases Nat.lt_trichotomy i j with h1 | h1 | h1
  · have:=((h j hj).2.2.2 i h1).1;omega
  · exact h1
  · have:=((h i hi).2.2.2 j h1).1;omega
theorem eV.sub {k k' c:Nat} {M M':Nat→Nat→Int} {P P':Nat→Nat} (h:eV k c M P) (h':eV k' c M' P') (hs:∀v,er k c M v→er k' c M' v) {i:Nat} (hi:i<k):
    ∃j,j<k'∧P' j=P i∧M' j (P i)∣M i (P i):=by
  obtain ⟨g1,g2,g3,_⟩:=h i hi;rcases h'.inl (hs _ (er.row (M:=M) hi)) with h1 | ⟨j,hj,h1,h2,h3⟩
  · have:=h1 _ g1;omega
  · have e:P' j=P i:=by
      rcases Nat.lt_trichotomy (P' j) (P i) with h4 | h4 | h4
      · exact absurd (g3 _ h4) h2
      · exact h4
      · have:=h1 _ h4;omega
    exact ⟨j,hj,e,by rw [←e];exact h3⟩
theorem eV.same {k k' c:Nat} {M M':Nat→Nat→Int} {P P':Nat→Nat} (h:eV k c M P) (h':eV k' c M' P') (hs:∀v,er k c M v→er k' c M' v) (hs':∀v,er k' c M' v→er k c M v):
    ∀n,∀i,i<n→i<k→i<k'∧P' i=P i∧M' i (P i)=M i (P i)
  | 0,i,hn,_=>by omega
  | n + 1,i,hn,hi=>by
    by_cases e:i<n
    · exact eV.same h h' hs hs' n i e hi
    · have ih:=eV.same h h' hs hs' n
      obtain ⟨j,hj,hP,hd⟩:=h.sub h' hs hi;obtain ⟨i2,hi2,hP2,hd2⟩:=h'.sub h hs' hj;have e2:i2=i:=h.inc hi2 hi (hP2.trans hP);subst e2;have hij:i2≤j:=by
        rcases Nat.lt_or_ge j i2 with h1 | h1
        · obtain ⟨_,h3,_⟩:=ih j (by omega) (by omega)
          have:=h.inc (i:=j) (j:=i2) (by omega) hi (by rw [←h3];exact hP);omega
        · exact h1
      have hji:j≤i2:=by
        rcases Nat.lt_or_ge i2 j with h1 | h1
        ·
          obtain ⟨m,hm,hPm,_⟩:=h'.sub h hs' (i:=i2) (by omega);have h3:=((h' j hj).2.2.2 i2 h1).1;have h4:m<i2:=by
            rcases Nat.lt_trichotomy m i2 with h5 | h5 | h5
            · exact h5
            · subst h5;omega
            · have:=((h m hm).2.2.2 i2 h5).1;omega
          obtain ⟨h6,h7,_⟩:=ih m (by omega) hm;have:=h'.inc (i:=m) (j:=i2) h6 (by omega) (by omega);omega
        · exact h1
      have e3:j=i2:=by omega
      subst e3;refine ⟨hj,hP,?_⟩;have p1:=(h j hi).2.1;have p2:=(h' j hj).2.1;rw [hP] at p2 hd2;exact Int.dvd_antisymm (by omega) (by omega) hd hd2
theorem eV.unique {k k' c:Nat} {M M':Nat→Nat→Int} {P P':Nat→Nat} (h:eV k c M P) (h':eV k' c M' P') (hs:∀v,er k c M v↔er k' c M' v):k=k'∧∀i j,i<k→j<c→M i j=M' i j:=by
  have h1:=fun i hi=>eV.same h h' (fun v=>(hs v).1) (fun v=>(hs v).2) (i + 1) i (by omega) hi
  have h2:=fun i hi=>eV.same h' h (fun v=>(hs v).2) (fun v=>(hs v).1) (i + 1) i (by omega) hi
  have hk:k=k':=by
    rcases Nat.lt_trichotomy k k' with h3 | h3 | h3
    · have:=(h2 k h3).1;omega
    · exact h3
    · have:=(h1 k' h3).1;omega
  refine ⟨hk,fun i j hi hj=> ?_⟩;have hrow:er k c M (fun j=>M i j - M' i j):=er.sub (er.row hi) ((hs _).2 (er.row (h1 i hi).1));rcases h.inl hrow with h3 | ⟨m,hm,h3,h4,h5⟩
  · have:=h3 j hj;omega
  · exfalso
    obtain ⟨a1,a2,a3⟩:=h1 i hi;obtain ⟨b1,b2,b3⟩:=h1 m hm;obtain ⟨g1,g2,g3,g4⟩:=h i hi;obtain ⟨f1,f2,f3,f4⟩:=h m hm;have hmi:i<m:=by
      rcases Nat.lt_trichotomy i m with e | e | e
      · exact e
      · subst e;exact absurd (by rw [a3];omega) h4
      · have e1:=(g4 m e).1
        have e2:=g3 _ e1;have e3:=(h' i a1).2.2.1 (P m) (by omega);exact absurd (by rw [e2,e3];rfl) h4
    have c1:=(f4 i hmi).2;have c2:=((h' m b1).2.2.2 i hmi).2;rw [b2,b3] at c2;obtain ⟨t,ht⟩:=h5;have c3:(M i (P m) - M' i (P m)).natAbs<(M m (P m)).natAbs:=by omega
    have c4:(M m (P m)).natAbs≤(M i (P m) - M' i (P m)).natAbs:=by
      rw [ht,Int.natAbs_mul];refine Nat.le_mul_of_pos_right _ ?_;rcases Nat.eq_zero_or_pos t.natAbs with h0 | h0
      · have:t=0:=by omega
        subst this;exact absurd (by rw [ht,Int.mul_zero]) h4
      · exact h0
    omega
theorem io.toP {r k c:Nat} {M:Nat→Nat→Int} (h:io r k c M):(∃P,eV k c M P)∧∀i,k≤i→i<r→∀j,j<c→M i j=0:=by
  obtain ⟨P,h1,h2⟩:=h;exact ⟨⟨P,h1⟩,h2⟩
theorem fM {r c k:Nat} {M0:Nat→Nat→Int} {S:WS} (hl:Lin r c M0 S) (hk:k≤r) (he:io r k c S.M) {v:Nat→Int}:er r c M0 v↔er k c S.M v:=
  hl.lat.trans (er.cut hk he.toP.2)
def Ker (r c:Nat) (M0:Nat→Nat→Int) (u:Nat→Int):Prop:=∀j,j<c→ar r (fun i=>u i*M0 i j)=0
theorem jL {r c k:Nat} {M0:Nat→Nat→Int} {S:WS} (hl:Lin r c M0 S) (hk:k≤r) (he:io r k c S.M) {u:Nat→Int}:Ker r c M0 u↔er (r - k) r (fun i=>S.U (k + i)) u:=by
  obtain ⟨⟨P,hP⟩,hz⟩:=he.toP
  constructor
  · intro hu
    have hcoord:∀j,j<r→u j=ar r (fun i=>ar r (fun x=>u x*S.V x i)*S.U i j):=fun j hj=>by
      rw [←cK];have h1:ar r (fun i=>u i*cv r S.V S.U i j)=ar r (fun i=>u i*bI i j):=az fun i hi=>by rw [hl.vu i j hi hj]
      rw [h1,cH hj fun x _ hne=>by simp [bI,hne]];simp [bI]
    have hzero:∀j,j<c→ar k (fun i=>ar r (fun x=>u x*S.V x i)*S.M i j)=0:=fun j hj=>by
      have h1:ar r (fun i=>u i*cv r S.V S.M i j)=0:=by rw [←hu j hj];exact az fun i hi=>by rw [hl.back hi hj]
      rw [cK,fp hk fun i h2 h3=>by rw [hz i h2 h3 j hj,Int.mul_zero]] at h1;exact h1
    have hc:∀i,i<k→ar r (fun x=>u x*S.V x i)=0:=by
      rcases hP.lead (a:=fun i=>ar r (fun x=>u x*S.V x i)) (v:=fun _=>0) (fun j hj=>(hzero j hj).symm) with h1 | ⟨_,_,_,h2,_⟩
      · exact h1
      · exact absurd rfl h2
    refine ⟨fun i=>ar r (fun x=>u x*S.V x (k + i)),fun j hj=> ?_⟩;have h5:=kl (fun i=>ar r (fun x=>u x*S.V x i)*S.U i j) k (r - k);rw [show k + (r - k)=r by omega] at h5;rw [hcoord j hj,h5,cN fun i hi=>by rw [hc i hi,Int.zero_mul],Int.zero_add]
  · rintro ⟨a,h⟩ j hj
    have h1:ar r (fun i=>u i*M0 i j)=ar r (fun i=>ar (r - k) (fun x=>a x*S.U (k + x) i)*M0 i j):=az fun i hi=>by rw [h i hi]
    rw [h1];have h2:=(cK (r - k) r a (fun x=>S.U (k + x)) M0 j).symm;rw [h2];refine cN fun i hi=> ?_
    have h3:cv r (fun x=>S.U (k + x)) M0 i j=S.M (k + i) j:=(hl.eq (k + i) j (by omega) hj).symm;rw [h3,hz (k + i) (by omega) (by omega) j hj,Int.mul_zero]
theorem Ker.congr {r c:Nat} {M M':Nat→Nat→Int} (he:∀i j,i<r→j<c→M i j=M' i j) {u:Nat→Int}:Ker r c M u↔Ker r c M' u:=by
  constructor<;>intro h j hj
  · rw [←h j hj];exact az fun i hi=>by rw [he i j hi hj]
  · rw [←h j hj];exact az fun i hi=>by rw [he i j hi hj]
theorem fT.lat {r c e0 k:Nat} {M0 M:Nat→Nat→Int} (h:fT r c e0 M0 k M):(∃P,eV k r M P)∧∀u,er k r M u↔Ker r c M0 u:=by
  obtain ⟨k1,S1,S2,h1,h2,rfl⟩:=h;exact ⟨h2.ech.toP.1,fun u=>(fM h2.lin h2.kr h2.ech).symm.trans (jL h1.lin h1.kr h1.ech).symm⟩
theorem jC.lat {r c e0 k:Nat} {M0 M:Nat→Nat→Int} (h:jC r c e0 M0 k M):(∃P,eV k r M P)∧∀u,er k r M u↔Ker r c M0 u:=by
  obtain ⟨k1,S1,S2,h1,h2,rfl⟩:=h;exact ⟨h2.ech.toP.1,fun u=>(fM h2.lin h2.kr h2.ech).symm.trans (jL h1.lin h1.kr h1.ech).symm⟩
theorem lR {r c k k' e0 e0':Nat} {M0 M M':Nat→Nat→Int} (h:fT r c e0 M0 k M) (h':jC r c e0' M0 k' M'):k=k'∧∀i j,i<k→j<r→M i j=M' i j:=by
  obtain ⟨⟨P,hP⟩,h1⟩:=h.lat;obtain ⟨⟨P',hP'⟩,h2⟩:=h'.lat;exact hP.unique hP' fun v=>(h1 v).trans (h2 v).symm
end Go.TL
namespace Go.TL
set_option linter.unusedVariables false
theorem rM {r c k k' e0 e0' e1:Nat} {M0 M M':Nat→Nat→Int} (h:iO r c e0 M0 k M) (h':vj r c e0' e1 M0 k' M'):k=k'∧∀i j,i<k→j<c→M i j=M' i j:=by
  obtain ⟨k1,K1,a1,a2⟩:=h;obtain ⟨k1',K1',b1,b2⟩:=h';obtain ⟨rfl,e⟩:=lR a1 b1;obtain ⟨⟨P,hP⟩,h1⟩:=a2.lat;obtain ⟨⟨P',hP'⟩,h2⟩:=b2.lat;refine hP.unique hP' fun v=>(h1 v).trans (Iff.trans ?_ (h2 v).symm)
  exact Ker.congr fun i j hi hj=>e j i hj hi
def od (r c:Nat) (M0:Nat→Nat→Int) (v:Nat→Int):Prop:=∀u:Nat→Int,(∀i,i<r→ar c (fun j=>u j*M0 i j)=0)→ar c (fun j=>v j*u j)=0
theorem dQ (u v:Nat→Int) (n:Nat):ar n (fun j=>u j*v j)=ar n (fun j=>v j*u j):=az fun _ _=>Int.mul_comm _ _
theorem ju {r c k k1:Nat} {M0 K1 M:Nat→Nat→Int} (h1:∀u,er k1 c K1 u↔Ker c r (fX M0) u) (h2:∀v,er k c M v↔Ker c k1 (fX K1) v) (v:Nat→Int):er k c M v↔od r c M0 v:=by
  rw [h2]
  constructor
  · intro hk u hu
    obtain ⟨a,ha⟩:=(h1 u).2 fun j hj=>hu j hj
    have e1:ar c (fun j=>v j*u j)=ar c (fun j=>u j*v j):=dQ _ _ _;have e2:ar c (fun j=>u j*v j)=ar c (fun j=>ar k1 (fun x=>a x*K1 x j)*v j):=az fun j hj=>by rw [ha j hj]
    have e3:ar c (fun j=>ar k1 (fun x=>a x*K1 x j)*v j)=ar k1 (fun x=>a x*ar c (fun j=>K1 x j*v j)):=(cK k1 c a K1 (fun j _=>v j) 0).symm;rw [e1,e2,e3];refine cN fun x hx=> ?_
    have e4:ar c (fun j=>K1 x j*v j)=ar c (fun j=>v j*fX K1 j x):=dQ _ _ _;rw [e4,hk x hx,Int.mul_zero]
  · intro hs x hx
    exact hs (K1 x) fun i hi=>(h1 (K1 x)).1 (er.row hx) i hi
theorem iO.lat {r c e0 k:Nat} {M0 M:Nat→Nat→Int} (h:iO r c e0 M0 k M):(∃P,eV k c M P)∧∀v,er k c M v↔od r c M0 v:=by
  obtain ⟨k1,K1,a1,a2⟩:=h;exact ⟨a2.lat.1,ju a1.lat.2 a2.lat.2⟩
theorem vj.lat {r c e0 e1 k:Nat} {M0 M:Nat→Nat→Int} (h:vj r c e0 e1 M0 k M):(∃P,eV k c M P)∧∀v,er k c M v↔od r c M0 v:=by
  obtain ⟨k1,K1,a1,a2⟩:=h;exact ⟨a2.lat.1,ju a1.lat.2 a2.lat.2⟩
section
variable {r c k:Nat} {M0:Nat→Nat→Int} {S:WS}
theorem iB (hl:Lin c r (fX M0) S) (hk:k≤c) (he:io c k r S.M) {i j:Nat} (hi:i<r) (hj:j<c):M0 i j=ar k (fun x=>S.M x i*S.V j x):=by
  have h1:M0 i j=cv c S.V S.M j i:=hl.back hj hi;rw [h1]
  unfold cv
  rw [fp hk fun x h2 h3=>by rw [he.toP.2 x h2 h3 i hi,Int.mul_zero]];exact dQ _ _ _
theorem vZ (hl:Lin c r (fX M0) S) (v:Nat→Int) {j:Nat} (hj:j<c):v j=ar c (fun x=>ar c (fun y=>S.U x y*v y)*S.V j x):=by
  have h1:ar c (fun x=>ar c (fun y=>S.U x y*v y)*S.V j x)=ar c (fun x=>S.V j x*ar c (fun y=>S.U x y*v y)):=dQ _ _ _;have h2:ar c (fun x=>S.V j x*ar c (fun y=>S.U x y*v y))=ar c (fun y=>ar c (fun x=>S.V j x*S.U x y)*v y):=cK c c (S.V j) S.U (fun y _=>v y) 0;have h3:ar c (fun y=>ar c (fun x=>S.V j x*S.U x y)*v y)=ar c (fun y=>bI j y*v y):=az fun y hy=>by rw [←hl.vu j y hj hy];rfl
  rw [h1,h2,h3,cH hj fun x _ hne=>by simp [bI,Ne.symm hne]];simp [bI]
theorem iy (hl:Lin c r (fX M0) S) (hk:k≤c) (he:io c k r S.M) (v:Nat→Int):od r c M0 v↔er k c (fun x j=>S.V j x) v:=by
  constructor
  · intro hs
    have h0:∀x,k≤x→x<c→ar c (fun y=>S.U x y*v y)=0:=fun x h1 h2=>by
      have e1:ar c (fun y=>S.U x y*v y)=ar c (fun y=>v y*S.U x y):=dQ _ _ _;rw [e1];refine hs (S.U x) fun i hi=> ?_
      have e2:ar c (fun j=>S.U x j*M0 i j)=S.M x i:=(hl.eq x i h2 hi).symm;rw [e2,he.toP.2 x h1 h2 i hi]
    refine ⟨fun x=>ar c (fun y=>S.U x y*v y),fun j hj=> ?_⟩;have h2:=vZ hl v hj;rw [fp hk fun x h1 h2=>by rw [h0 x h1 h2,Int.zero_mul]] at h2;exact h2
  · rintro ⟨a,ha⟩ u hu
    obtain ⟨b,hb⟩:=(jL hl hk he (u:=u)).1 fun i hi=>hu i hi
    have e1:ar c (fun j=>v j*u j)=ar c (fun j=>ar k (fun x=>a x*S.V j x)*u j):=az fun j hj=>by rw [ha j hj]
    have e2:ar c (fun j=>ar k (fun x=>a x*S.V j x)*u j)=ar k (fun x=>a x*ar c (fun j=>S.V j x*u j)):=(cK k c a (fun x j=>S.V j x) (fun j _=>u j) 0).symm;rw [e1,e2];refine cN fun x hx=> ?_
    have e3:ar c (fun j=>S.V j x*u j)=ar c (fun j=>ar (c - k) (fun y=>b y*S.U (k + y) j)*S.V j x):=by
      rw [dQ];exact az fun j hj=>by rw [hb j hj]
    have e4:ar c (fun j=>ar (c - k) (fun y=>b y*S.U (k + y) j)*S.V j x)=ar (c - k) (fun y=>b y*ar c (fun j=>S.U (k + y) j*S.V j x)):=(cK (c - k) c b (fun y=>S.U (k + y)) (fun j _=>S.V j x) 0).symm;rw [e3,e4,cN fun y hy=> ?_,Int.mul_zero];have e5:ar c (fun j=>S.U (k + y) j*S.V j x)=bI (k + y) x:=hl.uv (k + y) x (by omega) (by omega);rw [e5];have:bI (k + y) x=0:=by unfold bI;rw [if_neg (by omega)]
    rw [this,Int.mul_zero]
theorem gQ (hl:Lin c r (fX M0) S) {a:Nat→Int} {n:Nat} (hn:n≤c) (h:∀j,j<c→ar n (fun x=>a x*S.V j x)=0) {x:Nat} (hx:x<n):a x=0:=by
  have e1:ar c (fun j=>S.U x j*ar n (fun y=>a y*S.V j y))=0:=cN fun j hj=>by rw [h j hj,Int.mul_zero]
  have e2:ar c (fun j=>S.U x j*ar n (fun y=>a y*S.V j y))=ar n (fun y=>ar c (fun j=>S.U x j*S.V j y)*a y):=by
    rw [←cK c n (S.U x) S.V (fun y _=>a y) 0];exact az fun j _=>by rw [dQ];rfl
  have e3:ar n (fun y=>ar c (fun j=>S.U x j*S.V j y)*a y)=ar n (fun y=>bI x y*a y):=az fun y hy=>by rw [←hl.uv x y (by omega) (by omega)];rfl
  rw [e2,e3,cH hx fun y _ hne=>by simp [bI,Ne.symm hne]] at e1
  simpa [bI] using e1
end
end Go.TL
namespace Go.TL
set_option linter.unusedVariables false
theorem jQ (n:Nat):eV n n bI (fun i=>i):=fun i hi=>by
  show i<n∧0<bI i i∧(∀j,j<i→bI i j=0)∧∀m,m<i→m<i∧0≤bI m i∧bI m i<bI i i;refine ⟨hi,by simp [bI],fun j hj=>by unfold bI;rw [if_neg (by omega)],fun m hm=>⟨hm,?_,?_⟩⟩
  · unfold bI;rw [if_neg (by omega)];omega
  · unfold bI;rw [if_neg (by omega),if_pos rfl];omega
theorem mB {n:Nat} (v:Nat→Int):er n n bI v:=⟨v,fun j hj=>by
  rw [cH hj fun x _ hne=>by simp [bI,hne]];simp [bI]⟩
theorem sY {r k n:Nat} {M0:Nat→Nat→Int} {S:WS} (hl:Lin r n M0 S) (hk:k≤r) (he:io r k n S.M) (hall:∀v,er r n M0 v):k=n∧∀i j,i<k→j<n→S.M i j=bI i j:=by
  obtain ⟨P,hP⟩:=he.toP.1;exact hP.unique (jQ n) fun v=>⟨fun _=>mB v,fun _=>(fM hl hk he).1 (hall v)⟩
section
variable {r c k:Nat} {M0:Nat→Nat→Int} {S:WS}
theorem mD (hk:k≤c) (hkr:k≤r) (he:io c k r S.M) (hid:∀i j,i<c→j<r→S.M i j=bI i j) (hrc:r≤c):k=r:=by
  rcases Nat.lt_or_ge k r with h | h
  · have h1:=he.toP.2 k (Nat.le_refl _) (by omega) k h
    rw [hid k k (by omega) h] at h1;simp [bI] at h1
  · omega
theorem mC (hl:Lin c r (fX M0) S) (hk:k≤c) (hkr:k≤r) (he:io c k r S.M) (hid:∀i j,i<c→j<r→S.M i j=bI i j) (hrc:r≤c) {i j:Nat} (hi:i<r) (hj:j<c):M0 i j=S.V j i:=by
  have hkr2:=mD hk hkr he hid hrc;subst hkr2;rw [iB hl hk he hi hj,cH hi fun x hx hne=>by rw [hid x i (by omega) hi];simp [bI,hne]];rw [hid i i (by omega) hi];simp [bI]
theorem tf {e0 k2 k3:Nat} {M2:Nat→Nat→Int} {S3:WS} (hl:Lin c r (fX M0) S) (hk:k≤c) (hkr:k≤r) (he:io c k r S.M) (h3:HermR r c e0 M0 k3 S3) (h2:(∃P,eV k2 c M2 P)∧∀v,er k2 c M2 v↔od r c M0 v)
    (hid:∀i j,i<c→j<r→S.M i j=bI i j) (hrc:r≤c):en k3 c k2 c S3.M M2∧k2=r:=by
  have hkr2:=mD hk hkr he hid hrc;subst hkr2;have hrow:=fun {i j:Nat} (hi:i<k) (hj:j<c)=>mC hl hk hkr he hid hrc hi hj
  have hlat:∀v,er k c M0 v↔od k c M0 v:=fun v=>by
    rw [iy hl hk he];exact ⟨fun h=>h.congr fun i j hi hj=>hrow hi hj,fun h=>h.congr fun i j hi hj=>(hrow hi hj).symm⟩
  obtain ⟨P3,hP3⟩:=h3.ech.toP.1;obtain ⟨⟨P2,hP2⟩,h2l⟩:=h2;obtain ⟨e1,e2⟩:=hP3.unique hP2 fun v=>(fM h3.lin h3.kr h3.ech).symm.trans ((hlat v).trans (h2l v).symm)
  subst e1;refine ⟨⟨rfl,rfl,fun i hi j hj=>e2 i j hi hj⟩,?_⟩;rcases Nat.lt_or_ge k3 k with h | h
  · exfalso
    have h5:∀i,i<k→S3.U k3 i=0:=fun i hi=>by
      refine gQ hl (a:=S3.U k3) (n:=k) hk (fun j hj=> ?_) hi;have h6:=h3.ech.toP.2 k3 (Nat.le_refl _) h j hj;rw [h3.lin.eq k3 j h hj] at h6;rw [←h6];exact az fun x hx=>by rw [hrow hx hj]
    have h7:=h3.lin.uv k3 k3 h h;have h8:cv k S3.U S3.V k3 k3=0:=cN fun x hx=>by rw [h5 x hx,Int.zero_mul]
    rw [h8] at h7;simp [bI] at h7
  · have:=h3.kr;omega
theorem pf {e0 k2 k3:Nat} {M2:Nat→Nat→Int} {S3:WS} (hl:Lin c r (fX M0) S) (hk:k≤c) (hkr:k≤r) (he:io c k r S.M) (h3:HermR r c e0 M0 k3 S3) (h2:(∃P,eV k2 c M2 P)∧∀v,er k2 c M2 v↔od r c M0 v)
    (heq:en k3 c k2 c S3.M M2) (hr:k2=r):(∀i j,i<c→j<r→S.M i j=bI i j)∧r≤c:=by
  obtain ⟨e1,_,e2⟩:=heq;subst e1;subst hr;have hfree:∀u:Nat→Int,(∀j,j<c→ar k3 (fun i=>u i*M0 i j)=0)→∀i,i<k3→u i=0:=fun u hu i hi=>by
    obtain ⟨a,ha⟩:=(jL h3.lin h3.kr h3.ech (u:=u)).1 hu;rw [ha i hi,show k3 - k3=0 by omega];rfl
  have hlat:∀v,er k3 c M0 v↔er k c (fun x j=>S.V j x) v:=fun v=>by
    rw [←iy hl hk he,←h2.2 v];refine (fM h3.lin h3.kr h3.ech).trans ⟨fun h=>h.congr fun i j hi hj=>e2 i hi j hj,fun h=>h.congr fun i j hi hj=>(e2 i hi j hj).symm⟩
  have hB:∀x,∃a:Nat→Int,x<k→∀j,j<c→S.V j x=ar k3 (fun i=>a i*M0 i j):=fun x=>by
    by_cases hx:x<k
    · obtain ⟨a,ha⟩:=(hlat (fun j=>S.V j x)).2 (er.row (M:=fun x j=>S.V j x) hx)
      exact ⟨a,fun _=>ha⟩
    · exact ⟨fun _=>0,fun h=>absurd h hx⟩
  obtain ⟨b,hb⟩:=Classical.skolem.1 hB;have hTB:∀i j,i<k3→j<k3→ar k (fun x=>S.M x i*b x j)=bI i j:=fun i j hi hj=>by
    have h1:=hfree (fun y=>ar k (fun x=>S.M x i*b x y) - bI i y) (fun y hy=>by
      have h4:ar k3 (fun z=>(ar k (fun x=>S.M x i*b x z) - bI i z)*M0 z y)=ar k3 (fun z=>ar k (fun x=>S.M x i*b x z)*M0 z y) - ar k3 (fun z=>bI i z*M0 z y):=by
        rw [←eN];exact az fun z _=>Int.sub_mul _ _ _
      have h5:ar k3 (fun z=>ar k (fun x=>S.M x i*b x z)*M0 z y)=ar k (fun x=>S.M x i*ar k3 (fun z=>b x z*M0 z y)):=(cK k k3 (fun x=>S.M x i) b M0 y).symm;have h6:ar k (fun x=>S.M x i*ar k3 (fun z=>b x z*M0 z y))=M0 i y:=by
        rw [iB hl hk he hi hy];exact az fun x hx=>by rw [←hb x hx y hy]
      have h7:ar k3 (fun z=>bI i z*M0 z y)=M0 i y:=by
        rw [cH hi fun z _ hne=>by simp [bI,Ne.symm hne]];simp [bI]
      rw [h4,h5,h6,h7];omega) j hj
    have h8:ar k (fun x=>S.M x i*b x j) - bI i j=0:=h1;omega
  have hBT:∀x,x<k→ar k3 (fun i=>b x i*S.M x i)=1:=fun x hx=>by
    have h1:=gQ hl (a:=fun y=>ar k3 (fun i=>b x i*S.M y i) - bI x y) (n:=k) hk (fun j hj=>by
      have h4:ar k (fun y=>(ar k3 (fun i=>b x i*S.M y i) - bI x y)*S.V j y)=ar k (fun y=>ar k3 (fun i=>b x i*S.M y i)*S.V j y) - ar k (fun y=>bI x y*S.V j y):=by
        rw [←eN];exact az fun z _=>Int.sub_mul _ _ _
      have h5:ar k (fun y=>ar k3 (fun i=>b x i*S.M y i)*S.V j y)=ar k3 (fun i=>b x i*ar k (fun y=>S.M y i*S.V j y)):=(cK k3 k (b x) (fun i y=>S.M y i) (fun y _=>S.V j y) 0).symm;have h6:ar k3 (fun i=>b x i*ar k (fun y=>S.M y i*S.V j y))=S.V j x:=by
        rw [hb x hx j hj];exact az fun i hi=>by rw [iB hl hk he hi hj]
      have h7:ar k (fun y=>bI x y*S.V j y)=S.V j x:=by
        rw [cH hx fun z _ hne=>by simp [bI,Ne.symm hne]];simp [bI]
      rw [h4,h5,h6,h7];omega) hx
    have h8:ar k3 (fun i=>b x i*S.M x i) - bI x x=0:=h1;have h9:bI x x=1:=by simp [bI]
    omega
  have hone:∀n,ar n (fun _=>(1:Int))=(n:Int):=fun n=>by
    induction n with
    | zero=>rfl
    | succ n ih=>simp only [ar];rw [ih];omega
  have htr:(k3:Int)=(k:Int):=by
    rw [←hone k3,←hone k];have h1:ar k3 (fun _=>(1:Int))=ar k3 (fun i=>ar k (fun x=>S.M x i*b x i)):=az fun i hi=>by rw [hTB i i hi hi];simp [bI]
    have h2:ar k (fun _=>(1:Int))=ar k (fun x=>ar k3 (fun i=>b x i*S.M x i)):=az fun x hx=>(hBT x hx).symm
    rw [h1,h2,gD];exact az fun x _=>dQ _ _ _
  have hkk:k=k3:=by omega
  obtain ⟨P,hP⟩:=he.toP.1;rw [hkk] at hP;have huq:=hP.unique (jQ k3) fun v=>⟨fun _=>mB v,fun _=>⟨fun x=>ar k3 (fun i=>b x i*v i),fun j hj=>by
    have h1:ar k3 (fun x=>ar k3 (fun i=>b x i*v i)*S.M x j)=ar k3 (fun x=>S.M x j*ar k3 (fun i=>b x i*v i)):=dQ _ _ _;have h2:ar k3 (fun x=>S.M x j*ar k3 (fun i=>b x i*v i))=ar k3 (fun i=>ar k3 (fun x=>S.M x j*b x i)*v i):=cK k3 k3 (fun x=>S.M x j) b (fun i _=>v i) 0;have h3:ar k3 (fun i=>ar k3 (fun x=>S.M x j*b x i)*v i)=ar k3 (fun i=>bI j i*v i):=az fun i hi=>by
      have:=hTB j i hj hi;rw [hkk] at this;rw [this]
    rw [h1,h2,h3,cH hj fun x _ hne=>by simp [bI,Ne.symm hne]];simp [bI]⟩⟩
  refine ⟨fun i j hi hj=> ?_,by omega⟩;rcases Nat.lt_or_ge i k3 with h | h
  · exact huq.2 i j h hj
  · rw [he.toP.2 i (by omega) hi j hj];unfold bI;rw [if_neg (by omega)]
theorem pe {e0 k4:Nat} {S4:WS} (hl:Lin c r (fX M0) S) (hk:k≤c) (hkr:k≤r) (he:io c k r S.M) (hid:∀i j,i<c→j<r→S.M i j=bI i j) (hrc:r≤c)
    (h4:HermR (r + (c - r)) c e0 (fe r M0 (fun a e=>S.V e (r + a))) k4 S4):en (r + (c - r)) c (r + (c - r)) (r + (c - r)) S4.M bI:=by
  have hst:∀i j,i<c→j<c→fe r M0 (fun a e=>S.V e (r + a)) i j=S.V j i:=fun i j hi hj=>by
    unfold fe
    by_cases h:i<r
    · rw [if_pos h];exact mC hl hk hkr he hid hrc h hj
    · rw [if_neg h];show S.V j (r + (i - r))=_;rw [show r + (i - r)=i by omega]
  have hn:r + (c - r)=c:=by omega
  rw [hn] at h4⊢;obtain ⟨g1,g2⟩:=sY h4.lin h4.kr h4.ech fun v=>⟨fun x=>ar c (fun y=>S.U x y*v y),fun j hj=>by
    rw [vZ hl v hj];exact az fun x hx=>by rw [hst x j hx hj]⟩
  exact ⟨rfl,rfl,fun i hi j hj=>g2 i j (by omega) hj⟩
end
end Go.TL
namespace Go.TL
open Go.RowKit Go.Proofs
set_option linter.unusedVariables false
def mS (r c:Nat) (M:Nat→Nat→Int):Prop:=∀v,er r c M v↔od r c M v
theorem iz {r c k3 k2:Nat} {M M2:Nat→Nat→Int} {S3:WS} (hl:Lin r c M S3) (hk:k3≤r) (he:io r k3 c S3.M) (h2:(∃P,eV k2 c M2 P)∧∀v,er k2 c M2 v↔od r c M v):en k3 c k2 c S3.M M2↔mS r c M:=by
  obtain ⟨⟨P2,hP2⟩,h2⟩:=h2;obtain ⟨P,hP⟩:=he.toP.1
  constructor
  · rintro ⟨rfl,_,e⟩ v
    rw [fM hl hk he,←h2 v];exact ⟨fun h=>h.congr fun i j hi hj=>e i hi j hj,fun h=>h.congr fun i j hi hj=>(e i hi j hj).symm⟩
  · intro hq
    obtain ⟨e1,e2⟩:=hP.unique hP2 fun v=>(fM hl hk he).symm.trans ((hq v).trans (h2 v).symm)
    exact ⟨e1,rfl,fun i hi j hj=>e2 i j hi hj⟩
theorem vd (p:Prop):∃b:Bool,b=true↔p:=by
  by_cases h:p
  · exact ⟨true,by simp [h]⟩
  · exact ⟨false,by simp [h]⟩
theorem td {p:Prop} [Decidable p] {sb:Bool} (h:p↔sb=true):Value.bool (decide p)= .bool (decide (sb=true)):=congrArg _ (by by_cases e:p<;>simp [e,←h])
def go (w:World) (v:Value) (r c e0:Nat) (M0:Nat→Nat→Int) (b:Nat):Prop:=∃k M,fT r c e0 M0 k M∧bo w v k r M b
theorem go.ext {w w':World} {v:Value} {r c e0 b:Nat} {M0:Nat→Nat→Int} (h:go w v r c e0 M0 b) (hx:aQ w w'):go w' v r c e0 M0 b:=by obtain ⟨k,S,h1,h2⟩:=h;exact ⟨k,S,h1,h2.ext hx⟩
theorem fK (r c e0:Nat) (M0:Nat→Nat→Int) (b:Nat):dG (fun v w=>go w v r c e0 M0 b):=fun _ _ _ h hx=>h.ext hx
section
variable {w:World} {x y:Value} {r c ks e0 e0' e1 b b' by':Nat} {M Ms:Nat→Nat→Int} {sb:Bool}
theorem uh (h:ma w x r c e0 M b) (hy:bo w y ks c Ms by') (hs:(∃P,eV ks c Ms P)∧∀v,er ks c Ms v↔od r c M v) (hsb:sb=true↔mS r c M):
    Calls Tryz.prog 11 #[x,y] w (cg w fun v _=>v= .bool (decide (sb=true))):=by
  obtain ⟨k,S,h1,h2⟩:=h;exact (gH _ _ _ _ _ _ _ _ _ _ _ h2 hy).mono fun e w' ⟨v,g1,g2,g3⟩=>⟨v,g1,g2,g3.trans (td ((iz h1.lin h1.kr h1.ech hs).trans hsb.symm))⟩
theorem ui (h:go w x r c e0 M b) (h':ox w y r c e0' M b'):Calls Tryz.prog 11 #[x,y] w (cg w fun v _=>v= .bool (decide True)):=by
  obtain ⟨k,S,h1,h2⟩:=h;obtain ⟨k',S',h3,h4⟩:=h';obtain ⟨rfl,e⟩:=lR h1 h3;exact (gH _ _ _ _ _ _ _ _ _ _ _ h2 h4).mono fun _ w' ⟨v,g1,g2,g3⟩=>⟨v,g1,g2,g3.trans (congrArg _ (decide_eq_true ⟨rfl,rfl,fun i hi j hj=>e i j hi hj⟩))⟩
theorem ug (h:lm w x r c e0 M b) (hy:bo w y ks c Ms by') (hs:vj r c e0' e1 M ks Ms):Calls Tryz.prog 11 #[x,y] w (cg w fun v _=>v= .bool (decide True)):=by
  obtain ⟨k,S,h1,h2⟩:=h;obtain ⟨rfl,e⟩:=rM h1 hs;exact (gH _ _ _ _ _ _ _ _ _ _ _ h2 hy).mono fun _ w' ⟨v,g1,g2,g3⟩=>⟨v,g1,g2,g3.trans (congrArg _ (decide_eq_true ⟨rfl,rfl,fun i hi j hj=>e i j hi hj⟩))⟩
end
def xm (w:World) (v:Value) (r c e0:Nat) (M:Nat→Nat→Int) (b:Nat):Prop:=∃k S R' C' st s' Mc,Herm c r e0 (fX M) k S∧v= .tuple #[.agg #[.int .i64 ((R':Nat):Int),.int .i64 ((C':Nat):Int),s'],.int .i64 ((st:Nat):Int)]∧R'≤65536∧C'≤65536∧cu w s' R' C' Mc b∧
  ((((∀i j,i<c→j<r→S.M i j=bI i j)∧r≤c)∧R'=c - r∧C'=c∧st=0∧Mc=fun a e=>S.V e (r + a))∨(¬((∀i j,i<c→j<r→S.M i j=bI i j)∧r≤c)∧R'=0∧C'=0∧st=170))
theorem ge (w:World) (x:Value) (rx cx:Nat) (Mx:Nat→Nat→Int) (btx e0 b:Nat) (hx:bo w x rx cx Mx btx) (h8:cx≤8) (hM:∀i j,i<rx→j<cx→(Mx i j).natAbs≤2^e0) (hb:bB e0 cx≤b) (hb1:1 + e0≤b) (hl:2*b + 4≤bl):
    Calls Tryz.prog 10 #[x] w (cg w fun v w'=>xm w' v rx cx e0 Mx b):=by
  refine (mA w x rx cx Mx btx e0 b hx h8 hM hb hb1 hl).mono fun e w' h=> ?_
  obtain ⟨v,h1,h2,k,S,hH,h3⟩:=h;refine ⟨v,h1,h2,k,S,?_⟩;rcases h3 with ⟨g1,g2,v1,rfl,g3⟩ | ⟨g1,rfl⟩
  · obtain ⟨s',rfl,d1,d2,g4⟩:=g3.form
    exact ⟨_,_,0,s',_,hH,rfl,d1.1,d2,g4,.inl ⟨⟨g1,g2⟩,rfl,rfl,rfl,rfl⟩⟩
  · exact ⟨0,0,170,_,fun _ _=>0,hH,rfl,by decide,by decide,⟨none,0,rfl,Nat.le_refl _,⟨by decide,by decide,by have:bl=562949953421312:=rfl;omega⟩,fun h=>by omega⟩,.inr ⟨g1,rfl,rfl,rfl⟩⟩
theorem mw (w:World) (x:Value) (rx cx:Nat) (Mx:Nat→Nat→Int) (btx e0 b:Nat) {sb:Bool} (hx:bo w x rx cx Mx btx) (h8r:rx≤8) (hb0:bB e0 rx≤b) (h8:cx≤8) (hM:∀i j,i<rx→j<cx→(Mx i j).natAbs≤2^e0)
    (hb:bB e0 cx≤b) (hb1:1 + e0≤b) (hb2:bB (eB e0 cx) cx≤b) (hb3:1 + eB e0 cx≤b) (hl:2*b + 4≤bl) (hsb:sb=true↔mS rx cx Mx):
    Calls Tryz.prog 16 #[x] w (cg w fun v _=>v= .bool (decide (sb=true))):=by
  refine (nQ w x rx cx Mx btx e0 b hx h8r hb0 h8 hM hb hb1 hb2 hb3 hl).mono fun e w' h=> ?_
  obtain ⟨v,h1,h2,k,S,k2,M2,hH,hS,rfl⟩:=h;exact ⟨_,h1,h2,td ((iz hH.lin hH.kr hH.ech hS.lat).trans hsb.symm)⟩
def B1:Nat:=281474976710000
def E1:Nat:=1000000
theorem fu:∀c,c<5→bR 4 c≤B1∧2 + 4≤B1∧2 + eR 4 c c≤B1∧bR E1 c≤B1∧2 + E1≤B1∧2 + eR E1 c c≤B1∧bB 4 c≤B1∧bB (eB 4 c) c≤B1∧1 + eB 4 c≤B1:=by decide
theorem yr:∀c,c<5→∀k,k<5→bR (eR 4 c c) (c - k)≤B1∧eR (eR 4 c c) (c - k) (c - k)≤E1∧bR (eR E1 c c) (c - k)≤B1:=by decide
theorem sj:2*B1 + 300≤bl:=by decide
end Go.TL
namespace Go.TL
open Go.RowKit Go.Proofs
set_option linter.unusedVariables false
def E2:Nat:=20000
theorem zb:∀c,c<5→bR E2 c≤B1∧∀k,k<5→gB 4 k≤E2:=by decide
theorem num3b:2*(B1 + 1) + 300≤bl∧2 + E2≤B1 + 1∧4 + 1≤B1 + 1∧4≤E2:=by decide
theorem kA {w:World} {x y:Value} {r c R' C' k:Nat} {M Mc:Nat→Nat→Int} {S:WS} (hx:bo w x r c M 4) (hy:bo w y R' C' Mc B1) (h5:c<5) (hMb:∀i j,i<r→j<c→(M i j).natAbs≤2^4) (hH:Herm c r 4 (fX M) k S)
    (hid:∀i j,i<c→j<r→S.M i j=bI i j) (hrc:r≤c) (hR:R'=c - r) (hC:C'=c) (hMc:Mc=fun a e=>S.V e (r + a)):Calls Tryz.prog 17 #[x,y] w (cg w fun v _=>v= .bool (decide True)):=by
  subst hR;subst hC;subst hMc;have h1:=zb C' h5;have h2:=sj;have hn:r + (C' - r)=C':=by omega
  refine (nz w x r C' M 4 y (C' - r) _ B1 E2 (B1 + 1) hx hy (by omega) hn ?_ num3b.2.2.1 (Nat.le_refl _) (by rw [hn];exact Nat.le_succ_of_le h1.1) num3b.2.1 num3b.1 fun k4 S4 h4=>pe hH.lin hH.kr hH.kc hH.ech hid hrc h4).mono fun _ w' ⟨v,g1,g2,g3⟩=>⟨v,g1,g2,g3⟩
  intro i j hi hj
  unfold fe
  split
  · rename_i h
    exact Nat.le_trans (hMb i j h hj) (Nat.pow_le_pow_right (by decide) num3b.2.2.2)
  · exact Nat.le_trans (hH.bv j (r + (i - r)) hj (by omega)) (Nat.pow_le_pow_right (by decide) (h1.2 k (by have:=hH.kr;omega)))
end Go.TL
namespace Go.TL
open Go.RowKit Go.Proofs
set_option linter.unusedVariables false
set_option linter.unusedSimpArgs false
set_option maxRecDepth 10000 in
set_option maxHeartbeats 1600000 in
theorem qI (w:World) (R C:Nat) (l:Value) (n:Nat) (f:Nat→Int) (hl:fi .i8 77 w l n f) (hR:R<256) (hC:C<256) (hsan:∀w,Calls Tryz.prog 7 #[] w (cg w fun v _=>v= .bool true)):Calls Tryz.prog 3 #[.agg #[.int .u8 (R:Nat),.int .u8 (C:Nat),l]] w (cg w fun v w'=>v= .bool true):=by
 have hLIM:bl=562949953421312:=rfl;have hln:n<9223372036854775808:=by obtain ⟨_,_,_,h2,h3,_⟩:=hl;omega
 have hn0:=fu (R % 5) (by omega);have hn1:=fu (C % 5) (by omega);have hn2:=fun k (hk:k<5)=>yr (C % 5) (by omega) k hk
 have hn3:=fun k (hk:k<5)=>yr (R % 5) (by omega) k hk
 have hl3:2*B1 + 4≤bl:=by have:=sj;omega
 refine ak (N:=82) (rs:= #[.tmp 2]) Tryz.func3 rfl rfl rfl (Nat.le_of_ble_eq_true rfl) ?_;have hX:aQ w w:=aQ.refl w;refine ad ?_;refine RL.x rfl rfl (dv.box [.int .u8 ((R:Nat)),.int .u8 ((C:Nat)),l] rfl rfl) ?_;rintro _ w1 ⟨g1,rfl,hge1,hx1,hA1⟩;have hbs1:w.heap.size≤g1:=Nat.le_trans hX.size hge1;replace hX:=aQ.trans hX hx1;refine RL.p rfl rfl (cz.assign rfl) ?_;refine RL.nil ?_;refine ad ?_;refine RL.x rfl rfl (dv.call yV (nZ) (hsan _)) ?_;rintro _ w2 ⟨hx2,rfl⟩;replace hA1:=aX.ext hA1 hx2;replace hX:=aQ.trans hX hx2;refine RL.p rfl rfl (cz.assign rfl) ?_;refine RL.nil ?_;refine ad ?_;refine RL.p rfl rfl (af [.int .u8 ((R:Nat)),.int .u8 ((C:Nat)),l] yj rfl (hA1.cells 0 _ rfl rfl)) ?_;have hBw1:w.heap.size≤w2.heap.size:=hX.size;refine RL.x rfl rfl (dv.call yU (aJ rfl) (ul _ R C l n f (fi.ext hl hX) (by omega) (by omega))) ?_;rintro v1 w3 ⟨hx3,q1⟩;replace hA1:=aX.ext hA1 hx3;replace hX:=aQ.trans hX hx3;refine RL.x rfl rfl (dv.alloc [.int .i64 (0),.int .i64 (0),.slice (none) (0) (0)] bE rfl) ?_;rintro _ w4 ⟨g2,rfl,hge2,hx4,hA2⟩;have ne1:g1≠g2:=Nat.ne_of_lt (Nat.lt_of_lt_of_le hA1.lt hge2);have hbs2:w.heap.size≤g2:=Nat.le_trans hX.size hge2;replace hA1:=aX.ext hA1 hx4;replace q1:=ck.ext q1 hx4;replace hX:=aQ.trans hX hx4;obtain ⟨gh1,kh1,ρ1,hq1,hM1⟩:=q1;have hd1:=cA.dlim hM1;have hd2:=cA.clim hM1;have hbs3:w.heap.size≤gh1:=Nat.le_trans (hBw1) hM1.1;refine RL.x rfl rfl (dv.store [.int .i64 ((R % 5:Nat)),.int .i64 ((C % 5:Nat)),.slice (some ⟨gh1,0,none⟩) (R % 5) (kh1)] bO rfl hq1 rfl hA2 (Nat.le_of_ble_eq_true rfl) (bP rfl rfl rfl)) ?_;rintro _ w5 ⟨hk1,hnew⟩;replace hM1:=bi hM1 hk1 hA2 (by decide);replace hA1:=hA1.keep hk1 ne1;replace hX:=hX.step hk1 (fun b e=>by subst e;exact hbs2);replace hA2:=hnew.lit [.int .i64 ((R % 5:Nat)),.int .i64 ((C % 5:Nat)),.slice (some ⟨gh1,0,none⟩) (R % 5) (kh1)] rfl;clear hnew;refine RL.nil ?_;refine ad ?_;refine RL.p rfl rfl (af [.int .i64 ((R % 5:Nat)),.int .i64 ((C % 5:Nat)),.slice (some ⟨gh1,0,none⟩) (R % 5) (kh1)] aT rfl (hA2.cells 0 _ rfl rfl)) ?_;refine RL.x rfl rfl (dv.call yT (aJ rfl) (oK _ _ (R % 5) (C % 5) (dN f n (C % 5)) _ 4 E1 B1 (cA.matV hM1 (by omega) (by omega)) (by omega) (fun i j _ _=>Nat.le_of_lt (dS f n _ i j)) hn1.1 hn1.2.1 sj (fun k hk=>(hn2 k (by omega)).1) hn1.2.2.1 (fun k hk=>(hn2 k (by omega)).2.1) hn1.2.2.2.1 hn1.2.2.2.2.1 (fun k hk=>(hn2 k (by omega)).2.2) hn1.2.2.2.2.2.1)) ?_;rintro v2 w6 ⟨hx5,ks,Ms,hSR,q2⟩;replace hA2:=aX.ext hA2 hx5;replace hM1:=cA.ext hM1 hx5;replace hX:=aQ.trans hX hx5;refine RL.x rfl rfl (dv.alloc [.int .i64 (0),.int .i64 (0),.slice (none) (0) (0)] bE rfl) ?_;rintro _ w7 ⟨g3,rfl,hge3,hx6,hA3⟩;have ne2:g2≠g3:=Nat.ne_of_lt (Nat.lt_of_lt_of_le hA2.lt hge3);have ne3:∀ii,ii<R % 5→ρ1 ii≠g3:=fun ii hi=>Nat.ne_of_lt (Nat.lt_of_lt_of_le (cA.rowlt hM1 hi) hge3)
 have ne4:gh1≠g3:=Nat.ne_of_lt (Nat.lt_of_lt_of_le (cA.ghlt hM1) hge3);have hbs4:w.heap.size≤g3:=Nat.le_trans hX.size hge3;replace hA2:=aX.ext hA2 hx6;replace hM1:=cA.ext hM1 hx6;replace q2:=bo.ext q2 hx6;replace hX:=aQ.trans hX hx6;obtain ⟨sv1,hq2,hr1,hc1,hS1⟩:=q2.form;refine RL.x rfl rfl (dv.store [.int .i64 ((ks:Nat)),.int .i64 ((C % 5:Nat)),sv1] bO rfl hq2 rfl hA3 (Nat.le_of_ble_eq_true rfl) (bP rfl rfl hS1.one)) ?_;rintro _ w8 ⟨hk2,hnew⟩;replace hM1:=bi hM1 hk2 hA3 (by decide);replace hA2:=hA2.keep hk2 ne2;replace q2:=cS q2 hk2 hA3 (by decide);replace hS1:=aA hS1 hk2 hA3 (by decide);replace hX:=hX.step hk2 (fun b e=>by subst e;exact hbs4);replace hA3:=hnew.lit [.int .i64 ((ks:Nat)),.int .i64 ((C % 5:Nat)),sv1] rfl;clear hnew;refine RL.nil ?_;refine ad ?_;refine RL.p rfl rfl (af [.int .i64 ((R % 5:Nat)),.int .i64 ((C % 5:Nat)),.slice (some ⟨gh1,0,none⟩) (R % 5) (kh1)] aT rfl (hA2.cells 0 _ rfl rfl)) ?_;refine RL.x rfl rfl (dv.call nj (aJ rfl) (ge _ _ (R % 5) (C % 5) (dN f n (C % 5)) _ 4 B1 (cA.matV hM1 (by omega) (by omega)) (by omega) (fun i j _ _=>Nat.le_of_lt (dS f n _ i j)) hn1.2.2.2.2.2.2.1 (Nat.le_of_ble_eq_true rfl) hl3)) ?_;rintro _ w9 ⟨hx7,kc,Sc,R',C',stt,s',Mc,hHc,rfl,hR',hC',q3,hcase⟩;replace hA2:=aX.ext hA2 hx7;replace hA3:=aX.ext hA3 hx7;replace hS1:=cu.ext hS1 hx7;replace hM1:=cA.ext hM1 hx7;replace hX:=aQ.trans hX hx7;refine RL.p rfl rfl (cz.move rfl) ?_;refine RL.p rfl rfl (cz.extract rfl rfl) ?_;refine RL.p rfl rfl (cz.extract rfl rfl) ?_;refine RL.x rfl rfl (dv.alloc [.int .i64 (0),.int .i64 (0),.slice (none) (0) (0)] bE rfl) ?_;rintro _ w10 ⟨g4,rfl,hge4,hx8,hA4⟩;have ne5:g2≠g4:=Nat.ne_of_lt (Nat.lt_of_lt_of_le hA2.lt hge4);have ne6:g3≠g4:=Nat.ne_of_lt (Nat.lt_of_lt_of_le hA3.lt hge4);have ne7:∀ii,ii<R % 5→ρ1 ii≠g4:=fun ii hi=>Nat.ne_of_lt (Nat.lt_of_lt_of_le (cA.rowlt hM1 hi) hge4)
 have ne8:gh1≠g4:=Nat.ne_of_lt (Nat.lt_of_lt_of_le (cA.ghlt hM1) hge4);have hbs5:w.heap.size≤g4:=Nat.le_trans hX.size hge4;replace hA2:=aX.ext hA2 hx8;replace hA3:=aX.ext hA3 hx8;replace hS1:=cu.ext hS1 hx8;replace hM1:=cA.ext hM1 hx8;replace q3:=cu.ext q3 hx8;replace hX:=aQ.trans hX hx8;refine RL.x rfl rfl (dv.store [.int .i64 ((R':Nat)),.int .i64 ((C':Nat)),s'] bO rfl rfl rfl hA4 (Nat.le_of_ble_eq_true rfl) (bP rfl rfl (q3.one))) ?_;rintro _ w11 ⟨hk3,hnew⟩;replace hM1:=bi hM1 hk3 hA4 (by decide);replace hA2:=hA2.keep hk3 ne5;replace hA3:=hA3.keep hk3 ne6;replace hS1:=aA hS1 hk3 hA4 (by decide);replace q3:=aA q3 hk3 hA4 (by decide);replace hX:=hX.step hk3 (fun b e=>by subst e;exact hbs5);replace hA4:=hnew.lit [.int .i64 ((R':Nat)),.int .i64 ((C':Nat)),s'] rfl;clear hnew;refine RL.p rfl rfl (cz.assign rfl) ?_;refine RL.nil ?_;obtain ⟨sb,hsb⟩:=vd (mS (R % 5) (C % 5) (dN f n (C % 5)));refine ay aq 4 [fun v zq=>v= .agg #[.int .i64 ((R % 5:Nat)),.int .i64 ((C % 5:Nat)),.slice (some ⟨gh1,0,none⟩) (R % 5) (kh1)],fun v zq=>ma zq v (R % 5) (C % 5) 4 (dN f n (C % 5)) B1,fun v zq=>v= .agg #[.int .i64 ((ks:Nat)),.int .i64 ((C % 5:Nat)),sv1],fun v zq=>v= .bool (decide (sb=true))] rfl rfl ⟨aa _,oS _ _ _ _ _,aa _,aa _,trivial⟩ ⟨fun e_ w_ zp zo zn=>ab (af [.int .i64 ((R % 5:Nat)),.int .i64 ((C % 5:Nat)),.slice (some ⟨gh1,0,none⟩) (R % 5) (kh1)] aT (((zo 4 rfl).trans rfl)) ((aX.ext hA2 zp).cells 0 _ rfl rfl)),fun e_ w_ zp zo zn=>dv.call vO (aJ (zn 0 rfl)) (pI _ _ _ _ _ _ 4 B1 (cA.matV (cA.ext hM1 zp) (by omega) (by omega)) (by omega) (fun i j _ _=>Nat.le_of_lt (dS f n _ i j)) hn0.1 hn0.2.1 sj),fun e_ w_ zp zo zn=>ab (af [.int .i64 ((ks:Nat)),.int .i64 ((C % 5:Nat)),sv1] aT (((zo 5 rfl).trans rfl)) ((aX.ext hA3 zp).cells 0 _ rfl rfl)),fun e_ w_ zp zo zn=>dv.call jt (aF rfl ((zn 2 rfl))) (uh (zn 1 rfl) (bo.mk (cu.ext hS1 zp) (by omega) (by omega)) hSR.lat hsb),trivial⟩ ?_;intro e1 w12 hx9 ho1 hf1;replace hA2:=aX.ext hA2 hx9;replace hA3:=aX.ext hA3 hx9;replace hS1:=cu.ext hS1 hx9;replace q3:=cu.ext q3 hx9;replace hA4:=aX.ext hA4 hx9;replace hM1:=cA.ext hM1 hx9;replace hX:=aQ.trans hX hx9;have s2_e1:e1 2= .bool (false):=(ho1 2 rfl).trans rfl;have s3_e1:e1 3= .bool (decide (True)):=(ho1 3 rfl).trans rfl;have s4_e1:e1 4= .pointer (some ⟨g2,0,none⟩):=(ho1 4 rfl).trans rfl;have s5_e1:e1 5= .pointer (some ⟨g3,0,none⟩):=(ho1 5 rfl).trans rfl;have s6_e1:e1 6= .pointer (some ⟨g4,0,none⟩):=(ho1 6 rfl).trans rfl;have s7_e1:e1 7= .int .i64 ((stt:Nat)):=(ho1 7 rfl).trans rfl;have s22_e1:e1 22= .bool (decide (sb=true)):=hf1 3 rfl;obtain ⟨k3,S3,hH3,_⟩:ma _ _ (R % 5) (C % 5) 4 (dN f n (C % 5)) B1:=hf1 1 rfl;refine RL.p rfl rfl (cz.assign s22_e1) ?_;refine RL.nil ?_;refine WP.seq ?_;refine ay aq 19 [fun v zq=>v= .agg #[.int .i64 ((R % 5:Nat)),.int .i64 ((C % 5:Nat)),.slice (some ⟨gh1,0,none⟩) (R % 5) (kh1)],fun v zq=>go zq v (R % 5) (C % 5) 4 (dN f n (C % 5)) B1,fun v zq=>v= .agg #[.int .i64 ((R % 5:Nat)),.int .i64 ((C % 5:Nat)),.slice (some ⟨gh1,0,none⟩) (R % 5) (kh1)],fun v zq=>ox zq v (R % 5) (C % 5) 4 (dN f n (C % 5)) B1,fun v zq=>v= .bool (decide (True)),fun v zq=>v= .bool (decide (¬(True))),fun v zq=>v= .bool (decide (¬(True))),fun v zq=>(¬(¬(True)))→(v= .agg #[.int .i64 ((R % 5:Nat)),.int .i64 ((C % 5:Nat)),.slice (some ⟨gh1,0,none⟩) (R % 5) (kh1)]),fun v zq=>(¬(¬(True)))→(lm zq v (R % 5) (C % 5) 4 (dN f n (C % 5)) B1),fun v zq=>(¬(¬(True)))→(v= .agg #[.int .i64 ((ks:Nat)),.int .i64 ((C % 5:Nat)),sv1]),fun v zq=>(¬(¬(True)))→(v= .bool (decide (True))),fun v zq=>(¬(¬(True)))→(v= .bool (decide (¬(True)))),fun v zq=>v= .bool (decide ((¬(True))∨(¬(True)))),fun v zq=>v= .bool (decide ((¬(True))∨(¬(True)))),fun v zq=>(¬((¬(True))∨(¬(True))))→(v= .agg #[.int .i64 ((R % 5:Nat)),.int .i64 ((C % 5:Nat)),.slice (some ⟨gh1,0,none⟩) (R % 5) (kh1)]),fun v zq=>(¬((¬(True))∨(¬(True))))→(v= .bool (decide (sb=true))),fun v zq=>(¬((¬(True))∨(¬(True))))→(v= .bool (decide (sb=true))),fun v zq=>(¬((¬(True))∨(¬(True))))→(v= .bool (decide (¬((sb=true)↔(sb=true))))),fun v zq=>v= .bool (decide (((¬(True))∨(¬(True)))∨(¬((sb=true)↔(sb=true)))))] rfl rfl ⟨aa _,fK _ _ _ _ _,aa _,oQ _ _ _ _ _,aa _,aa _,aa _,dG.imp (aa _),dG.imp (jf _ _ _ _ _),dG.imp (aa _),dG.imp (aa _),dG.imp (aa _),aa _,aa _,dG.imp (aa _),dG.imp (aa _),dG.imp (aa _),dG.imp (aa _),aa _,trivial⟩ ⟨fun e_ w_ zp zo zn=>ab (af [.int .i64 ((R % 5:Nat)),.int .i64 ((C % 5:Nat)),.slice (some ⟨gh1,0,none⟩) (R % 5) (kh1)] aT (((zo 4 rfl).trans s4_e1)) ((aX.ext hA2 zp).cells 0 _ rfl rfl)),fun e_ w_ zp zo zn=>dv.call ni (aJ (zn 0 rfl)) (gN _ _ _ _ _ _ 4 B1 (cA.matV (cA.ext hM1 zp) (by omega) (by omega)) (by omega) (fun i j _ _=>Nat.le_of_lt (dS f n _ i j)) hn0.2.2.2.2.2.2.1 (Nat.le_of_ble_eq_true rfl) hl3),fun e_ w_ zp zo zn=>ab (af [.int .i64 ((R % 5:Nat)),.int .i64 ((C % 5:Nat)),.slice (some ⟨gh1,0,none⟩) (R % 5) (kh1)] aT (((zo 4 rfl).trans s4_e1)) ((aX.ext hA2 zp).cells 0 _ rfl rfl)),fun e_ w_ zp zo zn=>dv.call rt (aJ (zn 2 rfl)) (oL _ _ _ _ _ _ 4 B1 (cA.matV (cA.ext hM1 zp) (by omega) (by omega)) (by omega) (fun i j _ _=>Nat.le_of_lt (dS f n _ i j)) hn0.1 hn0.2.1 sj (fun k hk=>(hn3 k (by omega)).1) hn0.2.2.1),fun e_ w_ zp zo zn=>dv.call jt (aF rfl rfl) (ui (zn 1 rfl) (zn 3 rfl)),fun e_ w_ zp zo zn=>ab (cz.not (p:=True) (zn 4 rfl)),fun e_ w_ zp zo zn=>ab (cz.move ((zn 5 rfl))),fun e_ w_ zp zo zn=>aC (p:=¬(True)) (zn 6 rfl) (fun hg=>dv.imp (p:=¬(¬(True))) (φ:=fun v zq=>v= .agg #[.int .i64 ((R % 5:Nat)),.int .i64 ((C % 5:Nat)),.slice (some ⟨gh1,0,none⟩) (R % 5) (kh1)]) (ab (af [.int .i64 ((R % 5:Nat)),.int .i64 ((C % 5:Nat)),.slice (some ⟨gh1,0,none⟩) (R % 5) (kh1)] aT (((zo 4 rfl).trans s4_e1)) ((aX.ext hA2 zp).cells 0 _ rfl rfl)))) (fun hn=>(fun hg=>absurd hn hg)),fun e_ w_ zp zo zn=>aC (p:=¬(True)) (zn 6 rfl) (fun hg=>dv.imp (p:=¬(¬(True))) (φ:=fun v zq=>lm zq v (R % 5) (C % 5) 4 (dN f n (C % 5)) B1) (dv.call rr (aJ (zn 7 rfl hg)) (ic _ _ _ _ _ _ 4 B1 (cA.matV (cA.ext hM1 zp) (by omega) (by omega)) (by omega) (fun i j _ _=>Nat.le_of_lt (dS f n _ i j)) hn1.2.2.2.2.2.2.1 (Nat.le_of_ble_eq_true rfl) hn1.2.2.2.2.2.2.2.1 hn1.2.2.2.2.2.2.2.2 hl3))) (fun hn=>(fun hg=>absurd hn hg)),fun e_ w_ zp zo zn=>aC (p:=¬(True)) (zn 6 rfl) (fun hg=>dv.imp (p:=¬(¬(True))) (φ:=fun v zq=>v= .agg #[.int .i64 ((ks:Nat)),.int .i64 ((C % 5:Nat)),sv1]) (ab (af [.int .i64 ((ks:Nat)),.int .i64 ((C % 5:Nat)),sv1] aT (((zo 5 rfl).trans s5_e1)) ((aX.ext hA3 zp).cells 0 _ rfl rfl)))) (fun hn=>(fun hg=>absurd hn hg)),fun e_ w_ zp zo zn=>aC (p:=¬(True)) (zn 6 rfl) (fun hg=>dv.imp (p:=¬(¬(True))) (φ:=fun v zq=>v= .bool (decide (True))) (dv.call jt (aF rfl ((zn 9 rfl hg))) (ug (zn 8 rfl hg) (bo.mk (cu.ext hS1 zp) (by omega) (by omega)) hSR))) (fun hn=>(fun hg=>absurd hn hg)),fun e_ w_ zp zo zn=>aC (p:=¬(True)) (zn 6 rfl) (fun hg=>dv.imp (p:=¬(¬(True))) (φ:=fun v zq=>v= .bool (decide (¬(True)))) (ab (cz.not (p:=True) (zn 10 rfl hg)))) (fun hn=>(fun hg=>absurd hn hg)),fun e_ w_ zp zo zn=>ab (ce (p:=¬(True)) (q:=¬(True)) (zn 6 rfl) (fun hq=>(zn 11 rfl hq))),fun e_ w_ zp zo zn=>ab (cz.move ((zn 12 rfl))),fun e_ w_ zp zo zn=>aC (p:=(¬(True))∨(¬(True))) (zn 13 rfl) (fun hg=>dv.imp (p:=¬((¬(True))∨(¬(True)))) (φ:=fun v zq=>v= .agg #[.int .i64 ((R % 5:Nat)),.int .i64 ((C % 5:Nat)),.slice (some ⟨gh1,0,none⟩) (R % 5) (kh1)]) (ab (af [.int .i64 ((R % 5:Nat)),.int .i64 ((C % 5:Nat)),.slice (some ⟨gh1,0,none⟩) (R % 5) (kh1)] aT (((zo 4 rfl).trans s4_e1)) ((aX.ext hA2 zp).cells 0 _ rfl rfl)))) (fun hn=>(fun hg=>absurd hn hg)),fun e_ w_ zp zo zn=>aC (p:=(¬(True))∨(¬(True))) (zn 13 rfl) (fun hg=>dv.imp (p:=¬((¬(True))∨(¬(True)))) (φ:=fun v zq=>v= .bool (decide (sb=true))) (dv.call rq (aJ ((zn 14 rfl hg))) (mw _ _ _ _ _ _ 4 B1 (cA.matV (cA.ext hM1 zp) (by omega) (by omega)) (by omega) hn0.2.2.2.2.2.2.1 (by omega) (fun i j _ _=>Nat.le_of_lt (dS f n _ i j)) hn1.2.2.2.2.2.2.1 (Nat.le_of_ble_eq_true rfl) hn1.2.2.2.2.2.2.2.1 hn1.2.2.2.2.2.2.2.2 hl3 hsb))) (fun hn=>(fun hg=>absurd hn hg)),fun e_ w_ zp zo zn=>aC (p:=(¬(True))∨(¬(True))) (zn 13 rfl) (fun hg=>dv.imp (p:=¬((¬(True))∨(¬(True)))) (φ:=fun v zq=>v= .bool (decide (sb=true))) (ab (cz.move (((zo 8 rfl).trans rfl))))) (fun hn=>(fun hg=>absurd hn hg)),fun e_ w_ zp zo zn=>aC (p:=(¬(True))∨(¬(True))) (zn 13 rfl) (fun hg=>dv.imp (p:=¬((¬(True))∨(¬(True)))) (φ:=fun v zq=>v= .bool (decide (¬((sb=true)↔(sb=true))))) (ab (gk (p:=sb=true) (q:=sb=true) nk (zn 15 rfl hg) (zn 16 rfl hg)))) (fun hn=>(fun hg=>absurd hn hg)),fun e_ w_ zp zo zn=>ab (ce (p:=(¬(True))∨(¬(True))) (q:=¬((sb=true)↔(sb=true))) (zn 13 rfl) (fun hq=>(zn 17 rfl hq))),trivial⟩ ?_;intro e2 w13 hx10 ho2 hf2;replace hA2:=aX.ext hA2 hx10;replace hA3:=aX.ext hA3 hx10;replace hS1:=cu.ext hS1 hx10;replace q3:=cu.ext q3 hx10;replace hA4:=aX.ext hA4 hx10;replace hM1:=cA.ext hM1 hx10;replace hX:=aQ.trans hX hx10;have s2_e2:e2 2= .bool (false):=(ho2 2 rfl).trans s2_e1;have s3_e2:e2 3= .bool (decide (True)):=(ho2 3 rfl).trans s3_e1;have s4_e2:e2 4= .pointer (some ⟨g2,0,none⟩):=(ho2 4 rfl).trans s4_e1;have s5_e2:e2 5= .pointer (some ⟨g3,0,none⟩):=(ho2 5 rfl).trans s5_e1;have s6_e2:e2 6= .pointer (some ⟨g4,0,none⟩):=(ho2 6 rfl).trans s6_e1;have s7_e2:e2 7= .int .i64 ((stt:Nat)):=(ho2 7 rfl).trans s7_e1;have s8_e2:e2 8= .bool (decide (sb=true)):=(ho2 8 rfl).trans rfl;have s41_e2:e2 41= .bool (decide (((¬(True))∨(¬(True)))∨(¬((sb=true)↔(sb=true))))):=hf2 18 rfl;refine RL.nil ?_;refine ag (((¬(True))∨(¬(True)))∨(¬((sb=true)↔(sb=true)))) s41_e2 (fun c41=> ?_) (fun c41=> ?_)
 ·
  refine ad ?_;refine RL.p rfl rfl (cz.assign rfl) ?_;refine RL.nil ?_;refine WP.ret ?_;refine pi.ret ?_;refine ⟨.bool (false),yL.one (fR.tmp rfl),_,rfl,hX,?_⟩;dsimp only;exfalso;rcases c41 with (h | h) | h
  · exact h trivial
  · exact h trivial
  · exact h Iff.rfl
 ·
  refine WP.skip ?_;refine pi.norm ?_;refine WP.seq ?_;refine ay aq 9 [fun v zq=>v= .bool (decide (sb=true)),fun v zq=>v= .bool (decide (¬(sb=true))),fun v zq=>v= .bool (decide (¬(sb=true))),fun v zq=>(¬(¬(sb=true)))→(v= .pointer (some ⟨g3,0,none⟩)),fun v zq=>(¬(¬(sb=true)))→(v= .int .i64 ((ks:Nat))),fun v zq=>(¬(¬(sb=true)))→(v= .pointer (some ⟨g2,0,none⟩)),fun v zq=>(¬(¬(sb=true)))→(v= .int .i64 ((R % 5:Nat))),fun v zq=>(¬(¬(sb=true)))→(v= .bool (decide (((ks:Nat):Int)≠((R % 5:Nat):Int)))),fun v zq=>v= .bool (decide ((¬(sb=true))∨(((ks:Nat):Int)≠((R % 5:Nat):Int))))] rfl rfl ⟨aa _,aa _,aa _,dG.imp (aa _),dG.imp (aa _),dG.imp (aa _),dG.imp (aa _),dG.imp (aa _),aa _,trivial⟩ ⟨fun e_ w_ zp zo zn=>ab (cz.move (((zo 8 rfl).trans s8_e2))),fun e_ w_ zp zo zn=>ab (cz.not (p:=sb=true) (zn 0 rfl)),fun e_ w_ zp zo zn=>ab (cz.move ((zn 1 rfl))),fun e_ w_ zp zo zn=>aC (p:=¬(sb=true)) (zn 2 rfl) (fun hg=>dv.imp (p:=¬(¬(sb=true))) (φ:=fun v zq=>v= .pointer (some ⟨g3,0,none⟩)) (ab (cz.fieldAddr bj (((zo 5 rfl).trans s5_e2))))) (fun hn=>(fun hg=>absurd hn hg)),fun e_ w_ zp zo zn=>aC (p:=¬(sb=true)) (zn 2 rfl) (fun hg=>dv.imp (p:=¬(¬(sb=true))) (φ:=fun v zq=>v= .int .i64 ((ks:Nat))) (ab (cz.load bT ((zn 3 rfl hg)) ((aX.ext hA3 zp).at_ (i:=0) rfl rfl)))) (fun hn=>(fun hg=>absurd hn hg)),fun e_ w_ zp zo zn=>aC (p:=¬(sb=true)) (zn 2 rfl) (fun hg=>dv.imp (p:=¬(¬(sb=true))) (φ:=fun v zq=>v= .pointer (some ⟨g2,0,none⟩)) (ab (cz.fieldAddr bj (((zo 4 rfl).trans s4_e2))))) (fun hn=>(fun hg=>absurd hn hg)),fun e_ w_ zp zo zn=>aC (p:=¬(sb=true)) (zn 2 rfl) (fun hg=>dv.imp (p:=¬(¬(sb=true))) (φ:=fun v zq=>v= .int .i64 ((R % 5:Nat))) (ab (cz.load bT ((zn 5 rfl hg)) ((aX.ext hA2 zp).at_ (i:=0) rfl rfl)))) (fun hn=>(fun hg=>absurd hn hg)),fun e_ w_ zp zo zn=>aC (p:=¬(sb=true)) (zn 2 rfl) (fun hg=>dv.imp (p:=¬(¬(sb=true))) (φ:=fun v zq=>v= .bool (decide (((ks:Nat):Int)≠((R % 5:Nat):Int)))) (ab (cz.neq ((zn 4 rfl hg)) ((zn 6 rfl hg))))) (fun hn=>(fun hg=>absurd hn hg)),fun e_ w_ zp zo zn=>ab (ce (p:=¬(sb=true)) (q:=((ks:Nat):Int)≠((R % 5:Nat):Int)) (zn 2 rfl) (fun hq=>(zn 7 rfl hq))),trivial⟩ ?_;intro e3 w14 hx11 ho3 hf3;replace hA2:=aX.ext hA2 hx11;replace hA3:=aX.ext hA3 hx11;replace hS1:=cu.ext hS1 hx11;replace q3:=cu.ext q3 hx11;replace hA4:=aX.ext hA4 hx11;replace hM1:=cA.ext hM1 hx11;replace hX:=aQ.trans hX hx11;have s2_e3:e3 2= .bool (false):=(ho3 2 rfl).trans s2_e2;have s3_e3:e3 3= .bool (decide (True)):=(ho3 3 rfl).trans s3_e2;have s4_e3:e3 4= .pointer (some ⟨g2,0,none⟩):=(ho3 4 rfl).trans s4_e2;have s6_e3:e3 6= .pointer (some ⟨g4,0,none⟩):=(ho3 6 rfl).trans s6_e2;have s7_e3:e3 7= .int .i64 ((stt:Nat)):=(ho3 7 rfl).trans s7_e2;have s50_e3:e3 50= .bool (decide ((¬(sb=true))∨(((ks:Nat):Int)≠((R % 5:Nat):Int)))):=hf3 8 rfl;refine RL.nil ?_;refine ag ((¬(sb=true))∨(((ks:Nat):Int)≠((R % 5:Nat):Int))) s50_e3 (fun c50=> ?_) (fun c50=> ?_)
  ·
   refine ay aq 21 [fun v zq=>v= .bool (decide (True)),fun v zq=>v= .bool (decide (True)),fun v zq=>(True)→(v= .int .i64 ((stt:Nat))),fun v zq=>(True)→(v= .bool (decide (((stt:Nat):Int)=(170:Int)))),fun v zq=>v= .bool (decide ((True)∧(((stt:Nat):Int)=(170:Int)))),fun v zq=>v= .bool (decide ((True)∧(((stt:Nat):Int)=(170:Int)))),fun v zq=>((True)∧(((stt:Nat):Int)=(170:Int)))→(v= .pointer (some ⟨g4,0,none⟩)),fun v zq=>((True)∧(((stt:Nat):Int)=(170:Int)))→(v= .int .i64 ((R':Nat))),fun v zq=>((True)∧(((stt:Nat):Int)=(170:Int)))→(v= .bool (decide (((R':Nat):Int)=(0:Int)))),fun v zq=>v= .bool (decide (((True)∧(((stt:Nat):Int)=(170:Int)))∧(((R':Nat):Int)=(0:Int)))),fun v zq=>v= .bool (decide (((True)∧(((stt:Nat):Int)=(170:Int)))∧(((R':Nat):Int)=(0:Int)))),fun v zq=>(((True)∧(((stt:Nat):Int)=(170:Int)))∧(((R':Nat):Int)=(0:Int)))→(v= .pointer (some ⟨g4,1,none⟩)),fun v zq=>(((True)∧(((stt:Nat):Int)=(170:Int)))∧(((R':Nat):Int)=(0:Int)))→(v= .int .i64 ((C':Nat))),fun v zq=>(((True)∧(((stt:Nat):Int)=(170:Int)))∧(((R':Nat):Int)=(0:Int)))→(v= .bool (decide (((C':Nat):Int)=(0:Int)))),fun v zq=>v= .bool (decide ((((True)∧(((stt:Nat):Int)=(170:Int)))∧(((R':Nat):Int)=(0:Int)))∧(((C':Nat):Int)=(0:Int)))),fun v zq=>v= .bool (decide ((((True)∧(((stt:Nat):Int)=(170:Int)))∧(((R':Nat):Int)=(0:Int)))∧(((C':Nat):Int)=(0:Int)))),fun v zq=>((((True)∧(((stt:Nat):Int)=(170:Int)))∧(((R':Nat):Int)=(0:Int)))∧(((C':Nat):Int)=(0:Int)))→(v= .pointer (some ⟨g4,2,none⟩)),fun v zq=>((((True)∧(((stt:Nat):Int)=(170:Int)))∧(((R':Nat):Int)=(0:Int)))∧(((C':Nat):Int)=(0:Int)))→(v=s'),fun v zq=>((((True)∧(((stt:Nat):Int)=(170:Int)))∧(((R':Nat):Int)=(0:Int)))∧(((C':Nat):Int)=(0:Int)))→(v= .int .i64 ((R':Nat))),fun v zq=>((((True)∧(((stt:Nat):Int)=(170:Int)))∧(((R':Nat):Int)=(0:Int)))∧(((C':Nat):Int)=(0:Int)))→(v= .bool (decide (((R':Nat):Int)=(0:Int)))),fun v zq=>v= .bool (decide (((((True)∧(((stt:Nat):Int)=(170:Int)))∧(((R':Nat):Int)=(0:Int)))∧(((C':Nat):Int)=(0:Int)))∧(((R':Nat):Int)=(0:Int))))] rfl rfl ⟨aa _,aa _,dG.imp (aa _),dG.imp (aa _),aa _,aa _,dG.imp (aa _),dG.imp (aa _),dG.imp (aa _),aa _,aa _,dG.imp (aa _),dG.imp (aa _),dG.imp (aa _),aa _,aa _,dG.imp (aa _),dG.imp (aa _),dG.imp (aa _),dG.imp (aa _),aa _,trivial⟩ ⟨fun e_ w_ zp zo zn=>ab (cz.move (((zo 3 rfl).trans s3_e3))),fun e_ w_ zp zo zn=>ab (cz.move ((zn 0 rfl))),fun e_ w_ zp zo zn=>am (p:=True) (zn 1 rfl) (fun hg=>dv.imp (p:=True) (φ:=fun v zq=>v= .int .i64 ((stt:Nat))) (ab (cz.move (((zo 7 rfl).trans s7_e3))))) (fun hn=>(fun hg=>absurd hg hn)),fun e_ w_ zp zo zn=>am (p:=True) (zn 1 rfl) (fun hg=>dv.imp (p:=True) (φ:=fun v zq=>v= .bool (decide (((stt:Nat):Int)=(170:Int)))) (ab (cz.eql ((zn 2 rfl hg)) rfl))) (fun hn=>(fun hg=>absurd hg hn)),fun e_ w_ zp zo zn=>ab (aG (p:=True) (q:=((stt:Nat):Int)=(170:Int)) (zn 1 rfl) (fun hq=>(zn 3 rfl hq))),fun e_ w_ zp zo zn=>ab (cz.move ((zn 4 rfl))),fun e_ w_ zp zo zn=>am (p:=(True)∧(((stt:Nat):Int)=(170:Int))) (zn 5 rfl) (fun hg=>dv.imp (p:=(True)∧(((stt:Nat):Int)=(170:Int))) (φ:=fun v zq=>v= .pointer (some ⟨g4,0,none⟩)) (ab (cz.fieldAddr bj (((zo 6 rfl).trans s6_e3))))) (fun hn=>(fun hg=>absurd hg hn)),fun e_ w_ zp zo zn=>am (p:=(True)∧(((stt:Nat):Int)=(170:Int))) (zn 5 rfl) (fun hg=>dv.imp (p:=(True)∧(((stt:Nat):Int)=(170:Int))) (φ:=fun v zq=>v= .int .i64 ((R':Nat))) (ab (cz.load bT ((zn 6 rfl hg)) ((aX.ext hA4 zp).at_ (i:=0) rfl rfl)))) (fun hn=>(fun hg=>absurd hg hn)),fun e_ w_ zp zo zn=>am (p:=(True)∧(((stt:Nat):Int)=(170:Int))) (zn 5 rfl) (fun hg=>dv.imp (p:=(True)∧(((stt:Nat):Int)=(170:Int))) (φ:=fun v zq=>v= .bool (decide (((R':Nat):Int)=(0:Int)))) (ab (cz.eql ((zn 7 rfl hg)) rfl))) (fun hn=>(fun hg=>absurd hg hn)),fun e_ w_ zp zo zn=>ab (aG (p:=(True)∧(((stt:Nat):Int)=(170:Int))) (q:=((R':Nat):Int)=(0:Int)) (zn 5 rfl) (fun hq=>(zn 8 rfl hq))),fun e_ w_ zp zo zn=>ab (cz.move ((zn 9 rfl))),fun e_ w_ zp zo zn=>am (p:=((True)∧(((stt:Nat):Int)=(170:Int)))∧(((R':Nat):Int)=(0:Int))) (zn 10 rfl) (fun hg=>dv.imp (p:=((True)∧(((stt:Nat):Int)=(170:Int)))∧(((R':Nat):Int)=(0:Int))) (φ:=fun v zq=>v= .pointer (some ⟨g4,1,none⟩)) (ab (cz.fieldAddr bF (((zo 6 rfl).trans s6_e3))))) (fun hn=>(fun hg=>absurd hg hn)),fun e_ w_ zp zo zn=>am (p:=((True)∧(((stt:Nat):Int)=(170:Int)))∧(((R':Nat):Int)=(0:Int))) (zn 10 rfl) (fun hg=>dv.imp (p:=((True)∧(((stt:Nat):Int)=(170:Int)))∧(((R':Nat):Int)=(0:Int))) (φ:=fun v zq=>v= .int .i64 ((C':Nat))) (ab (cz.load bT ((zn 11 rfl hg)) ((aX.ext hA4 zp).at_ (i:=1) rfl rfl)))) (fun hn=>(fun hg=>absurd hg hn)),fun e_ w_ zp zo zn=>am (p:=((True)∧(((stt:Nat):Int)=(170:Int)))∧(((R':Nat):Int)=(0:Int))) (zn 10 rfl) (fun hg=>dv.imp (p:=((True)∧(((stt:Nat):Int)=(170:Int)))∧(((R':Nat):Int)=(0:Int))) (φ:=fun v zq=>v= .bool (decide (((C':Nat):Int)=(0:Int)))) (ab (cz.eql ((zn 12 rfl hg)) rfl))) (fun hn=>(fun hg=>absurd hg hn)),fun e_ w_ zp zo zn=>ab (aG (p:=((True)∧(((stt:Nat):Int)=(170:Int)))∧(((R':Nat):Int)=(0:Int))) (q:=((C':Nat):Int)=(0:Int)) (zn 10 rfl) (fun hq=>(zn 13 rfl hq))),fun e_ w_ zp zo zn=>ab (cz.move ((zn 14 rfl))),fun e_ w_ zp zo zn=>am (p:=(((True)∧(((stt:Nat):Int)=(170:Int)))∧(((R':Nat):Int)=(0:Int)))∧(((C':Nat):Int)=(0:Int))) (zn 15 rfl) (fun hg=>dv.imp (p:=(((True)∧(((stt:Nat):Int)=(170:Int)))∧(((R':Nat):Int)=(0:Int)))∧(((C':Nat):Int)=(0:Int))) (φ:=fun v zq=>v= .pointer (some ⟨g4,2,none⟩)) (ab (cz.fieldAddr av (((zo 6 rfl).trans s6_e3))))) (fun hn=>(fun hg=>absurd hg hn)),fun e_ w_ zp zo zn=>am (p:=(((True)∧(((stt:Nat):Int)=(170:Int)))∧(((R':Nat):Int)=(0:Int)))∧(((C':Nat):Int)=(0:Int))) (zn 15 rfl) (fun hg=>dv.imp (p:=(((True)∧(((stt:Nat):Int)=(170:Int)))∧(((R':Nat):Int)=(0:Int)))∧(((C':Nat):Int)=(0:Int))) (φ:=fun v zq=>v=s') (ab (cz.load aR ((zn 16 rfl hg)) ((aX.ext hA4 zp).at_ (i:=2) rfl rfl)))) (fun hn=>(fun hg=>absurd hg hn)),fun e_ w_ zp zo zn=>am (p:=(((True)∧(((stt:Nat):Int)=(170:Int)))∧(((R':Nat):Int)=(0:Int)))∧(((C':Nat):Int)=(0:Int))) (zn 15 rfl) (fun hg=>dv.imp (p:=(((True)∧(((stt:Nat):Int)=(170:Int)))∧(((R':Nat):Int)=(0:Int)))∧(((C':Nat):Int)=(0:Int))) (φ:=fun v zq=>v= .int .i64 ((R':Nat))) (ab (cZ aK (zn 17 rfl hg) (cu.ext q3 zp)))) (fun hn=>(fun hg=>absurd hg hn)),fun e_ w_ zp zo zn=>am (p:=(((True)∧(((stt:Nat):Int)=(170:Int)))∧(((R':Nat):Int)=(0:Int)))∧(((C':Nat):Int)=(0:Int))) (zn 15 rfl) (fun hg=>dv.imp (p:=(((True)∧(((stt:Nat):Int)=(170:Int)))∧(((R':Nat):Int)=(0:Int)))∧(((C':Nat):Int)=(0:Int))) (φ:=fun v zq=>v= .bool (decide (((R':Nat):Int)=(0:Int)))) (ab (cz.eql ((zn 18 rfl hg)) rfl))) (fun hn=>(fun hg=>absurd hg hn)),fun e_ w_ zp zo zn=>ab (aG (p:=(((True)∧(((stt:Nat):Int)=(170:Int)))∧(((R':Nat):Int)=(0:Int)))∧(((C':Nat):Int)=(0:Int))) (q:=((R':Nat):Int)=(0:Int)) (zn 15 rfl) (fun hq=>(zn 19 rfl hq))),trivial⟩ ?_;intro e4 w15 hx12 ho4 hf4;replace hA2:=aX.ext hA2 hx12;replace q3:=cu.ext q3 hx12;replace hA4:=aX.ext hA4 hx12;replace hM1:=cA.ext hM1 hx12;replace hX:=aQ.trans hX hx12;have s2_e4:e4 2= .bool (false):=(ho4 2 rfl).trans s2_e3;have s3_e4:e4 3= .bool (decide (True)):=(ho4 3 rfl).trans s3_e3;have s4_e4:e4 4= .pointer (some ⟨g2,0,none⟩):=(ho4 4 rfl).trans s4_e3;have s6_e4:e4 6= .pointer (some ⟨g4,0,none⟩):=(ho4 6 rfl).trans s6_e3;have s7_e4:e4 7= .int .i64 ((stt:Nat)):=(ho4 7 rfl).trans s7_e3;have s71_e4:e4 71= .bool (decide (((((True)∧(((stt:Nat):Int)=(170:Int)))∧(((R':Nat):Int)=(0:Int)))∧(((C':Nat):Int)=(0:Int)))∧(((R':Nat):Int)=(0:Int)))):=hf4 20 rfl;refine RL.p rfl rfl (cz.assign s71_e4) ?_;refine RL.nil ?_;refine WP.ret ?_;refine pi.ret ?_;refine ⟨.bool (decide (((((True)∧(((stt:Nat):Int)=(170:Int)))∧(((R':Nat):Int)=(0:Int)))∧(((C':Nat):Int)=(0:Int)))∧(((R':Nat):Int)=(0:Int)))),yL.one (fR.tmp rfl),_,rfl,hX,?_⟩;dsimp only;rcases hcase with ⟨⟨h1,h2⟩,_⟩ | ⟨_,e1,e2,e3⟩
   · exfalso
     obtain ⟨g1,g2⟩:=tf hHc.lin hHc.kr hHc.kc hHc.ech hH3 hSR.lat h1 h2;rcases c50 with h | h
     · exact h (hsb.2 ((iz hH3.lin hH3.kr hH3.ech hSR.lat).1 g1))
     · omega
   · exact congrArg _ (decide_eq_true ⟨⟨⟨⟨trivial,by omega⟩,by omega⟩,by omega⟩,by omega⟩)
  ·
   refine WP.skip ?_;refine pi.norm ?_;have hsb1:sb=true:=Decidable.of_not_not fun h=>c50 (.inl h)
   have hks:ks=R % 5:=by
     rcases Nat.lt_trichotomy ks (R % 5) with h | h | h
     · exact absurd (.inr (by omega)) c50
     · exact h
     · exact absurd (.inr (by omega)) c50
   have hidc:=pf hHc.lin hHc.kr hHc.kc hHc.ech hH3 hSR.lat ((iz hH3.lin hH3.kr hH3.ech hSR.lat).2 (hsb.1 hsb1)) hks;obtain ⟨hR1,hC1,hst1,hMc1⟩:R'=C % 5 - R % 5∧C'=C % 5∧stt=0∧Mc=fun a e=>Sc.V e (R % 5 + a):=by
     rcases hcase with h | h
     · exact h.2
     · exact absurd hidc h.1
   refine ay aq 10 [fun v zq=>v= .bool (decide (True)),fun v zq=>v= .bool (decide (True)),fun v zq=>(True)→(v= .int .i64 ((stt:Nat))),fun v zq=>(True)→(v= .bool (decide (((stt:Nat):Int)=(0:Int)))),fun v zq=>v= .bool (decide ((True)∧(((stt:Nat):Int)=(0:Int)))),fun v zq=>v= .bool (decide ((True)∧(((stt:Nat):Int)=(0:Int)))),fun v zq=>((True)∧(((stt:Nat):Int)=(0:Int)))→(v= .agg #[.int .i64 ((R % 5:Nat)),.int .i64 ((C % 5:Nat)),.slice (some ⟨gh1,0,none⟩) (R % 5) (kh1)]),fun v zq=>((True)∧(((stt:Nat):Int)=(0:Int)))→(v= .agg #[.int .i64 ((R':Nat)),.int .i64 ((C':Nat)),s']),fun v zq=>((True)∧(((stt:Nat):Int)=(0:Int)))→(v= .bool (decide (True))),fun v zq=>v= .bool (decide (((True)∧(((stt:Nat):Int)=(0:Int)))∧(True)))] rfl rfl ⟨aa _,aa _,dG.imp (aa _),dG.imp (aa _),aa _,aa _,dG.imp (aa _),dG.imp (aa _),dG.imp (aa _),aa _,trivial⟩ ⟨fun e_ w_ zp zo zn=>ab (cz.move (((zo 3 rfl).trans s3_e3))),fun e_ w_ zp zo zn=>ab (cz.move ((zn 0 rfl))),fun e_ w_ zp zo zn=>am (p:=True) (zn 1 rfl) (fun hg=>dv.imp (p:=True) (φ:=fun v zq=>v= .int .i64 ((stt:Nat))) (ab (cz.move (((zo 7 rfl).trans s7_e3))))) (fun hn=>(fun hg=>absurd hg hn)),fun e_ w_ zp zo zn=>am (p:=True) (zn 1 rfl) (fun hg=>dv.imp (p:=True) (φ:=fun v zq=>v= .bool (decide (((stt:Nat):Int)=(0:Int)))) (ab (cz.eql ((zn 2 rfl hg)) rfl))) (fun hn=>(fun hg=>absurd hg hn)),fun e_ w_ zp zo zn=>ab (aG (p:=True) (q:=((stt:Nat):Int)=(0:Int)) (zn 1 rfl) (fun hq=>(zn 3 rfl hq))),fun e_ w_ zp zo zn=>ab (cz.move ((zn 4 rfl))),fun e_ w_ zp zo zn=>am (p:=(True)∧(((stt:Nat):Int)=(0:Int))) (zn 5 rfl) (fun hg=>dv.imp (p:=(True)∧(((stt:Nat):Int)=(0:Int))) (φ:=fun v zq=>v= .agg #[.int .i64 ((R % 5:Nat)),.int .i64 ((C % 5:Nat)),.slice (some ⟨gh1,0,none⟩) (R % 5) (kh1)]) (ab (af [.int .i64 ((R % 5:Nat)),.int .i64 ((C % 5:Nat)),.slice (some ⟨gh1,0,none⟩) (R % 5) (kh1)] aT (((zo 4 rfl).trans s4_e3)) ((aX.ext hA2 zp).cells 0 _ rfl rfl)))) (fun hn=>(fun hg=>absurd hg hn)),fun e_ w_ zp zo zn=>am (p:=(True)∧(((stt:Nat):Int)=(0:Int))) (zn 5 rfl) (fun hg=>dv.imp (p:=(True)∧(((stt:Nat):Int)=(0:Int))) (φ:=fun v zq=>v= .agg #[.int .i64 ((R':Nat)),.int .i64 ((C':Nat)),s']) (ab (af [.int .i64 ((R':Nat)),.int .i64 ((C':Nat)),s'] aT (((zo 6 rfl).trans s6_e3)) ((aX.ext hA4 zp).cells 0 _ rfl rfl)))) (fun hn=>(fun hg=>absurd hg hn)),fun e_ w_ zp zo zn=>am (p:=(True)∧(((stt:Nat):Int)=(0:Int))) (zn 5 rfl) (fun hg=>dv.imp (p:=(True)∧(((stt:Nat):Int)=(0:Int))) (φ:=fun v zq=>v= .bool (decide (True))) (dv.call rp (aF ((zn 6 rfl hg)) ((zn 7 rfl hg))) (kA (cA.matV (cA.ext hM1 zp) (by omega) (by omega)) (bo.mk (cu.ext q3 zp) (by omega) (by omega)) (by omega) (fun i j _ _=>Nat.le_of_lt (dS f n _ i j)) hHc hidc.1 hidc.2 hR1 hC1 hMc1))) (fun hn=>(fun hg=>absurd hg hn)),fun e_ w_ zp zo zn=>ab (aG (p:=(True)∧(((stt:Nat):Int)=(0:Int))) (q:=True) (zn 5 rfl) (fun hq=>(zn 8 rfl hq))),trivial⟩ ?_;intro e5 w16 hx13 ho5 hf5;replace hA2:=aX.ext hA2 hx13;replace q3:=cu.ext q3 hx13;replace hA4:=aX.ext hA4 hx13;replace hM1:=cA.ext hM1 hx13;replace hX:=aQ.trans hX hx13;have s2_e5:e5 2= .bool (false):=(ho5 2 rfl).trans s2_e3;have s81_e5:e5 81= .bool (decide (((True)∧(((stt:Nat):Int)=(0:Int)))∧(True))):=hf5 9 rfl;refine RL.p rfl rfl (cz.assign s81_e5) ?_;refine RL.nil ?_;refine WP.ret ?_;refine ⟨.bool (decide (((True)∧(((stt:Nat):Int)=(0:Int)))∧(True))),yL.one (fR.tmp rfl),_,rfl,hX,?_⟩;dsimp only;exact congrArg _ (decide_eq_true ⟨⟨trivial,by omega⟩,trivial⟩)
end Go.TL
namespace Go.TL
set_option linter.unusedVariables false
section
variable {r c k:Nat} {M0:Nat→Nat→Int} {S:WS}
theorem jA (hl:Lin c r (fX M0) S) (hk:k≤c) (hkr:k≤r) (he:io c k r S.M) (hfree:∀u:Nat→Int,(∀j,j<c→ar r (fun i=>u i*M0 i j)=0)→∀i,i<r→u i=0) (hq:mS r c M0):(∀i j,i<c→j<r→S.M i j=bI i j)∧r≤c:=by
  have hlat:∀v,er r c M0 v↔er k c (fun x j=>S.V j x) v:=fun v=>by rw [←iy hl hk he];exact hq v
  have hB:∀x,∃a:Nat→Int,x<k→∀j,j<c→S.V j x=ar r (fun i=>a i*M0 i j):=fun x=>by
    by_cases hx:x<k
    · obtain ⟨a,ha⟩:=(hlat (fun j=>S.V j x)).2 (er.row (M:=fun x j=>S.V j x) hx)
      exact ⟨a,fun _=>ha⟩
    · exact ⟨fun _=>0,fun h=>absurd h hx⟩
  obtain ⟨b,hb⟩:=Classical.skolem.1 hB;have hTB:∀i j,i<r→j<r→ar k (fun x=>S.M x i*b x j)=bI i j:=fun i j hi hj=>by
    have h1:=hfree (fun y=>ar k (fun x=>S.M x i*b x y) - bI i y) (fun y hy=>by
      have h4:ar r (fun z=>(ar k (fun x=>S.M x i*b x z) - bI i z)*M0 z y)=ar r (fun z=>ar k (fun x=>S.M x i*b x z)*M0 z y) - ar r (fun z=>bI i z*M0 z y):=by
        rw [←eN];exact az fun z _=>Int.sub_mul _ _ _
      have h5:ar r (fun z=>ar k (fun x=>S.M x i*b x z)*M0 z y)=ar k (fun x=>S.M x i*ar r (fun z=>b x z*M0 z y)):=(cK k r (fun x=>S.M x i) b M0 y).symm;have h6:ar k (fun x=>S.M x i*ar r (fun z=>b x z*M0 z y))=M0 i y:=by
        rw [iB hl hk he hi hy];exact az fun x hx=>by rw [←hb x hx y hy]
      have h7:ar r (fun z=>bI i z*M0 z y)=M0 i y:=by
        rw [cH hi fun z _ hne=>by simp [bI,Ne.symm hne]];simp [bI]
      rw [h4,h5,h6,h7];omega) j hj
    have h8:ar k (fun x=>S.M x i*b x j) - bI i j=0:=h1;omega
  have hBT:∀x,x<k→ar r (fun i=>b x i*S.M x i)=1:=fun x hx=>by
    have h1:=gQ hl (a:=fun y=>ar r (fun i=>b x i*S.M y i) - bI x y) (n:=k) hk (fun j hj=>by
      have h4:ar k (fun y=>(ar r (fun i=>b x i*S.M y i) - bI x y)*S.V j y)=ar k (fun y=>ar r (fun i=>b x i*S.M y i)*S.V j y) - ar k (fun y=>bI x y*S.V j y):=by
        rw [←eN];exact az fun z _=>Int.sub_mul _ _ _
      have h5:ar k (fun y=>ar r (fun i=>b x i*S.M y i)*S.V j y)=ar r (fun i=>b x i*ar k (fun y=>S.M y i*S.V j y)):=(cK r k (b x) (fun i y=>S.M y i) (fun y _=>S.V j y) 0).symm;have h6:ar r (fun i=>b x i*ar k (fun y=>S.M y i*S.V j y))=S.V j x:=by
        rw [hb x hx j hj];exact az fun i hi=>by rw [iB hl hk he hi hj]
      have h7:ar k (fun y=>bI x y*S.V j y)=S.V j x:=by
        rw [cH hx fun z _ hne=>by simp [bI,Ne.symm hne]];simp [bI]
      rw [h4,h5,h6,h7];omega) hx
    have h8:ar r (fun i=>b x i*S.M x i) - bI x x=0:=h1;have h9:bI x x=1:=by simp [bI]
    omega
  have hone:∀n,ar n (fun _=>(1:Int))=(n:Int):=fun n=>by
    induction n with
    | zero=>rfl
    | succ n ih=>simp only [ar];rw [ih];omega
  have htr:(r:Int)=(k:Int):=by
    rw [←hone r,←hone k];have h1:ar r (fun _=>(1:Int))=ar r (fun i=>ar k (fun x=>S.M x i*b x i)):=az fun i hi=>by rw [hTB i i hi hi];simp [bI]
    have h2:ar k (fun _=>(1:Int))=ar k (fun x=>ar r (fun i=>b x i*S.M x i)):=az fun x hx=>(hBT x hx).symm
    rw [h1,h2,gD];exact az fun x _=>dQ _ _ _
  have hkk:k=r:=by omega
  obtain ⟨P,hP⟩:=he.toP.1;rw [hkk] at hP;have huq:=hP.unique (jQ r) fun v=>⟨fun _=>mB v,fun _=>⟨fun x=>ar r (fun i=>b x i*v i),fun j hj=>by
    have h1:ar r (fun x=>ar r (fun i=>b x i*v i)*S.M x j)=ar r (fun x=>S.M x j*ar r (fun i=>b x i*v i)):=dQ _ _ _;have h2:ar r (fun x=>S.M x j*ar r (fun i=>b x i*v i))=ar r (fun i=>ar r (fun x=>S.M x j*b x i)*v i):=cK r r (fun x=>S.M x j) b (fun i _=>v i) 0;have h3:ar r (fun i=>ar r (fun x=>S.M x j*b x i)*v i)=ar r (fun i=>bI j i*v i):=az fun i hi=>by
      have:=hTB j i hj hi;rw [hkk] at this;rw [this]
    rw [h1,h2,h3,cH hj fun x _ hne=>by simp [bI,Ne.symm hne]];simp [bI]⟩⟩
  refine ⟨fun i j hi hj=> ?_,by omega⟩;rcases Nat.lt_or_ge i r with h | h
  · exact huq.2 i j h hj
  · rw [he.toP.2 i (by omega) hi j hj];unfold bI;rw [if_neg (by omega)]
theorem lU (hl:Lin c r (fX M0) S) (hk:k≤c) (hkr:k≤r) (he:io c k r S.M) (hid:∀i j,i<c→j<r→S.M i j=bI i j) (hrc:r≤c):
    mS r c M0∧∀u:Nat→Int,(∀j,j<c→ar r (fun i=>u i*M0 i j)=0)→∀i,i<r→u i=0:=by
  have hkr2:=mD hk hkr he hid hrc;subst hkr2;have hrow:=fun {i j:Nat} (hi:i<k) (hj:j<c)=>mC hl hk hkr he hid hrc hi hj
  refine ⟨fun v=> ?_,fun u hu i hi=>gQ hl (a:=u) (n:=k) hk (fun j hj=> ?_) hi⟩
  · rw [iy hl hk he]
    exact ⟨fun h=>h.congr fun i j hi hj=>hrow hi hj,fun h=>h.congr fun i j hi hj=>(hrow hi hj).symm⟩
  · rw [←hu j hj];exact az fun x hx=>by rw [hrow hx hj]
end
def db (a b:Int):Nat→Nat→Int:=fun _ j=>if j=0 then a else b
theorem tZ (f:Nat→Int):ar 1 f=f 0:=by simp [ar]
theorem rF (f:Nat→Int):ar 2 f=f 0 + f 1:=by simp [ar]
theorem kO {a b:Int} {v:Nat→Int}:er 1 2 (db a b) v↔∃t:Int,v 0=t*a∧v 1=t*b:=by
  constructor
  · rintro ⟨t,h⟩
    exact ⟨t 0,by rw [h 0 (by decide),tZ];rfl,by rw [h 1 (by decide),tZ];rfl⟩
  · rintro ⟨t,h0,h1⟩
    refine ⟨fun _=>t,fun j hj=> ?_⟩;rw [tZ];rcases (by omega:j=0∨j=1) with rfl | rfl
    · exact h0
    · exact h1
theorem rO (v:Nat→Int):od 1 2 (db 1 2) v↔v 1=2*v 0:=by
  unfold od
  simp only [rF]
  constructor
  · intro h
    have:=h (fun j=>if j=0 then 2 else -1) (fun i hi=>by simp [db]);simp at this;omega
  · intro h u hu
    have:=hu 0 (by decide);simp [db] at this;rw [h];have e1:u 0= -(u 1*2):=by omega
    rw [e1,Int.mul_neg,←Int.mul_assoc,Int.mul_comm (v 0*u 1) 2,←Int.mul_assoc];omega
theorem mh:mS 1 2 (db 1 2):=fun v=>by
  rw [kO,rO]
  constructor
  · rintro ⟨t,h0,h1⟩;omega
  · intro h;exact ⟨v 0,by omega,by omega⟩
theorem rN (v:Nat→Int):od 1 2 (db 2 4) v↔od 1 2 (db 1 2) v:=by
  unfold od
  simp only [rF]
  constructor<;>intro h u hu<;>refine h u fun i hi=> ?_<;>have:=hu i hi<;>simp [db] at this⊢<;>omega
theorem jw:¬mS 1 2 (db 2 4):=fun h=>by
  have h1:=(h (fun j=>if j=0 then 1 else 2)).2 (by rw [rN,rO];simp);rw [kO] at h1;obtain ⟨t,h2,_⟩:=h1;simp at h2;omega
theorem uG (u:Nat→Int) (h:∀j,j<2→ar 1 (fun i=>u i*db 1 2 i j)=0):∀i,i<1→u i=0:=fun i hi=>by
  have:=h 0 (by decide);rw [tZ] at this;simp [db] at this;rw [show i=0 by omega];exact this
theorem wM (c:Nat) (M:Nat→Nat→Int):mS 0 c M:=fun v=>by
  constructor
  · rintro ⟨a,h⟩ u _
    exact cN fun j hj=>by rw [h j hj];simp [ar]
  · intro h
    refine ⟨fun _=>0,fun j hj=> ?_⟩;have:=h (fun x=>if x=j then 1 else 0) (fun i hi=>by omega);rw [cH hj fun x _ hne=>by simp [hne]] at this
    simpa [ar] using this
theorem lT {a b:Int} (h:0<a):eV 1 2 (db a b) (fun _=>0):=fun i hi=>by
  show 0<2∧0<db a b i 0∧(∀j,j<0→db a b i j=0)∧∀n,n<i→0<0∧0≤db a b n 0∧db a b n 0<db a b i 0;exact ⟨by decide,by simpa [db] using h,fun j hj=>by omega,fun n hn=>by omega⟩
end Go.TL
namespace Go.TL
open Go.RowKit Go.Proofs
set_option linter.unusedVariables false
def f2 (a b:Int):Nat→Int:=fun i=>if i=0 then a else b
def f4 (a b c d:Int):Nat→Int:=fun i=>if i=0 then a else if i=1 then b else if i=2 then c else d
def mJ (a b:Int):Nat→Nat→Int:=fun i _=>if i=0 then a else b
def xq (a b c d:Int):Nat→Nat→Int:=fun i j=>if i=0 then (if j=0 then a else b) else (if j=0 then c else d)
theorem lM {w:World} {g T m:Nat} {a b:Int} (hA:aX w g T 2 (bG [.int .i64 a,.int .i64 b])):fi .i64 m w (.slice (some ⟨g,0,none⟩) 2 2) 2 (f2 a b):=
  ⟨_,_,rfl,Nat.le_refl _,by decide,fun _=>⟨g,0,rfl,fun i hi=>by
    rw [Nat.zero_add];have:=hA.cell hi;rcases (by omega:i=0∨i=1) with rfl | rfl
    · exact this
    · exact this⟩⟩
theorem yq {w:World} {g T m:Nat} {a b c d:Int} (hA:aX w g T 4 (bG [.int .i64 a,.int .i64 b,.int .i64 c,.int .i64 d])):fi .i64 m w (.slice (some ⟨g,0,none⟩) 4 4) 4 (f4 a b c d):=
  ⟨_,_,rfl,Nat.le_refl _,by decide,fun _=>⟨g,0,rfl,fun i hi=>by
    rw [Nat.zero_add];have:=hA.cell hi;rcases (by omega:i=0∨i=1∨i=2∨i=3) with rfl | rfl | rfl | rfl
    · exact this
    · exact this
    · exact this
    · exact this⟩⟩
section
variable {w:World} {l x y:Value} {a b c d:Int}
theorem gc (hl:fi .i64 2 w l 2 (f2 a b)) (ha:a.natAbs<16) (hb:b.natAbs<16):Calls Tryz.prog 28 #[.int .i64 1,.int .i64 2,l] w (cg w fun v w'=>ck w' v w.heap.size 1 2 (db a b) 4):=by
  have hf:∀i,i<2→(f2 a b i).natAbs<16:=fun i _=>by unfold f2;split<;>assumption
  refine (oM w 1 2 l 2 (f2 a b) 4 (by decide) (by decide) hl (by decide) (fun i hi=>by have:=hf i hi;omega) (fun i hi=>hf i hi)).mono fun _ w' ⟨v,g1,g2,g3⟩=>⟨v,g1,g2,ck.congr g3 fun i j hi hj=> ?_⟩
  have:i=0:=by omega
  subst this
  unfold fx f2 db
  rw [if_pos (by omega),show 0*2 + j=j by omega]
theorem rZ (hl:fi .i64 2 w l 2 (f2 a b)) (ha:a.natAbs<16) (hb:b.natAbs<16):Calls Tryz.prog 28 #[.int .i64 2,.int .i64 1,l] w (cg w fun v w'=>ck w' v w.heap.size 2 1 (mJ a b) 4):=by
  have hf:∀i,i<2→(f2 a b i).natAbs<16:=fun i _=>by unfold f2;split<;>assumption
  refine (oM w 2 1 l 2 (f2 a b) 4 (by decide) (by decide) hl (by decide) (fun i hi=>by have:=hf i hi;omega) (fun i hi=>hf i hi)).mono fun _ w' ⟨v,g1,g2,g3⟩=>⟨v,g1,g2,ck.congr g3 fun i j hi hj=> ?_⟩
  have:j=0:=by omega
  subst this
  unfold fx f2 mJ
  rw [if_pos (by omega),show i*1 + 0=i by omega]
theorem rY (hl:fi .i64 2 w l 4 (f4 a b c d)) (ha:a.natAbs<16∧b.natAbs<16) (hb:c.natAbs<16∧d.natAbs<16):Calls Tryz.prog 28 #[.int .i64 2,.int .i64 2,l] w (cg w fun v w'=>ck w' v w.heap.size 2 2 (xq a b c d) 4):=by
  have hf:∀i,i<4→(f4 a b c d i).natAbs<16:=fun i _=>by unfold f4;split<;>(try split)<;>(try split)<;>omega
  refine (oM w 2 2 l 4 (f4 a b c d) 4 (by decide) (by decide) hl (by decide) (fun i hi=>by have:=hf i hi;omega) (fun i hi=>hf i hi)).mono fun _ w' ⟨v,g1,g2,g3⟩=>⟨v,g1,g2,ck.congr g3 fun i j hi hj=> ?_⟩
  unfold fx f4 xq
  rw [if_pos (by omega)];rcases (by omega:i=0∨i=1) with rfl | rfl<;>rcases (by omega:j=0∨j=1) with rfl | rfl<;>rfl
theorem mn {r cc e0 b1 k2 by':Nat} {M N:Nat→Nat→Int} {P:Nat→Nat} (h:go w x r cc e0 M b1) (hy:bo w y k2 r N by') (hP:eV k2 r N P) (hN:∀u,er k2 r N u↔Ker r cc M u):
    Calls Tryz.prog 11 #[x,y] w (cg w fun v _=>v= .bool (decide True)):=by
  obtain ⟨k,M1,h1,h2⟩:=h;obtain ⟨⟨P1,hP1⟩,h3⟩:=h1.lat;obtain ⟨rfl,e⟩:=hP1.unique hP fun v=>(h3 v).trans (hN v).symm
  exact (gH _ _ _ _ _ _ _ _ _ _ _ h2 hy).mono fun _ w' ⟨v,g1,g2,g3⟩=>⟨v,g1,g2,g3.trans (congrArg _ (decide_eq_true ⟨rfl,rfl,fun i hi j hj=>e i j hi hj⟩))⟩
theorem uf {r cc e0 b1 k2 by':Nat} {M N:Nat→Nat→Int} {P:Nat→Nat} (h:lm w x r cc e0 M b1) (hy:bo w y k2 cc N by') (hP:eV k2 cc N P) (hN:∀v,er k2 cc N v↔od r cc M v):
    Calls Tryz.prog 11 #[x,y] w (cg w fun v _=>v= .bool (decide True)):=by
  obtain ⟨k,M1,h1,h2⟩:=h;obtain ⟨⟨P1,hP1⟩,h3⟩:=h1.lat;obtain ⟨rfl,e⟩:=hP1.unique hP fun v=>(h3 v).trans (hN v).symm
  exact (gH _ _ _ _ _ _ _ _ _ _ _ h2 hy).mono fun _ w' ⟨v,g1,g2,g3⟩=>⟨v,g1,g2,g3.trans (congrArg _ (decide_eq_true ⟨rfl,rfl,fun i hi j hj=>e i j hi hj⟩))⟩
end
theorem oV (u:Nat→Int):er 1 2 (db 2 (-1)) u↔Ker 2 1 (mJ 1 2) u:=by
  rw [kO]
  constructor
  · rintro ⟨t,h0,h1⟩ j hj
    rw [rF];simp [mJ];omega
  · intro h
    have:=h 0 (by decide);rw [rF] at this;simp [mJ] at this;exact ⟨-u 1,by omega,by omega⟩
theorem qH (v:Nat→Int):er 1 2 (db 1 2) v↔od 1 2 (db 2 4) v:=(mh v).trans (rN v).symm
theorem oU (M:Nat→Nat→Int) (u:Nat→Int):er 2 2 bI u↔Ker 2 0 M u:=⟨fun _ j hj=>by omega,fun _=>mB u⟩
theorem oW (N M:Nat→Nat→Int) (u:Nat→Int):er 0 0 N u↔Ker 0 3 M u:=⟨fun _ j _=>rfl,fun _=>⟨fun _=>0,fun j hj=>by omega⟩⟩
theorem wZ (c:Nat) (N:Nat→Nat→Int):eV 0 c N (fun _=>0):=fun i hi=>by omega
theorem nG:¬∀u:Nat→Int,(∀j,j<2→ar 2 (fun i=>u i*xq 1 0 1 0 i j)=0)→∀i,i<2→u i=0:=fun h=>by
  have h1:=h (fun i=>if i=0 then 1 else -1) (fun j hj=>by
    rw [rF];rcases (by omega:j=0∨j=1) with rfl | rfl<;>simp [xq]) 0 (by decide)
  simp at h1
theorem mq (w:World) (c:Nat) (hc:c≤65536):bo w (.agg #[.int .i64 ((0:Nat):Int),.int .i64 ((c:Nat):Int),.slice none 0 0]) 0 c (fun _ _=>0) 4:=
  bo.mk ⟨none,0,rfl,Nat.le_refl _,⟨by decide,by decide,by decide⟩,fun h=>by omega⟩ (by decide) hc
theorem wQ {e:cM} {i j l m:Nat} {x y z o:Operand} {v u t s:Value} (h:ev e x=v) (k:ev e y=u) (n:ev e z=t) (q:ev e o=s):
    #[(i,x),(j,y),(l,z),(m,o)].toList.map (fun p:Nat×Operand=>(p.1,ev e p.2))= [(i,v),(j,u),(l,t),(m,s)]:=by simp [h,k,n,q]
end Go.TL
