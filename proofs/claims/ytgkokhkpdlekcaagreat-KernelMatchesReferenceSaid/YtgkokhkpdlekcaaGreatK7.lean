/-
  Lemmas towards the theorem of this claim (part 7).
  Conditions: those that each theorem names.
-/
import Derived.Test.YtgkokhkpdlekcaaGreatK6
namespace Go.TL
set_option linter.unusedVariables false
def ar:Nat→(Nat→Int)→Int
  | 0,_=>0
  | n + 1,f=>ar n f + f n
section
variable {f g:Nat→Int} {n:Nat}
theorem az:∀{n:Nat},(∀i,i<n→f i=g i)→ar n f=ar n g
  | 0,_=>rfl
  | n + 1,h=>by simp only [ar];rw [az (n:=n) fun i hi=>h i (by omega),h n (by omega)]
theorem cN:∀{n:Nat},(∀i,i<n→f i=0)→ar n f=0
  | 0,_=>rfl
  | n + 1,h=>by simp only [ar];rw [cN (n:=n) fun i hi=>h i (by omega),h n (by omega)];rfl
theorem eP (f g:Nat→Int):∀n,ar n (fun i=>f i + g i)=ar n f + ar n g
  | 0=>rfl
  | n + 1=>by simp only [ar];rw [eP f g n];omega
theorem eN (f g:Nat→Int):∀n,ar n (fun i=>f i - g i)=ar n f - ar n g
  | 0=>rfl
  | n + 1=>by simp only [ar];rw [eN f g n];omega
theorem fo (k:Int) (f:Nat→Int):∀n,ar n (fun i=>k*f i)=k*ar n f
  | 0=>by simp [ar]
  | n + 1=>by simp only [ar];rw [fo k f n,Int.mul_add]
theorem qr (k:Int) (f:Nat→Int) (n:Nat):ar n (fun i=>f i*k)=ar n f*k:=by
  rw [Int.mul_comm,←fo];exact az fun i _=>Int.mul_comm _ _
theorem nl (f:Nat→Int) (n:Nat):ar n (fun i=> -f i)= -ar n f:=by
  have:=fo (-1) f n;rw [show (-1:Int)*ar n f= -ar n f by omega] at this;rw [←this];exact az fun i _=>by omega
theorem eO {i:Nat}:∀{n:Nat},i<n→ar n (fun x=>if x=i then f x else 0)=f i
  | 0,h=>by omega
  | n + 1,h=>by
    simp only [ar]
    by_cases e:i=n
    · subst e
      rw [cN fun x hx=>by rw [if_neg (by omega)],if_pos rfl];omega
    · rw [eO (n:=n) (by omega),if_neg (by omega)];omega
theorem cH {i:Nat} (hi:i<n) (h:∀x,x<n→x≠i→f x=0):ar n f=f i:=by
  rw [←eO (f:=f) hi];exact az fun x hx=>by
    by_cases e:x=i
    · rw [if_pos e]
    · rw [if_neg e,h x hx e]
theorem gD (F:Nat→Nat→Int) (m:Nat):∀n,ar n (fun i=>ar m (fun j=>F i j))=ar m (fun j=>ar n (fun i=>F i j))
  | 0=>by simp only [ar];rw [cN fun _ _=>rfl]
  | n + 1=>by simp only [ar];rw [gD F m n,←eP]
theorem qq {i j:Nat} (hi:i<n) (hj:j<n):ar n (fun x=>f (fD id i j x))=ar n f:=by
  by_cases e:i=j
  · subst e
    refine az fun x _=> ?_
    unfold fD
    split
    · rename_i h;rw [h];rfl
    · rfl
  · have h1:ar n (fun x=>f (fD id i j x))=ar n (fun x=>f x + ((if x=i then (fun _=>f j - f i) x else 0) + (if x=j then (fun _=>f i - f j) x else 0))):=by
      refine az fun x _=> ?_
      unfold fD
      by_cases e1:x=i
      · subst e1;rw [if_pos rfl,if_pos rfl,if_neg e];simp only [id];omega
      · rw [if_neg e1,if_neg e1]
        by_cases e2:x=j
        · subst e2;rw [if_pos rfl,if_pos rfl];simp only [id];omega
        · rw [if_neg e2,if_neg e2];simp only [id];omega
    rw [h1,eP,eP,eO hi,eO hj];omega
theorem nm {B:Nat}:∀{n:Nat},(∀i,i<n→(f i).natAbs≤B)→(ar n f).natAbs≤n*B
  | 0,_=>by simp [ar]
  | n + 1,h=>by
    have h1:=nm (n:=n) (B:=B) fun i hi=>h i (by omega)
    have h2:=h n (by omega);simp only [ar];rw [Nat.add_mul];omega
end
def cv (n:Nat) (A B:Nat→Nat→Int):Nat→Nat→Int:=fun i j=>ar n fun a=>A i a*B a j
theorem kH {n:Nat} {A A' B B':Nat→Nat→Int} {i j:Nat} (hA:∀a,a<n→A i a=A' i a) (hB:∀a,a<n→B a j=B' a j):cv n A B i j=cv n A' B' i j:=
  az fun a ha=>by rw [hA a ha,hB a ha]
theorem kI (n m:Nat) (A B C:Nat→Nat→Int) (i j:Nat):cv m (cv n A B) C i j=cv n A (cv m B C) i j:=by
  unfold cv
  have h1:ar m (fun a=>ar n (fun b=>A i b*B b a)*C a j)=ar m (fun a=>ar n (fun b=>A i b*B b a*C a j)):=az fun a _=>(qr _ _ _).symm
  have h2:ar n (fun b=>A i b*ar m (fun a=>B b a*C a j))=ar n (fun b=>ar m (fun a=>A i b*B b a*C a j)):=
    az fun b _=>by rw [←fo];exact az fun a _=>by rw [Int.mul_assoc]
  rw [h1,h2,gD]
theorem jM {n:Nat} (A:Nat→Nat→Int) {i j:Nat} (hi:i<n):cv n bI A i j=A i j:=by
  unfold cv bI
  rw [cH hi fun x hx e=>by rw [if_neg (fun h=>e h.symm)];omega,if_pos rfl];omega
theorem lO {n:Nat} (U B:Nat→Nat→Int) (i j:Nat) (k:Int) (a b:Nat):cv n (cd U i j k) B a b=cd (cv n U B) i j k a b:=by
  unfold cv cd
  by_cases e:a=i
  · simp only [if_pos e]
    rw [←fo,←eP];exact az fun x _=>by rw [Int.add_mul,Int.mul_assoc]
  · simp only [if_neg e]
theorem qz {n:Nat} (A V:Nat→Nat→Int) (i j:Nat) (k:Int) (a b:Nat):cv n A (cP V i j k) a b=cP (cv n A V) i j k a b:=by
  unfold cv cP
  by_cases e:b=j
  · simp only [if_pos e]
    rw [←fo,←eN];exact az fun x _=>by rw [Int.mul_sub,Int.mul_left_comm]
  · simp only [if_neg e]
theorem kG {n:Nat} (U B:Nat→Nat→Int) (i j a b:Nat):cv n (cm U i j) B a b=cm (cv n U B) i j a b:=by
  unfold cv cm
  by_cases e:a=i
  · simp only [if_pos e]
  · simp only [if_neg e]
    by_cases e2:a=j
    · simp only [if_pos e2]
    · simp only [if_neg e2]
theorem oO {n:Nat} (A V:Nat→Nat→Int) (i j a b:Nat):cv n A (cn V i j) a b=cn (cv n A V) i j a b:=by
  unfold cv cn
  by_cases e:b=i
  · simp only [if_pos e]
  · simp only [if_neg e]
    by_cases e2:b=j
    · simp only [if_pos e2]
    · simp only [if_neg e2]
theorem lN {n:Nat} (U B:Nat→Nat→Int) (i a b:Nat):cv n (da U i) B a b=da (cv n U B) i a b:=by
  unfold cv da
  by_cases e:a=i
  · simp only [if_pos e]
    rw [←nl];exact az fun x _=>by rw [Int.neg_mul]
  · simp only [if_neg e]
theorem qA {n:Nat} (A V:Nat→Nat→Int) (i a b:Nat):cv n A (em V i) a b=em (cv n A V) i a b:=by
  unfold cv em
  by_cases e:b=i
  · simp only [if_pos e]
    rw [←nl];exact az fun x _=>by rw [Int.mul_neg]
  · simp only [if_neg e]
structure Lin (r c:Nat) (M0:Nat→Nat→Int) (S:WS):Prop where
  eq:∀i j,i<r→j<c→S.M i j=cv r S.U M0 i j
  uv:∀i j,i<r→j<r→cv r S.U S.V i j=bI i j
  vu:∀i j,i<r→j<r→cv r S.V S.U i j=bI i j
section
variable {r c:Nat} {M0:Nat→Nat→Int} {S:WS}
theorem Lin.start (M0:Nat→Nat→Int):Lin r c M0 ⟨M0,bI,bI⟩:=
  ⟨fun i j hi _=>(jM M0 hi).symm,fun i j hi _=>jM bI hi,fun i j hi _=>jM bI hi⟩
theorem Lin.add (h:Lin r c M0 S) {i j:Nat} (k:Int) (hi:i<r) (hj:j<r) (hij:i≠j):Lin r c M0 (cJ S i j k):=by
  refine ⟨fun a b ha hb=> ?_,fun a b ha hb=> ?_,fun a b ha hb=> ?_⟩
  · show cd S.M i j k a b=cv r (cd S.U i j k) M0 a b
    rw [lO];unfold cd;rw [h.eq i b hi hb,h.eq j b hj hb,h.eq a b ha hb]
  · show cv r (cd S.U i j k) (cP S.V i j k) a b=_
    rw [lO];unfold cd;have e1:∀x,x<r→cv r S.U (cP S.V i j k) x b=cP bI i j k x b:=fun x hx=>by
      rw [qz];unfold cP;rw [h.uv x j hx hj,h.uv x i hx hi,h.uv x b hx hb]
    rw [e1 i hi,e1 j hj,e1 a ha]
    unfold cP bI
    by_cases c1:a=i
    · subst c1
      by_cases c2:b=j
      · subst c2;simp [hij];split<;>(simp_all<;>omega)
      · simp [c2];rw [if_neg (fun h=>c2 h.symm:¬j=b)];omega
    · by_cases c2:b=j
      · subst c2;simp [c1]
      · simp [c1,c2]
  · show cv r (cP S.V i j k) (cd S.U i j k) a b=_
    rw [←h.vu a b ha hb];have e1:cv r (cP S.V i j k) (cd S.U i j k) a b=ar r (fun x=>S.V a x*S.U x b + ((if x=i then (fun _=>k*(S.V a i*S.U j b)) x else 0) + (if x=j then (fun _=> -(k*(S.V a i*S.U j b))) x else 0))):=by
      refine az fun x _=> ?_
      unfold cP cd
      by_cases c1:x=i
      · subst c1
        simp [hij,Int.mul_add,Int.mul_left_comm]
      · by_cases c2:x=j
        · subst c2
          simp [c1,Int.sub_mul,Int.mul_assoc];omega
        · simp [c1,c2]
    rw [e1,eP,eP,eO hi,eO hj]
    unfold cv;omega
theorem uB {i j a b:Nat}:cm (cn bI i j) i j a b=bI a b:=by
  unfold cm cn bI
  by_cases h1:a=i<;>by_cases h2:a=j<;>by_cases h3:b=i<;>by_cases h4:b=j<;>simp_all
  all_goals (try split)<;>(try split)<;>simp_all<;>omega
theorem Lin.swap (h:Lin r c M0 S) {i j:Nat} (hi:i<r) (hj:j<r):Lin r c M0 (bA S i j):=by
  refine ⟨fun a b ha hb=> ?_,fun a b ha hb=> ?_,fun a b ha hb=> ?_⟩
  · show cm S.M i j a b=cv r (cm S.U i j) M0 a b
    rw [kG];unfold cm
    split
    · exact h.eq j b hj hb
    · split
      · exact h.eq i b hi hb
      · exact h.eq a b ha hb
  · show cv r (cm S.U i j) (cn S.V i j) a b=_
    rw [kG,←uB (i:=i) (j:=j)];have e1:∀x,x<r→cv r S.U (cn S.V i j) x b=cn bI i j x b:=fun x hx=>by
      rw [oO];unfold cn;rw [h.uv x j hx hj,h.uv x i hx hi,h.uv x b hx hb]
    unfold cm
    split
    · exact e1 j hj
    · split
      · exact e1 i hi
      · exact e1 a ha
  · show cv r (cn S.V i j) (cm S.U i j) a b=_
    rw [←h.vu a b ha hb]
    unfold cv
    rw [←qq (f:=fun x=>S.V a x*S.U x b) hi hj];refine az fun x _=> ?_
    unfold cn cm fD
    by_cases e1:x=i
    · simp [e1]
    · simp only [if_neg e1]
      by_cases e2:x=j
      · simp [e2]
      · simp [e2]
theorem Lin.neg (h:Lin r c M0 S) {i:Nat} (hi:i<r):Lin r c M0 (fY S i):=by
  refine ⟨fun a b ha hb=> ?_,fun a b ha hb=> ?_,fun a b ha hb=> ?_⟩
  · show da S.M i a b=cv r (da S.U i) M0 a b
    rw [lN];unfold da;rw [h.eq i b hi hb,h.eq a b ha hb]
  · show cv r (da S.U i) (em S.V i) a b=_
    rw [lN];unfold da;have e1:∀x,x<r→cv r S.U (em S.V i) x b=em bI i x b:=fun x hx=>by
      rw [qA];unfold em;rw [h.uv x i hx hi,h.uv x b hx hb]
    rw [e1 i hi,e1 a ha]
    unfold em bI
    by_cases c1:a=i<;>by_cases c2:b=i<;>simp_all
    rw [if_neg (fun h=>c2 h.symm:¬i=b)];rfl
  · show cv r (em S.V i) (da S.U i) a b=_
    rw [←h.vu a b ha hb];refine az fun x _=> ?_
    unfold em da
    by_cases e:x=i
    · simp [e,Int.neg_mul_neg]
    · simp [e]
theorem Lin.back (h:Lin r c M0 S) {i j:Nat} (hi:i<r) (hj:j<c):M0 i j=cv r S.V S.M i j:=by
  have h1:cv r S.V S.M i j=cv r S.V (cv r S.U M0) i j:=kH (fun _ _=>rfl) fun a ha=>h.eq a j ha hj
  rw [h1,←kI,kH (A':=bI) (B':=M0) (fun a ha=>h.vu i a hi ha) (fun _ _=>rfl),jM M0 hi]
end
end Go.TL
namespace Go.TL
set_option linter.unusedVariables false
def kq (S:WS) (top q a:Nat):Int:= -(S.M a q/S.M top q)
theorem mH (S:WS) (top q:Nat):∀n a c,(el S top q n).M a c=if top<a∧a≤top + n then S.M a c + kq S top q a*S.M top c else S.M a c
  | 0,a,c=>by rw [if_neg (by omega)];rfl
  | n + 1,a,c=>by
    have ih:=mH S top q n;simp only [el,cJ,cd]
    by_cases e:a=top + 1 + n
    · subst e
      rw [if_pos rfl,if_pos (by omega),ih,ih,ih,ih,if_neg (by omega),if_neg (by omega),if_neg (by omega),if_neg (by omega)];rfl
    · rw [if_neg e,ih]
      by_cases e2:top<a∧a≤top + n
      · rw [if_pos e2,if_pos (by omega)]
      · rw [if_neg e2,if_neg (by omega)]
theorem yy (S:WS) (top q:Nat):∀n a c,(el S top q n).U a c=if top<a∧a≤top + n then S.U a c + kq S top q a*S.U top c else S.U a c
  | 0,a,c=>by rw [if_neg (by omega)];rfl
  | n + 1,a,c=>by
    have ih:=yy S top q n;have im:=mH S top q n;simp only [el,cJ,cd]
    by_cases e:a=top + 1 + n
    · subst e
      rw [if_pos rfl,if_pos (by omega),ih,ih,im,im,if_neg (by omega),if_neg (by omega),if_neg (by omega),if_neg (by omega)];rfl
    · rw [if_neg e,ih]
      by_cases e2:top<a∧a≤top + n
      · rw [if_pos e2,if_pos (by omega)]
      · rw [if_neg e2,if_neg (by omega)]
theorem yx (S:WS) (top q:Nat):∀n a c,(el S top q n).V a c=if c=top then S.V a top - ar n (fun x=>kq S top q (top + 1 + x)*S.V a (top + 1 + x)) else S.V a c
  | 0,a,c=>by by_cases e:c=top<;>simp [el,ar,e]
  | n + 1,a,c=>by
    have ih:=yx S top q n;have im:=mH S top q n;simp only [el,cJ,cP]
    by_cases e:c=top
    · subst e
      rw [if_pos rfl,if_pos rfl,ih,ih,im,im,if_pos rfl,if_neg (by omega),if_neg (by omega),if_neg (by omega)];simp only [ar,kq];omega
    · rw [if_neg e,if_neg e,ih,if_neg e]
theorem li (S:WS) (top q:Nat):∀n a c,n≤top→(ra S top q n).M a c=if a<n then S.M a c + kq S top q a*S.M top c else S.M a c
  | 0,a,c,_=>by rw [if_neg (by omega)];rfl
  | n + 1,a,c,hn=>by
    have ih:=fun a c=>li S top q n a c (by omega)
    simp only [ra,cJ,cd]
    by_cases e:a=n
    · subst e
      rw [if_pos rfl,if_pos (by omega),ih,ih,ih,ih,if_neg (by omega),if_neg (by omega),if_neg (by omega),if_neg (by omega)];rfl
    · rw [if_neg e,ih]
      by_cases e2:a<n
      · rw [if_pos e2,if_pos (by omega)]
      · rw [if_neg e2,if_neg (by omega)]
theorem yn (S:WS) (top q:Nat):∀n a c,n≤top→(ra S top q n).U a c=if a<n then S.U a c + kq S top q a*S.U top c else S.U a c
  | 0,a,c,_=>by rw [if_neg (by omega)];rfl
  | n + 1,a,c,hn=>by
    have ih:=fun a c=>yn S top q n a c (by omega)
    have im:=fun a c=>li S top q n a c (by omega)
    simp only [ra,cJ,cd]
    by_cases e:a=n
    · subst e
      rw [if_pos rfl,if_pos (by omega),ih,ih,im,im,if_neg (by omega),if_neg (by omega),if_neg (by omega),if_neg (by omega)];rfl
    · rw [if_neg e,ih]
      by_cases e2:a<n
      · rw [if_pos e2,if_pos (by omega)]
      · rw [if_neg e2,if_neg (by omega)]
theorem ym (S:WS) (top q:Nat):∀n a c,n≤top→(ra S top q n).V a c=if c=top then S.V a top - ar n (fun x=>kq S top q x*S.V a x) else S.V a c
  | 0,a,c,_=>by by_cases e:c=top<;>simp [ra,ar,e]
  | n + 1,a,c,hn=>by
    have ih:=fun a c=>ym S top q n a c (by omega)
    have im:=fun a c=>li S top q n a c (by omega)
    simp only [ra,cJ,cP]
    by_cases e:c=top
    · subst e
      rw [if_pos rfl,if_pos rfl,ih,ih,im,im,if_pos rfl,if_neg (by omega),if_neg (by omega),if_neg (by omega)];simp only [ar,kq];omega
    · rw [if_neg e,if_neg e,ih,if_neg e]
theorem qt (S:WS) (p top q a c:Nat):(a≠top→(sn S p top q).M a c=if a=p then S.M top c else S.M a c)∧((sn S p top q).M top c).natAbs=(S.M p c).natAbs:=by
  have h0:∀c,(bA S p top).M top c=S.M p c:=fun c=>congrFun (lH S.M p top) c
  constructor
  · intro ha
    have h1:(bA S p top).M a c=if a=p then S.M top c else S.M a c:=by
      simp only [bA,cm]
      by_cases e:a=p
      · rw [if_pos e,if_pos e]
      · rw [if_neg e,if_neg ha,if_neg e]
    by_cases h:(bA S p top).M top q<0
    · rw [iY h,←h1];simp only [fY,da];rw [if_neg ha]
    · rw [iX h,←h1]
  · by_cases h:(bA S p top).M top q<0
    · rw [iY h];simp only [fY,da,if_true];rw [h0];omega
    · rw [iX h,h0]
theorem rH {r c:Nat} {S:WS} {p top q EM EU EV:Nat} (hp:p<r) (ht:top<r) (hM:∀i j,i<r→j<c→(S.M i j).natAbs≤EM) (hU:∀i j,i<r→j<r→(S.U i j).natAbs≤EU) (hV:∀i j,i<r→j<r→(S.V i j).natAbs≤EV):
    (∀i j,i<r→j<c→((sn S p top q).M i j).natAbs≤EM)∧(∀i j,i<r→j<r→((sn S p top q).U i j).natAbs≤EU)∧∀i j,i<r→j<r→((sn S p top q).V i j).natAbs≤EV:=by
  have h1:∀i j,i<r→j<c→((bA S p top).M i j).natAbs≤EM:=fun i j hi hj=>by
    simp only [bA,cm];split
    · exact hM _ _ ht hj
    · split
      · exact hM _ _ hp hj
      · exact hM _ _ hi hj
  have h2:∀i j,i<r→j<r→((bA S p top).U i j).natAbs≤EU:=fun i j hi hj=>by
    simp only [bA,cm];split
    · exact hU _ _ ht hj
    · split
      · exact hU _ _ hp hj
      · exact hU _ _ hi hj
  have h3:∀i j,i<r→j<r→((bA S p top).V i j).natAbs≤EV:=fun i j hi hj=>by
    simp only [bA,cn];split
    · exact hV _ _ hi ht
    · split
      · exact hV _ _ hi hp
      · exact hV _ _ hi hj
  by_cases h:(bA S p top).M top q<0
  · rw [iY h]
    refine ⟨fun i j hi hj=> ?_,fun i j hi hj=> ?_,fun i j hi hj=> ?_⟩
    · simp only [fY,da];split
      · rename_i e;subst e;rw [Int.natAbs_neg];exact h1 _ _ hi hj
      · exact h1 _ _ hi hj
    · simp only [fY,da];split
      · rename_i e;subst e;rw [Int.natAbs_neg];exact h2 _ _ hi hj
      · exact h2 _ _ hi hj
    · simp only [fY,em];split
      · rename_i e;subst e;rw [Int.natAbs_neg];exact h3 _ _ hi hj
      · exact h3 _ _ hi hj
  · rw [iX h];exact ⟨h1,h2,h3⟩
theorem fP {x y k:Int} {E K:Nat} (hx:x.natAbs≤E) (hy:y.natAbs≤E) (hk:k.natAbs≤K):(x + k*y).natAbs≤E*(1 + K):=by
  have h1:=Int.natAbs_add_le x (k*y);rw [Int.natAbs_mul] at h1;have h2:=Nat.mul_le_mul hk hy;rw [Nat.mul_add,Nat.mul_one,Nat.mul_comm E K];omega
theorem pA {x:Int} {f:Nat→Int} {E K n R:Nat} (hx:x.natAbs≤E) (hf:∀i,i<n→(f i).natAbs≤K*E) (hn:n≤R):(x - ar n f).natAbs≤E*(1 + R*K):=by
  have h1:=nm hf;have h2:n*(K*E)≤R*(K*E):=Nat.mul_le_mul_right _ hn;have h3:E*(1 + R*K)=E + R*(K*E):=by rw [Nat.mul_add,Nat.mul_one,Nat.mul_left_comm,Nat.mul_comm E K]
  omega
theorem yw {r c:Nat} {S:WS} {top q n EM EU EV K:Nat} (ht:top<r) (hn:top + n<r) (h7:n≤7) (hK:∀a,top<a→a<r→(kq S top q a).natAbs≤K) (hM:∀i j,i<r→j<c→(S.M i j).natAbs≤EM) (hU:∀i j,i<r→j<r→(S.U i j).natAbs≤EU) (hV:∀i j,i<r→j<r→(S.V i j).natAbs≤EV):
    (∀i j,i<r→j<c→((el S top q n).M i j).natAbs≤EM*(1 + K))∧(∀i j,i<r→j<r→((el S top q n).U i j).natAbs≤EU*(1 + K))∧∀i j,i<r→j<r→((el S top q n).V i j).natAbs≤EV*(1 + 7*K):=by
  have hle:∀E L:Nat,E≤E*(1 + L):=fun E L=>by rw [Nat.mul_add,Nat.mul_one];omega
  refine ⟨fun i j hi hj=> ?_,fun i j hi hj=> ?_,fun i j hi hj=> ?_⟩
  · rw [mH];split
    · rename_i h;exact fP (hM _ _ hi hj) (hM _ _ ht hj) (hK i h.1 hi)
    · exact Nat.le_trans (hM _ _ hi hj) (hle _ _)
  · rw [yy];split
    · rename_i h;exact fP (hU _ _ hi hj) (hU _ _ ht hj) (hK i h.1 hi)
    · exact Nat.le_trans (hU _ _ hi hj) (hle _ _)
  · rw [yx];split
    · exact pA (hV _ _ hi ht) (fun x hx=>by rw [Int.natAbs_mul];exact Nat.mul_le_mul (hK _ (by omega) (by omega)) (hV _ _ hi (by omega))) h7
    · exact Nat.le_trans (hV _ _ hi hj) (hle _ _)
theorem vT {r c:Nat} {S:WS} {top q n EM EU EV K:Nat} (ht:top<r) (hn:n≤top) (h7:n≤7) (hK:∀a,a<top→(kq S top q a).natAbs≤K) (hM:∀i j,i<r→j<c→(S.M i j).natAbs≤EM) (hU:∀i j,i<r→j<r→(S.U i j).natAbs≤EU) (hV:∀i j,i<r→j<r→(S.V i j).natAbs≤EV):
    (∀i j,i<r→j<c→((ra S top q n).M i j).natAbs≤EM*(1 + K))∧(∀i j,i<r→j<r→((ra S top q n).U i j).natAbs≤EU*(1 + K))∧∀i j,i<r→j<r→((ra S top q n).V i j).natAbs≤EV*(1 + 7*K):=by
  have hle:∀E L:Nat,E≤E*(1 + L):=fun E L=>by rw [Nat.mul_add,Nat.mul_one];omega
  refine ⟨fun i j hi hj=> ?_,fun i j hi hj=> ?_,fun i j hi hj=> ?_⟩
  · rw [li _ _ _ _ _ _ hn];split
    · rename_i h;exact fP (hM _ _ hi hj) (hM _ _ ht hj) (hK i (by omega))
    · exact Nat.le_trans (hM _ _ hi hj) (hle _ _)
  · rw [yn _ _ _ _ _ _ hn];split
    · rename_i h;exact fP (hU _ _ hi hj) (hU _ _ ht hj) (hK i (by omega))
    · exact Nat.le_trans (hU _ _ hi hj) (hle _ _)
  · rw [ym _ _ _ _ _ _ hn];split
    · exact pA (hV _ _ hi ht) (fun x hx=>by rw [Int.natAbs_mul];exact Nat.mul_le_mul (hK _ (by omega)) (hV _ _ hi (by omega))) h7
    · exact Nat.le_trans (hV _ _ hi hj) (hle _ _)
section
variable {r c:Nat} {M0:Nat→Nat→Int} {S:WS}
theorem Lin.sn (h:Lin r c M0 S) {p top:Nat} (q:Nat) (hp:p<r) (ht:top<r):Lin r c M0 (sn S p top q):=by
  by_cases hn:(bA S p top).M top q<0
  · rw [iY hn];exact (h.swap hp ht).neg ht
  · rw [iX hn];exact h.swap hp ht
theorem Lin.el (h:Lin r c M0 S) {top:Nat} (q:Nat) (ht:top<r):∀n,top + n<r→Lin r c M0 (el S top q n)
  | 0,_=>h
  | n + 1,hn=>(Lin.el h q ht n (by omega)).add _ (by omega) ht (by omega)
theorem Lin.ra (h:Lin r c M0 S) {top:Nat} (q:Nat) (ht:top<r):∀n,n≤top→Lin r c M0 (ra S top q n)
  | 0,_=>h
  | n + 1,hn=>(Lin.ra h q ht n (by omega)).add _ (by omega) ht (by omega)
end
theorem yZ {k x y u:Nat} (hk:1≤k) (hky:k*y≤x) (hu:u≤y) (hx:u + y≤x):(1 + k)*y*u≤x*x:=by
  by_cases h1:k=1
  · subst h1
    have h2:(u + y)*(u + y)≤x*x:=Nat.mul_le_mul hx hx;have h3:(u + y)*(u + y)=u*u + u*y + (y*u + y*y):=by rw [Nat.add_mul,Nat.mul_add,Nat.mul_add]
    have h4:(1 + 1)*y*u=y*u + y*u:=by rw [Nat.mul_assoc];omega
    have h5:u*y=y*u:=Nat.mul_comm _ _;omega
  · have h2:(1 + k)*y*u≤(1 + k)*y*y:=Nat.mul_le_mul_left _ hu
    have h3:k*y*(k*y)≤x*x:=Nat.mul_le_mul hky hky;have h4:1 + k≤k*k:=by
      have:2*k≤k*k:=Nat.mul_le_mul_right _ (by omega);omega
    have h5:(1 + k)*(y*y)≤k*k*(y*y):=Nat.mul_le_mul_right _ h4;have h6:(1 + k)*y*y=(1 + k)*(y*y):=Nat.mul_assoc _ _ _;have h7:k*y*(k*y)=k*k*(y*y):=by ac_rfl
    omega
theorem yK (y u:Nat):∀n,y^n*(y + (n + 1)*u)≤(y + u)^(n + 1)
  | 0=>by simp
  | n + 1=>by
    have h1:=Nat.mul_le_mul_right (y + u) (yK y u n);rw [Nat.pow_succ (y + u) (n + 1)];refine Nat.le_trans ?_ h1;rw [Nat.pow_succ,Nat.mul_assoc,Nat.mul_assoc];refine Nat.mul_le_mul_left _ ?_;have e1:(y + (n + 1)*u)*(y + u)=y*y + (n + 1 + 1)*(y*u) + (n + 1)*(u*u):=by
      rw [Nat.add_mul,Nat.mul_add,Nat.mul_add,Nat.add_mul (n + 1) 1 (y*u),Nat.one_mul,Nat.mul_assoc,Nat.mul_assoc,Nat.mul_comm u y];omega
    have e2:y*(y + (n + 1 + 1)*u)=y*y + (n + 1 + 1)*(y*u):=by
      rw [Nat.mul_add,Nat.mul_left_comm]
    omega
theorem yY {k x y u:Nat} (hk:1≤k) (hky:k*y≤x) (hu:u≤y) (hx:u + y≤x):(1 + 7*k)*y^6*u≤x^7:=by
  by_cases h1:k=1
  · subst h1
    have h2:y^6*(y + (6 + 1)*u)≤(y + u)^7:=yK y u 6;have h3:(y + u)^7≤x^7:=Nat.pow_le_pow_left (by omega) 7;have h4:(1 + 7*1)*y^6*u=y^6*(u + 7*u):=by rw [Nat.mul_assoc,Nat.mul_left_comm];congr 1;omega
    have h5:y^6*(u + 7*u)≤y^6*(y + (6 + 1)*u):=Nat.mul_le_mul_left _ (by omega);omega
  · have h2:(1 + 7*k)*y^6*u≤(1 + 7*k)*y^6*y:=Nat.mul_le_mul_left _ hu
    have h3:(k*y)^7≤x^7:=Nat.pow_le_pow_left hky 7;rw [Nat.mul_pow] at h3;have h4:1 + 7*k≤k^7:=by
      have h5:2^6≤k^6:=Nat.pow_le_pow_left (by omega) 6;have h6:2^6*k≤k^6*k:=Nat.mul_le_mul_right _ h5;have h7:k^7=k^6*k:=Nat.pow_succ k 6;have h8:(2:Nat)^6=64:=by decide
      omega
    have h5:(1 + 7*k)*y^7≤k^7*y^7:=Nat.mul_le_mul_right _ h4;have h6:(1 + 7*k)*y^6*y=(1 + 7*k)*y^7:=by rw [Nat.mul_assoc,←Nat.pow_succ]
    omega
theorem mG {x y:Int} (hy:0<y):(-(x/y)).natAbs≤x.natAbs:=by
  rw [Int.natAbs_neg];have h1:=Int.ediv_mul_le x (show y≠0 by omega);have h2:=Int.lt_ediv_add_one_mul_self x hy
  by_cases h:0≤x
  · have h3:0≤x/y:=Int.ediv_nonneg h (by omega)
    have h4:x/y*1≤x/y*y:=Int.mul_le_mul_of_nonneg_left (by omega) h3;omega
  · have h3:x/y<0:=Int.ediv_neg_of_neg_of_pos (by omega) hy
    by_cases h5:x/y<x
    · have h6:(x/y + 1)*y≤(x/y + 1)*1:=by
        have h7:x/y + 1≤0:=by omega
        have:=Int.mul_le_mul_of_nonpos_left (a:=x/y + 1) (b:=y) (c:=1) h7 (by omega);exact this
      omega
    · omega
theorem pR {x:Nat→Int} {top:Nat}:∀{n:Nat},(aW x top n).2=true→∃i j,i≠j∧top≤i∧i<top + n∧top≤j∧j<top + n∧x i≠0∧x j≠0
  | 0,h=>by simp [aW] at h
  | n + 1,h=>by
    by_cases hz:x (top + n)=0
    · rw [pQ hz] at h
      obtain ⟨i,j,h1,h2,h3,h4,h5,h6⟩:=pR h;exact ⟨i,j,h1,h2,by omega,h4,by omega,h6⟩
    · have hb:0≤(aW x top n).1:=by
        by_cases hc:(aW x top n).1<0∨(x (top + n)).natAbs<(x (aW x top n).1.toNat).natAbs
        · rw [pS hz hc] at h;simpa using h
        · rw [pT hz hc] at h;simpa using h
      obtain ⟨h1,h2,h3,_⟩:=eT hb;exact ⟨_,top + n,by omega,h1,by omega,by omega,by omega,h3,hz⟩
end Go.TL
namespace Go.TL
set_option linter.unusedVariables false
def io (r top q:Nat) (M:Nat→Nat→Int):Prop:=∃P:Nat→Nat,(∀i,i<top→P i<q∧0<M i (P i)∧(∀j,j<P i→M i j=0)∧∀k,k<i→P k<P i∧0≤M k (P i)∧M k (P i)<M i (P i))∧
  ∀a,top≤a→a<r→∀j,j<q→M a j=0
def eB (e0:Nat):Nat→Nat
  | 0=>e0
  | t + 1=>6*eB e0 t + 2
def gB (e0:Nat):Nat→Nat
  | 0=>0
  | t + 1=>gB e0 t + 10*eB e0 t + 6
structure FI (r c e0:Nat) (M0:Nat→Nat→Int) (top q:Nat) (S:WS):Prop where
  lin:Lin r c M0 S
  ech:io r top q S.M
  bm:∀i j,i<r→j<c→(S.M i j).natAbs≤2^eB e0 top
  bu:∀i j,i<r→j<r→(S.U i j).natAbs≤2^eB e0 top
  bv:∀i j,i<r→j<r→(S.V i j).natAbs≤2^gB e0 top
structure JI (r c e0:Nat) (M0:Nat→Nat→Int) (top q m:Nat) (S:WS):Prop where
  lin:Lin r c M0 S
  ech:io r top q S.M
  above:∀i,i<top→(S.M i q).natAbs≤2^eB e0 top
  run:∃a b u:Nat,(∀i j,i<r→j<c→(S.M i j).natAbs≤2^eB e0 top*a)∧(∀i j,i<r→j<r→(S.U i j).natAbs≤2^eB e0 top*a)∧(∀i j,i<r→j<r→(S.V i j).natAbs≤2^gB e0 top*b)∧
    ((a=1∧b=1∧m=2^eB e0 top + 2∧∀i,top≤i→i<r→(S.M i q).natAbs≤2^eB e0 top)∨
     (0<m∧S.M top q=(m:Int)∧m≤2^eB e0 top∧(∀i,top<i→i<r→0≤S.M i q∧S.M i q<(m:Int)∧S.M i q≤(u:Int))∧1≤u∧
      a*(m*m)*u≤(1 + 2^eB e0 top)*(2^eB e0 top)^3∧b*m^7*u≤(1 + 7*2^eB e0 top)*(2^eB e0 top)^8))
section
variable {r c e0:Nat} {M0:Nat→Nat→Int} {top q m:Nat} {S:WS}
theorem gO (e0:Nat):∀{s t:Nat},s≤t→eB e0 s≤eB e0 t
  | s,0,h=>by rw [show s=0 by omega];exact Nat.le_refl _
  | s,t + 1,h=>by
    by_cases e:s=t + 1
    · rw [e];exact Nat.le_refl _
    · have:=gO e0 (s:=s) (t:=t) (by omega);simp only [eB];omega
theorem pY (e0:Nat):∀{s t:Nat},s≤t→gB e0 s≤gB e0 t
  | s,0,h=>by rw [show s=0 by omega];exact Nat.le_refl _
  | s,t + 1,h=>by
    by_cases e:s=t + 1
    · rw [e];exact Nat.le_refl _
    · have:=pY e0 (s:=s) (t:=t) (by omega);simp only [gB];omega
theorem pM (e:Nat):2^e*((1 + 2^e)*(2^e)^3)*(1 + 2^e)≤2^(6*e + 2):=by
  have h0:0<2^e:=Nat.two_pow_pos e;have h1:1 + 2^e≤2*2^e:=by omega
  have h2:2^(6*e + 2)=2^e*(2*2^e*(2^e)^3)*(2*2^e):=by
    have:2^(6*e + 2)=(2^e)^6*4:=by rw [Nat.pow_add,Nat.mul_comm 6 e,Nat.pow_mul]
    rw [this]
    generalize 2^e=x
    simp only [Nat.pow_succ,Nat.pow_zero,Nat.one_mul];rw [show (4:Nat)=2*2 by decide]
    ac_rfl
  rw [h2];exact Nat.mul_le_mul (Nat.mul_le_mul_left _ (Nat.mul_le_mul_right _ h1)) h1
theorem vV (g e:Nat):2^g*((1 + 7*2^e)*(2^e)^8)*(1 + 7*2^e)≤2^(g + 10*e + 6):=by
  have h0:0<2^e:=Nat.two_pow_pos e;have h1:1 + 7*2^e≤8*2^e:=by omega
  have h2:2^(g + 10*e + 6)=2^g*(8*2^e*(2^e)^8)*(8*2^e):=by
    have:2^(g + 10*e + 6)=2^g*(2^e)^10*64:=by rw [Nat.pow_add,Nat.pow_add,Nat.mul_comm 10 e,Nat.pow_mul]
    rw [this]
    generalize 2^e=x
    simp only [Nat.pow_succ,Nat.pow_zero,Nat.one_mul];rw [show (64:Nat)=8*8 by decide]
    ac_rfl
  rw [h2];exact Nat.mul_le_mul (Nat.mul_le_mul_left _ (Nat.mul_le_mul_right _ h1)) h1
theorem FI.start (hM:∀i j,i<r→j<c→(M0 i j).natAbs≤2^e0):FI r c e0 M0 0 0 ⟨M0,bI,bI⟩:=by
  have hid:∀(e i j:Nat),(bI i j).natAbs≤2^e:=fun e i j=>by
    have:=Nat.two_pow_pos e
    unfold bI;split<;>simp<;>omega
  exact ⟨Lin.start M0,⟨fun _=>0,fun i hi=>by omega,fun a _ _ j hj=>by omega⟩,hM,fun i j _ _=>hid _ i j,fun i j _ _=>hid _ i j⟩
theorem JI.of (h:FI r c e0 M0 top q S) (ht:top<r) (hq:q<c):JI r c e0 M0 top q (2^eB e0 top + 2) S:=
  ⟨h.lin,h.ech,fun i hi=>h.bm i q (by omega) hq,1,1,0,fun i j hi hj=>by rw [Nat.mul_one];exact h.bm i j hi hj,fun i j hi hj=>by rw [Nat.mul_one];exact h.bu i j hi hj,fun i j hi hj=>by rw [Nat.mul_one];exact h.bv i j hi hj,.inl ⟨rfl,rfl,rfl,fun i _ hi=>h.bm i q hi hq⟩⟩
theorem io.sn (h:io r top q S.M) {p:Nat} (hp:p<r) (hpt:top≤p) (ht:top<r):io r top q (TL.sn S p top q).M:=by
  obtain ⟨P,h1,h2⟩:=h;have hlow:∀i,i<top→∀j,(TL.sn S p top q).M i j=S.M i j:=fun i hi j=>by
    rw [(qt S p top q i j).1 (by omega),if_neg (by omega)]
  refine ⟨P,fun i hi=> ?_,fun a ha har j hj=> ?_⟩
  · obtain ⟨g1,g2,g3,g4⟩:=h1 i hi
    refine ⟨g1,by rw [hlow i hi];exact g2,fun j hj=>by rw [hlow i hi];exact g3 j hj,fun k hk=> ?_⟩;rw [hlow i hi,hlow k (by omega)];exact g4 k hk
  · by_cases e:a=top
    · subst e
      have:=(qt S p a q a j).2;rw [h2 p hpt hp j hj] at this;omega
    · rw [(qt S p top q a j).1 e];split
      · exact h2 top (Nat.le_refl _) ht j hj
      · exact h2 a ha har j hj
theorem io.el (h:io r top q S.M) (ht:top<r) {n:Nat}:io r top q (TL.el S top q n).M:=by
  obtain ⟨P,h1,h2⟩:=h;have hlow:∀i,i<top→∀j,(TL.el S top q n).M i j=S.M i j:=fun i hi j=>by rw [mH,if_neg (by omega)]
  refine ⟨P,fun i hi=> ?_,fun a ha har j hj=> ?_⟩
  · obtain ⟨g1,g2,g3,g4⟩:=h1 i hi
    refine ⟨g1,by rw [hlow i hi];exact g2,fun j hj=>by rw [hlow i hi];exact g3 j hj,fun k hk=> ?_⟩;rw [hlow i hi,hlow k (by omega)];exact g4 k hk
  · rw [mH,h2 a ha har j hj,h2 top (Nat.le_refl _) ht j hj];simp
theorem lead (hp:0≤(aW (fun a=>S.M a q) top (r - top)).1) (ht:top<r):top≤(aW (fun a=>S.M a q) top (r - top)).1.toNat∧(aW (fun a=>S.M a q) top (r - top)).1.toNat<r∧S.M (aW (fun a=>S.M a q) top (r - top)).1.toNat q≠0∧
    (∀i,top≤i→i<r→S.M i q≠0→(S.M (aW (fun a=>S.M a q) top (r - top)).1.toNat q).natAbs≤(S.M i q).natAbs)∧((aW (fun a=>S.M a q) top (r - top)).2=false→∀i,top≤i→i<r→i≠(aW (fun a=>S.M a q) top (r - top)).1.toNat→S.M i q=0):=by
  obtain ⟨h1,h2,h3,h4,h5⟩:=eT (x:=fun a=>S.M a q) (top:=top) (n:=r - top) hp;exact ⟨h1,by omega,h3,fun i hi hr hz=>h4 i hi (by omega) hz,fun ho i hi hr hne=>h5 ho i hi (by omega) hne⟩
theorem JI.round (h:JI r c e0 M0 top q m S) (ht:top<r) (hq:q<c) (h8:r≤8) (hp:0≤(aW (fun a=>S.M a q) top (r - top)).1) (ho:(aW (fun a=>S.M a q) top (r - top)).2=true):
    ∃m2,m2<m∧JI r c e0 M0 top q m2 (el (sn S (aW (fun a=>S.M a q) top (r - top)).1.toNat top q) top q (r - top - 1))∧
      ∀n,top + 1 + n<r→(∀i j,i<r→j<c→((el (sn S (aW (fun a=>S.M a q) top (r - top)).1.toNat top q) top q (n + 1)).M i j).natAbs≤2^eB e0 (top + 1))∧
        (∀i j,i<r→j<r→((el (sn S (aW (fun a=>S.M a q) top (r - top)).1.toNat top q) top q (n + 1)).U i j).natAbs≤2^eB e0 (top + 1))∧
        ∀i j,i<r→j<r→((el (sn S (aW (fun a=>S.M a q) top (r - top)).1.toNat top q) top q (n + 1)).V i j).natAbs≤2^gB e0 (top + 1):=by
  obtain ⟨hl1,hl2,hl3,hl4,_⟩:=lead hp ht;obtain ⟨i1,i2,hi12,hi1,hi1r,hi2,hi2r,hz1,hz2⟩:=pR (x:=fun a=>S.M a q) (top:=top) (n:=r - top) ho
  generalize hpe:(aW (fun a=>S.M a q) top (r - top)).1.toNat=p at*
  have hE0:0<2^eB e0 top:=Nat.two_pow_pos _;obtain ⟨a,b,u,hM,hU,hV,hc⟩:=h.run;have htop:=iW S p top q;obtain ⟨hM2,hU2,hV2⟩:=rH (q:=q) hl2 ht hM hU hV;have hlin:=h.lin.sn q hl2 ht;have hech:=h.ech.sn (q:=q) hl2 hl1 ht;have hcol:∀i,i≠top→(sn S p top q).M i q=if i=p then S.M top q else S.M i q:=fun i hi=>(qt S p top q i q).1 hi
  have hab:∀i,i<top→((sn S p top q).M i q).natAbs≤2^eB e0 top:=fun i hi=>by rw [hcol i (by omega),if_neg (by omega)];exact h.above i hi
  generalize sn S p top q=S2 at*
  generalize hy:(S.M p q).natAbs=y at*
  have hy0:0<y:=by omega
  have key:∃K a' b' u':Nat,(∀i,top<i→i<r→(kq S2 top q i).natAbs≤K)∧y<m∧y≤2^eB e0 top∧(∀i,top<i→i<r→S2.M i q % (y:Int)≤(u':Int))∧1≤u'∧a'=a*(1 + K)∧b'=b*(1 + 7*K)∧
      a'*(y*y)*u'≤(1 + 2^eB e0 top)*(2^eB e0 top)^3∧b'*y^7*u'≤(1 + 7*2^eB e0 top)*(2^eB e0 top)^8:=by
    rcases hc with ⟨ha1,hb1,hm,hcE⟩ | ⟨hm0,hmt,hmE,hoth,hu1,hpa,hpb⟩
    · have hyE:y≤2^eB e0 top:=by rw [←hy];exact hcE p hl1 hl2
      refine ⟨2^eB e0 top,_,_,y,fun i hi hir=> ?_,by omega,hyE,fun i hi hir=> ?_,by omega,rfl,rfl,?_,?_⟩
      · unfold kq
        rw [htop];refine Nat.le_trans (mG (by omega)) ?_;rw [hcol i (by omega)];split
        · exact hcE top (Nat.le_refl _) ht
        · exact hcE i (by omega) hir
      · have:=Int.emod_lt_of_pos (S2.M i q) (show (0:Int)<y by omega);omega
      · subst ha1
        rw [Nat.one_mul,Nat.mul_assoc];refine Nat.mul_le_mul_left _ ?_;have:y*y*y≤2^eB e0 top*2^eB e0 top*2^eB e0 top:=Nat.mul_le_mul (Nat.mul_le_mul hyE hyE) hyE;simp only [Nat.pow_succ,Nat.pow_zero,Nat.one_mul];exact this
      · subst hb1
        rw [Nat.one_mul,Nat.mul_assoc];refine Nat.mul_le_mul_left _ ?_;rw [←Nat.pow_succ];exact Nat.pow_le_pow_left hyE 8
    ·
      have hex:∃i,top<i∧i<r∧S.M i q≠0:=by
        by_cases e:i1=top
        · exact ⟨i2,by omega,by omega,hz2⟩
        · exact ⟨i1,by omega,by omega,hz1⟩
      obtain ⟨i,hi,hir,hiz⟩:=hex;have hio:=hoth i hi hir;have hyi:y≤(S.M i q).natAbs:=hl4 i (by omega) hir hiz;have hym:y<m:=by omega
      have hyu:y≤u:=by omega
      have hpt:p≠top:=by intro e;subst e;omega
      have hrange:∀i,top<i→i<r→0≤S2.M i q∧S2.M i q≤(m:Int)∧(S2.M i q≠0→(y:Int)≤S2.M i q):=fun i hi hir=>by
        rw [hcol i (by omega)];split
        · exact ⟨by omega,by omega,fun _=>by omega⟩
        · have h1:=hoth i hi hir
          exact ⟨h1.1,by omega,fun hz=>by have:=hl4 i (by omega) hir hz;omega⟩
      have hk1:1≤m/y:=Nat.div_pos (by omega) hy0;have hky:m/y*y≤m:=Nat.div_mul_le_self _ _;refine ⟨m/y,_,_,min y (m - y),fun i hi hir=> ?_,hym,by omega,fun i hi hir=> ?_,by omega,rfl,rfl,?_,?_⟩
      · obtain ⟨g1,g2,_⟩:=hrange i hi hir
        unfold kq
        rw [htop,Int.natAbs_neg];have e1:S2.M i q=((S2.M i q).toNat:Int):=by omega
        rw [e1,←Int.natCast_ediv,Int.natAbs_natCast];exact Nat.div_le_div_right (by omega)
      · obtain ⟨g1,g2,g3⟩:=hrange i hi hir
        have h1:=Int.emod_lt_of_pos (S2.M i q) (show (0:Int)<y by omega)
        by_cases hz:S2.M i q=0
        · rw [hz,Int.zero_emod];omega
        · have h2:=g3 hz
          have h3:S2.M i q % (y:Int)≤S2.M i q - y:=by
            have h4:=Int.mul_ediv_add_emod (S2.M i q) (y:Int);have h5:1≤S2.M i q/(y:Int):=by
              rw [Int.le_ediv_iff_mul_le (by omega)];omega
            have h6:(y:Int)*1≤(y:Int)*(S2.M i q/(y:Int)):=Int.mul_le_mul_of_nonneg_left h5 (by omega);omega
          omega
      · have h1:=yZ hk1 hky (Nat.min_le_left y (m - y)) (by have:=Nat.min_le_right y (m - y);omega)
        have h2:a*(1 + m/y)*(y*y)*min y (m - y)=a*((1 + m/y)*y*min y (m - y))*y:=by ac_rfl
        rw [h2];refine Nat.le_trans ?_ hpa;exact Nat.mul_le_mul (Nat.mul_le_mul_left _ h1) hyu
      · have h1:=yY hk1 hky (Nat.min_le_left y (m - y)) (by have:=Nat.min_le_right y (m - y);omega)
        have h2:b*(1 + 7*(m/y))*y^7*min y (m - y)=b*((1 + 7*(m/y))*y^6*min y (m - y))*y:=by
          rw [Nat.pow_succ y 6];ac_rfl
        rw [h2];refine Nat.le_trans ?_ hpb;exact Nat.mul_le_mul (Nat.mul_le_mul_left _ h1) hyu
  obtain ⟨K,a',b',u',hK,hym,hyE,hres,hu',ha',hb',hpa,hpb⟩:=key;have hbd:=fun n (hn:top + n<r)=>yw (n:=n) ht hn (by omega) hK hM2 hU2 hV2
  have ha1:a'≤(1 + 2^eB e0 top)*(2^eB e0 top)^3:=by
    refine Nat.le_trans ?_ hpa;rw [Nat.mul_assoc];exact Nat.le_mul_of_pos_right _ (Nat.mul_pos (Nat.mul_pos hy0 hy0) hu')
  have hb1:b'≤(1 + 7*2^eB e0 top)*(2^eB e0 top)^8:=by
    refine Nat.le_trans ?_ hpb;rw [Nat.mul_assoc];exact Nat.le_mul_of_pos_right _ (Nat.mul_pos (Nat.pow_pos hy0) hu')
  have hmul:∀E:Nat,E*a*(1 + K)=E*a':=fun E=>by rw [ha',Nat.mul_assoc]
  have hmulb:∀E:Nat,E*b*(1 + 7*K)=E*b':=fun E=>by rw [hb',Nat.mul_assoc]
  have hone:∀x:Nat,x≤x*(1 + 2^eB e0 top):=fun x=>Nat.le_mul_of_pos_right _ (by omega)
  have honeg:∀x:Nat,x≤x*(1 + 7*2^eB e0 top):=fun x=>Nat.le_mul_of_pos_right _ (by omega)
  refine ⟨y,hym,⟨hlin.el q ht _ (by omega),hech.el ht,fun i hi=>by rw [mH,if_neg (by omega)];exact hab i hi,a',b',u',?_,?_,?_,.inr ⟨hy0,by rw [mH,if_neg (by omega)];exact htop,hyE,fun i hi hir=> ?_,hu',hpa,hpb⟩⟩,fun n hn=>⟨?_,?_,?_⟩⟩
  · intro i j hi hj;rw [←hmul];exact (hbd _ (by omega)).1 i j hi hj
  · intro i j hi hj;rw [←hmul];exact (hbd _ (by omega)).2.1 i j hi hj
  · intro i j hi hj;rw [←hmulb];exact (hbd _ (by omega)).2.2 i j hi hj
  · have e1:(el S2 top q (r - top - 1)).M i q=S2.M i q % (y:Int):=by
      rw [mH,if_pos (by omega)]
      unfold kq
      rw [htop];have:=Int.mul_ediv_add_emod (S2.M i q) (y:Int);rw [Int.neg_mul,Int.mul_comm (S2.M i q/(y:Int))];omega
    rw [e1];exact ⟨Int.emod_nonneg _ (by omega),Int.emod_lt_of_pos _ (by omega),hres i hi hir⟩
  · intro i j hi hj
    refine Nat.le_trans ((hbd (n + 1) (by omega)).1 i j hi hj) ?_;rw [hmul];refine Nat.le_trans (Nat.mul_le_mul_left _ ha1) (Nat.le_trans (hone _) ?_);exact pM (eB e0 top)
  · intro i j hi hj
    refine Nat.le_trans ((hbd (n + 1) (by omega)).2.1 i j hi hj) ?_;rw [hmul];refine Nat.le_trans (Nat.mul_le_mul_left _ ha1) (Nat.le_trans (hone _) ?_);exact pM (eB e0 top)
  · intro i j hi hj
    refine Nat.le_trans ((hbd (n + 1) (by omega)).2.2 i j hi hj) ?_;rw [hmulb];refine Nat.le_trans (Nat.mul_le_mul_left _ hb1) (Nat.le_trans (honeg _) ?_);exact vV (gB e0 top) (eB e0 top)
theorem JI.none (h:JI r c e0 M0 top q m S) (ht:top<r) (hn:(aW (fun a=>S.M a q) top (r - top)).1<0):FI r c e0 M0 top (q + 1) S:=by
  have hz:=(iF (x:=fun a=>S.M a q) hn).2;obtain ⟨a,b,u,hM,hU,hV,hc⟩:=h.run;rcases hc with ⟨ha1,hb1,_,_⟩ | ⟨hm0,hmt,_⟩
  · subst ha1;subst hb1
    simp only [Nat.mul_one] at hM hU hV;refine ⟨h.lin,?_,hM,hU,hV⟩;obtain ⟨P,h1,h2⟩:=h.ech;refine ⟨P,fun i hi=> ?_,fun a ha har j hj=> ?_⟩
    · obtain ⟨g1,g2⟩:=h1 i hi;exact ⟨by omega,g2⟩
    · by_cases e:j=q
      · subst e;exact hz a ha (by omega)
      · exact h2 a ha har j (by omega)
  · have:S.M top q=0:=hz top (Nat.le_refl _) (by omega)
    omega
theorem JI.pivot (h:JI r c e0 M0 top q m S) (ht:top<r) (hq:q<c) (h8:r≤8) (hp:0≤(aW (fun a=>S.M a q) top (r - top)).1) (ho:(aW (fun a=>S.M a q) top (r - top)).2=false):
    (∀n,n≤top→(∀i j,i<r→j<c→((ra (sn S (aW (fun a=>S.M a q) top (r - top)).1.toNat top q) top q n).M i j).natAbs≤2^eB e0 (top + 1))∧
        (∀i j,i<r→j<r→((ra (sn S (aW (fun a=>S.M a q) top (r - top)).1.toNat top q) top q n).U i j).natAbs≤2^eB e0 (top + 1))∧
        ∀i j,i<r→j<r→((ra (sn S (aW (fun a=>S.M a q) top (r - top)).1.toNat top q) top q n).V i j).natAbs≤2^gB e0 (top + 1))∧
      FI r c e0 M0 (top + 1) (q + 1) (ra (sn S (aW (fun a=>S.M a q) top (r - top)).1.toNat top q) top q top):=by
  obtain ⟨hl1,hl2,hl3,hl4,hl5⟩:=lead hp ht;replace hl5:=hl5 ho
  generalize hpe:(aW (fun a=>S.M a q) top (r - top)).1.toNat=p at*
  have hE0:0<2^eB e0 top:=Nat.two_pow_pos _;obtain ⟨a,b,u,hM,hU,hV,hc⟩:=h.run;have hab1:a≤(1 + 2^eB e0 top)*(2^eB e0 top)^3∧b≤(1 + 7*2^eB e0 top)*(2^eB e0 top)^8:=by
    rcases hc with ⟨ha1,hb1,_⟩ | ⟨hm0,_,_,_,hu1,hpa,hpb⟩
    · subst ha1;subst hb1
      exact ⟨Nat.mul_pos (by omega) (Nat.pow_pos hE0),Nat.mul_pos (by omega) (Nat.pow_pos hE0)⟩
    · refine ⟨Nat.le_trans ?_ hpa,Nat.le_trans ?_ hpb⟩
      · rw [Nat.mul_assoc];exact Nat.le_mul_of_pos_right _ (Nat.mul_pos (Nat.mul_pos hm0 hm0) hu1)
      · rw [Nat.mul_assoc];exact Nat.le_mul_of_pos_right _ (Nat.mul_pos (Nat.pow_pos hm0) hu1)
  have htop:=iW S p top q;obtain ⟨hM2,hU2,hV2⟩:=rH (q:=q) hl2 ht hM hU hV;have hlin:=h.lin.sn q hl2 ht;have hech:=h.ech.sn (q:=q) hl2 hl1 ht;have hcol:∀i,i≠top→(sn S p top q).M i q=if i=p then S.M top q else S.M i q:=fun i hi=>(qt S p top q i q).1 hi
  have hab:∀i,i<top→((sn S p top q).M i q).natAbs≤2^eB e0 top:=fun i hi=>by rw [hcol i (by omega),if_neg (by omega)];exact h.above i hi
  have hbelow:∀i,top<i→i<r→(sn S p top q).M i q=0:=fun i hi hir=>by
    rw [hcol i (by omega)];split
    · rename_i e;subst e;exact hl5 top (Nat.le_refl _) ht (by omega)
    · rename_i e;exact hl5 i (by omega) hir e
  generalize sn S p top q=S2 at*
  generalize hy:(S.M p q).natAbs=y at*
  have hy0:0<y:=by omega
  have hK:∀i,i<top→(kq S2 top q i).natAbs≤2^eB e0 top:=fun i hi=>by
    unfold kq;rw [htop]
    exact Nat.le_trans (mG (by omega)) (hab i hi)
  have hbd:=fun n (hn:n≤top)=>vT (n:=n) ht hn (by omega) hK hM2 hU2 hV2
  have hfin:∀n,n≤top→(∀i j,i<r→j<c→((ra S2 top q n).M i j).natAbs≤2^eB e0 (top + 1))∧(∀i j,i<r→j<r→((ra S2 top q n).U i j).natAbs≤2^eB e0 (top + 1))∧
      ∀i j,i<r→j<r→((ra S2 top q n).V i j).natAbs≤2^gB e0 (top + 1):=fun n hn=>by
    refine ⟨fun i j hi hj=> ?_,fun i j hi hj=> ?_,fun i j hi hj=> ?_⟩
    · exact Nat.le_trans ((hbd n hn).1 i j hi hj) (Nat.le_trans (Nat.mul_le_mul_right _ (Nat.mul_le_mul_left _ hab1.1)) (pM _))
    · exact Nat.le_trans ((hbd n hn).2.1 i j hi hj) (Nat.le_trans (Nat.mul_le_mul_right _ (Nat.mul_le_mul_left _ hab1.1)) (pM _))
    · exact Nat.le_trans ((hbd n hn).2.2 i j hi hj) (Nat.le_trans (Nat.mul_le_mul_right _ (Nat.mul_le_mul_left _ hab1.2)) (vV _ _))
  refine ⟨hfin,hlin.ra q ht top (Nat.le_refl _),?_,(hfin top (Nat.le_refl _)).1,(hfin top (Nat.le_refl _)).2.1,(hfin top (Nat.le_refl _)).2.2⟩;obtain ⟨P,h1,h2⟩:=hech;have hrow:∀i,i<top→∀j,j<q→(ra S2 top q top).M i j=S2.M i j:=fun i hi j hj=>by
    rw [li _ _ _ _ _ _ (Nat.le_refl _),if_pos hi,h2 top (Nat.le_refl _) ht j hj,Int.mul_zero,Int.add_zero]
  have hrest:∀i,top≤i→∀j,(ra S2 top q top).M i j=S2.M i j:=fun i hi j=>by rw [li _ _ _ _ _ _ (Nat.le_refl _),if_neg (by omega)]
  refine ⟨bS P top q,fun i hi=> ?_,fun a ha har j hj=> ?_⟩
  · by_cases e:i=top
    · subst e
      rw [bg];refine ⟨by omega,by rw [hrest i (Nat.le_refl _),htop];omega,fun j hj=>by rw [hrest i (Nat.le_refl _)];exact h2 i (Nat.le_refl _) ht j hj,fun k hk=> ?_⟩;rw [be _ _ _ _ (by omega),hrest i (Nat.le_refl _),htop,li _ _ _ _ _ _ (Nat.le_refl _),if_pos hk]
      unfold kq
      rw [htop];have e1:S2.M k q + -(S2.M k q/(y:Int))*(y:Int)=S2.M k q % (y:Int):=by
        have:=Int.mul_ediv_add_emod (S2.M k q) (y:Int);rw [Int.neg_mul,Int.mul_comm (S2.M k q/(y:Int))];omega
      rw [e1];exact ⟨(h1 k hk).1,Int.emod_nonneg _ (by omega),Int.emod_lt_of_pos _ (by omega)⟩
    · rw [be _ _ _ _ e]
      obtain ⟨g1,g2,g3,g4⟩:=h1 i (by omega);refine ⟨by omega,by rw [hrow i (by omega) _ g1];exact g2,fun j hj=>by rw [hrow i (by omega) _ (by omega)];exact g3 j hj,fun k hk=> ?_⟩;rw [be _ _ _ _ (by omega),hrow k (by omega) _ g1,hrow i (by omega) _ g1];exact g4 k hk
  · rw [hrest a (by omega)]
    by_cases e:j=q
    · subst e;exact hbelow a (by omega) har
    · exact h2 a (by omega) har j (by omega)
end
end Go.TL
namespace Go.TL
open Go.RowKit Go.Proofs
set_option linter.unusedVariables false
def bB (e0 r:Nat):Nat:=eB e0 r + gB e0 r + 2
theorem eL {z:Int} {e b:Nat} (h:z.natAbs≤2^e) (hb:e<b):z.natAbs<2^b:=Nat.lt_of_le_of_lt h (Nat.pow_lt_pow_right (by omega) hb)
structure Herm (r c e0:Nat) (M0:Nat→Nat→Int) (k:Nat) (S:WS):Prop where
  lin:Lin r c M0 S
  kr:k≤r
  kc:k≤c
  ech:io r k c S.M
  bm:∀i j,i<r→j<c→(S.M i j).natAbs≤2^eB e0 k
  bu:∀i j,i<r→j<r→(S.U i j).natAbs≤2^eB e0 k
  bv:∀i j,i<r→j<r→(S.V i j).natAbs≤2^gB e0 k
theorem io.kc {r k c q:Nat} {M:Nat→Nat→Int} (h:io r k q M) (hq:q≤c):k≤q:=by
  obtain ⟨P,h1,_⟩:=h;have:∀n,n≤k→∀i,i<n→i≤P i:=by
    intro n
    induction n with
    | zero=>intro _ i hi;omega
    | succ n ih=>
      intro hn i hi
      by_cases e:i=n
      · subst e
        rcases Nat.eq_zero_or_pos i with h0 | h0
        · omega
        · have:=ih (by omega) (i - 1) (by omega)
          have:=((h1 i (by omega)).2.2.2 (i - 1) (by omega)).1;omega
      · exact ih (by omega) i (by omega)
  rcases Nat.eq_zero_or_pos k with h0 | h0
  · omega
  · have:=this k (Nat.le_refl _) (k - 1) (by omega)
    have:=(h1 (k - 1) (by omega)).1;omega
theorem mE (w:World) (x:Value) (r c:Nat) (M:Nat→Nat→Int) (b0 e0 b:Nat) (hx:bo w x r c M b0) (h8:r≤8) (hM:∀i j,i<r→j<c→(M i j).natAbs≤2^e0) (hb:bB e0 r≤b) (hb1:1 + e0≤b) (hl:2*b + 4≤bl):
    Calls Tryz.prog 39 #[x] w (cg w fun v w'=>∃k S,Herm r c e0 M k S∧lg w' v r c S b):=by
  have hfit:∀{top:Nat} {S:WS},top<r→(∀i j,i<r→j<c→(S.M i j).natAbs≤2^eB e0 (top + 1))→(∀i j,i<r→j<r→(S.U i j).natAbs≤2^eB e0 (top + 1))→(∀i j,i<r→j<r→(S.V i j).natAbs≤2^gB e0 (top + 1))→iU r c b S:=by
    intro top S ht h1 h2 h3;have e1:=gO e0 (s:=top + 1) (t:=r) (by omega);have e2:=pY e0 (s:=top + 1) (t:=r) (by omega)
    unfold bB at hb
    exact ⟨fun i j hi hj=>eL (h1 i j hi hj) (by omega),fun i j hi hj=>eL (h2 i j hi hj) (by omega),fun i j hi hj=>eL (h3 i j hi hj) (by omega)⟩
  have e0r:=gO e0 (s:=0) (t:=r) (by omega);have hbb:=hb
  unfold bB at hbb
  simp only [eB] at e0r;have hx0:bo w x r c M (e0 + 1):=hx.more (fun i j hi hj=>eL (hM i j hi hj) (by omega)) (by omega);refine (wX w x r c M (e0 + 1) b (FI r c e0 M) (JI r c e0 M) hx0 (by omega) hl (FI.start hM) (fun top q S ht hq h=>⟨_,JI.of h ht hq⟩) ?_ ?_ ?_ ?_).mono ?_
  · intro top q m S ht hq hJ hp ho n hn
    obtain ⟨_,_,_,h3⟩:=hJ.round ht hq h8 hp ho;obtain ⟨g1,g2,g3⟩:=h3 n hn;exact hfit ht g1 g2 g3
  · intro top q m S ht hq hJ hp ho
    obtain ⟨m2,hm,hJ2,_⟩:=hJ.round ht hq h8 hp ho;exact ⟨m2,hm,hJ2⟩
  · intro top q m S ht hq hJ hp
    exact hJ.none ht hp
  · intro top q m S ht hq hJ hp ho
    obtain ⟨h1,h2⟩:=hJ.pivot ht hq h8 hp ho;exact ⟨fun n hn=>by obtain ⟨g1,g2,g3⟩:=h1 (n + 1) (by omega);exact hfit ht g1 g2 g3,h2⟩
  · rintro e w' ⟨v,rfl,hx',top,q,S,hF,hex,ht,hq,hH⟩
    have hech:io r top c S.M:=by
      obtain ⟨P,h1,h2⟩:=hF.ech;refine ⟨P,fun i hi=> ?_,fun a ha har j hj=> ?_⟩
      · obtain ⟨g1,g2⟩:=h1 i hi;exact ⟨by omega,g2⟩
      · rcases hex with h | h
        · exact h2 a ha har j (by omega)
        · omega
    exact ⟨v,rfl,hx',top,S,⟨hF.lin,ht,hech.kc (Nat.le_refl _),hech,hF.bm,hF.bu,hF.bv⟩,hH⟩
end Go.TL
namespace Go.TL
set_option linter.unusedVariables false
theorem Herm.some {r c e0 k:Nat} {M0:Nat→Nat→Int} {S:WS} (h:Herm r c e0 M0 k S) {i:Nat} (hi:i<k):0≤piv (S.M i) c:=by
  obtain ⟨P,h1,_⟩:=h.ech;obtain ⟨g1,g2,_⟩:=h1 i hi
  by_cases hn:0≤piv (S.M i) c
  · exact hn
  · have h3:dq kF (S.M i) c= -1:=by have:=(iE (p:=kF) (z:=S.M i) c).2;unfold piv at hn;omega
    have:=gI h3 (P i) g1
    unfold kF at this
    omega
theorem Herm.none {r c e0 k:Nat} {M0:Nat→Nat→Int} {S:WS} (h:Herm r c e0 M0 k S) {i:Nat} (hi:k≤i) (hr:i<r):¬0≤piv (S.M i) c:=by
  obtain ⟨P,_,h2⟩:=h.ech
  unfold piv
  rw [nF fun j hj=>by unfold kF;exact fun hne=>hne (h2 i hi hr j hj)];omega
theorem mI (e0 s:Nat):∀t,eB (eB e0 s) t=eB e0 (s + t)
  | 0=>rfl
  | t + 1=>by rw [show s + (t + 1)=s + t + 1 by omega];simp only [eB];rw [mI e0 s t]
theorem sS (e0 s:Nat):∀t,gB (eB e0 s) t≤gB e0 (s + t)
  | 0=>Nat.zero_le _
  | t + 1=>by rw [show s + (t + 1)=s + t + 1 by omega];simp only [gB];rw [mI e0 s t];have:=sS e0 s t;omega
theorem xf (e0:Nat) {s r:Nat} (h:s≤r):bB (eB e0 s) (r - s)≤bB e0 r:=by
  unfold bB
  have h1:=mI e0 s (r - s);have h2:=sS e0 s (r - s);rw [show s + (r - s)=r by omega] at h1 h2;omega
theorem uP (e0 t:Nat):e0≤eB e0 t:=gO e0 (s:=0) (t:=t) (by omega)
end Go.TL
namespace Go.TL
open Go.RowKit Go.Proofs
set_option linter.unusedVariables false
set_option linter.unusedSimpArgs false
set_option maxRecDepth 10000 in
theorem pX (w:World) (x:Value) (rx cx:Nat) (Mx:Nat→Nat→Int) (btx:Nat) (e0 b:Nat) (hx:bo w x rx cx Mx btx) (h8:rx≤8) (hM:∀i j,i<rx→j<cx→(Mx i j).natAbs≤2^e0) (hb:bB e0 rx≤b) (hb1:1 + e0≤b) (hl:2*b + 4≤bl):Calls Tryz.prog 46 #[x] w (cg w fun v w'=>∃k S,Herm rx cx e0 Mx k S∧bo w' v k cx S.M b):=by
 have hLIM:bl=562949953421312:=rfl;have hmatx:=hx;obtain ⟨sx,rfl,hrx,hcx,hSx⟩:=hx.form;refine ak (N:=31) (rs:= #[.cell 2 28]) Tryz.func46 rfl rfl rfl (Nat.le_of_ble_eq_true rfl) ?_;have hX:aQ w w:=aQ.refl w;refine ad ?_;refine RL.x rfl rfl (dv.box [.int .i64 ((rx:Nat)),.int .i64 ((cx:Nat)),sx] rfl rfl) ?_;rintro _ w1 ⟨g1,rfl,hge1,hx1,hA1⟩;have hbs1:w.heap.size≤g1:=Nat.le_trans hX.size hge1;replace hX:=aQ.trans hX hx1;refine RL.x rfl rfl (dv.alloc [.int .i64 (0),.int .i64 (0),.slice (none) (0) (0)] bE rfl) ?_;rintro _ w2 ⟨g2,rfl,hge2,hx2,hA2⟩;have ne1:g1≠g2:=Nat.ne_of_lt (Nat.lt_of_lt_of_le hA1.lt hge2);have hbs2:w.heap.size≤g2:=Nat.le_trans hX.size hge2;replace hA1:=aX.ext hA1 hx2;replace hX:=aQ.trans hX hx2;refine RL.nil ?_;refine ad ?_;refine RL.p rfl rfl (af [.int .i64 ((rx:Nat)),.int .i64 ((cx:Nat)),sx] aT rfl (hA1.cells 0 _ rfl rfl)) ?_;refine RL.x rfl rfl (dv.call ro (aJ rfl) (mE _ _ rx cx Mx _ e0 b (bo.mk (cu.ext hSx hX) (by omega) (by omega)) h8 hM hb hb1 hl)) ?_;rintro _ w3 ⟨hx3,kf_1,Sf_1,hHf_1,sa_1,sb_1,sc_1,rfl,hdr_1,hdc_1,hSa_1,hSb_1,hSc_1⟩;replace hA1:=aX.ext hA1 hx3;replace hA2:=aX.ext hA2 hx3;replace hX:=aQ.trans hX hx3;refine RL.p rfl rfl (kZ pu aT rfl (by rfl)) ?_;refine RL.x rfl rfl (dv.alloc [.int .i64 (0),.int .i64 (0),.slice (none) (0) (0)] bE rfl) ?_;rintro _ w4 ⟨g3,rfl,hge3,hx4,hA3⟩;have ne2:g1≠g3:=Nat.ne_of_lt (Nat.lt_of_lt_of_le hA1.lt hge3);have ne3:g2≠g3:=Nat.ne_of_lt (Nat.lt_of_lt_of_le hA2.lt hge3);have hbs3:w.heap.size≤g3:=Nat.le_trans hX.size hge3;replace hA1:=aX.ext hA1 hx4;replace hA2:=aX.ext hA2 hx4;replace hSa_1:=cu.ext hSa_1 hx4;replace hSb_1:=cu.ext hSb_1 hx4;replace hSc_1:=cu.ext hSc_1 hx4;replace hX:=aQ.trans hX hx4;refine RL.x rfl rfl (dv.store [.int .i64 ((rx:Nat)),.int .i64 ((cx:Nat)),sa_1] bO rfl rfl rfl hA3 (Nat.le_of_ble_eq_true rfl) (bP rfl rfl (hSa_1.one))) ?_;rintro _ w5 ⟨hk1,hnew⟩;replace hA1:=hA1.keep hk1 ne2;replace hA2:=hA2.keep hk1 ne3;replace hSa_1:=aA hSa_1 hk1 hA3 (by decide);replace hSb_1:=aA hSb_1 hk1 hA3 (by decide);replace hSc_1:=aA hSc_1 hk1 hA3 (by decide);replace hX:=hX.step hk1 (fun b e=>by subst e;exact hbs3);replace hA3:=hnew.lit [.int .i64 ((rx:Nat)),.int .i64 ((cx:Nat)),sa_1] rfl;clear hnew;refine RL.nil ?_;have hkr:=hHf_1.kr;refine ad ?_;refine RL.p rfl rfl (cz.assign rfl) ?_;refine RL.nil ?_;refine WP.seq ?_;refine WP.block ?_;refine WP.loop (fun mz ez uz=>∃n:Nat,(mz=kf_1 - n)∧(ez 2= .pointer (some ⟨g2,0,none⟩))∧(ez 3= .pointer (some ⟨g3,0,none⟩))∧(ez 4= .int .i64 ((n:Nat)))∧(n≤kf_1)∧(aQ w uz)∧(aX uz g2 28 3 (bG [.int .i64 (0),.int .i64 (0),.slice (none) (0) (0)]))∧(cu uz sa_1 rx cx Sf_1.M b)∧(aX uz g3 28 3 (bG [.int .i64 ((rx:Nat)),.int .i64 ((cx:Nat)),sa_1]))) (kf_1 - 0) ?_ ?_
 · exact ⟨0,rfl,rfl,rfl,rfl,(by omega),hX,hA2,hSa_1,hA3⟩
 rintro m1 e1 w6 ⟨n,hm1,s2_e1,s3_e1,s4_e1,hn,hX1,hA2,hSa_1,hA3⟩;refine WP.seq ?_;refine ay aq 13 [fun v zq=>v= .int .i64 ((n:Nat)),fun v zq=>v= .pointer (some ⟨g3,0,none⟩),fun v zq=>v= .int .i64 ((rx:Nat)),fun v zq=>v= .bool (decide (((n:Nat):Int)<((rx:Nat):Int))),fun v zq=>v= .bool (decide (((n:Nat):Int)<((rx:Nat):Int))),fun v zq=>(((n:Nat):Int)<((rx:Nat):Int))→(v= .pointer (some ⟨g3,2,none⟩)),fun v zq=>(((n:Nat):Int)<((rx:Nat):Int))→(v=sa_1),fun v zq=>(((n:Nat):Int)<((rx:Nat):Int))→(v= .int .i64 ((n:Nat))),fun v zq=>(((n:Nat):Int)<((rx:Nat):Int))→(ec zq v cx (Sf_1.M n) b),fun v zq=>(((n:Nat):Int)<((rx:Nat):Int))→(ci zq v cx (Sf_1.M n) b),fun v zq=>(((n:Nat):Int)<((rx:Nat):Int))→(v= .int .i64 (piv (Sf_1.M n) cx)),fun v zq=>(((n:Nat):Int)<((rx:Nat):Int))→(v= .bool (decide ((0:Int)≤(piv (Sf_1.M n) cx:Int)))),fun v zq=>v= .bool (decide ((((n:Nat):Int)<((rx:Nat):Int))∧((0:Int)≤(piv (Sf_1.M n) cx:Int))))] rfl rfl ⟨aa _,aa _,aa _,aa _,aa _,dG.imp (aa _),dG.imp (aa _),dG.imp (aa _),dG.imp (dA _ _ _),dG.imp (dz _ _ _),dG.imp (aa _),dG.imp (aa _),aa _,trivial⟩ ⟨fun e_ w_ zp zo zn=>ab (cz.move (((zo 4 rfl).trans s4_e1))),fun e_ w_ zp zo zn=>ab (cz.fieldAddr bj (((zo 3 rfl).trans s3_e1))),fun e_ w_ zp zo zn=>ab (cz.load bT ((zn 1 rfl)) ((aX.ext hA3 zp).at_ (i:=0) rfl rfl)),fun e_ w_ zp zo zn=>ab (cz.lss ((zn 0 rfl)) ((zn 2 rfl))),fun e_ w_ zp zo zn=>ab (cz.move ((zn 3 rfl))),fun e_ w_ zp zo zn=>am (p:=((n:Nat):Int)<((rx:Nat):Int)) (zn 4 rfl) (fun hg=>dv.imp (p:=((n:Nat):Int)<((rx:Nat):Int)) (φ:=fun v zq=>v= .pointer (some ⟨g3,2,none⟩)) (ab (cz.fieldAddr av (((zo 3 rfl).trans s3_e1))))) (fun hn=>(fun hg=>absurd hg hn)),fun e_ w_ zp zo zn=>am (p:=((n:Nat):Int)<((rx:Nat):Int)) (zn 4 rfl) (fun hg=>dv.imp (p:=((n:Nat):Int)<((rx:Nat):Int)) (φ:=fun v zq=>v=sa_1) (ab (cz.load aR ((zn 5 rfl hg)) ((aX.ext hA3 zp).at_ (i:=2) rfl rfl)))) (fun hn=>(fun hg=>absurd hg hn)),fun e_ w_ zp zo zn=>am (p:=((n:Nat):Int)<((rx:Nat):Int)) (zn 4 rfl) (fun hg=>dv.imp (p:=((n:Nat):Int)<((rx:Nat):Int)) (φ:=fun v zq=>v= .int .i64 ((n:Nat))) (ab (cz.move (((zo 4 rfl).trans s4_e1))))) (fun hn=>(fun hg=>absurd hg hn)),fun e_ w_ zp zo zn=>am (p:=((n:Nat):Int)<((rx:Nat):Int)) (zn 4 rfl) (fun hg=>dv.imp (p:=((n:Nat):Int)<((rx:Nat):Int)) (φ:=fun v zq=>ec zq v cx (Sf_1.M n) b) (aj (φ:=fun v zq=>ec zq v cx (Sf_1.M n) b) (bL (j:=n) aK (zn 6 rfl hg) (cu.ext hSa_1 zp) (zn 7 rfl hg) (by omega) (by omega)))) (fun hn=>(fun hg=>absurd hg hn)),fun e_ w_ zp zo zn=>am (p:=((n:Nat):Int)<((rx:Nat):Int)) (zn 4 rfl) (fun hg=>dv.imp (p:=((n:Nat):Int)<((rx:Nat):Int)) (φ:=fun v zq=>ci zq v cx (Sf_1.M n) b) (aj (φ:=fun v zq=>ci zq v cx (Sf_1.M n) b) (bW bc rfl (zn 8 rfl hg)))) (fun hn=>(fun hg=>absurd hg hn)),fun e_ w_ zp zo zn=>am (p:=((n:Nat):Int)<((rx:Nat):Int)) (zn 4 rfl) (fun hg=>dv.imp (p:=((n:Nat):Int)<((rx:Nat):Int)) (φ:=fun v zq=>v= .int .i64 (piv (Sf_1.M n) cx)) (dv.call xS (aJ rfl) (uD _ _ _ _ _ (zn 9 rfl hg)))) (fun hn=>(fun hg=>absurd hg hn)),fun e_ w_ zp zo zn=>am (p:=((n:Nat):Int)<((rx:Nat):Int)) (zn 4 rfl) (fun hg=>dv.imp (p:=((n:Nat):Int)<((rx:Nat):Int)) (φ:=fun v zq=>v= .bool (decide ((0:Int)≤(piv (Sf_1.M n) cx:Int)))) (ab (cz.geq ((zn 10 rfl hg)) rfl))) (fun hn=>(fun hg=>absurd hg hn)),fun e_ w_ zp zo zn=>ab (aG (p:=((n:Nat):Int)<((rx:Nat):Int)) (q:=(0:Int)≤(piv (Sf_1.M n) cx:Int)) (zn 4 rfl) (fun hq=>(zn 11 rfl hq))),trivial⟩ ?_;intro e2 w7 hx5 ho1 hf1;replace hA2:=aX.ext hA2 hx5;replace hSa_1:=cu.ext hSa_1 hx5;replace hA3:=aX.ext hA3 hx5;replace hX1:=aQ.trans hX1 hx5;have s2_e2:e2 2= .pointer (some ⟨g2,0,none⟩):=(ho1 2 rfl).trans s2_e1;have s3_e2:e2 3= .pointer (some ⟨g3,0,none⟩):=(ho1 3 rfl).trans s3_e1;have s4_e2:e2 4= .int .i64 ((n:Nat)):=(ho1 4 rfl).trans s4_e1;have s20_e2:e2 20= .bool (decide ((((n:Nat):Int)<((rx:Nat):Int))∧((0:Int)≤(piv (Sf_1.M n) cx:Int)))):=hf1 12 rfl;refine RL.nil ?_;refine ag ((((n:Nat):Int)<((rx:Nat):Int))∧((0:Int)≤(piv (Sf_1.M n) cx:Int))) s20_e2 (fun c20=> ?_) (fun c20=> ?_)
 ·
  refine WP.skip ?_;refine pi.norm ?_;refine WP.block ?_;refine WP.region ?_;refine RL.p rfl rfl (cz.move s4_e2) ?_;refine RL.p rfl rfl (cz.add (c:=((n + 1:Nat):Int)) rfl rfl (bN (by omega))) ?_;refine RL.p rfl rfl (cz.assign rfl) ?_;refine RL.nil ?_;refine iS.norm ?_;have hnk:n<kf_1:=by
    rcases Nat.lt_or_ge n kf_1 with h | h
    · exact h
    · exact absurd c20.2 (hHf_1.none h (by omega))
  refine pi.norm ⟨_,(by omega),n + 1,rfl,s2_e2,s3_e2,rfl,(by omega),hX1,hA2,hSa_1,hA3⟩
 ·
  refine WP.exit ?_;refine pi.exit ?_;refine pi.exit ?_;refine iS.same ?_;refine pi.norm ?_;refine ay aq 7 [fun v zq=>v= .int .i64 ((n:Nat)),fun v zq=>v= .pointer (some ⟨g3,1,none⟩),fun v zq=>v= .int .i64 ((cx:Nat)),fun v zq=>v= .pointer (some ⟨g3,2,none⟩),fun v zq=>v=sa_1,fun v zq=>v= .int .i64 ((n:Nat)),fun v zq=>cu zq v n cx Sf_1.M b] rfl rfl ⟨aa _,aa _,aa _,aa _,aa _,aa _,gL _ _ _ _,trivial⟩ ⟨fun e_ w_ zp zo zn=>ab (cz.move (((zo 4 rfl).trans s4_e2))),fun e_ w_ zp zo zn=>ab (cz.fieldAddr bF (((zo 3 rfl).trans s3_e2))),fun e_ w_ zp zo zn=>ab (cz.load bT ((zn 1 rfl)) ((aX.ext hA3 zp).at_ (i:=1) rfl rfl)),fun e_ w_ zp zo zn=>ab (cz.fieldAddr av (((zo 3 rfl).trans s3_e2))),fun e_ w_ zp zo zn=>ab (cz.load aR ((zn 3 rfl)) ((aX.ext hA3 zp).at_ (i:=2) rfl rfl)),fun e_ w_ zp zo zn=>ab (cz.move (((zo 4 rfl).trans s4_e2))),fun e_ w_ zp zo zn=>aj (φ:=fun v zq=>cu zq v n cx Sf_1.M b) (gY (j:=n) aK (zn 4 rfl) (cu.ext hSa_1 zp) (zn 5 rfl) (by omega) (by omega)),trivial⟩ ?_;intro e3 w8 hx6 ho2 hf2;replace hA2:=aX.ext hA2 hx6;replace hSa_1:=cu.ext hSa_1 hx6;replace hA3:=aX.ext hA3 hx6;replace hX1:=aQ.trans hX1 hx6;have s2_e3:e3 2= .pointer (some ⟨g2,0,none⟩):=(ho2 2 rfl).trans s2_e2;have s23_e3:e3 23= .int .i64 ((n:Nat)):=hf2 0 rfl;have s25_e3:e3 25= .int .i64 ((cx:Nat)):=hf2 2 rfl;have s29_e3:cu w8 (e3 29) n cx Sf_1.M b:=hf2 6 rfl;refine RL.p rfl rfl (cz.build (vs:= [(0,.int .i64 ((n:Nat))),(1,.int .i64 ((cx:Nat))),(2,(e3 29))]) [(0,1),(1,1),(2,1)] ga bE (ff s23_e3 s25_e3 rfl) (qc s29_e3)) ?_;refine RL.x rfl rfl (dv.store [.int .i64 ((n:Nat)),.int .i64 ((cx:Nat)),(e3 29)] bO s2_e3 rfl rfl hA2 (Nat.le_of_ble_eq_true rfl) (bP rfl rfl (s29_e3.one))) ?_;rintro _ w9 ⟨hk2,hnew⟩;replace hSa_1:=aA hSa_1 hk2 hA2 (by decide);replace hA3:=hA3.keep hk2 (Ne.symm ne3);replace s29_e3:=aA s29_e3 hk2 hA2 (by decide);replace hX1:=hX1.step hk2 (fun b e=>by subst e;exact hbs2);replace hA2:=hnew.lit [.int .i64 ((n:Nat)),.int .i64 ((cx:Nat)),(e3 29)] rfl;clear hnew;refine RL.nil ?_;refine WP.ret ?_;refine ⟨.agg #[.int .i64 ((n:Nat)),.int .i64 ((cx:Nat)),(e3 29)],yL.one (ai [.int .i64 ((n:Nat)),.int .i64 ((cx:Nat)),(e3 29)] aT s2_e3 (hA2.cells 0 _ rfl rfl)),_,rfl,hX1,?_⟩;dsimp only;have hnk:n=kf_1:=by
    rcases Nat.lt_or_ge n kf_1 with h | h
    · exact absurd ⟨by omega,hHf_1.some h⟩ c20
    · omega
  exact ⟨kf_1,Sf_1,hHf_1,hnk▸(bo.mk s29_e3 (by omega) (by omega))⟩
set_option maxRecDepth 10000 in
theorem wU (w:World) (x:Value) (rx cx:Nat) (Mx:Nat→Nat→Int) (btx:Nat) (k:Nat) (hx:bo w x rx cx Mx btx) (hk:k≤rx) (h1:∀i,i<k→0≤piv (Mx i) cx) (h2:∀i,k≤i→i<rx→¬0≤piv (Mx i) cx):Calls Tryz.prog 47 #[x] w (cg w fun v w'=>v= .int .i64 (k:Nat)):=by
 have hLIM:bl=562949953421312:=rfl;have hmatx:=hx;obtain ⟨sx,rfl,hrx,hcx,hSx⟩:=hx.form;refine ak (N:=20) (rs:= #[.tmp 2]) Tryz.func47 rfl rfl rfl (Nat.le_of_ble_eq_true rfl) ?_;have hX:aQ w w:=aQ.refl w;refine ad ?_;refine RL.x rfl rfl (dv.box [.int .i64 ((rx:Nat)),.int .i64 ((cx:Nat)),sx] rfl rfl) ?_;rintro _ w1 ⟨g1,rfl,hge1,hx1,hA1⟩;have hbs1:w.heap.size≤g1:=Nat.le_trans hX.size hge1;replace hX:=aQ.trans hX hx1;refine RL.p rfl rfl (cz.assign rfl) ?_;refine RL.nil ?_;refine ad ?_;refine RL.p rfl rfl (cz.assign rfl) ?_;refine RL.nil ?_;refine WP.seq ?_;refine WP.block ?_;refine WP.loop (fun mz ez uz=>∃n:Nat,(mz=k - n)∧(ez 1= .pointer (some ⟨g1,0,none⟩))∧(ez 2= .int .i64 (0))∧(ez 3= .int .i64 ((n:Nat)))∧(n≤k)∧(aQ w uz)∧(aX uz g1 28 3 (bG [.int .i64 ((rx:Nat)),.int .i64 ((cx:Nat)),sx]))) (k - 0) ?_ ?_
 · exact ⟨0,rfl,rfl,rfl,rfl,(by omega),hX,hA1⟩
 rintro m1 e1 w2 ⟨n,hm1,s1_e1,s2_e1,s3_e1,hn,hX1,hA1⟩;refine WP.seq ?_;refine ay aq 13 [fun v zq=>v= .int .i64 ((n:Nat)),fun v zq=>v= .pointer (some ⟨g1,0,none⟩),fun v zq=>v= .int .i64 ((rx:Nat)),fun v zq=>v= .bool (decide (((n:Nat):Int)<((rx:Nat):Int))),fun v zq=>v= .bool (decide (((n:Nat):Int)<((rx:Nat):Int))),fun v zq=>(((n:Nat):Int)<((rx:Nat):Int))→(v= .pointer (some ⟨g1,2,none⟩)),fun v zq=>(((n:Nat):Int)<((rx:Nat):Int))→(v=sx),fun v zq=>(((n:Nat):Int)<((rx:Nat):Int))→(v= .int .i64 ((n:Nat))),fun v zq=>(((n:Nat):Int)<((rx:Nat):Int))→(ec zq v cx (Mx n) btx),fun v zq=>(((n:Nat):Int)<((rx:Nat):Int))→(ci zq v cx (Mx n) btx),fun v zq=>(((n:Nat):Int)<((rx:Nat):Int))→(v= .bool (decide (¬0≤piv (Mx n) cx))),fun v zq=>(((n:Nat):Int)<((rx:Nat):Int))→(v= .bool (decide (¬(¬0≤piv (Mx n) cx)))),fun v zq=>v= .bool (decide ((((n:Nat):Int)<((rx:Nat):Int))∧(¬(¬0≤piv (Mx n) cx))))] rfl rfl ⟨aa _,aa _,aa _,aa _,aa _,dG.imp (aa _),dG.imp (aa _),dG.imp (aa _),dG.imp (dA _ _ _),dG.imp (dz _ _ _),dG.imp (aa _),dG.imp (aa _),aa _,trivial⟩ ⟨fun e_ w_ zp zo zn=>ab (cz.move (((zo 3 rfl).trans s3_e1))),fun e_ w_ zp zo zn=>ab (cz.fieldAddr bj (((zo 1 rfl).trans s1_e1))),fun e_ w_ zp zo zn=>ab (cz.load bT ((zn 1 rfl)) ((aX.ext hA1 zp).at_ (i:=0) rfl rfl)),fun e_ w_ zp zo zn=>ab (cz.lss ((zn 0 rfl)) ((zn 2 rfl))),fun e_ w_ zp zo zn=>ab (cz.move ((zn 3 rfl))),fun e_ w_ zp zo zn=>am (p:=((n:Nat):Int)<((rx:Nat):Int)) (zn 4 rfl) (fun hg=>dv.imp (p:=((n:Nat):Int)<((rx:Nat):Int)) (φ:=fun v zq=>v= .pointer (some ⟨g1,2,none⟩)) (ab (cz.fieldAddr av (((zo 1 rfl).trans s1_e1))))) (fun hn=>(fun hg=>absurd hg hn)),fun e_ w_ zp zo zn=>am (p:=((n:Nat):Int)<((rx:Nat):Int)) (zn 4 rfl) (fun hg=>dv.imp (p:=((n:Nat):Int)<((rx:Nat):Int)) (φ:=fun v zq=>v=sx) (ab (cz.load aR ((zn 5 rfl hg)) ((aX.ext hA1 zp).at_ (i:=2) rfl rfl)))) (fun hn=>(fun hg=>absurd hg hn)),fun e_ w_ zp zo zn=>am (p:=((n:Nat):Int)<((rx:Nat):Int)) (zn 4 rfl) (fun hg=>dv.imp (p:=((n:Nat):Int)<((rx:Nat):Int)) (φ:=fun v zq=>v= .int .i64 ((n:Nat))) (ab (cz.move (((zo 3 rfl).trans s3_e1))))) (fun hn=>(fun hg=>absurd hg hn)),fun e_ w_ zp zo zn=>am (p:=((n:Nat):Int)<((rx:Nat):Int)) (zn 4 rfl) (fun hg=>dv.imp (p:=((n:Nat):Int)<((rx:Nat):Int)) (φ:=fun v zq=>ec zq v cx (Mx n) btx) (aj (φ:=fun v zq=>ec zq v cx (Mx n) btx) (bL (j:=n) aK (zn 6 rfl hg) (cu.ext (cu.ext hSx hX1) zp) (zn 7 rfl hg) (by omega) (by omega)))) (fun hn=>(fun hg=>absurd hg hn)),fun e_ w_ zp zo zn=>am (p:=((n:Nat):Int)<((rx:Nat):Int)) (zn 4 rfl) (fun hg=>dv.imp (p:=((n:Nat):Int)<((rx:Nat):Int)) (φ:=fun v zq=>ci zq v cx (Mx n) btx) (aj (φ:=fun v zq=>ci zq v cx (Mx n) btx) (bW bc rfl (zn 8 rfl hg)))) (fun hn=>(fun hg=>absurd hg hn)),fun e_ w_ zp zo zn=>am (p:=((n:Nat):Int)<((rx:Nat):Int)) (zn 4 rfl) (fun hg=>dv.imp (p:=((n:Nat):Int)<((rx:Nat):Int)) (φ:=fun v zq=>v= .bool (decide (¬0≤piv (Mx n) cx))) (dv.call xR (aJ rfl) (wS _ _ _ _ _ (zn 9 rfl hg)))) (fun hn=>(fun hg=>absurd hg hn)),fun e_ w_ zp zo zn=>am (p:=((n:Nat):Int)<((rx:Nat):Int)) (zn 4 rfl) (fun hg=>dv.imp (p:=((n:Nat):Int)<((rx:Nat):Int)) (φ:=fun v zq=>v= .bool (decide (¬(¬0≤piv (Mx n) cx)))) (ab (cz.not (p:=¬0≤piv (Mx n) cx) (zn 10 rfl hg)))) (fun hn=>(fun hg=>absurd hg hn)),fun e_ w_ zp zo zn=>ab (aG (p:=((n:Nat):Int)<((rx:Nat):Int)) (q:=¬(¬0≤piv (Mx n) cx)) (zn 4 rfl) (fun hq=>(zn 11 rfl hq))),trivial⟩ ?_;intro e2 w3 hx2 ho1 hf1;replace hA1:=aX.ext hA1 hx2;replace hX1:=aQ.trans hX1 hx2;have s1_e2:e2 1= .pointer (some ⟨g1,0,none⟩):=(ho1 1 rfl).trans s1_e1;have s2_e2:e2 2= .int .i64 (0):=(ho1 2 rfl).trans s2_e1;have s3_e2:e2 3= .int .i64 ((n:Nat)):=(ho1 3 rfl).trans s3_e1;have s16_e2:e2 16= .bool (decide ((((n:Nat):Int)<((rx:Nat):Int))∧(¬(¬0≤piv (Mx n) cx)))):=hf1 12 rfl;refine RL.nil ?_;refine ag ((((n:Nat):Int)<((rx:Nat):Int))∧(¬(¬0≤piv (Mx n) cx))) s16_e2 (fun c16=> ?_) (fun c16=> ?_)
 ·
  refine WP.skip ?_;refine pi.norm ?_;refine WP.block ?_;refine WP.region ?_;refine RL.p rfl rfl (cz.move s3_e2) ?_;refine RL.p rfl rfl (cz.add (c:=((n + 1:Nat):Int)) rfl rfl (bN (by omega))) ?_;refine RL.p rfl rfl (cz.assign rfl) ?_;refine RL.nil ?_;refine iS.norm ?_;have hnk:n<k:=by
    rcases Nat.lt_or_ge n k with h | h
    · exact h
    · exact absurd c16.2 (fun hh=>hh (h2 n h (by omega)))
  refine pi.norm ⟨_,(by omega),n + 1,rfl,s1_e2,s2_e2,rfl,(by omega),hX1,hA1⟩
 ·
  refine WP.exit ?_;refine pi.exit ?_;refine pi.exit ?_;refine iS.same ?_;refine pi.norm ?_;refine ad ?_;refine RL.p rfl rfl (cz.move s3_e2) ?_;refine RL.p rfl rfl (cz.assign rfl) ?_;refine RL.nil ?_;refine WP.ret ?_;refine ⟨.int .i64 ((n:Nat)),yL.one (fR.tmp rfl),_,rfl,hX1,?_⟩;dsimp only;have hnk:n=k:=by
    rcases Nat.lt_or_ge n k with h | h
    · exact absurd ⟨by omega,fun hh=>hh (h1 n h)⟩ c16
    · omega
  rw [hnk]
set_option maxRecDepth 10000 in
theorem sH (w:World) (x:Value) (rx cx:Nat) (Mx:Nat→Nat→Int) (btx:Nat) (i:Nat) (j:Nat) (hx:bo w x rx cx Mx btx) (hij:i≤j) (hj:j≤rx):Calls Tryz.prog 42 #[x,.int .i64 (i:Nat),.int .i64 (j:Nat)] w (cg w fun v w'=>bo w' v (j - i) cx (fun a=>Mx (i + a)) btx):=by
 have hLIM:bl=562949953421312:=rfl;have hmatx:=hx;obtain ⟨sx,rfl,hrx,hcx,hSx⟩:=hx.form;refine ak (N:=19) (rs:= #[.cell 6 28]) Tryz.func42 rfl rfl rfl (Nat.le_of_ble_eq_true rfl) ?_;have hX:aQ w w:=aQ.refl w;refine ad ?_;refine RL.x rfl rfl (dv.box [.int .i64 ((rx:Nat)),.int .i64 ((cx:Nat)),sx] rfl rfl) ?_;rintro _ w1 ⟨g1,rfl,hge1,hx1,hA1⟩;have hbs1:w.heap.size≤g1:=Nat.le_trans hX.size hge1;replace hX:=aQ.trans hX hx1;refine RL.x rfl rfl (dv.alloc [.int .i64 (0),.int .i64 (0),.slice (none) (0) (0)] bE rfl) ?_;rintro _ w2 ⟨g2,rfl,hge2,hx2,hA2⟩;have ne1:g1≠g2:=Nat.ne_of_lt (Nat.lt_of_lt_of_le hA1.lt hge2);have hbs2:w.heap.size≤g2:=Nat.le_trans hX.size hge2;replace hA1:=aX.ext hA1 hx2;replace hX:=aQ.trans hX hx2;refine RL.nil ?_;refine ay aq 11 [fun v zq=>v= .int .i64 ((j:Nat)),fun v zq=>v= .int .i64 ((i:Nat)),fun v zq=>v= .int .i64 (((j - i:Nat):Int)),fun v zq=>v= .pointer (some ⟨g1,1,none⟩),fun v zq=>v= .int .i64 ((cx:Nat)),fun v zq=>v= .pointer (some ⟨g1,2,none⟩),fun v zq=>v=sx,fun v zq=>v= .int .i64 ((i:Nat)),fun v zq=>v= .int .i64 ((j:Nat)),fun v zq=>v= .int .i64 ((j:Nat)),fun v zq=>cu zq v (j - i) cx ((fun a=>Mx (i + a))) btx] rfl rfl ⟨aa _,aa _,aa _,aa _,aa _,aa _,aa _,aa _,aa _,aa _,gL _ _ _ _,trivial⟩ ⟨fun e_ w_ zp zo zn=>ab (cz.move (((zo 2 rfl).trans rfl))),fun e_ w_ zp zo zn=>ab (cz.move (((zo 1 rfl).trans rfl))),fun e_ w_ zp zo zn=>ab (cz.sub (c:=((j - i:Nat):Int)) ((zn 0 rfl)) ((zn 1 rfl)) (bN (by omega))),fun e_ w_ zp zo zn=>ab (cz.fieldAddr bF (((zo 3 rfl).trans rfl))),fun e_ w_ zp zo zn=>ab (cz.load bT ((zn 3 rfl)) ((aX.ext hA1 zp).at_ (i:=1) rfl rfl)),fun e_ w_ zp zo zn=>ab (cz.fieldAddr av (((zo 3 rfl).trans rfl))),fun e_ w_ zp zo zn=>ab (cz.load aR ((zn 5 rfl)) ((aX.ext hA1 zp).at_ (i:=2) rfl rfl)),fun e_ w_ zp zo zn=>ab (cz.move (((zo 1 rfl).trans rfl))),fun e_ w_ zp zo zn=>ab (cz.move (((zo 2 rfl).trans rfl))),fun e_ w_ zp zo zn=>ab (cz.move (((zo 2 rfl).trans rfl))),fun e_ w_ zp zo zn=>aj (φ:=fun v zq=>cu zq v (j - i) cx ((fun a=>Mx (i + a))) btx) (jE (j:=i) (l:=j) aK (zn 6 rfl) (cu.ext (cu.ext hSx hX) zp) (zn 7 rfl) (zn 8 rfl) (zn 9 rfl) (by omega) (by omega) (by omega) (by omega) (by omega)),trivial⟩ ?_;intro e1 w3 hx3 ho1 hf1;replace hA1:=aX.ext hA1 hx3;replace hA2:=aX.ext hA2 hx3;replace hX:=aQ.trans hX hx3;have s6_e1:e1 6= .pointer (some ⟨g2,0,none⟩):=(ho1 6 rfl).trans rfl;have s9_e1:e1 9= .int .i64 (((j - i:Nat):Int)):=hf1 2 rfl;have s11_e1:e1 11= .int .i64 ((cx:Nat)):=hf1 4 rfl;have s17_e1:cu w3 (e1 17) (j - i) cx ((fun a=>Mx (i + a))) btx:=hf1 10 rfl;refine RL.p rfl rfl (cz.build (vs:= [(0,.int .i64 (((j - i:Nat):Int))),(1,.int .i64 ((cx:Nat))),(2,(e1 17))]) [(0,1),(1,1),(2,1)] ga bE (ff s9_e1 s11_e1 rfl) (qc s17_e1)) ?_;refine RL.x rfl rfl (dv.store [.int .i64 (((j - i:Nat):Int)),.int .i64 ((cx:Nat)),(e1 17)] bO s6_e1 rfl rfl hA2 (Nat.le_of_ble_eq_true rfl) (bP rfl rfl (s17_e1.one))) ?_;rintro _ w4 ⟨hk1,hnew⟩;replace hA1:=hA1.keep hk1 ne1;replace s17_e1:=aA s17_e1 hk1 hA2 (by decide);replace hX:=hX.step hk1 (fun b e=>by subst e;exact hbs2);replace hA2:=hnew.lit [.int .i64 (((j - i:Nat):Int)),.int .i64 ((cx:Nat)),(e1 17)] rfl;clear hnew;refine RL.nil ?_;refine WP.ret ?_;refine ⟨.agg #[.int .i64 (((j - i:Nat):Int)),.int .i64 ((cx:Nat)),(e1 17)],yL.one (ai [.int .i64 (((j - i:Nat):Int)),.int .i64 ((cx:Nat)),(e1 17)] aT s6_e1 (hA2.cells 0 _ rfl rfl)),_,rfl,hX,?_⟩;dsimp only;exact (bo.mk s17_e1 (by omega) (by omega))
set_option maxRecDepth 10000 in
theorem wV (w:World) (x:Value) (rx cx:Nat) (Mx:Nat→Nat→Int) (btx:Nat) (e0 b:Nat) (hx:bo w x rx cx Mx btx) (h8:rx≤8) (hM:∀i j,i<rx→j<cx→(Mx i j).natAbs≤2^e0) (hb:bB e0 rx≤b) (hb1:1 + e0≤b) (hl:2*b + 4≤bl):Calls Tryz.prog 13 #[x] w (cg w fun v w'=>∃k S k2 S2,Herm rx cx e0 Mx k S∧Herm (rx - k) rx (eB e0 k) (fun i=>S.U (k + i)) k2 S2∧bo w' v k2 rx S2.M b):=by
 have hLIM:bl=562949953421312:=rfl;have hmatx:=hx;obtain ⟨sx,rfl,hrx,hcx,hSx⟩:=hx.form;refine ak (N:=15) (rs:= #[.cell 2 28]) Tryz.func13 rfl rfl rfl (Nat.le_of_ble_eq_true rfl) ?_;have hX:aQ w w:=aQ.refl w;refine ad ?_;refine RL.x rfl rfl (dv.box [.int .i64 ((rx:Nat)),.int .i64 ((cx:Nat)),sx] rfl rfl) ?_;rintro _ w1 ⟨g1,rfl,hge1,hx1,hA1⟩;have hbs1:w.heap.size≤g1:=Nat.le_trans hX.size hge1;replace hX:=aQ.trans hX hx1;refine RL.x rfl rfl (dv.alloc [.int .i64 (0),.int .i64 (0),.slice (none) (0) (0)] bE rfl) ?_;rintro _ w2 ⟨g2,rfl,hge2,hx2,hA2⟩;have ne1:g1≠g2:=Nat.ne_of_lt (Nat.lt_of_lt_of_le hA1.lt hge2);have hbs2:w.heap.size≤g2:=Nat.le_trans hX.size hge2;replace hA1:=aX.ext hA1 hx2;replace hX:=aQ.trans hX hx2;refine RL.nil ?_;refine ad ?_;refine RL.p rfl rfl (af [.int .i64 ((rx:Nat)),.int .i64 ((cx:Nat)),sx] aT rfl (hA1.cells 0 _ rfl rfl)) ?_;refine RL.x rfl rfl (dv.call ro (aJ rfl) (mE _ _ rx cx Mx _ e0 b (bo.mk (cu.ext hSx hX) (by omega) (by omega)) h8 hM hb hb1 hl)) ?_;rintro _ w3 ⟨hx3,kf_1,Sf_1,hHf_1,sa_1,sb_1,sc_1,rfl,hdr_1,hdc_1,hSa_1,hSb_1,hSc_1⟩;replace hA1:=aX.ext hA1 hx3;replace hA2:=aX.ext hA2 hx3;replace hX:=aQ.trans hX hx3;refine RL.x rfl rfl (dv.alloc [.int .i64 (0),.int .i64 (0),.slice (none) (0) (0),.int .i64 (0),.int .i64 (0),.slice (none) (0) (0),.int .i64 (0),.int .i64 (0),.slice (none) (0) (0)] jr rfl) ?_;rintro _ w4 ⟨g3,rfl,hge3,hx4,hA3⟩;have ne2:g1≠g3:=Nat.ne_of_lt (Nat.lt_of_lt_of_le hA1.lt hge3);have ne3:g2≠g3:=Nat.ne_of_lt (Nat.lt_of_lt_of_le hA2.lt hge3);have hbs3:w.heap.size≤g3:=Nat.le_trans hX.size hge3;replace hA1:=aX.ext hA1 hx4;replace hA2:=aX.ext hA2 hx4;replace hSa_1:=cu.ext hSa_1 hx4;replace hSb_1:=cu.ext hSb_1 hx4;replace hSc_1:=cu.ext hSc_1 hx4;replace hX:=aQ.trans hX hx4;refine RL.x rfl rfl (dv.store [.int .i64 ((rx:Nat)),.int .i64 ((cx:Nat)),sa_1,.int .i64 ((rx:Nat)),.int .i64 ((rx:Nat)),sb_1,.int .i64 ((rx:Nat)),.int .i64 ((rx:Nat)),sc_1] lB rfl rfl rfl hA3 (Nat.le_of_ble_eq_true rfl) (lK rfl rfl (hSa_1.one) rfl rfl (hSb_1.one) rfl rfl (hSc_1.one))) ?_;rintro _ w5 ⟨hk1,hnew⟩;replace hA1:=hA1.keep hk1 ne2;replace hA2:=hA2.keep hk1 ne3;replace hSa_1:=aA hSa_1 hk1 hA3 (by decide);replace hSb_1:=aA hSb_1 hk1 hA3 (by decide);replace hSc_1:=aA hSc_1 hk1 hA3 (by decide);replace hX:=hX.step hk1 (fun b e=>by subst e;exact hbs3);replace hA3:=hnew.lit [.int .i64 ((rx:Nat)),.int .i64 ((cx:Nat)),sa_1,.int .i64 ((rx:Nat)),.int .i64 ((rx:Nat)),sb_1,.int .i64 ((rx:Nat)),.int .i64 ((rx:Nat)),sc_1] rfl;clear hnew;refine RL.nil ?_;have hkr:=hHf_1.kr;have hba:=xf e0 hkr;have hez:=uP e0 kf_1;have hbu:∀i j,i<rx - kf_1→j<rx→(Sf_1.U (kf_1 + i) j).natAbs≤2^eB e0 kf_1:=fun i j hi hj=>hHf_1.bu (kf_1 + i) j (by omega) hj
 have hbE:1 + eB e0 kf_1≤b:=by have h1:=gO e0 hkr;have h2:=hb;unfold bB at h2;omega
 refine ay aq 8 [fun v zq=>v= .pointer (some ⟨g3,3,none⟩),fun v zq=>v= .agg #[.int .i64 ((rx:Nat)),.int .i64 ((rx:Nat)),sb_1],fun v zq=>v= .pointer (some ⟨g3,0,none⟩),fun v zq=>v= .agg #[.int .i64 ((rx:Nat)),.int .i64 ((cx:Nat)),sa_1],fun v zq=>v= .int .i64 ((kf_1:Nat)),fun v zq=>v= .pointer (some ⟨g1,0,none⟩),fun v zq=>v= .int .i64 ((rx:Nat)),fun v zq=>bo zq v (rx - kf_1) rx ((fun a=>Sf_1.U (kf_1 + a))) b] rfl rfl ⟨aa _,aa _,aa _,aa _,aa _,aa _,aa _,gK _ _ _ _,trivial⟩ ⟨fun e_ w_ zp zo zn=>ab (cz.fieldAddr pv (((zo 3 rfl).trans rfl))),fun e_ w_ zp zo zn=>ab (af [.int .i64 ((rx:Nat)),.int .i64 ((rx:Nat)),sb_1] aT ((zn 0 rfl)) ((aX.ext hA3 zp).cells 3 _ rfl rfl)),fun e_ w_ zp zo zn=>ab (cz.fieldAddr gz (((zo 3 rfl).trans rfl))),fun e_ w_ zp zo zn=>ab (af [.int .i64 ((rx:Nat)),.int .i64 ((cx:Nat)),sa_1] aT ((zn 2 rfl)) ((aX.ext hA3 zp).cells 0 _ rfl rfl)),fun e_ w_ zp zo zn=>dv.call yd (aJ ((zn 3 rfl))) (wU _ _ _ _ _ _ kf_1 (bo.mk (cu.ext hSa_1 zp) (by omega) (by omega)) hHf_1.kr (fun i hi=>hHf_1.some hi) (fun i hi hr=>hHf_1.none hi hr)),fun e_ w_ zp zo zn=>ab (cz.fieldAddr bj (((zo 1 rfl).trans rfl))),fun e_ w_ zp zo zn=>ab (cz.load bT ((zn 5 rfl)) ((aX.ext hA1 zp).at_ (i:=0) rfl rfl)),fun e_ w_ zp zo zn=>dv.call vK (cT ((zn 1 rfl)) ((zn 4 rfl)) ((zn 6 rfl))) (sH _ _ _ _ _ _ kf_1 rx (bo.mk (cu.ext hSb_1 zp) (by omega) (by omega)) (by omega) (by omega)),trivial⟩ ?_;intro e1 w6 hx5 ho1 hf1;replace hA1:=aX.ext hA1 hx5;replace hA2:=aX.ext hA2 hx5;replace hSa_1:=cu.ext hSa_1 hx5;replace hSb_1:=cu.ext hSb_1 hx5;replace hSc_1:=cu.ext hSc_1 hx5;replace hA3:=aX.ext hA3 hx5;replace hX:=aQ.trans hX hx5;have s2_e1:e1 2= .pointer (some ⟨g2,0,none⟩):=(ho1 2 rfl).trans rfl;have s13_e1:bo w6 (e1 13) (rx - kf_1) rx ((fun a=>Sf_1.U (kf_1 + a))) b:=hf1 7 rfl;refine RL.x rfl rfl (dv.call vI (aJ rfl) (pX _ _ (rx - kf_1) rx (fun a=>Sf_1.U (kf_1 + a)) _ (eB e0 kf_1) b s13_e1 (by omega) hbu (Nat.le_trans hba hb) hbE hl)) ?_;rintro v1 w7 ⟨hx6,kf_2,Sf_2,hHf_2,q1⟩;replace hA1:=aX.ext hA1 hx6;replace hA2:=aX.ext hA2 hx6;replace hSa_1:=cu.ext hSa_1 hx6;replace hSb_1:=cu.ext hSb_1 hx6;replace hSc_1:=cu.ext hSc_1 hx6;replace hA3:=aX.ext hA3 hx6;replace s13_e1:=bo.ext s13_e1 hx6;replace hX:=aQ.trans hX hx6;obtain ⟨sv1,hq1,hr1,hc1,hS1⟩:=q1.form;refine RL.x rfl rfl (dv.store [.int .i64 ((kf_2:Nat)),.int .i64 ((rx:Nat)),sv1] bO s2_e1 hq1 rfl hA2 (Nat.le_of_ble_eq_true rfl) (bP rfl rfl hS1.one)) ?_;rintro _ w8 ⟨hk2,hnew⟩;replace hA1:=hA1.keep hk2 ne1;replace hSa_1:=aA hSa_1 hk2 hA2 (by decide);replace hSb_1:=aA hSb_1 hk2 hA2 (by decide);replace hSc_1:=aA hSc_1 hk2 hA2 (by decide);replace hA3:=hA3.keep hk2 (Ne.symm ne3);replace s13_e1:=cS s13_e1 hk2 hA2 (by decide);replace q1:=cS q1 hk2 hA2 (by decide);replace hS1:=aA hS1 hk2 hA2 (by decide);replace hX:=hX.step hk2 (fun b e=>by subst e;exact hbs2);replace hA2:=hnew.lit [.int .i64 ((kf_2:Nat)),.int .i64 ((rx:Nat)),sv1] rfl;clear hnew;refine RL.nil ?_;refine WP.ret ?_;refine ⟨.agg #[.int .i64 ((kf_2:Nat)),.int .i64 ((rx:Nat)),sv1],yL.one (ai [.int .i64 ((kf_2:Nat)),.int .i64 ((rx:Nat)),sv1] aT s2_e1 (hA2.cells 0 _ rfl rfl)),_,rfl,hX,?_⟩;dsimp only;exact ⟨kf_1,Sf_1,kf_2,Sf_2,hHf_1,hHf_2,(bo.mk hS1 (by omega) (by omega))⟩
end Go.TL
namespace Go.TL
open Go.RowKit Go.Proofs
set_option linter.unusedVariables false
def fX (M:Nat→Nat→Int):Nat→Nat→Int:=fun i j=>M j i
def fT (r c e0:Nat) (M0:Nat→Nat→Int) (k:Nat) (M:Nat→Nat→Int):Prop:=
  ∃k1 S1 S2,Herm r c e0 M0 k1 S1∧Herm (r - k1) r (eB e0 k1) (fun i=>S1.U (k1 + i)) k S2∧M=S2.M
theorem fT.bd {r c e0 k:Nat} {M0 M:Nat→Nat→Int} (h:fT r c e0 M0 k M) {i j:Nat} (hi:i<k) (hj:j<r):(M i j).natAbs≤2^eB e0 r:=by
  obtain ⟨k1,S1,S2,h1,h2,rfl⟩:=h;have g1:=h2.kr;have g2:=h1.kr;refine Nat.le_trans (h2.bm i j (by omega) hj) (Nat.pow_le_pow_right (by omega) ?_);rw [mI];exact gO e0 (by omega)
theorem fT.kr {r c e0 k:Nat} {M0 M:Nat→Nat→Int} (h:fT r c e0 M0 k M):k≤r:=by
  obtain ⟨k1,S1,S2,h1,h2,rfl⟩:=h;have g1:=h2.kr;omega
theorem gN (w:World) (x:Value) (rx cx:Nat) (Mx:Nat→Nat→Int) (btx e0 b:Nat) (hx:bo w x rx cx Mx btx) (h8:rx≤8) (hM:∀i j,i<rx→j<cx→(Mx i j).natAbs≤2^e0) (hb:bB e0 rx≤b) (hb1:1 + e0≤b) (hl:2*b + 4≤bl):
    Calls Tryz.prog 13 #[x] w (cg w fun v w'=>∃k M,fT rx cx e0 Mx k M∧bo w' v k rx M b):=
  (wV w x rx cx Mx btx e0 b hx h8 hM hb hb1 hl).mono fun _ _ ⟨v,h1,h2,k,S,k2,S2,h3,h4,h5⟩=>⟨v,h1,h2,k2,S2.M,⟨k,S,S2,h3,h4,rfl⟩,h5⟩
def iO (r c e0:Nat) (M0:Nat→Nat→Int) (k:Nat) (M:Nat→Nat→Int):Prop:=∃k1 K1,fT c r e0 (fX M0) k1 K1∧fT c k1 (eB e0 c) (fX K1) k M
theorem iO.bd {r c e0 k:Nat} {M0 M:Nat→Nat→Int} (h:iO r c e0 M0 k M) {i j:Nat} (hi:i<k) (hj:j<c):(M i j).natAbs≤2^eB (eB e0 c) c:=by
  obtain ⟨k1,K1,h1,h2⟩:=h;exact h2.bd hi hj
end Go.TL
namespace Go.TL
open Go.RowKit Go.Proofs
set_option linter.unusedVariables false
set_option linter.unusedSimpArgs false
set_option maxRecDepth 10000 in
theorem nP (w:World) (x:Value) (rx cx:Nat) (Mx:Nat→Nat→Int) (btx:Nat) (n gs:Nat) (fs:Nat→Value) (S:Nat→Prop) (A:Nat→Nat→Nat→(Nat→Nat→Int)→Nat→Prop) (D:Nat→World→Prop) (hx:bo w x rx cx Mx btx) (hn:n≤65536) (hfs:aX w gs 30 n fs) (hS:∀k,S k→k<w.heap.size) (hgs:¬S gs) (hA0:A 0 rx cx Mx btx) (hD0:D 0 w) (hDE:∀i w1 w2,D i w1→aQ w1 w2→D i w2) (hDx:∀i w1 w2 g m f,D i w1→Keeps (fun k=>k=g) w1 w2→w.heap.size≤g→aX w1 g 28 m f→D i w2) (hstep:∀i,i<n→∀w1,Keeps S w w1→∀v r c M b,A i r c M b→D i w1→bo w1 v c r (fun i j=>M j i) b→∃fid vs us,fs i= .func (.func fid) vs us∧aE Tryz.prog fid=true∧Calls Tryz.prog fid (vs ++ #[v] ++ us) w1 (iP S w1 fun v2 w2=>∃r2 c2 M2 b2,A (i + 1) r2 c2 M2 b2∧bo w2 v2 r2 c2 M2 b2∧D (i + 1) w2)):Calls Tryz.prog 37 #[x,.slice (some ⟨gs,0,none⟩) n n] w (iP S w fun v w'=>∃r c M b,A n r c M b∧bo w' v r c M b∧D n w'):=by
 have hLIM:bl=562949953421312:=rfl;have hmatx:=hx;obtain ⟨sx,rfl,hrx,hcx,hSx⟩:=hx.form;refine ak (N:=19) (rs:= #[.cell 4 28]) Tryz.func37 rfl rfl rfl (Nat.le_of_ble_eq_true rfl) ?_;have hX:Keeps (S) w w:=Keeps.refl _ w;have hD:=hD0;refine ad ?_;refine RL.x rfl rfl (dv.box [.int .i64 ((rx:Nat)),.int .i64 ((cx:Nat)),sx] rfl rfl) ?_;rintro _ w1 ⟨g1,rfl,hge1,hx1,hA1⟩;have ne1:gs≠g1:=Nat.ne_of_lt (Nat.lt_of_lt_of_le hfs.lt hge1);have hbs1:w.heap.size≤g1:=Nat.le_trans hX.size hge1;replace hSx:=cu.ext hSx hx1;replace hfs:=aX.ext hfs hx1;replace hD:=hDE _ _ _ hD hx1;replace hX:=aI hX hx1;refine RL.x rfl rfl (dv.alloc [.int .i64 (0),.int .i64 (0),.slice (none) (0) (0)] bE rfl) ?_;rintro _ w2 ⟨g2,rfl,hge2,hx2,hA2⟩;have ne2:gs≠g2:=Nat.ne_of_lt (Nat.lt_of_lt_of_le hfs.lt hge2);have ne3:g1≠g2:=Nat.ne_of_lt (Nat.lt_of_lt_of_le hA1.lt hge2);have hbs2:w.heap.size≤g2:=Nat.le_trans hX.size hge2;replace hSx:=cu.ext hSx hx2;replace hfs:=aX.ext hfs hx2;replace hD:=hDE _ _ _ hD hx2;replace hA1:=aX.ext hA1 hx2;replace hX:=aI hX hx2;refine RL.nil ?_;refine WP.seq ?_;refine ad ?_;refine RL.p rfl rfl (cz.move rfl) ?_;refine RL.p rfl rfl (cz.len pt rfl) ?_;refine RL.p rfl rfl (cz.move rfl) ?_;refine RL.nil ?_;refine WP.block ?_;refine WP.loop (fun mz ez uz=>∃i:Nat,∃r:Nat,∃c:Nat,∃M:Nat→Nat→Int,∃bb:Nat,∃s:Value,(mz=n - i)∧(ez 2= .pointer (some ⟨g1,0,none⟩))∧(ez 4= .pointer (some ⟨g2,0,none⟩))∧(ez 7= .slice (some ⟨gs,0,none⟩) (n) (n))∧(ez 8= .int .i64 ((n:Nat)))∧(ez 9= .int .i64 ((i:Nat)))∧(i≤n)∧(A i r c M bb)∧(r≤65536∧c≤65536)∧(Keeps (S) w uz)∧(cu uz s r c M bb)∧(aX uz gs 30 n fs)∧(D i uz)∧(aX uz g1 28 3 (bG [.int .i64 ((r:Nat)),.int .i64 ((c:Nat)),s]))∧(aX uz g2 28 3 (bG [.int .i64 (0),.int .i64 (0),.slice (none) (0) (0)]))) (n - 0) ?_ ?_
 · exact ⟨0,_,_,_,_,_,rfl,rfl,rfl,rfl,rfl,rfl,(by omega),hA0,(⟨by omega,by omega⟩),hX,hSx,hfs,hD,hA1,hA2⟩
 rintro m1 e1 w3 ⟨i,r,c,M,bb,s,hm1,s2_e1,s4_e1,s7_e1,s8_e1,s9_e1,hi,hA,hrc,hX1,hSx,hfs,hD,hA1,hA2⟩;have hdim:=hSx.lim;refine ad ?_;refine RL.p rfl rfl (cz.lss s9_e1 s8_e1) ?_;refine RL.nil ?_;refine WP.seq ?_;refine ag (((i:Nat):Int)<((n:Nat):Int)) rfl (fun c10=> ?_) (fun c10=> ?_)
 ·
  refine WP.skip ?_;refine pi.norm ?_;refine WP.seq ?_;refine WP.block ?_;refine ad ?_;refine RL.p rfl rfl (cz.index (j:=i) pt s7_e1 s9_e1 rfl (by omega) (by omega)) ?_;refine RL.p rfl rfl (cz.load xB rfl (aV (hfs.cell (i:=i) (by omega)))) ?_;refine RL.p rfl rfl (cz.assign rfl) ?_;refine RL.nil ?_;refine WP.region ?_;refine RL.p rfl rfl (cz.move rfl) ?_;refine RL.p rfl rfl (af [.int .i64 ((r:Nat)),.int .i64 ((c:Nat)),s] aT s2_e1 (hA1.cells 0 _ rfl rfl)) ?_;have hBw1:w.heap.size≤w3.heap.size:=hX1.size;refine RL.x rfl rfl (dv.call vJ (aJ rfl) (jy _ _ _ _ _ _ (bo.mk hSx (by omega) (by omega)))) ?_;rintro v1 w4 ⟨hx3,q1⟩;replace hSx:=cu.ext hSx hx3;replace hfs:=aX.ext hfs hx3;replace hD:=hDE _ _ _ hD hx3;replace hA1:=aX.ext hA1 hx3;replace hA2:=aX.ext hA2 hx3;replace hX1:=aI hX1 hx3;obtain ⟨fid,fst,cap,hfe,hcb,hcl⟩:=hstep i (by omega) _ hX1 _ _ _ _ _ hA hD (ck.matV q1);refine RL.x rfl rfl (kX hcb (Eq.trans rfl hfe) (congrArg (fun z=>fst ++ z ++ cap) (aJ rfl)) hcl) ?_;rintro v2 w5 ⟨hk1,r2,c2,M2,b2,hAn,q2,hDn⟩;replace hfs:=hfs.keep hk1 hgs;replace hA1:=hA1.keep hk1 (fun h=>by have:=hS _ h;have:=hbs1;omega);replace hA2:=hA2.keep hk1 (fun h=>by have:=hS _ h;have:=hbs2;omega);replace hD:=hDn;replace hX1:=hX1.step hk1 (fun b h=> .inl h);obtain ⟨sv1,hq1,hr1,hc1,hS1⟩:=q2.form;refine RL.x rfl rfl (dv.store [.int .i64 ((r2:Nat)),.int .i64 ((c2:Nat)),sv1] bO s2_e1 hq1 rfl hA1 (Nat.le_of_ble_eq_true rfl) (bP rfl rfl hS1.one)) ?_;rintro _ w6 ⟨hk2,hnew⟩;replace hfs:=hfs.keep hk2 ne1;replace hD:=hDx _ _ _ _ _ _ hD hk2 hbs1 hA1;replace hA2:=hA2.keep hk2 (Ne.symm ne3);replace q2:=cS q2 hk2 hA1 (by decide);replace hS1:=aA hS1 hk2 hA1 (by decide);replace hX1:=hX1.step hk2 (fun b e=>by subst e;exact .inr hbs1);replace hA1:=hnew.lit [.int .i64 ((r2:Nat)),.int .i64 ((c2:Nat)),sv1] rfl;clear hnew;refine RL.nil ?_;refine iS.norm ?_;refine pi.norm ?_;refine WP.region ?_;refine RL.p rfl rfl (cz.add (c:=((i + 1:Nat):Int)) s9_e1 rfl (bN (by omega))) ?_;refine RL.p rfl rfl (cz.move rfl) ?_;refine RL.nil ?_;refine pi.norm ⟨_,(by omega),i + 1,_,_,_,_,_,rfl,s2_e1,s4_e1,s7_e1,s8_e1,rfl,(by omega),hAn,(⟨by omega,by omega⟩),hX1,hS1,hfs,hD,hA1,hA2⟩
 ·
  refine WP.exit ?_;refine pi.exit ?_;refine pi.exit ?_;refine iS.same ?_;refine pi.norm ?_;refine ad ?_;refine RL.p rfl rfl (af [.int .i64 ((r:Nat)),.int .i64 ((c:Nat)),s] aT s2_e1 (hA1.cells 0 _ rfl rfl)) ?_;refine RL.x rfl rfl (dv.store [.int .i64 ((r:Nat)),.int .i64 ((c:Nat)),s] bO s4_e1 rfl rfl hA2 (Nat.le_of_ble_eq_true rfl) (bP rfl rfl (hSx.one))) ?_;rintro _ w7 ⟨hk3,hnew⟩;replace hSx:=aA hSx hk3 hA2 (by decide);replace hfs:=hfs.keep hk3 ne2;replace hD:=hDx _ _ _ _ _ _ hD hk3 hbs2 hA2;replace hA1:=hA1.keep hk3 ne3;replace hX1:=hX1.step hk3 (fun b e=>by subst e;exact .inr hbs2);replace hA2:=hnew.lit [.int .i64 ((r:Nat)),.int .i64 ((c:Nat)),s] rfl;clear hnew;refine RL.nil ?_;refine WP.ret ?_;refine ⟨.agg #[.int .i64 ((r:Nat)),.int .i64 ((c:Nat)),s],yL.one (ai [.int .i64 ((r:Nat)),.int .i64 ((c:Nat)),s] aT s4_e1 (hA2.cells 0 _ rfl rfl)),_,rfl,hX1,?_⟩;dsimp only;have hin:i=n:=by omega
  subst hin;exact ⟨r,c,M,bb,hA,(bo.mk hSx (by omega) (by omega)),hD⟩
end Go.TL
namespace Go.TL
open Go.RowKit Go.Proofs
set_option linter.unusedVariables false
theorem oX (w:World) (x:Value) (rx cx:Nat) (Mx:Nat→Nat→Int) (btx e0 b g:Nat) (hx:bo w x rx cx Mx btx)
    (hfs:aX w g 30 2 (bG [.func (.func 13) #[] #[],.func (.func 13) #[] #[]])) (hcb:aE Tryz.prog 13=true) (h8:cx≤8) (hM:∀i j,i<rx→j<cx→(Mx i j).natAbs≤2^e0)
    (hb:bB e0 cx≤b) (hb1:1 + e0≤b) (hb2:bB (eB e0 cx) cx≤b) (hb3:1 + eB e0 cx≤b) (hl:2*b + 4≤bl):
    Calls Tryz.prog 37 #[x,.slice (some ⟨g,0,none⟩) 2 2] w (cg w fun v w'=>∃k M,iO rx cx e0 Mx k M∧bo w' v k cx M b):=by
  refine (nP w x rx cx Mx btx 2 g _ (fun _=>False) (fun i r c M b'=>match i with | 0=>r=rx∧c=cx∧M=Mx | 1=>c=cx∧b'=b∧fT cx rx e0 (fX Mx) r M | _=>c=cx∧b'=b∧iO rx cx e0 Mx r M) (fun _ _=>True) hx (by decide) hfs (fun _ h=>h.elim) id ⟨rfl,rfl,rfl⟩ trivial (fun _ _ _ _ _=>trivial) (fun _ _ _ _ _ _ _ _ _ _=>trivial) ?_).mono ?_
  · intro i hi w1 hk v r c M b' hA hD hv
    rcases (by omega:i=0∨i=1) with rfl | rfl
    · obtain ⟨rfl,rfl,rfl⟩:=hA
      refine ⟨_,_,_,rfl,hcb,?_⟩;refine (gN w1 v c r (fX M) b' e0 b hv h8 (fun i j hi hj=>hM j i hj hi) hb hb1 hl).mono fun e w2 h=> ?_
      obtain ⟨v2,h1,h2,k,M2,h3,h4⟩:=h;exact ⟨v2,h1,h2.keeps _,k,c,M2,b,⟨rfl,rfl,h3⟩,h4,trivial⟩
    · obtain ⟨rfl,rfl,hL⟩:=hA
      refine ⟨_,_,_,rfl,hcb,?_⟩;refine (gN w1 v c r (fX M) b' (eB e0 c) b' hv h8 (fun i j hi hj=>hL.bd hj hi) hb2 hb3 hl).mono fun e w2 h=> ?_
      obtain ⟨v2,h1,h2,k,M2,h3,h4⟩:=h;exact ⟨v2,h1,h2.keeps _,k,c,M2,b',⟨rfl,rfl,r,M,hL,h3⟩,h4,trivial⟩
  · rintro e w2 ⟨v,h1,h2,r,c,M,b',⟨rfl,rfl,h3⟩,h4,_⟩
    exact ⟨v,h1,h2.ext,r,M,h3,h4⟩
def vt (w:World) (v:Value) (r c e0:Nat) (M0:Nat→Nat→Int) (b:Nat):Prop:=∃k S,Herm r c e0 M0 k S∧bo w v k c S.M b
def lm (w:World) (v:Value) (r c e0:Nat) (M0:Nat→Nat→Int) (b:Nat):Prop:=∃k M,iO r c e0 M0 k M∧bo w v k c M b
def oc (w:World) (v:Value) (r c e0:Nat) (M0:Nat→Nat→Int):Prop:=∃k S k2 M2,Herm r c e0 M0 k S∧iO r c e0 M0 k2 M2∧v= .bool (decide (en k c k2 c S.M M2))
theorem vt.ext {w w':World} {v:Value} {r c e0 b:Nat} {M0:Nat→Nat→Int} (h:vt w v r c e0 M0 b) (hx:aQ w w'):vt w' v r c e0 M0 b:=by obtain ⟨k,S,h1,h2⟩:=h;exact ⟨k,S,h1,h2.ext hx⟩
theorem lm.ext {w w':World} {v:Value} {r c e0 b:Nat} {M0:Nat→Nat→Int} (h:lm w v r c e0 M0 b) (hx:aQ w w'):lm w' v r c e0 M0 b:=by obtain ⟨k,S,h1,h2⟩:=h;exact ⟨k,S,h1,h2.ext hx⟩
theorem oc.ext {w w':World} {v:Value} {r c e0:Nat} {M0:Nat→Nat→Int} (h:oc w v r c e0 M0) (hx:aQ w w'):oc w' v r c e0 M0:=h
theorem qC (r c e0:Nat) (M0:Nat→Nat→Int) (b:Nat):dG (fun v w=>vt w v r c e0 M0 b):=fun _ _ _ h hx=>h.ext hx
theorem jf (r c e0:Nat) (M0:Nat→Nat→Int) (b:Nat):dG (fun v w=>lm w v r c e0 M0 b):=fun _ _ _ h hx=>h.ext hx
theorem oP (r c e0:Nat) (M0:Nat→Nat→Int):dG (fun v w=>oc w v r c e0 M0):=fun _ _ _ h _=>h
def lh (w:World) (g r c:Nat) (S:WS) (b:Nat):Prop:=∃s1 s2 s3,aX w g 64 9 (bG [.int .i64 (r:Nat),.int .i64 (c:Nat),s1,.int .i64 (r:Nat),.int .i64 (r:Nat),s2,.int .i64 (r:Nat),.int .i64 (r:Nat),s3])∧
  (r≤65536∧b≤bl)∧c≤65536∧cu w s1 r c S.M b∧cu w s2 r r S.U b∧cu w s3 r r S.V b
end Go.TL
namespace Go.TL
open Go.RowKit Go.Proofs
set_option linter.unusedVariables false
set_option linter.unusedSimpArgs false
set_option maxRecDepth 10000 in
theorem ic (w:World) (x:Value) (rx cx:Nat) (Mx:Nat→Nat→Int) (btx:Nat) (e0 b:Nat) (hx:bo w x rx cx Mx btx) (h8:cx≤8) (hM:∀i j,i<rx→j<cx→(Mx i j).natAbs≤2^e0) (hb:bB e0 cx≤b) (hb1:1 + e0≤b) (hb2:bB (eB e0 cx) cx≤b) (hb3:1 + eB e0 cx≤b) (hl:2*b + 4≤bl):Calls Tryz.prog 15 #[x] w (cg w fun v w'=>∃k M,iO rx cx e0 Mx k M∧bo w' v k cx M b):=by
 have hLIM:bl=562949953421312:=rfl;have hmatx:=hx;obtain ⟨sx,rfl,hrx,hcx,hSx⟩:=hx.form;refine ak (N:=6) (rs:= #[.cell 2 28]) Tryz.func15 rfl rfl rfl (Nat.le_of_ble_eq_true rfl) ?_;have hX:aQ w w:=aQ.refl w;refine ad ?_;refine RL.x rfl rfl (dv.box [.int .i64 ((rx:Nat)),.int .i64 ((cx:Nat)),sx] rfl rfl) ?_;rintro _ w1 ⟨g1,rfl,hge1,hx1,hA1⟩;have hbs1:w.heap.size≤g1:=Nat.le_trans hX.size hge1;replace hX:=aQ.trans hX hx1;refine RL.x rfl rfl (dv.alloc [.int .i64 (0),.int .i64 (0),.slice (none) (0) (0)] bE rfl) ?_;rintro _ w2 ⟨g2,rfl,hge2,hx2,hA2⟩;have ne1:g1≠g2:=Nat.ne_of_lt (Nat.lt_of_lt_of_le hA1.lt hge2);have hbs2:w.heap.size≤g2:=Nat.le_trans hX.size hge2;replace hA1:=aX.ext hA1 hx2;replace hX:=aQ.trans hX hx2;refine RL.nil ?_;refine ad ?_;refine RL.p rfl rfl (af [.int .i64 ((rx:Nat)),.int .i64 ((cx:Nat)),sx] aT rfl (hA1.cells 0 _ rfl rfl)) ?_;refine RL.x rfl rfl (dv.buildSlice (vs:= [(0,.func (.func 13) #[] #[]),(1,.func (.func 13) #[] #[])]) [(.nilFunc:Value)] [.func (.func 13) #[] #[],.func (.func 13) #[] #[]] pt vw rfl (dR rfl rfl) rfl (by decide) tN rfl) ?_;rintro _ w3 ⟨g3,rfl,hge3,hx3,hA3⟩;have ne2:g1≠g3:=Nat.ne_of_lt (Nat.lt_of_lt_of_le hA1.lt hge3);have ne3:g2≠g3:=Nat.ne_of_lt (Nat.lt_of_lt_of_le hA2.lt hge3);have hbs3:w.heap.size≤g3:=Nat.le_trans hX.size hge3;replace hA1:=aX.ext hA1 hx3;replace hA2:=aX.ext hA2 hx3;replace hX:=aQ.trans hX hx3;refine RL.x rfl rfl (dv.call vL (aF rfl rfl) (oX _ _ rx cx Mx _ e0 b g3 (bo.mk (cu.ext hSx hX) (by omega) (by omega)) hA3 ni h8 hM hb hb1 hb2 hb3 hl)) ?_;rintro v1 w4 ⟨hx4,ks,Ms,hSat,q1⟩;replace hA1:=aX.ext hA1 hx4;replace hA2:=aX.ext hA2 hx4;replace hA3:=aX.ext hA3 hx4;replace hX:=aQ.trans hX hx4;obtain ⟨sv1,hq1,hr1,hc1,hS1⟩:=q1.form;refine RL.x rfl rfl (dv.store [.int .i64 ((ks:Nat)),.int .i64 ((cx:Nat)),sv1] bO rfl hq1 rfl hA2 (Nat.le_of_ble_eq_true rfl) (bP rfl rfl hS1.one)) ?_;rintro _ w5 ⟨hk1,hnew⟩;replace hA1:=hA1.keep hk1 ne1;replace hA3:=hA3.keep hk1 (Ne.symm ne3);replace q1:=cS q1 hk1 hA2 (by decide);replace hS1:=aA hS1 hk1 hA2 (by decide);replace hX:=hX.step hk1 (fun b e=>by subst e;exact hbs2);replace hA2:=hnew.lit [.int .i64 ((ks:Nat)),.int .i64 ((cx:Nat)),sv1] rfl;clear hnew;refine RL.nil ?_;refine WP.ret ?_;refine ⟨.agg #[.int .i64 ((ks:Nat)),.int .i64 ((cx:Nat)),sv1],yL.one (ai [.int .i64 ((ks:Nat)),.int .i64 ((cx:Nat)),sv1] aT rfl (hA2.cells 0 _ rfl rfl)),_,rfl,hX,?_⟩;dsimp only;exact ⟨ks,Ms,hSat,(bo.mk hS1 (by omega) (by omega))⟩
set_option maxRecDepth 10000 in
theorem sI (w:World) (x:Value) (rx cx:Nat) (Mx:Nat→Nat→Int) (btx:Nat) (g5:Nat) (f5:Nat→Value) (e0 b:Nat) (hx:bo w x rx cx Mx btx) (hG5:aX w g5 64 9 f5) (h8:rx≤8) (hM:∀i j,i<rx→j<cx→(Mx i j).natAbs≤2^e0) (hb:bB e0 rx≤b) (hb1:1 + e0≤b) (hl:2*b + 4≤bl):Calls Tryz.prog 38 #[x,.pointer (some ⟨g5,0,none⟩)] w (iP (fun b=>b=g5) w fun v w'=>∃k S,Herm rx cx e0 Mx k S∧lh w' g5 rx cx S b∧bo w' v rx cx S.M b):=by
 have hLIM:bl=562949953421312:=rfl;have hmatx:=hx;obtain ⟨sx,rfl,hrx,hcx,hSx⟩:=hx.form;refine ak (N:=8) (rs:= #[.cell 3 28]) Tryz.func38 rfl rfl rfl (Nat.le_of_ble_eq_true rfl) ?_;have hX:Keeps (fun b=>b=g5) w w:=Keeps.refl _ w;refine ad ?_;refine RL.x rfl rfl (dv.box [.int .i64 ((rx:Nat)),.int .i64 ((cx:Nat)),sx] rfl rfl) ?_;rintro _ w1 ⟨g1,rfl,hge1,hx1,hA1⟩;have ne1:g5≠g1:=Nat.ne_of_lt (Nat.lt_of_lt_of_le hG5.lt hge1);have hbs1:w.heap.size≤g1:=Nat.le_trans hX.size hge1;replace hSx:=cu.ext hSx hx1;replace hG5:=aX.ext hG5 hx1;replace hX:=aI hX hx1;refine RL.x rfl rfl (dv.alloc [.int .i64 (0),.int .i64 (0),.slice (none) (0) (0)] bE rfl) ?_;rintro _ w2 ⟨g2,rfl,hge2,hx2,hA2⟩;have ne2:g5≠g2:=Nat.ne_of_lt (Nat.lt_of_lt_of_le hG5.lt hge2);have ne3:g1≠g2:=Nat.ne_of_lt (Nat.lt_of_lt_of_le hA1.lt hge2);have hbs2:w.heap.size≤g2:=Nat.le_trans hX.size hge2;replace hSx:=cu.ext hSx hx2;replace hG5:=aX.ext hG5 hx2;replace hA1:=aX.ext hA1 hx2;replace hX:=aI hX hx2;refine RL.nil ?_;refine ad ?_;refine RL.p rfl rfl (af [.int .i64 ((rx:Nat)),.int .i64 ((cx:Nat)),sx] aT rfl (hA1.cells 0 _ rfl rfl)) ?_;refine RL.x rfl rfl (dv.call ro (aJ rfl) (mE _ _ rx cx Mx _ e0 b (bo.mk hSx (by omega) (by omega)) h8 hM hb hb1 hl)) ?_;rintro _ w3 ⟨hx3,kf_1,Sf_1,hHf_1,sa_1,sb_1,sc_1,rfl,hdr_1,hdc_1,hSa_1,hSb_1,hSc_1⟩;replace hSx:=cu.ext hSx hx3;replace hG5:=aX.ext hG5 hx3;replace hA1:=aX.ext hA1 hx3;replace hA2:=aX.ext hA2 hx3;replace hX:=aI hX hx3;refine RL.x rfl rfl (dv.store [.int .i64 ((rx:Nat)),.int .i64 ((cx:Nat)),sa_1,.int .i64 ((rx:Nat)),.int .i64 ((rx:Nat)),sb_1,.int .i64 ((rx:Nat)),.int .i64 ((rx:Nat)),sc_1] lB rfl rfl rfl hG5 (Nat.le_of_ble_eq_true rfl) (lK rfl rfl (hSa_1.one) rfl rfl (hSb_1.one) rfl rfl (hSc_1.one))) ?_;rintro _ w4 ⟨hk1,hnew⟩;replace hSx:=aA hSx hk1 hG5 (by decide);replace hA1:=hA1.keep hk1 (Ne.symm ne1);replace hA2:=hA2.keep hk1 (Ne.symm ne2);replace hSa_1:=aA hSa_1 hk1 hG5 (by decide);replace hSb_1:=aA hSb_1 hk1 hG5 (by decide);replace hSc_1:=aA hSc_1 hk1 hG5 (by decide);replace hX:=hX.step hk1 (fun b e=>by subst e;exact .inl rfl);replace hG5:=hnew.lit [.int .i64 ((rx:Nat)),.int .i64 ((cx:Nat)),sa_1,.int .i64 ((rx:Nat)),.int .i64 ((rx:Nat)),sb_1,.int .i64 ((rx:Nat)),.int .i64 ((rx:Nat)),sc_1] rfl;clear hnew;refine RL.nil ?_;refine ad ?_;refine RL.p rfl rfl (cz.fieldAddr gz rfl) ?_;refine RL.p rfl rfl (af [.int .i64 ((rx:Nat)),.int .i64 ((cx:Nat)),sa_1] aT rfl (hG5.cells 0 _ rfl rfl)) ?_;refine RL.x rfl rfl (dv.store [.int .i64 ((rx:Nat)),.int .i64 ((cx:Nat)),sa_1] bO rfl rfl rfl hA2 (Nat.le_of_ble_eq_true rfl) (bP rfl rfl (hSa_1.one))) ?_;rintro _ w5 ⟨hk2,hnew⟩;replace hG5:=hG5.keep hk2 ne2;replace hSa_1:=aA hSa_1 hk2 hA2 (by decide);replace hSb_1:=aA hSb_1 hk2 hA2 (by decide);replace hSc_1:=aA hSc_1 hk2 hA2 (by decide);replace hX:=hX.step hk2 (fun b e=>by subst e;exact .inr hbs2);replace hA2:=hnew.lit [.int .i64 ((rx:Nat)),.int .i64 ((cx:Nat)),sa_1] rfl;clear hnew;refine RL.nil ?_;refine WP.ret ?_;refine ⟨.agg #[.int .i64 ((rx:Nat)),.int .i64 ((cx:Nat)),sa_1],yL.one (ai [.int .i64 ((rx:Nat)),.int .i64 ((cx:Nat)),sa_1] aT rfl (hA2.cells 0 _ rfl rfl)),_,rfl,hX,?_⟩;dsimp only;exact ⟨kf_1,Sf_1,hHf_1,⟨sa_1,sb_1,sc_1,hG5,⟨by omega,by omega⟩,by omega,hSa_1,hSb_1,hSc_1⟩,bo.mk hSa_1 (by omega) (by omega)⟩
end Go.TL
namespace Go.TL
open Go.RowKit Go.Proofs
set_option linter.unusedVariables false
theorem lh.keep {w w':World} {g r c b g2 m:Nat} {f:Nat→Value} {S:WS} (h:lh w g r c S b) (hk:Keeps (fun k=>k=g2) w w') (hA:aX w g2 28 m f):lh w' g r c S b:=by
  obtain ⟨s1,s2,s3,h1,h2,h3,h4,h5,h6⟩:=h;exact ⟨s1,s2,s3,h1.keep hk (h1.ne hA (by decide)),h2,h3,aA h4 hk hA (by decide),aA h5 hk hA (by decide),aA h6 hk hA (by decide)⟩
theorem lh.ext {w w':World} {g r c b:Nat} {S:WS} (h:lh w g r c S b) (hx:aQ w w'):lh w' g r c S b:=by
  obtain ⟨s1,s2,s3,h1,h2,h3,h4,h5,h6⟩:=h;exact ⟨s1,s2,s3,h1.ext hx,h2,h3,h4.ext hx,h5.ext hx,h6.ext hx⟩
theorem tg {i j:Nat} {x:Int} (h:¬((((((i:Nat):Int)=((j:Nat):Int))∧(bk x 1≠0))∨((((i:Nat):Int)≠((j:Nat):Int))∧(x.sign≠0))))):x=bI i j:=by
  unfold bI
  by_cases e:i=j
  · subst e
    rw [if_pos rfl]
    by_cases h1:bk x 1=0
    · exact (fh x 1).1 h1
    · exact absurd (.inl ⟨rfl,h1⟩) h
  · rw [if_neg e]
    by_cases h1:x.sign=0
    · exact Int.sign_eq_zero_iff_zero.1 h1
    · exact absurd (.inr ⟨by omega,h1⟩) h
theorem qQ {i j:Nat} {x:Int} (h:(((((i:Nat):Int)=((j:Nat):Int))∧(bk x 1≠0))∨((((i:Nat):Int)≠((j:Nat):Int))∧(x.sign≠0)))) (hx:x=bI i j):False:=by
  unfold bI at hx
  rcases h with ⟨h1,h2⟩ | ⟨h1,h2⟩
  · rw [if_pos (by omega)] at hx
    exact h2 ((fh x 1).2 hx)
  · rw [if_neg (by omega)] at hx
    exact h2 (Int.sign_eq_zero_iff_zero.2 hx)
theorem qJ (w:World) (x:Value) (rx cx:Nat) (Mx:Nat→Nat→Int) (btx e0 b gs g5:Nat) (f5:Nat→Value) (hx:bo w x rx cx Mx btx)
    (hfs:aX w gs 30 1 (bG [.func (.func 38) #[] #[.pointer (some ⟨g5,0,none⟩)]])) (hG:aX w g5 64 9 f5) (hcb:aE Tryz.prog 38=true)
    (h8:cx≤8) (hM:∀i j,i<rx→j<cx→(Mx i j).natAbs≤2^e0) (hb:bB e0 cx≤b) (hb1:1 + e0≤b) (hl:2*b + 4≤bl):
    Calls Tryz.prog 37 #[x,.slice (some ⟨gs,0,none⟩) 1 1] w (iP (fun k=>k=g5) w fun _ w'=>∃k S,Herm cx rx e0 (fX Mx) k S∧lh w' g5 cx rx S b):=by
  have hne:gs≠g5:=hfs.ne hG (by decide);refine (nP w x rx cx Mx btx 1 gs _ (fun k=>k=g5) (fun i r c M b'=>i=0→r=rx∧c=cx∧M=Mx) (fun i w1=>match i with | 0=>∃f,aX w1 g5 64 9 f | _=>∃k S,Herm cx rx e0 (fX Mx) k S∧lh w1 g5 cx rx S b) hx (by decide) hfs
    (fun k e=>by subst e;exact hG.lt) hne (fun _=>⟨rfl,rfl,rfl⟩) ⟨f5,hG⟩ ?_ ?_ ?_).mono ?_
  · intro i w1 w2 hD hxx
    cases i with
    | zero=>obtain ⟨f,h⟩:=hD;exact ⟨f,h.ext hxx⟩
    | succ i=>obtain ⟨k,S,h1,h2⟩:=hD;exact ⟨k,S,h1,h2.ext hxx⟩
  · intro i w1 w2 g m f hD hk _ hA
    cases i with
    | zero=>obtain ⟨f',h⟩:=hD;exact ⟨f',h.keep hk (h.ne hA (by decide))⟩
    | succ i=>obtain ⟨k,S,h1,h2⟩:=hD;exact ⟨k,S,h1,h2.keep hk hA⟩
  · intro i hi w1 hk v r c M b' hA hD hv
    obtain rfl:i=0:=by omega
    obtain ⟨rfl,rfl,rfl⟩:=hA rfl;obtain ⟨f,hG'⟩:=hD;refine ⟨_,_,_,rfl,hcb,?_⟩;refine (sI w1 v c r (fX M) b' g5 f e0 b hv hG' h8 (fun i j hi hj=>hM j i hj hi) hb hb1 hl).mono fun e w2 h=> ?_
    obtain ⟨v2,h1,h2,k,S,h3,h4,h5⟩:=h;exact ⟨v2,h1,h2,c,r,S.M,b,(fun h=>by omega),h5,k,S,h3,h4⟩
  · rintro e w2 ⟨v,h1,h2,r,c,M,b',_,_,h4⟩
    exact ⟨v,h1,h2,h4⟩
end Go.TL
namespace Go.TL
open Go.RowKit Go.Proofs
set_option linter.unusedVariables false
set_option linter.unusedSimpArgs false
set_option maxRecDepth 10000 in
theorem nQ (w:World) (x:Value) (rx cx:Nat) (Mx:Nat→Nat→Int) (btx:Nat) (e0 b:Nat) (hx:bo w x rx cx Mx btx) (h8r:rx≤8) (hb0:bB e0 rx≤b) (h8:cx≤8) (hM:∀i j,i<rx→j<cx→(Mx i j).natAbs≤2^e0) (hb:bB e0 cx≤b) (hb1:1 + e0≤b) (hb2:bB (eB e0 cx) cx≤b) (hb3:1 + eB e0 cx≤b) (hl:2*b + 4≤bl):Calls Tryz.prog 16 #[x] w (cg w fun v w'=>∃k S k2 M2,Herm rx cx e0 Mx k S∧iO rx cx e0 Mx k2 M2∧v= .bool (decide (en k cx k2 cx S.M M2))):=by
 have hLIM:bl=562949953421312:=rfl;have hmatx:=hx;obtain ⟨sx,rfl,hrx,hcx,hSx⟩:=hx.form;refine ak (N:=8) (rs:= #[.tmp 2]) Tryz.func16 rfl rfl rfl (Nat.le_of_ble_eq_true rfl) ?_;have hX:aQ w w:=aQ.refl w;refine ad ?_;refine RL.x rfl rfl (dv.box [.int .i64 ((rx:Nat)),.int .i64 ((cx:Nat)),sx] rfl rfl) ?_;rintro _ w1 ⟨g1,rfl,hge1,hx1,hA1⟩;have hbs1:w.heap.size≤g1:=Nat.le_trans hX.size hge1;replace hX:=aQ.trans hX hx1;refine RL.p rfl rfl (cz.assign rfl) ?_;refine RL.nil ?_;refine ay aq 5 [fun v zq=>v= .agg #[.int .i64 ((rx:Nat)),.int .i64 ((cx:Nat)),sx],fun v zq=>vt zq v rx cx e0 Mx b,fun v zq=>v= .agg #[.int .i64 ((rx:Nat)),.int .i64 ((cx:Nat)),sx],fun v zq=>lm zq v rx cx e0 Mx b,fun v zq=>oc zq v rx cx e0 Mx] rfl rfl ⟨aa _,qC _ _ _ _ _,aa _,jf _ _ _ _ _,oP _ _ _ _,trivial⟩ ⟨fun e_ w_ zp zo zn=>ab (af [.int .i64 ((rx:Nat)),.int .i64 ((cx:Nat)),sx] aT (((zo 1 rfl).trans rfl)) ((aX.ext hA1 zp).cells 0 _ rfl rfl)),fun e_ w_ zp zo zn=>dv.call vI (aJ (zn 0 rfl)) (pX _ _ _ _ _ _ e0 b (bo.mk (cu.ext (cu.ext hSx hX) zp) (by omega) (by omega)) h8r hM hb0 hb1 hl),fun e_ w_ zp zo zn=>ab (af [.int .i64 ((rx:Nat)),.int .i64 ((cx:Nat)),sx] aT (((zo 1 rfl).trans rfl)) ((aX.ext hA1 zp).cells 0 _ rfl rfl)),fun e_ w_ zp zo zn=>dv.call rr (aJ (zn 2 rfl)) (ic _ _ _ _ _ _ e0 b (bo.mk (cu.ext (cu.ext hSx hX) zp) (by omega) (by omega)) h8 hM hb hb1 hb2 hb3 hl),fun e_ w_ zp zo zn=>(by
       obtain ⟨k1,S1,g1,g2⟩:=zn 1 rfl;obtain ⟨k2,M2,g3,g4⟩:=zn 3 rfl;exact dv.mono (dv.call yc (aF rfl rfl) (uy _ _ _ _ _ _ _ _ _ _ _ g2 g4)) fun v w2 hv=>⟨hv.1,k1,S1,k2,M2,g1,g3,hv.2⟩),trivial⟩ ?_
 intro e1 w2 hx2 ho1 hf1;replace hA1:=aX.ext hA1 hx2;replace hX:=aQ.trans hX hx2;have s2_e1:e1 2= .bool (false):=(ho1 2 rfl).trans rfl;have s7_e1:oc w2 (e1 7) rx cx e0 Mx:=hf1 4 rfl;refine RL.p rfl rfl (cz.assign rfl) ?_;refine RL.nil ?_;refine WP.ret ?_;refine ⟨(e1 7),yL.one (fR.tmp rfl),_,rfl,hX,?_⟩;dsimp only;exact s7_e1
set_option maxRecDepth 10000 in
set_option maxHeartbeats 800000 in
theorem mA (w:World) (x:Value) (rx cx:Nat) (Mx:Nat→Nat→Int) (btx:Nat) (e0 b:Nat) (hx:bo w x rx cx Mx btx) (h8:cx≤8) (hM:∀i j,i<rx→j<cx→(Mx i j).natAbs≤2^e0) (hb:bB e0 cx≤b) (hb1:1 + e0≤b) (hl:2*b + 4≤bl):Calls Tryz.prog 10 #[x] w (cg w fun v w'=>∃k S,Herm cx rx e0 (fX Mx) k S∧(((∀i j,i<cx→j<rx→S.M i j=bI i j)∧rx≤cx∧∃v1,v= .tuple #[v1,.int .i64 0]∧bo w' v1 (cx - rx) cx (fun a e=>S.V e (rx + a)) b)∨(¬((∀i j,i<cx→j<rx→S.M i j=bI i j)∧rx≤cx)∧v= .tuple #[.agg #[.int .i64 0,.int .i64 0,.slice none 0 0],.int .i64 170]))):=by
 have hLIM:bl=562949953421312:=rfl;have hmatx:=hx;obtain ⟨sx,rfl,hrx,hcx,hSx⟩:=hx.form;refine ak (N:=67) (rs:= #[.cell 2 28,.tmp 3]) Tryz.func10 rfl rfl rfl (Nat.le_of_ble_eq_true rfl) ?_;have hX:aQ w w:=aQ.refl w;refine ad ?_;refine RL.x rfl rfl (dv.box [.int .i64 ((rx:Nat)),.int .i64 ((cx:Nat)),sx] rfl rfl) ?_;rintro _ w1 ⟨g1,rfl,hge1,hx1,hA1⟩;have hbs1:w.heap.size≤g1:=Nat.le_trans hX.size hge1;replace hX:=aQ.trans hX hx1;refine RL.x rfl rfl (dv.alloc [.int .i64 (0),.int .i64 (0),.slice (none) (0) (0)] bE rfl) ?_;rintro _ w2 ⟨g2,rfl,hge2,hx2,hA2⟩;have ne1:g1≠g2:=Nat.ne_of_lt (Nat.lt_of_lt_of_le hA1.lt hge2);have hbs2:w.heap.size≤g2:=Nat.le_trans hX.size hge2;replace hA1:=aX.ext hA1 hx2;replace hX:=aQ.trans hX hx2;refine RL.p rfl rfl (cz.assign rfl) ?_;refine RL.nil ?_;refine ad ?_;refine RL.x rfl rfl (dv.call nh (aJ rfl) (tl (1) (1) _ (by decide) (by decide) (by decide))) ?_;rintro v1 w3 ⟨hx3,q1⟩;replace hA1:=aX.ext hA1 hx3;replace hA2:=aX.ext hA2 hx3;replace hX:=aQ.trans hX hx3;refine RL.x rfl rfl (dv.alloc [.bool (false),.slice (none) (0) (0)] bC rfl) ?_;rintro _ w4 ⟨g3,rfl,hge3,hx4,hA3⟩;have ne2:g1≠g3:=Nat.ne_of_lt (Nat.lt_of_lt_of_le hA1.lt hge3);have ne3:g2≠g3:=Nat.ne_of_lt (Nat.lt_of_lt_of_le hA2.lt hge3);have hbs3:w.heap.size≤g3:=Nat.le_trans hX.size hge3;replace hA1:=aX.ext hA1 hx4;replace hA2:=aX.ext hA2 hx4;replace q1:=ah.ext q1 hx4;replace hX:=aQ.trans hX hx4;obtain ⟨ca1,cb1,hq1,ho1,ho2⟩:=ah.cells q1;have qi1:ah w4 (.agg #[ca1,cb1]) 1 1:=hq1▸q1;refine RL.x rfl rfl (dv.store [ca1,cb1] aS rfl hq1 rfl hA3 (Nat.le_of_ble_eq_true rfl) (aY ho1 ho2)) ?_;rintro _ w5 ⟨hk1,hnew⟩;replace hA1:=hA1.keep hk1 ne2;replace hA2:=hA2.keep hk1 ne3;replace q1:=ac q1 hk1 hA3 (by decide);replace qi1:=ac qi1 hk1 hA3 (by decide);replace hX:=hX.step hk1 (fun b e=>by subst e;exact hbs3);replace hA3:=hnew.lit [ca1,cb1] rfl;clear hnew;refine RL.nil ?_;refine ad ?_;refine RL.x rfl rfl (dv.alloc [.int .i64 (0),.int .i64 (0),.slice (none) (0) (0),.int .i64 (0),.int .i64 (0),.slice (none) (0) (0),.int .i64 (0),.int .i64 (0),.slice (none) (0) (0)] jr rfl) ?_;rintro _ w6 ⟨g4,rfl,hge4,hx5,hA4⟩;have ne4:g1≠g4:=Nat.ne_of_lt (Nat.lt_of_lt_of_le hA1.lt hge4);have ne5:g2≠g4:=Nat.ne_of_lt (Nat.lt_of_lt_of_le hA2.lt hge4);have ne6:g3≠g4:=Nat.ne_of_lt (Nat.lt_of_lt_of_le hA3.lt hge4);have hbs4:w.heap.size≤g4:=Nat.le_trans hX.size hge4;replace hA1:=aX.ext hA1 hx5;replace hA2:=aX.ext hA2 hx5;replace hA3:=aX.ext hA3 hx5;replace qi1:=ah.ext qi1 hx5;replace hX:=aQ.trans hX hx5;refine RL.nil ?_;refine ad ?_;refine RL.p rfl rfl (af [.int .i64 ((rx:Nat)),.int .i64 ((cx:Nat)),sx] aT rfl (hA1.cells 0 _ rfl rfl)) ?_;refine RL.p rfl rfl (cz.makeFunc (nZ) (aJ rfl)) ?_;refine RL.x rfl rfl (dv.buildSlice (vs:= [(0,.func (.func 38) #[] #[.pointer (some ⟨g4,0,none⟩)])]) [(.nilFunc:Value)] [.func (.func 38) #[] #[.pointer (some ⟨g4,0,none⟩)]] pt vw rfl (eQ rfl) rfl (by decide) tO rfl) ?_;rintro _ w7 ⟨g5,rfl,hge5,hx6,hA5⟩;have ne7:g1≠g5:=Nat.ne_of_lt (Nat.lt_of_lt_of_le hA1.lt hge5);have ne8:g2≠g5:=Nat.ne_of_lt (Nat.lt_of_lt_of_le hA2.lt hge5);have ne9:g3≠g5:=Nat.ne_of_lt (Nat.lt_of_lt_of_le hA3.lt hge5);have ne10:g4≠g5:=Nat.ne_of_lt (Nat.lt_of_lt_of_le hA4.lt hge5);have hbs5:w.heap.size≤g5:=Nat.le_trans hX.size hge5;replace hA1:=aX.ext hA1 hx6;replace hA2:=aX.ext hA2 hx6;replace hA3:=aX.ext hA3 hx6;replace qi1:=ah.ext qi1 hx6;replace hA4:=aX.ext hA4 hx6;replace hX:=aQ.trans hX hx6;refine RL.x rfl rfl (cI vL (aF rfl rfl) (qJ _ _ rx cx Mx _ e0 b g5 g4 _ (bo.mk (cu.ext hSx hX) (by omega) (by omega)) hA5 hA4 yf h8 hM hb hb1 hl)) ?_;rintro _ w9 ⟨hk2,kf,Sf,hHf,hHB⟩;replace hA1:=hA1.keep hk2 (hA1.ne hA4 (by decide));replace hA2:=hA2.keep hk2 (hA2.ne hA4 (by decide));replace hA3:=hA3.keep hk2 (hA3.ne hA4 (by decide));replace qi1:=ac qi1 hk2 hA4 (by decide);replace hX:=hX.step hk2 (fun b e=>by subst e;exact hbs4);obtain ⟨s1,s2,s3,hG5,hd1,hd2,hS1,hS2,hS3⟩:=hHB;have hXa1:=aQ.refl w9;refine RL.nil ?_;refine WP.seq ?_;refine ad ?_;refine RL.p rfl rfl (cz.fieldAddr gz rfl) ?_;refine RL.p rfl rfl (cz.fieldAddr av rfl) ?_;refine RL.p rfl rfl (cz.load aR rfl (hG5.at_ (i:=2) rfl rfl)) ?_;refine RL.p rfl rfl (cZ aK rfl (cu.ext hS1 hXa1)) ?_;refine RL.p rfl rfl (cz.move rfl) ?_;refine RL.nil ?_;refine WP.block ?_;refine WP.loop (fun mz ez uz=>∃i:Nat,(mz=cx - i)∧(ez 1= .pointer (some ⟨g1,0,none⟩))∧(ez 2= .pointer (some ⟨g2,0,none⟩))∧(ez 4= .pointer (some ⟨g3,0,none⟩))∧(ez 5= .pointer (some ⟨g4,0,none⟩))∧(ez 17=s1)∧(ez 18= .int .i64 ((cx:Nat)))∧(ez 19= .int .i64 ((i:Nat)))∧(i≤cx)∧(∀a,a<i→∀e,e<rx→Sf.M a e=bI a e)∧(aQ w uz)∧(aX uz g1 28 3 (bG [.int .i64 ((rx:Nat)),.int .i64 ((cx:Nat)),sx]))∧(aX uz g2 28 3 (bG [.int .i64 (0),.int .i64 (0),.slice (none) (0) (0)]))∧(aX uz g3 51 2 (bG [ca1,cb1]))∧(aX uz g4 64 9 (bG [.int .i64 ((cx:Nat)),.int .i64 ((rx:Nat)),s1,.int .i64 ((cx:Nat)),.int .i64 ((cx:Nat)),s2,.int .i64 ((cx:Nat)),.int .i64 ((cx:Nat)),s3]))∧(aQ w9 uz)) (cx - 0) ?_ ?_
 · exact ⟨0,rfl,rfl,rfl,rfl,rfl,rfl,rfl,rfl,(by omega),(fun a ha=>by omega),hX,hA1,hA2,hA3,hG5,hXa1⟩
 rintro m1 e1 w10 ⟨i,hm1,s1_e1,s2_e1,s4_e1,s5_e1,s17_e1,s18_e1,s19_e1,hi,hid,hX1,hA1,hA2,hA3,hG5,hXa1⟩;refine ad ?_;refine RL.p rfl rfl (cz.lss s19_e1 s18_e1) ?_;refine RL.nil ?_;refine WP.seq ?_;refine ag (((i:Nat):Int)<((cx:Nat):Int)) rfl (fun c20=> ?_) (fun c20=> ?_)
 ·
  refine WP.skip ?_;refine pi.norm ?_;refine WP.seq ?_;refine WP.block ?_;refine ad ?_;refine RL.p rfl rfl (cz.move s19_e1) ?_;refine RL.x rfl rfl (bL (j:=i) aK s17_e1 (cu.ext hS1 hXa1) s19_e1 (by omega) (by omega)) ?_;rintro v2 _ ⟨rfl,q2⟩;refine RL.x rfl rfl (bW bc rfl q2) ?_;rintro v3 _ ⟨rfl,q3⟩;refine RL.p rfl rfl (cz.assign rfl) ?_;refine RL.p rfl rfl (cz.assign rfl) ?_;refine RL.nil ?_;have hXa2:=aQ.refl w10
  skip
  refine ad ?_;refine RL.p rfl rfl (cz.move rfl) ?_;refine RL.p rfl rfl (cO bn rfl (ci.ext q3 hXa2)) ?_;refine RL.p rfl rfl (cz.move rfl) ?_;refine RL.nil ?_;refine WP.block ?_;refine WP.loop (fun mz ez uz=>∃j:Nat,(mz=rx - j)∧(ez 1= .pointer (some ⟨g1,0,none⟩))∧(ez 2= .pointer (some ⟨g2,0,none⟩))∧(ez 4= .pointer (some ⟨g3,0,none⟩))∧(ez 5= .pointer (some ⟨g4,0,none⟩))∧(ez 6= .int .i64 ((i:Nat)))∧(ez 17=s1)∧(ez 18= .int .i64 ((cx:Nat)))∧(ez 19= .int .i64 ((i:Nat)))∧(ez 24=v3)∧(ez 25= .int .i64 ((rx:Nat)))∧(ez 26= .int .i64 ((j:Nat)))∧(j≤rx)∧(∀e,e<j→Sf.M i e=bI i e)∧(aQ w uz)∧(aX uz g1 28 3 (bG [.int .i64 ((rx:Nat)),.int .i64 ((cx:Nat)),sx]))∧(aX uz g2 28 3 (bG [.int .i64 (0),.int .i64 (0),.slice (none) (0) (0)]))∧(aX uz g3 51 2 (bG [ca1,cb1]))∧(aX uz g4 64 9 (bG [.int .i64 ((cx:Nat)),.int .i64 ((rx:Nat)),s1,.int .i64 ((cx:Nat)),.int .i64 ((cx:Nat)),s2,.int .i64 ((cx:Nat)),.int .i64 ((cx:Nat)),s3]))∧(aQ w9 uz)∧(aQ w10 uz)) (rx - 0) ?_ ?_
  · exact ⟨0,rfl,s1_e1,s2_e1,s4_e1,s5_e1,rfl,s17_e1,s18_e1,s19_e1,rfl,rfl,rfl,(by omega),(fun a ha=>by omega),hX1,hA1,hA2,hA3,hG5,hXa1,hXa2⟩
  rintro m2 e2 w11 ⟨j,hm2,s1_e2,s2_e2,s4_e2,s5_e2,s6_e2,s17_e2,s18_e2,s19_e2,s24_e2,s25_e2,s26_e2,hj,hjd,hX2,hA1,hA2,hA3,hG5,hXa1,hXa2⟩;refine ad ?_;refine RL.p rfl rfl (cz.lss s26_e2 s25_e2) ?_;refine RL.nil ?_;refine WP.seq ?_;refine ag (((j:Nat):Int)<((rx:Nat):Int)) rfl (fun c27=> ?_) (fun c27=> ?_)
  ·
   refine WP.skip ?_;refine pi.norm ?_;refine WP.seq ?_;refine WP.block ?_;refine ad ?_;refine RL.p rfl rfl (cz.move s26_e2) ?_;refine RL.x rfl rfl (cb (j:=j) bn s24_e2 (ci.ext q3 hXa2) s26_e2 (by omega) (by omega)) ?_;rintro v4 _ ⟨rfl,q4⟩;refine RL.x rfl rfl (cf ax rfl q4) ?_;rintro v5 _ ⟨rfl,q5⟩;refine RL.x rfl rfl (dv.alloc [.bool (false),.slice (none) (0) (0)] bC rfl) ?_;rintro _ w12 ⟨g6,rfl,hge6,hx8,hA6⟩;have ne11:g1≠g6:=Nat.ne_of_lt (Nat.lt_of_lt_of_le hA1.lt hge6);have ne12:g2≠g6:=Nat.ne_of_lt (Nat.lt_of_lt_of_le hA2.lt hge6);have ne13:g3≠g6:=Nat.ne_of_lt (Nat.lt_of_lt_of_le hA3.lt hge6);have ne14:g4≠g6:=Nat.ne_of_lt (Nat.lt_of_lt_of_le hG5.lt hge6);have hbs6:w.heap.size≤g6:=Nat.le_trans hX2.size hge6;have hba1:w9.heap.size≤g6:=Nat.le_trans hXa1.size hge6;have hba2:w10.heap.size≤g6:=Nat.le_trans hXa2.size hge6;replace hA1:=aX.ext hA1 hx8;replace hA2:=aX.ext hA2 hx8;replace hA3:=aX.ext hA3 hx8;replace hG5:=aX.ext hG5 hx8;replace hXa1:=aQ.trans hXa1 hx8;replace hXa2:=aQ.trans hXa2 hx8;replace q4:=fW.ext q4 hx8;replace q5:=ah.ext q5 hx8;replace hX2:=aQ.trans hX2 hx8;refine RL.p rfl rfl (cz.assign rfl) ?_;obtain ⟨ca2,cb2,hq2,ho3,ho4⟩:=ah.cells q5;have qi2:ah w12 (.agg #[ca2,cb2]) ((Sf.M i) j) b:=hq2▸q5;refine RL.x rfl rfl (dv.store [ca2,cb2] aS rfl hq2 rfl hA6 (Nat.le_of_ble_eq_true rfl) (aY ho3 ho4)) ?_;rintro _ w13 ⟨hk3,hnew⟩;replace hA1:=hA1.keep hk3 ne11;replace hA2:=hA2.keep hk3 ne12;replace hA3:=hA3.keep hk3 ne13;replace hG5:=hG5.keep hk3 ne14;replace hXa1:=hXa1.step hk3 (fun b e=>by subst e;exact hba1);replace hXa2:=hXa2.step hk3 (fun b e=>by subst e;exact hba2);replace q5:=ac q5 hk3 hA6 (by decide);replace qi2:=ac qi2 hk3 hA6 (by decide);replace hX2:=hX2.step hk3 (fun b e=>by subst e;exact hbs6);replace hA6:=hnew.lit [ca2,cb2] rfl;clear hnew;refine RL.nil ?_;refine ay aq 19 [fun v zq=>v= .int .i64 ((i:Nat)),fun v zq=>v= .int .i64 ((j:Nat)),fun v zq=>v= .bool (decide (((i:Nat):Int)=((j:Nat):Int))),fun v zq=>v= .bool (decide (((i:Nat):Int)=((j:Nat):Int))),fun v zq=>(((i:Nat):Int)=((j:Nat):Int))→(v= .agg #[ca2,cb2]),fun v zq=>(((i:Nat):Int)=((j:Nat):Int))→(v= .agg #[ca1,cb1]),fun v zq=>(((i:Nat):Int)=((j:Nat):Int))→(v= .int .i64 (bk ((Sf.M i) j) (1))),fun v zq=>(((i:Nat):Int)=((j:Nat):Int))→(v= .bool (decide ((bk ((Sf.M i) j) (1):Int)≠(0:Int)))),fun v zq=>v= .bool (decide ((((i:Nat):Int)=((j:Nat):Int))∧((bk ((Sf.M i) j) (1):Int)≠(0:Int)))),fun v zq=>v= .bool (decide ((((i:Nat):Int)=((j:Nat):Int))∧((bk ((Sf.M i) j) (1):Int)≠(0:Int)))),fun v zq=>(¬((((i:Nat):Int)=((j:Nat):Int))∧((bk ((Sf.M i) j) (1):Int)≠(0:Int))))→(v= .int .i64 ((i:Nat))),fun v zq=>(¬((((i:Nat):Int)=((j:Nat):Int))∧((bk ((Sf.M i) j) (1):Int)≠(0:Int))))→(v= .int .i64 ((j:Nat))),fun v zq=>(¬((((i:Nat):Int)=((j:Nat):Int))∧((bk ((Sf.M i) j) (1):Int)≠(0:Int))))→(v= .bool (decide (((i:Nat):Int)≠((j:Nat):Int)))),fun v zq=>((¬((((i:Nat):Int)=((j:Nat):Int))∧((bk ((Sf.M i) j) (1):Int)≠(0:Int))))→(v= .bool (decide (((i:Nat):Int)≠((j:Nat):Int)))))∧(¬(¬((((i:Nat):Int)=((j:Nat):Int))∧((bk ((Sf.M i) j) (1):Int)≠(0:Int))))→v=undef),fun v zq=>((¬((((i:Nat):Int)=((j:Nat):Int))∧((bk ((Sf.M i) j) (1):Int)≠(0:Int))))∧(((i:Nat):Int)≠((j:Nat):Int)))→(v= .agg #[ca2,cb2]),fun v zq=>((¬((((i:Nat):Int)=((j:Nat):Int))∧((bk ((Sf.M i) j) (1):Int)≠(0:Int))))∧(((i:Nat):Int)≠((j:Nat):Int)))→(v= .int .i64 (((Sf.M i) j:Int).sign)),fun v zq=>((¬((((i:Nat):Int)=((j:Nat):Int))∧((bk ((Sf.M i) j) (1):Int)≠(0:Int))))∧(((i:Nat):Int)≠((j:Nat):Int)))→(v= .bool (decide ((((Sf.M i) j:Int).sign:Int)≠(0:Int)))),fun v zq=>(¬((((i:Nat):Int)=((j:Nat):Int))∧((bk ((Sf.M i) j) (1):Int)≠(0:Int))))→(v= .bool (decide ((((i:Nat):Int)≠((j:Nat):Int))∧((((Sf.M i) j:Int).sign:Int)≠(0:Int))))),fun v zq=>v= .bool (decide (((((i:Nat):Int)=((j:Nat):Int))∧((bk ((Sf.M i) j) (1):Int)≠(0:Int)))∨((((i:Nat):Int)≠((j:Nat):Int))∧((((Sf.M i) j:Int).sign:Int)≠(0:Int)))))] rfl rfl ⟨aa _,aa _,aa _,aa _,dG.imp (aa _),dG.imp (aa _),dG.imp (aa _),dG.imp (aa _),aa _,aa _,dG.imp (aa _),dG.imp (aa _),dG.imp (aa _),dG.impU (aa _),dG.imp (aa _),dG.imp (aa _),dG.imp (aa _),dG.imp (aa _),aa _,trivial⟩ ⟨fun e_ w_ zp zo zn=>ab (cz.move (((zo 6 rfl).trans s6_e2))),fun e_ w_ zp zo zn=>ab (cz.move (((zo 8 rfl).trans rfl))),fun e_ w_ zp zo zn=>ab (cz.eql ((zn 0 rfl)) ((zn 1 rfl))),fun e_ w_ zp zo zn=>ab (cz.move ((zn 2 rfl))),fun e_ w_ zp zo zn=>am (p:=((i:Nat):Int)=((j:Nat):Int)) (zn 3 rfl) (fun hg=>dv.imp (p:=((i:Nat):Int)=((j:Nat):Int)) (φ:=fun v zq=>v= .agg #[ca2,cb2]) (ab (af [ca2,cb2] ax (((zo 9 rfl).trans rfl)) ((aX.ext hA6 zp).cells 0 _ rfl rfl)))) (fun hn=>(fun hg=>absurd hg hn)),fun e_ w_ zp zo zn=>am (p:=((i:Nat):Int)=((j:Nat):Int)) (zn 3 rfl) (fun hg=>dv.imp (p:=((i:Nat):Int)=((j:Nat):Int)) (φ:=fun v zq=>v= .agg #[ca1,cb1]) (ab (af [ca1,cb1] ax (((zo 4 rfl).trans s4_e2)) ((aX.ext hA3 zp).cells 0 _ rfl rfl)))) (fun hn=>(fun hg=>absurd hg hn)),fun e_ w_ zp zo zn=>am (p:=((i:Nat):Int)=((j:Nat):Int)) (zn 3 rfl) (fun hg=>dv.imp (p:=((i:Nat):Int)=((j:Nat):Int)) (φ:=fun v zq=>v= .int .i64 (bk ((Sf.M i) j) (1))) (dv.call rn (aF ((zn 4 rfl hg)) ((zn 5 rfl hg))) (tp _ _ _ _ _ _ _ ((ah.ext qi2 zp)) ((ah.ext (ah.ext qi1 hXa1) zp))))) (fun hn=>(fun hg=>absurd hg hn)),fun e_ w_ zp zo zn=>am (p:=((i:Nat):Int)=((j:Nat):Int)) (zn 3 rfl) (fun hg=>dv.imp (p:=((i:Nat):Int)=((j:Nat):Int)) (φ:=fun v zq=>v= .bool (decide ((bk ((Sf.M i) j) (1):Int)≠(0:Int)))) (ab (cz.neq ((zn 6 rfl hg)) rfl))) (fun hn=>(fun hg=>absurd hg hn)),fun e_ w_ zp zo zn=>ab (aG (p:=((i:Nat):Int)=((j:Nat):Int)) (q:=(bk ((Sf.M i) j) (1):Int)≠(0:Int)) (zn 3 rfl) (fun hq=>(zn 7 rfl hq))),fun e_ w_ zp zo zn=>ab (cz.move ((zn 8 rfl))),fun e_ w_ zp zo zn=>aC (p:=(((i:Nat):Int)=((j:Nat):Int))∧((bk ((Sf.M i) j) (1):Int)≠(0:Int))) (zn 9 rfl) (fun hg=>dv.imp (p:=¬((((i:Nat):Int)=((j:Nat):Int))∧((bk ((Sf.M i) j) (1):Int)≠(0:Int)))) (φ:=fun v zq=>v= .int .i64 ((i:Nat))) (ab (cz.move (((zo 6 rfl).trans s6_e2))))) (fun hn=>(fun hg=>absurd hn hg)),fun e_ w_ zp zo zn=>aC (p:=(((i:Nat):Int)=((j:Nat):Int))∧((bk ((Sf.M i) j) (1):Int)≠(0:Int))) (zn 9 rfl) (fun hg=>dv.imp (p:=¬((((i:Nat):Int)=((j:Nat):Int))∧((bk ((Sf.M i) j) (1):Int)≠(0:Int)))) (φ:=fun v zq=>v= .int .i64 ((j:Nat))) (ab (cz.move (((zo 8 rfl).trans rfl))))) (fun hn=>(fun hg=>absurd hn hg)),fun e_ w_ zp zo zn=>aC (p:=(((i:Nat):Int)=((j:Nat):Int))∧((bk ((Sf.M i) j) (1):Int)≠(0:Int))) (zn 9 rfl) (fun hg=>dv.imp (p:=¬((((i:Nat):Int)=((j:Nat):Int))∧((bk ((Sf.M i) j) (1):Int)≠(0:Int)))) (φ:=fun v zq=>v= .bool (decide (((i:Nat):Int)≠((j:Nat):Int)))) (ab (cz.neq ((zn 10 rfl hg)) ((zn 11 rfl hg))))) (fun hn=>(fun hg=>absurd hn hg)),fun e_ w_ zp zo zn=>aC (p:=(((i:Nat):Int)=((j:Nat):Int))∧((bk ((Sf.M i) j) (1):Int)≠(0:Int))) (zn 9 rfl) (fun hg=>dv.impU (p:=¬((((i:Nat):Int)=((j:Nat):Int))∧((bk ((Sf.M i) j) (1):Int)≠(0:Int)))) (φ:=fun v zq=>v= .bool (decide (((i:Nat):Int)≠((j:Nat):Int)))) hg (ab (cz.move ((zn 12 rfl hg))))) (fun hn=>⟨fun hg=>absurd hn hg,fun _=>rfl⟩),fun e_ w_ zp zo zn=>pc (O:=¬((((i:Nat):Int)=((j:Nat):Int))∧((bk ((Sf.M i) j) (1):Int)≠(0:Int)))) (p:=((i:Nat):Int)≠((j:Nat):Int)) (zn 13 rfl) (fun hg=>dv.imp (p:=(¬((((i:Nat):Int)=((j:Nat):Int))∧((bk ((Sf.M i) j) (1):Int)≠(0:Int))))∧(((i:Nat):Int)≠((j:Nat):Int))) (φ:=fun v zq=>v= .agg #[ca2,cb2]) (ab (af [ca2,cb2] ax (((zo 9 rfl).trans rfl)) ((aX.ext hA6 zp).cells 0 _ rfl rfl)))) (fun hn=>(fun hg=>absurd hg hn)),fun e_ w_ zp zo zn=>pc (O:=¬((((i:Nat):Int)=((j:Nat):Int))∧((bk ((Sf.M i) j) (1):Int)≠(0:Int)))) (p:=((i:Nat):Int)≠((j:Nat):Int)) (zn 13 rfl) (fun hg=>dv.imp (p:=(¬((((i:Nat):Int)=((j:Nat):Int))∧((bk ((Sf.M i) j) (1):Int)≠(0:Int))))∧(((i:Nat):Int)≠((j:Nat):Int))) (φ:=fun v zq=>v= .int .i64 (((Sf.M i) j:Int).sign)) (dv.call lE (aJ ((zn 14 rfl hg))) (ji _ _ _ _ ((ah.ext qi2 zp))))) (fun hn=>(fun hg=>absurd hg hn)),fun e_ w_ zp zo zn=>pc (O:=¬((((i:Nat):Int)=((j:Nat):Int))∧((bk ((Sf.M i) j) (1):Int)≠(0:Int)))) (p:=((i:Nat):Int)≠((j:Nat):Int)) (zn 13 rfl) (fun hg=>dv.imp (p:=(¬((((i:Nat):Int)=((j:Nat):Int))∧((bk ((Sf.M i) j) (1):Int)≠(0:Int))))∧(((i:Nat):Int)≠((j:Nat):Int))) (φ:=fun v zq=>v= .bool (decide ((((Sf.M i) j:Int).sign:Int)≠(0:Int)))) (ab (cz.neq ((zn 15 rfl hg)) rfl))) (fun hn=>(fun hg=>absurd hg hn)),fun e_ w_ zp zo zn=>aC (p:=(((i:Nat):Int)=((j:Nat):Int))∧((bk ((Sf.M i) j) (1):Int)≠(0:Int))) (zn 9 rfl) (fun hg=>dv.imp (p:=¬((((i:Nat):Int)=((j:Nat):Int))∧((bk ((Sf.M i) j) (1):Int)≠(0:Int)))) (φ:=fun v zq=>v= .bool (decide ((((i:Nat):Int)≠((j:Nat):Int))∧((((Sf.M i) j:Int).sign:Int)≠(0:Int))))) (ab (aG (p:=((i:Nat):Int)≠((j:Nat):Int)) (q:=(((Sf.M i) j:Int).sign:Int)≠(0:Int)) ((zn 13 rfl).1 hg) (fun hq=>((fun hq=>zn 16 rfl ⟨hg,hq⟩) hq))))) (fun hn=>(fun hg=>absurd hn hg)),fun e_ w_ zp zo zn=>ab (ce (p:=(((i:Nat):Int)=((j:Nat):Int))∧((bk ((Sf.M i) j) (1):Int)≠(0:Int))) (q:=(((i:Nat):Int)≠((j:Nat):Int))∧((((Sf.M i) j:Int).sign:Int)≠(0:Int))) (zn 9 rfl) (fun hq=>(zn 17 rfl hq))),trivial⟩ ?_;intro e3 w14 hx9 ho5 hf1;replace hA1:=aX.ext hA1 hx9;replace hA2:=aX.ext hA2 hx9;replace hA3:=aX.ext hA3 hx9;replace hG5:=aX.ext hG5 hx9;replace hXa1:=aQ.trans hXa1 hx9;replace hXa2:=aQ.trans hXa2 hx9;replace hA6:=aX.ext hA6 hx9;replace qi2:=ah.ext qi2 hx9;replace hX2:=aQ.trans hX2 hx9;have s1_e3:e3 1= .pointer (some ⟨g1,0,none⟩):=(ho5 1 rfl).trans s1_e2;have s2_e3:e3 2= .pointer (some ⟨g2,0,none⟩):=(ho5 2 rfl).trans s2_e2;have s4_e3:e3 4= .pointer (some ⟨g3,0,none⟩):=(ho5 4 rfl).trans s4_e2;have s5_e3:e3 5= .pointer (some ⟨g4,0,none⟩):=(ho5 5 rfl).trans s5_e2;have s6_e3:e3 6= .int .i64 ((i:Nat)):=(ho5 6 rfl).trans s6_e2;have s17_e3:e3 17=s1:=(ho5 17 rfl).trans s17_e2;have s18_e3:e3 18= .int .i64 ((cx:Nat)):=(ho5 18 rfl).trans s18_e2;have s19_e3:e3 19= .int .i64 ((i:Nat)):=(ho5 19 rfl).trans s19_e2;have s24_e3:e3 24=v3:=(ho5 24 rfl).trans s24_e2;have s25_e3:e3 25= .int .i64 ((rx:Nat)):=(ho5 25 rfl).trans s25_e2;have s26_e3:e3 26= .int .i64 ((j:Nat)):=(ho5 26 rfl).trans s26_e2;have s49_e3:e3 49= .bool (decide (((((i:Nat):Int)=((j:Nat):Int))∧((bk ((Sf.M i) j) (1):Int)≠(0:Int)))∨((((i:Nat):Int)≠((j:Nat):Int))∧((((Sf.M i) j:Int).sign:Int)≠(0:Int))))):=hf1 18 rfl;refine RL.nil ?_;refine ag (((((i:Nat):Int)=((j:Nat):Int))∧((bk ((Sf.M i) j) (1):Int)≠(0:Int)))∨((((i:Nat):Int)≠((j:Nat):Int))∧((((Sf.M i) j:Int).sign:Int)≠(0:Int)))) s49_e3 (fun c49=> ?_) (fun c49=> ?_)
   ·
    refine ad ?_;refine RL.p rfl rfl (cz.build (vs:= []) [(0,1),(1,1),(2,1)] ga bE (kC) rfl) ?_;refine RL.x rfl rfl (dv.store [.int .i64 (0),.int .i64 (0),.slice (none) (0) (0)] bO s2_e3 rfl rfl hA2 (Nat.le_of_ble_eq_true rfl) (bP rfl rfl rfl)) ?_;rintro _ w15 ⟨hk4,hnew⟩;replace hA1:=hA1.keep hk4 ne1;replace hA3:=hA3.keep hk4 (Ne.symm ne3);replace hG5:=hG5.keep hk4 (Ne.symm ne5);replace hX2:=hX2.step hk4 (fun b e=>by subst e;exact hbs2);replace hA2:=hnew.lit [.int .i64 (0),.int .i64 (0),.slice (none) (0) (0)] rfl;clear hnew;refine RL.p rfl rfl (cz.assign rfl) ?_;refine RL.nil ?_;refine WP.ret ?_;refine iS.ret ?_;refine pi.ret ?_;refine pi.ret ?_;refine iS.ret ?_;refine iS.ret ?_;refine pi.ret ?_;refine pi.ret ?_;refine iS.ret ?_;refine pi.ret ?_;refine ⟨.tuple #[.agg #[.int .i64 (0),.int .i64 (0),.slice (none) (0) (0)],.int .i64 (170)],cU (ai [.int .i64 (0),.int .i64 (0),.slice (none) (0) (0)] aT s2_e3 (hA2.cells 0 _ rfl rfl)) (fR.tmp rfl),_,rfl,hX2,?_⟩;dsimp only;exact ⟨kf,Sf,hHf,.inr ⟨fun h=>qQ c49 (h.1 i j (by omega) (by omega)),rfl⟩⟩
   ·
    refine WP.skip ?_;refine iS.norm ?_;refine pi.norm ?_;refine WP.region ?_;refine RL.p rfl rfl (cz.add (c:=((j + 1:Nat):Int)) s26_e3 rfl (bN (by omega))) ?_;refine RL.p rfl rfl (cz.move rfl) ?_;refine RL.nil ?_;refine pi.norm ⟨_,(by omega),j + 1,rfl,s1_e3,s2_e3,s4_e3,s5_e3,s6_e3,s17_e3,s18_e3,s19_e3,s24_e3,s25_e3,rfl,(by omega),(gr hjd (tg c49)),hX2,hA1,hA2,hA3,hG5,hXa1,hXa2⟩
  ·
   refine WP.exit ?_;refine pi.exit ?_;refine pi.exit ?_;refine iS.same ?_;refine iS.norm ?_;refine pi.norm ?_;refine WP.region ?_;refine RL.p rfl rfl (cz.add (c:=((i + 1:Nat):Int)) s19_e2 rfl (bN (by omega))) ?_;refine RL.p rfl rfl (cz.move rfl) ?_;refine RL.nil ?_;refine pi.norm ⟨_,(by omega),i + 1,rfl,s1_e2,s2_e2,s4_e2,s5_e2,s17_e2,s18_e2,rfl,(by omega),(gr hid (fun e he=>hjd e (by omega))),hX2,hA1,hA2,hA3,hG5,hXa1⟩
 ·
  refine WP.exit ?_;refine pi.exit ?_;refine pi.exit ?_;refine iS.same ?_;refine pi.norm ?_;refine WP.seq ?_;refine ad ?_;refine RL.p rfl rfl (cz.fieldAddr bj s1_e1) ?_;refine RL.p rfl rfl (cz.load bT rfl (hA1.at_ (i:=0) rfl rfl)) ?_;refine RL.p rfl rfl (cz.fieldAddr bF s1_e1) ?_;refine RL.p rfl rfl (cz.load bT rfl (hA1.at_ (i:=1) rfl rfl)) ?_;refine RL.p rfl rfl (cz.gtr rfl rfl) ?_;refine RL.nil ?_;refine ag (((cx:Nat):Int)<((rx:Nat):Int)) rfl (fun c57=> ?_) (fun c57=> ?_)
  ·
   refine ad ?_;refine RL.p rfl rfl (cz.build (vs:= []) [(0,1),(1,1),(2,1)] ga bE (kC) rfl) ?_;refine RL.x rfl rfl (dv.store [.int .i64 (0),.int .i64 (0),.slice (none) (0) (0)] bO s2_e1 rfl rfl hA2 (Nat.le_of_ble_eq_true rfl) (bP rfl rfl rfl)) ?_;rintro _ w16 ⟨hk5,hnew⟩;replace hA1:=hA1.keep hk5 ne1;replace hG5:=hG5.keep hk5 (Ne.symm ne5);replace hX1:=hX1.step hk5 (fun b e=>by subst e;exact hbs2);replace hA2:=hnew.lit [.int .i64 (0),.int .i64 (0),.slice (none) (0) (0)] rfl;clear hnew;refine RL.p rfl rfl (cz.assign rfl) ?_;refine RL.nil ?_;refine WP.ret ?_;refine pi.ret ?_;refine ⟨.tuple #[.agg #[.int .i64 (0),.int .i64 (0),.slice (none) (0) (0)],.int .i64 (170)],cU (ai [.int .i64 (0),.int .i64 (0),.slice (none) (0) (0)] aT s2_e1 (hA2.cells 0 _ rfl rfl)) (fR.tmp rfl),_,rfl,hX1,?_⟩;dsimp only;exact ⟨kf,Sf,hHf,.inr ⟨fun h=>by have:=h.2;omega,rfl⟩⟩
  ·
   refine WP.skip ?_;refine pi.norm ?_;have hBw1:w.heap.size≤w10.heap.size:=hX1.size;refine ay aq 8 [fun v zq=>v= .pointer (some ⟨g4,6,none⟩),fun v zq=>v= .agg #[.int .i64 ((cx:Nat)),.int .i64 ((cx:Nat)),s3],fun v zq=>ck zq v w10.heap.size cx cx ((fun i j=>Sf.V j i)) b,fun v zq=>v= .pointer (some ⟨g1,0,none⟩),fun v zq=>v= .int .i64 ((rx:Nat)),fun v zq=>v= .pointer (some ⟨g1,1,none⟩),fun v zq=>v= .int .i64 ((cx:Nat)),fun v zq=>bo zq v (cx - rx) cx ((fun a=>(fun i j=>Sf.V j i) (rx + a))) b] rfl rfl ⟨aa _,aa _,bZ _ _ _ _ _,aa _,aa _,aa _,aa _,gK _ _ _ _,trivial⟩ ⟨fun e_ w_ zp zo zn=>ab (cz.fieldAddr tU (((zo 5 rfl).trans s5_e1))),fun e_ w_ zp zo zn=>ab (af [.int .i64 ((cx:Nat)),.int .i64 ((cx:Nat)),s3] aT ((zn 0 rfl)) ((aX.ext hG5 zp).cells 6 _ rfl rfl)),fun e_ w_ zp zo zn=>dv.mono (dv.call vJ (aJ ((zn 1 rfl))) (jy _ _ _ _ _ _ (bo.mk (cu.ext (cu.ext hS3 hXa1) zp) (by omega) (by omega)))) fun v zr hv=>⟨hv.1,ck.low hv.2 zp.size⟩,fun e_ w_ zp zo zn=>ab (cz.fieldAddr bj (((zo 1 rfl).trans s1_e1))),fun e_ w_ zp zo zn=>ab (cz.load bT ((zn 3 rfl)) ((aX.ext hA1 zp).at_ (i:=0) rfl rfl)),fun e_ w_ zp zo zn=>ab (cz.fieldAddr bF (((zo 1 rfl).trans s1_e1))),fun e_ w_ zp zo zn=>ab (cz.load bT ((zn 5 rfl)) ((aX.ext hA1 zp).at_ (i:=1) rfl rfl)),fun e_ w_ zp zo zn=>dv.call vK (cT rfl ((zn 4 rfl)) ((zn 6 rfl))) (sH _ _ _ _ _ _ rx cx (ck.matV (zn 2 rfl)) (by omega) (by omega)),trivial⟩ ?_;intro e4 w17 hx10 ho6 hf2;replace hA1:=aX.ext hA1 hx10;replace hA2:=aX.ext hA2 hx10;replace hG5:=aX.ext hG5 hx10;replace hXa1:=aQ.trans hXa1 hx10;replace hX1:=aQ.trans hX1 hx10;have s2_e4:e4 2= .pointer (some ⟨g2,0,none⟩):=(ho6 2 rfl).trans s2_e1;have s66_e4:bo w17 (e4 66) (cx - rx) cx ((fun a=>(fun i j=>Sf.V j i) (rx + a))) b:=hf2 7 rfl;obtain ⟨sv1,hq3,hr1,hc1,hS1⟩:=s66_e4.form;refine RL.x rfl rfl (dv.store [.int .i64 ((cx - rx:Nat)),.int .i64 ((cx:Nat)),sv1] bO s2_e4 hq3 rfl hA2 (Nat.le_of_ble_eq_true rfl) (bP rfl rfl hS1.one)) ?_;rintro _ w18 ⟨hk6,hnew⟩;replace hA1:=hA1.keep hk6 ne1;replace hG5:=hG5.keep hk6 (Ne.symm ne5);replace hS1:=aA hS1 hk6 hA2 (by decide);replace s66_e4:=cS s66_e4 hk6 hA2 (by decide);replace hX1:=hX1.step hk6 (fun b e=>by subst e;exact hbs2);replace hA2:=hnew.lit [.int .i64 ((cx - rx:Nat)),.int .i64 ((cx:Nat)),sv1] rfl;clear hnew;refine RL.p rfl rfl (cz.assign rfl) ?_;refine RL.nil ?_;refine WP.ret ?_;refine ⟨.tuple #[.agg #[.int .i64 ((cx - rx:Nat)),.int .i64 ((cx:Nat)),sv1],.int .i64 (0)],cU (ai [.int .i64 ((cx - rx:Nat)),.int .i64 ((cx:Nat)),sv1] aT s2_e4 (hA2.cells 0 _ rfl rfl)) (fR.tmp rfl),_,rfl,hX1,?_⟩;dsimp only;exact ⟨kf,Sf,hHf,.inl ⟨fun a e ha he=>hid a (by omega) e he,by omega,_,rfl,(bo.mk hS1 (by omega) (by omega))⟩⟩
end Go.TL
namespace Go.TL
open Go.RowKit
set_option linter.unusedVariables false
section
variable {P:Program} {e:cM} {w:World} {d:Option Tmp} {ty:TypeId} {pos:String} {after:Array Edge} {gd:Option (Nat×Bool)}
theorem og {t bb g1 c1 g gh m dd c b B:Nat} {x y:Operand} {v:Value} {z:Nat→Int} {M:Nat→Nat→Int} {ρ:Nat→Nat} (ht:sliceB P t 37 1 bb=true) (hb:bb≤32) (hz:(P.info? 37).bind (·.zero)=some (.slice none 0 0))
    (hx:ev e x= .slice (some ⟨gh,0,none⟩) dd m) (hy:ev e y= .slice (some ⟨g1,0,none⟩) 1 c1) (hM:cA w B gh m dd c ρ M b) (hT:aX w g1 37 1 (bG [v])) (hS:bU w v g c) (hR:cQ w g c z b) (hzz:∀j,j<c→M dd j=z j) (hB:B≤g)
    (hBw:B≤w.heap.size) (hnew:∀i,i<dd→ρ i≠g) (hd:dd<65536):
    dv P ⟨d,.call {callee:= .builtin .append,args:= #[x,y],argTypes:= #[t,t]},ty,pos,after,gd⟩ e w
      (fun v' w'=>Keeps (fun b=>b=gh) w w'∧∃gh' m',v'= .slice (some ⟨gh',0,none⟩) (dd + 1) m'∧cA w' B gh' m' (dd + 1) c (bS ρ dd g) M b):=by
  have hne:=fun k (hk:k<dd)=>hM.ne hk
  have hnu:=hM.nu;obtain ⟨h1,h2,⟨h3,h3b,f,h6,h7⟩,h4,h5⟩:=hM;have hgne:g≠gh:=by
    obtain ⟨m',f',_,ha',_⟩:=hR;exact ha'.ne h6 (by decide)
  obtain ⟨kk,hvk,_,_⟩:=id hS;refine dv.mono (gj (n:=dd) (cap:=m) (kk:=1) (h:=fun _=>v) (f:=f) [.slice none 0 0] ht hb hz rfl rfl (by decide) hx hy (by rw [Nat.mul_one];exact h6) h3 h3b.1 (fun i hi=> ?_) (fun i hi=>hS.one) (by omega)) ?_
  · have:i=0:=by omega
    subst this;exact hT.cell (i:=0) (by decide)
  · rintro v' w' ⟨hk,gh',m',f',rfl,g5,g6,g7,g8,g9,g10⟩
    simp only [Nat.mul_one] at g8 g9 g10;refine ⟨hk,gh',m',rfl,?_,h2,⟨g5,⟨g6,by omega⟩,f',g8,fun i hi=> ?_⟩,fun i hi=> ?_,fun i j hi hj e=> ?_⟩
    · rcases g7 with g7 | g7
      · rw [g7.1];exact h1
      · omega
    · by_cases e:i=dd
      · subst e;rw [bg]
        have:=g10 0 (by decide);rw [Nat.add_zero] at this;rw [this];exact hS
      · rw [be _ _ _ _ e,g9 i (by omega)];exact h7 i (by omega)
    · by_cases e:i=dd
      · subst e;rw [bg];exact ⟨hB,(hR.keep hk hgne hnu).congr fun j hj=>(hzz j hj).symm⟩
      · rw [be _ _ _ _ e];exact ⟨(h4 i (by omega)).1,(h4 i (by omega)).2.keep hk (fun e2=>hne i (by omega) e2.symm) hnu⟩
    · by_cases e1:i=dd<;>by_cases e2:j=dd
      · omega
      · rw [e1,bg,be _ _ _ _ e2] at e;exact absurd e.symm (hnew j (by omega))
      · rw [e2,bg,be _ _ _ _ e1] at e;exact absurd e (hnew i (by omega))
      · rw [be _ _ _ _ e1,be _ _ _ _ e2] at e;exact h5 i j (by omega) (by omega) e
def rb (w:World) (v:Value) (B r c:Nat) (M:Nat→Nat→Int) (b:Nat):Prop:=∃gh k ρ,v= .slice (some ⟨gh,0,none⟩) r k∧cA w B gh k r c ρ M b
theorem rb.ext {w w':World} {v:Value} {B r c b:Nat} {M:Nat→Nat→Int} (h:rb w v B r c M b) (hx:aQ w w'):rb w' v B r c M b:=by obtain ⟨gh,k,ρ,h1,h2⟩:=h;exact ⟨gh,k,ρ,h1,h2.ext hx⟩
theorem so (B r c:Nat) (M:Nat→Nat→Int) (b:Nat):dG (fun v w=>rb w v B r c M b):=fun _ _ _ h hx=>h.ext hx
theorem rb.hdrV {v:Value} {B r c b:Nat} {M:Nat→Nat→Int} (h:rb w v B r c M b):cu w v r c M b:=by obtain ⟨gh,k,ρ,rfl,h2⟩:=h;exact h2.hdrV h2.dlim.1 h2.dlim.2.1
theorem lp {t i ft B r c b:Nat} {x:Operand} {v:Value} {M:Nat→Nat→Int} (hf:ig P t i ft 2=true) (ho:fI P ft=true) (hx:ev e x=v) (hM:ck w v B r c M b):
    dv P ⟨d,.field t x i,ty,pos,after,gd⟩ e w (fun v' w'=>w=w'∧rb w' v' B r c M b):=by
  obtain ⟨gh,k',ρ,rfl,hMx⟩:=hM;refine de (φ:=fun v' w'=>rb w' v' B r c M b) (v:= .slice (some ⟨gh,0,none⟩) r k') ?_ ⟨gh,k',ρ,rfl,hMx⟩
  unfold ig at hf
  split at hf
  · rename_i fs hs
    split at hf
    · rename_i fd hfd
      simp only [Bool.and_eq_true] at hf;have e1:=Nat.eq_of_beq_eq_true hf.1;have e2:=Nat.eq_of_beq_eq_true hf.2;subst e2;have hn:(isAgg fd.type).run P w= .ok false w:=by
        unfold fI at ho
        cases hu:P.underlying fd.type with
        | none=>rw [hu] at ho;cases ho
        | some dsc=>
          rw [hu] at ho;cases dsc<;>first | (simp at ho;done) | simp [isAgg,run_underlying hu]
      simp only [cz,execOp,hx,Instr.field,Sem.run_bind,run_underlying hs,Result.andThen_ok,hfd,asAgg,Sem.run_pure,part,hn,Bool.false_eq_true,if_false,e1]
      rfl
    · cases hf
  · cases hf
def fe (r:Nat) (M N:Nat→Nat→Int):Nat→Nat→Int:=fun i=>if i<r then M i else N (i - r)
theorem ls {t bb gh m r1 r2 c b B B2:Nat} {x y:Operand} {v:Value} {M M2:Nat→Nat→Int} {ρ:Nat→Nat} (ht:sliceB P t 37 1 bb=true) (hb:bb≤32) (hz:(P.info? 37).bind (·.zero)=some (.slice none 0 0))
    (hx:ev e x= .slice (some ⟨gh,0,none⟩) r1 m) (hy:ev e y=v) (hM:cA w B gh m r1 c ρ M b) (hH:rb w v B2 r2 c M2 b) (hgh:B2>gh) (h16:r1 + r2≤65536):
    dv P ⟨d,.call {callee:= .builtin .append,args:= #[x,y],argTypes:= #[t,t]},ty,pos,after,gd⟩ e w
      (fun v' w'=>Keeps (fun b=>b=gh) w w'∧cu w' v' (r1 + r2) c (fe r1 M M2) b):=by
  have hne:=fun k (hk:k<r1)=>hM.ne hk
  have hnu:=hM.nu;obtain ⟨h1,h2,⟨h3,h3b,f,h6,h7⟩,h4,h5⟩:=hM;obtain ⟨gh2,k2,ρ2,rfl,hM2⟩:=hH;have hne2:=fun k (hk:k<r2)=>hM2.ne hk
  obtain ⟨j1,j2,⟨j3,j3b,f2,j6,j7⟩,j4,j5⟩:=hM2;refine dv.mono (gj (n:=r1) (cap:=m) (kk:=r2) (h:=f2) (f:=f) [.slice none 0 0] ht hb hz rfl rfl (by decide) hx hy (by rw [Nat.mul_one];exact h6) h3 h3b.1 (fun i hi=>by rw [Nat.zero_add];exact j6.cell (by omega)) (fun i hi=>(j7 i (by omega)).one) (by omega)) ?_;rintro v' w' ⟨hk,gh',m',f',rfl,g5,g6,g7,g8,g9,g10⟩;simp only [Nat.mul_one] at g8 g9 g10;refine ⟨hk,_,_,rfl,g5,⟨g6,h16,h2.2⟩,fun _=>⟨gh',0,m',f',rfl,by omega,g8,fun i hi=> ?_⟩⟩;rw [Nat.zero_add]
  unfold fe
  by_cases e:i<r1
  · rw [if_pos e,g9 i e]
    exact (h7 i e).rowV ((h4 i e).2.keep hk (fun e2=>hne i e e2.symm) hnu)
  · rw [if_neg e]
    have:=g10 (i - r1) (by omega);rw [show r1 + (i - r1)=i by omega] at this;rw [this];refine (j7 (i - r1) (by omega)).rowV ((j4 (i - r1) (by omega)).2.keep hk (fun e2=> ?_) hnu);have:=(j4 (i - r1) (by omega)).1;omega
theorem cu.cells1 {v:Value} {n c b:Nat} {M:Nat→Nat→Int} (h:cu w v n c M b):v.cells= [v].toArray:=by obtain ⟨A,k,rfl,_⟩:=h;rfl
theorem ci.cells1 {v:Value} {n b:Nat} {z:Nat→Int} (h:ci w v n z b):v.cells= [v].toArray:=by obtain ⟨A,k,rfl,_⟩:=h;rfl
end
theorem qo (M:Nat→Nat→Int) (i j:Nat):fm M i j (M i j)=M:=by
  funext a c;unfold fm;split
  · rename_i h;rw [h.1,h.2]
  · rfl
theorem je (F:Nat→Nat→Int):(fun _ _=>0)=cD F 0 0:=by funext a c;rw [kD]
theorem sd (F:Nat→Nat→Int) (i j:Nat):cD F i j i j=0:=by unfold cD;rw [if_neg (by omega)]
def vY (n:Nat):Nat→Nat→Int:=fun a c=>if a<n∧a=c then 1 else 0
theorem uY:(fun _ _=>0)=vY 0:=by funext a c;unfold vY;rw [if_neg (by omega)]
theorem uX (i:Nat):fm (vY i) i i 1=vY (i + 1):=by
  funext a c;unfold fm vY
  by_cases h:a=i∧c=i
  · rw [if_pos h,if_pos (by omega)]
  · rw [if_neg h]
    by_cases h2:a<i∧a=c
    · rw [if_pos h2,if_pos (by omega)]
    · rw [if_neg h2,if_neg (by omega)]
theorem uZ {n a:Nat} (c:Nat) (h:a<n):vY n a c=bI a c:=by unfold vY bI;by_cases e:a=c<;>simp [e,h];omega
theorem tQ (F:Nat→Nat→Int):(fun _ _=>0)=fX (cD F 0 0):=by funext a c;unfold fX;rw [kD]
theorem tP (F:Nat→Nat→Int) (i j:Nat):fm (fX (cD F i j)) j i (F i j)=fX (cD F i (j + 1)):=by
  rw [←fr]
  funext a c;unfold fX fm
  by_cases h:a=j∧c=i
  · rw [if_pos h,if_pos ⟨h.2,h.1⟩]
  · rw [if_neg h,if_neg (fun h2=>h ⟨h2.2,h2.1⟩)]
theorem mul_zero (F:Nat→Nat→Int) (i j:Nat):cD F i j=fm (cD F i j) i j 0:=by
  have:=qo (cD F i j) i j;rw [sd] at this;exact this.symm
theorem rb.up {w:World} {v:Value} {B r c b b':Nat} {M:Nat→Nat→Int} (h:rb w v B r c M b) (hb:b≤b') (hl:b'≤bl):rb w v B r c M b':=by
  obtain ⟨gh,k,ρ,h1,h2⟩:=h;exact ⟨gh,k,ρ,h1,h2.up hb hl⟩
def dN (f:Nat→Int) (n c:Nat):Nat→Nat→Int:=fun i j=>if i*c + j<n then (f (i*c + j)).tmod 10 else 0
def fx (f:Nat→Int) (n c:Nat):Nat→Nat→Int:=fun i j=>if i*c + j<n then f (i*c + j) else 0
theorem rh (x:Int):(x.tmod 10).natAbs<10:=by rw [Int.natAbs_tmod];exact Nat.mod_lt _ (by decide)
theorem oA (x:Int): -9223372036854775808≤x.tmod 10∧x.tmod 10<9223372036854775808:=by have:=rh x;omega
theorem vz (x:Int):(x.tmod 10).natAbs<2^4:=by have:=rh x;omega
theorem dS (f:Nat→Int) (n c i j:Nat):(dN f n c i j).natAbs<2^4:=by
  unfold dN;split
  · exact vz _
  · decide
theorem sU {f:Nat→Int} {n c i j:Nat} (h:i*c + j<n):(f (i*c + j)).tmod 10=dN f n c i j:=by unfold dN;rw [if_pos h]
theorem sJ {f:Nat→Int} {n c i j:Nat} (h:i*c + j<n):f (i*c + j)=fx f n c i j:=by unfold fx;rw [if_pos h]
theorem sv {r c r' c':Nat} {M M':Nat→Nat→Int} (h:¬(r=r'∧c=c')):decide (en r c r' c' M M')=false:=decide_eq_false fun e=>h ⟨e.1,e.2.1⟩
theorem sw {r c r' c' i:Nat} {M M':Nat→Nat→Int} (hi:i<r) (h:¬dc c c' (M i) (M' i)):decide (en r c r' c' M M')=false:=
  decide_eq_false fun e=>h ⟨e.2.1,fun j hj=>e.2.2 i hi j hj⟩
theorem qE {r c r' c':Nat} {M M':Nat→Nat→Int} (h:r=r'∧c=c') (he:∀i,i<r→dc c c' (M i) (M' i)):decide (en r c r' c' M M')=true:=
  decide_eq_true ⟨h.1,h.2,fun i hi j hj=>(he i hi).2 j hj⟩
theorem sK {f:Nat→Int} {n b:Nat} (h:∀i,i<n→(f i).natAbs<2^b) (c i j:Nat):(fx f n c i j).natAbs<2^b:=by
  unfold fx;split
  · rename_i h1;exact h _ h1
  · exact Nat.pow_pos (by decide)
theorem lJ {F:Nat→Nat→Int} {i j n:Nat} (h:∀c,j≤c→c<n→F i c=0) {a c:Nat} (hc:c<n):cD F i j a c=cD F (i + 1) 0 a c:=by
  unfold cD
  by_cases h1:a<i
  · rw [if_pos (by omega),if_pos (by omega)]
  · by_cases h2:a=i
    · subst h2
      by_cases h3:c<j
      · rw [if_pos (by omega),if_pos (by omega)]
      · rw [if_neg (by omega),if_pos (by omega),h c (by omega) hc]
    · rw [if_neg (by omega),if_neg (by omega)]
def fi (k:IntKind) (T:Nat) (w:World) (v:Value) (n:Nat) (f:Nat→Int):Prop:=∃A c,v= .slice A n c∧n≤c∧c<9223372036854775808∧(0<n→∃g o,A=some ⟨g,o,none⟩∧∀i,i<n→w.cell? ⟨g,o + i,none⟩=some (.int k (f i)))
theorem fi.ext {k:IntKind} {T:Nat} {w w':World} {v:Value} {n:Nat} {f:Nat→Int} (h:fi k T w v n f) (hx:aQ w w'):fi k T w' v n f:=by
  obtain ⟨A,c,h1,h2,h3,h4⟩:=h;exact ⟨A,c,h1,h2,h3,fun hn=>by obtain ⟨g,o,hA,hc⟩:=h4 hn;exact ⟨g,o,hA,fun i hi=>aQ.cell (hc i hi) hx⟩⟩
def lw (k:IntKind) (w:World) (v:Value) (x:Int):Prop:=∃g o,v= .pointer (some ⟨g,o,none⟩)∧w.cell? ⟨g,o,none⟩=some (.int k x)
theorem lw.ext {k:IntKind} {w w':World} {v:Value} {x:Int} (h:lw k w v x) (hx:aQ w w'):lw k w' v x:=by obtain ⟨g,o,h1,h2⟩:=h;exact ⟨g,o,h1,aQ.cell h2 hx⟩
theorem lP (k:IntKind) (x:Int):dG (fun v w=>lw k w v x):=fun _ _ _ h hx=>h.ext hx
section
variable {P:Program} {e:cM} {w:World} {d:Option Tmp} {ty:TypeId} {pos:String} {after:Array Edge} {gd:Option (Nat×Bool)}
theorem iQ {k:IntKind} {T t n j m:Nat} {x ix:Operand} {v:Value} {f:Nat→Int} {i:Int} {k2:IntKind} (ht:sliceB P t T 1 m=true) (hx:ev e x=v) (hN:fi k T w v n f) (hi:ev e ix= .int k2 i) (hij:i=(j:Int)) (hj:j<n):
    dv P ⟨d,.indexAddr t x ix,ty,pos,after,gd⟩ e w (fun v' w'=>w=w'∧lw k w' v' (f j)):=by
  obtain ⟨A,c,rfl,h2,h3,h4⟩:=hN;obtain ⟨g,o,rfl,hc⟩:=h4 (by omega);refine de (φ:=fun v' w'=>lw k w' v' (f j)) (cz.index (j:=j) ht hx hi rfl hij hj) ⟨g,_,rfl,?_⟩;rw [Nat.mul_one];exact hc j hj
theorem jB {k:IntKind} {t:Nat} {x:Operand} {v:Value} {q:Int} (ht:fI P t=true) (hx:ev e x=v) (hP:lw k w v q):cz P ⟨d,.load t x,ty,pos,after,gd⟩ e w (.int k q):=by
  obtain ⟨g,o,rfl,hc⟩:=hP;exact cz.load ht hx hc
theorem kY {k:IntKind} {T t n m:Nat} {x:Operand} {v:Value} {f:Nat→Int} (ht:sliceB P t T 1 m=true) (hx:ev e x=v) (hN:fi k T w v n f):
    cz P ⟨d,.call {callee:= .builtin .len,args:= #[x],argTypes:= #[t]},ty,pos,after,gd⟩ e w (.int .i64 (n:Nat)):=by
  obtain ⟨A,c,rfl,h2,h3,h4⟩:=hN;exact cz.len ht hx
end
end Go.TL
