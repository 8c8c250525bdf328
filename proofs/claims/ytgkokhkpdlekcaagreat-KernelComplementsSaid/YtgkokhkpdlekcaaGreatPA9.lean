/-
  KernelComplements answers true for every input, and its arguments read afterwards as they read before.
  Conditions: none.
-/
import Derived.ProofKit
import Derived.OpenShut
import Derived.ChangeOld
import Derived.Lib.SmallJoins
import Derived.Test.YtgkokhkpdlekcaaGreatPA8
namespace Go.TL
set_option linter.unusedVariables false
def ij (p i:Nat):Nat:=if i<p then i else i + 1
theorem lE {p:Nat} (f:Nat→Int):∀{n:Nat},p<n + 1→aq (n + 1) f=f p + aq n (fun i=>f (ij p i))
  | 0,h=>by
    obtain rfl:p=0:=by omega
    simp [aq]
  | n + 1,h=>by
    by_cases e:p=n + 1
    · subst e
      have h1:aq (n + 1) (fun i=>f (ij (n + 1) i))=aq (n + 1) f:=an fun i hi=>by unfold ij;rw [if_pos hi]
      rw [h1];simp only [aq];omega
    · have ih:=lE f (n:=n) (p:=p) (by omega)
      have h2:ij p n=n + 1:=by unfold ij;rw [if_neg (by omega)]
      show aq (n + 1) f + f (n + 1)=f p + (aq n (fun i=>f (ij p i)) + f (ij p n));rw [ih,h2];omega
theorem xH (p i:Nat):ij p i≠p:=by unfold ij;split<;>omega
theorem xI {p i n:Nat} (hi:i<n):ij p i<n + 1:=by unfold ij;split<;>omega
theorem jB:∀(n k:Nat),n<k→∀A:Nat→Nat→Int,∃x:Nat→Int,(∃i,i<k∧x i≠0)∧∀a,a<n→aq k (fun i=>A a i*x i)=0
  | 0,k,h,A=>⟨fun _=>1,⟨0,h,by decide⟩,fun a ha=>absurd ha (by omega)⟩
  | n + 1,k,h,A=>by
    by_cases hz:∀i,i<k→A n i=0
    · obtain ⟨x,hx,hs⟩:=jB n k (by omega) A
      refine ⟨x,hx,fun a ha=> ?_⟩
      by_cases e:a=n
      · subst e;exact bX fun i hi=>by rw [hz i hi,Int.zero_mul]
      · exact hs a (by omega)
    · have hp:∃p,p<k∧A n p≠0:=Classical.byContradiction fun hn=>hz fun i hi=>Classical.byContradiction fun e=>hn ⟨i,hi,e⟩
      obtain ⟨p,hp,hA⟩:=hp;obtain ⟨m,rfl⟩:∃m,k=m + 1:=⟨k - 1,by omega⟩
      obtain ⟨x,⟨i0,hi0,hx0⟩,hs⟩:=jB n m (by omega) (fun a i=>A n p*A a (ij p i) - A a p*A n (ij p i));have hch:∃y:Nat→Int,y p= -aq m (fun i=>A n (ij p i)*x i)∧∀i,i<m→y (ij p i)=A n p*x i:=by
        refine ⟨fun c=>if c=p then -aq m (fun i=>A n (ij p i)*x i) else A n p*x (if c<p then c else c - 1),by simp,fun i hi=> ?_⟩;have h2:(if ij p i<p then ij p i else ij p i - 1)=i:=by
          unfold ij
          by_cases h:i<p
          · rw [if_pos h,if_pos h]
          · rw [if_neg h,if_neg (by omega),Nat.add_sub_cancel]
        simp only [if_neg (xH p i),h2]
      obtain ⟨y,hy1,hy2⟩:=hch;have hsum:∀a,aq (m + 1) (fun i=>A a i*y i)=aq m (fun i=>(A n p*A a (ij p i) - A a p*A n (ij p i))*x i):=fun a=>by
        rw [lE (fun i=>A a i*y i) hp];rw [hy1,an (f:=fun i=>A a (ij p i)*y (ij p i)) (g:=fun i=>A n p*(A a (ij p i)*x i)) fun i hi=>by rw [hy2 i hi,Int.mul_left_comm]];rw [an (f:=fun i=>(A n p*A a (ij p i) - A a p*A n (ij p i))*x i) (g:=fun i=>A n p*(A a (ij p i)*x i) - A a p*(A n (ij p i)*x i)) fun i hi=>by rw [Int.sub_mul,Int.mul_assoc,Int.mul_assoc]];rw [fh,ed (A n p),ed (A a p),Int.mul_neg];omega
      refine ⟨y,⟨ij p i0,xI hi0,by rw [hy2 i0 hi0];exact Int.mul_ne_zero hA hx0⟩,fun a ha=> ?_⟩;rw [hsum a]
      by_cases e:a=n
      · subst e
        refine bX fun i hi=> ?_
        rw [Int.sub_self,Int.zero_mul]
      · exact hs a (by omega)
theorem dZ.free {k c:Nat} {M:Nat→Nat→Int} {P:Nat→Nat} (h:dZ k c M P) {x:Nat→Int} (hx:∀j,j<c→aq k (fun i=>x i*M i j)=0):∀i,i<k→x i=0:=by
  rcases h.lead (a:=x) (v:=fun _=>0) (fun j hj=>(hx j hj).symm) with h1 | ⟨j,_,_,h2,_⟩
  · exact h1
  · exact absurd rfl h2
theorem dZ.le {k k' c:Nat} {M M':Nat→Nat→Int} {P P':Nat→Nat} (h:dZ k c M P) (h':dZ k' c M' P') (hs:∀i,i<k'→er k c M (M' i)):k'≤k:=by
  apply Classical.byContradiction;intro hn
  have hc:∃C:Nat→Nat→Int,∀i,i<k'→∀j,j<c→M' i j=aq k (fun n=>C i n*M n j):=by
    have:∀i,∃a:Nat→Int,i<k'→∀j,j<c→M' i j=aq k (fun n=>a n*M n j):=fun i=>by
      by_cases hi:i<k'
      · obtain ⟨a,ha⟩:=hs i hi;exact ⟨a,fun _=>ha⟩
      · exact ⟨fun _=>0,fun h=>absurd h hi⟩
    exact ⟨fun i=>(this i).choose,fun i hi=>(this i).choose_spec hi⟩
  obtain ⟨C,hC⟩:=hc;obtain ⟨x,⟨i,hi,hxi⟩,hx⟩:=jB k k' (by omega) (fun n i=>C i n);refine hxi (h'.free (x:=x) (fun j hj=> ?_) i hi);rw [an (g:=fun i=>x i*ci k C M i j) fun i hi=>by rw [hC i hi j hj];rfl,cB];refine bX fun n hn=> ?_
  rw [an (g:=fun i=>C i n*x i) fun i _=>Int.mul_comm _ _,hx n hn,Int.zero_mul]
theorem dZ.perp {k k' c:Nat} {M M':Nat→Nat→Int} {P:Nat→Nat} (h:dZ k c M P) (hs:∀u:Nat→Int,(∀i,i<k'→aq c (fun j=>u j*M' i j)=0)→∀i,i<k→aq c (fun j=>M i j*u j)=0):k≤k':=by
  apply Classical.byContradiction;intro hn
  obtain ⟨x,⟨i,hi,hxi⟩,hx⟩:=jB k' k (by omega) (fun a n=>M' a (P n));have hlast:∃n,n<k∧x n≠0∧∀m,n<m→m<k→x m=0:=by
    have:∀q,q≤k→(∃n,n<k∧x n≠0∧∀m,n<m→m<k→x m=0)∨∀m,k - q≤m→m<k→x m=0:=by
      intro q
      induction q with
      | zero=>intro _;exact .inr fun m h1 h2=>by omega
      | succ q ih=>
        intro hq;rcases ih (by omega) with h1 | h1
        · exact .inl h1
        · by_cases e:x (k - (q + 1))=0
          · exact .inr fun m h2 h3=>by
              by_cases e2:m=k - (q + 1)
              · rw [e2];exact e
              · exact h1 m (by omega) h3
          · exact .inl ⟨k - (q + 1),by omega,e,fun m h2 h3=>h1 m (by omega) h3⟩
    rcases this k (Nat.le_refl _) with h1 | h1
    · exact h1
    · exact absurd (h1 i (by omega) hi) hxi
  obtain ⟨n,hn1,hn2,hn3⟩:=hlast;have hsum:∀f:Nat→Int,aq c (fun j=>aq k (fun m=>if j=P m then x m else 0)*f j)=aq k (fun m=>x m*f (P m)):=fun f=>by
    rw [an (g:=fun j=>aq k (fun m=>(if j=P m then x m else 0)*f j)) fun j _=>(lF _ _ _).symm];rw [gp];refine an fun m hm=> ?_
    rw [cf (h m hm).1 fun j hj hne=>by rw [if_neg hne,Int.zero_mul],if_pos rfl]
  have h0:=hs (fun j=>aq k (fun m=>if j=P m then x m else 0)) (fun a ha=>by
    rw [hsum,←hx a ha];exact an fun m _=>Int.mul_comm _ _) n hn1
  rw [an (g:=fun j=>aq k (fun m=>if j=P m then x m else 0)*M n j) fun j _=>Int.mul_comm _ _,hsum] at h0;rw [cf hn1 fun m hm hne=>by
    rcases Nat.lt_or_ge m n with e | e
    · rw [(h n hn1).2.2.1 (P m) ((h n hn1).2.2.2 m e).1,Int.mul_zero]
    · rw [hn3 m (by omega) hm,Int.zero_mul]] at h0
  have:=(h n hn1).2.1;rcases Int.mul_eq_zero.1 h0 with e | e
  · exact hn2 e
  · omega
theorem nC {r r' c:Nat} {A A':Nat→Nat→Int} (h:∀u:Nat→Int,(∀i,i<r→aq c (fun j=>u j*A i j)=0)↔∀i,i<r'→aq c (fun j=>u j*A' i j)=0) {v:Nat→Int}:oy r c A v↔oy r' c A' v:=
  ⟨fun hs u hu=>hs u ((h u).2 hu),fun hs u hu=>hs u ((h u).1 hu)⟩
theorem kp {r r' c:Nat} {A A':Nat→Nat→Int} (h:∀i,i<r→er r' c A' (A i)) {u:Nat→Int} (hu:∀i,i<r'→aq c (fun j=>u j*A' i j)=0):∀i,i<r→aq c (fun j=>u j*A i j)=0:=fun i hi=>by
  have:=jz (h i hi) u hu;rw [←this];exact an fun j _=>Int.mul_comm _ _
section
variable {r c k e0:Nat} {A M:Nat→Nat→Int}
structure SatB (r c:Nat) (A:Nat→Nat→Int) (k:Nat) (M:Nat→Nat→Int):Prop where
  ech:∃P,dZ k c M P
  lat:∀v,er k c M v↔oy r c A v
theorem iH.satB (h:iH r c e0 A k M):SatB r c A k M:=⟨h.lat.1,h.lat.2⟩
theorem dZ.kc {P:Nat→Nat} (h:dZ k c M P):k≤c:=by
  have:∀n,n≤k→∀i,i<n→i≤P i:=by
    intro n
    induction n with
    | zero=>intro _ i hi;omega
    | succ n ih=>
      intro hn i hi
      by_cases e:i=n
      · subst e
        rcases Nat.eq_zero_or_pos i with h0 | h0
        · omega
        · have:=ih (by omega) (i - 1) (by omega)
          have:=((h i (by omega)).2.2.2 (i - 1) (by omega)).1;omega
      · exact ih (by omega) i (by omega)
  rcases Nat.eq_zero_or_pos k with h0 | h0
  · omega
  · have:=this k (Nat.le_refl _) (k - 1) (by omega)
    have:=(h (k - 1) (by omega)).1;omega
theorem SatB.kc (h:SatB r c A k M):k≤c:=by obtain ⟨P,hP⟩:=h.ech;exact hP.kc
theorem SatB.some (h:SatB r c A k M) {i:Nat} (hi:i<k):0≤piv (M i) c:=by
  obtain ⟨P,hP⟩:=h.ech;obtain ⟨g1,g2,g3,_⟩:=hP i hi;rw [td g1 (by omega) g3];omega
theorem SatB.row (h:SatB r c A k M) {i:Nat} (hi:i<r):er k c M (A i):=(h.lat _).2 (jz (er.row hi))
theorem SatB.perp (h:SatB r c A k M) (u:Nat→Int):(∀i,i<k→aq c (fun j=>u j*M i j)=0)↔∀i,i<r→aq c (fun j=>u j*A i j)=0:=
  ⟨fun hu=>kp (fun i hi=>h.row hi) hu,fun hu i hi=>by
    have:=(h.lat _).1 (er.row hi) u hu;rw [←this];exact an fun j _=>Int.mul_comm _ _⟩
theorem SatB.satQ (h:SatB r c A k M):kP k c M:=fun v=>(h.lat v).trans (nC fun u=>(h.perp u).symm)
theorem SatB.same {r2 k2:Nat} {A2 M2:Nat→Nat→Int} (h:SatB r c A k M) (h2:SatB r2 c A2 k2 M2) (hp:∀u:Nat→Int,(∀i,i<r2→aq c (fun j=>u j*A2 i j)=0)↔∀i,i<r→aq c (fun j=>u j*A i j)=0):k2=k∧∀i j,i<k2→j<c→M2 i j=M i j:=by
  obtain ⟨P,hP⟩:=h.ech;obtain ⟨P2,hP2⟩:=h2.ech;exact hP2.unique hP fun v=>(h2.lat v).trans ((nC hp).trans (h.lat v).symm)
theorem HermR.perp {k':Nat} {e1:Nat} {S':WS} (h':HermR r c e1 A k' S') (u:Nat→Int):(∀i,i<k'→aq c (fun j=>u j*S'.M i j)=0)↔∀i,i<r→aq c (fun j=>u j*A i j)=0:=
  have hl:=fun v=>gC h'.lin h'.kr h'.ech (v:=v)
  ⟨fun hu=>kp (fun i hi=>(hl _).1 (er.row hi)) hu,fun hu=>kp (fun i hi=>(hl _).2 (er.row hi)) hu⟩
end
end Go.TL
namespace Go.TL
open Go.RowKit Go.Proofs
set_option linter.unusedVariables false
section
variable {n t:Nat} {S:WS}
theorem oM (h:Lin n n bH S) {i j:Nat} (hi:i<n) (hj:j<n):S.M i j=S.U i j:=by
  rw [h.eq i j hi hj];show aq n (fun x=>S.U i x*bH x j)=S.U i j;rw [cf hj fun x _ hne=>by simp [bH,hne]];simp [bH]
theorem sa (h:Lin n n bH S) (ht:t≤n):∀u:Nat→Int,(∀j,j<n→aq t (fun i=>u i*S.M i j)=0)→∀i,i<t→u i=0:=by
  intro u hu i hi;refine qU h (k:=0) (n:=t) (a:=u) (by omega) (fun j hj=> ?_) hi;rw [←hu j hj];exact an fun x hx=>by rw [Nat.zero_add,oM h (by omega) hj]
theorem rZ (h:Lin n n bH S) (ht:t≤n):kP t n S.M:=by
  intro v;refine ⟨jz,fun hs=> ?_⟩;have hc:∀j,j<n→v j=aq n (fun x=>aq n (fun y=>v y*S.V y x)*S.U x j):=fun j hj=>by
    rw [←cB];rw [an (g:=fun y=>v y*bH y j) fun y hy=>by rw [h.vu y j hy hj]];rw [cf hj fun x _ hne=>by simp [bH,hne]];simp [bH]
  refine ⟨fun x=>aq n (fun y=>v y*S.V y x),fun j hj=> ?_⟩;rw [hc j hj,eJ ht fun x h1 h2=> ?_]
  · exact an fun x hx=>by rw [oM h (by omega) hj]
  · have h3:=hs (fun y=>S.V y x) fun i hi=>by
      have e:=h.uv i x (by omega) h2;have e0:bH i x=0:=by unfold bH;rw [if_neg (by omega)]
      rw [←e0,←e];exact an fun y hy=>by rw [oM h (by omega) hy,Int.mul_comm]
    rw [h3,Int.zero_mul]
end
theorem wh.satB {r c e0 e1 k:Nat} {A M:Nat→Nat→Int} (h:wh r c e0 e1 A k M):SatB r c A k M:=⟨h.lat.1,h.lat.2⟩
theorem SatB.free {r c k:Nat} {A M:Nat→Nat→Int} (h:SatB r c A k M):∀u:Nat→Int,(∀j,j<c→aq k (fun i=>u i*M i j)=0)→∀i,i<k→u i=0:=by
  obtain ⟨P,hP⟩:=h.ech;exact fun u hu=>hP.free hu
theorem wh.bd {r c e0 e1 e2 k:Nat} {A M:Nat→Nat→Int} (h:wh r c e0 e1 A k M) (he:∀k,k≤c→eR (eR e1 c k) (c - k) (c - k)≤e2) {i j:Nat} (hi:i<k) (hj:j<c):(M i j).natAbs≤2^e2:=by
  obtain ⟨k1,K1,h1,h2⟩:=h;exact h2.bd he hi hj
def ER:Nat:=1153031
def EC:Nat:=3100000000
theorem ck1:∀c,c<5→∀k,k<5→eR (eR E1 c k) (c - k) (c - k)≤ER:=by decide
theorem Ao:∀c,c<5→bB ER c≤B1∧bB 24 c≤B1∧bR EC c≤B1:=by decide
theorem ck3:∀k,k<5→gB ER k≤EC∧gB 24 k≤EC:=by decide
theorem ck4:1 + ER≤B1∧1 + 24≤B1∧2 + EC≤B1 + 1∧ER≤EC∧24≤EC∧2*(B1 + 1) + 300≤aZ∧2*B1 + 4≤aZ:=by decide
theorem nJ {w:World} {x y:Value} {r c R' C' k e0 bx:Nat} {M Mc:Nat→Nat→Int} {S:WS} (hx:bf w x r c M bx) (hbx:bx≤B1) (hy:bf w y R' C' Mc B1) (h5:c<5) (hMb:∀i j,i<r→j<c→(M i j).natAbs≤2^e0) (he:e0≤EC) (hg:∀k,k<5→gB e0 k≤EC) (hH:Herm c r e0 (fS M) k S)
    (hid:∀i j,i<c→j<r→S.M i j=bH i j) (hrc:r≤c) (hR:R'=c - r) (hC:C'=c) (hMc:Mc=fun a e=>S.V e (r + a)):Calls Tryz.prog 17 #[x,y] w (cb w fun v _=>v= .bool (decide True)):=by
  subst hR;subst hC;subst hMc;have h1:=(Ao C' h5).2.2;have hn:r + (C' - r)=C':=by omega
  refine (jm w x r C' M bx y (C' - r) _ B1 EC (B1 + 1) hx hy (by omega) hn ?_ (by omega) (Nat.le_refl _) (by rw [hn];exact Nat.le_succ_of_le h1) ck4.2.2.1 ck4.2.2.2.2.2.1 fun k4 S4 h4=>kL hH.lin hH.kr hH.kc hH.ech hid hrc h4).mono fun _ w' ⟨v,g1,g2,g3⟩=>⟨v,g1,g2,g3⟩
  intro i j hi hj
  unfold eL
  split
  · rename_i h
    exact Nat.le_trans (hMb i j h hj) (Nat.pow_le_pow_right (by decide) he)
  · exact Nat.le_trans (hH.bv j (r + (i - r)) hj (by omega)) (Nat.pow_le_pow_right (by decide) (hg k (by have:=hH.kr;omega)))
theorem oa (w:World) (x:Value) (rx cx:Nat) (Mx:Nat→Nat→Int) (btx e0:Nat) (hx:bf w x rx cx Mx btx) (h8:cx<5) (hM:∀i j,i<rx→j<cx→(Mx i j).natAbs≤2^e0) (hb:bB e0 cx≤B1) (hb1:1 + e0≤B1)
    (hf:∀u:Nat→Int,(∀j,j<cx→aq rx (fun i=>u i*Mx i j)=0)→∀i,i<rx→u i=0) (hq:kP rx cx Mx):
    Calls Tryz.prog 10 #[x] w (cb w fun v w'=>∃k S s',Herm cx rx e0 (fS Mx) k S∧(∀i j,i<cx→j<rx→S.M i j=bH i j)∧rx≤cx∧v= .tuple #[.agg #[.int .i64 ((cx - rx:Nat):Int),.int .i64 ((cx:Nat):Int),s'],.int .i64 0]∧cE w' s' (cx - rx) cx (fun a e=>S.V e (rx + a)) B1):=by
  refine (fY w x rx cx Mx btx e0 B1 hx (by omega) hM hb hb1 ck4.2.2.2.2.2.2).mono ?_;rintro e w' ⟨v,rfl,hx',k,S,R',C',st,s',Mc,hH,rfl,hR,hC,hs,hcase⟩;obtain ⟨h1,h2⟩:=fZ hH.lin hH.kr hH.kc hH.ech hf hq;rcases hcase with ⟨_,rfl,rfl,rfl,rfl⟩ | ⟨h,_⟩
  · exact ⟨_,rfl,hx',k,S,s',hH,h1,h2,rfl,hs⟩
  · exact absurd ⟨h1,h2⟩ h
def yn (P:Program) (t el n m:Nat):Bool:=(match P.underlying t with | some (.array n' e')=>Nat.beq n' n&&Nat.beq e' el | _=>false)&&(match P.info? el with | some i=>Nat.beq i.size m | none=>false)
section
variable {P:Program} {e:cA} {w:World} {d:Option Tmp} {ty:TypeId} {pos:String} {after:Array Edge} {gd:Option (Nat×Bool)}
theorem iL {t el n m g o j:Nat} {x ix:Operand} {i:Int} {k:IntKind} (ht:yn P t el n m=true) (hx:ev e x= .pointer (some ⟨g,o,none⟩)) (hi:ev e ix= .int k i) (hij:i=(j:Int)) (hj:j<n):
    cn P ⟨d,.indexAddr t x ix,ty,pos,after,gd⟩ e w (.pointer (some ⟨g,o + j*m,none⟩)):=by
  subst hij
  unfold yn at ht
  simp only [Bool.and_eq_true] at ht;obtain ⟨h1,h2⟩:=ht;cases hu:P.underlying t with
  | none=>rw [hu] at h1;cases h1
  | some dsc=>
    rw [hu] at h1;cases dsc<;>first | (simp at h1;done) | skip
    rename_i n' e'
    simp only [Bool.and_eq_true] at h1;have e1:=Nat.eq_of_beq_eq_true h1.1;have e2:=Nat.eq_of_beq_eq_true h1.2;subst e1;subst e2;cases hi0:P.info? e' with
    | none=>rw [hi0] at h2;cases h2
    | some i0=>
      rw [hi0] at h2;have e3:=Nat.eq_of_beq_eq_true h2;subst e3;have h3:(0:Int)≤j∧(j:Int)<(n':Int):=by omega
      simp [cn,execOp,hx,hi,Instr.indexAt,Instr.sureAddr,run_underlying hu,asIntOf,sizeOf,typeInfo,hi0,Addr.add_lit];intro h;omega
end
end Go.TL
namespace Go.TL
open Go.RowKit Go.Proofs
set_option linter.unusedVariables false
set_option linter.unusedSimpArgs false
section
set_option maxRecDepth 100000
theorem zi:az Tryz.prog 31=true:=by kernel_rfl
theorem wr:yn Tryz.prog 55 5 2 1=true:=by kernel_rfl
end
set_option maxRecDepth 10000 in
set_option maxHeartbeats 1600000 in
theorem lh (w:World) (wa wb:Nat) (l:Value) (m:Nat) (ka ki kj:Nat→Nat) (kk:Nat→Int) (R C:Nat) (lx:Value) (n:Nat) (f:Nat→Int) (hwa:wa<256) (hwb:wb<256) (hl:oK w l m ka ki kj kk) (hkb:∀i,i<m→ki i<256∧kj i<256∧ka i<256) (hlx:fw .i8 77 w lx n f) (hR:R<256) (hC:C<256) (hsan:∀w,Calls Tryz.prog 7 #[] w (cb w fun v _=>v= .bool true)):Calls Tryz.prog 6 #[.agg #[.int .u8 (wa:Nat),.int .u8 (wb:Nat)],l,.agg #[.int .u8 (R:Nat),.int .u8 (C:Nat),lx]] w (cb w fun v w'=>v= .bool true):=by
 have hLIM:aZ=562949953421312:=rfl;have hlm:m<9223372036854775808:=by obtain ⟨_,_,_,h2,h3,_⟩:=hl;omega
 have hu1:=fF (C % 5) (by omega);have hn2:=fun k (hk:k<5)=>Ah (C % 5) (by omega) k hk
 have hcE:∀k,k≤C % 5→eR (eR E1 (C % 5) k) (C % 5 - k) (C % 5 - k)≤ER:=fun k hk=>ck1 (C % 5) (by omega) k (by omega)
 have hkc1:=Ao (wa % 5) (by omega);have hkc2:=Ao (C % 5) (by omega);obtain ⟨tt,htt⟩:∃tt,tt=wb % (wa % 5 + 1):=⟨_,rfl⟩
 have httl:tt<wa % 5 + 1:=by rw [htt];exact Nat.mod_lt _ (by omega)
 refine aj (N:=64) (rs:= #[.tmp 6]) Tryz.func6 rfl rfl rfl (Nat.le_of_ble_eq_true rfl) ?_;have hX:aG w w:=aG.refl w;refine ab ?_;refine RL.x rfl rfl (cX.box [.int .u8 ((wa:Nat)),.int .u8 ((wb:Nat))] rfl rfl) ?_;rintro _ w1 ⟨g1,rfl,hge1,hx1,hA1⟩;replace hX:=aG.trans hX hx1;refine RL.x rfl rfl (cX.box [.int .u8 ((R:Nat)),.int .u8 ((C:Nat)),lx] rfl rfl) ?_;rintro _ w2 ⟨g2,rfl,hge2,hx2,hA2⟩;replace hA1:=aR.ext hA1 hx2;replace hX:=aG.trans hX hx2;refine RL.p rfl rfl (cn.assign rfl) ?_;refine RL.nil ?_;refine ab ?_;refine RL.x rfl rfl (cX.call Aa (ov) (hsan _)) ?_;rintro _ w3 ⟨hx3,rfl⟩;replace hA1:=aR.ext hA1 hx3;replace hA2:=aR.ext hA2 hx3;replace hX:=aG.trans hX hx3;refine RL.p rfl rfl (cn.assign rfl) ?_;refine RL.nil ?_;refine ab ?_;refine RL.p rfl rfl (iL (j:=0) wr rfl rfl rfl (by decide)) ?_;refine RL.p rfl rfl (cn.load oO rfl (hA1.at_ (i:=0) rfl rfl)) ?_;refine RL.p rfl rfl (cn.rem (c:=((wa % 5:Nat):Int)) rfl rfl (by omega) rfl) ?_;refine RL.p rfl rfl (ax (c:=((wa % 5:Nat):Int)) nk nl rfl (bA ⟨by omega,by omega,rfl⟩)) ?_;have hBw1:w.heap.size≤w3.heap.size:=hX.size;refine RL.x rfl rfl (cX.call nt (aE rfl) (eM _ (wa % 5) (by omega))) ?_;rintro v1 w4 ⟨hx4,q1⟩;replace hA1:=aR.ext hA1 hx4;replace hA2:=aR.ext hA2 hx4;replace hX:=aG.trans hX hx4;refine RL.p rfl rfl (cn.move rfl) ?_;refine RL.x rfl rfl (cX.call zi (aA rfl rfl) (vh _ _ _ _ _ _ 0 40 _ m ka ki kj kk (cz.matV q1) (fun i j _ _=>pt i j) (by decide) (by decide) (by decide) (oK.ext hl hX) hkb)) ?_;rintro v2 w5 ⟨hx5,Su,hMv,q2⟩;replace hA1:=aR.ext hA1 hx5;replace hA2:=aR.ext hA2 hx5;replace hX:=aG.trans hX hx5;refine RL.x rfl rfl (cX.alloc [.int .i64 (0),.int .i64 (0),.slice (none) (0) (0)] bo rfl) ?_;rintro _ w6 ⟨g3,rfl,hge3,hx6,hA3⟩;have ne2:g1≠g3:=Nat.ne_of_lt (Nat.lt_of_lt_of_le hA1.lt hge3);have ne3:g2≠g3:=Nat.ne_of_lt (Nat.lt_of_lt_of_le hA2.lt hge3);have hbs3:w.heap.size≤g3:=Nat.le_trans hX.size hge3;replace hA1:=aR.ext hA1 hx6;replace hA2:=aR.ext hA2 hx6;replace q2:=bf.ext q2 hx6;replace hX:=aG.trans hX hx6;obtain ⟨sv1,hq1,hr1,hc1,hS1⟩:=q2.form;refine RL.x rfl rfl (cX.store [.int .i64 ((wa % 5:Nat)),.int .i64 ((wa % 5:Nat)),sv1] bE rfl hq1 rfl hA3 (Nat.le_of_ble_eq_true rfl) (bG rfl rfl hS1.one)) ?_;rintro _ w7 ⟨hk1,hnew⟩;replace hA1:=hA1.keep hk1 ne2;replace hA2:=hA2.keep hk1 ne3;replace hS1:=aD hS1 hk1 hA3 (by decide);replace hX:=hX.step hk1 (fun b e=>by subst e;exact hbs3);replace hA3:=hnew.lit [.int .i64 ((wa % 5:Nat)),.int .i64 ((wa % 5:Nat)),sv1] rfl;clear hnew;refine RL.nil ?_;have hXf:=hX;have hlt_g1:=hA1.lt;have hlt_g2:=hA2.lt;have hlt_g3:=hA3.lt;refine aJ am 10 [_,_,_,_,_,_,_,_,_,fun v AC=>fx AC v w7.heap.size 28 ([.int .i64 (0),.int .i64 (0),.slice (none) (0) (0)])] rfl rfl (fun e_ w_ AB AA=>⟨fun _=>aa (ae [.int .i64 ((wa % 5:Nat)),.int .i64 ((wa % 5:Nat)),sv1] aM ((AA 8 rfl rfl)) ((aR.ext hA3 AB).cells 0 _ rfl rfl)),fun _=>aa (iL (j:=1) wr (AA 3 rfl rfl) rfl rfl (by decide)),fun Az=>aa (cn.load oO ((Az 1 rfl)) ((aR.ext hA1 AB).at_ (i:=1) rfl rfl)),fun Az=>aa (ax (c:=((wb:Nat):Int)) nk nl ((Az 2 rfl)) (bA ⟨by omega,by omega,rfl⟩)),fun _=>aa (cn.fieldAddr aY ((AA 8 rfl rfl))),fun Az=>aa (cn.load bO ((Az 4 rfl)) ((aR.ext hA3 AB).at_ (i:=0) rfl rfl)),fun Az=>aa (cn.add (c:=(((wa % 5) + 1:Nat):Int)) ((Az 5 rfl)) rfl (bA (by omega))),fun Az=>aa (cn.rem (c:=((tt:Nat):Int)) ((Az 3 rfl)) ((Az 6 rfl)) (by omega) (by rw [htt];exact zX _ _)),fun Az=>cX.call wL (aA ((Az 0 rfl)) ((Az 7 rfl))) (wV _ _ _ _ _ _ tt (bf.mk (cE.ext hS1 AB) (by omega) (by omega)) (by omega)),fun _=>cX.mono (dE [.int .i64 (0),.int .i64 (0),.slice (none) (0) (0)] bo rfl AB.size) fun v AD hv=>⟨hv.1,hv.2.1⟩,trivial⟩) ?_;intro e1 w8 hx7 ho1 hf1;replace hA2:=aR.ext hA2 hx7;replace hX:=aG.trans hX hx7;have s5_e1:e1 5=_:=ho1 5 rfl rfl;have s7_e1:e1 7=_:=ho1 7 rfl rfl;have s31_e1:bf w8 (e1 31) tt (wa % 5) Su.M 40:=hf1 8 rfl;have s9_e1:fx w8 (e1 9) w7.heap.size 28 ([.int .i64 (0),.int .i64 (0),.slice (none) (0) (0)]):=hf1 9 rfl;obtain ⟨gd9,hvd9,hBd9,hAd9⟩:=s9_e1;have hneo_g1_gd9:g1≠gd9:=Nat.ne_of_lt (Nat.lt_of_lt_of_le hlt_g1 hBd9);have hneo_g2_gd9:g2≠gd9:=Nat.ne_of_lt (Nat.lt_of_lt_of_le hlt_g2 hBd9);have hneo_g3_gd9:g3≠gd9:=Nat.ne_of_lt (Nat.lt_of_lt_of_le hlt_g3 hBd9);have hbd9:w.heap.size≤gd9:=Nat.le_trans hXf.size hBd9;obtain ⟨sv2,hq2,hr2,hc2,hS2⟩:=s31_e1.form;refine RL.x rfl rfl (cX.store [.int .i64 ((tt:Nat)),.int .i64 ((wa % 5:Nat)),sv2] bE hvd9 hq2 rfl hAd9 (Nat.le_of_ble_eq_true rfl) (bG rfl rfl hS2.one)) ?_;rintro _ w9 ⟨hk2,hnew⟩;replace hA2:=hA2.keep hk2 hneo_g2_gd9;replace hS2:=aD hS2 hk2 hAd9 (by decide);replace hX:=hX.step hk2 (fun b e=>by subst e;exact hbd9);replace hAd9:=hnew.lit [.int .i64 ((tt:Nat)),.int .i64 ((wa % 5:Nat)),sv2] rfl;clear hnew;refine RL.nil ?_;refine ab ?_;refine RL.p rfl rfl (ae [.int .i64 ((tt:Nat)),.int .i64 ((wa % 5:Nat)),sv2] aM hvd9 (hAd9.cells 0 _ rfl rfl)) ?_;refine RL.x rfl rfl (cX.call lD (aE rfl) (oa _ _ _ _ _ _ 24 (bf.mk hS2 (by omega) (by omega)) (by omega) (fun i j hi hj=>hMv.bm i j (by omega) hj) hkc1.2.1 ck4.2.1 (sa hMv.lin (by omega)) (rZ hMv.lin (by omega)))) ?_;rintro _ w10 ⟨hx8,kc1,Sc1,sc1,hHc1,hid1,hrc1,rfl,q3⟩;replace hA2:=aR.ext hA2 hx8;replace hAd9:=aR.ext hAd9 hx8;replace hS2:=cE.ext hS2 hx8;replace hX:=aG.trans hX hx8;refine RL.p rfl rfl (cn.move rfl) ?_;refine RL.p rfl rfl (cn.extract rfl rfl) ?_;refine RL.p rfl rfl (cn.extract rfl rfl) ?_;refine RL.x rfl rfl (cX.alloc [.int .i64 (0),.int .i64 (0),.slice (none) (0) (0)] bo rfl) ?_;rintro _ w11 ⟨g4,rfl,hge4,hx9,hA4⟩;have ne4:g2≠g4:=Nat.ne_of_lt (Nat.lt_of_lt_of_le hA2.lt hge4);have ne5:gd9≠g4:=Nat.ne_of_lt (Nat.lt_of_lt_of_le hAd9.lt hge4);have hbs4:w.heap.size≤g4:=Nat.le_trans hX.size hge4;replace hA2:=aR.ext hA2 hx9;replace hAd9:=aR.ext hAd9 hx9;replace hS2:=cE.ext hS2 hx9;replace q3:=cE.ext q3 hx9;replace hX:=aG.trans hX hx9;refine RL.x rfl rfl (cX.store [.int .i64 ((wa % 5 - tt:Nat)),.int .i64 ((wa % 5:Nat)),sc1] bE rfl rfl rfl hA4 (Nat.le_of_ble_eq_true rfl) (bG rfl rfl (q3.one))) ?_;rintro _ w12 ⟨hk3,hnew⟩;replace hA2:=hA2.keep hk3 ne4;replace hAd9:=hAd9.keep hk3 ne5;replace hS2:=aD hS2 hk3 hA4 (by decide);replace q3:=aD q3 hk3 hA4 (by decide);replace hX:=hX.step hk3 (fun b e=>by subst e;exact hbs4);replace hA4:=hnew.lit [.int .i64 ((wa % 5 - tt:Nat)),.int .i64 ((wa % 5:Nat)),sc1] rfl;clear hnew;refine RL.p rfl rfl (cn.assign rfl) ?_;refine RL.nil ?_;refine ab ?_;refine RL.p rfl rfl (ae [.int .u8 ((R:Nat)),.int .u8 ((C:Nat)),lx] zn s5_e1 (hA2.cells 0 _ rfl rfl)) ?_;have hBw2:w.heap.size≤w12.heap.size:=hX.size;refine RL.x rfl rfl (cX.call zZ (aE rfl) (vi _ R C lx n f (fw.ext hlx hX) (by omega) (by omega))) ?_;rintro v3 w13 ⟨hx10,q4⟩;replace hAd9:=aR.ext hAd9 hx10;replace hS2:=cE.ext hS2 hx10;replace q3:=cE.ext q3 hx10;replace hA4:=aR.ext hA4 hx10;replace hX:=aG.trans hX hx10;refine RL.x rfl rfl (cX.call zY (aE rfl) (pb _ _ (R % 5) (C % 5) (fR f n (C % 5)) _ 4 E1 B1 (cz.matV q4) (by omega) (fun i j _ _=>Nat.le_of_lt (oe f n _ i j)) hu1.1 hu1.2.1 zu (fun k hk=>(hn2 k (by omega)).1) hu1.2.2.1 (fun k hk=>(hn2 k (by omega)).2.1) hu1.2.2.2.1 hu1.2.2.2.2.1 (fun k hk=>(hn2 k (by omega)).2.2) hu1.2.2.2.2.2.1)) ?_;rintro v4 w14 ⟨hx11,ks,Ms,hSR,q5⟩;replace hAd9:=aR.ext hAd9 hx11;replace hS2:=cE.ext hS2 hx11;replace q3:=cE.ext q3 hx11;replace hA4:=aR.ext hA4 hx11;replace hX:=aG.trans hX hx11;have hSB:=hSR.satB;have hks:ks≤C % 5:=hSB.kc;refine RL.x rfl rfl (cX.alloc [.int .i64 (0),.int .i64 (0),.slice (none) (0) (0)] bo rfl) ?_;rintro _ w15 ⟨g5,rfl,hge5,hx12,hA5⟩;have ne7:gd9≠g5:=Nat.ne_of_lt (Nat.lt_of_lt_of_le hAd9.lt hge5);have ne8:g4≠g5:=Nat.ne_of_lt (Nat.lt_of_lt_of_le hA4.lt hge5);have hbs5:w.heap.size≤g5:=Nat.le_trans hX.size hge5;replace hAd9:=aR.ext hAd9 hx12;replace hS2:=cE.ext hS2 hx12;replace q3:=cE.ext q3 hx12;replace hA4:=aR.ext hA4 hx12;replace q5:=bf.ext q5 hx12;replace hX:=aG.trans hX hx12;obtain ⟨sv3,hq3,hr3,hc3,hS3⟩:=q5.form;refine RL.x rfl rfl (cX.store [.int .i64 ((ks:Nat)),.int .i64 ((C % 5:Nat)),sv3] bE rfl hq3 rfl hA5 (Nat.le_of_ble_eq_true rfl) (bG rfl rfl hS3.one)) ?_;rintro _ w16 ⟨hk4,hnew⟩;replace hAd9:=hAd9.keep hk4 ne7;replace hS2:=aD hS2 hk4 hA5 (by decide);replace q3:=aD q3 hk4 hA5 (by decide);replace hA4:=hA4.keep hk4 ne8;replace hS3:=aD hS3 hk4 hA5 (by decide);replace hX:=hX.step hk4 (fun b e=>by subst e;exact hbs5);replace hA5:=hnew.lit [.int .i64 ((ks:Nat)),.int .i64 ((C % 5:Nat)),sv3] rfl;clear hnew;refine RL.nil ?_;refine ab ?_;refine RL.p rfl rfl (ae [.int .i64 ((ks:Nat)),.int .i64 ((C % 5:Nat)),sv3] aM rfl (hA5.cells 0 _ rfl rfl)) ?_;refine RL.x rfl rfl (cX.call lD (aE rfl) (oa _ _ _ _ _ _ ER (bf.mk hS3 (by omega) (by omega)) (by omega) (fun i j hi hj=>hSR.bd hcE hi hj) hkc2.1 ck4.1 hSB.free hSB.satQ)) ?_;rintro _ w17 ⟨hx13,kc2,Sc2,sc2,hHc2,hid2,hrc2,rfl,q6⟩;replace hAd9:=aR.ext hAd9 hx13;replace hS2:=cE.ext hS2 hx13;replace q3:=cE.ext q3 hx13;replace hA4:=aR.ext hA4 hx13;replace hA5:=aR.ext hA5 hx13;replace hS3:=cE.ext hS3 hx13;replace hX:=aG.trans hX hx13;refine RL.p rfl rfl (cn.move rfl) ?_;refine RL.p rfl rfl (cn.extract rfl rfl) ?_;refine RL.p rfl rfl (cn.extract rfl rfl) ?_;refine RL.x rfl rfl (cX.alloc [.int .i64 (0),.int .i64 (0),.slice (none) (0) (0)] bo rfl) ?_;rintro _ w18 ⟨g6,rfl,hge6,hx14,hA6⟩;have ne9:gd9≠g6:=Nat.ne_of_lt (Nat.lt_of_lt_of_le hAd9.lt hge6);have ne10:g4≠g6:=Nat.ne_of_lt (Nat.lt_of_lt_of_le hA4.lt hge6);have ne11:g5≠g6:=Nat.ne_of_lt (Nat.lt_of_lt_of_le hA5.lt hge6);have hbs6:w.heap.size≤g6:=Nat.le_trans hX.size hge6;replace hAd9:=aR.ext hAd9 hx14;replace hS2:=cE.ext hS2 hx14;replace q3:=cE.ext q3 hx14;replace hA4:=aR.ext hA4 hx14;replace hA5:=aR.ext hA5 hx14;replace hS3:=cE.ext hS3 hx14;replace q6:=cE.ext q6 hx14;replace hX:=aG.trans hX hx14;refine RL.x rfl rfl (cX.store [.int .i64 ((C % 5 - ks:Nat)),.int .i64 ((C % 5:Nat)),sc2] bE rfl rfl rfl hA6 (Nat.le_of_ble_eq_true rfl) (bG rfl rfl (q6.one))) ?_;rintro _ w19 ⟨hk5,hnew⟩;replace hAd9:=hAd9.keep hk5 ne9;replace hS2:=aD hS2 hk5 hA6 (by decide);replace q3:=aD q3 hk5 hA6 (by decide);replace hA4:=hA4.keep hk5 ne10;replace hA5:=hA5.keep hk5 ne11;replace hS3:=aD hS3 hk5 hA6 (by decide);replace q6:=aD q6 hk5 hA6 (by decide);replace hX:=hX.step hk5 (fun b e=>by subst e;exact hbs6);replace hA6:=hnew.lit [.int .i64 ((C % 5 - ks:Nat)),.int .i64 ((C % 5:Nat)),sc2] rfl;clear hnew;refine RL.p rfl rfl (cn.assign rfl) ?_;refine RL.nil ?_;refine aJ am 19 [fun v AC=>v= .bool (decide (True)),fun v AC=>v= .bool (decide (True)),_,_,_,fun v AC=>v= .bool (decide ((True)∧((0:Int)=(0:Int)))),_,_,fun v AC=>((True)∧((0:Int)=(0:Int)))→(v= .bool (decide (True))),_,fun v AC=>v= .bool (decide (((True)∧((0:Int)=(0:Int)))∧(True))),_,_,_,fun v AC=>v= .bool (decide ((((True)∧((0:Int)=(0:Int)))∧(True))∧((0:Int)=(0:Int)))),_,_,fun v AC=>((((True)∧((0:Int)=(0:Int)))∧(True))∧((0:Int)=(0:Int)))→(v= .bool (decide (True))),_] rfl rfl (fun e_ w_ AB AA=>⟨fun _=>aa (cn.move ((AA 7 rfl s7_e1))),fun Az=>aa (cn.move ((Az 0 rfl))),fun Az=>gT (Az 1 rfl) fun hg=>aa (cn.move ((AA 11 rfl rfl))),fun Az=>gT (Az 1 rfl) fun hg=>aa (cn.eql ((Az 2 rfl hg)) rfl),fun Az=>aa (aB (p:=True) (q:=(0:Int)=(0:Int)) (Az 1 rfl) (fun hq=>(Az 3 rfl hq))),fun Az=>aa (cn.move ((Az 4 rfl))),fun Az=>gT (Az 5 rfl) fun hg=>aa (ae [.int .i64 ((tt:Nat)),.int .i64 ((wa % 5:Nat)),sv2] aM ((AA 9 rfl hvd9)) ((aR.ext hAd9 AB).cells 0 _ rfl rfl)),fun Az=>gT (Az 5 rfl) fun hg=>aa (ae [.int .i64 ((wa % 5 - tt:Nat)),.int .i64 ((wa % 5:Nat)),sc1] aM ((AA 10 rfl rfl)) ((aR.ext hA4 AB).cells 0 _ rfl rfl)),fun Az=>gT (Az 5 rfl) fun hg=>cX.call pV (aA ((Az 6 rfl hg)) ((Az 7 rfl hg))) (nJ (bf.mk (cE.ext hS2 AB) (by omega) (by omega)) (by decide) (bf.mk (cE.ext q3 AB) (by omega) (by omega)) (by omega) (fun i j hi hj=>hMv.bm i j (by omega) hj) ck4.2.2.2.2.1 (fun k hk=>(ck3 k hk).2) hHc1 hid1 hrc1 rfl rfl rfl),fun Az=>aa (aB (p:=(True)∧((0:Int)=(0:Int))) (q:=True) (Az 5 rfl) (fun hq=>(Az 8 rfl hq))),fun Az=>aa (cn.move ((Az 9 rfl))),fun Az=>gT (Az 10 rfl) fun hg=>aa (cn.move ((AA 14 rfl rfl))),fun Az=>gT (Az 10 rfl) fun hg=>aa (cn.eql ((Az 11 rfl hg)) rfl),fun Az=>aa (aB (p:=((True)∧((0:Int)=(0:Int)))∧(True)) (q:=(0:Int)=(0:Int)) (Az 10 rfl) (fun hq=>(Az 12 rfl hq))),fun Az=>aa (cn.move ((Az 13 rfl))),fun Az=>gT (Az 14 rfl) fun hg=>aa (ae [.int .i64 ((ks:Nat)),.int .i64 ((C % 5:Nat)),sv3] aM ((AA 12 rfl rfl)) ((aR.ext hA5 AB).cells 0 _ rfl rfl)),fun Az=>gT (Az 14 rfl) fun hg=>aa (ae [.int .i64 ((C % 5 - ks:Nat)),.int .i64 ((C % 5:Nat)),sc2] aM ((AA 13 rfl rfl)) ((aR.ext hA6 AB).cells 0 _ rfl rfl)),fun Az=>gT (Az 14 rfl) fun hg=>cX.call pV (aA ((Az 15 rfl hg)) ((Az 16 rfl hg))) (nJ (bf.mk (cE.ext hS3 AB) (by omega) (by omega)) (Nat.le_refl _) (bf.mk (cE.ext q6 AB) (by omega) (by omega)) (by omega) (fun i j hi hj=>hSR.bd hcE hi hj) ck4.2.2.2.1 (fun k hk=>(ck3 k hk).1) hHc2 hid2 hrc2 rfl rfl rfl),fun Az=>aa (aB (p:=(((True)∧((0:Int)=(0:Int)))∧(True))∧((0:Int)=(0:Int))) (q:=True) (Az 14 rfl) (fun hq=>(Az 17 rfl hq))),trivial⟩) ?_;intro e2 w20 hx15 ho2 hf2;replace hX:=aG.trans hX hx15;have s63_e2:e2 63=_:=hf2 18 rfl;refine RL.p rfl rfl (cn.assign s63_e2) ?_;refine RL.nil ?_;refine WP.ret ?_;refine ⟨.bool (decide (((((True)∧((0:Int)=(0:Int)))∧(True))∧((0:Int)=(0:Int)))∧(True))),zP.one (fN.tmp rfl),_,rfl,hX,?_⟩;dsimp only;exact congrArg Value.bool (decide_eq_true ⟨⟨⟨⟨trivial,rfl⟩,trivial⟩,rfl⟩,trivial⟩)
end Go.TL
namespace Go.Proofs.YtgkokhkpdlekcaaGreat
open Go.TL Go.ChangeShapes Go.WideShapes Go.ChangeAt Go.RowKit Go.Joins
set_option linter.unusedVariables false
theorem own:ownKnob Tryz.prog.godebug=none:=by kernel_rfl
theorem vw:laidOutB Tryz.prog=true:=by kernel_rfl
section
variable {H:Type} {enc:TypeId×Value→H} {P:Program}
theorem gO (hl:laidOutB P=true) {W W':World} (hb:Below W.heap.size W W') {sp:Nat→Bool}:
    ∀{ts:List TypeId} {vs:List Value} {ds:List (DataW H)} {ps:List MemPlace},ts.all (fun t=>P.readableRec t&&decide (t<P.types.size))=true→
      DataW.TrodAll enc P W 0 (fun _=>true) true ts vs ds ps→(∀x∈ps,x.block<W.heap.size)→(∀x∈ps,sp x.block=true)→DataW.TrodAll enc P W' 0 sp true ts vs ds ps
  | [], [], [],_,_,h,_,_=>h
  | [], [],_::_,_,_,h,_,_=>h.elim
  | [],_::_,_,_,_,h,_,_=>h.elim
  | _::_, [],_,_,_,h,_,_=>h.elim
  | _::_,_::_, [],_,_,h,_,_=>h.elim
  | t::ts,v::vs,d::ds,ps,ha,h,hlt,hs=>by
    obtain ⟨p,q,h1,h2,rfl⟩:=h;simp only [List.all_cons,Bool.and_eq_true,decide_eq_true_eq] at ha;exact ⟨p,q,WideElems.Trod_stays hl ha.1.1 ha.1.2 h1 (fun x hx=>hb.same (hlt x (by simp [hx]))) (fun x hx=>hs x (by simp [hx])),gO hl hb ha.2 h2 (fun x hx=>hlt x (by simp [hx])) (fun x hx=>hs x (by simp [hx])),rfl⟩
theorem tC {f:Func} {s:ChangeSpec} {tb:TypeId} {W W':World} {args:Array Value} {ds gs:List (DataW H)} {before:List MemPlace}
    (hl:laidOutB P=true) (ha:f.params.toList.all (fun t=>P.readableRec t&&decide (t<P.types.size))=true) (hv:s.vars= []) (hr:f.resultTypes= #[tb]) (htb:P.underlying tb=some .bool)
    (hfn:s.fn H ds={results:= [.lit (.bool true)],args:=ds})
    (hW:DataW.Whole enc P f.params.toList s.vars false W args.toList ds gs before) (hb:Below W.heap.size W W'):
    s.post enc P f false true false false W args (.bool true) W':=by
  have hlt:=hW.lt;have hW0:=hW;obtain ⟨p,q,hA,hV,rfl,_,_⟩:=hW;rw [hv] at hV;obtain ⟨rfl,rfl⟩:=trodVars_none hV;have hp:∀x∈p,x.block<W.heap.size:=fun x hx=>by simpa using hlt x (by simp [hx])
  have hz:f.resultTypes.toList= [tb]:=by rw [hr]
  have hz2:(Value.bool true).resultList f.resultTypes.size= [.bool true]:=by rw [hr];rfl
  refine ⟨ds, [],p ++ [], [],p, [],hW0,?_,?_,?_,hb.frame _,fun h=>by cases h⟩
  · rw [List.append_nil,hfn,hz,hz2];exact trodAll_mk1 (shut_bool htb true)
  · rw [List.append_nil,hfn];exact gO hl hb ha hA hp (fun x hx=>by simpa using hp x hx)
  · rw [List.append_nil,hfn,hv];rfl
theorem tj {t te fuel T:Nat} {k:IntKind} {w:World} {v:Value} {y:DataW H×List MemPlace} (ht:P.underlying t=some (.slice te)) (he:P.underlying te=some (.int k)) (hc:P.cellsOf te=1)
    (h:DataW.trod enc P w 0 (fun _=>true) true fuel t [v]=some y):∃(n:Nat) (f:Nat→Int),fw k T w v n f∧∀i,i<n→(Lit.int k (f i)).wf=true:=by
  rcases open_ints ht he hc h with ⟨h1,_⟩ | ⟨a,n,c,zs,h1,_,h3,h4,h5,_,h7,h8⟩
  · obtain rfl:v= .slice none 0 0:=by simpa using h1
    exact ⟨0,fun _=>0,⟨none,0,rfl,Nat.le_refl _,by decide,fun h=>absurd h (by decide)⟩,fun i hi=>absurd hi (by omega)⟩
  · obtain rfl:v= .slice (some a) n c:=by simpa using h1
    rw [if_pos rfl] at h5;refine ⟨n,fun i=>zs.getD i 0,⟨some a,c,rfl,h3,by unfold maxLen at h4;omega,fun hn=> ?_⟩,fun i hi=> ?_⟩
    · obtain ⟨b,o,rfl,hz⟩:=ints_at h7 (by omega)
      exact ⟨b,o,rfl,fun i hi=>hz i (by omega)⟩
    · have:i<zs.length:=by omega
      show (Lit.int k (zs.getD i 0)).wf=true;rw [List.getD_eq_getElem?_getD,List.getElem?_eq_getElem this];exact h8 _ (List.getElem_mem this)
end
section
variable {H:Type} {enc:TypeId×Value→H}
set_option maxRecDepth 100000 in
theorem sT {w:World} {b0:Nat} {v:Value} {d:DataW H} {p:List MemPlace} (hv:Value.okWide Tryz.prog w .any b0 24 v) (h:DataW.Trod enc Tryz.prog w 0 (fun _=>true) true 24 v d p):
    ∃(R C n:Nat) (l:Value) (f:Nat→Int),v= .agg #[.int .u8 (R:Nat),.int .u8 (C:Nat),l]∧R<256∧C<256∧fw .i8 77 w l n f∧∀i,i<n→(Lit.int .i8 (f i)).wf=true:=by
  obtain ⟨c0,c1,c2,y0,y1,y2,m,rfl,rfl,rfl,h0,h1,h2⟩:=open_agg3 Tryz.underlying24 (by kernel_rfl) (by kernel_rfl) hv h;obtain ⟨a,e0,_,wa⟩:=DataW.trod_int Tryz.underlying5 h0;obtain ⟨b,e1,_,wb⟩:=DataW.trod_int Tryz.underlying5 h1;obtain rfl:c0= .int .u8 a:=by simpa using e0
  obtain rfl:c1= .int .u8 b:=by simpa using e1
  obtain ⟨n,f,hn,hf⟩:=tj (T:=77) Tryz.underlying22 Tryz.underlying77 (by kernel_rfl) h2;have ba:=bounds_u8 wa;have bb:=bounds_u8 wb;exact ⟨a.toNat,b.toNat,n,c2,f,by rw [Int.toNat_of_nonneg ba.1,Int.toNat_of_nonneg bb.1],by omega,by omega,hn,hf⟩
end
end Go.Proofs.YtgkokhkpdlekcaaGreat
namespace Go.Proofs.YtgkokhkpdlekcaaGreat
open Go.TL Go.ChangeShapes Go.WideShapes Go.ChangeAt Go.RowKit Go.Joins
set_option linter.unusedVariables false
section
variable {H:Type} {enc:TypeId×Value→H}
theorem jN {a:Int} (h:(Lit.int .u8 a).wf=true):∃n:Nat,a=(n:Int)∧n<256:=by
  have:=bounds_u8 h;exact ⟨a.toNat,by omega,by omega⟩
set_option maxRecDepth 100000 in
theorem rI {w:World} {b0:Nat} {v:Value} {d:DataW H} {p:List MemPlace} (hv:Value.okWide Tryz.prog w .any b0 55 v) (h:DataW.Trod enc Tryz.prog w 0 (fun _=>true) true 55 v d p):
    ∃a b:Nat,v= .agg #[.int .u8 (a:Nat),.int .u8 (b:Nat)]∧a<256∧b<256:=by
  simp only [Value.okWide,Tryz.underlying55] at hv;obtain ⟨cs,rfl,hsz,_⟩:=hv;obtain ⟨c0,c1,rfl⟩:=array2 (hsz.trans (by kernel_rfl:Tryz.prog.cellsOf 55=2));obtain ⟨fuel,hf⟩:=h;obtain ⟨xs,m,_,_,_,hl,hx⟩:=DataW.trod_array Tryz.underlying55 hf;have hc:Tryz.prog.cellsOf 5=1:=by kernel_rfl
  have h0:=hx 0 (by omega);have h1:=hx 1 (by omega);rw [hc] at h0 h1;rw [List.getElem?_eq_getElem (show 0<xs.length by omega)] at h0;rw [List.getElem?_eq_getElem (show 1<xs.length by omega)] at h1;obtain ⟨a,e0,_,wa⟩:=DataW.trod_int Tryz.underlying5 h0;obtain ⟨b,e1,_,wb⟩:=DataW.trod_int Tryz.underlying5 h1;obtain rfl:c0= .int .u8 a:=by simpa [Value.cells] using e0
  obtain rfl:c1= .int .u8 b:=by simpa [Value.cells] using e1
  obtain ⟨a',rfl,ha⟩:=jN wa;obtain ⟨b',rfl,hb⟩:=jN wb;exact ⟨a',b',rfl,ha,hb⟩
set_option maxRecDepth 100000 in
theorem pg {w:World} {b0:Nat} {v:Value} {d:DataW H} {p:List MemPlace} (hv:Value.okWide Tryz.prog w .any b0 56 v) (h:DataW.Trod enc Tryz.prog w 0 (fun _=>true) true 56 v d p):
    ∃(n:Nat) (ka ki kj:Nat→Nat) (kk:Nat→Int),oK w v n ka ki kj kk∧∀i,i<n→ki i<256∧kj i<256∧ka i<256:=by
  obtain ⟨A,l,c,rfl⟩:=okWide_slice (P:=Tryz.prog) Tryz.underlying56 hv;obtain ⟨fuel,hf⟩:=h;have hC:Tryz.prog.cellsOf 82=4:=by kernel_rfl
  have hU:Tryz.prog.cellsOf 5=1:=by kernel_rfl
  have hI:Tryz.prog.cellsOf 77=1:=by kernel_rfl
  rcases DataW.trod_slice Tryz.underlying56 hf with ⟨h1,_⟩ | ⟨a,len,cap,elems,rest,m,_,h1,_,_,hl,hm,hlen,hel,_,_⟩
  · obtain ⟨rfl,rfl,rfl⟩:A=none∧l=0∧c=0:=by simpa [Value.cells] using h1
    exact ⟨0,fun _=>0,fun _=>0,fun _=>0,fun _=>0,⟨none,0,rfl,Nat.le_refl _,by decide,fun h=>absurd h (by decide)⟩,fun i hi=>absurd hi (by omega)⟩
  · obtain ⟨rfl,rfl,rfl⟩:A=some a∧l=len∧c=cap:=by simpa [Value.cells] using h1
    rw [hC] at hel;have key:∀i,∃q:Nat×Nat×Nat×Int,i<l→(q.1<256∧q.2.1<256∧q.2.2.1<256)∧w.cell? ((a.add (i*4)).add 0)=some (.int .u8 (q.1:Nat))∧w.cell? ((a.add (i*4)).add 1)=some (.int .u8 (q.2.1:Nat))∧
        w.cell? ((a.add (i*4)).add 2)=some (.int .u8 (q.2.2.1:Nat))∧w.cell? ((a.add (i*4)).add 3)=some (.int .i8 q.2.2.2):=by
      intro i
      by_cases hi:i<l
      · have h2:=hel i hi
        rw [List.getElem?_eq_getElem (show i<elems.length by omega),Option.bind_eq_some_iff] at h2;obtain ⟨cs,h3,h4⟩:=h2;obtain ⟨_,h5,h6⟩:=World.cells?_some h3;obtain ⟨y0,y1,y2,y3,m2,_,_,t0,t1,t2,t3⟩:=trod_struct4 Tryz.underlying82 h4
        match cs,h5 with
        | [c0,c1,c2,c3],_=>
          simp only [hU,hI] at t0 t1 t2 t3;obtain ⟨x0,e0,_,w0⟩:=DataW.trod_int Tryz.underlying5 t0;obtain ⟨x1,e1,_,w1⟩:=DataW.trod_int Tryz.underlying5 t1;obtain ⟨x2,e2,_,w2⟩:=DataW.trod_int Tryz.underlying5 t2;obtain ⟨x3,e3,_,w3⟩:=DataW.trod_int Tryz.underlying77 t3;obtain rfl:c0= .int .u8 x0:=by simpa using e0
          obtain rfl:c1= .int .u8 x1:=by simpa using e1
          obtain rfl:c2= .int .u8 x2:=by simpa using e2
          obtain rfl:c3= .int .i8 x3:=by simpa using e3
          obtain ⟨n0,rfl,b0⟩:=jN w0;obtain ⟨n1,rfl,b1⟩:=jN w1;obtain ⟨n2,rfl,b2⟩:=jN w2;exact ⟨(n0,n1,n2,x3),fun _=>⟨⟨b0,b1,b2⟩,h6 0 (by decide),h6 1 (by decide),h6 2 (by decide),h6 3 (by decide)⟩⟩
      · exact ⟨(0,0,0,0),fun h=>absurd h hi⟩
    obtain ⟨ka,ki,kj,kk,hk⟩:∃(ka ki kj:Nat→Nat) (kk:Nat→Int),∀i,i<l→(ka i<256∧ki i<256∧kj i<256)∧w.cell? ((a.add (i*4)).add 0)=some (.int .u8 (ka i:Nat))∧w.cell? ((a.add (i*4)).add 1)=some (.int .u8 (ki i:Nat))∧
        w.cell? ((a.add (i*4)).add 2)=some (.int .u8 (kj i:Nat))∧w.cell? ((a.add (i*4)).add 3)=some (.int .i8 (kk i)):=
      ⟨fun i=>(key i).choose.1,fun i=>(key i).choose.2.1,fun i=>(key i).choose.2.2.1,fun i=>(key i).choose.2.2.2,fun i hi=>(key i).choose_spec hi⟩
    refine ⟨l,ka,ki,kj,kk,⟨some a,c,rfl,hl,by unfold maxLen at hm;omega,fun hn=> ?_⟩,fun i hi=> ?_⟩
    · obtain ⟨g,o,spot⟩:=a
      have hs:spot=none:=by simpa [Addr.add] using World.cell?_spot (hk 0 hn).2.1
      subst hs;refine ⟨g,o,rfl,fun i hi=> ?_⟩;obtain ⟨_,g0,g1,g2,g3⟩:=hk i hi;simp only [Addr.add_lit,Nat.add_zero] at g0 g1 g2 g3;exact ⟨⟨g0,g1⟩,g2,g3⟩
    · obtain ⟨⟨g0,g1,g2⟩,_⟩:=hk i hi
      exact ⟨g1,g2,g0⟩
end
end Go.Proofs.YtgkokhkpdlekcaaGreat
namespace Go.Proofs.YtgkokhkpdlekcaaGreat
open Go.TL Go.ChangeShapes Go.WideShapes Go.ChangeAt Go.RowKit
set_option linter.unusedVariables false
set_option maxRecDepth 100000 in
theorem gW (os:Os) (started:os.Started) (H:Type) (enc:TypeId×Value→H):
    ReturnsInHanded {} Tryz.checked os 6 .any (Rows.kernelComplementsSpec.pre6 enc Tryz.prog Tryz.f6 Rows.kernelComplementsRow.domain false) (Rows.kernelComplementsSpec.post enc Tryz.prog Tryz.f6 false true false false):=by
  refine returnsInHanded_of_change (C:=Tryz.checked) own started (by kernel_rfl) Tryz.func6
    (ChangeSpec.witness6 (enc:=enc) (C:=Tryz.checked) false ⟨#[],#[.agg #[.int .u8 0,.int .u8 0],.slice none 0 0,.agg #[.int .u8 0,.int .u8 0,.slice none 0 0]], []⟩ 8 (by kernel_rfl) (by kernel_rfl) (by kernel_rfl) (by kernel_rfl)) ?_
  intro W base args ds gs before hval0 hW _ _;have hval:∀(j:Nat) t v,Tryz.f6.params[j]? =some t→args[j]? =some v→Value.okWide Tryz.prog W .any base t v:=hval0;have hW':=hW;obtain ⟨p,q,hA0,_,_,_,_⟩:=hW;have hA:DataW.TrodAll enc Tryz.prog W 0 (fun _=>true) true Tryz.f6.params.toList args.toList ds p:=hA0;rw [Tryz.params6] at hA hval;obtain ⟨v0,v1,v2,d0,d1,d2,p0,p1,p2,rfl,rfl,rfl,h0,h1,h2⟩:=trodAll_three hA;obtain ⟨wa,wb,rfl,ha,hb⟩:=rI (hval 0 55 v0 rfl rfl) h0;obtain ⟨m,ka,ki,kj,kk,hm,hkb⟩:=pg (hval 1 56 v1 rfl rfl) h1;obtain ⟨R,C,n,l,f,rfl,hR,hC,hn,hf⟩:=sT (hval 2 24 v2 rfl rfl) h2;refine (lh W wa wb v1 m ka ki kj kk R C l n f ha hb hm hkb hn hR hC fun w=>tD w).mono fun e W' hh=> ?_
  obtain ⟨v,rfl,hx,rfl⟩:=hh;exact ⟨_,rfl,tC vw (by kernel_rfl) rfl (by kernel_rfl) Tryz.underlying4 rfl hW' hx⟩
theorem complements_holds:Rows.KernelComplementsSaid:=
  OpenClaim.holds_of_wide 6 Tryz.f6 rfl rfl rfl rfl rfl rfl rfl ⟨rfl,rfl,rfl,rfl,rfl⟩ rfl rfl rfl rfl rfl (by kernel_rfl) Tryz.func6 (by kernel_rfl)
    (of_decide_eq_true (by kernel_rfl)) (by unfold Func.isWrapper;first | (rw [if_pos (by decide +kernel)];kernel_rfl) | (rw [if_neg (by decide +kernel)];exact ⟨rfl,rfl⟩))
    (fun os started H enc _=>gW os started H enc)
end Go.Proofs.YtgkokhkpdlekcaaGreat
