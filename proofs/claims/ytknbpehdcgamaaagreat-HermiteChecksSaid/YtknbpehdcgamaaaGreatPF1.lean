/-
  Lemmas towards the theorem of this claim (part 1).
  Conditions: those that each theorem names.
-/
import Derived.ChangeKeysEq
import Derived.Test.YtknbpehdcgamaaaGreatRows
import Derived.Test.YtknbpehdcgamaaaGreatPF0
namespace Go.TL
open Go.RowKit
set_option linter.unusedVariables false
def cd (l:Nat→Nat) (i j:Nat):Nat:=val (fun t=>l (i + t)) j
theorem dX (l:Nat→Nat) (i j:Nat):cd l i (j + 1)=cd l i j + l (i + j)*4294967296^j:=rfl
theorem er (l:Nat→Nat) {i j d v:Nat} (h:i + j≤d):cd (cC l d v) i j=cd l i j:=db fun t ht=>bp _ _ _ _ (by omega)
theorem kl {l:Nat→Nat} {i j n:Nat} (h:∀t,t<n→l t<4294967296) (hn:i + j≤n):cd l i j<4294967296^j:=dO fun t ht=>h _ (by omega)
theorem tX {y:Nat} (h0:y≠0) (hy:y<4294967296):32 - eK y<32∧2147483648≤y*2^(32 - eK y)∧y*2^(32 - eK y)<4294967296:=by
  obtain ⟨n,h1,h2,h3⟩:=jJ h0;have h4:=nB (b:=y) (n:=32) hy;rw [h1] at h4⊢;have h5:(2:Nat)^n*2^(32 - (n + 1))=2147483648:=by rw [←Nat.pow_add,show n + (32 - (n + 1))=31 by omega]
  have h6:(2:Nat)^(n + 1)*2^(32 - (n + 1))=4294967296:=by rw [←Nat.pow_add,show n + 1 + (32 - (n + 1))=32 by omega]
  have hp:0<2^(32 - (n + 1)):=Nat.pow_pos (by omega);refine ⟨by omega,?_,?_⟩
  · rw [←h5];exact Nat.mul_le_mul_right _ h2
  · rw [←h6];exact Nat.mul_lt_mul_of_pos_right h3 hp
theorem wL {ly lv:Nat→Nat} {n k:Nat} (hn:0<n) (hy:∀i,i<n→ly i<4294967296) (hv:∀i,i<n + 1→lv i<4294967296) (hk:2147483648≤ly (n - 1)*2^k) (hk2:ly (n - 1)*2^k<4294967296)
    (h:val lv (n + 1)=val ly n*2^k):val lv n=val ly n*2^k∧2147483648≤lv (n - 1):=by
  obtain ⟨m,rfl⟩:∃m,n=m + 1:=⟨n - 1,by omega⟩
  simp only [Nat.add_sub_cancel] at hk hk2⊢;have hlow:=dO (l:=ly) (n:=m) fun i hi=>hy i (by omega)
  have hp:0<2^k:=Nat.pow_pos (by omega);have hk3:2^k≤4294967296:=by
    rcases Nat.eq_zero_or_pos (ly m) with h0 | h0
    · rw [h0] at hk;omega
    · have:=Nat.mul_le_mul_right (2^k) h0;omega
  have hw:val ly (m + 1)*2^k<4294967296^(m + 1):=by
    simp only [val];have h1:(val ly m + ly m*4294967296^m)*2^k<(ly m + 1)*4294967296^m*2^k:=by
      refine Nat.mul_lt_mul_of_pos_right ?_ hp;rw [Nat.add_mul];omega
    have h2:(ly m + 1)*2^k≤4294967296:=by
      have hd:2^k∣4294967296:=by
        have hk32:k≤32:=by
          have:(2:Nat)^k≤2^32:=by simpa using hk3
          exact (Nat.pow_le_pow_iff_right (by omega)).1 this
        exact ⟨2^(32 - k),by rw [←Nat.pow_add,show k + (32 - k)=32 by omega]⟩
      obtain ⟨c,hc⟩:=hd;rw [hc,Nat.mul_comm];refine Nat.mul_le_mul_left _ ?_;rw [hc,Nat.mul_comm] at hk2;have:=Nat.lt_of_mul_lt_mul_left hk2;omega
    have h3:(ly m + 1)*4294967296^m*2^k≤4294967296^(m + 1):=by
      rw [ce,Nat.mul_right_comm];exact Nat.mul_le_mul_right _ h2
    omega
  have hsplit:val lv (m + 1 + 1)=val lv (m + 1) + lv (m + 1)*4294967296^(m + 1):=rfl;have htop:lv (m + 1)=0:=by
    rcases Nat.eq_zero_or_pos (lv (m + 1)) with h0 | h0
    · exact h0
    · have:=Nat.mul_le_mul_right (4294967296^(m + 1)) h0;omega
  have hval:val lv (m + 1)=val ly (m + 1)*2^k:=by rw [htop] at hsplit;omega
  refine ⟨hval,?_⟩;have h4:=dO (l:=lv) (n:=m) fun i hi=>hv i (by omega)
  have h5:val lv (m + 1)=val lv m + lv m*4294967296^m:=rfl;have h6:ly m*2^k*4294967296^m≤val ly (m + 1)*2^k:=by
    simp only [val];rw [Nat.add_mul,Nat.mul_right_comm];omega
  have h7:2147483648*4294967296^m≤ly m*2^k*4294967296^m:=Nat.mul_le_mul_right _ hk;have h8:2147483648*4294967296^m<(lv m + 1)*4294967296^m:=by rw [Nat.add_mul];omega
  have:=Nat.lt_of_mul_lt_mul_right h8;omega
structure Guess (W D top v1 G R:Nat):Prop where
  split:G*v1 + R=top
  up:W<(G + 1)*D
theorem pJ {W D top v1 P:Nat} (hv1:0<v1) (hW:W<(top + 1)*P) (hD:v1*P≤D):Guess W D top v1 (top/v1) (top % v1):=by
  refine ⟨by rw [Nat.mul_comm];exact Nat.div_add_mod top v1,?_⟩;have h1:top + 1≤(top/v1 + 1)*v1:=by
    have:=Nat.div_add_mod top v1;have:=Nat.mod_lt top hv1;rw [Nat.add_mul,Nat.mul_comm];omega
  have h2:(top + 1)*P≤(top/v1 + 1)*v1*P:=Nat.mul_le_mul_right _ h1;have h3:(top/v1 + 1)*v1*P≤(top/v1 + 1)*D:=by rw [Nat.mul_assoc];exact Nat.mul_le_mul_left _ hD
  omega
theorem pL {W D top v1 G R:Nat} (h:Guess W D top v1 G R) (hG:4294967295<G) (hW:W<D*4294967296):Guess W D top v1 (G - 1) (R + v1):=by
  obtain ⟨g,rfl⟩:∃g,G=g + 1:=⟨G - 1,by omega⟩
  refine ⟨by have:=h.split;rw [Nat.add_mul] at this;simp only [Nat.add_sub_cancel];omega,?_⟩;simp only [Nat.add_sub_cancel];have:D*4294967296≤(g + 1)*D:=by rw [Nat.mul_comm];exact Nat.mul_le_mul_right _ (by omega)
  omega
theorem pK {W D top v1 v2 u2 P G R:Nat} (h:Guess W D top v1 G R) (hlt:R*4294967296 + u2<G*v2) (hW:W<(top*4294967296 + u2 + 1)*P) (hD:(v1*4294967296 + v2)*P≤D):
    Guess W D top v1 (G - 1) (R + v1):=by
  have hG:0<G:=by
    rcases Nat.eq_zero_or_pos G with h0 | h0
    · subst h0;omega
    · exact h0
  obtain ⟨g,rfl⟩:∃g,G=g + 1:=⟨G - 1,by omega⟩
  have hs:=h.split;refine ⟨by rw [Nat.add_mul] at hs;simp only [Nat.add_sub_cancel];omega,?_⟩;simp only [Nat.add_sub_cancel];have h1:top*4294967296 + u2 + 1≤(g + 1)*(v1*4294967296 + v2):=by
    rw [←hs,Nat.mul_add,←Nat.mul_assoc,Nat.add_mul ((g + 1)*v1)];omega
  have h2:(top*4294967296 + u2 + 1)*P≤(g + 1)*(v1*4294967296 + v2)*P:=Nat.mul_le_mul_right _ h1;have h3:(g + 1)*(v1*4294967296 + v2)*P≤(g + 1)*D:=by rw [Nat.mul_assoc];exact Nat.mul_le_mul_left _ hD
  omega
theorem sC {W D top v1 v2 u2 P G R:Nat} (h:Guess W D top v1 G R) (hG:G<4294967296) (hle:G*v2≤R*4294967296 + u2) (hW:(top*4294967296 + u2)*P≤W)
    (hD:D<(v1*4294967296 + v2 + 1)*P) (hP:4294967296*P≤D):G*D<W + D:=by
  have hs:=h.split;have h1:G*(v1*4294967296 + v2)≤top*4294967296 + u2:=by
    rw [←hs,Nat.mul_add,←Nat.mul_assoc,Nat.add_mul (G*v1)];omega
  have h2:G*(v1*4294967296 + v2)*P≤W:=Nat.le_trans (Nat.mul_le_mul_right _ h1) hW;rcases Nat.eq_zero_or_pos G with h0 | h0
  · subst h0
    have h3:0<P:=by
      rcases Nat.eq_zero_or_pos P with h | h
      · subst h;omega
      · exact h
    omega
  · have h3:G*D<G*((v1*4294967296 + v2 + 1)*P):=Nat.mul_lt_mul_of_pos_left hD h0
    have h4:G*((v1*4294967296 + v2 + 1)*P)=G*(v1*4294967296 + v2)*P + G*P:=by
      rw [Nat.add_mul,Nat.one_mul,Nat.mul_add,←Nat.mul_assoc]
    have h5:G*P≤4294967296*P:=Nat.mul_le_mul_right _ (by omega);omega
theorem mv {W D top v1 G R:Nat} (h:Guess W D top v1 G R) (htop:top<(v1 + 1)*4294967296) (hR:4294967296≤R):G<4294967296:=by
  have hs:=h.split;have:G*v1<4294967296*v1:=by rw [Nat.add_mul] at htop;rw [Nat.mul_comm 4294967296];omega
  exact Nat.lt_of_mul_lt_mul_right this
def dN (u c b:Nat):Nat:=(u + 18446744073709551616 - c % 4294967296 - b) % 4294967296
def ey (u c b:Nat):Nat:=if u<c % 4294967296 + b then 1 else 0
theorem By {u c b:Nat} (hu:u<4294967296) (hb:b≤1):dN u c b + c % 4294967296 + b=u + ey u c b*4294967296:=by
  unfold dN ey;split<;>omega
theorem A5 {u c b:Nat} (hu:u<4294967296) (hb:b≤1):(u + 18446744073709551616 - c % 4294967296 - b) % 18446744073709551616/9223372036854775808=ey u c b:=by
  unfold ey;split<;>omega
theorem uR (u c b:Nat):ey u c b≤1:=by unfold ey;split<;>omega
theorem fL (u c b:Nat):dN u c b<4294967296:=Nat.mod_lt _ (by decide)
theorem wd {o o0 lv:Nat→Nat} {i j G c b:Nat} (hb:b≤1) (hu:o (i + j)<4294967296) (heq:∀t,i + j≤t→o t=o0 t)
    (h:cd o i j + G*val lv j=cd o0 i j + (c + b)*4294967296^j):
    cd (cC o (i + j) (dN (o (i + j)) (c + G*lv j) b)) i (j + 1) + G*val lv (j + 1)=cd o0 i (j + 1) + ((c + G*lv j)/4294967296 + ey (o (i + j)) (c + G*lv j) b)*4294967296^(j + 1):=by
  rw [dX,dX,er _ (Nat.le_refl _),bs];simp only [val];rw [←heq _ (Nat.le_refl _),ce];have h1:=By (c:=c + G*lv j) hu hb;have h2:=Nat.mod_add_div (c + G*lv j) 4294967296
  generalize dN (o (i + j)) (c + G*lv j) b=x at h1⊢
  generalize ey (o (i + j)) (c + G*lv j) b=s at h1⊢
  generalize 4294967296^j=p at h⊢
  generalize hq:(c + G*lv j)/4294967296=q at h2⊢
  generalize hm:(c + G*lv j) % 4294967296=m at h1 h2⊢
  have h3:(x + m + b)*p=(o (i + j) + s*4294967296)*p:=by rw [h1]
  have h4:(m + 4294967296*q)*p=(c + G*lv j)*p:=by rw [h2]
  simp only [Nat.add_mul,Nat.mul_add] at h h3 h4⊢;have e1:G*(lv j*p)=G*lv j*p:=(Nat.mul_assoc _ _ _).symm;have e2:q*(4294967296*p)=4294967296*q*p:=by rw [←Nat.mul_assoc,Nat.mul_comm q]
  have e3:s*(4294967296*p)=s*4294967296*p:=(Nat.mul_assoc _ _ _).symm;rw [e1,e2,e3];omega
theorem wg {o o0:Nat→Nat} {i n G D c b:Nat} (h:cd o i n + G*D=cd o0 i n + (c + b)*4294967296^n) (hn:o (i + n)=o0 (i + n)) (hge:c + b≤o (i + n)):
    cd (cC o (i + n) (o (i + n) - c - b)) i (n + 1) + G*D=cd o0 i (n + 1):=by
  rw [dX,dX,er _ (Nat.le_refl _),bs,←hn];obtain ⟨q,hq⟩:∃q,o (i + n)=q + (c + b):=⟨o (i + n) - (c + b),by omega⟩
  rw [hq,show q + (c + b) - c - b=q by omega,Nat.add_mul q];omega
theorem we {o o0:Nat→Nat} {i n G D c b:Nat} (h:cd o i n + G*D=cd o0 i n + (c + b)*4294967296^n) (hn:o (i + n)=o0 (i + n)) (hlt:o (i + n)<c + b)
    (hG:G*D<cd o0 i (n + 1) + D) (hD:D<4294967296^n) (hlo:cd o i n<4294967296^n):c + b=o (i + n) + 1:=by
  rw [dX,←hn] at hG;rcases Nat.lt_or_ge (c + b) (o (i + n) + 2) with h1 | h1
  · omega
  · have h2:(o (i + n) + 2)*4294967296^n≤(c + b)*4294967296^n:=Nat.mul_le_mul_right _ h1
    rw [Nat.add_mul] at h2;omega
theorem wZ {o o0 lv:Nat→Nat} {i j c:Nat} (heq:∀t,i + j≤t→o t=o0 t) (h:cd o i j + c*4294967296^j=cd o0 i j + val lv j):
    cd (cC o (i + j) ((o (i + j) + lv j + c) % 4294967296)) i (j + 1) + (o (i + j) + lv j + c)/4294967296*4294967296^(j + 1)=cd o0 i (j + 1) + val lv (j + 1):=by
  rw [dX,dX,er _ (Nat.le_refl _),bs];simp only [val];rw [←heq _ (Nat.le_refl _),ce];have h2:=Nat.mod_add_div (o (i + j) + lv j + c) 4294967296
  generalize (o (i + j) + lv j + c)/4294967296=q at h2⊢
  generalize (o (i + j) + lv j + c) % 4294967296=m at h2⊢
  generalize 4294967296^j=p at h⊢
  have h4:(m + 4294967296*q)*p=(o (i + j) + lv j + c)*p:=by rw [h2]
  have e2:q*(4294967296*p)=4294967296*q*p:=by rw [←Nat.mul_assoc,Nat.mul_comm q]
  rw [e2];simp only [Nat.add_mul] at h4⊢;omega
theorem mc (l:Nat→Nat) {i n m:Nat} (him:i + n≤m) (hz:∀t,i + n≤t→t<m→l t=0):val l m=val l i + 4294967296^i*cd l i n:=by
  rw [fG him hz,ej l i (by omega),show i + n - i=n by omega]
  congr 2
  exact db fun t _=>by rw [Nat.add_comm]
theorem nT {l:Nat→Nat} {m n:Nat} (hl:val l m<4294967296^n):∀t,n≤t→t<m→l t=0:=by
  intro t h1 h2;rcases Nat.eq_zero_or_pos (l t) with h | h
  · exact h
  · exfalso
    have h3:4294967296^n≤4294967296^t:=Nat.pow_le_pow_right (by omega) h1;have h4:4294967296^t≤val l (t + 1):=by
      simp only [val];have:=Nat.mul_le_mul_right (4294967296^t) h;omega
    have h5:=ej l (t + 1) (n:=m) (by omega);omega
structure LInv (X D:Nat) (lu lq:Nat→Nat) (m nq c:Nat):Prop where
  small:val lu m<D*4294967296^c
  sum:X=val lq nq*D + val lu m
  zero:∀t,t<c→lq t=0
theorem sT {X D m nq c n:Nat} {lu lq:Nat→Nat} (h:LInv X D lu lq m nq (c + 1)) (hD:D<4294967296^n) (hm:c + n + 1≤m):
    val lu m=val lu c + 4294967296^c*cd lu c (n + 1)∧cd lu c (n + 1)<D*4294967296∧∀t,c + n + 1≤t→t<m→lu t=0:=by
  have hz:∀t,c + n + 1≤t→t<m→lu t=0:=nT (by
    have h1:=h.small;have h2:D*4294967296^(c + 1)≤4294967296^n*4294967296^(c + 1):=Nat.mul_le_mul_right _ (Nat.le_of_lt hD);rw [←Nat.pow_add,show n + (c + 1)=c + n + 1 by omega] at h2;omega)
  have h3:=mc lu (i:=c) (n:=n + 1) (m:=m) (by omega) hz;refine ⟨h3,?_,hz⟩;have h4:=h.small;rw [h3,ce,←Nat.mul_assoc,Nat.mul_comm _ (4294967296^c)] at h4;exact Nat.lt_of_mul_lt_mul_left (Nat.lt_of_le_of_lt (Nat.le_add_left _ _) h4)
theorem sv {X D m nq c n G:Nat} {lu lq lu':Nat→Nat} (h:LInv X D lu lq m nq (c + 1)) (hD:D<4294967296^n) (hm:c + n + 1≤m) (hc:c<nq) (hl:∀t,t<m→lu t<4294967296)
    (hlow:∀t,t<c→lu' t=lu t) (hhigh:∀t,c + n + 1≤t→lu' t=lu t) (hw:cd lu' c (n + 1) + G*D=cd lu c (n + 1)) (hlt:cd lu' c (n + 1)<D):
    LInv X D lu' (cC lq c G) m nq c:=by
  obtain ⟨h1,h2,hz⟩:=sT h hD hm;have h1':=mc lu' (i:=c) (n:=n + 1) (m:=m) (by omega) fun t ht1 ht2=>(hhigh t ht1).trans (hz t ht1 ht2)
  have hlowv:val lu' c=val lu c:=db hlow;have hq:val (cC lq c G) nq=val lq nq + G*4294967296^c:=by
    rw [ej (cC lq c G) (c + 1) (n:=nq) (by omega),ej lq (c + 1) (n:=nq) (by omega)];have e1:val (cC lq c G) (c + 1)=val lq c + G*4294967296^c:=by
      simp only [val,bs];rw [et _ (Nat.le_refl _)]
    have e2:val lq (c + 1)=val lq c:=by simp only [val];rw [h.zero c (by omega)];omega
    have e3:val (fun t=>cC lq c G (t + (c + 1))) (nq - (c + 1))=val (fun t=>lq (t + (c + 1))) (nq - (c + 1)):=db fun t _=>bp _ _ _ _ (by omega)
    rw [e1,e2,e3];omega
  refine ⟨?_,?_,fun t ht=>(bp _ _ _ _ (by omega)).trans (h.zero t (by omega))⟩
  · rw [h1',hlowv]
    have h5:=dO (l:=lu) (n:=c) fun t ht=>hl t (by omega)
    have h6:4294967296^c*(cd lu' c (n + 1) + 1)≤4294967296^c*D:=Nat.mul_le_mul_left _ hlt;rw [Nat.mul_add,Nat.mul_comm _ D] at h6;omega
  · rw [hq,h.sum,h1,h1',hlowv,←hw,Nat.add_mul,Nat.mul_add]
    have:4294967296^c*(G*D)=G*4294967296^c*D:=by ac_rfl
    omega
end Go.TL
namespace Go.TL
open Go.RowKit
set_option linter.unusedVariables false
def vy (w:World) (v:Value) (c n m:Nat):Prop:=∃g l,v= .slice (some ⟨g,0,none⟩) c n∧cO w g n l∧val l n=m
theorem vy.ext {w w':World} {v:Value} {c n m:Nat} (h:vy w v c n m) (hx:aF w w'):vy w' v c n m:=by
  obtain ⟨g,l,h1,h2,h3⟩:=h;exact ⟨g,l,h1,h2.ext hx,h3⟩
theorem sk (c n m:Nat):bP (fun v w=>vy w v c n m):=fun _ _ _ h hx=>h.ext hx
instance (c n m:Nat):Nonempty (bP (fun v w=>vy w v c n m)):=⟨sk c n m⟩
def iF (w:World) (v:Value) (B c n m:Nat):Prop:=vy w v c n m∧B≤dl v
theorem iF.ext {w w':World} {v:Value} {B c n m:Nat} (h:iF w v B c n m) (hx:aF w w'):iF w' v B c n m:=⟨h.1.ext hx,h.2⟩
theorem fJ (B c n m:Nat):bP (fun v w=>iF w v B c n m):=fun _ _ _ h hx=>h.ext hx
instance (B c n m:Nat):Nonempty (bP (fun v w=>iF w v B c n m)):=⟨fJ B c n m⟩
theorem ky (B c n m:Nat):fA (fun v _ b=>b=dl v) (fun v w=>iF w v B c n m):=
  ⟨fun v w b h hb=>by obtain ⟨⟨g,l,h1,h2,h3⟩,_⟩:=h;subst h1;subst hb;exact h2.2.lt,fun _ _ _ _ _ _ h=>h⟩
section
variable {P:Program} {e:ct} {w:World} {d:Option Tmp} {ty:TypeId} {pos:String} {after:Array Edge} {gd:Option (Nat×Bool)}
theorem vt {t b B c n m j:Nat} {x hi:Operand} {i:Int} {k:IntKind} (ht:sliceB P t 101 1 b=true) (hx:iF w (ev e x) B c n m) (hh:ev e hi= .int k i) (hij:i=(j:Int)) (hj:j≤n):
    dj P ⟨d,.slice t x none (some hi) none,ty,pos,after,gd⟩ e w (fun v w'=>aF w w'∧iF w' v B j n m∧dl v=dl (ev e x)):=by
  obtain ⟨⟨g,l,h1,h2,h3⟩,h4⟩:=hx;refine (iD ht h1 hh hij hj).opX.mono fun v w' h=> ?_
  obtain ⟨rfl,rfl⟩:=h;rw [h1] at h4⊢;exact ⟨aF.refl _,⟨⟨g,l,rfl,h2,h3⟩,h4⟩,rfl⟩
theorem sN {B c n m:Nat} {x:Operand} (hx:iF w (ev e x) B c n m):
    dj P ⟨d,.assign x,ty,pos,after,gd⟩ e w (fun v w'=>aF w w'∧iF w' v B c n m∧dl v=dl (ev e x)):=
  (cI.assign rfl).opX.mono fun v w' h=>by
    obtain ⟨rfl,rfl⟩:=h;exact ⟨aF.refl _,hx,rfl⟩
end
theorem vz {a:Nat}:IntKind.u32.wrap (a:Int)=((a % 4294967296:Nat):Int):=eV (by omega)
theorem AR {G v:Nat} (hg:¬(4294967295:Int)<(G:Int)) (hv:v<4294967296):G*v<18446744073709551616:=by
  have:G*v≤4294967295*4294967295:=Nat.mul_le_mul (by omega) (by omega);omega
theorem sD {W D top v1 v2 u2 P G R:Nat} (h:Guess W D top v1 G R) (hor:(4294967295:Int)<((G:Nat):Int)∨((R*4294967296 + u2:Nat):Int)<((G*v2:Nat):Int)) (hW1:W<D*4294967296)
    (hW:W<(top*4294967296 + u2 + 1)*P) (hD:(v1*4294967296 + v2)*P≤D):0<G∧Guess W D top v1 (G - 1) (R + v1):=by
  rcases hor with h1 | h1
  · exact ⟨by omega,pL h (by omega) hW1⟩
  · refine ⟨?_,pK h (by omega) hW hD⟩
    rcases Nat.eq_zero_or_pos G with h0 | h0
    · subst h0;omega
    · exact h0
theorem sE {G R v2 u2:Nat} (hG:G<4294967296) (hv:v2<4294967296) (hR:4294967296≤R):G*v2≤R*4294967296 + u2:=by
  have:G*v2≤4294967295*4294967295:=Nat.mul_le_mul (by omega) (by omega);omega
theorem vA {l:Nat→Nat} {i n m:Nat} (hl:∀t,t<m→l t<4294967296) (h2:2≤n) (hm:i + n + 1≤m):
    ((l (i + n)*4294967296 + l (i + (n - 1)))*4294967296 + l (i + (n - 2)))*4294967296^(n - 2)≤cd l i (n + 1)∧
    cd l i (n + 1)<((l (i + n)*4294967296 + l (i + (n - 1)))*4294967296 + l (i + (n - 2)) + 1)*4294967296^(n - 2)∧
    cd l i (n + 1)<(l (i + n)*4294967296 + l (i + (n - 1)) + 1)*4294967296^(n - 1):=by
  obtain ⟨q,rfl⟩:∃q,n=q + 2:=⟨n - 2,by omega⟩
  simp only [Nat.add_sub_cancel,show q + 2 - 1=q + 1 by omega];have h0:=kl (l:=l) (i:=i) (j:=q) hl (by omega);have h1:=kl (l:=l) (i:=i) (j:=q + 1) hl (by omega);have e:cd l i (q + 2 + 1)=cd l i q + l (i + q)*4294967296^q + l (i + (q + 1))*4294967296^(q + 1) + l (i + (q + 2))*4294967296^(q + 2):=rfl;have e1:cd l i (q + 2 + 1)=cd l i (q + 1) + l (i + (q + 1))*4294967296^(q + 1) + l (i + (q + 2))*4294967296^(q + 2):=rfl;have p1:4294967296^(q + 2)=4294967296*4294967296^(q + 1):=ce _;have p2:4294967296^(q + 1)=4294967296*4294967296^q:=ce _;have m1:∀a b p:Nat,(a*4294967296 + b)*p=a*(4294967296*p) + b*p:=fun a b p=>by rw [Nat.add_mul,Nat.mul_assoc]
  refine ⟨?_,?_,?_⟩
  · rw [e,m1,m1,←p2,←p1];omega
  · rw [e,Nat.add_mul,m1,m1,←p2,←p1];omega
  · rw [e1,Nat.add_mul,m1,←p1];omega
theorem wI {l:Nat→Nat} {n:Nat} (hl:∀t,t<n→l t<4294967296) (h2:2≤n):
    (l (n - 1)*4294967296 + l (n - 2))*4294967296^(n - 2)≤val l n∧val l n<(l (n - 1)*4294967296 + l (n - 2) + 1)*4294967296^(n - 2)∧l (n - 1)*4294967296^(n - 1)≤val l n:=by
  obtain ⟨q,rfl⟩:∃q,n=q + 2:=⟨n - 2,by omega⟩
  simp only [Nat.add_sub_cancel,show q + 2 - 1=q + 1 by omega];have h0:=dO (l:=l) (n:=q) fun i hi=>hl i (by omega)
  have e:val l (q + 2)=val l q + l q*4294967296^q + l (q + 1)*4294967296^(q + 1):=rfl;have p2:4294967296^(q + 1)=4294967296*4294967296^q:=ce _;have m1:∀a b p:Nat,(a*4294967296 + b)*p=a*(4294967296*p) + b*p:=fun a b p=>by rw [Nat.add_mul,Nat.mul_assoc]
  refine ⟨?_,?_,?_⟩
  · rw [e,m1,←p2];omega
  · rw [e,Nat.add_mul,m1,←p2];omega
  · rw [e];omega
theorem ye {W D top v1 P:Nat} (hW:W<D*4294967296) (hlo:top*P≤W) (hD:D<(v1 + 1)*P):top<(v1 + 1)*4294967296:=by
  rcases Nat.lt_or_ge top ((v1 + 1)*4294967296) with h | h
  · exact h
  · have h1:(v1 + 1)*4294967296*P≤top*P:=Nat.mul_le_mul_right _ h
    have h2:D*4294967296<(v1 + 1)*P*4294967296:=Nat.mul_lt_mul_of_pos_right hD (by decide);have h3:(v1 + 1)*P*4294967296=(v1 + 1)*4294967296*P:=by ac_rfl
    omega
theorem zf {o lu:Nat→Nat} {i n G D cr bw W:Nat} (hms:cd o i n + G*D=cd lu i n + (cr + bw)*4294967296^n) (heq:o (i + n)=lu (i + n)) (hcr:cr<4294967296) (hu:o (i + n)<4294967296) (hbw:bw≤1)
    (hs:¬((ey (o (i + n)) cr bw:Nat):Int)=1) (hW:W=cd lu i (n + 1)) (hup:W<(G + 1)*D):
    cd (cC o (i + n) (dN (o (i + n)) cr bw)) i (n + 1) + G*D=W∧cd (cC o (i + n) (dN (o (i + n)) cr bw)) i (n + 1)<D:=by
  have hge:cr + bw≤o (i + n):=by
    unfold ey at hs
    split at hs
    · exact absurd rfl hs
    · omega
  have hd:dN (o (i + n)) cr bw=o (i + n) - cr - bw:=by unfold dN;omega
  have h1:=wg hms heq hge;rw [hd,hW];rw [hW,Nat.add_mul] at hup;exact ⟨h1,by omega⟩
theorem wE {o lu o2:Nat→Nat} {i n G D cr bw c2 W:Nat} (hms:cd o i n + G*D=cd lu i n + (cr + bw)*4294967296^n) (heq:o (i + n)=lu (i + n)) (hcr:cr<4294967296) (hu:o (i + n)<4294967296) (hbw:bw≤1)
    (hs:((ey (o (i + n)) cr bw:Nat):Int)=1) (hW:W=cd lu i (n + 1)) (hGD:G*D<W + D) (hDn:D<4294967296^n) (hlo:cd o i n<4294967296^n) (hlo2:cd o2 i n<4294967296^n)
    (hc2:c2≤1) (hab:cd o2 i n + c2*4294967296^n=cd o i n + D) (heq2:o2 (i + n)=dN (o (i + n)) cr bw):
    0<G∧cd (cC o2 (i + n) ((o2 (i + n) + c2) % 4294967296)) i (n + 1) + (G - 1)*D=W∧cd (cC o2 (i + n) ((o2 (i + n) + c2) % 4294967296)) i (n + 1)<D:=by
  have hlt:o (i + n)<cr + bw:=by
    unfold ey at hs
    split at hs
    · rename_i h;omega
    · simp at hs
  have h1:=we hms heq hlt (hW▸hGD) hDn hlo;have hd:dN (o (i + n)) cr bw=4294967295:=by unfold dN;omega
  have hw:W=cd lu i n + lu (i + n)*4294967296^n:=hW;rw [h1,Nat.add_mul,heq] at hms;have hG:0<G:=by
    rcases Nat.eq_zero_or_pos G with h0 | h0
    · subst h0;simp at hms;omega
    · exact h0
  obtain ⟨q,rfl⟩:∃q,G=q + 1:=⟨G - 1,by omega⟩
  rw [Nat.add_mul,Nat.one_mul] at hms hGD;have hc:c2=1:=by
    rcases Nat.lt_or_ge c2 1 with h0 | h0
    · have:c2=0:=by omega
      subst this;omega
    · omega
  subst hc;simp only [Nat.add_sub_cancel];rw [dX,er _ (Nat.le_refl _),bs,heq2,hd];refine ⟨hG,?_,?_⟩<;>simp<;>omega
theorem mS {x k:Nat} (hk:k<32) (hx:x<4294967296):x*4294967296/2^k % 4294967296=x % 2^k*2^(32 - k):=by
  have e:(4294967296:Nat)=2^(32 - k)*2^k:=by rw [←Nat.pow_add,Nat.sub_add_cancel (by omega)]
  have h1:x*4294967296/2^k=x*2^(32 - k):=by
    rw [e,←Nat.mul_assoc,Nat.mul_div_cancel _ (Nat.pow_pos (by decide))]
  rw [h1];have h2:(4294967296:Nat)=2^k*2^(32 - k):=by rw [←Nat.pow_add,show k + (32 - k)=32 by omega]
  rw [h2,Nat.mul_mod_mul_right]
theorem tv {x k:Nat} (hk:k<32) (hx:x<4294967296):x/2^k<2^(32 - k):=by
  refine (Nat.div_lt_iff_lt_mul (Nat.pow_pos (by decide))).2 ?_;rw [←Nat.pow_add,Nat.sub_add_cancel (by omega)];exact hx
theorem fR {x y k:Nat} (hk:k<32) (hx:x<4294967296) (hy:y<4294967296):x/2^k + y*4294967296/2^k % 4294967296<4294967296:=by
  rw [mS hk hy];have h1:=tv hk hx;have h2:y % 2^k + 1≤2^k:=Nat.mod_lt _ (Nat.pow_pos (by decide));have h3:(y % 2^k + 1)*2^(32 - k)≤2^k*2^(32 - k):=Nat.mul_le_mul_right _ h2;rw [←Nat.pow_add,show k + (32 - k)=32 by omega,Nat.add_mul] at h3;omega
theorem yI {x y k:Nat} (hk:k<32) (hx:x<4294967296) (hy:y<4294967296):
    bits .or .u32 ((x/2^k:Nat):Int) ((y*4294967296/2^k % 4294967296:Nat):Int)=((x/2^k + y*4294967296/2^k % 4294967296:Nat):Int):=by
  have h:=fR hk hx hy;rw [mS hk hy] at h⊢;exact xR (tv hk hx) (by omega)
theorem tu {o lu:Nat→Nat} {j k:Nat} (hk:k<32) (hl:lu (j + 1)<4294967296) (h:val o j*2^k + lu 0 % 2^k=val lu j + lu j % 2^k*4294967296^j):
    val (cC o j (lu j/2^k + lu (j + 1)*4294967296/2^k % 4294967296)) (j + 1)*2^k + lu 0 % 2^k=val lu (j + 1) + lu (j + 1) % 2^k*4294967296^(j + 1):=by
  simp only [val];rw [et _ (Nat.le_refl _),bs,mS hk hl,ce];have h1:=Nat.div_add_mod (lu j) (2^k);have e:(4294967296:Nat)=2^(32 - k)*2^k:=by rw [←Nat.pow_add,Nat.sub_add_cancel (by omega)]
  have h2:(lu j/2^k + lu (j + 1) % 2^k*2^(32 - k))*4294967296^j*2^k=lu j/2^k*2^k*4294967296^j + lu (j + 1) % 2^k*(4294967296*4294967296^j):=by
    rw [Nat.add_mul,Nat.add_mul]
    congr 1
    · ac_rfl
    · generalize 4294967296^j=z
      rw [e]
      ac_rfl
  rw [Nat.add_mul,h2];have h3:lu j*4294967296^j=lu j/2^k*2^k*4294967296^j + lu j % 2^k*4294967296^j:=by
    rw [←Nat.add_mul,Nat.mul_comm (lu j/2^k),h1]
  rw [h3];omega
theorem vj {o o2 lv:Nat→Nat} {i j n v c:Nat} (hj:j<n) (heq:∀t,i + j≤t→o2 t=(cC o (i + n) v) t) (h:cd o2 i j + c*4294967296^j=cd o i j + val lv j):
    cd (cC o2 (i + j) ((o2 (i + j) + lv j + c) % 4294967296)) i (j + 1) + (o2 (i + j) + lv j + c)/4294967296*4294967296^(j + 1)=cd o i (j + 1) + val lv (j + 1):=by
  have e:∀j',j'≤n→cd (cC o (i + n) v) i j'=cd o i j':=fun j' hj'=>er _ (by omega)
  rw [←e (j + 1) hj];exact wZ heq (by rw [e j (by omega)];exact h)
theorem uq (w:World):dT w (.slice none 0 0) 0:=⟨none,0,0,fun _=>0,rfl,aC.nil _ _,rfl⟩
theorem lA {w:World} {g m:Nat} (h:be w g 101 1 (bS [.int .u32 (m:Int)])) (hm:m<4294967296):dT w (.slice (some ⟨g,0,none⟩) 1 1) m:=by
  refine ⟨_,1,1,fun _=>m,rfl,eM h (Nat.le_refl _) (Nat.le_refl _) (by decide) (fun _ _=>hm) (fun i hi=> ?_),by simp [val]⟩;have:i=0:=by omega
  subst this;rfl
theorem kA {w:World} {v:Value} {m m':Nat} (h:dT w v m) (e:m=m'):dT w v m':=e▸h
theorem gK {l:Nat→Nat} {n:Nat} (h:val l n≠0):0<n:=by
  rcases Nat.eq_zero_or_pos n with h0 | h0
  · subst h0;exact absurd rfl h
  · exact h0
theorem fP {l:Nat→Nat} {n:Nat} (h:n=1):val l n=l 0:=by subst h;simp [val]
theorem um {X D Q U x y k r:Nat} (hX:X=x*2^k) (hD:D=y*2^k) (hs:X=Q*D + U) (hlt:U<D) (hr:r*2^k + U % 2^k=U):Q=x/y∧r=x % y:=by
  have hp:0<2^k:=Nat.pow_pos (by decide);have h1:X/D=Q:=by rw [hs,Nat.mul_comm,Nat.mul_add_div (by omega),Nat.div_eq_of_lt hlt,Nat.add_zero]
  have h2:X % D=U:=by rw [hs,Nat.mul_comm,Nat.mul_add_mod,Nat.mod_eq_of_lt hlt]
  rw [hX,hD,Nat.mul_div_mul_right _ _ hp] at h1;rw [hX,hD,Nat.mul_mod_mul_right] at h2;refine ⟨h1.symm,?_⟩;rw [←h2,Nat.mul_mod_left,Nat.add_zero] at hr;exact Nat.eq_of_mul_eq_mul_right hp hr
end Go.TL
namespace Go.TL
open Go.RowKit
def AL (P:Program) (N:Nat) (l:List Oper) (K:ct→World→Prop) (fuel:Nat) (listed:Array Bool) (e:ct) (w:World):Prop:=
  ∀a Q,IsE N a e→(∀a' e' w',IsE N a' e'→K e' w'→Q .normal a' w')→wpAny P .any l.toArray Q fuel listed a w
def Bi (P:Program) (N:Nat) (l:List Oper) (K:ct→World→Prop) (fuel:Nat) (listed:Array Bool) (i:Nat) (e:ct) (w:World):Prop:=
  ∀a Q,IsE N a e→(∀a' e' w',IsE N a' e'→K e' w'→Q .normal a' w')→wpOp P l.toArray Q i (wpAny P .any l.toArray Q fuel (listed.setIfInBounds i true)) a w
def zG (P:Program) (N:Nat) (l:List Oper) (K:ct→World→Prop) (fuel:Nat) (listed:Array Bool) (e:ct) (w:World):List Nat→Prop
  | i::is=>Bi P N l K fuel listed i e w∧zG P N l K fuel listed e w is
  | []=>True
section
variable {P:Program} {N:Nat} {l:List Oper} {K:ct→World→Prop} {fuel:Nat} {listed:Array Bool} {e:ct} {w:World} {i:Nat} {o:Oper}
theorem zG.at_:∀{is:List Nat},zG P N l K fuel listed e w is→∀i∈is,Bi P N l K fuel listed i e w
  | [],_,_,h=>by cases h
  | _::_,h,i,hi=>by
    rcases List.mem_cons.1 hi with h1 | h1
    · subst h1;exact h.1
    · exact zG.at_ h.2 i h1
theorem AL.nil (hr:Region.ready .any l.toArray listed= []) (h:K e w):AL P N l K 0 listed e w:=
  fun _ _ ha hk=>⟨hr,hk _ _ _ ha h⟩
theorem AL.step {is:List Nat} (hr:Region.ready .any l.toArray listed=is) (hne:is.isEmpty=false) (h:zG P N l K fuel listed e w is):AL P N l K (fuel + 1) listed e w:=
  fun a Q ha hk=>⟨fun hnil=>(by rw [hr] at hnil;subst hnil;cases hne),fun i hi=>zG.at_ h i (hr▸hi) a Q ha hk⟩
theorem AL.x {R:Value→World→Prop} (ho:l[i]? =some o) (hd:fK N o.dst=true) (hg:o.guard=none) (h:dj P o e w R)
    (k:∀v w',R v w'→AL P N l K fuel (listed.setIfInBounds i true) (dV e o.dst v) w'):Bi P N l K fuel listed i e w:=by
  intro a Q ha hk;have ho':l.toArray[i]? =some o:=by simpa using ho
  unfold wpOp
  rw [ho'];simp only;rw [if_pos (by simp [Region.wanted,hg])];exact .inl (h a ha.eval _ _ fun v w' hv=>k v w' hv _ Q (ha.put hd v) hk)
theorem AL.p {v:Value} (ho:l[i]? =some o) (hd:fK N o.dst=true) (hg:o.guard=none) (h:cI P o e w v) (k:AL P N l K fuel (listed.setIfInBounds i true) (dV e o.dst v) w):Bi P N l K fuel listed i e w:=
  AL.x ho hd hg h.opX fun _ _ ⟨h1,h2⟩=>h1▸h2▸k
end
theorem xb {P:Program} {N:Nat} {Q:cZ} {e:ct} {w:World} {id:Nat} {l:List Oper} (hm:P.follows .mixedOrders=true)
    (h:∀w',aF w w'→AL P N l (fun e w=>Q .normal e w) l.length (Array.replicate l.length false) e w'):WP P N (.region id l.toArray true) Q e w:=by
  intro a ha;refine wp_region_any hm ?_;simp only [List.size_toArray];have h1:=h {w with drawn:=w.drawn + 1} ⟨rfl,rfl,rfl,Nat.le_refl _,fun _ _=>rfl⟩;refine h1 a _ ha ?_;intro _ e'' _ h1 h2;exact ⟨e'',h1,h2⟩
theorem iB {P:Program} {N:Nat} {Q:cZ} {e:ct} {w:World} {id:Nat} {l:List Oper} {y:Code} (hm:P.follows .mixedOrders=true)
    (h:∀w',aF w w'→AL P N l (fun e w=>WP P N y Q e w) l.length (Array.replicate l.length false) e w'):WP P N (.seq (.region id l.toArray true) y) Q e w:=
  WP.seq (xb hm h)
end Go.TL
namespace Go.TL
set_option linter.unusedVariables false
theorem dP (m:Nat):au False m=(m:Int):=by simp [au]
def jZ (x y:Int):Int:=if x<0∧0<x.natAbs % y.natAbs then ((x.natAbs/y.natAbs:Nat):Int) + 1 else ((x.natAbs/y.natAbs:Nat):Int)
theorem wK (x:Int) {y:Nat} (hy:0<y):
    x/(y:Int)=(if x<0 then -(jZ x y) else jZ x y)∧x % (y:Int)=(if x<0∧0<x.natAbs % y then ((y - x.natAbs % y:Nat):Int) else ((x.natAbs % y:Nat):Int)):=by
  have h1:=Nat.div_add_mod x.natAbs y;have h2:=Nat.mod_lt x.natAbs hy
  unfold jZ
  simp only [Int.natAbs_natCast]
  generalize x.natAbs/y=q at h1⊢
  generalize x.natAbs % y=r at h1 h2⊢
  have h3:(y:Int)*(q:Int) + r=x.natAbs:=by exact_mod_cast h1
  by_cases hx:x<0
  · by_cases hr:0<r
    · rw [if_pos hx,if_pos ⟨hx,hr⟩,if_pos ⟨hx,hr⟩]
      refine (Int.ediv_emod_unique (by omega)).2 ⟨?_,by omega,by omega⟩;rw [Int.mul_neg,Int.mul_add];omega
    · rw [if_pos hx,if_neg (fun h=>hr h.2),if_neg (fun h=>hr h.2)]
      refine (Int.ediv_emod_unique (by omega)).2 ⟨?_,by omega,by omega⟩;rw [Int.mul_neg];omega
  · rw [if_neg hx,if_neg (fun h=>hx h.1),if_neg (fun h=>hx h.1)]
    refine (Int.ediv_emod_unique (by omega)).2 ⟨by omega,by omega,by omega⟩
theorem wJ (x y:Int):jZ x (y.natAbs:Int)=jZ x y:=by simp [jZ]
theorem fX (x:Int) {y:Int} (hy:y≠0):
    x/y=(if x<0↔y<0 then jZ x y else -(jZ x y))∧x % y=(if x<0∧0<x.natAbs % y.natAbs then ((y.natAbs - x.natAbs % y.natAbs:Nat):Int) else ((x.natAbs % y.natAbs:Nat):Int)):=by
  obtain ⟨h1,h2⟩:=wK x (y:=y.natAbs) (by omega);rw [wJ] at h1
  by_cases hn:y<0
  · have e:y= -(y.natAbs:Int):=by omega
    have h3:x/y= -(x/(y.natAbs:Int)):=by rw [←Int.ediv_neg,←e]
    have h4:x % y=x % (y.natAbs:Int):=by rw [←Int.emod_neg x (y.natAbs:Int),←e]
    rw [h3,h4,h1,h2];refine ⟨?_,rfl⟩
    by_cases hx:x<0<;>simp [hx,hn]
  · have e:y=(y.natAbs:Int):=by omega
    have h3:x/y=x/(y.natAbs:Int):=by rw [←e]
    have h4:x % y=x % (y.natAbs:Int):=by rw [←e]
    rw [h3,h4,h1,h2];refine ⟨?_,rfl⟩
    by_cases hx:x<0<;>simp [hx,hn]
theorem oJ {x y:Int} {b:Nat} (hy:y≠0) (hb:x.natAbs<2^b):(jZ x y).natAbs<2^b:=by
  have h1:=Nat.div_add_mod x.natAbs y.natAbs;have hp:0<y.natAbs:=by omega
  have h2:=Nat.mod_lt x.natAbs hp;have h3:x.natAbs/y.natAbs≤y.natAbs*(x.natAbs/y.natAbs):=Nat.le_mul_of_pos_left _ hp
  unfold jZ
  generalize x.natAbs/y.natAbs=q at h1 h3⊢
  generalize y.natAbs*q=p at h1 h3
  split
  · rename_i h
    omega
  · omega
theorem kF {x y:Int} {b:Nat} (hy:y≠0) (hb:x.natAbs<2^b):(x/y).natAbs<2^b:=by
  have h:=oJ hy hb;rw [(fX x hy).1]
  split<;>omega
theorem kE {x y:Int} {b:Nat} (hy:y≠0) (hb:y.natAbs<2^b):(x % y).natAbs<2^b:=by
  have h1:=Int.emod_nonneg x hy;have h2:=Int.emod_lt x hy;omega
theorem gY {x y b:Nat} (h:x<2^b):x/y<2^b:=Nat.lt_of_le_of_lt (Nat.div_le_self x y) h
theorem fU {x y b:Nat} (hy:y≠0) (h:y<2^b):x % y<2^b:=Nat.lt_trans (Nat.mod_lt _ (by omega)) h
theorem qQ {l:Nat→Nat} {n m:Nat} (hv:val l n=m) (ht:0<n→l (n - 1)≠0):0<n↔0<m:=by
  constructor
  · intro h
    have:=gL h (ht h);have:=iV (n - 1);omega
  · intro h
    exact gK (l:=l) (by omega)
theorem vc {z:Int} {b:Nat} (h:z.natAbs<2^b) (hz:z<0):1≤b:=by
  rcases Nat.eq_zero_or_pos b with h0 | h0
  · rw [h0] at h;simp at h;omega
  · exact h0
theorem xP (m:Nat) {y:Int} (hy:y≠0):(au False (m % y.natAbs)).natAbs≤y.natAbs:=by
  rw [dP,Int.natAbs_natCast];exact Nat.le_of_lt (Nat.mod_lt _ (by omega))
theorem wr {l:Nat→Nat} {n m:Nat} (hv:val l n=(au False m).natAbs) (ht:0<n→l (n - 1)≠0):(0:Int)<((n:Nat):Int)↔0<m:=by
  have h:=qQ hv ht;rw [dP,Int.natAbs_natCast] at h;omega
theorem yF {y b:Nat} (m:Nat) (h:y<2^b):y - m<2^b:=Nat.lt_of_le_of_lt (Nat.sub_le _ _) h
theorem pP {y:Int} (h:y≠0):y.natAbs≠0:=by omega
theorem al.eq {w:World} {v:Value} {z z':Int} {b b':Nat} (h:al w v z b) (e:z=z') (hb:z'.natAbs<2^b') (hl:b'≤br):al w v z' b':=(e▸h).more hb hl
end Go.TL
namespace Go.TL
open Go.RowKit
def fk (w:World) (g n cap:Nat) (o:Nat→Nat):Prop:=
  n≤cap∧cap<9223372036854775808∧∃f,be w g 101 cap f∧∀i,i<n→f i= .int .u32 (o i:Int)∧o i<4294967296
section
variable {w w':World} {g n cap:Nat} {o:Nat→Nat}
theorem fk.ext (h:fk w g n cap o) (hx:aF w w'):fk w' g n cap o:=by
  obtain ⟨h1,h2,f,h3,h4⟩:=h;exact ⟨h1,h2,f,h3.ext hx,h4⟩
theorem fk.lt (h:fk w g n cap o):g<w.heap.size:=by obtain ⟨_,_,f,h3,_⟩:=h;exact h3.lt
theorem fk.le (h:fk w g n cap o):n≤cap:=h.1
theorem fk.lim (h:fk w g n cap o):cap<9223372036854775808:=h.2.1
theorem fk.limbs (h:fk w g n cap o):aC w (some ⟨g,0,none⟩) n cap o:=by
  obtain ⟨h1,h2,f,h3,h4⟩:=h;exact ⟨h1,h2,fun i hi=>(h4 i hi).2,fun _=>⟨g,cap,f,rfl,h1,h3,fun i hi=>(h4 i hi).1⟩⟩
theorem fk.ne {g' m:Nat} {T:TypeId} {f:Nat→Value} (h:fk w g n cap o) (ha:be w g' T m f) (ht:T≠101):g'≠g:=by
  obtain ⟨_,_,f',h3,_⟩:=h;exact ha.ne h3 ht
theorem fk.keep {g' m:Nat} {T:TypeId} {f:Nat→Value} (h:fk w g n cap o) (hk:Keeps (fun b=>b=g') w w') (ha:be w g' T m f) (ht:T≠101):fk w' g n cap o:=by
  have hne:=h.ne ha ht;obtain ⟨h1,h2,f',h3,h4⟩:=h;exact ⟨h1,h2,f',h3.keep hk (Ne.symm hne),h4⟩
theorem fk.born (h:be w g 101 0 (bS [])) (o:Nat→Nat):fk w g 0 0 o:=⟨Nat.le_refl _,by decide,_,h,fun i hi=>by omega⟩
theorem fk.congr {o':Nat→Nat} (h:fk w g n cap o) (he:∀i,i<n→o i=o' i):fk w g n cap o':=by
  obtain ⟨h1,h2,f,h3,h4⟩:=h;exact ⟨h1,h2,f,h3,fun i hi=>by rw [←he i hi];exact h4 i hi⟩
theorem cO.own {g n:Nat} {l:Nat→Nat} (h:cO w g n l) (hn:n<9223372036854775808):fk w g n n l:=⟨Nat.le_refl _,hn,_,h.2,fun i hi=>⟨rfl,h.1 i hi⟩⟩
end
section
variable {P:Program} {e:ct} {w:World} {d:Option Tmp} {ty:TypeId} {pos:String} {after:Array Edge} {gd:Option (Nat×Bool)}
theorem dj.push {t b g n cap g1 c1 B v:Nat} {x y:Operand} {o:Nat→Nat} (ht:sliceB P t 101 1 b=true) (hb4:b≤4) (hz:(P.info? 101).bind (·.zero)=some (.int .u32 0))
    (hx:ev e x= .slice (some ⟨g,0,none⟩) n cap) (hy:ev e y= .slice (some ⟨g1,0,none⟩) 1 c1) (hA:fk w g n cap o) (hT:be w g1 101 1 (bS [.int .u32 (v:Int)])) (hv:v<4294967296)
    (hB:B≤g) (hn:n<35184372088832):
    dj P ⟨d,.call {callee:= .builtin .append,args:= #[x,y],argTypes:= #[t,t]},ty,pos,after,gd⟩ e w
      (fun v' w'=>Keeps (fun b=>b=g) w w'∧∃g' cap',v'= .slice (some ⟨g',0,none⟩) (n + 1) cap'∧B≤g'∧fk w' g' (n + 1) cap' (cC o n v)):=by
  obtain ⟨h1,h2,f,h3,h4⟩:=hA;obtain ⟨hu,i0,hi0,hm,hbb⟩:=bX ht;have hz':i0.zero=some (.int .u32 0):=by rw [hi0] at hz;simpa using hz
  have hc1:∀(j:Nat) (u:Value), [Value.int .u32 (v:Int)][j]? =some u→w.cell? ((⟨g1,0,none⟩:Addr).add j)=some u:=by
    intro j u hj;obtain ⟨h5,h6⟩:=List.getElem?_eq_some_iff.1 hj;simp at h5;subst h5;simp at h6;subst h6;rw [Addr.add_lit];exact hT.cell (i:=0) (by decide)
  have hone:∀u∈ [Value.int .u32 (v:Int)],u.oneCell'=true:=by simp [Value.oneCell']
  by_cases hr:n + 1≤cap
  · obtain ⟨w',hs,hk,ha⟩:=cJ P (off:=n) [Value.int .u32 (v:Int)] 0 w f h3 (by simpa using hr) hone
    have hcell:∀j,j< [Value.int .u32 (v:Int)].length→(w.cell? ⟨g,0 + n*i0.size + j,none⟩).isSome=true:=by
      intro j hj;simp at hj;subst hj;rw [hm,h3.cell (i:=0 + n*1 + 0) (by omega)]
      rfl
    have hfr:∀j,j< [Value.int .u32 (v:Int)].length→w.frozen? ⟨g,0 + n*i0.size + j,none⟩=false:=fun j _=>h3.frozen _
    have hrun:=run_append_room_cells (P:=P) w t ty 101 i0 hu hi0 g 0 n cap ⟨g1,0,none⟩ 1 c1 [Value.int .u32 (v:Int)] (by simp [hm]) hc1 hone hr hcell hfr;have hst:=run_storeCells_cells (P:=P) g (0 + n*i0.size) [Value.int .u32 (v:Int)] 0 w (by simpa using hcell) (by simpa using hfr) hone;have hw:w.setCells g (0 + n*i0.size) [Value.int .u32 (v:Int)]=w':=by
      have e1:(0 + n*i0.size:Nat)=n:=by rw [hm];omega
      rw [e1] at hst⊢;rw [hs] at hst;simp only [Nat.add_zero] at hst
      injection hst with _ h
      exact h.symm
    rw [hw] at hrun;refine cz (w':=w') (v:= .slice (some ⟨g,0,none⟩) (n + 1) cap) (by simp [execOp,resolve,invoke,builtin,hx,hy,hrun,Result.andThen]) ?_;refine ⟨hk,g,cap,rfl,hB,⟨hr,h2,_,ha,fun i hi=> ?_⟩⟩;simp only [dZ,Nat.add_zero]
    by_cases e:i=n
    · subst e
      rw [bV,bs];exact ⟨rfl,hv⟩
    · rw [cG _ _ _ _ e,bp _ _ _ _ e]
      exact h4 i (by omega)
  · obtain ⟨v',w',hrun,r1,r2⟩:=run_append_arg_grows (P:=P) w t ty 101 i0 (.int .u32 0) 1 b hu hi0 hz' hm hbb rfl (by decide) ⟨g,0,none⟩ n cap ((List.range n).map fun i=>Value.int .u32 (o i:Int)) (by simp)
      (fun j u hj=>by
        obtain ⟨h5,h6⟩:=List.getElem?_eq_some_iff.1 hj;simp at h5 h6;rw [Addr.add_lit,Nat.zero_add,h3.cell (i:=j) (by omega),(h4 j h5).1,h6]) ⟨g1,0,none⟩ 1 c1 [Value.int .u32 (v:Int)] (by simp) hc1 (by omega) (by simp only [maxLen];omega) (by have:=Nat.mul_le_mul_left (n + 1) hb4;omega)
    refine cz (w':=w') (v:=v') (by simp [execOp,resolve,invoke,builtin,hx,hy,hrun,Result.andThen]) ?_;rcases r1.2 with ⟨_,h0⟩ | ⟨g',cap',cur,hv',hg,hh,h5,h6,h7,h8⟩
    · omega
    · have hle:=h3.lt
      refine ⟨⟨r2.os,r2.tape,r2.output,r2.size,fun k hk _=>r2.block k hk (by simp)⟩,g',cap',hv',by omega,⟨h5,by simp only [maxLen] at h6;omega,fun i=>cur.getD i undef,⟨cur,hh,by omega,fun i hi=>by simp [h7,hi]⟩,fun i hi=> ?_⟩⟩;have h9:(cur.toList.take ((n + 1)*1))[i]? =((List.range n).map (fun i=>Value.int .u32 (o i:Int)) ++ [Value.int .u32 (v:Int)])[i]? :=by rw [h8]
      rw [List.getElem?_take,if_pos (by omega)] at h9
      by_cases e:i=n
      · subst e
        rw [bs];rw [List.getElem?_append_right (by simp)] at h9;simp at h9;simp [h9,hv]
      · rw [bp _ _ _ _ e]
        rw [List.getElem?_append_left (by simp;omega)] at h9;simp [show i<n by omega] at h9;simp [h9];exact (h4 i (by omega)).2
end
end Go.TL
namespace Go.TL
open Go.RowKit
set_option linter.unusedVariables false
def iG (w:World) (v:Value):Prop:=∃g,v= .slice (some ⟨g,0,none⟩) 0 0
theorem iG.ext {w w':World} {v:Value} (h:iG w v) (hx:aF w w'):iG w' v:=h
theorem oA:bP (fun v w=>iG w v):=fun _ _ _ h _=>h
instance:Nonempty (bP (fun v w=>iG w v)):=⟨oA⟩
theorem dG.one {w:World} {v:Value} {m:Nat} (h:dG w v m):v.oneCell'=true:=by obtain ⟨A,n,c,l,rfl,_⟩:=h;rfl
section
variable {P:Program} {e:ct} {w:World} {d:Option Tmp} {ty:TypeId} {pos:String} {after:Array Edge} {gd:Option (Nat×Bool)}
theorem pU {t el m b:Nat} (ht:sliceB P t el m b=true):dj P ⟨d,.buildSlice t 0 #[],ty,pos,after,gd⟩ e w (fun v w'=>aF w w'∧iG w' v):=
  (dF ht).mono fun v w' ⟨g,h1,_,h3,_⟩=>⟨h3,g,h1⟩
theorem pV {n c m:Nat} {t b:Nat} {x y:Operand} {A:Option Addr} {l:Nat→Nat} (ht:sliceB P t 101 1 b=true) (hb4:b≤4) (hz:(P.info? 101).bind (·.zero)=some (.int .u32 0))
    (hx:iG w (ev e x)) (hy:ev e y= .slice A n c) (hL:aC w A n c l) (hn:n≤35184372088832) (htop:0<n→l (n - 1)≠0) (hm:val l n=m):
    dj P ⟨d,.call {callee:= .builtin .append,args:= #[x,y],argTypes:= #[t,t]},ty,pos,after,gd⟩ e w (fun v w'=>aF w w'∧dG w' v m):=by
  obtain ⟨g,hg⟩:=hx;subst hm;exact lP ht hb4 hz hg hy hL hn htop
end
theorem st {w:World} {v:Value} {m k b:Nat} {p:Prop} [Decidable p] (h:dG w v m) (hk:0<k↔0<m) (hb:m<2^b) (hlim:b≤br):
    al w (.agg #[.bool (decide (p∧(0:Int)<(k:Int))),v]) (au p m) b:=by
  obtain ⟨A,n,c,l,rfl,hL,hv,ht⟩:=h;refine al.mk hL (by rw [iO,hv]) ht ?_ (by rw [iO];exact hb) hlim
  by_cases hp:p
  · simp [au,hp];omega
  · simp [au,hp]
theorem yY {a b c d:Int} (h:cj a b=cj c d):(a<b)=(c<d):=by
  apply propext
  unfold cj at h
  constructor<;>intro h1
  · rw [if_pos h1] at h
    split at h
    · assumption
    · split at h<;>simp at h
  · rw [if_pos h1] at h
    split at h
    · assumption
    · split at h<;>simp at h
theorem qK {a b:Nat} {c d:Int} (h:cj (a:Int) (b:Int)=cj c d):Value.bool (decide (c<d))=Value.bool (decide (a<b)):=by
  have h1:=yY h
  congr 1
  rw [decide_eq_decide]
  constructor
  · intro h2;rw [←h1] at h2;omega
  · intro h2;rw [←h1];omega
theorem vL {o la lb:Nat→Nat} {i n m c:Nat} (hn:n≤i) (hm:m≤i) (hc:c=0) (h:val o i + c*4294967296^i=val (lz n la) i + val (lz m lb) i):val o i=val la n + val lb m:=by
  rw [lG la hn,lG lb hm,hc] at h;omega
theorem tB {x y:Int}:Value.bool (decide ((((x<0)↔(y<0))∧(¬(x.natAbs<y.natAbs)))∧(¬(y.natAbs<x.natAbs))))= .bool (decide (x=y)):=by
  congr 1
  rw [decide_eq_decide];omega
end Go.TL
namespace Go.TL
open Go.RowKit
set_option linter.unusedVariables false
theorem tI {o o1 lx ly:Nat→Nat} {i k ny c:Nat} (hk:k=ny∨k=ny + 1) (hc:c=0) (hz:∀t,i + ny≤t→o t=0) (heq:∀t,i + k≤t→o1 t=o t) (hs:val o (i + ny)=val lx i*val ly ny)
    (hs1:val o1 (i + k) + c*4294967296^(i + k)=val o (i + k) + lx i*val (lz ny ly) k*4294967296^i):val o1 (i + 1 + ny)=val lx (i + 1)*val ly ny:=by
  subst hc;rw [Nat.zero_mul,Nat.add_zero] at hs1;have h1:val o1 (i + 1 + ny)=val o1 (i + k):=by
    rcases hk with rfl | rfl
    · rw [show i + 1 + k=i + k + 1 by omega]
      simp only [val];rw [heq _ (Nat.le_refl _),hz _ (Nat.le_refl _),Nat.zero_mul,Nat.add_zero]
    · congr 1;omega
  have h2:val o (i + k)=val o (i + ny):=by
    rcases hk with rfl | rfl
    · rfl
    · rw [show i + (ny + 1)=i + ny + 1 by omega]
      simp only [val];rw [hz _ (Nat.le_refl _),Nat.zero_mul,Nat.add_zero]
  have h3:val (lz ny ly) k=val ly ny:=lG ly (by omega);rw [h1,hs1,h2,hs,h3];simp only [val];rw [Nat.add_mul,Nat.mul_right_comm]
theorem tt (a b:Int):(a - b).sign=cj a b:=by
  unfold cj
  rcases Int.lt_trichotomy a b with h | h | h
  · rw [if_pos h,Int.sign_eq_neg_one_of_neg (by omega)]
  · subst h;simp
  · rw [if_neg (by omega),if_pos h,Int.sign_eq_one_of_pos (by omega)]
theorem mT {x y c o:Nat} (hx:x<4294967296) (hy:y<4294967296) (hc:c<4294967296) (ho:o<4294967296):c + (x*y + o)<18446744073709551616:=by
  have:x*y≤4294967295*4294967295:=Nat.mul_le_mul (by omega) (by omega);omega
end Go.TL
namespace Go.TL
open Go.RowKit
set_option linter.unusedVariables false
def jf (o v:Nat→Nat) (n:Nat):Nat→Nat:=fun i=>if i<n then o i else v (i - n)
theorem kQ (f:Nat→Value) (v:Nat→Value):∀(m o i:Nat),dZ f o ((List.range m).map v) i=if o≤i∧i<o + m then v (i - o) else f i:=by
  intro m
  induction m generalizing f v with
  | zero=>intro o i;rw [if_neg (by omega)];rfl
  | succ m ih=>
    intro o i;rw [List.range_succ_eq_map,List.map_cons,List.map_map];simp only [dZ];have:=ih (xu f o (v 0)) (fun j=>v (j + 1)) (o + 1) i;have e:(v∘Nat.succ)=(fun j=>v (j + 1)):=rfl;rw [e,this]
    by_cases h1:o + 1≤i∧i<o + 1 + m
    · rw [if_pos h1,if_pos (by omega)];congr 1;omega
    · rw [if_neg h1]
      by_cases h2:i=o
      · subst h2;rw [bV,if_pos (by omega),Nat.sub_self]
      · rw [cG _ _ _ _ h2,if_neg (by omega)]
section
variable {P:Program} {e:ct} {w:World} {d:Option Tmp} {ty:TypeId} {pos:String} {after:Array Edge} {gd:Option (Nat×Bool)}
theorem sO {t b g n cap g1 c1 B m:Nat} {x y:Operand} {o:Nat→Nat} (v:Nat→Nat) (ht:sliceB P t 101 1 b=true) (hb4:b≤4) (hz:(P.info? 101).bind (·.zero)=some (.int .u32 0))
    (hx:ev e x= .slice (some ⟨g,0,none⟩) n cap) (hy:ev e y= .slice (some ⟨g1,0,none⟩) m c1) (hA:fk w g n cap o) (hT:be w g1 101 m (fun j=> .int .u32 (v j:Int))) (hv:∀j,j<m→v j<4294967296)
    (hB:B≤g) (hn:n + m≤35184372088832):
    dj P ⟨d,.call {callee:= .builtin .append,args:= #[x,y],argTypes:= #[t,t]},ty,pos,after,gd⟩ e w
      (fun v' w'=>Keeps (fun b=>b=g) w w'∧∃g' cap',v'= .slice (some ⟨g',0,none⟩) (n + m) cap'∧B≤g'∧fk w' g' (n + m) cap' (jf o v n)):=by
  obtain ⟨h1,h2,f,h3,h4⟩:=hA;obtain ⟨hu,i0,hi0,hm,hbb⟩:=bX ht;have hz':i0.zero=some (.int .u32 0):=by rw [hi0] at hz;simpa using hz
  have hlen:((List.range m).map fun j=>Value.int .u32 (v j:Int)).length=m:=by simp
  have hc1:∀(j:Nat) (u:Value),((List.range m).map fun j=>Value.int .u32 (v j:Int))[j]? =some u→w.cell? ((⟨g1,0,none⟩:Addr).add j)=some u:=by
    intro j u hj;obtain ⟨h5,h6⟩:=List.getElem?_eq_some_iff.1 hj;simp at h5 h6;rw [Addr.add_lit,Nat.zero_add,hT.cell h5,h6]
  have hone:∀u∈((List.range m).map fun j=>Value.int .u32 (v j:Int)),u.oneCell'=true:=by
    intro u hu;simp only [List.mem_map] at hu;obtain ⟨j,_,rfl⟩:=hu
    rfl
  by_cases hr:n + m≤cap
  · obtain ⟨w',hs,hk,ha⟩:=cJ P (off:=n) ((List.range m).map fun j=>Value.int .u32 (v j:Int)) 0 w f h3 (by rw [hlen];omega) hone
    have hcell:∀j,j<((List.range m).map fun j=>Value.int .u32 (v j:Int)).length→(w.cell? ⟨g,0 + n*i0.size + j,none⟩).isSome=true:=by
      intro j hj;rw [hlen] at hj;rw [hm,h3.cell (i:=0 + n*1 + j) (by omega)]
      rfl
    have hfr:∀j,j<((List.range m).map fun j=>Value.int .u32 (v j:Int)).length→w.frozen? ⟨g,0 + n*i0.size + j,none⟩=false:=fun j _=>h3.frozen _
    have hrun:=run_append_room_cells (P:=P) w t ty 101 i0 hu hi0 g 0 n cap ⟨g1,0,none⟩ m c1 ((List.range m).map fun j=>Value.int .u32 (v j:Int)) (by simp [hm]) hc1 hone hr hcell hfr;have hst:=run_storeCells_cells (P:=P) g (0 + n*i0.size) ((List.range m).map fun j=>Value.int .u32 (v j:Int)) 0 w (by simpa using hcell) (by simpa using hfr) hone;have hw:w.setCells g (0 + n*i0.size) ((List.range m).map fun j=>Value.int .u32 (v j:Int))=w':=by
      have e1:(0 + n*i0.size:Nat)=n:=by rw [hm];omega
      rw [e1] at hst⊢;rw [hs] at hst;simp only [Nat.add_zero] at hst
      injection hst with _ h
      exact h.symm
    rw [hw] at hrun;refine cz (w':=w') (v:= .slice (some ⟨g,0,none⟩) (n + m) cap) (by simp [execOp,resolve,invoke,builtin,hx,hy,hrun,Result.andThen]) ?_;refine ⟨hk,g,cap,rfl,hB,⟨hr,h2,_,ha,fun i hi=> ?_⟩⟩;rw [Nat.add_zero,kQ f (fun j=>Value.int .u32 (v j:Int))]
    unfold jf
    by_cases e:i<n
    · rw [if_neg (by omega),if_pos e];exact h4 i e
    · rw [if_pos (by omega),if_neg e];exact ⟨rfl,hv _ (by omega)⟩
  · obtain ⟨v',w',hrun,r1,r2⟩:=run_append_arg_grows (P:=P) w t ty 101 i0 (.int .u32 0) 1 b hu hi0 hz' hm hbb rfl (by decide) ⟨g,0,none⟩ n cap ((List.range n).map fun i=>Value.int .u32 (o i:Int)) (by simp)
      (fun j u hj=>by
        obtain ⟨h5,h6⟩:=List.getElem?_eq_some_iff.1 hj;simp at h5 h6;rw [Addr.add_lit,Nat.zero_add,h3.cell (i:=j) (by omega),(h4 j h5).1,h6]) ⟨g1,0,none⟩ m c1 ((List.range m).map fun j=>Value.int .u32 (v j:Int)) (by simp) hc1 (by omega) (by simp only [maxLen];omega) (by have:=Nat.mul_le_mul_left (n + m) hb4;omega)
    refine cz (w':=w') (v:=v') (by simp [execOp,resolve,invoke,builtin,hx,hy,hrun,Result.andThen]) ?_;rcases r1.2 with ⟨_,h0⟩ | ⟨g',cap',cur,hv',hg,hh,h5,h6,h7,h8⟩
    · omega
    · have hle:=h3.lt
      refine ⟨⟨r2.os,r2.tape,r2.output,r2.size,fun k hk _=>r2.block k hk (by simp)⟩,g',cap',hv',by omega,⟨h5,by simp only [maxLen] at h6;omega,fun i=>cur.getD i undef,⟨cur,hh,by omega,fun i hi=>by simp [h7,hi]⟩,fun i hi=> ?_⟩⟩;have h9:(cur.toList.take ((n + m)*1))[i]? =((List.range n).map (fun i=>Value.int .u32 (o i:Int)) ++ (List.range m).map (fun j=>Value.int .u32 (v j:Int)))[i]? :=by rw [h8]
      rw [List.getElem?_take,if_pos (by omega)] at h9
      unfold jf
      by_cases e:i<n
      · rw [if_pos e]
        rw [List.getElem?_append_left (by simpa using e)] at h9;simp [e] at h9;simp [h9];exact (h4 i e).2
      · rw [if_neg e]
        rw [List.getElem?_append_right (by simp;omega)] at h9;simp [show i - n<m by omega] at h9;simp [h9];exact hv _ (by omega)
end
def ij (w:World) (v:Value) (B T:Nat) (l:List Value):Prop:=∃g,v= .pointer (some ⟨g,0,none⟩)∧B≤g∧be w g T l.length (bS l)
theorem ij.ext {w w':World} {v:Value} {B T:Nat} {l:List Value} (h:ij w v B T l) (hx:aF w w'):ij w' v B T l:=by
  obtain ⟨g,h1,h2,h3⟩:=h;exact ⟨g,h1,h2,h3.ext hx⟩
theorem eP (B T:Nat) (l:List Value):bP (fun v w=>ij w v B T l):=fun _ _ _ h hx=>h.ext hx
instance (B T:Nat) (l:List Value):Nonempty (bP (fun v w=>ij w v B T l)):=⟨eP B T l⟩
theorem iZ (B T:Nat) (l:List Value):fA (fun v _ b=>b=dl v) (fun v w=>ij w v B T l):=
  ⟨fun v w b h hb=>by obtain ⟨g,h1,h2,h3⟩:=h;subst h1;subst hb;exact h3.lt,fun _ _ _ _ _ _ h=>h⟩
theorem fm {P:Program} {e:ct} {w:World} {d:Option Tmp} {ty:TypeId} {pos:String} {after:Array Edge} {gd:Option (Nat×Bool)} {T B:TypeId} {z:Value} (l:List Value) (hz:(P.info? T).bind (·.zero)=some z) (hl:z.cells=l.toArray) (hB:B≤w.heap.size):
    dj P ⟨d,.alloc T,ty,pos,after,gd⟩ e w (fun v w'=>aF w w'∧ij w' v B T l∧w.heap.size≤dl v):=
  (dj.alloc l hz hl).mono fun v w' ⟨g,h1,h2,h3,h4⟩=>by
    subst h1;exact ⟨h3,⟨g,rfl,Nat.le_trans hB h2,h4⟩,h2⟩
theorem jx {e:ct}:(#[]:Array (Nat×Operand)).toList.map (fun p:Nat×Operand=>(p.1,ev e p.2))= []:=rfl
theorem lE {x sc b:Nat} (h:x<2^b) (h2:sc<4294967296):((x*sc:Nat):Int).natAbs<2^(b + 32):=by
  rw [Int.natAbs_natCast,Nat.pow_add];exact Nat.mul_lt_mul_of_lt_of_lt h (by simpa using h2)
theorem wY {w:World} {g a b:Nat} (h:be w g 101 2 (bS [.int .u32 (a:Int),.int .u32 (b:Int)])):be w g 101 2 (fun j=> .int .u32 (((if j=0 then a else b:Nat)):Int)):=by
  refine h.congr fun i hi=> ?_
  rcases (by omega:i=0∨i=1) with rfl | rfl<;>rfl
theorem nR (o v:Nat→Nat) (n:Nat):∀m,val (jf o v n) (n + m)=val o n + val v m*4294967296^n
  | 0=>by
    simp only [Nat.add_zero,val,Nat.zero_mul];exact db fun i hi=>by simp [jf,hi]
  | m + 1=>by
    rw [←Nat.add_assoc];simp only [val];rw [nR o v n m,Nat.add_mul,show jf o v n (n + m)=v m by (unfold jf;rw [if_neg (by omega)];congr 1;omega),Nat.pow_add,Nat.mul_assoc,Nat.mul_comm (4294967296^n)];omega
theorem Bu {lr ld:Nat→Nat} {n:Nat} (hn:0<n) (hd:∀i,i<n→ld i<4294967296) (hle:val ld n≤val lr n):max 1 (lr (n - 1)/(ld (n - 1) + 1))*val ld n≤val lr n:=by
  obtain ⟨m,rfl⟩:∃m,n=m + 1:=⟨n - 1,by omega⟩
  simp only [Nat.add_sub_cancel];rcases Nat.le_total (lr m/(ld m + 1)) 1 with h | h
  · rw [Nat.max_eq_left h,Nat.one_mul];exact hle
  · rw [Nat.max_eq_right h]
    have h1:=dO (l:=ld) (n:=m) fun i hi=>hd i (by omega)
    have h2:val ld (m + 1)≤(ld m + 1)*4294967296^m:=by simp only [val];rw [Nat.add_mul];omega
    have h3:lr m/(ld m + 1)*val ld (m + 1)≤lr m/(ld m + 1)*((ld m + 1)*4294967296^m):=Nat.mul_le_mul_left _ h2;have h4:lr m/(ld m + 1)*(ld m + 1)≤lr m:=Nat.div_mul_le_self _ _;have h5:lr m/(ld m + 1)*(ld m + 1)*4294967296^m≤lr m*4294967296^m:=Nat.mul_le_mul_right _ h4;have h6:lr m*4294967296^m≤val lr (m + 1):=by simp only [val];omega
    rw [←Nat.mul_assoc] at h3;omega
theorem Bt {lr ld:Nat→Nat} {n m:Nat} (hm:0<m) (hmn:m<n) (hd:∀i,i<m→ld i<4294967296) (hr:∀i,i<n→lr i<4294967296):
    (lr (n - 1)*4294967296 + lr (n - 2))/(ld (m - 1) + 1)*4294967296^(n - m - 1)*val ld m≤val lr n:=by
  obtain ⟨p,rfl⟩:∃p,m=p + 1:=⟨m - 1,by omega⟩
  obtain ⟨q,rfl⟩:∃q,n=p + q + 2:=⟨n - p - 2,by omega⟩
  simp only [Nat.add_sub_cancel,show p + q + 2 - 1=p + q + 1 by omega,show p + q + 2 - (p + 1) - 1=q by omega];have h1:=dO (l:=ld) (n:=p) fun i hi=>hd i (by omega)
  have h2:val ld (p + 1)≤(ld p + 1)*4294967296^p:=by simp only [val];rw [Nat.add_mul];omega
  generalize hT:lr (p + q + 1)*4294967296 + lr (p + q)=T
  have h4:T/(ld p + 1)*(ld p + 1)≤T:=Nat.div_mul_le_self _ _;have h3:T/(ld p + 1)*4294967296^q*val ld (p + 1)≤T/(ld p + 1)*4294967296^q*((ld p + 1)*4294967296^p):=Nat.mul_le_mul_left _ h2;have h5:T/(ld p + 1)*4294967296^q*((ld p + 1)*4294967296^p)=T/(ld p + 1)*(ld p + 1)*4294967296^(p + q):=by rw [Nat.pow_add];ac_rfl
  have h6:T/(ld p + 1)*(ld p + 1)*4294967296^(p + q)≤T*4294967296^(p + q):=Nat.mul_le_mul_right _ h4;have h7:T*4294967296^(p + q)≤val lr (p + q + 2):=by
    have e:val lr (p + q + 2)=val lr (p + q) + lr (p + q)*4294967296^(p + q) + lr (p + q + 1)*4294967296^(p + q + 1):=rfl;rw [e,←hT,Nat.add_mul,Nat.mul_assoc,←ce];omega
  omega
theorem wz (E n:Nat):val (jf (fun _=>0) (fun j=>if j=0 then E % 4294967296 else E/4294967296) n) (n + 2)=E*4294967296^n:=by
  have h0:val (fun _=>0) n=0:=by
    induction n with
    | zero=>rfl
    | succ n ih=>simp only [val,ih,Nat.zero_mul]
  have h1:val (fun j=>if j=0 then E % 4294967296 else E/4294967296) 2=E:=by
    simp only [val];have:=Nat.mod_add_div E 4294967296;simp;omega
  rw [nR,h0,h1,Nat.zero_add]
theorem wB {a c b:Nat} (ha:a<4294967296):(((max 1 (a/(c + 1)):Nat)):Int).natAbs<2^(b + 64):=by
  have h1:=Nat.div_le_self a (c + 1);have h2:(2:Nat)^64≤2^(b + 64):=Nat.pow_le_pow_right (by omega) (by omega);have h3:(2:Nat)^64=18446744073709551616:=by decide
  rw [Int.natAbs_natCast];omega
theorem wC {z my mx b:Nat} (h:z*my≤mx) (hm:my≠0) (hb:mx<2^b):z<2^(b + 64):=by
  have h1:z*1≤z*my:=Nat.mul_le_mul_left _ (by omega);have h2:(2:Nat)^b≤2^(b + 64):=Nat.pow_le_pow_right (by omega) (by omega);omega
theorem wA {a b l:Nat} (ha:0<a) (hl:l<4294967296):0<(a*4294967296 + b)/(l + 1):=by
  refine Nat.div_pos ?_ (by omega);have:=Nat.mul_le_mul_right 4294967296 ha;omega
end Go.TL
namespace Go.TL
open Go.RowKit
set_option linter.unusedVariables false
theorem AD (m:Nat):au False m=(m:Int):=by simp [au]
theorem wH (m sc:Nat):(au False m:Int)*au False sc=((m*sc:Nat):Int):=by rw [AD,AD,Int.natCast_mul]
theorem AX {m sc:Nat} (h:m≠0) (hs:0<sc):((au False m:Int)*au False sc).natAbs≠0:=by
  rw [wH,Int.natAbs_natCast];exact Nat.mul_ne_zero h (by omega)
theorem AW {z m sc R:Nat} (h:z*((au False m:Int)*au False sc).natAbs≤((R:Nat):Int).natAbs):z*(m*sc)≤R:=by
  rwa [wH,Int.natAbs_natCast,Int.natAbs_natCast] at h
theorem Bw {z m sc R:Nat} (h:z*(m*sc)≤R):((R:Nat):Int) - ((z:Nat):Int)*((au False m:Int)*au False sc)=((R - z*(m*sc):Nat):Int):=by
  rw [wH,←Int.natCast_mul,Int.natCast_sub h]
theorem Bx (Q z:Nat):((Q:Nat):Int) + ((z:Nat):Int)=((Q + z:Nat):Int):=by omega
theorem AZ {R b k:Nat} (h:((R:Nat):Int).natAbs<2^b):((R - k:Nat):Int).natAbs<2^b:=by
  rw [Int.natAbs_natCast] at h⊢;omega
theorem zg {X Q D R z:Nat} (h:X=Q*D + R) (hz:z*D≤R):X=(Q + z)*D + (R - z*D):=by rw [Nat.add_mul];omega
theorem A0 {X Q D R b:Nat} (h:X=Q*D + R) (hD:D≠0) (hX:X<2^b):((Q:Nat):Int).natAbs<2^b:=by
  rw [Int.natAbs_natCast];have:Q*1≤Q*D:=Nat.mul_le_mul_left _ (by omega);omega
theorem wG {R D z:Nat} (hD:D≠0) (hz:0<z) (h:z*D≤R):R - z*D<R:=by
  have:1*1≤z*D:=Nat.mul_le_mul hz (by omega);omega
theorem zh {mx my sc Q R:Nat} (hs:0<sc) (h:mx*sc=Q*(my*sc) + R) (hR:R<my*sc):Q=mx/my∧R/sc=mx % my:=by
  have h1:(mx*sc)/sc=mx:=Nat.mul_div_cancel _ hs;have h2:mx=Q*my + R/sc:=by
    rw [h,←Nat.mul_assoc,Nat.mul_comm (Q*my) sc,Nat.mul_add_div hs] at h1;exact h1.symm
  have h3:R/sc<my:=Nat.div_lt_of_lt_mul (by rw [Nat.mul_comm];exact hR);have h4:0<my:=Nat.lt_of_le_of_lt (Nat.zero_le _) h3
  constructor
  · rw [h2,Nat.mul_comm Q my,Nat.mul_add_div h4,Nat.div_eq_of_lt h3,Nat.add_zero]
  · rw [h2,Nat.mul_comm Q my,Nat.mul_add_mod,Nat.mod_eq_of_lt h3]
theorem AY {m sc R:Nat} (h:¬¬(((R:Nat):Int).natAbs<((au False m:Int)*au False sc).natAbs)):R<m*sc:=by
  have:=Classical.not_not.1 h
  rwa [wH,Int.natAbs_natCast,Int.natAbs_natCast] at this
theorem A1 {m sc:Nat} (h:m≠0) (hs:0<sc):m*sc≠0:=Nat.mul_ne_zero h (by omega)
theorem Bv {m sc b:Nat} (h:m<2^b) (hs:sc<4294967296):m*sc<2^(b + 32):=by
  have:=lE h hs
  rwa [Int.natAbs_natCast] at this
end Go.TL
namespace Go.TL
open Go.RowKit
set_option linter.unusedVariables false
def cN (w:World) (g n:Nat) (z:Nat→Int) (b:Nat):Prop:=∃m f,(2*n≤m∧b≤br)∧be w g 49 m f∧∀j,j<n→al w (.agg #[f (2*j),f (2*j + 1)]) (z j) b
def bO (w:World) (v:Value) (n:Nat) (z:Nat→Int) (b:Nat):Prop:=∃A k,v= .slice A n k∧n≤k∧(k<9223372036854775808∧n≤65536∧b≤br)∧(0<n→∃g,A=some ⟨g,0,none⟩∧cN w g n z b)
def co (w:World) (v:Value) (n c:Nat) (M:Nat→Nat→Int) (b:Nat):Prop:=
  ∃A k,v= .slice A n k∧n≤k∧(k<9223372036854775808∧n≤65536∧b≤br)∧(0<n→∃h o m f,A=some ⟨h,o,none⟩∧o + n≤m∧be w h 41 m f∧∀i,i<n→bO w (f (o + i)) c (M i) b)
def cc (w:World) (v:Value) (r c:Nat) (M:Nat→Nat→Int) (b:Nat):Prop:=∃s,v= .agg #[.int .i64 (r:Nat),.int .i64 (c:Nat),s]∧r≤65536∧c≤65536∧co w s r c M b
def pS (w:World) (v:Value) (n:Nat) (z:Nat→Int) (b:Nat):Prop:=∃h o u,v= .pointer (some ⟨h,o,none⟩)∧w.cell? ⟨h,o,none⟩=some u∧bO w u n z b
def nM (w:World) (v:Value) (z:Int) (b:Nat):Prop:=∃g o x y,v= .pointer (some ⟨g,o,none⟩)∧w.cell? ⟨g,o,none⟩=some x∧w.cell? ⟨g,o + 1,none⟩=some y∧al w (.agg #[x,y]) z b
def xm (w:World) (v:Value) (r c:Nat) (M:Nat→Nat→Int) (b:Nat):Prop:=
  ∃g s,v= .pointer (some ⟨g,0,none⟩)∧be w g 28 3 (bS [.int .i64 (r:Nat),.int .i64 (c:Nat),s])∧r≤65536∧c≤65536∧co w s r c M b
theorem aF.cell {w w':World} {g o:Nat} {v:Value} (h:w.cell? ⟨g,o,none⟩=some v) (hx:aF w w'):w'.cell? ⟨g,o,none⟩=some v:=by
  by_cases hg:g<w.heap.size
  · unfold World.cell? at h⊢
    simp only at h⊢;rw [hx.block g hg];exact h
  · have:w.heap[g]? =none:=Array.getElem?_eq_none (by omega)
    simp [World.cell?,this] at h
section
variable {w w':World} {v:Value} {g n r c b:Nat} {z:Nat→Int} {M:Nat→Nat→Int}
theorem cN.lt (h:cN w g n z b):g<w.heap.size:=by obtain ⟨m,f,_,ha,_⟩:=h;exact ha.lt
theorem cN.keep {S:Nat→Prop} (h:cN w g n z b) (hk:Keeps S w w') (hg:¬S g) (hs:∀k m f,S k→¬be w k 101 m f):cN w' g n z b:=by
  obtain ⟨m,f,hm,ha,hf⟩:=h;exact ⟨m,f,hm,ha.keep hk hg,fun j hj=>(hf j hj).keep hk hs⟩
theorem cN.ext (h:cN w g n z b) (hx:aF w w'):cN w' g n z b:=h.keep (hx.keeps (fun _=>False)) id fun _ _ _ hf=>hf.elim
theorem cN.congr {z':Nat→Int} (h:cN w g n z b) (he:∀j,j<n→z j=z' j):cN w g n z' b:=by
  obtain ⟨m,f,hm,ha,hf⟩:=h;exact ⟨m,f,hm,ha,fun j hj=>he j hj▸hf j hj⟩
theorem bO.keep {S:Nat→Prop} (h:bO w v n z b) (hk:Keeps S w w') (hs:∀k m f,S k→¬be w k 101 m f∧¬be w k 49 m f):bO w' v n z b:=by
  obtain ⟨A,k,h1,h2,h3,h4⟩:=h;refine ⟨A,k,h1,h2,h3,fun hn=> ?_⟩;obtain ⟨g,hA,hB⟩:=h4 hn;exact ⟨g,hA,hB.keep hk (fun hS=>by obtain ⟨m,f,_,ha,_⟩:=hB;exact (hs _ m f hS).2 ha) fun k m f hS=>(hs k m f hS).1⟩
theorem bO.ext (h:bO w v n z b) (hx:aF w w'):bO w' v n z b:=h.keep (hx.keeps (fun _=>False)) fun _ _ _ hf=>hf.elim
theorem bO.congr {z':Nat→Int} (h:bO w v n z b) (he:∀j,j<n→z j=z' j):bO w v n z' b:=by
  obtain ⟨A,k,h1,h2,h3,h4⟩:=h;exact ⟨A,k,h1,h2,h3,fun hn=>by obtain ⟨g,hA,hB⟩:=h4 hn;exact ⟨g,hA,hB.congr he⟩⟩
theorem bO.lim (h:bO w v n z b):n≤65536∧b≤br:=by obtain ⟨A,k,h1,h2,h3,h4⟩:=h;exact h3.2
theorem co.keep {S:Nat→Prop} (h:co w v n c M b) (hk:Keeps S w w') (hs:∀k m f,S k→¬be w k 101 m f∧¬be w k 49 m f∧¬be w k 41 m f):co w' v n c M b:=by
  obtain ⟨A,k,h1,h2,h3,h4⟩:=h;refine ⟨A,k,h1,h2,h3,fun hn=> ?_⟩;obtain ⟨h,o,m,f,hA,hm,ha,hf⟩:=h4 hn;exact ⟨h,o,m,f,hA,hm,ha.keep hk (fun hS=>(hs _ m f hS).2.2 ha),fun i hi=>(hf i hi).keep hk fun k m f hS=>⟨(hs k m f hS).1,(hs k m f hS).2.1⟩⟩
theorem co.ext (h:co w v n c M b) (hx:aF w w'):co w' v n c M b:=h.keep (hx.keeps (fun _=>False)) fun _ _ _ hf=>hf.elim
theorem co.lim (h:co w v n c M b):n≤65536∧b≤br:=by obtain ⟨A,k,h1,h2,h3,h4⟩:=h;exact h3.2
theorem co.congr {M':Nat→Nat→Int} (h:co w v n c M b) (he:∀i j,i<n→j<c→M i j=M' i j):co w v n c M' b:=by
  obtain ⟨A,k,h1,h2,h3,h4⟩:=h;refine ⟨A,k,h1,h2,h3,fun hn=> ?_⟩;obtain ⟨h,o,m,f,hA,hm,ha,hf⟩:=h4 hn;exact ⟨h,o,m,f,hA,hm,ha,fun i hi=>(hf i hi).congr fun j hj=>he i j hi hj⟩
theorem cc.keep {S:Nat→Prop} (h:cc w v r c M b) (hk:Keeps S w w') (hs:∀k m f,S k→¬be w k 101 m f∧¬be w k 49 m f∧¬be w k 41 m f):cc w' v r c M b:=by
  obtain ⟨s,h1,h2,h3,h4⟩:=h;exact ⟨s,h1,h2,h3,h4.keep hk hs⟩
theorem cc.ext (h:cc w v r c M b) (hx:aF w w'):cc w' v r c M b:=by
  obtain ⟨s,h1,h2,h3,h4⟩:=h;exact ⟨s,h1,h2,h3,h4.ext hx⟩
theorem cc.congr {M':Nat→Nat→Int} (h:cc w v r c M b) (he:∀i j,i<r→j<c→M i j=M' i j):cc w v r c M' b:=by
  obtain ⟨s,h1,h2,h3,h4⟩:=h;exact ⟨s,h1,h2,h3,h4.congr he⟩
theorem pS.ext (h:pS w v n z b) (hx:aF w w'):pS w' v n z b:=by
  obtain ⟨h,o,u,h1,h2,h3⟩:=h;exact ⟨h,o,u,h1,hx.cell h2,h3.ext hx⟩
theorem nM.ext {y:Int} (h:nM w v y b) (hx:aF w w'):nM w' v y b:=by
  obtain ⟨g,o,p,q,h1,h2,h3,h4⟩:=h;exact ⟨g,o,p,q,h1,hx.cell h2,hx.cell h3,h4.ext hx⟩
theorem xm.ext (h:xm w v r c M b) (hx:aF w w'):xm w' v r c M b:=by
  obtain ⟨g,s,h1,h2,h3,h4,h5⟩:=h;exact ⟨g,s,h1,h2.ext hx,h3,h4,h5.ext hx⟩
theorem jz (n:Nat) (z:Nat→Int) (b:Nat):bP (fun v w=>bO w v n z b):=fun _ _ _ h hx=>h.ext hx
instance (n:Nat) (z:Nat→Int) (b:Nat):Nonempty (bP (fun v w=>bO w v n z b)):=⟨jz n z b⟩
theorem sj (n c:Nat) (M:Nat→Nat→Int) (b:Nat):bP (fun v w=>co w v n c M b):=fun _ _ _ h hx=>h.ext hx
instance (n c:Nat) (M:Nat→Nat→Int) (b:Nat):Nonempty (bP (fun v w=>co w v n c M b)):=⟨sj n c M b⟩
theorem se (n c:Nat) (M:Nat→Nat→Int) (b:Nat):bP (fun v w=>cc w v n c M b):=fun _ _ _ h hx=>h.ext hx
instance (n c:Nat) (M:Nat→Nat→Int) (b:Nat):Nonempty (bP (fun v w=>cc w v n c M b)):=⟨se n c M b⟩
theorem jA (n:Nat) (z:Nat→Int) (b:Nat):bP (fun v w=>pS w v n z b):=fun _ _ _ h hx=>h.ext hx
instance (n:Nat) (z:Nat→Int) (b:Nat):Nonempty (bP (fun v w=>pS w v n z b)):=⟨jA n z b⟩
theorem jB (z:Int) (b:Nat):bP (fun v w=>nM w v z b):=fun _ _ _ h hx=>h.ext hx
instance (z:Int) (b:Nat):Nonempty (bP (fun v w=>nM w v z b)):=⟨jB z b⟩
theorem sf (n c:Nat) (M:Nat→Nat→Int) (b:Nat):bP (fun v w=>xm w v n c M b):=fun _ _ _ h hx=>h.ext hx
instance (n c:Nat) (M:Nat→Nat→Int) (b:Nat):Nonempty (bP (fun v w=>xm w v n c M b)):=⟨sf n c M b⟩
theorem cc.form (h:cc w v r c M b):∃s,v= .agg #[.int .i64 (r:Nat),.int .i64 (c:Nat),s]∧(r≤65536∧b≤br)∧c≤65536∧co w s r c M b:=by
  obtain ⟨s,h1,h2,h3,h4⟩:=h;exact ⟨s,h1,⟨h2,h4.lim.2⟩,h3,h4⟩
theorem cc.mk {s:Value} (h:co w s r c M b) (hr:r≤65536) (hc:c≤65536):cc w (.agg #[.int .i64 (r:Nat),.int .i64 (c:Nat),s]) r c M b:=⟨s,rfl,hr,hc,h⟩
theorem co.one (h:co w v n c M b):v.oneCell'=true:=by obtain ⟨A,k,h1,_⟩:=h;subst h1;rfl
theorem bO.one (h:bO w v n z b):v.oneCell'=true:=by obtain ⟨A,k,h1,_⟩:=h;subst h1;rfl
theorem mh {T m:Nat} {f:Nat→Value} (h:bO w v n z b) (hk:Keeps (fun b=>b=g) w w') (hA:be w g T m f) (ht:T≠101∧T≠49):bO w' v n z b:=
  h.keep hk fun k _ _ e=>by subst e;exact ⟨fun h=>hA.ne h ht.1 rfl,fun h=>hA.ne h ht.2 rfl⟩
theorem bl {T m:Nat} {f:Nat→Value} (h:co w v n c M b) (hk:Keeps (fun b=>b=g) w w') (hA:be w g T m f) (ht:T≠101∧T≠49∧T≠41):co w' v n c M b:=
  h.keep hk fun k _ _ e=>by subst e;exact ⟨fun h=>hA.ne h ht.1 rfl,fun h=>hA.ne h ht.2.1 rfl,fun h=>hA.ne h ht.2.2 rfl⟩
end
section
variable {P:Program} {e:ct} {w:World} {d:Option Tmp} {ty:TypeId} {pos:String} {after:Array Edge} {gd:Option (Nat×Bool)} {o:Oper} {R:Value→World→Prop}
theorem ah {φ:ck} (h:dj P o e w (fun v w'=>w=w'∧φ v w')):dj P o e w (fun v w'=>aF w w'∧φ v w'):=
  dj.mono (h) fun v w' ⟨h1,h2⟩=>by subst h1;exact ⟨aF.refl _,h2⟩
theorem dm {φ:ck} {v:Value} (h:cI P o e w v) (hφ:φ v w):dj P o e w (fun v w'=>w=w'∧φ v w'):=
  dj.mono (h.opX) fun v' w' ⟨h1,h2⟩=>by subst h1;subst h2;exact ⟨rfl,hφ⟩
theorem aZ {t n c m j b:Nat} {x ix:Operand} {v:Value} {M:Nat→Nat→Int} {i:Int} {k:IntKind} (ht:sliceB P t 41 1 m=true) (hx:ev e x=v) (hH:co w v n c M b)
    (hi:ev e ix= .int k i) (hij:i=(j:Int)) (hj:j<n):dj P ⟨d,.indexAddr t x ix,ty,pos,after,gd⟩ e w (fun v w'=>w=w'∧pS w' v c (M j) b):=by
  obtain ⟨A,kk,rfl,h2,h3,h4⟩:=hH;obtain ⟨h,o,m',f,rfl,hm,ha,hf⟩:=h4 (by omega);refine dm (φ:=fun v w'=>pS w' v c (M j) b) (cI.index (j:=j) ht hx hi rfl hij hj) ⟨h,_,f (o + j),rfl,?_,hf j hj⟩;rw [Nat.mul_one];exact ha.cell (by omega)
theorem bn {t n b:Nat} {x:Operand} {v:Value} {z:Nat→Int} (ht:oneB P t=true) (hx:ev e x=v) (hP:pS w v n z b):dj P ⟨d,.load t x,ty,pos,after,gd⟩ e w (fun v w'=>w=w'∧bO w' v n z b):=by
  obtain ⟨h,o,u,rfl,hc,hR⟩:=hP;exact dm (φ:=fun v w'=>bO w' v n z b) (cI.load ht hx hc) hR
theorem bk {t n m j b:Nat} {x ix:Operand} {v:Value} {z:Nat→Int} {i:Int} {k:IntKind} (ht:sliceB P t 49 2 m=true) (hx:ev e x=v) (hR:bO w v n z b)
    (hi:ev e ix= .int k i) (hij:i=(j:Int)) (hj:j<n):dj P ⟨d,.indexAddr t x ix,ty,pos,after,gd⟩ e w (fun v w'=>w=w'∧nM w' v (z j) b):=by
  obtain ⟨A,kk,rfl,h2,h3,h4⟩:=hR;obtain ⟨g,rfl,m',f,hm,ha,hf⟩:=h4 (by omega);refine dm (φ:=fun v w'=>nM w' v (z j) b) (cI.index (j:=j) ht hx hi rfl hij hj) ⟨g,_,_,_,rfl,?_,?_,hf j hj⟩
  · rw [Nat.zero_add,Nat.mul_comm];exact ha.cell (by omega)
  · rw [Nat.zero_add,Nat.mul_comm];exact ha.cell (by omega)
theorem bo {t b:Nat} {x:Operand} {v:Value} {z:Int} (ht:jL P t 2=true) (hx:ev e x=v) (hP:nM w v z b):dj P ⟨d,.load t x,ty,pos,after,gd⟩ e w (fun v w'=>w=w'∧al w' v z b):=by
  obtain ⟨g,o,p,q,rfl,hp,hq,hI⟩:=hP;refine dm (φ:=fun v w'=>al w' v z b) (af [p,q] ht hx fun i u hu=> ?_) hI
  match i,hu with
  | 0,hu=>simp at hu;subst hu;exact hp
  | 1,hu=>simp at hu;subst hu;exact hq
theorem cl {t n m b:Nat} {x:Operand} {v:Value} {z:Nat→Int} (ht:sliceB P t 49 2 m=true) (hx:ev e x=v) (hR:bO w v n z b):
    cI P ⟨d,.call {callee:= .builtin .len,args:= #[x],argTypes:= #[t]},ty,pos,after,gd⟩ e w (.int .i64 (n:Nat)):=by
  obtain ⟨A,kk,rfl,h2,h3,h4⟩:=hR;exact cI.len ht hx
theorem cA {t n c m b:Nat} {x:Operand} {v:Value} {M:Nat→Nat→Int} (ht:sliceB P t 41 1 m=true) (hx:ev e x=v) (hR:co w v n c M b):
    cI P ⟨d,.call {callee:= .builtin .len,args:= #[x],argTypes:= #[t]},ty,pos,after,gd⟩ e w (.int .i64 (n:Nat)):=by
  obtain ⟨A,kk,rfl,h2,h3,h4⟩:=hR;exact cI.len ht hx
end
def Bg (P:Program) (w:World) (fv:Value) (r c:Nat) (M:Nat→Nat→Int) (b:Nat):Prop:=∃fid vs us,fv= .func (.func fid) vs us∧aD P fid=true∧
  ∀w',aF w w'→∀i j:Nat,i<r→j<c→Calls P fid (vs ++ #[.int .i64 (i:Nat),.int .i64 (j:Nat)] ++ us) w' (ci w' fun v w''=>al w'' v (M i j) b)
def zI (P:Program) (w:World) (fv:Value) (B:Nat) (p:Int→Prop) [DecidablePred p]:Prop:=∃fid vs us,fv= .func (.func fid) vs us∧aD P fid=true∧
  ∀w',aF w w'→∀x z,al w' x z B→Calls P fid (vs ++ #[x] ++ us) w' (ci w' fun v _=>v= .bool (decide (p z)))
def xq (P:Program) (w:World) (fv:Value) (B B':Nat):Prop:=∃fid vs us,fv= .func (.func fid) vs us∧aD P fid=true∧
  ∀w',aF w w'→∀x z y u,al w' x z B→al w' y u B'→Calls P fid (vs ++ #[x,y] ++ us) w' (ci w' fun v _=>v= .bool (decide (z=u)))
def aG (n n':Nat) (z z':Nat→Int):Prop:=n=n'∧∀j,j<n→z j=z' j
instance (n n':Nat) (z z':Nat→Int):Decidable (aG n n' z z'):=inferInstanceAs (Decidable (n=n'∧∀j,j<n→z j=z' j))
def xp (P:Program) (w:World) (fv:Value) (B B':Nat):Prop:=∃fid vs us,fv= .func (.func fid) vs us∧aD P fid=true∧
  ∀w',aF w w'→∀x n z y n' u,bO w' x n z B→bO w' y n' u B'→Calls P fid (vs ++ #[x,y] ++ us) w' (ci w' fun v _=>v= .bool (decide (aG n n' z u)))
section
variable {P:Program} {w w':World} {fv:Value} {r c b B B':Nat} {M:Nat→Nat→Int} {p:Int→Prop} [DecidablePred p]
theorem Bg.ext (h:Bg P w fv r c M b) (hx:aF w w'):Bg P w' fv r c M b:=by
  obtain ⟨fid,vs,us,h1,h2,h3⟩:=h;exact ⟨fid,vs,us,h1,h2,fun w1 hw=>h3 w1 (hx.trans hw)⟩
theorem zI.ext (h:zI P w fv B p) (hx:aF w w'):zI P w' fv B p:=by
  obtain ⟨fid,vs,us,h1,h2,h3⟩:=h;exact ⟨fid,vs,us,h1,h2,fun w1 hw=>h3 w1 (hx.trans hw)⟩
theorem xq.ext (h:xq P w fv B B') (hx:aF w w'):xq P w' fv B B':=by
  obtain ⟨fid,vs,us,h1,h2,h3⟩:=h;exact ⟨fid,vs,us,h1,h2,fun w1 hw=>h3 w1 (hx.trans hw)⟩
theorem xp.ext (h:xp P w fv B B') (hx:aF w w'):xp P w' fv B B':=by
  obtain ⟨fid,vs,us,h1,h2,h3⟩:=h;exact ⟨fid,vs,us,h1,h2,fun w1 hw=>h3 w1 (hx.trans hw)⟩
variable {e:ct} {d:Option Tmp} {ty:TypeId} {pos:String} {after:Array Edge} {gd:Option (Nat×Bool)}
theorem oU {cal x y:Operand} {ts:Array TypeId} {i j:Nat} {a a':Int} (hf:ev e cal=fv) (hF:Bg P w fv r c M b) (hx:ev e x= .int .i64 a) (hy:ev e y= .int .i64 a') (ha:a=(i:Int)) (ha':a'=(j:Int)) (hi:i<r) (hj:j<c):
    dj P ⟨d,.call {callee:= .value cal,args:= #[x,y],argTypes:=ts},ty,pos,after,gd⟩ e w (fun v w'=>aF w w'∧al w' v (M i j) b):=by
  subst ha;subst ha';obtain ⟨fid,vs,us,rfl,hc,hF⟩:=hF;exact dL hc hf (by rw [ax hx hy]) (hF w (aF.refl w) i j hi hj) fun _ _ ⟨v,h1,h2,h3⟩=>⟨v,h1,h2,h3⟩
theorem ke {cal x:Operand} {ts:Array TypeId} {u:Value} {z:Int} (hf:ev e cal=fv) (hF:zI P w fv B p) (hx:ev e x=u) (hI:al w u z B):
    dj P ⟨d,.call {callee:= .value cal,args:= #[x],argTypes:=ts},ty,pos,after,gd⟩ e w (fun v w'=>aF w w'∧v= .bool (decide (p z))):=by
  obtain ⟨fid,vs,us,rfl,hc,hF⟩:=hF;exact dL hc hf (by rw [aI hx]) (hF w (aF.refl w) u z hI) fun _ _ ⟨v,h1,h2,h3⟩=>⟨v,h1,h2,h3⟩
theorem nI {cal x y:Operand} {ts:Array TypeId} {u u':Value} {z z':Int} (hf:ev e cal=fv) (hF:xq P w fv B B') (hx:ev e x=u) (hy:ev e y=u') (hI:al w u z B) (hI':al w u' z' B'):
    dj P ⟨d,.call {callee:= .value cal,args:= #[x,y],argTypes:=ts},ty,pos,after,gd⟩ e w (fun v w'=>aF w w'∧v= .bool (decide (z=z'))):=by
  obtain ⟨fid,vs,us,rfl,hc,hF⟩:=hF;exact dL hc hf (by rw [ax hx hy]) (hF w (aF.refl w) u z u' z' hI hI') fun _ _ ⟨v,h1,h2,h3⟩=>⟨v,h1,h2,h3⟩
theorem nH {cal x y:Operand} {ts:Array TypeId} {u u':Value} {n n':Nat} {z z':Nat→Int} (hf:ev e cal=fv) (hF:xp P w fv B B') (hx:ev e x=u) (hy:ev e y=u') (hI:bO w u n z B) (hI':bO w u' n' z' B'):
    dj P ⟨d,.call {callee:= .value cal,args:= #[x,y],argTypes:=ts},ty,pos,after,gd⟩ e w (fun v w'=>aF w w'∧v= .bool (decide (aG n n' z z'))):=by
  obtain ⟨fid,vs,us,rfl,hc,hF⟩:=hF;exact dL hc hf (by rw [ax hx hy]) (hF w (aF.refl w) u n z u' n' z' hI hI') fun _ _ ⟨v,h1,h2,h3⟩=>⟨v,h1,h2,h3⟩
end
end Go.TL
namespace Go.TL
open Go.RowKit
set_option linter.unusedVariables false
def fx (w:World) (v:Value) (g n:Nat):Prop:=∃k,v= .slice (some ⟨g,0,none⟩) n k∧n≤k∧(k<9223372036854775808∧n≤65536)
def zD (w:World) (gh m d c:Nat) (ρ:Nat→Nat):Prop:=d≤m∧(m<9223372036854775808∧d≤65536)∧∃f,be w gh 41 m f∧∀i,i<d→fx w (f i) (ρ i) c
def cD (w:World) (B gh m d c:Nat) (ρ:Nat→Nat) (M:Nat→Nat→Int) (b:Nat):Prop:=
  B≤gh∧(c≤65536∧b≤br)∧zD w gh m d c ρ∧(∀i,i<d→B≤ρ i∧cN w (ρ i) c (M i) b)∧∀i j,i<d→j<d→ρ i=ρ j→i=j
def eu (M:Nat→Nat→Int) (i j:Nat) (z:Int):Nat→Nat→Int:=fun a c=>if a=i∧c=j then z else M a c
def kP (z:Nat→Int) (j:Nat) (x:Int):Nat→Int:=fun c=>if c=j then x else z c
def setRow (M:Nat→Nat→Int) (i:Nat) (z:Nat→Int):Nat→Nat→Int:=fun a=>if a=i then z else M a
section
variable {w w':World} {v:Value} {g gh m d n c b B:Nat} {z:Nat→Int} {M:Nat→Nat→Int} {ρ:Nat→Nat}
theorem fx.ext (h:fx w v g n) (hx:aF w w'):fx w' v g n:=h
theorem bF (h:fx w v g n) (w':World):fx w' v g n:=h
theorem cm (g n:Nat):bP (fun v w=>fx w v g n):=fun _ _ _ h _=>h
instance (g n:Nat):Nonempty (bP (fun v w=>fx w v g n)):=⟨cm g n⟩
theorem fx.one (h:fx w v g n):v.oneCell'=true:=by obtain ⟨k,h1,_⟩:=h;subst h1;rfl
theorem Bn (w:World) (g n k:Nat) (h:n≤k) (hk:k<9223372036854775808∧n≤65536):fx w (.slice (some ⟨g,0,none⟩) n k) g n:=⟨k,rfl,h,hk⟩
theorem zD.keep {S:Nat→Prop} (h:zD w gh m d c ρ) (hk:Keeps S w w') (hg:¬S gh):zD w' gh m d c ρ:=by
  obtain ⟨h1,h2,f,ha,hf⟩:=h;exact ⟨h1,h2,f,ha.keep hk hg,hf⟩
theorem cD.keep {S:Nat→Prop} (h:cD w B gh m d c ρ M b) (hk:Keeps S w w') (hg:¬S gh) (hr:∀i,i<d→¬S (ρ i)) (hs:∀k m f,S k→¬be w k 101 m f):cD w' B gh m d c ρ M b:=by
  obtain ⟨h1,h2,h3,h4,h5⟩:=h;exact ⟨h1,h2,h3.keep hk hg,fun i hi=>⟨(h4 i hi).1,(h4 i hi).2.keep hk (hr i hi) hs⟩,h5⟩
theorem cD.ext (h:cD w B gh m d c ρ M b) (hx:aF w w'):cD w' B gh m d c ρ M b:=h.keep (hx.keeps (fun _=>False)) id (fun _ _=>id) fun _ _ _ hf=>hf.elim
theorem cD.congr {M':Nat→Nat→Int} (h:cD w B gh m d c ρ M b) (he:∀i j,i<d→j<c→M i j=M' i j):cD w B gh m d c ρ M' b:=by
  obtain ⟨h1,h2,h3,h4,h5⟩:=h;exact ⟨h1,h2,h3,fun i hi=>⟨(h4 i hi).1,(h4 i hi).2.congr fun j hj=>he i j hi hj⟩,h5⟩
theorem cD.low {B':Nat} (h:cD w B gh m d c ρ M b) (hB:B'≤B):cD w B' gh m d c ρ M b:=by
  obtain ⟨h1,h2,h3,h4,h5⟩:=h;exact ⟨by omega,h2,h3,fun i hi=>⟨by have:=(h4 i hi).1;omega,(h4 i hi).2⟩,h5⟩
theorem cD.ghlt (h:cD w B gh m d c ρ M b):gh<w.heap.size:=by obtain ⟨_,_,⟨_,_,f,ha,_⟩,_⟩:=h;exact ha.lt
theorem cD.rowlt (h:cD w B gh m d c ρ M b) {i:Nat} (hi:i<d):ρ i<w.heap.size:=(h.2.2.2.1 i hi).2.lt
theorem cD.ne (h:cD w B gh m d c ρ M b) {i:Nat} (hi:i<d):gh≠ρ i:=by
  obtain ⟨_,_,⟨_,_,f,ha,_⟩,h4,_⟩:=h;obtain ⟨m',f',_,ha',_⟩:=(h4 i hi).2;exact ha.ne ha' (by decide)
theorem cD.row' {i:Nat} (h:cD w B gh m d c ρ M b) (hi:i<d):cN w (ρ i) c (M i) b:=(h.2.2.2.1 i hi).2
theorem cD.clim (h:cD w B gh m d c ρ M b):c≤65536∧b≤br:=h.2.1
theorem cD.dlim (h:cD w B gh m d c ρ M b):d≤m∧m<9223372036854775808∧d≤65536:=⟨h.2.2.1.1,h.2.2.1.2.1⟩
theorem cD.more {b':Nat} (h:cD w B gh m d c ρ M b) (hb:∀i j,i<d→j<c→(M i j).natAbs<2^b') (hl:b'≤br):cD w B gh m d c ρ M b':=by
  obtain ⟨h1,h2,h3,h4,h5⟩:=h;refine ⟨h1,⟨h2.1,hl⟩,h3,fun i hi=>⟨(h4 i hi).1,?_⟩,h5⟩;obtain ⟨m',f',e1,e2,e3⟩:=(h4 i hi).2;exact ⟨m',f',⟨e1.1,hl⟩,e2,fun j hj=>(e3 j hj).more (hb i j hi hj) hl⟩
theorem cN.rowV (h:cN w g n z b) {k:Nat} (hk:n≤k) (hl:k<9223372036854775808∧n≤65536):bO w (.slice (some ⟨g,0,none⟩) n k) n z b:=by
  have hb:b≤br:=by obtain ⟨m,f,h1,_⟩:=h;exact h1.2
  exact ⟨_,_,rfl,hk,⟨hl.1,hl.2,hb⟩,fun _=>⟨g,rfl,h⟩⟩
theorem fx.rowV (h:fx w' v g n) (hB:cN w g n z b):bO w v n z b:=by
  obtain ⟨k,h1,h2,h3⟩:=h;subst h1;exact hB.rowV h2 h3
theorem cD.hdrV (h:cD w B gh m d c ρ M b) {k:Nat} (hk:d≤k) (hl:k<9223372036854775808):co w (.slice (some ⟨gh,0,none⟩) d k) d c M b:=by
  obtain ⟨h1,h2,⟨h3,h3b,f,ha,hf⟩,h4,h5⟩:=h;exact ⟨_,_,rfl,hk,⟨hl,h3b.2,h2.2⟩,fun hd=>⟨gh,0,m,f,rfl,by omega,ha,fun i hi=>by rw [Nat.zero_add];exact (hf i hi).rowV (h4 i hi).2⟩⟩
theorem cD.matV (h:cD w B gh m d c ρ M b) {k:Nat} (hk:d≤k) (hl:k<9223372036854775808):cc w (.agg #[.int .i64 (d:Nat),.int .i64 (c:Nat),.slice (some ⟨gh,0,none⟩) d k]) d c M b:=
  ⟨_,rfl,h.2.2.1.2.1.2,h.2.1.1,h.hdrV hk hl⟩
theorem bA {M':Nat→Nat→Int} (h:cD w B gh m d c ρ M b) (e:M=M'):cD w B gh m d c ρ M' b:=e▸h
theorem xk {d':Nat} (h:cD w B gh m d c ρ M b) (e:d=d'):cD w B gh m d' c ρ M b:=e▸h
def cH (w:World) (v:Value) (B r c:Nat) (M:Nat→Nat→Int) (b:Nat):Prop:=∃gh k ρ,v= .agg #[.int .i64 (r:Nat),.int .i64 (c:Nat),.slice (some ⟨gh,0,none⟩) r k]∧cD w B gh k r c ρ M b
theorem cH.ext {r:Nat} (h:cH w v B r c M b) (hx:aF w w'):cH w' v B r c M b:=by obtain ⟨gh,k,ρ,h1,h2⟩:=h;exact ⟨gh,k,ρ,h1,h2.ext hx⟩
theorem dK (B r c:Nat) (M:Nat→Nat→Int) (b:Nat):bP (fun v w=>cH w v B r c M b):=fun _ _ _ h hx=>h.ext hx
instance (B r c:Nat) (M:Nat→Nat→Int) (b:Nat):Nonempty (bP (fun v w=>cH w v B r c M b)):=⟨dK B r c M b⟩
theorem cH.matV {r:Nat} (h:cH w v B r c M b):cc w v r c M b:=by
  obtain ⟨gh,k,ρ,h1,h2⟩:=h;subst h1;exact h2.matV h2.dlim.1 h2.dlim.2.1
theorem cH.low {r B':Nat} (h:cH w v B r c M b) (hB:B'≤B):cH w v B' r c M b:=by obtain ⟨gh,k,ρ,h1,h2⟩:=h;exact ⟨gh,k,ρ,h1,h2.low hB⟩
theorem cH.congr {r:Nat} {M':Nat→Nat→Int} (h:cH w v B r c M b) (he:∀i j,i<r→j<c→M i j=M' i j):cH w v B r c M' b:=by obtain ⟨gh,k,ρ,h1,h2⟩:=h;exact ⟨gh,k,ρ,h1,h2.congr he⟩
theorem uB {T:Nat} {x y:Value} {q:Int} (hA:be w g T 2 (bS [x,y])) (hI:al w (.agg #[x,y]) q b):nM w (.pointer (some ⟨g,0,none⟩)) q b:=
  ⟨g,0,x,y,rfl,hA.at_ (i:=0) rfl rfl,hA.at_ (i:=1) rfl rfl,hI⟩
theorem cN.set {j:Nat} {x y:Value} {q:Int} {m':Nat} {f':Nat→Value} (h:cN w g n z b) (hj:j<n) (hq:al w' (.agg #[x,y]) q b) (hk:Keeps (fun b=>b=g) w w')
    (ha:∀m f,be w g 49 m f→be w' g 49 m (dZ f (j*2) [x,y])):cN w' g n (kP z j q) b:=by
  obtain ⟨m,f,hm,h1,h2⟩:=h;refine ⟨m,_,hm,ha m f h1,fun i hi=> ?_⟩;have hI:al w' (.agg #[f (2*i),f (2*i + 1)]) (z i) b:=(h2 i hi).keep hk fun k m2 f2 e ha2=>by subst e;exact h1.ne ha2 (by decide) rfl
  simp only [dZ,kP]
  by_cases e:i=j
  · subst e
    rw [if_pos rfl,cG _ _ _ _ (by omega),show 2*i=i*2 by omega,bV,bV];exact hq
  · rw [if_neg e,cG _ _ _ _ (by omega),cG _ _ _ _ (by omega),cG _ _ _ _ (by omega),cG _ _ _ _ (by omega)]
    exact hI
theorem cD.set {i j:Nat} {q:Int} (h:cD w B gh m d c ρ M b) (hi:i<d) (hk:Keeps (fun b=>b=ρ i) w w') (hR:cN w' (ρ i) c (kP (M i) j q) b):cD w' B gh m d c ρ (eu M i j q) b:=by
  have hne:=fun k (hk:k<d)=>h.ne hk
  obtain ⟨h1,h2,h3,h4,h5⟩:=h;refine ⟨h1,h2,h3.keep hk (hne i hi),fun a ha=>⟨(h4 a ha).1,?_⟩,h5⟩
  by_cases e:a=i
  · subst e
    exact hR.congr fun c hc=>by simp [eu,kP]
  · have:=(h4 a ha).2.keep hk (fun e2=>e (h5 a i ha hi e2)) (fun k m2 f2 e2 ha2=>by
      subst e2;obtain ⟨m',f',_,ha',_⟩:=(h4 i hi).2;exact ha'.ne ha2 (by decide) rfl)
    exact this.congr fun c hc=>by simp [eu,e]
def ed (w:World) (v:Value) (B n b:Nat):Prop:=∃g,v= .slice (some ⟨g,0,none⟩) n n∧B≤g∧cN w g n (fun _=>0) b
theorem ed.ext {n:Nat} (h:ed w v B n b) (hx:aF w w'):ed w' v B n b:=by obtain ⟨g,h1,h2,h3⟩:=h;exact ⟨g,h1,h2,h3.ext hx⟩
theorem jW (B n b:Nat):bP (fun v w=>ed w v B n b):=fun _ _ _ h hx=>h.ext hx
instance (B n b:Nat):Nonempty (bP (fun v w=>ed w v B n b)):=⟨jW B n b⟩
theorem lO (ha:be w g 49 (n*2) (fun i=>bS [.bool false,.slice none 0 0] (i % 2))) (b:Nat) (hb:b≤br):cN w g n (fun _=>0) b:=
  ⟨_,_,⟨by omega,hb⟩,ha,fun j hj=>by
    rw [show 2*j % 2=0 by omega,show (2*j + 1) % 2=1 by omega];exact (al.zero w).up (Nat.zero_le _) hb⟩
theorem gE {P:Program} {e:ct} {w:World} {d:Option Tmp} {ty:TypeId} {pos:String} {after:Array Edge} {gd:Option (Nat×Bool)} {t m:Nat} {x y:Operand} {i j:Int} {B b n:Nat}
    (ht:sliceB P t 49 2 m=true) (hm:m≤32) (hz:(P.info? 49).bind (·.zero)=some (.agg #[.bool false,.slice none 0 0]))
    (hx:ev e x= .int .i64 i) (hy:ev e y= .int .i64 j) (hi:i=(n:Int)) (hj:j=(n:Int)) (hn:n≤65536) (hB:B≤w.heap.size) (hb:b≤br):
    dj P ⟨d,.makeSlice t x y,ty,pos,after,gd⟩ e w (fun v w'=>aF w w'∧ed w' v B n b):=
  dj.mono (df n [.bool false,.slice none 0 0] ht hz rfl hx hy hi hj (by have:=Nat.mul_le_mul hn hm;omega) (by omega) (by decide)) fun v w' ⟨g,h1,h2,h3,h4⟩=>
    ⟨h3,g,h1,Nat.le_trans hB h2,lO h4 b hb⟩
def cR (F:Nat→Nat→Int) (i j:Nat):Nat→Nat→Int:=fun a c=>if a<i∨(a=i∧c<j) then F a c else 0
theorem fI (F:Nat→Nat→Int) (i j:Nat):eu (cR F i j) i j (F i j)=cR F i (j + 1):=by
  funext a c
  simp only [eu,cR]
  by_cases h:a=i∧c=j
  · obtain ⟨rfl,rfl⟩:=h
    simp
  · rw [if_neg h]
    by_cases h2:a<i∨(a=i∧c<j)
    · rw [if_pos h2,if_pos (by omega)]
    · rw [if_neg h2,if_neg (by omega)]
theorem jy (F:Nat→Nat→Int) (i:Nat) {n a c:Nat} (hc:c<n):cR F i n a c=cR F (i + 1) 0 a c:=by
  simp only [cR]
  by_cases h:a<i + 1
  · rw [if_pos (by omega),if_pos (by omega)]
  · rw [if_neg (by omega),if_neg (by omega)]
theorem fg (F:Nat→Nat→Int) {n a:Nat} (c:Nat) (ha:a<n):cR F n 0 a c=F a c:=by
  simp only [cR];rw [if_pos (by omega)]
theorem pv (F:Nat→Nat→Int) (a c:Nat):cR F 0 0 a c=0:=by simp only [cR];rw [if_neg (by omega)]
theorem rT (F:Nat→Nat→Int) (i c:Nat):cR F i 0 i c=0:=by simp only [cR];rw [if_neg (by omega)]
theorem cD.setRow {i:Nat} {z:Nat→Int} (h:cD w B gh m d c ρ M b) (hi:i<d) (hk:Keeps (fun b=>b=ρ i) w w') (hR:cN w' (ρ i) c z b):cD w' B gh m d c ρ (setRow M i z) b:=by
  have hne:=fun k (hk:k<d)=>h.ne hk
  obtain ⟨h1,h2,h3,h4,h5⟩:=h;refine ⟨h1,h2,h3.keep hk (hne i hi),fun a ha=>⟨(h4 a ha).1,?_⟩,h5⟩
  by_cases e:a=i
  · subst e
    exact hR.congr fun c hc=>by simp [TL.setRow]
  · have:=(h4 a ha).2.keep hk (fun e2=>e (h5 a i ha hi e2)) (fun k m2 f2 e2 ha2=>by
      subst e2;obtain ⟨m',f',_,ha',_⟩:=(h4 i hi).2;exact ha'.ne ha2 (by decide) rfl)
    exact this.congr fun c hc=>by simp [TL.setRow,e]
theorem cD.born {f:Nat→Value} (ha:be w gh 41 m f) (hB:B≤gh) (hm:m<9223372036854775808) (hc:c≤65536) (M:Nat→Nat→Int) (b:Nat) (hb:b≤br):cD w B gh m 0 c (fun _=>0) M b:=
  ⟨hB,⟨hc,hb⟩,⟨by omega,⟨hm,by omega⟩,f,ha,fun i hi=>by omega⟩,fun i hi=>by omega,fun i j hi=>by omega⟩
theorem cD.push {y:Value} (h:cD w B gh m d c ρ M b) (hd:d<m) (hd2:d<65536) (hz:∀j,j<c→M d j=z j) (hS:fx w y g c) (hR:cN w g c z b) (hB:B≤g) (hnew:∀i,i<d→g≠ρ i) (hk:Keeps (fun b=>b=gh) w w')
    (ha:∀f,be w gh 41 m f→be w' gh 41 m (dZ f (d*1) [y])):cD w' B gh m (d + 1) c (cC ρ d g) M b:=by
  have hne:=fun k (hk:k<d)=>h.ne hk
  obtain ⟨h1,h2,⟨h3,h3b,f,h6,h7⟩,h4,h5⟩:=h;have hu:∀k m f,k=gh→¬be w k 101 m f:=fun k m2 f2 e ha2=>by subst e;exact h6.ne ha2 (by decide) rfl
  have hgne:g≠gh:=by
    obtain ⟨m',f',_,ha',_⟩:=hR;exact ha'.ne h6 (by decide)
  refine ⟨h1,h2,⟨by omega,⟨h3b.1,by omega⟩,_,ha f h6,fun i hi=> ?_⟩,fun i hi=> ?_,fun i j hi hj e=> ?_⟩
  · simp only [dZ,Nat.mul_one]
    by_cases e:i=d
    · subst e;rw [bV,bs];exact hS
    · rw [cG _ _ _ _ e,bp _ _ _ _ e];exact h7 i (by omega)
  · by_cases e:i=d
    · subst e
      rw [bs];exact ⟨hB,(hR.keep hk hgne hu).congr fun j hj=>(hz j hj).symm⟩
    · rw [bp _ _ _ _ e]
      exact ⟨(h4 i (by omega)).1,(h4 i (by omega)).2.keep hk (fun e2=>hne i (by omega) e2.symm) hu⟩
  · by_cases e1:i=d<;>by_cases e2:j=d
    · omega
    · rw [e1,bs,bp _ _ _ _ e2] at e;exact absurd e (hnew j (by omega))
    · rw [e2,bs,bp _ _ _ _ e1] at e;exact absurd e.symm (hnew i (by omega))
    · rw [bp _ _ _ _ e1,bp _ _ _ _ e2] at e;exact h5 i j (by omega) (by omega) e
end
section
variable {w w':World} {v:Value} {g gh m d n c b B:Nat} {z:Nat→Int} {M:Nat→Nat→Int} {ρ:Nat→Nat}
theorem cN.nu (h:cN w g n z b):∀k m f,k=g→¬be w k 101 m f:=fun k m2 f2 e ha2=>by
  subst e;obtain ⟨m',f',_,ha',_⟩:=h;exact ha'.ne ha2 (by decide) rfl
theorem cD.nu (h:cD w B gh m d c ρ M b):∀k m f,k=gh→¬be w k 101 m f:=fun k m2 f2 e ha2=>by
  subst e;obtain ⟨_,_,⟨_,_,f,ha,_⟩,_⟩:=h;exact ha.ne ha2 (by decide) rfl
theorem bZ {y:Int} {b':Nat} (h:al w v y b') (hk:Keeps (fun b=>b=g) w w') (hR:cN w g n z b):al w' v y b':=h.keep hk hR.nu
theorem aE {T k:Nat} {f:Nat→Value} (h:cD w B gh m d c ρ M b) (hk:Keeps (fun b=>b=g) w w') (hA:be w g T k f) (ht:T≠101∧T≠49∧T≠41):cD w' B gh m d c ρ M b:=
  h.keep hk (fun e=>by subst e;obtain ⟨_,_,⟨_,_,f,ha,_⟩,_⟩:=h;exact hA.ne ha ht.2.2 rfl) (fun i hi e=>by subst e;obtain ⟨m',f',_,ha',_⟩:=h.row' hi;exact hA.ne ha' ht.2.1 rfl)
    fun k m2 f2 e ha2=>by subst e;exact hA.ne ha2 ht.1 rfl
theorem em {k:Nat} {f:Nat→Value} (h:cD w B gh m d c ρ M b) (hk:Keeps (fun b=>b=g) w w') (hA:be w g 49 k f) (hne:∀i,i<d→ρ i≠g):cD w' B gh m d c ρ M b:=
  h.keep hk (fun e=>by subst e;obtain ⟨_,_,⟨_,_,f,ha,_⟩,_⟩:=h;exact hA.ne ha (by decide) rfl) hne fun k m2 f2 e ha2=>by subst e;exact hA.ne ha2 (by decide) rfl
theorem aX (h:cD w B gh m d c ρ M b) (hk:Keeps (fun b=>b=g) w w') {n' b':Nat} {z':Nat→Int} (hR:cN w g n' z' b') (hne:∀i,i<d→ρ i≠g):cD w' B gh m d c ρ M b:=by
  obtain ⟨m',f',_,ha',_⟩:=hR;exact em h hk ha' hne
theorem aT {T k:Nat} {gv:Nat} {f:Nat→Value} (h:be w gv T k f) (hk:Keeps (fun b=>b=g) w w') (hR:cN w g n z b) (ht:T≠49):be w' gv T k f:=by
  obtain ⟨m',f',_,ha',_⟩:=hR;exact h.keep hk (h.ne ha' ht)
theorem jK {T k:Nat} {gv:Nat} {f:Nat→Value} (h:be w gv T k f) (hk:Keeps (fun b=>b=gh) w w') (hM:cD w B gh m d c ρ M b) (ht:T≠41):be w' gv T k f:=by
  obtain ⟨_,_,⟨_,_,f',ha,_⟩,_⟩:=hM;exact h.keep hk (h.ne ha ht)
end
section
variable {P:Program} {e:ct} {w:World} {d:Option Tmp} {ty:TypeId} {pos:String} {after:Array Edge} {gd:Option (Nat×Bool)} {g gh m n c b B dd:Nat} {z:Nat→Int} {M:Nat→Nat→Int} {ρ:Nat→Nat}
theorem an {t i:Nat} {x:Operand} (ht:oneB P t=true) (hx:ev e x= .pointer (some ⟨gh,0 + i*1,none⟩)) (hM:cD w B gh m dd c ρ M b) (hi:i<dd):
    dj P ⟨d,.load t x,ty,pos,after,gd⟩ e w (fun v w'=>w=w'∧fx w' v (ρ i) c):=by
  obtain ⟨_,_,⟨h3,h3b,f,ha,hf⟩,_⟩:=hM;refine dm (φ:=fun v w'=>fx w' v (ρ i) c) (cI.load ht hx ?_) (hf i hi);rw [Nat.zero_add,Nat.mul_one];exact ha.cell (by omega)
theorem av {t mm j:Nat} {x ix:Operand} {v:Value} {i:Int} {k:IntKind} (ht:sliceB P t 49 2 mm=true) (hS:fx w v g n) (hx:ev e x=v) (hi:ev e ix= .int k i) (hij:i=(j:Int)) (hj:j<n):
    cI P ⟨d,.indexAddr t x ix,ty,pos,after,gd⟩ e w (.pointer (some ⟨g,0 + j*2,none⟩)):=by
  obtain ⟨kk,rfl,h2,h3⟩:=hS;exact cI.index (j:=j) ht hx hi rfl hij hj
theorem sP {t mm:Nat} {x:Operand} {v:Value} (ht:sliceB P t 49 2 mm=true) (hS:fx w v g n) (hx:ev e x=v):
    cI P ⟨d,.call {callee:= .builtin .len,args:= #[x],argTypes:= #[t]},ty,pos,after,gd⟩ e w (.int .i64 (n:Nat)):=by
  obtain ⟨kk,rfl,h2,h3⟩:=hS;exact cI.len ht hx
theorem aP {t j:Nat} {x:Operand} (ht:jL P t 2=true) (hx:ev e x= .pointer (some ⟨g,0 + j*2,none⟩)) (hR:cN w g n z b) (hj:j<n):
    dj P ⟨d,.load t x,ty,pos,after,gd⟩ e w (fun v w'=>w=w'∧al w' v (z j) b):=by
  obtain ⟨m',f,hm,ha,hf⟩:=hR;refine dm (φ:=fun v w'=>al w' v (z j) b) (af [f (2*j),f (2*j + 1)] ht hx fun i u hu=> ?_) (hf j hj)
  match i,hu with
  | 0,hu=>simp at hu;subst hu;rw [Nat.zero_add,Nat.mul_comm];exact ha.cell (by omega)
  | 1,hu=>simp at hu;subst hu;rw [Nat.zero_add,Nat.mul_comm];exact ha.cell (by omega)
theorem cD.row {i:Nat} (h:cD w B gh m dd c ρ M b) (hi:i<dd):cN w (ρ i) c (M i) b:=(h.2.2.2.1 i hi).2
theorem cD.rowB {i:Nat} (h:cD w B gh m dd c ρ M b) (hi:i<dd):B≤ρ i:=(h.2.2.2.1 i hi).1
theorem iC {t j:Nat} {x y:Operand} {v:Value} {q:Int} (ht:fe P t 2=true) (hx:ev e x= .pointer (some ⟨g,0 + j*2,none⟩)) (hy:ev e y=v) (hI:al w v q b) (hR:cN w g n z b) (hj:j<n):
    dj P ⟨d,.store t x y,ty,pos,after,gd⟩ e w (fun _ w'=>Keeps (fun b=>b=g) w w'∧cN w' g n (kP z j q) b):=by
  obtain ⟨A,k,c',l,rfl,hL,hv,htop,hn,hb⟩:=hI.form;have hR':=hR;obtain ⟨m',f,hm,ha,hf⟩:=hR;have key:=dj.store (P:=P) (e:=e) (w:=w) (d:=d) (ty:=ty) (pos:=pos) (after:=after) (gd:=gd) (t:=t) (x:=x) (y:=y) (o:=0 + j*2) (n:=m') [.bool (decide (q<0)),.slice A k c'] (by simpa using ht) hx hy rfl ha (by simp;omega) (bj rfl rfl);refine dj.mono (key) fun _ w' ⟨hk,hnew⟩=>⟨hk,?_⟩
  have hI':al w' (.agg #[.bool (decide (q<0)),.slice A k c']) q b:=ae hI hk ha (by decide);refine cN.set (m':=0) (f':=fun _=>undef) ⟨m',f,hm,ha,hf⟩ hj hI' hk fun m2 f2 ha2=> ?_
  obtain ⟨e1,e2⟩:=ha.eq ha2;subst e1;rw [Nat.zero_add] at hnew;refine hnew.congr fun i hi=> ?_
  simp only [dZ]
  by_cases e3:i=j*2 + 1
  · subst e3;rw [bV,bV]
  · rw [cG _ _ _ _ e3,cG _ _ _ _ e3]
    by_cases e4:i=j*2
    · subst e4;rw [bV,bV]
    · rw [cG _ _ _ _ e4,cG _ _ _ _ e4];exact e2 i hi
theorem bM {t i j:Nat} {x y:Operand} {v:Value} {q:Int} (ht:fe P t 2=true) (hx:ev e x= .pointer (some ⟨ρ i,0 + j*2,none⟩)) (hy:ev e y=v) (hI:al w v q b) (hM:cD w B gh m dd c ρ M b) (hi:i<dd) (hj:j<c):
    dj P ⟨d,.store t x y,ty,pos,after,gd⟩ e w (fun _ w'=>Keeps (fun b=>b=ρ i) w w'∧cD w' B gh m dd c ρ (eu M i j q) b):=
  dj.mono (iC ht hx hy hI (hM.row hi) hj) fun _ w' ⟨hk,hR⟩=>⟨hk,hM.set hi hk hR⟩
theorem oR {t:Nat} {x y:Operand} {v:Value} (ht:fe P t 1=true) (hx:ev e x= .pointer (some ⟨gh,0 + dd*1,none⟩)) (hy:ev e y=v) (hS:fx w v g c) (hR:cN w g c z b) (hM:cD w B gh m dd c ρ M b) (hd:dd<m) (hd2:dd<65536)
    (hz:∀j,j<c→M dd j=z j) (hB:B≤g) (hnew:∀i,i<dd→g≠ρ i):
    dj P ⟨d,.store t x y,ty,pos,after,gd⟩ e w (fun _ w'=>Keeps (fun b=>b=gh) w w'∧cD w' B gh m (dd + 1) c (cC ρ dd g) M b):=by
  obtain ⟨k,rfl,h2,h3⟩:=hS;have hM':=hM;obtain ⟨_,_,⟨h3',h3b,f,ha,hf⟩,_⟩:=hM;have key:=dj.store (P:=P) (e:=e) (w:=w) (d:=d) (ty:=ty) (pos:=pos) (after:=after) (gd:=gd) (t:=t) (x:=x) (y:=y) (o:=0 + dd*1) (n:=m) [.slice (some ⟨g,0,none⟩) c k] (by simpa using ht) hx hy rfl ha (by simp;omega) (dM rfl);refine dj.mono (key) fun _ w' ⟨hk,hN⟩=>⟨hk,?_⟩
  refine hM'.push hd hd2 hz (Bn w g c k h2 h3) hR hB hnew hk fun f2 ha2=> ?_
  rw [Nat.zero_add] at hN;refine hN.congr fun i hi=> ?_
  simp only [dZ]
  by_cases e3:i=dd*1
  · subst e3;rw [bV,bV]
  · rw [cG _ _ _ _ e3,cG _ _ _ _ e3];exact (ha.eq ha2).2 i hi
end
end Go.TL
namespace Go.TL
open Go.RowKit
set_option linter.unusedVariables false
def jG (P:Program) (t i ft k:Nat):Bool:=match P.underlying t with
  | some (.struct fs)=>(match fs[i]? with | some f=>Nat.beq f.offset k&&Nat.beq f.type ft | none=>false)
  | _=>false
section
variable {P:Program} {e:ct} {w:World} {d:Option Tmp} {ty:TypeId} {pos:String} {after:Array Edge} {gd:Option (Nat×Bool)}
theorem pX {t i ft k sz:Nat} {x:Operand} {cs r:Array Value} (hf:jG P t i ft k=true) (ha:jL P ft sz=true) (hx:ev e x= .agg cs) (hr:cs.extract k (k + sz)=r):
    cI P ⟨d,.field t x i,ty,pos,after,gd⟩ e w (.agg r):=by
  subst hr
  unfold jG at hf
  split at hf
  · rename_i fs hs
    split at hf
    · rename_i f hfi
      simp only [Bool.and_eq_true] at hf;have hk:=Nat.eq_of_beq_eq_true hf.1;have ht:=Nat.eq_of_beq_eq_true hf.2;subst hk;subst ht;simp only [jL,Bool.and_eq_true] at ha;obtain ⟨h1,h2⟩:=ha;cases hi:P.info? f.type with
      | none=>rw [hi] at h2;cases h2
      | some inf=>
        rw [hi] at h2;have hsz:=Nat.eq_of_beq_eq_true h2;have hagg:(isAgg f.type).run P w= .ok true w:=by
          cases hu:P.underlying f.type with
          | none=>rw [hu] at h1;cases h1
          | some dsc=>
            rw [hu] at h1;cases dsc<;>first | (simp at h1;done) | simp [isAgg,run_underlying hu]
        simp only [cI,execOp,hx,Instr.field,Sem.run_bind,run_underlying hs,Result.andThen_ok,hfi,asAgg,Sem.run_pure,part,hagg,if_true,fH hi,hsz]
    · cases hf
  · cases hf
def ve (P:Program) (t el:Nat):Bool:=(match P.underlying t with | some (.array n e')=>Nat.beq n 2&&Nat.beq e' el | _=>false)&&(match P.info? el with | some i=>Nat.beq i.size 1 | none=>false)
theorem pa {t el yt:Nat} {x y:Operand} {a b a' b':Int} (ht:ve P t el=true) (hel:kg P el .i64=true) (hg:P.eqGuardType P.depth t=false) (hx:ev e x= .agg #[.int .i64 a,.int .i64 b]) (hy:ev e y= .agg #[.int .i64 a',.int .i64 b']):
    cI P ⟨d,.binOp .eql t x y yt,ty,pos,after,gd⟩ e w (.bool (decide (a=a'∧b=b'))):=by
  simp only [ve,Bool.and_eq_true] at ht;obtain ⟨h1,h2⟩:=ht;have hu:P.underlying t=some (.array 2 el):=by
    revert h1
    cases P.underlying t with
    | none=>intro h;cases h
    | some dsc=>cases dsc<;>intro h<;>first | cases h | (simp only [Bool.and_eq_true] at h;have e1:=Nat.eq_of_beq_eq_true h.1;have e2:=Nat.eq_of_beq_eq_true h.2;subst e1;subst e2;rfl)
  have hue:P.underlying el=some (.int .i64):=by
    unfold kg at hel
    split at hel
    · rename_i k2 h2;rw [h2];simp at hel;rw [hel]
    · cases hel
  cases hi:P.info? el with
  | none=>rw [hi] at h2;cases h2
  | some inf=>
    rw [hi] at h2;have hs1:=Nat.eq_of_beq_eq_true h2;have hnagg:(isAgg el).run P w= .ok false w:=by simp [isAgg,run_underlying hue]
    have hp:∀(cs:Array Value) (k:Nat) (v:Value),cs[k]? =some v→(part el cs k).run P w= .ok v w:=fun cs k v hv=>by
      simp only [part,Sem.run_bind,hnagg,Result.andThen_ok,Bool.false_eq_true,if_false,hv,Sem.run_pure]
    have hq:∀(n:Nat) (a b:Int),(Op.equalIn (n + 1) el (.int .i64 a) (.int .i64 b)).run P w= .ok (a==b) w:=fun n a b=>by
      simp [Op.equalIn,run_underlying hue]
    have key:∀n:Nat,(Op.equalIn (n + 2) t (.agg #[.int .i64 a,.int .i64 b]) (.agg #[.int .i64 a',.int .i64 b'])).run P w= .ok (decide (a=a'∧b=b')) w:=fun n=>by
      rw [Op.equalIn];simp only [Sem.run_bind,run_underlying hu,Result.andThen_ok,fH hi,hs1];have e0:=hp #[.int .i64 a,.int .i64 b] 0 _ rfl;have e1:=hp #[.int .i64 a,.int .i64 b] 1 _ rfl;have e2:=hp #[.int .i64 a',.int .i64 b'] 0 _ rfl;have e3:=hp #[.int .i64 a',.int .i64 b'] 1 _ rfl
      by_cases c1:a=a'
      · by_cases c2:b=b'
        · subst c1;subst c2
          simp [Std.Legacy.Range.forIn_eq_forIn_range',List.range',e0,e1,hq]
        · subst c1
          simp [Std.Legacy.Range.forIn_eq_forIn_range',List.range',e0,e1,e2,e3,hq,c2]
      · simp [Std.Legacy.Range.forIn_eq_forIn_range',List.range',e0,e2,hq,c1]
    have hgr:(eqGuard .eql t x y (.agg #[.int .i64 a,.int .i64 b]) (.agg #[.int .i64 a',.int .i64 b'])).run P w= .ok () w:=by
      simp [eqGuard,hg]
    have heq:(Op.equal t (.agg #[.int .i64 a,.int .i64 b]) (.agg #[.int .i64 a',.int .i64 b'])).run P w= .ok (decide (a=a'∧b=b')) w:=key 9998;have hb:∀u v:Array Value,binOp .eql t (.agg u) (.agg v)=(do pure (.bool (←Op.equal t (.agg u) (.agg v)))):=fun _ _=>rfl
    simp only [cI,execOp,hx,hy,hgr,hb,Sem.run_bind,Sem.run_pure,Result.andThen_ok,heq]
theorem nL {t el n:Nat} {z:Value} {xs:Array (Nat×Operand)} {vs:List (Nat×Value)} {cells:Array Value} (ht:P.underlying t=some (.array n el)) (hs:fe P el 1=true) (hz:(P.info? t).bind (·.zero)=some z)
    (hx:xs.toList.map (fun p=>(p.1,ev e p.2))=vs) (hf:Instr.fill (fun i=>some (i*1,1)) z.cells vs=some cells):cI P ⟨d,.build t xs,ty,pos,after,gd⟩ e w (.agg cells):=by
  cases hi:P.info? t with
  | none=>rw [hi] at hz;cases hz
  | some i=>
    have hz':i.zero=some z:=by rw [hi] at hz;simpa using hz
    unfold fe at hs
    cases hie:P.info? el with
    | none=>rw [hie] at hs;cases hs
    | some ie=>
      rw [hie] at hs;have hs1:=Nat.eq_of_beq_eq_true hs;have hx':(xs.map fun p=>(p.1,ev e p.2)).toList=vs:=by simpa using hx
      have hf':Instr.fill (fun i=>some (i*1,1)) z.cells (xs.map fun p=>(p.1,ev e p.2)).toList=some cells:=by rw [hx'];exact hf
      simp only [cI,execOp,Instr.build,Sem.run_bind,zeroValue,typeInfo,iQ,Result.andThen_ok,hi,hz',Sem.run_pure,run_underlying ht,fH hie,hs1,hf']
theorem iu {t n c m j b:Nat} {x hi:Operand} {v:Value} {M:Nat→Nat→Int} {i:Int} {k:IntKind} (ht:sliceB P t 41 1 m=true) (hx:ev e x=v) (hH:co w v n c M b) (hh:ev e hi= .int k i) (hij:i=(j:Int)) (hj:j≤n):
    dj P ⟨d,.slice t x none (some hi) none,ty,pos,after,gd⟩ e w (fun v w'=>w=w'∧co w' v j c M b):=by
  obtain ⟨A,kk,rfl,h2,h3,h4⟩:=hH;refine dm (φ:=fun v w'=>co w' v j c M b) (iD (j:=j) ht hx hh hij (by omega)) ⟨A,kk,rfl,by omega,by omega,fun hj0=> ?_⟩;obtain ⟨h,o,m',f,hA,hm,ha,hf⟩:=h4 (by omega);exact ⟨h,o,m',f,hA,by omega,ha,fun i hi=>hf i (by omega)⟩
theorem kf {t T m b g n cap g1 o1 kk c1:Nat} {x y:Operand} {f h:Nat→Value} {z:Value} (zl:List Value) (ht:sliceB P t T m b=true) (hb:b≤32) (hz:(P.info? T).bind (·.zero)=some z) (hzl:z.cells=zl.toArray) (hzn:zl.length=m) (hm0:0<m)
    (hx:ev e x= .slice (some ⟨g,0,none⟩) n cap) (hy:ev e y= .slice (some ⟨g1,o1,none⟩) kk c1) (hA:be w g T (cap*m) f) (hn:n≤cap) (hcap:cap<9223372036854775808)
    (hc:∀i,i<kk*m→w.cell? ⟨g1,o1 + i,none⟩=some (h i)) (h1:∀i,i<kk*m→(h i).oneCell'=true) (hnk:n + kk≤1048576):
    dj P ⟨d,.call {callee:= .builtin .append,args:= #[x,y],argTypes:= #[t,t]},ty,pos,after,gd⟩ e w
      (fun v' w'=>Keeps (fun b=>b=g) w w'∧∃g' cap' f',v'= .slice (some ⟨g',0,none⟩) (n + kk) cap'∧n + kk≤cap'∧cap'<9223372036854775808∧((g'=g∧cap'=cap∧n + kk≤cap)∨(w.heap.size≤g'∧aF w w'))∧be w' g' T (cap'*m) f'∧
        (∀i,i<n*m→f' i=f i)∧∀i,i<kk*m→f' (n*m + i)=h i):=by
  obtain ⟨hu,i0,hi0,hm,hbb⟩:=bX ht;subst hm;have hz':i0.zero=some z:=by rw [hi0] at hz;simpa using hz
  have hzs:z.cells.size=i0.size:=by rw [hzl];simpa using hzn
  have hlen:((List.range (kk*i0.size)).map h).length=kk*i0.size:=by simp
  have hnews:∀(j:Nat) (u:Value),((List.range (kk*i0.size)).map h)[j]? =some u→w.cell? ((⟨g1,o1,none⟩:Addr).add j)=some u:=by
    intro j u hj;obtain ⟨h5,h6⟩:=List.getElem?_eq_some_iff.1 hj;simp at h5 h6;rw [Addr.add_lit,hc j h5,h6]
  have hone:∀u∈(List.range (kk*i0.size)).map h,u.oneCell'=true:=by
    intro u hu;simp only [List.mem_map,List.mem_range] at hu;obtain ⟨j,hj,rfl⟩:=hu;exact h1 j hj
  by_cases hr:n + kk≤cap
  · have hle:n*i0.size + kk*i0.size≤cap*i0.size:=by rw [←Nat.add_mul];exact Nat.mul_le_mul_right _ hr
    obtain ⟨w',hs,hk,ha⟩:=cJ P (off:=n*i0.size) ((List.range (kk*i0.size)).map h) 0 w f hA (by rw [hlen];omega) hone;have hcell:∀j,j<((List.range (kk*i0.size)).map h).length→(w.cell? ⟨g,0 + n*i0.size + j,none⟩).isSome=true:=by
      intro j hj;rw [hlen] at hj;rw [hA.cell (i:=0 + n*i0.size + j) (by omega)]
      rfl
    have hfr:∀j,j<((List.range (kk*i0.size)).map h).length→w.frozen? ⟨g,0 + n*i0.size + j,none⟩=false:=fun j _=>hA.frozen _
    have hrun:=run_append_room_cells (P:=P) w t ty T i0 hu hi0 g 0 n cap ⟨g1,o1,none⟩ kk c1 ((List.range (kk*i0.size)).map h) hlen hnews hone hr hcell hfr;have hst:=run_storeCells_cells (P:=P) g (0 + n*i0.size) ((List.range (kk*i0.size)).map h) 0 w (by simpa using hcell) (by simpa using hfr) hone;have hw:w.setCells g (0 + n*i0.size) ((List.range (kk*i0.size)).map h)=w':=by
      rw [Nat.zero_add] at hst⊢;rw [hs] at hst;simp only [Nat.add_zero] at hst
      injection hst with _ h
      exact h.symm
    rw [hw] at hrun;refine cz (w':=w') (v:= .slice (some ⟨g,0,none⟩) (n + kk) cap) (by simp [execOp,resolve,invoke,builtin,hx,hy,hrun,Result.andThen]) ?_;refine ⟨hk,g,cap,_,rfl,hr,hcap,.inl ⟨rfl,rfl,hr⟩,ha,fun i hi=> ?_,fun i hi=> ?_⟩
    · rw [Nat.add_zero,kQ f h];rw [if_neg (by omega)]
    · rw [Nat.add_zero,kQ f h,if_pos (by omega)];congr 1;omega
  · obtain ⟨v',w',hrun,r1,r2⟩:=run_append_arg_grows (P:=P) w t ty T i0 z i0.size b hu hi0 hz' rfl hbb hzs hm0 ⟨g,0,none⟩ n cap ((List.range (n*i0.size)).map f) (by simp)
      (fun j u hj=>by
        obtain ⟨h5,h6⟩:=List.getElem?_eq_some_iff.1 hj;simp at h5 h6;have:n*i0.size≤cap*i0.size:=Nat.mul_le_mul_right _ hn;rw [Addr.add_lit,Nat.zero_add,hA.cell (i:=j) (by omega),h6]) ⟨g1,o1,none⟩ kk c1 ((List.range (kk*i0.size)).map h) hlen hnews (by omega) (by simp only [maxLen];omega) (by have:=Nat.mul_le_mul hnk hb;omega)
    refine cz (w':=w') (v:=v') (by simp [execOp,resolve,invoke,builtin,hx,hy,hrun,Result.andThen]) ?_;rcases r1.2 with ⟨_,h0⟩ | ⟨g',cap',cur,hv',hg,hh,h5,h6,h7,h8⟩
    · omega
    · refine ⟨⟨r2.os,r2.tape,r2.output,r2.size,fun k hk _=>r2.block k hk (by simp)⟩,g',cap',fun i=>cur.getD i undef,hv',h5,by simp only [maxLen] at h6;omega,.inr ⟨hg,⟨r2.os,r2.tape,r2.output,r2.size,fun k hk=>r2.block k hk (by simp)⟩⟩,⟨cur,hh,h7,fun i hi=>by simp [h7,hi]⟩,fun i hi=> ?_,fun i hi=> ?_⟩
      · have hlt:i<(n + kk)*i0.size:=by rw [Nat.add_mul];omega
        have h9:(cur.toList.take ((n + kk)*i0.size))[i]? =((List.range (n*i0.size)).map f ++ (List.range (kk*i0.size)).map h)[i]? :=by rw [h8]
        rw [List.getElem?_take,if_pos hlt,List.getElem?_append_left (by simpa using hi)] at h9;simp [hi] at h9;simp [h9]
      · have hlt:n*i0.size + i<(n + kk)*i0.size:=by rw [Nat.add_mul];omega
        have h9:(cur.toList.take ((n + kk)*i0.size))[n*i0.size + i]? =((List.range (n*i0.size)).map f ++ (List.range (kk*i0.size)).map h)[n*i0.size + i]? :=by rw [h8]
        rw [List.getElem?_take,if_pos hlt,List.getElem?_append_right (by simp)] at h9;simp [hi] at h9;simp [h9]
end
end Go.TL
namespace Go.TL
open Go.Proofs
set_option maxRecDepth 100000
theorem am:Tryz.prog.follows .mixedOrders=true:=by kernel_rfl
theorem yE:jL Tryz.prog 121 2=true:=by kernel_rfl
theorem xN:jL Tryz.prog 24 3=true:=by kernel_rfl
theorem aR:jL Tryz.prog 28 3=true:=by kernel_rfl
theorem iq:jL Tryz.prog 31 9=true:=by kernel_rfl
theorem ao:jL Tryz.prog 49 2=true:=by kernel_rfl
theorem lT:Tryz.prog.underlying 4=some .bool:=by kernel_rfl
theorem xL:aD Tryz.prog 10=true:=by kernel_rfl
theorem tp:aD Tryz.prog 100=true:=by kernel_rfl
theorem yC:aD Tryz.prog 101=true:=by kernel_rfl
theorem yB:aD Tryz.prog 102=true:=by kernel_rfl
theorem yA:aD Tryz.prog 103=true:=by kernel_rfl
theorem yz:aD Tryz.prog 104=true:=by kernel_rfl
theorem mR:aD Tryz.prog 105=true:=by kernel_rfl
theorem mQ:aD Tryz.prog 107=true:=by kernel_rfl
theorem yy:aD Tryz.prog 108=true:=by kernel_rfl
theorem yx:aD Tryz.prog 109=true:=by kernel_rfl
theorem qn:aD Tryz.prog 11=true:=by kernel_rfl
theorem gl:aD Tryz.prog 110=true:=by kernel_rfl
theorem tn:aD Tryz.prog 111=true:=by kernel_rfl
theorem tm:aD Tryz.prog 112=true:=by kernel_rfl
theorem yw:aD Tryz.prog 113=true:=by kernel_rfl
theorem pi:aD Tryz.prog 114=true:=by kernel_rfl
theorem yv:aD Tryz.prog 115=true:=by kernel_rfl
theorem tl:aD Tryz.prog 116=true:=by kernel_rfl
theorem yu:aD Tryz.prog 117=true:=by kernel_rfl
theorem ys:aD Tryz.prog 118=true:=by kernel_rfl
theorem yr:aD Tryz.prog 119=true:=by kernel_rfl
theorem tj:aD Tryz.prog 12=true:=by kernel_rfl
theorem yq:aD Tryz.prog 120=true:=by kernel_rfl
theorem yp:aD Tryz.prog 121=true:=by kernel_rfl
theorem yo:aD Tryz.prog 122=true:=by kernel_rfl
theorem yn:aD Tryz.prog 123=true:=by kernel_rfl
theorem ym:aD Tryz.prog 124=true:=by kernel_rfl
theorem yl:aD Tryz.prog 125=true:=by kernel_rfl
theorem yj:aD Tryz.prog 126=true:=by kernel_rfl
theorem yi:aD Tryz.prog 127=true:=by kernel_rfl
theorem yh:aD Tryz.prog 128=true:=by kernel_rfl
theorem ph:aD Tryz.prog 129=true:=by kernel_rfl
theorem nY:aD Tryz.prog 13=true:=by kernel_rfl
theorem ti:aD Tryz.prog 130=true:=by kernel_rfl
theorem th:aD Tryz.prog 131=true:=by kernel_rfl
theorem yg:aD Tryz.prog 132=true:=by kernel_rfl
theorem tg:aD Tryz.prog 133=true:=by kernel_rfl
theorem yf:aD Tryz.prog 134=true:=by kernel_rfl
theorem AC:aD Tryz.prog 14=true:=by kernel_rfl
theorem AB:aD Tryz.prog 15=true:=by kernel_rfl
theorem kW:aD Tryz.prog 17=true:=by kernel_rfl
theorem AA:aD Tryz.prog 19=true:=by kernel_rfl
theorem xK:aD Tryz.prog 21=true:=by kernel_rfl
theorem kV:aD Tryz.prog 23=true:=by kernel_rfl
theorem tf:aD Tryz.prog 24=true:=by kernel_rfl
theorem kU:aD Tryz.prog 26=true:=by kernel_rfl
theorem ip:aD Tryz.prog 28=true:=by kernel_rfl
theorem nX:aD Tryz.prog 29=true:=by kernel_rfl
theorem jT:aD Tryz.prog 31=true:=by kernel_rfl
theorem Az:aD Tryz.prog 34=true:=by kernel_rfl
theorem iK:aD Tryz.prog 36=true:=by kernel_rfl
theorem Aw:aD Tryz.prog 37=true:=by kernel_rfl
theorem Av:aD Tryz.prog 38=true:=by kernel_rfl
theorem td:aD Tryz.prog 39=true:=by kernel_rfl
theorem Au:aD Tryz.prog 40=true:=by kernel_rfl
theorem xJ:aD Tryz.prog 41=true:=by kernel_rfl
theorem me:aD Tryz.prog 42=true:=by kernel_rfl
theorem tc:aD Tryz.prog 43=true:=by kernel_rfl
theorem ta:aD Tryz.prog 44=true:=by kernel_rfl
theorem xI:aD Tryz.prog 45=true:=by kernel_rfl
theorem xH:aD Tryz.prog 46=true:=by kernel_rfl
theorem sZ:aD Tryz.prog 47=true:=by kernel_rfl
theorem At:aD Tryz.prog 48=true:=by kernel_rfl
theorem io:aD Tryz.prog 49=true:=by kernel_rfl
theorem xG:aD Tryz.prog 50=true:=by kernel_rfl
theorem xF:aD Tryz.prog 51=true:=by kernel_rfl
theorem kT:aD Tryz.prog 52=true:=by kernel_rfl
theorem xE:aD Tryz.prog 53=true:=by kernel_rfl
theorem As:aD Tryz.prog 54=true:=by kernel_rfl
theorem Ao:aD Tryz.prog 55=true:=by kernel_rfl
theorem qm:aD Tryz.prog 56=true:=by kernel_rfl
theorem sY:aD Tryz.prog 59=true:=by kernel_rfl
theorem xD:aD Tryz.prog 60=true:=by kernel_rfl
theorem xC:aD Tryz.prog 61=true:=by kernel_rfl
theorem xB:aD Tryz.prog 62=true:=by kernel_rfl
theorem An:aD Tryz.prog 63=true:=by kernel_rfl
theorem Am:aD Tryz.prog 64=true:=by kernel_rfl
theorem xA:aD Tryz.prog 65=true:=by kernel_rfl
theorem nW:aD Tryz.prog 66=true:=by kernel_rfl
theorem ql:aD Tryz.prog 67=true:=by kernel_rfl
theorem eg:aD Tryz.prog 68=true:=by kernel_rfl
theorem Al:aD Tryz.prog 70=true:=by kernel_rfl
theorem qk:aD Tryz.prog 71=true:=by kernel_rfl
theorem xz:aD Tryz.prog 72=true:=by kernel_rfl
theorem Ak:aD Tryz.prog 73=true:=by kernel_rfl
theorem jS:aD Tryz.prog 74=true:=by kernel_rfl
theorem Aj:aD Tryz.prog 75=true:=by kernel_rfl
theorem sX:aD Tryz.prog 76=true:=by kernel_rfl
theorem Ai:aD Tryz.prog 77=true:=by kernel_rfl
theorem nV:aD Tryz.prog 78=true:=by kernel_rfl
theorem Ah:aD Tryz.prog 79=true:=by kernel_rfl
theorem qj:aD Tryz.prog 80=true:=by kernel_rfl
theorem qi:aD Tryz.prog 81=true:=by kernel_rfl
theorem Ag:aD Tryz.prog 82=true:=by kernel_rfl
theorem Af:aD Tryz.prog 83=true:=by kernel_rfl
theorem Ae:aD Tryz.prog 84=true:=by kernel_rfl
theorem Ad:aD Tryz.prog 85=true:=by kernel_rfl
theorem Ac:aD Tryz.prog 86=true:=by kernel_rfl
theorem qh:aD Tryz.prog 87=true:=by kernel_rfl
theorem Ab:aD Tryz.prog 88=true:=by kernel_rfl
theorem Aa:aD Tryz.prog 89=true:=by kernel_rfl
theorem Bm:aD Tryz.prog 9=true:=by kernel_rfl
theorem zZ:aD Tryz.prog 90=true:=by kernel_rfl
theorem zY:aD Tryz.prog 91=true:=by kernel_rfl
theorem zX:aD Tryz.prog 92=true:=by kernel_rfl
theorem zW:aD Tryz.prog 93=true:=by kernel_rfl
theorem zV:aD Tryz.prog 94=true:=by kernel_rfl
theorem zU:aD Tryz.prog 95=true:=by kernel_rfl
theorem zT:aD Tryz.prog 96=true:=by kernel_rfl
theorem zS:aD Tryz.prog 97=true:=by kernel_rfl
theorem zR:aD Tryz.prog 98=true:=by kernel_rfl
theorem zQ:aD Tryz.prog 99=true:=by kernel_rfl
theorem vK:fh Tryz.prog 24 0 0=true:=by kernel_rfl
theorem vJ:fh Tryz.prog 24 1 1=true:=by kernel_rfl
theorem vI:fh Tryz.prog 24 2 2=true:=by kernel_rfl
theorem bg:fh Tryz.prog 28 0 0=true:=by kernel_rfl
theorem bE:fh Tryz.prog 28 1 1=true:=by kernel_rfl
theorem aq:fh Tryz.prog 28 2 2=true:=by kernel_rfl
theorem dJ:fh Tryz.prog 31 0 0=true:=by kernel_rfl
theorem eH:fh Tryz.prog 31 1 3=true:=by kernel_rfl
theorem gM:fh Tryz.prog 31 2 6=true:=by kernel_rfl
theorem bL:fh Tryz.prog 49 0 0=true:=by kernel_rfl
theorem aJ:fh Tryz.prog 49 1 1=true:=by kernel_rfl
theorem cQ:fh Tryz.prog 74 0 0=true:=by kernel_rfl
theorem ea:fh Tryz.prog 74 1 3=true:=by kernel_rfl
theorem ko:fh Tryz.prog 74 2 6=true:=by kernel_rfl
theorem cP:fh Tryz.prog 83 0 0=true:=by kernel_rfl
theorem dU:fh Tryz.prog 83 1 3=true:=by kernel_rfl
theorem dI:fh Tryz.prog 83 2 6=true:=by kernel_rfl
theorem mO:jG Tryz.prog 28 2 26 2=true:=by kernel_rfl
theorem vE:jG Tryz.prog 31 0 28 0=true:=by kernel_rfl
theorem bf:kg Tryz.prog 101 .u32=true:=by kernel_rfl
theorem nU:kg Tryz.prog 2 .i64=true:=by kernel_rfl
theorem rK:kg Tryz.prog 3 .i64=true:=by kernel_rfl
theorem rJ:kg Tryz.prog 5 .u8=true:=by kernel_rfl
theorem xy:kg Tryz.prog 57 .i8=true:=by kernel_rfl
theorem bJ:kg Tryz.prog 99 .u64=true:=by kernel_rfl
theorem bt:oneB Tryz.prog 101=true:=by kernel_rfl
theorem Bl:oneB Tryz.prog 2=true:=by kernel_rfl
theorem zO:oneB Tryz.prog 22=true:=by kernel_rfl
theorem aH:oneB Tryz.prog 26=true:=by kernel_rfl
theorem bG:oneB Tryz.prog 3=true:=by kernel_rfl
theorem dB:oneB Tryz.prog 4=true:=by kernel_rfl
theorem aU:oneB Tryz.prog 41=true:=by kernel_rfl
theorem bI:oneB Tryz.prog 47=true:=by kernel_rfl
theorem pf:oneB Tryz.prog 5=true:=by kernel_rfl
theorem xw:oneB Tryz.prog 57=true:=by kernel_rfl
theorem kS:fT Tryz.prog 28 [(0,1),(1,1),(2,1)]=true:=by kernel_rfl
theorem jR:fT Tryz.prog 31 [(0,3),(3,3),(6,3)]=true:=by kernel_rfl
theorem jQ:fT Tryz.prog 49 [(0,1),(1,1)]=true:=by kernel_rfl
theorem zN:fT Tryz.prog 74 [(0,3),(3,3),(6,3)]=true:=by kernel_rfl
theorem zM:fT Tryz.prog 83 [(0,3),(3,3),(6,3)]=true:=by kernel_rfl
theorem yd:ve Tryz.prog 121 3=true:=by kernel_rfl
theorem yb:Tryz.prog.eqGuardType Tryz.prog.depth 121=false:=by kernel_rfl
theorem xv:sliceB Tryz.prog 22 57 1 1=true:=by kernel_rfl
theorem aB:sliceB Tryz.prog 26 41 1 24=true:=by kernel_rfl
theorem bi:sliceB Tryz.prog 41 49 2 32=true:=by kernel_rfl
theorem dk:sliceB Tryz.prog 42 49 2 32=true:=by kernel_rfl
theorem ar:sliceB Tryz.prog 47 101 1 4=true:=by kernel_rfl
theorem gk:sliceB Tryz.prog 69 2 1 8=true:=by kernel_rfl
theorem Bk:Tryz.prog.underlying 9=some .string:=by kernel_rfl
theorem ya:Tryz.prog.underlying 121=some (.array 2 3):=by kernel_rfl
theorem cW:(Tryz.prog.info? 101).bind (·.zero)=some (.int .u32 0):=by kernel_rfl
theorem sV:(Tryz.prog.info? 121).bind (·.zero)=some (.agg #[.int .i64 0,.int .i64 0]):=by kernel_rfl
theorem mN:(Tryz.prog.info? 2).bind (·.zero)=some (.int .i64 0):=by kernel_rfl
theorem cf:(Tryz.prog.info? 28).bind (·.zero)=some (.agg #[.int .i64 0,.int .i64 0,.slice none 0 0]):=by kernel_rfl
theorem Bj:(Tryz.prog.info? 3).bind (·.zero)=some (.int .i64 0):=by kernel_rfl
theorem ef:(Tryz.prog.info? 31).bind (·.zero)=some (.agg #[.int .i64 0,.int .i64 0,.slice none 0 0,.int .i64 0,.int .i64 0,.slice none 0 0,.int .i64 0,.int .i64 0,.slice none 0 0]):=by kernel_rfl
theorem qf:(Tryz.prog.info? 41).bind (·.zero)=some (.slice none 0 0):=by kernel_rfl
theorem bH:(Tryz.prog.info? 49).bind (·.zero)=some (.agg #[.bool false,.slice none 0 0]):=by kernel_rfl
theorem zL:(Tryz.prog.info? 74).bind (·.zero)=some (.agg #[.int .i64 0,.int .i64 0,.slice none 0 0,.int .i64 0,.int .i64 0,.slice none 0 0,.int .i64 0,.int .i64 0,.slice none 0 0]):=by kernel_rfl
theorem zK:(Tryz.prog.info? 83).bind (·.zero)=some (.agg #[.int .i64 0,.int .i64 0,.slice none 0 0,.int .i64 0,.int .i64 0,.slice none 0 0,.int .i64 0,.int .i64 0,.slice none 0 0]):=by kernel_rfl
theorem gj:(Array.range (1*1)).map (fun i=>([.int .u32 (0)]:List Value).toArray[i % ([.int .u32 (0)]:List Value).toArray.size]!)= #[.int .u32 (0)]:=by kernel_rfl
theorem kR:(Array.range (2*1)).map (fun i=>([.int .u32 (0)]:List Value).toArray[i % ([.int .u32 (0)]:List Value).toArray.size]!)= #[.int .u32 (0),.int .u32 (0)]:=by kernel_rfl
theorem xZ:(Array.range (1*1)).map (fun i=>([.int .i64 (0)]:List Value).toArray[i % ([.int .i64 (0)]:List Value).toArray.size]!)= #[.int .i64 (0)]:=by kernel_rfl
theorem mM:(Array.range (2*1)).map (fun i=>([.int .i64 (0)]:List Value).toArray[i % ([.int .i64 (0)]:List Value).toArray.size]!)= #[.int .i64 (0),.int .i64 (0)]:=by kernel_rfl
theorem mL:(Array.range (4*1)).map (fun i=>([.int .i64 (0)]:List Value).toArray[i % ([.int .i64 (0)]:List Value).toArray.size]!)= #[.int .i64 (0),.int .i64 (0),.int .i64 (0),.int .i64 (0)]:=by kernel_rfl
theorem vC:(Array.range (1*1)).map (fun i=>([.slice none 0 0]:List Value).toArray[i % ([.slice none 0 0]:List Value).toArray.size]!)= #[.slice none 0 0]:=by kernel_rfl
theorem dv:fe Tryz.prog 101 1=true:=by kernel_rfl
theorem xY:fe Tryz.prog 121 2=true:=by kernel_rfl
theorem cL:fe Tryz.prog 28 3=true:=by kernel_rfl
theorem zJ:fe Tryz.prog 3 1=true:=by kernel_rfl
theorem ik:fe Tryz.prog 31 9=true:=by kernel_rfl
theorem gf:fe Tryz.prog 41 1=true:=by kernel_rfl
theorem aN:fe Tryz.prog 49 2=true:=by kernel_rfl
end Go.TL
