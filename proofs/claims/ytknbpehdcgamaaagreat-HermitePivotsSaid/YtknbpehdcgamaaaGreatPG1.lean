/-
  Lemmas towards the theorem of this claim (part 1).
  Conditions: those that each theorem names.
-/
import Derived.ChangeKeysEq
import Derived.Test.YtknbpehdcgamaaaGreatRows
import Derived.Test.YtknbpehdcgamaaaGreatPG0
namespace Go.TL
open Go.RowKit
set_option linter.unusedVariables false
def bQ (l:Nat→Nat) (i j:Nat):Nat:=val (fun t=>l (i + t)) j
theorem dy (l:Nat→Nat) (i j:Nat):bQ l i (j + 1)=bQ l i j + l (i + j)*4294967296^j:=rfl
theorem dU (l:Nat→Nat) {i j d v:Nat} (h:i + j≤d):bQ (ci l d v) i j=bQ l i j:=db fun t ht=>aT _ _ _ _ (by omega)
theorem jv {l:Nat→Nat} {i j n:Nat} (h:∀t,t<n→l t<4294967296) (hn:i + j≤n):bQ l i j<4294967296^j:=dE fun t ht=>h _ (by omega)
theorem tB {y:Nat} (h0:y≠0) (hy:y<4294967296):32 - eh y<32∧2147483648≤y*2^(32 - eh y)∧y*2^(32 - eh y)<4294967296:=by
  obtain ⟨n,h1,h2,h3⟩:=iX h0;have h4:=mN (b:=y) (n:=32) hy;rw [h1] at h4⊢;have h5:(2:Nat)^n*2^(32 - (n + 1))=2147483648:=by rw [←Nat.pow_add,show n + (32 - (n + 1))=31 by omega]
  have h6:(2:Nat)^(n + 1)*2^(32 - (n + 1))=4294967296:=by rw [←Nat.pow_add,show n + 1 + (32 - (n + 1))=32 by omega]
  have hp:0<2^(32 - (n + 1)):=Nat.pow_pos (by omega);refine ⟨by omega,?_,?_⟩
  · rw [←h5];exact Nat.mul_le_mul_right _ h2
  · rw [←h6];exact Nat.mul_lt_mul_of_pos_right h3 hp
theorem wh {ly lv:Nat→Nat} {n k:Nat} (hn:0<n) (hy:∀i,i<n→ly i<4294967296) (hv:∀i,i<n + 1→lv i<4294967296) (hk:2147483648≤ly (n - 1)*2^k) (hk2:ly (n - 1)*2^k<4294967296)
    (h:val lv (n + 1)=val ly n*2^k):val lv n=val ly n*2^k∧2147483648≤lv (n - 1):=by
  obtain ⟨m,rfl⟩:∃m,n=m + 1:=⟨n - 1,by omega⟩
  simp only [Nat.add_sub_cancel] at hk hk2⊢;have hlow:=dE (l:=ly) (n:=m) fun i hi=>hy i (by omega)
  have hp:0<2^k:=Nat.pow_pos (by omega);have hk3:2^k≤4294967296:=by
    rcases Nat.eq_zero_or_pos (ly m) with h0 | h0
    · rw [h0] at hk;omega
    · have:=Nat.mul_le_mul_right (2^k) h0;omega
  have hw:val ly (m + 1)*2^k<4294967296^(m + 1):=by
    simp only [val];have h1:(val ly m + ly m*4294967296^m)*2^k<(ly m + 1)*4294967296^m*2^k:=by
      refine Nat.mul_lt_mul_of_pos_right ?_ hp;rw [Nat.add_mul];omega
    have h2:(ly m + 1)*2^k≤4294967296:=by
      have hd:2^k∣4294967296:=by
        have hk32:k≤32:=by
          have:(2:Nat)^k≤2^32:=by simpa using hk3
          exact (Nat.pow_le_pow_iff_right (by omega)).1 this
        exact ⟨2^(32 - k),by rw [←Nat.pow_add,show k + (32 - k)=32 by omega]⟩
      obtain ⟨c,hc⟩:=hd;rw [hc,Nat.mul_comm];refine Nat.mul_le_mul_left _ ?_;rw [hc,Nat.mul_comm] at hk2;have:=Nat.lt_of_mul_lt_mul_left hk2;omega
    have h3:(ly m + 1)*4294967296^m*2^k≤4294967296^(m + 1):=by
      rw [bY,Nat.mul_right_comm];exact Nat.mul_le_mul_right _ h2
    omega
  have hsplit:val lv (m + 1 + 1)=val lv (m + 1) + lv (m + 1)*4294967296^(m + 1):=rfl;have htop:lv (m + 1)=0:=by
    rcases Nat.eq_zero_or_pos (lv (m + 1)) with h0 | h0
    · exact h0
    · have:=Nat.mul_le_mul_right (4294967296^(m + 1)) h0;omega
  have hval:val lv (m + 1)=val ly (m + 1)*2^k:=by rw [htop] at hsplit;omega
  refine ⟨hval,?_⟩;have h4:=dE (l:=lv) (n:=m) fun i hi=>hv i (by omega)
  have h5:val lv (m + 1)=val lv m + lv m*4294967296^m:=rfl;have h6:ly m*2^k*4294967296^m≤val ly (m + 1)*2^k:=by
    simp only [val];rw [Nat.add_mul,Nat.mul_right_comm];omega
  have h7:2147483648*4294967296^m≤ly m*2^k*4294967296^m:=Nat.mul_le_mul_right _ hk;have h8:2147483648*4294967296^m<(lv m + 1)*4294967296^m:=by rw [Nat.add_mul];omega
  have:=Nat.lt_of_mul_lt_mul_right h8;omega
structure Guess (W D top v1 G R:Nat):Prop where
  split:G*v1 + R=top
  up:W<(G + 1)*D
theorem pe {W D top v1 P:Nat} (hv1:0<v1) (hW:W<(top + 1)*P) (hD:v1*P≤D):Guess W D top v1 (top/v1) (top % v1):=by
  refine ⟨by rw [Nat.mul_comm];exact Nat.div_add_mod top v1,?_⟩;have h1:top + 1≤(top/v1 + 1)*v1:=by
    have:=Nat.div_add_mod top v1;have:=Nat.mod_lt top hv1;rw [Nat.add_mul,Nat.mul_comm];omega
  have h2:(top + 1)*P≤(top/v1 + 1)*v1*P:=Nat.mul_le_mul_right _ h1;have h3:(top/v1 + 1)*v1*P≤(top/v1 + 1)*D:=by rw [Nat.mul_assoc];exact Nat.mul_le_mul_left _ hD
  omega
theorem pg {W D top v1 G R:Nat} (h:Guess W D top v1 G R) (hG:4294967295<G) (hW:W<D*4294967296):Guess W D top v1 (G - 1) (R + v1):=by
  obtain ⟨g,rfl⟩:∃g,G=g + 1:=⟨G - 1,by omega⟩
  refine ⟨by have:=h.split;rw [Nat.add_mul] at this;simp only [Nat.add_sub_cancel];omega,?_⟩;simp only [Nat.add_sub_cancel];have:D*4294967296≤(g + 1)*D:=by rw [Nat.mul_comm];exact Nat.mul_le_mul_right _ (by omega)
  omega
theorem pf {W D top v1 v2 u2 P G R:Nat} (h:Guess W D top v1 G R) (hlt:R*4294967296 + u2<G*v2) (hW:W<(top*4294967296 + u2 + 1)*P) (hD:(v1*4294967296 + v2)*P≤D):
    Guess W D top v1 (G - 1) (R + v1):=by
  have hG:0<G:=by
    rcases Nat.eq_zero_or_pos G with h0 | h0
    · subst h0;omega
    · exact h0
  obtain ⟨g,rfl⟩:∃g,G=g + 1:=⟨G - 1,by omega⟩
  have hs:=h.split;refine ⟨by rw [Nat.add_mul] at hs;simp only [Nat.add_sub_cancel];omega,?_⟩;simp only [Nat.add_sub_cancel];have h1:top*4294967296 + u2 + 1≤(g + 1)*(v1*4294967296 + v2):=by
    rw [←hs,Nat.mul_add,←Nat.mul_assoc,Nat.add_mul ((g + 1)*v1)];omega
  have h2:(top*4294967296 + u2 + 1)*P≤(g + 1)*(v1*4294967296 + v2)*P:=Nat.mul_le_mul_right _ h1;have h3:(g + 1)*(v1*4294967296 + v2)*P≤(g + 1)*D:=by rw [Nat.mul_assoc];exact Nat.mul_le_mul_left _ hD
  omega
theorem rQ {W D top v1 v2 u2 P G R:Nat} (h:Guess W D top v1 G R) (hG:G<4294967296) (hle:G*v2≤R*4294967296 + u2) (hW:(top*4294967296 + u2)*P≤W)
    (hD:D<(v1*4294967296 + v2 + 1)*P) (hP:4294967296*P≤D):G*D<W + D:=by
  have hs:=h.split;have h1:G*(v1*4294967296 + v2)≤top*4294967296 + u2:=by
    rw [←hs,Nat.mul_add,←Nat.mul_assoc,Nat.add_mul (G*v1)];omega
  have h2:G*(v1*4294967296 + v2)*P≤W:=Nat.le_trans (Nat.mul_le_mul_right _ h1) hW;rcases Nat.eq_zero_or_pos G with h0 | h0
  · subst h0
    have h3:0<P:=by
      rcases Nat.eq_zero_or_pos P with h | h
      · subst h;omega
      · exact h
    omega
  · have h3:G*D<G*((v1*4294967296 + v2 + 1)*P):=Nat.mul_lt_mul_of_pos_left hD h0
    have h4:G*((v1*4294967296 + v2 + 1)*P)=G*(v1*4294967296 + v2)*P + G*P:=by
      rw [Nat.add_mul,Nat.one_mul,Nat.mul_add,←Nat.mul_assoc]
    have h5:G*P≤4294967296*P:=Nat.mul_le_mul_right _ (by omega);omega
theorem lJ {W D top v1 G R:Nat} (h:Guess W D top v1 G R) (htop:top<(v1 + 1)*4294967296) (hR:4294967296≤R):G<4294967296:=by
  have hs:=h.split;have:G*v1<4294967296*v1:=by rw [Nat.add_mul] at htop;rw [Nat.mul_comm 4294967296];omega
  exact Nat.lt_of_mul_lt_mul_right this
def dv (u c b:Nat):Nat:=(u + 18446744073709551616 - c % 4294967296 - b) % 4294967296
def dZ (u c b:Nat):Nat:=if u<c % 4294967296 + b then 1 else 0
theorem AJ {u c b:Nat} (hu:u<4294967296) (hb:b≤1):dv u c b + c % 4294967296 + b=u + dZ u c b*4294967296:=by
  unfold dv dZ;split<;>omega
theorem Ag {u c b:Nat} (hu:u<4294967296) (hb:b≤1):(u + 18446744073709551616 - c % 4294967296 - b) % 18446744073709551616/9223372036854775808=dZ u c b:=by
  unfold dZ;split<;>omega
theorem ul (u c b:Nat):dZ u c b≤1:=by unfold dZ;split<;>omega
theorem fe (u c b:Nat):dv u c b<4294967296:=Nat.mod_lt _ (by decide)
theorem vF {o o0 lv:Nat→Nat} {i j G c b:Nat} (hb:b≤1) (hu:o (i + j)<4294967296) (heq:∀t,i + j≤t→o t=o0 t)
    (h:bQ o i j + G*val lv j=bQ o0 i j + (c + b)*4294967296^j):
    bQ (ci o (i + j) (dv (o (i + j)) (c + G*lv j) b)) i (j + 1) + G*val lv (j + 1)=bQ o0 i (j + 1) + ((c + G*lv j)/4294967296 + dZ (o (i + j)) (c + G*lv j) b)*4294967296^(j + 1):=by
  rw [dy,dy,dU _ (Nat.le_refl _),aW];simp only [val];rw [←heq _ (Nat.le_refl _),bY];have h1:=AJ (c:=c + G*lv j) hu hb;have h2:=Nat.mod_add_div (c + G*lv j) 4294967296
  generalize dv (o (i + j)) (c + G*lv j) b=x at h1⊢
  generalize dZ (o (i + j)) (c + G*lv j) b=s at h1⊢
  generalize 4294967296^j=p at h⊢
  generalize hq:(c + G*lv j)/4294967296=q at h2⊢
  generalize hm:(c + G*lv j) % 4294967296=m at h1 h2⊢
  have h3:(x + m + b)*p=(o (i + j) + s*4294967296)*p:=by rw [h1]
  have h4:(m + 4294967296*q)*p=(c + G*lv j)*p:=by rw [h2]
  simp only [Nat.add_mul,Nat.mul_add] at h h3 h4⊢;have e1:G*(lv j*p)=G*lv j*p:=(Nat.mul_assoc _ _ _).symm;have e2:q*(4294967296*p)=4294967296*q*p:=by rw [←Nat.mul_assoc,Nat.mul_comm q]
  have e3:s*(4294967296*p)=s*4294967296*p:=(Nat.mul_assoc _ _ _).symm;rw [e1,e2,e3];omega
theorem vH {o o0:Nat→Nat} {i n G D c b:Nat} (h:bQ o i n + G*D=bQ o0 i n + (c + b)*4294967296^n) (hn:o (i + n)=o0 (i + n)) (hge:c + b≤o (i + n)):
    bQ (ci o (i + n) (o (i + n) - c - b)) i (n + 1) + G*D=bQ o0 i (n + 1):=by
  rw [dy,dy,dU _ (Nat.le_refl _),aW,←hn];obtain ⟨q,hq⟩:∃q,o (i + n)=q + (c + b):=⟨o (i + n) - (c + b),by omega⟩
  rw [hq,show q + (c + b) - c - b=q by omega,Nat.add_mul q];omega
theorem vG {o o0:Nat→Nat} {i n G D c b:Nat} (h:bQ o i n + G*D=bQ o0 i n + (c + b)*4294967296^n) (hn:o (i + n)=o0 (i + n)) (hlt:o (i + n)<c + b)
    (hG:G*D<bQ o0 i (n + 1) + D) (hD:D<4294967296^n) (hlo:bQ o i n<4294967296^n):c + b=o (i + n) + 1:=by
  rw [dy,←hn] at hG;rcases Nat.lt_or_ge (c + b) (o (i + n) + 2) with h1 | h1
  · omega
  · have h2:(o (i + n) + 2)*4294967296^n≤(c + b)*4294967296^n:=Nat.mul_le_mul_right _ h1
    rw [Nat.add_mul] at h2;omega
theorem ww {o o0 lv:Nat→Nat} {i j c:Nat} (heq:∀t,i + j≤t→o t=o0 t) (h:bQ o i j + c*4294967296^j=bQ o0 i j + val lv j):
    bQ (ci o (i + j) ((o (i + j) + lv j + c) % 4294967296)) i (j + 1) + (o (i + j) + lv j + c)/4294967296*4294967296^(j + 1)=bQ o0 i (j + 1) + val lv (j + 1):=by
  rw [dy,dy,dU _ (Nat.le_refl _),aW];simp only [val];rw [←heq _ (Nat.le_refl _),bY];have h2:=Nat.mod_add_div (o (i + j) + lv j + c) 4294967296
  generalize (o (i + j) + lv j + c)/4294967296=q at h2⊢
  generalize (o (i + j) + lv j + c) % 4294967296=m at h2⊢
  generalize 4294967296^j=p at h⊢
  have h4:(m + 4294967296*q)*p=(o (i + j) + lv j + c)*p:=by rw [h2]
  have e2:q*(4294967296*p)=4294967296*q*p:=by rw [←Nat.mul_assoc,Nat.mul_comm q]
  rw [e2];simp only [Nat.add_mul] at h4⊢;omega
theorem lh (l:Nat→Nat) {i n m:Nat} (him:i + n≤m) (hz:∀t,i + n≤t→t<m→l t=0):val l m=val l i + 4294967296^i*bQ l i n:=by
  rw [eX him hz,dN l i (by omega),show i + n - i=n by omega]
  congr 2
  exact db fun t _=>by rw [Nat.add_comm]
theorem ns {l:Nat→Nat} {m n:Nat} (hl:val l m<4294967296^n):∀t,n≤t→t<m→l t=0:=by
  intro t h1 h2;rcases Nat.eq_zero_or_pos (l t) with h | h
  · exact h
  · exfalso
    have h3:4294967296^n≤4294967296^t:=Nat.pow_le_pow_right (by omega) h1;have h4:4294967296^t≤val l (t + 1):=by
      simp only [val];have:=Nat.mul_le_mul_right (4294967296^t) h;omega
    have h5:=dN l (t + 1) (n:=m) (by omega);omega
structure LInv (X D:Nat) (lu lq:Nat→Nat) (m nq c:Nat):Prop where
  small:val lu m<D*4294967296^c
  sum:X=val lq nq*D + val lu m
  zero:∀t,t<c→lq t=0
theorem sf {X D m nq c n:Nat} {lu lq:Nat→Nat} (h:LInv X D lu lq m nq (c + 1)) (hD:D<4294967296^n) (hm:c + n + 1≤m):
    val lu m=val lu c + 4294967296^c*bQ lu c (n + 1)∧bQ lu c (n + 1)<D*4294967296∧∀t,c + n + 1≤t→t<m→lu t=0:=by
  have hz:∀t,c + n + 1≤t→t<m→lu t=0:=ns (by
    have h1:=h.small;have h2:D*4294967296^(c + 1)≤4294967296^n*4294967296^(c + 1):=Nat.mul_le_mul_right _ (Nat.le_of_lt hD);rw [←Nat.pow_add,show n + (c + 1)=c + n + 1 by omega] at h2;omega)
  have h3:=lh lu (i:=c) (n:=n + 1) (m:=m) (by omega) hz;refine ⟨h3,?_,hz⟩;have h4:=h.small;rw [h3,bY,←Nat.mul_assoc,Nat.mul_comm _ (4294967296^c)] at h4;exact Nat.lt_of_mul_lt_mul_left (Nat.lt_of_le_of_lt (Nat.le_add_left _ _) h4)
theorem rM {X D m nq c n G:Nat} {lu lq lu':Nat→Nat} (h:LInv X D lu lq m nq (c + 1)) (hD:D<4294967296^n) (hm:c + n + 1≤m) (hc:c<nq) (hl:∀t,t<m→lu t<4294967296)
    (hlow:∀t,t<c→lu' t=lu t) (hhigh:∀t,c + n + 1≤t→lu' t=lu t) (hw:bQ lu' c (n + 1) + G*D=bQ lu c (n + 1)) (hlt:bQ lu' c (n + 1)<D):
    LInv X D lu' (ci lq c G) m nq c:=by
  obtain ⟨h1,h2,hz⟩:=sf h hD hm;have h1':=lh lu' (i:=c) (n:=n + 1) (m:=m) (by omega) fun t ht1 ht2=>(hhigh t ht1).trans (hz t ht1 ht2)
  have hlowv:val lu' c=val lu c:=db hlow;have hq:val (ci lq c G) nq=val lq nq + G*4294967296^c:=by
    rw [dN (ci lq c G) (c + 1) (n:=nq) (by omega),dN lq (c + 1) (n:=nq) (by omega)];have e1:val (ci lq c G) (c + 1)=val lq c + G*4294967296^c:=by
      simp only [val,aW];rw [dV _ (Nat.le_refl _)]
    have e2:val lq (c + 1)=val lq c:=by simp only [val];rw [h.zero c (by omega)];omega
    have e3:val (fun t=>ci lq c G (t + (c + 1))) (nq - (c + 1))=val (fun t=>lq (t + (c + 1))) (nq - (c + 1)):=db fun t _=>aT _ _ _ _ (by omega)
    rw [e1,e2,e3];omega
  refine ⟨?_,?_,fun t ht=>(aT _ _ _ _ (by omega)).trans (h.zero t (by omega))⟩
  · rw [h1',hlowv]
    have h5:=dE (l:=lu) (n:=c) fun t ht=>hl t (by omega)
    have h6:4294967296^c*(bQ lu' c (n + 1) + 1)≤4294967296^c*D:=Nat.mul_le_mul_left _ hlt;rw [Nat.mul_add,Nat.mul_comm _ D] at h6;omega
  · rw [hq,h.sum,h1,h1',hlowv,←hw,Nat.add_mul,Nat.mul_add]
    have:4294967296^c*(G*D)=G*4294967296^c*D:=by ac_rfl
    omega
end Go.TL
namespace Go.TL
open Go.RowKit
set_option linter.unusedVariables false
def va (w:World) (v:Value) (c n m:Nat):Prop:=∃g l,v= .slice (some ⟨g,0,none⟩) c n∧cz w g n l∧val l n=m
theorem va.ext {w w':World} {v:Value} {c n m:Nat} (h:va w v c n m) (hx:aA w w'):va w' v c n m:=by
  obtain ⟨g,l,h1,h2,h3⟩:=h;exact ⟨g,l,h1,h2.ext hx,h3⟩
theorem rF (c n m:Nat):bq (fun v w=>va w v c n m):=fun _ _ _ h hx=>h.ext hx
instance (c n m:Nat):Nonempty (bq (fun v w=>va w v c n m)):=⟨rF c n m⟩
def gP (w:World) (v:Value) (B c n m:Nat):Prop:=va w v c n m∧B≤dQ v
theorem gP.ext {w w':World} {v:Value} {B c n m:Nat} (h:gP w v B c n m) (hx:aA w w'):gP w' v B c n m:=⟨h.1.ext hx,h.2⟩
theorem eZ (B c n m:Nat):bq (fun v w=>gP w v B c n m):=fun _ _ _ h hx=>h.ext hx
instance (B c n m:Nat):Nonempty (bq (fun v w=>gP w v B c n m)):=⟨eZ B c n m⟩
theorem jD (B c n m:Nat):fz (fun v _ b=>b=dQ v) (fun v w=>gP w v B c n m):=
  ⟨fun v w b h hb=>by obtain ⟨⟨g,l,h1,h2,h3⟩,_⟩:=h;subst h1;subst hb;exact h2.2.lt,fun _ _ _ _ _ _ h=>h⟩
section
variable {P:Program} {e:cl} {w:World} {d:Option Tmp} {ty:TypeId} {pos:String} {after:Array Edge} {gd:Option (Nat×Bool)}
theorem uX {t b B c n m j:Nat} {x hi:Operand} {i:Int} {k:IntKind} (ht:sliceB P t 101 1 b=true) (hx:gP w (ev e x) B c n m) (hh:ev e hi= .int k i) (hij:i=(j:Int)) (hj:j≤n):
    cQ P ⟨d,.slice t x none (some hi) none,ty,pos,after,gd⟩ e w (fun v w'=>aA w w'∧gP w' v B j n m∧dQ v=dQ (ev e x)):=by
  obtain ⟨⟨g,l,h1,h2,h3⟩,h4⟩:=hx;refine (fy ht h1 hh hij hj).opX.mono fun v w' h=> ?_
  obtain ⟨rfl,rfl⟩:=h;rw [h1] at h4⊢;exact ⟨aA.refl _,⟨⟨g,l,rfl,h2,h3⟩,h4⟩,rfl⟩
theorem sa {B c n m:Nat} {x:Operand} (hx:gP w (ev e x) B c n m):
    cQ P ⟨d,.assign x,ty,pos,after,gd⟩ e w (fun v w'=>aA w w'∧gP w' v B c n m∧dQ v=dQ (ev e x)):=
  (cj.assign rfl).opX.mono fun v w' h=>by
    obtain ⟨rfl,rfl⟩:=h;exact ⟨aA.refl _,hx,rfl⟩
end
theorem vb {a:Nat}:IntKind.u32.wrap (a:Int)=((a % 4294967296:Nat):Int):=eJ (by omega)
theorem zY {G v:Nat} (hg:¬(4294967295:Int)<(G:Int)) (hv:v<4294967296):G*v<18446744073709551616:=by
  have:G*v≤4294967295*4294967295:=Nat.mul_le_mul (by omega) (by omega);omega
theorem rR {W D top v1 v2 u2 P G R:Nat} (h:Guess W D top v1 G R) (hor:(4294967295:Int)<((G:Nat):Int)∨((R*4294967296 + u2:Nat):Int)<((G*v2:Nat):Int)) (hW1:W<D*4294967296)
    (hW:W<(top*4294967296 + u2 + 1)*P) (hD:(v1*4294967296 + v2)*P≤D):0<G∧Guess W D top v1 (G - 1) (R + v1):=by
  rcases hor with h1 | h1
  · exact ⟨by omega,pg h (by omega) hW1⟩
  · refine ⟨?_,pf h (by omega) hW hD⟩
    rcases Nat.eq_zero_or_pos G with h0 | h0
    · subst h0;omega
    · exact h0
theorem rS {G R v2 u2:Nat} (hG:G<4294967296) (hv:v2<4294967296) (hR:4294967296≤R):G*v2≤R*4294967296 + u2:=by
  have:G*v2≤4294967295*4294967295:=Nat.mul_le_mul (by omega) (by omega);omega
theorem vd {l:Nat→Nat} {i n m:Nat} (hl:∀t,t<m→l t<4294967296) (h2:2≤n) (hm:i + n + 1≤m):
    ((l (i + n)*4294967296 + l (i + (n - 1)))*4294967296 + l (i + (n - 2)))*4294967296^(n - 2)≤bQ l i (n + 1)∧
    bQ l i (n + 1)<((l (i + n)*4294967296 + l (i + (n - 1)))*4294967296 + l (i + (n - 2)) + 1)*4294967296^(n - 2)∧
    bQ l i (n + 1)<(l (i + n)*4294967296 + l (i + (n - 1)) + 1)*4294967296^(n - 1):=by
  obtain ⟨q,rfl⟩:∃q,n=q + 2:=⟨n - 2,by omega⟩
  simp only [Nat.add_sub_cancel,show q + 2 - 1=q + 1 by omega];have h0:=jv (l:=l) (i:=i) (j:=q) hl (by omega);have h1:=jv (l:=l) (i:=i) (j:=q + 1) hl (by omega);have e:bQ l i (q + 2 + 1)=bQ l i q + l (i + q)*4294967296^q + l (i + (q + 1))*4294967296^(q + 1) + l (i + (q + 2))*4294967296^(q + 2):=rfl;have e1:bQ l i (q + 2 + 1)=bQ l i (q + 1) + l (i + (q + 1))*4294967296^(q + 1) + l (i + (q + 2))*4294967296^(q + 2):=rfl;have p1:4294967296^(q + 2)=4294967296*4294967296^(q + 1):=bY _;have p2:4294967296^(q + 1)=4294967296*4294967296^q:=bY _;have m1:∀a b p:Nat,(a*4294967296 + b)*p=a*(4294967296*p) + b*p:=fun a b p=>by rw [Nat.add_mul,Nat.mul_assoc]
  refine ⟨?_,?_,?_⟩
  · rw [e,m1,m1,←p2,←p1];omega
  · rw [e,Nat.add_mul,m1,m1,←p2,←p1];omega
  · rw [e1,Nat.add_mul,m1,←p1];omega
theorem wd {l:Nat→Nat} {n:Nat} (hl:∀t,t<n→l t<4294967296) (h2:2≤n):
    (l (n - 1)*4294967296 + l (n - 2))*4294967296^(n - 2)≤val l n∧val l n<(l (n - 1)*4294967296 + l (n - 2) + 1)*4294967296^(n - 2)∧l (n - 1)*4294967296^(n - 1)≤val l n:=by
  obtain ⟨q,rfl⟩:∃q,n=q + 2:=⟨n - 2,by omega⟩
  simp only [Nat.add_sub_cancel,show q + 2 - 1=q + 1 by omega];have h0:=dE (l:=l) (n:=q) fun i hi=>hl i (by omega)
  have e:val l (q + 2)=val l q + l q*4294967296^q + l (q + 1)*4294967296^(q + 1):=rfl;have p2:4294967296^(q + 1)=4294967296*4294967296^q:=bY _;have m1:∀a b p:Nat,(a*4294967296 + b)*p=a*(4294967296*p) + b*p:=fun a b p=>by rw [Nat.add_mul,Nat.mul_assoc]
  refine ⟨?_,?_,?_⟩
  · rw [e,m1,←p2];omega
  · rw [e,Nat.add_mul,m1,←p2];omega
  · rw [e];omega
theorem xy {W D top v1 P:Nat} (hW:W<D*4294967296) (hlo:top*P≤W) (hD:D<(v1 + 1)*P):top<(v1 + 1)*4294967296:=by
  rcases Nat.lt_or_ge top ((v1 + 1)*4294967296) with h | h
  · exact h
  · have h1:(v1 + 1)*4294967296*P≤top*P:=Nat.mul_le_mul_right _ h
    have h2:D*4294967296<(v1 + 1)*P*4294967296:=Nat.mul_lt_mul_of_pos_right hD (by decide);have h3:(v1 + 1)*P*4294967296=(v1 + 1)*4294967296*P:=by ac_rfl
    omega
theorem yr {o lu:Nat→Nat} {i n G D cr bw W:Nat} (hms:bQ o i n + G*D=bQ lu i n + (cr + bw)*4294967296^n) (heq:o (i + n)=lu (i + n)) (hcr:cr<4294967296) (hu:o (i + n)<4294967296) (hbw:bw≤1)
    (hs:¬((dZ (o (i + n)) cr bw:Nat):Int)=1) (hW:W=bQ lu i (n + 1)) (hup:W<(G + 1)*D):
    bQ (ci o (i + n) (dv (o (i + n)) cr bw)) i (n + 1) + G*D=W∧bQ (ci o (i + n) (dv (o (i + n)) cr bw)) i (n + 1)<D:=by
  have hge:cr + bw≤o (i + n):=by
    unfold dZ at hs
    split at hs
    · exact absurd rfl hs
    · omega
  have hd:dv (o (i + n)) cr bw=o (i + n) - cr - bw:=by unfold dv;omega
  have h1:=vH hms heq hge;rw [hd,hW];rw [hW,Nat.add_mul] at hup;exact ⟨h1,by omega⟩
theorem vZ {o lu o2:Nat→Nat} {i n G D cr bw c2 W:Nat} (hms:bQ o i n + G*D=bQ lu i n + (cr + bw)*4294967296^n) (heq:o (i + n)=lu (i + n)) (hcr:cr<4294967296) (hu:o (i + n)<4294967296) (hbw:bw≤1)
    (hs:((dZ (o (i + n)) cr bw:Nat):Int)=1) (hW:W=bQ lu i (n + 1)) (hGD:G*D<W + D) (hDn:D<4294967296^n) (hlo:bQ o i n<4294967296^n) (hlo2:bQ o2 i n<4294967296^n)
    (hc2:c2≤1) (hab:bQ o2 i n + c2*4294967296^n=bQ o i n + D) (heq2:o2 (i + n)=dv (o (i + n)) cr bw):
    0<G∧bQ (ci o2 (i + n) ((o2 (i + n) + c2) % 4294967296)) i (n + 1) + (G - 1)*D=W∧bQ (ci o2 (i + n) ((o2 (i + n) + c2) % 4294967296)) i (n + 1)<D:=by
  have hlt:o (i + n)<cr + bw:=by
    unfold dZ at hs
    split at hs
    · rename_i h;omega
    · simp at hs
  have h1:=vG hms heq hlt (hW▸hGD) hDn hlo;have hd:dv (o (i + n)) cr bw=4294967295:=by unfold dv;omega
  have hw:W=bQ lu i n + lu (i + n)*4294967296^n:=hW;rw [h1,Nat.add_mul,heq] at hms;have hG:0<G:=by
    rcases Nat.eq_zero_or_pos G with h0 | h0
    · subst h0;simp at hms;omega
    · exact h0
  obtain ⟨q,rfl⟩:∃q,G=q + 1:=⟨G - 1,by omega⟩
  rw [Nat.add_mul,Nat.one_mul] at hms hGD;have hc:c2=1:=by
    rcases Nat.lt_or_ge c2 1 with h0 | h0
    · have:c2=0:=by omega
      subst this;omega
    · omega
  subst hc;simp only [Nat.add_sub_cancel];rw [dy,dU _ (Nat.le_refl _),aW,heq2,hd];refine ⟨hG,?_,?_⟩<;>simp<;>omega
theorem mj {x k:Nat} (hk:k<32) (hx:x<4294967296):x*4294967296/2^k % 4294967296=x % 2^k*2^(32 - k):=by
  have e:(4294967296:Nat)=2^(32 - k)*2^k:=by rw [←Nat.pow_add,Nat.sub_add_cancel (by omega)]
  have h1:x*4294967296/2^k=x*2^(32 - k):=by
    rw [e,←Nat.mul_assoc,Nat.mul_div_cancel _ (Nat.pow_pos (by decide))]
  rw [h1];have h2:(4294967296:Nat)=2^k*2^(32 - k):=by rw [←Nat.pow_add,show k + (32 - k)=32 by omega]
  rw [h2,Nat.mul_mod_mul_right]
theorem sP {x k:Nat} (hk:k<32) (hx:x<4294967296):x/2^k<2^(32 - k):=by
  refine (Nat.div_lt_iff_lt_mul (Nat.pow_pos (by decide))).2 ?_;rw [←Nat.pow_add,Nat.sub_add_cancel (by omega)];exact hx
theorem fj {x y k:Nat} (hk:k<32) (hx:x<4294967296) (hy:y<4294967296):x/2^k + y*4294967296/2^k % 4294967296<4294967296:=by
  rw [mj hk hy];have h1:=sP hk hx;have h2:y % 2^k + 1≤2^k:=Nat.mod_lt _ (Nat.pow_pos (by decide));have h3:(y % 2^k + 1)*2^(32 - k)≤2^k*2^(32 - k):=Nat.mul_le_mul_right _ h2;rw [←Nat.pow_add,show k + (32 - k)=32 by omega,Nat.add_mul] at h3;omega
theorem xZ {x y k:Nat} (hk:k<32) (hx:x<4294967296) (hy:y<4294967296):
    bits .or .u32 ((x/2^k:Nat):Int) ((y*4294967296/2^k % 4294967296:Nat):Int)=((x/2^k + y*4294967296/2^k % 4294967296:Nat):Int):=by
  have h:=fj hk hx hy;rw [mj hk hy] at h⊢;exact xf (sP hk hx) (by omega)
theorem sO {o lu:Nat→Nat} {j k:Nat} (hk:k<32) (hl:lu (j + 1)<4294967296) (h:val o j*2^k + lu 0 % 2^k=val lu j + lu j % 2^k*4294967296^j):
    val (ci o j (lu j/2^k + lu (j + 1)*4294967296/2^k % 4294967296)) (j + 1)*2^k + lu 0 % 2^k=val lu (j + 1) + lu (j + 1) % 2^k*4294967296^(j + 1):=by
  simp only [val];rw [dV _ (Nat.le_refl _),aW,mj hk hl,bY];have h1:=Nat.div_add_mod (lu j) (2^k);have e:(4294967296:Nat)=2^(32 - k)*2^k:=by rw [←Nat.pow_add,Nat.sub_add_cancel (by omega)]
  have h2:(lu j/2^k + lu (j + 1) % 2^k*2^(32 - k))*4294967296^j*2^k=lu j/2^k*2^k*4294967296^j + lu (j + 1) % 2^k*(4294967296*4294967296^j):=by
    rw [Nat.add_mul,Nat.add_mul]
    congr 1
    · ac_rfl
    · generalize 4294967296^j=z
      rw [e]
      ac_rfl
  rw [Nat.add_mul,h2];have h3:lu j*4294967296^j=lu j/2^k*2^k*4294967296^j + lu j % 2^k*4294967296^j:=by
    rw [←Nat.add_mul,Nat.mul_comm (lu j/2^k),h1]
  rw [h3];omega
theorem uP {o o2 lv:Nat→Nat} {i j n v c:Nat} (hj:j<n) (heq:∀t,i + j≤t→o2 t=(ci o (i + n) v) t) (h:bQ o2 i j + c*4294967296^j=bQ o i j + val lv j):
    bQ (ci o2 (i + j) ((o2 (i + j) + lv j + c) % 4294967296)) i (j + 1) + (o2 (i + j) + lv j + c)/4294967296*4294967296^(j + 1)=bQ o i (j + 1) + val lv (j + 1):=by
  have e:∀j',j'≤n→bQ (ci o (i + n) v) i j'=bQ o i j':=fun j' hj'=>dU _ (by omega)
  rw [←e (j + 1) hj];exact ww heq (by rw [e j (by omega)];exact h)
theorem tS (w:World):dK w (.slice none 0 0) 0:=⟨none,0,0,fun _=>0,rfl,aB.nil _ _,rfl⟩
theorem tz {w:World} {g m:Nat} (h:aY w g 101 1 (bU [.int .u32 (m:Int)])) (hm:m<4294967296):dK w (.slice (some ⟨g,0,none⟩) 1 1) m:=by
  refine ⟨_,1,1,fun _=>m,rfl,ek h (Nat.le_refl _) (Nat.le_refl _) (by decide) (fun _ _=>hm) (fun i hi=> ?_),by simp [val]⟩;have:i=0:=by omega
  subst this;rfl
theorem jE {w:World} {v:Value} {m m':Nat} (h:dK w v m) (e:m=m'):dK w v m':=e▸h
theorem lX {l:Nat→Nat} {n:Nat} (h:val l n≠0):0<n:=by
  rcases Nat.eq_zero_or_pos n with h0 | h0
  · subst h0;exact absurd rfl h
  · exact h0
theorem lY {l:Nat→Nat} {n:Nat} (h:n=1):val l n=l 0:=by subst h;simp [val]
theorem tR {X D Q U x y k r:Nat} (hX:X=x*2^k) (hD:D=y*2^k) (hs:X=Q*D + U) (hlt:U<D) (hr:r*2^k + U % 2^k=U):Q=x/y∧r=x % y:=by
  have hp:0<2^k:=Nat.pow_pos (by decide);have h1:X/D=Q:=by rw [hs,Nat.mul_comm,Nat.mul_add_div (by omega),Nat.div_eq_of_lt hlt,Nat.add_zero]
  have h2:X % D=U:=by rw [hs,Nat.mul_comm,Nat.mul_add_mod,Nat.mod_eq_of_lt hlt]
  rw [hX,hD,Nat.mul_div_mul_right _ _ hp] at h1;rw [hX,hD,Nat.mul_mod_mul_right] at h2;refine ⟨h1.symm,?_⟩;rw [←h2,Nat.mul_mod_left,Nat.add_zero] at hr;exact Nat.eq_of_mul_eq_mul_right hp hr
end Go.TL
namespace Go.TL
open Go.RowKit
def AL (P:Program) (N:Nat) (l:List Oper) (K:cl→World→Prop) (fuel:Nat) (listed:Array Bool) (e:cl) (w:World):Prop:=
  ∀a Q,IsE N a e→(∀a' e' w',IsE N a' e'→K e' w'→Q .normal a' w')→wpAny P .any l.toArray Q fuel listed a w
def Az (P:Program) (N:Nat) (l:List Oper) (K:cl→World→Prop) (fuel:Nat) (listed:Array Bool) (i:Nat) (e:cl) (w:World):Prop:=
  ∀a Q,IsE N a e→(∀a' e' w',IsE N a' e'→K e' w'→Q .normal a' w')→wpOp P l.toArray Q i (wpAny P .any l.toArray Q fuel (listed.setIfInBounds i true)) a w
def yJ (P:Program) (N:Nat) (l:List Oper) (K:cl→World→Prop) (fuel:Nat) (listed:Array Bool) (e:cl) (w:World):List Nat→Prop
  | i::is=>Az P N l K fuel listed i e w∧yJ P N l K fuel listed e w is
  | []=>True
section
variable {P:Program} {N:Nat} {l:List Oper} {K:cl→World→Prop} {fuel:Nat} {listed:Array Bool} {e:cl} {w:World} {i:Nat} {o:Oper}
theorem yJ.at_:∀{is:List Nat},yJ P N l K fuel listed e w is→∀i∈is,Az P N l K fuel listed i e w
  | [],_,_,h=>by cases h
  | _::_,h,i,hi=>by
    rcases List.mem_cons.1 hi with h1 | h1
    · subst h1;exact h.1
    · exact yJ.at_ h.2 i h1
theorem AL.nil (hr:Region.ready .any l.toArray listed= []) (h:K e w):AL P N l K 0 listed e w:=
  fun _ _ ha hk=>⟨hr,hk _ _ _ ha h⟩
theorem AL.step {is:List Nat} (hr:Region.ready .any l.toArray listed=is) (hne:is.isEmpty=false) (h:yJ P N l K fuel listed e w is):AL P N l K (fuel + 1) listed e w:=
  fun a Q ha hk=>⟨fun hnil=>(by rw [hr] at hnil;subst hnil;cases hne),fun i hi=>yJ.at_ h i (hr▸hi) a Q ha hk⟩
theorem AL.x {R:Value→World→Prop} (ho:l[i]? =some o) (hd:fK N o.dst=true) (hg:o.guard=none) (h:cQ P o e w R)
    (k:∀v w',R v w'→AL P N l K fuel (listed.setIfInBounds i true) (et e o.dst v) w'):Az P N l K fuel listed i e w:=by
  intro a Q ha hk;have ho':l.toArray[i]? =some o:=by simpa using ho
  unfold wpOp
  rw [ho'];simp only;rw [if_pos (by simp [Region.wanted,hg])];exact .inl (h a ha.eval _ _ fun v w' hv=>k v w' hv _ Q (ha.put hd v) hk)
theorem AL.p {v:Value} (ho:l[i]? =some o) (hd:fK N o.dst=true) (hg:o.guard=none) (h:cj P o e w v) (k:AL P N l K fuel (listed.setIfInBounds i true) (et e o.dst v) w):Az P N l K fuel listed i e w:=
  AL.x ho hd hg h.opX fun _ _ ⟨h1,h2⟩=>h1▸h2▸k
end
theorem wx {P:Program} {N:Nat} {Q:da} {e:cl} {w:World} {id:Nat} {l:List Oper} (hm:P.follows .mixedOrders=true)
    (h:∀w',aA w w'→AL P N l (fun e w=>Q .normal e w) l.length (Array.replicate l.length false) e w'):WP P N (.region id l.toArray true) Q e w:=by
  intro a ha;refine wp_region_any hm ?_;simp only [List.size_toArray];have h1:=h {w with drawn:=w.drawn + 1} ⟨rfl,rfl,rfl,Nat.le_refl _,fun _ _=>rfl⟩;refine h1 a _ ha ?_;intro _ e'' _ h1 h2;exact ⟨e'',h1,h2⟩
theorem pk {P:Program} {N:Nat} {Q:da} {e:cl} {w:World} {id:Nat} {l:List Oper} {y:Code} (hm:P.follows .mixedOrders=true)
    (h:∀w',aA w w'→AL P N l (fun e w=>WP P N y Q e w) l.length (Array.replicate l.length false) e w'):WP P N (.seq (.region id l.toArray true) y) Q e w:=
  WP.seq (wx hm h)
end Go.TL
namespace Go.TL
set_option linter.unusedVariables false
theorem gE (m:Nat):aD False m=(m:Int):=by simp [aD]
def ni (x y:Int):Int:=if x<0∧0<x.natAbs % y.natAbs then ((x.natAbs/y.natAbs:Nat):Int) + 1 else ((x.natAbs/y.natAbs:Nat):Int)
theorem wg (x:Int) {y:Nat} (hy:0<y):
    x/(y:Int)=(if x<0 then -(ni x y) else ni x y)∧x % (y:Int)=(if x<0∧0<x.natAbs % y then ((y - x.natAbs % y:Nat):Int) else ((x.natAbs % y:Nat):Int)):=by
  have h1:=Nat.div_add_mod x.natAbs y;have h2:=Nat.mod_lt x.natAbs hy
  unfold ni
  simp only [Int.natAbs_natCast]
  generalize x.natAbs/y=q at h1⊢
  generalize x.natAbs % y=r at h1 h2⊢
  have h3:(y:Int)*(q:Int) + r=x.natAbs:=by exact_mod_cast h1
  by_cases hx:x<0
  · by_cases hr:0<r
    · rw [if_pos hx,if_pos ⟨hx,hr⟩,if_pos ⟨hx,hr⟩]
      refine (Int.ediv_emod_unique (by omega)).2 ⟨?_,by omega,by omega⟩;rw [Int.mul_neg,Int.mul_add];omega
    · rw [if_pos hx,if_neg (fun h=>hr h.2),if_neg (fun h=>hr h.2)]
      refine (Int.ediv_emod_unique (by omega)).2 ⟨?_,by omega,by omega⟩;rw [Int.mul_neg];omega
  · rw [if_neg hx,if_neg (fun h=>hx h.1),if_neg (fun h=>hx h.1)]
    refine (Int.ediv_emod_unique (by omega)).2 ⟨by omega,by omega,by omega⟩
theorem we (x y:Int):ni x (y.natAbs:Int)=ni x y:=by simp [ni]
theorem kE (x:Int) {y:Int} (hy:y≠0):
    x/y=(if x<0↔y<0 then ni x y else -(ni x y))∧x % y=(if x<0∧0<x.natAbs % y.natAbs then ((y.natAbs - x.natAbs % y.natAbs:Nat):Int) else ((x.natAbs % y.natAbs:Nat):Int)):=by
  obtain ⟨h1,h2⟩:=wg x (y:=y.natAbs) (by omega);rw [we] at h1
  by_cases hn:y<0
  · have e:y= -(y.natAbs:Int):=by omega
    have h3:x/y= -(x/(y.natAbs:Int)):=by rw [←Int.ediv_neg,←e]
    have h4:x % y=x % (y.natAbs:Int):=by rw [←Int.emod_neg x (y.natAbs:Int),←e]
    rw [h3,h4,h1,h2];refine ⟨?_,rfl⟩
    by_cases hx:x<0<;>simp [hx,hn]
  · have e:y=(y.natAbs:Int):=by omega
    have h3:x/y=x/(y.natAbs:Int):=by rw [←e]
    have h4:x % y=x % (y.natAbs:Int):=by rw [←e]
    rw [h3,h4,h1,h2];refine ⟨?_,rfl⟩
    by_cases hx:x<0<;>simp [hx,hn]
theorem um {x y:Int} {b:Nat} (hy:y≠0) (hb:x.natAbs<2^b):(ni x y).natAbs<2^b:=by
  have h1:=Nat.div_add_mod x.natAbs y.natAbs;have hp:0<y.natAbs:=by omega
  have h2:=Nat.mod_lt x.natAbs hp;have h3:x.natAbs/y.natAbs≤y.natAbs*(x.natAbs/y.natAbs):=Nat.le_mul_of_pos_left _ hp
  unfold ni
  generalize x.natAbs/y.natAbs=q at h1 h3⊢
  generalize y.natAbs*q=p at h1 h3
  split
  · rename_i h
    omega
  · omega
theorem qs {x y:Int} {b:Nat} (hy:y≠0) (hb:x.natAbs<2^b):(x/y).natAbs<2^b:=by
  have h:=um hy hb;rw [(kE x hy).1]
  split<;>omega
theorem qr {x y:Int} {b:Nat} (hy:y≠0) (hb:y.natAbs<2^b):(x % y).natAbs<2^b:=by
  have h1:=Int.emod_nonneg x hy;have h2:=Int.emod_lt x hy;omega
theorem wj {x y b:Nat} (h:x<2^b):x/y<2^b:=Nat.lt_of_le_of_lt (Nat.div_le_self x y) h
theorem vI {x y b:Nat} (hy:y≠0) (h:y<2^b):x % y<2^b:=Nat.lt_trans (Nat.mod_lt _ (by omega)) h
theorem qj {l:Nat→Nat} {n m:Nat} (hv:val l n=m) (ht:0<n→l (n - 1)≠0):0<n↔0<m:=by
  constructor
  · intro h
    have:=fX h (ht h);have:=kg (n - 1);omega
  · intro h
    exact lX (l:=l) (by omega)
theorem yy {z:Int} {b:Nat} (h:z.natAbs<2^b) (hz:z<0):1≤b:=by
  rcases Nat.eq_zero_or_pos b with h0 | h0
  · rw [h0] at h;simp at h;omega
  · exact h0
theorem zK (m:Nat) {y:Int} (hy:y≠0):(aD False (m % y.natAbs)).natAbs≤y.natAbs:=by
  rw [gE,Int.natAbs_natCast];exact Nat.le_of_lt (Nat.mod_lt _ (by omega))
theorem vQ {l:Nat→Nat} {n m:Nat} (hv:val l n=(aD False m).natAbs) (ht:0<n→l (n - 1)≠0):(0:Int)<((n:Nat):Int)↔0<m:=by
  have h:=qj hv ht;rw [gE,Int.natAbs_natCast] at h;omega
theorem xW {y b:Nat} (m:Nat) (h:y<2^b):y - m<2^b:=Nat.lt_of_le_of_lt (Nat.sub_le _ _) h
theorem uO {y:Int} (h:y≠0):y.natAbs≠0:=by omega
theorem ak.eq {w:World} {v:Value} {z z':Int} {b b':Nat} (h:ak w v z b) (e:z=z') (hb:z'.natAbs<2^b') (hl:b'≤bj):ak w v z' b':=(e▸h).more hb hl
end Go.TL
namespace Go.TL
open Go.RowKit
def eV (w:World) (g n cap:Nat) (o:Nat→Nat):Prop:=
  n≤cap∧cap<9223372036854775808∧∃f,aY w g 101 cap f∧∀i,i<n→f i= .int .u32 (o i:Int)∧o i<4294967296
section
variable {w w':World} {g n cap:Nat} {o:Nat→Nat}
theorem eV.ext (h:eV w g n cap o) (hx:aA w w'):eV w' g n cap o:=by
  obtain ⟨h1,h2,f,h3,h4⟩:=h;exact ⟨h1,h2,f,h3.ext hx,h4⟩
theorem eV.lt (h:eV w g n cap o):g<w.heap.size:=by obtain ⟨_,_,f,h3,_⟩:=h;exact h3.lt
theorem eV.le (h:eV w g n cap o):n≤cap:=h.1
theorem eV.lim (h:eV w g n cap o):cap<9223372036854775808:=h.2.1
theorem eV.limbs (h:eV w g n cap o):aB w (some ⟨g,0,none⟩) n cap o:=by
  obtain ⟨h1,h2,f,h3,h4⟩:=h;exact ⟨h1,h2,fun i hi=>(h4 i hi).2,fun _=>⟨g,cap,f,rfl,h1,h3,fun i hi=>(h4 i hi).1⟩⟩
theorem eV.ne {g' m:Nat} {T:TypeId} {f:Nat→Value} (h:eV w g n cap o) (ha:aY w g' T m f) (ht:T≠101):g'≠g:=by
  obtain ⟨_,_,f',h3,_⟩:=h;exact ha.ne h3 ht
theorem eV.keep {g' m:Nat} {T:TypeId} {f:Nat→Value} (h:eV w g n cap o) (hk:Keeps (fun b=>b=g') w w') (ha:aY w g' T m f) (ht:T≠101):eV w' g n cap o:=by
  have hne:=h.ne ha ht;obtain ⟨h1,h2,f',h3,h4⟩:=h;exact ⟨h1,h2,f',h3.keep hk (Ne.symm hne),h4⟩
theorem eV.born (h:aY w g 101 0 (bU [])) (o:Nat→Nat):eV w g 0 0 o:=⟨Nat.le_refl _,by decide,_,h,fun i hi=>by omega⟩
theorem eV.congr {o':Nat→Nat} (h:eV w g n cap o) (he:∀i,i<n→o i=o' i):eV w g n cap o':=by
  obtain ⟨h1,h2,f,h3,h4⟩:=h;exact ⟨h1,h2,f,h3,fun i hi=>by rw [←he i hi];exact h4 i hi⟩
theorem cz.own {g n:Nat} {l:Nat→Nat} (h:cz w g n l) (hn:n<9223372036854775808):eV w g n n l:=⟨Nat.le_refl _,hn,_,h.2,fun i hi=>⟨rfl,h.1 i hi⟩⟩
end
section
variable {P:Program} {e:cl} {w:World} {d:Option Tmp} {ty:TypeId} {pos:String} {after:Array Edge} {gd:Option (Nat×Bool)}
theorem cQ.push {t b g n cap g1 c1 B v:Nat} {x y:Operand} {o:Nat→Nat} (ht:sliceB P t 101 1 b=true) (hb4:b≤4) (hz:(P.info? 101).bind (·.zero)=some (.int .u32 0))
    (hx:ev e x= .slice (some ⟨g,0,none⟩) n cap) (hy:ev e y= .slice (some ⟨g1,0,none⟩) 1 c1) (hA:eV w g n cap o) (hT:aY w g1 101 1 (bU [.int .u32 (v:Int)])) (hv:v<4294967296)
    (hB:B≤g) (hn:n<35184372088832):
    cQ P ⟨d,.call {callee:= .builtin .append,args:= #[x,y],argTypes:= #[t,t]},ty,pos,after,gd⟩ e w
      (fun v' w'=>Keeps (fun b=>b=g) w w'∧∃g' cap',v'= .slice (some ⟨g',0,none⟩) (n + 1) cap'∧B≤g'∧eV w' g' (n + 1) cap' (ci o n v)):=by
  obtain ⟨h1,h2,f,h3,h4⟩:=hA;obtain ⟨hu,i0,hi0,hm,hbb⟩:=bJ ht;have hz':i0.zero=some (.int .u32 0):=by rw [hi0] at hz;simpa using hz
  have hc1:∀(j:Nat) (u:Value), [Value.int .u32 (v:Int)][j]? =some u→w.cell? ((⟨g1,0,none⟩:Addr).add j)=some u:=by
    intro j u hj;obtain ⟨h5,h6⟩:=List.getElem?_eq_some_iff.1 hj;simp at h5;subst h5;simp at h6;subst h6;rw [Addr.add_lit];exact hT.cell (i:=0) (by decide)
  have hone:∀u∈ [Value.int .u32 (v:Int)],u.oneCell'=true:=by simp [Value.oneCell']
  by_cases hr:n + 1≤cap
  · obtain ⟨w',hs,hk,ha⟩:=cJ P (off:=n) [Value.int .u32 (v:Int)] 0 w f h3 (by simpa using hr) hone
    have hcell:∀j,j< [Value.int .u32 (v:Int)].length→(w.cell? ⟨g,0 + n*i0.size + j,none⟩).isSome=true:=by
      intro j hj;simp at hj;subst hj;rw [hm,h3.cell (i:=0 + n*1 + 0) (by omega)]
      rfl
    have hfr:∀j,j< [Value.int .u32 (v:Int)].length→w.frozen? ⟨g,0 + n*i0.size + j,none⟩=false:=fun j _=>h3.frozen _
    have hrun:=run_append_room_cells (P:=P) w t ty 101 i0 hu hi0 g 0 n cap ⟨g1,0,none⟩ 1 c1 [Value.int .u32 (v:Int)] (by simp [hm]) hc1 hone hr hcell hfr;have hst:=run_storeCells_cells (P:=P) g (0 + n*i0.size) [Value.int .u32 (v:Int)] 0 w (by simpa using hcell) (by simpa using hfr) hone;have hw:w.setCells g (0 + n*i0.size) [Value.int .u32 (v:Int)]=w':=by
      have e1:(0 + n*i0.size:Nat)=n:=by rw [hm];omega
      rw [e1] at hst⊢;rw [hs] at hst;simp only [Nat.add_zero] at hst
      injection hst with _ h
      exact h.symm
    rw [hw] at hrun;refine cD (w':=w') (v:= .slice (some ⟨g,0,none⟩) (n + 1) cap) (by simp [execOp,resolve,invoke,builtin,hx,hy,hrun,Result.andThen]) ?_;refine ⟨hk,g,cap,rfl,hB,⟨hr,h2,_,ha,fun i hi=> ?_⟩⟩;simp only [dM,Nat.add_zero]
    by_cases e:i=n
    · subst e
      rw [bO,aW];exact ⟨rfl,hv⟩
    · rw [co _ _ _ _ e,aT _ _ _ _ e]
      exact h4 i (by omega)
  · obtain ⟨v',w',hrun,r1,r2⟩:=run_append_arg_grows (P:=P) w t ty 101 i0 (.int .u32 0) 1 b hu hi0 hz' hm hbb rfl (by decide) ⟨g,0,none⟩ n cap ((List.range n).map fun i=>Value.int .u32 (o i:Int)) (by simp)
      (fun j u hj=>by
        obtain ⟨h5,h6⟩:=List.getElem?_eq_some_iff.1 hj;simp at h5 h6;rw [Addr.add_lit,Nat.zero_add,h3.cell (i:=j) (by omega),(h4 j h5).1,h6]) ⟨g1,0,none⟩ 1 c1 [Value.int .u32 (v:Int)] (by simp) hc1 (by omega) (by simp only [maxLen];omega) (by have:=Nat.mul_le_mul_left (n + 1) hb4;omega)
    refine cD (w':=w') (v:=v') (by simp [execOp,resolve,invoke,builtin,hx,hy,hrun,Result.andThen]) ?_;rcases r1.2 with ⟨_,h0⟩ | ⟨g',cap',cur,hv',hg,hh,h5,h6,h7,h8⟩
    · omega
    · have hle:=h3.lt
      refine ⟨⟨r2.os,r2.tape,r2.output,r2.size,fun k hk _=>r2.block k hk (by simp)⟩,g',cap',hv',by omega,⟨h5,by simp only [maxLen] at h6;omega,fun i=>cur.getD i undef,⟨cur,hh,by omega,fun i hi=>by simp [h7,hi]⟩,fun i hi=> ?_⟩⟩;have h9:(cur.toList.take ((n + 1)*1))[i]? =((List.range n).map (fun i=>Value.int .u32 (o i:Int)) ++ [Value.int .u32 (v:Int)])[i]? :=by rw [h8]
      rw [List.getElem?_take,if_pos (by omega)] at h9
      by_cases e:i=n
      · subst e
        rw [aW];rw [List.getElem?_append_right (by simp)] at h9;simp at h9;simp [h9,hv]
      · rw [aT _ _ _ _ e]
        rw [List.getElem?_append_left (by simp;omega)] at h9;simp [show i<n by omega] at h9;simp [h9];exact (h4 i (by omega)).2
end
end Go.TL
namespace Go.TL
open Go.RowKit
set_option linter.unusedVariables false
def gQ (w:World) (v:Value):Prop:=∃g,v= .slice (some ⟨g,0,none⟩) 0 0
theorem gQ.ext {w w':World} {v:Value} (h:gQ w v) (hx:aA w w'):gQ w' v:=h
theorem nR:bq (fun v w=>gQ w v):=fun _ _ _ h _=>h
instance:Nonempty (bq (fun v w=>gQ w v)):=⟨nR⟩
theorem dD.one {w:World} {v:Value} {m:Nat} (h:dD w v m):v.oneCell'=true:=by obtain ⟨A,n,c,l,rfl,_⟩:=h;rfl
section
variable {P:Program} {e:cl} {w:World} {d:Option Tmp} {ty:TypeId} {pos:String} {after:Array Edge} {gd:Option (Nat×Bool)}
theorem po {t el m b:Nat} (ht:sliceB P t el m b=true):cQ P ⟨d,.buildSlice t 0 #[],ty,pos,after,gd⟩ e w (fun v w'=>aA w w'∧gQ w' v):=
  (cL ht).mono fun v w' ⟨g,h1,_,h3,_⟩=>⟨h3,g,h1⟩
theorem pp {n c m:Nat} {t b:Nat} {x y:Operand} {A:Option Addr} {l:Nat→Nat} (ht:sliceB P t 101 1 b=true) (hb4:b≤4) (hz:(P.info? 101).bind (·.zero)=some (.int .u32 0))
    (hx:gQ w (ev e x)) (hy:ev e y= .slice A n c) (hL:aB w A n c l) (hn:n≤35184372088832) (htop:0<n→l (n - 1)≠0) (hm:val l n=m):
    cQ P ⟨d,.call {callee:= .builtin .append,args:= #[x,y],argTypes:= #[t,t]},ty,pos,after,gd⟩ e w (fun v w'=>aA w w'∧dD w' v m):=by
  obtain ⟨g,hg⟩:=hx;subst hm;exact kM ht hb4 hz hg hy hL hn htop
end
theorem rK {w:World} {v:Value} {m k b:Nat} {p:Prop} [Decidable p] (h:dD w v m) (hk:0<k↔0<m) (hb:m<2^b) (hlim:b≤bj):
    ak w (.agg #[.bool (decide (p∧(0:Int)<(k:Int))),v]) (aD p m) b:=by
  obtain ⟨A,n,c,l,rfl,hL,hv,ht⟩:=h;refine ak.mk hL (by rw [ia,hv]) ht ?_ (by rw [ia];exact hb) hlim
  by_cases hp:p
  · simp [aD,hp];omega
  · simp [aD,hp]
theorem yl {a b c d:Int} (h:bV a b=bV c d):(a<b)=(c<d):=by
  apply propext
  unfold bV at h
  constructor<;>intro h1
  · rw [if_pos h1] at h
    split at h
    · assumption
    · split at h<;>simp at h
  · rw [if_pos h1] at h
    split at h
    · assumption
    · split at h<;>simp at h
theorem qd {a b:Nat} {c d:Int} (h:bV (a:Int) (b:Int)=bV c d):Value.bool (decide (c<d))=Value.bool (decide (a<b)):=by
  have h1:=yl h
  congr 1
  rw [decide_eq_decide]
  constructor
  · intro h2;rw [←h1] at h2;omega
  · intro h2;rw [←h1];omega
theorem vm {o la lb:Nat→Nat} {i n m c:Nat} (hn:n≤i) (hm:m≤i) (hc:c=0) (h:val o i + c*4294967296^i=val (lz n la) i + val (lz m lb) i):val o i=val la n + val lb m:=by
  rw [kA la hn,kA lb hm,hc] at h;omega
theorem sU {x y:Int}:Value.bool (decide ((((x<0)↔(y<0))∧(¬(x.natAbs<y.natAbs)))∧(¬(y.natAbs<x.natAbs))))= .bool (decide (x=y)):=by
  congr 1
  rw [decide_eq_decide];omega
end Go.TL
namespace Go.TL
open Go.RowKit
set_option linter.unusedVariables false
theorem tc {o o1 lx ly:Nat→Nat} {i k ny c:Nat} (hk:k=ny∨k=ny + 1) (hc:c=0) (hz:∀t,i + ny≤t→o t=0) (heq:∀t,i + k≤t→o1 t=o t) (hs:val o (i + ny)=val lx i*val ly ny)
    (hs1:val o1 (i + k) + c*4294967296^(i + k)=val o (i + k) + lx i*val (lz ny ly) k*4294967296^i):val o1 (i + 1 + ny)=val lx (i + 1)*val ly ny:=by
  subst hc;rw [Nat.zero_mul,Nat.add_zero] at hs1;have h1:val o1 (i + 1 + ny)=val o1 (i + k):=by
    rcases hk with rfl | rfl
    · rw [show i + 1 + k=i + k + 1 by omega]
      simp only [val];rw [heq _ (Nat.le_refl _),hz _ (Nat.le_refl _),Nat.zero_mul,Nat.add_zero]
    · congr 1;omega
  have h2:val o (i + k)=val o (i + ny):=by
    rcases hk with rfl | rfl
    · rfl
    · rw [show i + (ny + 1)=i + ny + 1 by omega]
      simp only [val];rw [hz _ (Nat.le_refl _),Nat.zero_mul,Nat.add_zero]
  have h3:val (lz ny ly) k=val ly ny:=kA ly (by omega);rw [h1,hs1,h2,hs,h3];simp only [val];rw [Nat.add_mul,Nat.mul_right_comm]
theorem sN (a b:Int):(a - b).sign=bV a b:=by
  unfold bV
  rcases Int.lt_trichotomy a b with h | h | h
  · rw [if_pos h,Int.sign_eq_neg_one_of_neg (by omega)]
  · subst h;simp
  · rw [if_neg (by omega),if_pos h,Int.sign_eq_one_of_pos (by omega)]
theorem ml {x y c o:Nat} (hx:x<4294967296) (hy:y<4294967296) (hc:c<4294967296) (ho:o<4294967296):c + (x*y + o)<18446744073709551616:=by
  have:x*y≤4294967295*4294967295:=Nat.mul_le_mul (by omega) (by omega);omega
end Go.TL
namespace Go.TL
open Go.RowKit
set_option linter.unusedVariables false
theorem nm (f:Nat→Value) (v:Nat→Value):∀(m o i:Nat),dM f o ((List.range m).map v) i=if o≤i∧i<o + m then v (i - o) else f i:=by
  intro m
  induction m generalizing f v with
  | zero=>intro o i;rw [if_neg (by omega)];rfl
  | succ m ih=>
    intro o i;rw [List.range_succ_eq_map,List.map_cons,List.map_map];simp only [dM];have:=ih (wK f o (v 0)) (fun j=>v (j + 1)) (o + 1) i;have e:(v∘Nat.succ)=(fun j=>v (j + 1)):=rfl;rw [e,this]
    by_cases h1:o + 1≤i∧i<o + 1 + m
    · rw [if_pos h1,if_pos (by omega)];congr 1;omega
    · rw [if_neg h1]
      by_cases h2:i=o
      · subst h2;rw [bO,if_pos (by omega),Nat.sub_self]
      · rw [co _ _ _ _ h2,if_neg (by omega)]
def pv (w:World) (v:Value) (B T:Nat) (l:List Value):Prop:=∃g,v= .pointer (some ⟨g,0,none⟩)∧B≤g∧aY w g T l.length (bU l)
theorem pv.ext {w w':World} {v:Value} {B T:Nat} {l:List Value} (h:pv w v B T l) (hx:aA w w'):pv w' v B T l:=by
  obtain ⟨g,h1,h2,h3⟩:=h;exact ⟨g,h1,h2,h3.ext hx⟩
theorem rt (B T:Nat) (l:List Value):bq (fun v w=>pv w v B T l):=fun _ _ _ h hx=>h.ext hx
instance (B T:Nat) (l:List Value):Nonempty (bq (fun v w=>pv w v B T l)):=⟨rt B T l⟩
theorem pr {P:Program} {e:cl} {w:World} {d:Option Tmp} {ty:TypeId} {pos:String} {after:Array Edge} {gd:Option (Nat×Bool)} {T B:TypeId} {z:Value} (l:List Value) (hz:(P.info? T).bind (·.zero)=some z) (hl:z.cells=l.toArray) (hB:B≤w.heap.size):
    cQ P ⟨d,.alloc T,ty,pos,after,gd⟩ e w (fun v w'=>aA w w'∧pv w' v B T l∧w.heap.size≤dQ v):=
  (cQ.alloc l hz hl).mono fun v w' ⟨g,h1,h2,h3,h4⟩=>by
    subst h1;exact ⟨h3,⟨g,rfl,Nat.le_trans hB h2,h4⟩,h2⟩
theorem ms {e:cl}:(#[]:Array (Nat×Operand)).toList.map (fun p:Nat×Operand=>(p.1,ev e p.2))= []:=rfl
end Go.TL
namespace Go.TL
open Go.RowKit
set_option linter.unusedVariables false
def cw (w:World) (g n:Nat) (z:Nat→Int) (b:Nat):Prop:=∃m f,(2*n≤m∧b≤bj)∧aY w g 49 m f∧∀j,j<n→ak w (.agg #[f (2*j),f (2*j + 1)]) (z j) b
def bi (w:World) (v:Value) (n:Nat) (z:Nat→Int) (b:Nat):Prop:=∃A k,v= .slice A n k∧n≤k∧(k<9223372036854775808∧n≤65536∧b≤bj)∧(0<n→∃g,A=some ⟨g,0,none⟩∧cw w g n z b)
def ce (w:World) (v:Value) (n c:Nat) (M:Nat→Nat→Int) (b:Nat):Prop:=
  ∃A k,v= .slice A n k∧n≤k∧(k<9223372036854775808∧n≤65536∧b≤bj)∧(0<n→∃h o m f,A=some ⟨h,o,none⟩∧o + n≤m∧aY w h 41 m f∧∀i,i<n→bi w (f (o + i)) c (M i) b)
def bX (w:World) (v:Value) (r c:Nat) (M:Nat→Nat→Int) (b:Nat):Prop:=∃s,v= .agg #[.int .i64 (r:Nat),.int .i64 (c:Nat),s]∧r≤65536∧c≤65536∧ce w s r c M b
def mS (w:World) (v:Value) (n:Nat) (z:Nat→Int) (b:Nat):Prop:=∃h o u,v= .pointer (some ⟨h,o,none⟩)∧w.cell? ⟨h,o,none⟩=some u∧bi w u n z b
def nc (w:World) (v:Value) (z:Int) (b:Nat):Prop:=∃g o x y,v= .pointer (some ⟨g,o,none⟩)∧w.cell? ⟨g,o,none⟩=some x∧w.cell? ⟨g,o + 1,none⟩=some y∧ak w (.agg #[x,y]) z b
def wE (w:World) (v:Value) (r c:Nat) (M:Nat→Nat→Int) (b:Nat):Prop:=
  ∃g s,v= .pointer (some ⟨g,0,none⟩)∧aY w g 28 3 (bU [.int .i64 (r:Nat),.int .i64 (c:Nat),s])∧r≤65536∧c≤65536∧ce w s r c M b
theorem aA.cell {w w':World} {g o:Nat} {v:Value} (h:w.cell? ⟨g,o,none⟩=some v) (hx:aA w w'):w'.cell? ⟨g,o,none⟩=some v:=by
  by_cases hg:g<w.heap.size
  · unfold World.cell? at h⊢
    simp only at h⊢;rw [hx.block g hg];exact h
  · have:w.heap[g]? =none:=Array.getElem?_eq_none (by omega)
    simp [World.cell?,this] at h
section
variable {w w':World} {v:Value} {g n r c b:Nat} {z:Nat→Int} {M:Nat→Nat→Int}
theorem cw.lt (h:cw w g n z b):g<w.heap.size:=by obtain ⟨m,f,_,ha,_⟩:=h;exact ha.lt
theorem cw.keep {S:Nat→Prop} (h:cw w g n z b) (hk:Keeps S w w') (hg:¬S g) (hs:∀k m f,S k→¬aY w k 101 m f):cw w' g n z b:=by
  obtain ⟨m,f,hm,ha,hf⟩:=h;exact ⟨m,f,hm,ha.keep hk hg,fun j hj=>(hf j hj).keep hk hs⟩
theorem cw.ext (h:cw w g n z b) (hx:aA w w'):cw w' g n z b:=h.keep (hx.keeps (fun _=>False)) id fun _ _ _ hf=>hf.elim
theorem cw.congr {z':Nat→Int} (h:cw w g n z b) (he:∀j,j<n→z j=z' j):cw w g n z' b:=by
  obtain ⟨m,f,hm,ha,hf⟩:=h;exact ⟨m,f,hm,ha,fun j hj=>he j hj▸hf j hj⟩
theorem bi.keep {S:Nat→Prop} (h:bi w v n z b) (hk:Keeps S w w') (hs:∀k m f,S k→¬aY w k 101 m f∧¬aY w k 49 m f):bi w' v n z b:=by
  obtain ⟨A,k,h1,h2,h3,h4⟩:=h;refine ⟨A,k,h1,h2,h3,fun hn=> ?_⟩;obtain ⟨g,hA,hB⟩:=h4 hn;exact ⟨g,hA,hB.keep hk (fun hS=>by obtain ⟨m,f,_,ha,_⟩:=hB;exact (hs _ m f hS).2 ha) fun k m f hS=>(hs k m f hS).1⟩
theorem bi.ext (h:bi w v n z b) (hx:aA w w'):bi w' v n z b:=h.keep (hx.keeps (fun _=>False)) fun _ _ _ hf=>hf.elim
theorem bi.congr {z':Nat→Int} (h:bi w v n z b) (he:∀j,j<n→z j=z' j):bi w v n z' b:=by
  obtain ⟨A,k,h1,h2,h3,h4⟩:=h;exact ⟨A,k,h1,h2,h3,fun hn=>by obtain ⟨g,hA,hB⟩:=h4 hn;exact ⟨g,hA,hB.congr he⟩⟩
theorem bi.lim (h:bi w v n z b):n≤65536∧b≤bj:=by obtain ⟨A,k,h1,h2,h3,h4⟩:=h;exact h3.2
theorem ce.keep {S:Nat→Prop} (h:ce w v n c M b) (hk:Keeps S w w') (hs:∀k m f,S k→¬aY w k 101 m f∧¬aY w k 49 m f∧¬aY w k 41 m f):ce w' v n c M b:=by
  obtain ⟨A,k,h1,h2,h3,h4⟩:=h;refine ⟨A,k,h1,h2,h3,fun hn=> ?_⟩;obtain ⟨h,o,m,f,hA,hm,ha,hf⟩:=h4 hn;exact ⟨h,o,m,f,hA,hm,ha.keep hk (fun hS=>(hs _ m f hS).2.2 ha),fun i hi=>(hf i hi).keep hk fun k m f hS=>⟨(hs k m f hS).1,(hs k m f hS).2.1⟩⟩
theorem ce.ext (h:ce w v n c M b) (hx:aA w w'):ce w' v n c M b:=h.keep (hx.keeps (fun _=>False)) fun _ _ _ hf=>hf.elim
theorem ce.lim (h:ce w v n c M b):n≤65536∧b≤bj:=by obtain ⟨A,k,h1,h2,h3,h4⟩:=h;exact h3.2
theorem ce.congr {M':Nat→Nat→Int} (h:ce w v n c M b) (he:∀i j,i<n→j<c→M i j=M' i j):ce w v n c M' b:=by
  obtain ⟨A,k,h1,h2,h3,h4⟩:=h;refine ⟨A,k,h1,h2,h3,fun hn=> ?_⟩;obtain ⟨h,o,m,f,hA,hm,ha,hf⟩:=h4 hn;exact ⟨h,o,m,f,hA,hm,ha,fun i hi=>(hf i hi).congr fun j hj=>he i j hi hj⟩
theorem bX.keep {S:Nat→Prop} (h:bX w v r c M b) (hk:Keeps S w w') (hs:∀k m f,S k→¬aY w k 101 m f∧¬aY w k 49 m f∧¬aY w k 41 m f):bX w' v r c M b:=by
  obtain ⟨s,h1,h2,h3,h4⟩:=h;exact ⟨s,h1,h2,h3,h4.keep hk hs⟩
theorem bX.ext (h:bX w v r c M b) (hx:aA w w'):bX w' v r c M b:=by
  obtain ⟨s,h1,h2,h3,h4⟩:=h;exact ⟨s,h1,h2,h3,h4.ext hx⟩
theorem bX.congr {M':Nat→Nat→Int} (h:bX w v r c M b) (he:∀i j,i<r→j<c→M i j=M' i j):bX w v r c M' b:=by
  obtain ⟨s,h1,h2,h3,h4⟩:=h;exact ⟨s,h1,h2,h3,h4.congr he⟩
theorem mS.ext (h:mS w v n z b) (hx:aA w w'):mS w' v n z b:=by
  obtain ⟨h,o,u,h1,h2,h3⟩:=h;exact ⟨h,o,u,h1,hx.cell h2,h3.ext hx⟩
theorem nc.ext {y:Int} (h:nc w v y b) (hx:aA w w'):nc w' v y b:=by
  obtain ⟨g,o,p,q,h1,h2,h3,h4⟩:=h;exact ⟨g,o,p,q,h1,hx.cell h2,hx.cell h3,h4.ext hx⟩
theorem wE.ext (h:wE w v r c M b) (hx:aA w w'):wE w' v r c M b:=by
  obtain ⟨g,s,h1,h2,h3,h4,h5⟩:=h;exact ⟨g,s,h1,h2.ext hx,h3,h4,h5.ext hx⟩
theorem iL (n:Nat) (z:Nat→Int) (b:Nat):bq (fun v w=>bi w v n z b):=fun _ _ _ h hx=>h.ext hx
instance (n:Nat) (z:Nat→Int) (b:Nat):Nonempty (bq (fun v w=>bi w v n z b)):=⟨iL n z b⟩
theorem rE (n c:Nat) (M:Nat→Nat→Int) (b:Nat):bq (fun v w=>ce w v n c M b):=fun _ _ _ h hx=>h.ext hx
instance (n c:Nat) (M:Nat→Nat→Int) (b:Nat):Nonempty (bq (fun v w=>ce w v n c M b)):=⟨rE n c M b⟩
theorem rA (n c:Nat) (M:Nat→Nat→Int) (b:Nat):bq (fun v w=>bX w v n c M b):=fun _ _ _ h hx=>h.ext hx
instance (n c:Nat) (M:Nat→Nat→Int) (b:Nat):Nonempty (bq (fun v w=>bX w v n c M b)):=⟨rA n c M b⟩
theorem iM (n:Nat) (z:Nat→Int) (b:Nat):bq (fun v w=>mS w v n z b):=fun _ _ _ h hx=>h.ext hx
instance (n:Nat) (z:Nat→Int) (b:Nat):Nonempty (bq (fun v w=>mS w v n z b)):=⟨iM n z b⟩
theorem iN (z:Int) (b:Nat):bq (fun v w=>nc w v z b):=fun _ _ _ h hx=>h.ext hx
instance (z:Int) (b:Nat):Nonempty (bq (fun v w=>nc w v z b)):=⟨iN z b⟩
theorem rB (n c:Nat) (M:Nat→Nat→Int) (b:Nat):bq (fun v w=>wE w v n c M b):=fun _ _ _ h hx=>h.ext hx
instance (n c:Nat) (M:Nat→Nat→Int) (b:Nat):Nonempty (bq (fun v w=>wE w v n c M b)):=⟨rB n c M b⟩
theorem bX.form (h:bX w v r c M b):∃s,v= .agg #[.int .i64 (r:Nat),.int .i64 (c:Nat),s]∧(r≤65536∧b≤bj)∧c≤65536∧ce w s r c M b:=by
  obtain ⟨s,h1,h2,h3,h4⟩:=h;exact ⟨s,h1,⟨h2,h4.lim.2⟩,h3,h4⟩
theorem bX.mk {s:Value} (h:ce w s r c M b) (hr:r≤65536) (hc:c≤65536):bX w (.agg #[.int .i64 (r:Nat),.int .i64 (c:Nat),s]) r c M b:=⟨s,rfl,hr,hc,h⟩
theorem ce.one (h:ce w v n c M b):v.oneCell'=true:=by obtain ⟨A,k,h1,_⟩:=h;subst h1;rfl
theorem bi.one (h:bi w v n z b):v.oneCell'=true:=by obtain ⟨A,k,h1,_⟩:=h;subst h1;rfl
theorem ga {T m:Nat} {f:Nat→Value} (h:bi w v n z b) (hk:Keeps (fun b=>b=g) w w') (hA:aY w g T m f) (ht:T≠101∧T≠49):bi w' v n z b:=
  h.keep hk fun k _ _ e=>by subst e;exact ⟨fun h=>hA.ne h ht.1 rfl,fun h=>hA.ne h ht.2 rfl⟩
theorem br {T m:Nat} {f:Nat→Value} (h:ce w v n c M b) (hk:Keeps (fun b=>b=g) w w') (hA:aY w g T m f) (ht:T≠101∧T≠49∧T≠41):ce w' v n c M b:=
  h.keep hk fun k _ _ e=>by subst e;exact ⟨fun h=>hA.ne h ht.1 rfl,fun h=>hA.ne h ht.2.1 rfl,fun h=>hA.ne h ht.2.2 rfl⟩
end
section
variable {P:Program} {e:cl} {w:World} {d:Option Tmp} {ty:TypeId} {pos:String} {after:Array Edge} {gd:Option (Nat×Bool)} {o:Oper} {R:Value→World→Prop}
theorem ag {φ:cf} (h:cQ P o e w (fun v w'=>w=w'∧φ v w')):cQ P o e w (fun v w'=>aA w w'∧φ v w'):=
  cQ.mono (h) fun v w' ⟨h1,h2⟩=>by subst h1;exact ⟨aA.refl _,h2⟩
theorem cT {φ:cf} {v:Value} (h:cj P o e w v) (hφ:φ v w):cQ P o e w (fun v w'=>w=w'∧φ v w'):=
  cQ.mono (h.opX) fun v' w' ⟨h1,h2⟩=>by subst h1;subst h2;exact ⟨rfl,hφ⟩
theorem aJ {t n c m j b:Nat} {x ix:Operand} {v:Value} {M:Nat→Nat→Int} {i:Int} {k:IntKind} (ht:sliceB P t 41 1 m=true) (hx:ev e x=v) (hH:ce w v n c M b)
    (hi:ev e ix= .int k i) (hij:i=(j:Int)) (hj:j<n):cQ P ⟨d,.indexAddr t x ix,ty,pos,after,gd⟩ e w (fun v w'=>w=w'∧mS w' v c (M j) b):=by
  obtain ⟨A,kk,rfl,h2,h3,h4⟩:=hH;obtain ⟨h,o,m',f,rfl,hm,ha,hf⟩:=h4 (by omega);refine cT (φ:=fun v w'=>mS w' v c (M j) b) (cj.index (j:=j) ht hx hi rfl hij hj) ⟨h,_,f (o + j),rfl,?_,hf j hj⟩;rw [Nat.mul_one];exact ha.cell (by omega)
theorem aI {t n b:Nat} {x:Operand} {v:Value} {z:Nat→Int} (ht:oneB P t=true) (hx:ev e x=v) (hP:mS w v n z b):cQ P ⟨d,.load t x,ty,pos,after,gd⟩ e w (fun v w'=>w=w'∧bi w' v n z b):=by
  obtain ⟨h,o,u,rfl,hc,hR⟩:=hP;exact cT (φ:=fun v w'=>bi w' v n z b) (cj.load ht hx hc) hR
theorem aM {t n m j b:Nat} {x ix:Operand} {v:Value} {z:Nat→Int} {i:Int} {k:IntKind} (ht:sliceB P t 49 2 m=true) (hx:ev e x=v) (hR:bi w v n z b)
    (hi:ev e ix= .int k i) (hij:i=(j:Int)) (hj:j<n):cQ P ⟨d,.indexAddr t x ix,ty,pos,after,gd⟩ e w (fun v w'=>w=w'∧nc w' v (z j) b):=by
  obtain ⟨A,kk,rfl,h2,h3,h4⟩:=hR;obtain ⟨g,rfl,m',f,hm,ha,hf⟩:=h4 (by omega);refine cT (φ:=fun v w'=>nc w' v (z j) b) (cj.index (j:=j) ht hx hi rfl hij hj) ⟨g,_,_,_,rfl,?_,?_,hf j hj⟩
  · rw [Nat.zero_add,Nat.mul_comm];exact ha.cell (by omega)
  · rw [Nat.zero_add,Nat.mul_comm];exact ha.cell (by omega)
theorem aO {t b:Nat} {x:Operand} {v:Value} {z:Int} (ht:iZ P t 2=true) (hx:ev e x=v) (hP:nc w v z b):cQ P ⟨d,.load t x,ty,pos,after,gd⟩ e w (fun v w'=>w=w'∧ak w' v z b):=by
  obtain ⟨g,o,p,q,rfl,hp,hq,hI⟩:=hP;refine cT (φ:=fun v w'=>ak w' v z b) (af [p,q] ht hx fun i u hu=> ?_) hI
  match i,hu with
  | 0,hu=>simp at hu;subst hu;exact hp
  | 1,hu=>simp at hu;subst hu;exact hq
theorem bW {t n m b:Nat} {x:Operand} {v:Value} {z:Nat→Int} (ht:sliceB P t 49 2 m=true) (hx:ev e x=v) (hR:bi w v n z b):
    cj P ⟨d,.call {callee:= .builtin .len,args:= #[x],argTypes:= #[t]},ty,pos,after,gd⟩ e w (.int .i64 (n:Nat)):=by
  obtain ⟨A,kk,rfl,h2,h3,h4⟩:=hR;exact cj.len ht hx
theorem cd {t n c m b:Nat} {x:Operand} {v:Value} {M:Nat→Nat→Int} (ht:sliceB P t 41 1 m=true) (hx:ev e x=v) (hR:ce w v n c M b):
    cj P ⟨d,.call {callee:= .builtin .len,args:= #[x],argTypes:= #[t]},ty,pos,after,gd⟩ e w (.int .i64 (n:Nat)):=by
  obtain ⟨A,kk,rfl,h2,h3,h4⟩:=hR;exact cj.len ht hx
end
def Au (P:Program) (w:World) (fv:Value) (r c:Nat) (M:Nat→Nat→Int) (b:Nat):Prop:=∃fid vs us,fv= .func (.func fid) vs us∧ax P fid=true∧
  ∀w',aA w w'→∀i j:Nat,i<r→j<c→Calls P fid (vs ++ #[.int .i64 (i:Nat),.int .i64 (j:Nat)] ++ us) w' (cc w' fun v w''=>ak w'' v (M i j) b)
def yL (P:Program) (w:World) (fv:Value) (B:Nat) (p:Int→Prop) [DecidablePred p]:Prop:=∃fid vs us,fv= .func (.func fid) vs us∧ax P fid=true∧
  ∀w',aA w w'→∀x z,ak w' x z B→Calls P fid (vs ++ #[x] ++ us) w' (cc w' fun v _=>v= .bool (decide (p z)))
def wH (P:Program) (w:World) (fv:Value) (B B':Nat):Prop:=∃fid vs us,fv= .func (.func fid) vs us∧ax P fid=true∧
  ∀w',aA w w'→∀x z y u,ak w' x z B→ak w' y u B'→Calls P fid (vs ++ #[x,y] ++ us) w' (cc w' fun v _=>v= .bool (decide (z=u)))
def ay (n n':Nat) (z z':Nat→Int):Prop:=n=n'∧∀j,j<n→z j=z' j
instance (n n':Nat) (z z':Nat→Int):Decidable (ay n n' z z'):=inferInstanceAs (Decidable (n=n'∧∀j,j<n→z j=z' j))
def wG (P:Program) (w:World) (fv:Value) (B B':Nat):Prop:=∃fid vs us,fv= .func (.func fid) vs us∧ax P fid=true∧
  ∀w',aA w w'→∀x n z y n' u,bi w' x n z B→bi w' y n' u B'→Calls P fid (vs ++ #[x,y] ++ us) w' (cc w' fun v _=>v= .bool (decide (ay n n' z u)))
section
variable {P:Program} {w w':World} {fv:Value} {r c b B B':Nat} {M:Nat→Nat→Int} {p:Int→Prop} [DecidablePred p]
theorem Au.ext (h:Au P w fv r c M b) (hx:aA w w'):Au P w' fv r c M b:=by
  obtain ⟨fid,vs,us,h1,h2,h3⟩:=h;exact ⟨fid,vs,us,h1,h2,fun w1 hw=>h3 w1 (hx.trans hw)⟩
theorem yL.ext (h:yL P w fv B p) (hx:aA w w'):yL P w' fv B p:=by
  obtain ⟨fid,vs,us,h1,h2,h3⟩:=h;exact ⟨fid,vs,us,h1,h2,fun w1 hw=>h3 w1 (hx.trans hw)⟩
theorem wH.ext (h:wH P w fv B B') (hx:aA w w'):wH P w' fv B B':=by
  obtain ⟨fid,vs,us,h1,h2,h3⟩:=h;exact ⟨fid,vs,us,h1,h2,fun w1 hw=>h3 w1 (hx.trans hw)⟩
theorem wG.ext (h:wG P w fv B B') (hx:aA w w'):wG P w' fv B B':=by
  obtain ⟨fid,vs,us,h1,h2,h3⟩:=h;exact ⟨fid,vs,us,h1,h2,fun w1 hw=>h3 w1 (hx.trans hw)⟩
variable {e:cl} {d:Option Tmp} {ty:TypeId} {pos:String} {after:Array Edge} {gd:Option (Nat×Bool)}
theorem ot {cal x y:Operand} {ts:Array TypeId} {i j:Nat} {a a':Int} (hf:ev e cal=fv) (hF:Au P w fv r c M b) (hx:ev e x= .int .i64 a) (hy:ev e y= .int .i64 a') (ha:a=(i:Int)) (ha':a'=(j:Int)) (hi:i<r) (hj:j<c):
    cQ P ⟨d,.call {callee:= .value cal,args:= #[x,y],argTypes:=ts},ty,pos,after,gd⟩ e w (fun v w'=>aA w w'∧ak w' v (M i j) b):=by
  subst ha;subst ha';obtain ⟨fid,vs,us,rfl,hc,hF⟩:=hF;exact dt hc hf (by rw [aC hx hy]) (hF w (aA.refl w) i j hi hj) fun _ _ ⟨v,h1,h2,h3⟩=>⟨v,h1,h2,h3⟩
theorem jq {cal x:Operand} {ts:Array TypeId} {u:Value} {z:Int} (hf:ev e cal=fv) (hF:yL P w fv B p) (hx:ev e x=u) (hI:ak w u z B):
    cQ P ⟨d,.call {callee:= .value cal,args:= #[x],argTypes:=ts},ty,pos,after,gd⟩ e w (fun v w'=>aA w w'∧v= .bool (decide (p z))):=by
  obtain ⟨fid,vs,us,rfl,hc,hF⟩:=hF;exact dt hc hf (by rw [aL hx]) (hF w (aA.refl w) u z hI) fun _ _ ⟨v,h1,h2,h3⟩=>⟨v,h1,h2,h3⟩
theorem mX {cal x y:Operand} {ts:Array TypeId} {u u':Value} {z z':Int} (hf:ev e cal=fv) (hF:wH P w fv B B') (hx:ev e x=u) (hy:ev e y=u') (hI:ak w u z B) (hI':ak w u' z' B'):
    cQ P ⟨d,.call {callee:= .value cal,args:= #[x,y],argTypes:=ts},ty,pos,after,gd⟩ e w (fun v w'=>aA w w'∧v= .bool (decide (z=z'))):=by
  obtain ⟨fid,vs,us,rfl,hc,hF⟩:=hF;exact dt hc hf (by rw [aC hx hy]) (hF w (aA.refl w) u z u' z' hI hI') fun _ _ ⟨v,h1,h2,h3⟩=>⟨v,h1,h2,h3⟩
theorem mW {cal x y:Operand} {ts:Array TypeId} {u u':Value} {n n':Nat} {z z':Nat→Int} (hf:ev e cal=fv) (hF:wG P w fv B B') (hx:ev e x=u) (hy:ev e y=u') (hI:bi w u n z B) (hI':bi w u' n' z' B'):
    cQ P ⟨d,.call {callee:= .value cal,args:= #[x,y],argTypes:=ts},ty,pos,after,gd⟩ e w (fun v w'=>aA w w'∧v= .bool (decide (ay n n' z z'))):=by
  obtain ⟨fid,vs,us,rfl,hc,hF⟩:=hF;exact dt hc hf (by rw [aC hx hy]) (hF w (aA.refl w) u n z u' n' z' hI hI') fun _ _ ⟨v,h1,h2,h3⟩=>⟨v,h1,h2,h3⟩
end
end Go.TL
namespace Go.TL
open Go.RowKit
set_option linter.unusedVariables false
def fg (w:World) (v:Value) (g n:Nat):Prop:=∃k,v= .slice (some ⟨g,0,none⟩) n k∧n≤k∧(k<9223372036854775808∧n≤65536)
def yH (w:World) (gh m d c:Nat) (ρ:Nat→Nat):Prop:=d≤m∧(m<9223372036854775808∧d≤65536)∧∃f,aY w gh 41 m f∧∀i,i<d→fg w (f i) (ρ i) c
def cY (w:World) (B gh m d c:Nat) (ρ:Nat→Nat) (M:Nat→Nat→Int) (b:Nat):Prop:=
  B≤gh∧(c≤65536∧b≤bj)∧yH w gh m d c ρ∧(∀i,i<d→B≤ρ i∧cw w (ρ i) c (M i) b)∧∀i j,i<d→j<d→ρ i=ρ j→i=j
def ee (M:Nat→Nat→Int) (i j:Nat) (z:Int):Nat→Nat→Int:=fun a c=>if a=i∧c=j then z else M a c
def jP (z:Nat→Int) (j:Nat) (x:Int):Nat→Int:=fun c=>if c=j then x else z c
def setRow (M:Nat→Nat→Int) (i:Nat) (z:Nat→Int):Nat→Nat→Int:=fun a=>if a=i then z else M a
section
variable {w w':World} {v:Value} {g gh m d n c b B:Nat} {z:Nat→Int} {M:Nat→Nat→Int} {ρ:Nat→Nat}
theorem fg.ext (h:fg w v g n) (hx:aA w w'):fg w' v g n:=h
theorem bL (h:fg w v g n) (w':World):fg w' v g n:=h
theorem dH (g n:Nat):bq (fun v w=>fg w v g n):=fun _ _ _ h _=>h
instance (g n:Nat):Nonempty (bq (fun v w=>fg w v g n)):=⟨dH g n⟩
theorem fg.one (h:fg w v g n):v.oneCell'=true:=by obtain ⟨k,h1,_⟩:=h;subst h1;rfl
theorem AE (w:World) (g n k:Nat) (h:n≤k) (hk:k<9223372036854775808∧n≤65536):fg w (.slice (some ⟨g,0,none⟩) n k) g n:=⟨k,rfl,h,hk⟩
theorem yH.keep {S:Nat→Prop} (h:yH w gh m d c ρ) (hk:Keeps S w w') (hg:¬S gh):yH w' gh m d c ρ:=by
  obtain ⟨h1,h2,f,ha,hf⟩:=h;exact ⟨h1,h2,f,ha.keep hk hg,hf⟩
theorem cY.keep {S:Nat→Prop} (h:cY w B gh m d c ρ M b) (hk:Keeps S w w') (hg:¬S gh) (hr:∀i,i<d→¬S (ρ i)) (hs:∀k m f,S k→¬aY w k 101 m f):cY w' B gh m d c ρ M b:=by
  obtain ⟨h1,h2,h3,h4,h5⟩:=h;exact ⟨h1,h2,h3.keep hk hg,fun i hi=>⟨(h4 i hi).1,(h4 i hi).2.keep hk (hr i hi) hs⟩,h5⟩
theorem cY.ext (h:cY w B gh m d c ρ M b) (hx:aA w w'):cY w' B gh m d c ρ M b:=h.keep (hx.keeps (fun _=>False)) id (fun _ _=>id) fun _ _ _ hf=>hf.elim
theorem cY.congr {M':Nat→Nat→Int} (h:cY w B gh m d c ρ M b) (he:∀i j,i<d→j<c→M i j=M' i j):cY w B gh m d c ρ M' b:=by
  obtain ⟨h1,h2,h3,h4,h5⟩:=h;exact ⟨h1,h2,h3,fun i hi=>⟨(h4 i hi).1,(h4 i hi).2.congr fun j hj=>he i j hi hj⟩,h5⟩
theorem cY.low {B':Nat} (h:cY w B gh m d c ρ M b) (hB:B'≤B):cY w B' gh m d c ρ M b:=by
  obtain ⟨h1,h2,h3,h4,h5⟩:=h;exact ⟨by omega,h2,h3,fun i hi=>⟨by have:=(h4 i hi).1;omega,(h4 i hi).2⟩,h5⟩
theorem cY.ghlt (h:cY w B gh m d c ρ M b):gh<w.heap.size:=by obtain ⟨_,_,⟨_,_,f,ha,_⟩,_⟩:=h;exact ha.lt
theorem cY.rowlt (h:cY w B gh m d c ρ M b) {i:Nat} (hi:i<d):ρ i<w.heap.size:=(h.2.2.2.1 i hi).2.lt
theorem cY.ne (h:cY w B gh m d c ρ M b) {i:Nat} (hi:i<d):gh≠ρ i:=by
  obtain ⟨_,_,⟨_,_,f,ha,_⟩,h4,_⟩:=h;obtain ⟨m',f',_,ha',_⟩:=(h4 i hi).2;exact ha.ne ha' (by decide)
theorem cY.row' {i:Nat} (h:cY w B gh m d c ρ M b) (hi:i<d):cw w (ρ i) c (M i) b:=(h.2.2.2.1 i hi).2
theorem cY.clim (h:cY w B gh m d c ρ M b):c≤65536∧b≤bj:=h.2.1
theorem cY.dlim (h:cY w B gh m d c ρ M b):d≤m∧m<9223372036854775808∧d≤65536:=⟨h.2.2.1.1,h.2.2.1.2.1⟩
theorem cY.more {b':Nat} (h:cY w B gh m d c ρ M b) (hb:∀i j,i<d→j<c→(M i j).natAbs<2^b') (hl:b'≤bj):cY w B gh m d c ρ M b':=by
  obtain ⟨h1,h2,h3,h4,h5⟩:=h;refine ⟨h1,⟨h2.1,hl⟩,h3,fun i hi=>⟨(h4 i hi).1,?_⟩,h5⟩;obtain ⟨m',f',e1,e2,e3⟩:=(h4 i hi).2;exact ⟨m',f',⟨e1.1,hl⟩,e2,fun j hj=>(e3 j hj).more (hb i j hi hj) hl⟩
theorem cw.rowV (h:cw w g n z b) {k:Nat} (hk:n≤k) (hl:k<9223372036854775808∧n≤65536):bi w (.slice (some ⟨g,0,none⟩) n k) n z b:=by
  have hb:b≤bj:=by obtain ⟨m,f,h1,_⟩:=h;exact h1.2
  exact ⟨_,_,rfl,hk,⟨hl.1,hl.2,hb⟩,fun _=>⟨g,rfl,h⟩⟩
theorem fg.rowV (h:fg w' v g n) (hB:cw w g n z b):bi w v n z b:=by
  obtain ⟨k,h1,h2,h3⟩:=h;subst h1;exact hB.rowV h2 h3
theorem cY.hdrV (h:cY w B gh m d c ρ M b) {k:Nat} (hk:d≤k) (hl:k<9223372036854775808):ce w (.slice (some ⟨gh,0,none⟩) d k) d c M b:=by
  obtain ⟨h1,h2,⟨h3,h3b,f,ha,hf⟩,h4,h5⟩:=h;exact ⟨_,_,rfl,hk,⟨hl,h3b.2,h2.2⟩,fun hd=>⟨gh,0,m,f,rfl,by omega,ha,fun i hi=>by rw [Nat.zero_add];exact (hf i hi).rowV (h4 i hi).2⟩⟩
theorem cY.matV (h:cY w B gh m d c ρ M b) {k:Nat} (hk:d≤k) (hl:k<9223372036854775808):bX w (.agg #[.int .i64 (d:Nat),.int .i64 (c:Nat),.slice (some ⟨gh,0,none⟩) d k]) d c M b:=
  ⟨_,rfl,h.2.2.1.2.1.2,h.2.1.1,h.hdrV hk hl⟩
theorem bZ {M':Nat→Nat→Int} (h:cY w B gh m d c ρ M b) (e:M=M'):cY w B gh m d c ρ M' b:=e▸h
theorem wC {d':Nat} (h:cY w B gh m d c ρ M b) (e:d=d'):cY w B gh m d' c ρ M b:=e▸h
def cO (w:World) (v:Value) (B r c:Nat) (M:Nat→Nat→Int) (b:Nat):Prop:=∃gh k ρ,v= .agg #[.int .i64 (r:Nat),.int .i64 (c:Nat),.slice (some ⟨gh,0,none⟩) r k]∧cY w B gh k r c ρ M b
theorem cO.ext {r:Nat} (h:cO w v B r c M b) (hx:aA w w'):cO w' v B r c M b:=by obtain ⟨gh,k,ρ,h1,h2⟩:=h;exact ⟨gh,k,ρ,h1,h2.ext hx⟩
theorem eo (B r c:Nat) (M:Nat→Nat→Int) (b:Nat):bq (fun v w=>cO w v B r c M b):=fun _ _ _ h hx=>h.ext hx
instance (B r c:Nat) (M:Nat→Nat→Int) (b:Nat):Nonempty (bq (fun v w=>cO w v B r c M b)):=⟨eo B r c M b⟩
theorem cO.matV {r:Nat} (h:cO w v B r c M b):bX w v r c M b:=by
  obtain ⟨gh,k,ρ,h1,h2⟩:=h;subst h1;exact h2.matV h2.dlim.1 h2.dlim.2.1
theorem cO.low {r B':Nat} (h:cO w v B r c M b) (hB:B'≤B):cO w v B' r c M b:=by obtain ⟨gh,k,ρ,h1,h2⟩:=h;exact ⟨gh,k,ρ,h1,h2.low hB⟩
theorem cO.congr {r:Nat} {M':Nat→Nat→Int} (h:cO w v B r c M b) (he:∀i j,i<r→j<c→M i j=M' i j):cO w v B r c M' b:=by obtain ⟨gh,k,ρ,h1,h2⟩:=h;exact ⟨gh,k,ρ,h1,h2.congr he⟩
theorem tX {T:Nat} {x y:Value} {q:Int} (hA:aY w g T 2 (bU [x,y])) (hI:ak w (.agg #[x,y]) q b):nc w (.pointer (some ⟨g,0,none⟩)) q b:=
  ⟨g,0,x,y,rfl,hA.at_ (i:=0) rfl rfl,hA.at_ (i:=1) rfl rfl,hI⟩
theorem cw.set {j:Nat} {x y:Value} {q:Int} {m':Nat} {f':Nat→Value} (h:cw w g n z b) (hj:j<n) (hq:ak w' (.agg #[x,y]) q b) (hk:Keeps (fun b=>b=g) w w')
    (ha:∀m f,aY w g 49 m f→aY w' g 49 m (dM f (j*2) [x,y])):cw w' g n (jP z j q) b:=by
  obtain ⟨m,f,hm,h1,h2⟩:=h;refine ⟨m,_,hm,ha m f h1,fun i hi=> ?_⟩;have hI:ak w' (.agg #[f (2*i),f (2*i + 1)]) (z i) b:=(h2 i hi).keep hk fun k m2 f2 e ha2=>by subst e;exact h1.ne ha2 (by decide) rfl
  simp only [dM,jP]
  by_cases e:i=j
  · subst e
    rw [if_pos rfl,co _ _ _ _ (by omega),show 2*i=i*2 by omega,bO,bO];exact hq
  · rw [if_neg e,co _ _ _ _ (by omega),co _ _ _ _ (by omega),co _ _ _ _ (by omega),co _ _ _ _ (by omega)]
    exact hI
theorem cY.set {i j:Nat} {q:Int} (h:cY w B gh m d c ρ M b) (hi:i<d) (hk:Keeps (fun b=>b=ρ i) w w') (hR:cw w' (ρ i) c (jP (M i) j q) b):cY w' B gh m d c ρ (ee M i j q) b:=by
  have hne:=fun k (hk:k<d)=>h.ne hk
  obtain ⟨h1,h2,h3,h4,h5⟩:=h;refine ⟨h1,h2,h3.keep hk (hne i hi),fun a ha=>⟨(h4 a ha).1,?_⟩,h5⟩
  by_cases e:a=i
  · subst e
    exact hR.congr fun c hc=>by simp [ee,jP]
  · have:=(h4 a ha).2.keep hk (fun e2=>e (h5 a i ha hi e2)) (fun k m2 f2 e2 ha2=>by
      subst e2;obtain ⟨m',f',_,ha',_⟩:=(h4 i hi).2;exact ha'.ne ha2 (by decide) rfl)
    exact this.congr fun c hc=>by simp [ee,e]
def dJ (w:World) (v:Value) (B n b:Nat):Prop:=∃g,v= .slice (some ⟨g,0,none⟩) n n∧B≤g∧cw w g n (fun _=>0) b
theorem dJ.ext {n:Nat} (h:dJ w v B n b) (hx:aA w w'):dJ w' v B n b:=by obtain ⟨g,h1,h2,h3⟩:=h;exact ⟨g,h1,h2,h3.ext hx⟩
theorem jm (B n b:Nat):bq (fun v w=>dJ w v B n b):=fun _ _ _ h hx=>h.ext hx
instance (B n b:Nat):Nonempty (bq (fun v w=>dJ w v B n b)):=⟨jm B n b⟩
theorem kL (ha:aY w g 49 (n*2) (fun i=>bU [.bool false,.slice none 0 0] (i % 2))) (b:Nat) (hb:b≤bj):cw w g n (fun _=>0) b:=
  ⟨_,_,⟨by omega,hb⟩,ha,fun j hj=>by
    rw [show 2*j % 2=0 by omega,show (2*j + 1) % 2=1 by omega];exact (ak.zero w).up (Nat.zero_le _) hb⟩
theorem fR {P:Program} {e:cl} {w:World} {d:Option Tmp} {ty:TypeId} {pos:String} {after:Array Edge} {gd:Option (Nat×Bool)} {t m:Nat} {x y:Operand} {i j:Int} {B b n:Nat}
    (ht:sliceB P t 49 2 m=true) (hm:m≤32) (hz:(P.info? 49).bind (·.zero)=some (.agg #[.bool false,.slice none 0 0]))
    (hx:ev e x= .int .i64 i) (hy:ev e y= .int .i64 j) (hi:i=(n:Int)) (hj:j=(n:Int)) (hn:n≤65536) (hB:B≤w.heap.size) (hb:b≤bj):
    cQ P ⟨d,.makeSlice t x y,ty,pos,after,gd⟩ e w (fun v w'=>aA w w'∧dJ w' v B n b):=
  cQ.mono (df n [.bool false,.slice none 0 0] ht hz rfl hx hy hi hj (by have:=Nat.mul_le_mul hn hm;omega) (by omega) (by decide)) fun v w' ⟨g,h1,h2,h3,h4⟩=>
    ⟨h3,g,h1,Nat.le_trans hB h2,kL h4 b hb⟩
def cG (F:Nat→Nat→Int) (i j:Nat):Nat→Nat→Int:=fun a c=>if a<i∨(a=i∧c<j) then F a c else 0
theorem gg (F:Nat→Nat→Int) (i j:Nat):ee (cG F i j) i j (F i j)=cG F i (j + 1):=by
  funext a c
  simp only [ee,cG]
  by_cases h:a=i∧c=j
  · obtain ⟨rfl,rfl⟩:=h
    simp
  · rw [if_neg h]
    by_cases h2:a<i∨(a=i∧c<j)
    · rw [if_pos h2,if_pos (by omega)]
    · rw [if_neg h2,if_neg (by omega)]
theorem lE (F:Nat→Nat→Int) (i:Nat) {n a c:Nat} (hc:c<n):cG F i n a c=cG F (i + 1) 0 a c:=by
  simp only [cG]
  by_cases h:a<i + 1
  · rw [if_pos (by omega),if_pos (by omega)]
  · rw [if_neg (by omega),if_neg (by omega)]
theorem fm (F:Nat→Nat→Int) {n a:Nat} (c:Nat) (ha:a<n):cG F n 0 a c=F a c:=by
  simp only [cG];rw [if_pos (by omega)]
theorem oR (F:Nat→Nat→Int) (a c:Nat):cG F 0 0 a c=0:=by simp only [cG];rw [if_neg (by omega)]
theorem rk (F:Nat→Nat→Int) (i c:Nat):cG F i 0 i c=0:=by simp only [cG];rw [if_neg (by omega)]
theorem cY.setRow {i:Nat} {z:Nat→Int} (h:cY w B gh m d c ρ M b) (hi:i<d) (hk:Keeps (fun b=>b=ρ i) w w') (hR:cw w' (ρ i) c z b):cY w' B gh m d c ρ (setRow M i z) b:=by
  have hne:=fun k (hk:k<d)=>h.ne hk
  obtain ⟨h1,h2,h3,h4,h5⟩:=h;refine ⟨h1,h2,h3.keep hk (hne i hi),fun a ha=>⟨(h4 a ha).1,?_⟩,h5⟩
  by_cases e:a=i
  · subst e
    exact hR.congr fun c hc=>by simp [TL.setRow]
  · have:=(h4 a ha).2.keep hk (fun e2=>e (h5 a i ha hi e2)) (fun k m2 f2 e2 ha2=>by
      subst e2;obtain ⟨m',f',_,ha',_⟩:=(h4 i hi).2;exact ha'.ne ha2 (by decide) rfl)
    exact this.congr fun c hc=>by simp [TL.setRow,e]
theorem cY.born {f:Nat→Value} (ha:aY w gh 41 m f) (hB:B≤gh) (hm:m<9223372036854775808) (hc:c≤65536) (M:Nat→Nat→Int) (b:Nat) (hb:b≤bj):cY w B gh m 0 c (fun _=>0) M b:=
  ⟨hB,⟨hc,hb⟩,⟨by omega,⟨hm,by omega⟩,f,ha,fun i hi=>by omega⟩,fun i hi=>by omega,fun i j hi=>by omega⟩
theorem cY.push {y:Value} (h:cY w B gh m d c ρ M b) (hd:d<m) (hd2:d<65536) (hz:∀j,j<c→M d j=z j) (hS:fg w y g c) (hR:cw w g c z b) (hB:B≤g) (hnew:∀i,i<d→g≠ρ i) (hk:Keeps (fun b=>b=gh) w w')
    (ha:∀f,aY w gh 41 m f→aY w' gh 41 m (dM f (d*1) [y])):cY w' B gh m (d + 1) c (ci ρ d g) M b:=by
  have hne:=fun k (hk:k<d)=>h.ne hk
  obtain ⟨h1,h2,⟨h3,h3b,f,h6,h7⟩,h4,h5⟩:=h;have hu:∀k m f,k=gh→¬aY w k 101 m f:=fun k m2 f2 e ha2=>by subst e;exact h6.ne ha2 (by decide) rfl
  have hgne:g≠gh:=by
    obtain ⟨m',f',_,ha',_⟩:=hR;exact ha'.ne h6 (by decide)
  refine ⟨h1,h2,⟨by omega,⟨h3b.1,by omega⟩,_,ha f h6,fun i hi=> ?_⟩,fun i hi=> ?_,fun i j hi hj e=> ?_⟩
  · simp only [dM,Nat.mul_one]
    by_cases e:i=d
    · subst e;rw [bO,aW];exact hS
    · rw [co _ _ _ _ e,aT _ _ _ _ e];exact h7 i (by omega)
  · by_cases e:i=d
    · subst e
      rw [aW];exact ⟨hB,(hR.keep hk hgne hu).congr fun j hj=>(hz j hj).symm⟩
    · rw [aT _ _ _ _ e]
      exact ⟨(h4 i (by omega)).1,(h4 i (by omega)).2.keep hk (fun e2=>hne i (by omega) e2.symm) hu⟩
  · by_cases e1:i=d<;>by_cases e2:j=d
    · omega
    · rw [e1,aW,aT _ _ _ _ e2] at e;exact absurd e (hnew j (by omega))
    · rw [e2,aW,aT _ _ _ _ e1] at e;exact absurd e.symm (hnew i (by omega))
    · rw [aT _ _ _ _ e1,aT _ _ _ _ e2] at e;exact h5 i j (by omega) (by omega) e
end
section
variable {w w':World} {v:Value} {g gh m d n c b B:Nat} {z:Nat→Int} {M:Nat→Nat→Int} {ρ:Nat→Nat}
theorem cw.nu (h:cw w g n z b):∀k m f,k=g→¬aY w k 101 m f:=fun k m2 f2 e ha2=>by
  subst e;obtain ⟨m',f',_,ha',_⟩:=h;exact ha'.ne ha2 (by decide) rfl
theorem cY.nu (h:cY w B gh m d c ρ M b):∀k m f,k=gh→¬aY w k 101 m f:=fun k m2 f2 e ha2=>by
  subst e;obtain ⟨_,_,⟨_,_,f,ha,_⟩,_⟩:=h;exact ha.ne ha2 (by decide) rfl
theorem cW {y:Int} {b':Nat} (h:ak w v y b') (hk:Keeps (fun b=>b=g) w w') (hR:cw w g n z b):ak w' v y b':=h.keep hk hR.nu
theorem bk {T k:Nat} {f:Nat→Value} (h:cY w B gh m d c ρ M b) (hk:Keeps (fun b=>b=g) w w') (hA:aY w g T k f) (ht:T≠101∧T≠49∧T≠41):cY w' B gh m d c ρ M b:=
  h.keep hk (fun e=>by subst e;obtain ⟨_,_,⟨_,_,f,ha,_⟩,_⟩:=h;exact hA.ne ha ht.2.2 rfl) (fun i hi e=>by subst e;obtain ⟨m',f',_,ha',_⟩:=h.row' hi;exact hA.ne ha' ht.2.1 rfl)
    fun k m2 f2 e ha2=>by subst e;exact hA.ne ha2 ht.1 rfl
theorem gi {k:Nat} {f:Nat→Value} (h:cY w B gh m d c ρ M b) (hk:Keeps (fun b=>b=g) w w') (hA:aY w g 49 k f) (hne:∀i,i<d→ρ i≠g):cY w' B gh m d c ρ M b:=
  h.keep hk (fun e=>by subst e;obtain ⟨_,_,⟨_,_,f,ha,_⟩,_⟩:=h;exact hA.ne ha (by decide) rfl) hne fun k m2 f2 e ha2=>by subst e;exact hA.ne ha2 (by decide) rfl
theorem cg (h:cY w B gh m d c ρ M b) (hk:Keeps (fun b=>b=g) w w') {n' b':Nat} {z':Nat→Int} (hR:cw w g n' z' b') (hne:∀i,i<d→ρ i≠g):cY w' B gh m d c ρ M b:=by
  obtain ⟨m',f',_,ha',_⟩:=hR;exact gi h hk ha' hne
theorem bF {T k:Nat} {gv:Nat} {f:Nat→Value} (h:aY w gv T k f) (hk:Keeps (fun b=>b=g) w w') (hR:cw w g n z b) (ht:T≠49):aY w' gv T k f:=by
  obtain ⟨m',f',_,ha',_⟩:=hR;exact h.keep hk (h.ne ha' ht)
theorem iY {T k:Nat} {gv:Nat} {f:Nat→Value} (h:aY w gv T k f) (hk:Keeps (fun b=>b=gh) w w') (hM:cY w B gh m d c ρ M b) (ht:T≠41):aY w' gv T k f:=by
  obtain ⟨_,_,⟨_,_,f',ha,_⟩,_⟩:=hM;exact h.keep hk (h.ne ha ht)
end
section
variable {P:Program} {e:cl} {w:World} {d:Option Tmp} {ty:TypeId} {pos:String} {after:Array Edge} {gd:Option (Nat×Bool)} {g gh m n c b B dd:Nat} {z:Nat→Int} {M:Nat→Nat→Int} {ρ:Nat→Nat}
theorem aG {t i:Nat} {x:Operand} (ht:oneB P t=true) (hx:ev e x= .pointer (some ⟨gh,0 + i*1,none⟩)) (hM:cY w B gh m dd c ρ M b) (hi:i<dd):
    cQ P ⟨d,.load t x,ty,pos,after,gd⟩ e w (fun v w'=>w=w'∧fg w' v (ρ i) c):=by
  obtain ⟨_,_,⟨h3,h3b,f,ha,hf⟩,_⟩:=hM;refine cT (φ:=fun v w'=>fg w' v (ρ i) c) (cj.load ht hx ?_) (hf i hi);rw [Nat.zero_add,Nat.mul_one];exact ha.cell (by omega)
theorem aR {t mm j:Nat} {x ix:Operand} {v:Value} {i:Int} {k:IntKind} (ht:sliceB P t 49 2 mm=true) (hS:fg w v g n) (hx:ev e x=v) (hi:ev e ix= .int k i) (hij:i=(j:Int)) (hj:j<n):
    cj P ⟨d,.indexAddr t x ix,ty,pos,after,gd⟩ e w (.pointer (some ⟨g,0 + j*2,none⟩)):=by
  obtain ⟨kk,rfl,h2,h3⟩:=hS;exact cj.index (j:=j) ht hx hi rfl hij hj
theorem sd {t mm:Nat} {x:Operand} {v:Value} (ht:sliceB P t 49 2 mm=true) (hS:fg w v g n) (hx:ev e x=v):
    cj P ⟨d,.call {callee:= .builtin .len,args:= #[x],argTypes:= #[t]},ty,pos,after,gd⟩ e w (.int .i64 (n:Nat)):=by
  obtain ⟨kk,rfl,h2,h3⟩:=hS;exact cj.len ht hx
theorem bN {t j:Nat} {x:Operand} (ht:iZ P t 2=true) (hx:ev e x= .pointer (some ⟨g,0 + j*2,none⟩)) (hR:cw w g n z b) (hj:j<n):
    cQ P ⟨d,.load t x,ty,pos,after,gd⟩ e w (fun v w'=>w=w'∧ak w' v (z j) b):=by
  obtain ⟨m',f,hm,ha,hf⟩:=hR;refine cT (φ:=fun v w'=>ak w' v (z j) b) (af [f (2*j),f (2*j + 1)] ht hx fun i u hu=> ?_) (hf j hj)
  match i,hu with
  | 0,hu=>simp at hu;subst hu;rw [Nat.zero_add,Nat.mul_comm];exact ha.cell (by omega)
  | 1,hu=>simp at hu;subst hu;rw [Nat.zero_add,Nat.mul_comm];exact ha.cell (by omega)
theorem cY.row {i:Nat} (h:cY w B gh m dd c ρ M b) (hi:i<dd):cw w (ρ i) c (M i) b:=(h.2.2.2.1 i hi).2
theorem cY.rowB {i:Nat} (h:cY w B gh m dd c ρ M b) (hi:i<dd):B≤ρ i:=(h.2.2.2.1 i hi).1
theorem gL {t j:Nat} {x y:Operand} {v:Value} {q:Int} (ht:ey P t 2=true) (hx:ev e x= .pointer (some ⟨g,0 + j*2,none⟩)) (hy:ev e y=v) (hI:ak w v q b) (hR:cw w g n z b) (hj:j<n):
    cQ P ⟨d,.store t x y,ty,pos,after,gd⟩ e w (fun _ w'=>Keeps (fun b=>b=g) w w'∧cw w' g n (jP z j q) b):=by
  obtain ⟨A,k,c',l,rfl,hL,hv,htop,hn,hb⟩:=hI.form;have hR':=hR;obtain ⟨m',f,hm,ha,hf⟩:=hR;have key:=cQ.store (P:=P) (e:=e) (w:=w) (d:=d) (ty:=ty) (pos:=pos) (after:=after) (gd:=gd) (t:=t) (x:=x) (y:=y) (o:=0 + j*2) (n:=m') [.bool (decide (q<0)),.slice A k c'] (by simpa using ht) hx hy rfl ha (by simp;omega) (bs rfl rfl);refine cQ.mono (key) fun _ w' ⟨hk,hnew⟩=>⟨hk,?_⟩
  have hI':ak w' (.agg #[.bool (decide (q<0)),.slice A k c']) q b:=ah hI hk ha (by decide);refine cw.set (m':=0) (f':=fun _=>undef) ⟨m',f,hm,ha,hf⟩ hj hI' hk fun m2 f2 ha2=> ?_
  obtain ⟨e1,e2⟩:=ha.eq ha2;subst e1;rw [Nat.zero_add] at hnew;refine hnew.congr fun i hi=> ?_
  simp only [dM]
  by_cases e3:i=j*2 + 1
  · subst e3;rw [bO,bO]
  · rw [co _ _ _ _ e3,co _ _ _ _ e3]
    by_cases e4:i=j*2
    · subst e4;rw [bO,bO]
    · rw [co _ _ _ _ e4,co _ _ _ _ e4];exact e2 i hi
theorem cU {t i j:Nat} {x y:Operand} {v:Value} {q:Int} (ht:ey P t 2=true) (hx:ev e x= .pointer (some ⟨ρ i,0 + j*2,none⟩)) (hy:ev e y=v) (hI:ak w v q b) (hM:cY w B gh m dd c ρ M b) (hi:i<dd) (hj:j<c):
    cQ P ⟨d,.store t x y,ty,pos,after,gd⟩ e w (fun _ w'=>Keeps (fun b=>b=ρ i) w w'∧cY w' B gh m dd c ρ (ee M i j q) b):=
  cQ.mono (gL ht hx hy hI (hM.row hi) hj) fun _ w' ⟨hk,hR⟩=>⟨hk,hM.set hi hk hR⟩
theorem ol {t:Nat} {x y:Operand} {v:Value} (ht:ey P t 1=true) (hx:ev e x= .pointer (some ⟨gh,0 + dd*1,none⟩)) (hy:ev e y=v) (hS:fg w v g c) (hR:cw w g c z b) (hM:cY w B gh m dd c ρ M b) (hd:dd<m) (hd2:dd<65536)
    (hz:∀j,j<c→M dd j=z j) (hB:B≤g) (hnew:∀i,i<dd→g≠ρ i):
    cQ P ⟨d,.store t x y,ty,pos,after,gd⟩ e w (fun _ w'=>Keeps (fun b=>b=gh) w w'∧cY w' B gh m (dd + 1) c (ci ρ dd g) M b):=by
  obtain ⟨k,rfl,h2,h3⟩:=hS;have hM':=hM;obtain ⟨_,_,⟨h3',h3b,f,ha,hf⟩,_⟩:=hM;have key:=cQ.store (P:=P) (e:=e) (w:=w) (d:=d) (ty:=ty) (pos:=pos) (after:=after) (gd:=gd) (t:=t) (x:=x) (y:=y) (o:=0 + dd*1) (n:=m) [.slice (some ⟨g,0,none⟩) c k] (by simpa using ht) hx hy rfl ha (by simp;omega) (dx rfl);refine cQ.mono (key) fun _ w' ⟨hk,hN⟩=>⟨hk,?_⟩
  refine hM'.push hd hd2 hz (AE w g c k h2 h3) hR hB hnew hk fun f2 ha2=> ?_
  rw [Nat.zero_add] at hN;refine hN.congr fun i hi=> ?_
  simp only [dM]
  by_cases e3:i=dd*1
  · subst e3;rw [bO,bO]
  · rw [co _ _ _ _ e3,co _ _ _ _ e3];exact (ha.eq ha2).2 i hi
end
end Go.TL
namespace Go.TL
open Go.RowKit
set_option linter.unusedVariables false
def iS (P:Program) (t i ft k:Nat):Bool:=match P.underlying t with
  | some (.struct fs)=>(match fs[i]? with | some f=>Nat.beq f.offset k&&Nat.beq f.type ft | none=>false)
  | _=>false
section
variable {P:Program} {e:cl} {w:World} {d:Option Tmp} {ty:TypeId} {pos:String} {after:Array Edge} {gd:Option (Nat×Bool)}
theorem kQ {t i ft k sz:Nat} {x:Operand} {cs r:Array Value} (hf:iS P t i ft k=true) (ha:iZ P ft sz=true) (hx:ev e x= .agg cs) (hr:cs.extract k (k + sz)=r):
    cj P ⟨d,.field t x i,ty,pos,after,gd⟩ e w (.agg r):=by
  subst hr
  unfold iS at hf
  split at hf
  · rename_i fs hs
    split at hf
    · rename_i f hfi
      simp only [Bool.and_eq_true] at hf;have hk:=Nat.eq_of_beq_eq_true hf.1;have ht:=Nat.eq_of_beq_eq_true hf.2;subst hk;subst ht;simp only [iZ,Bool.and_eq_true] at ha;obtain ⟨h1,h2⟩:=ha;cases hi:P.info? f.type with
      | none=>rw [hi] at h2;cases h2
      | some inf=>
        rw [hi] at h2;have hsz:=Nat.eq_of_beq_eq_true h2;have hagg:(isAgg f.type).run P w= .ok true w:=by
          cases hu:P.underlying f.type with
          | none=>rw [hu] at h1;cases h1
          | some dsc=>
            rw [hu] at h1;cases dsc<;>first | (simp at h1;done) | simp [isAgg,run_underlying hu]
        simp only [cj,execOp,hx,Instr.field,Sem.run_bind,run_underlying hs,Result.andThen_ok,hfi,asAgg,Sem.run_pure,part,hagg,if_true,eY hi,hsz]
    · cases hf
  · cases hf
def uJ (P:Program) (t el:Nat):Bool:=(match P.underlying t with | some (.array n e')=>Nat.beq n 2&&Nat.beq e' el | _=>false)&&(match P.info? el with | some i=>Nat.beq i.size 1 | none=>false)
theorem oz {t el yt:Nat} {x y:Operand} {a b a' b':Int} (ht:uJ P t el=true) (hel:jt P el .i64=true) (hg:P.eqGuardType P.depth t=false) (hx:ev e x= .agg #[.int .i64 a,.int .i64 b]) (hy:ev e y= .agg #[.int .i64 a',.int .i64 b']):
    cj P ⟨d,.binOp .eql t x y yt,ty,pos,after,gd⟩ e w (.bool (decide (a=a'∧b=b'))):=by
  simp only [uJ,Bool.and_eq_true] at ht;obtain ⟨h1,h2⟩:=ht;have hu:P.underlying t=some (.array 2 el):=by
    revert h1
    cases P.underlying t with
    | none=>intro h;cases h
    | some dsc=>cases dsc<;>intro h<;>first | cases h | (simp only [Bool.and_eq_true] at h;have e1:=Nat.eq_of_beq_eq_true h.1;have e2:=Nat.eq_of_beq_eq_true h.2;subst e1;subst e2;rfl)
  have hue:P.underlying el=some (.int .i64):=by
    unfold jt at hel
    split at hel
    · rename_i k2 h2;rw [h2];simp at hel;rw [hel]
    · cases hel
  cases hi:P.info? el with
  | none=>rw [hi] at h2;cases h2
  | some inf=>
    rw [hi] at h2;have hs1:=Nat.eq_of_beq_eq_true h2;have hnagg:(isAgg el).run P w= .ok false w:=by simp [isAgg,run_underlying hue]
    have hp:∀(cs:Array Value) (k:Nat) (v:Value),cs[k]? =some v→(part el cs k).run P w= .ok v w:=fun cs k v hv=>by
      simp only [part,Sem.run_bind,hnagg,Result.andThen_ok,Bool.false_eq_true,if_false,hv,Sem.run_pure]
    have hq:∀(n:Nat) (a b:Int),(Op.equalIn (n + 1) el (.int .i64 a) (.int .i64 b)).run P w= .ok (a==b) w:=fun n a b=>by
      simp [Op.equalIn,run_underlying hue]
    have key:∀n:Nat,(Op.equalIn (n + 2) t (.agg #[.int .i64 a,.int .i64 b]) (.agg #[.int .i64 a',.int .i64 b'])).run P w= .ok (decide (a=a'∧b=b')) w:=fun n=>by
      rw [Op.equalIn];simp only [Sem.run_bind,run_underlying hu,Result.andThen_ok,eY hi,hs1];have e0:=hp #[.int .i64 a,.int .i64 b] 0 _ rfl;have e1:=hp #[.int .i64 a,.int .i64 b] 1 _ rfl;have e2:=hp #[.int .i64 a',.int .i64 b'] 0 _ rfl;have e3:=hp #[.int .i64 a',.int .i64 b'] 1 _ rfl
      by_cases c1:a=a'
      · by_cases c2:b=b'
        · subst c1;subst c2
          simp [Std.Legacy.Range.forIn_eq_forIn_range',List.range',e0,e1,hq]
        · subst c1
          simp [Std.Legacy.Range.forIn_eq_forIn_range',List.range',e0,e1,e2,e3,hq,c2]
      · simp [Std.Legacy.Range.forIn_eq_forIn_range',List.range',e0,e2,hq,c1]
    have hgr:(eqGuard .eql t x y (.agg #[.int .i64 a,.int .i64 b]) (.agg #[.int .i64 a',.int .i64 b'])).run P w= .ok () w:=by
      simp [eqGuard,hg]
    have heq:(Op.equal t (.agg #[.int .i64 a,.int .i64 b]) (.agg #[.int .i64 a',.int .i64 b'])).run P w= .ok (decide (a=a'∧b=b')) w:=key 9998;have hb:∀u v:Array Value,binOp .eql t (.agg u) (.agg v)=(do pure (.bool (←Op.equal t (.agg u) (.agg v)))):=fun _ _=>rfl
    simp only [cj,execOp,hx,hy,hgr,hb,Sem.run_bind,Sem.run_pure,Result.andThen_ok,heq]
theorem nb {t el n:Nat} {z:Value} {xs:Array (Nat×Operand)} {vs:List (Nat×Value)} {cells:Array Value} (ht:P.underlying t=some (.array n el)) (hs:ey P el 1=true) (hz:(P.info? t).bind (·.zero)=some z)
    (hx:xs.toList.map (fun p=>(p.1,ev e p.2))=vs) (hf:Instr.fill (fun i=>some (i*1,1)) z.cells vs=some cells):cj P ⟨d,.build t xs,ty,pos,after,gd⟩ e w (.agg cells):=by
  cases hi:P.info? t with
  | none=>rw [hi] at hz;cases hz
  | some i=>
    have hz':i.zero=some z:=by rw [hi] at hz;simpa using hz
    unfold ey at hs
    cases hie:P.info? el with
    | none=>rw [hie] at hs;cases hs
    | some ie=>
      rw [hie] at hs;have hs1:=Nat.eq_of_beq_eq_true hs;have hx':(xs.map fun p=>(p.1,ev e p.2)).toList=vs:=by simpa using hx
      have hf':Instr.fill (fun i=>some (i*1,1)) z.cells (xs.map fun p=>(p.1,ev e p.2)).toList=some cells:=by rw [hx'];exact hf
      simp only [cj,execOp,Instr.build,Sem.run_bind,zeroValue,typeInfo,ic,Result.andThen_ok,hi,hz',Sem.run_pure,run_underlying ht,eY hie,hs1,hf']
theorem gt {t n c m j b:Nat} {x hi:Operand} {v:Value} {M:Nat→Nat→Int} {i:Int} {k:IntKind} (ht:sliceB P t 41 1 m=true) (hx:ev e x=v) (hH:ce w v n c M b) (hh:ev e hi= .int k i) (hij:i=(j:Int)) (hj:j≤n):
    cQ P ⟨d,.slice t x none (some hi) none,ty,pos,after,gd⟩ e w (fun v w'=>w=w'∧ce w' v j c M b):=by
  obtain ⟨A,kk,rfl,h2,h3,h4⟩:=hH;refine cT (φ:=fun v w'=>ce w' v j c M b) (fy (j:=j) ht hx hh hij (by omega)) ⟨A,kk,rfl,by omega,by omega,fun hj0=> ?_⟩;obtain ⟨h,o,m',f,hA,hm,ha,hf⟩:=h4 (by omega);exact ⟨h,o,m',f,hA,by omega,ha,fun i hi=>hf i (by omega)⟩
theorem ea {t T m b g n cap g1 o1 kk c1:Nat} {x y:Operand} {f h:Nat→Value} {z:Value} (zl:List Value) (ht:sliceB P t T m b=true) (hb:b≤32) (hz:(P.info? T).bind (·.zero)=some z) (hzl:z.cells=zl.toArray) (hzn:zl.length=m) (hm0:0<m)
    (hx:ev e x= .slice (some ⟨g,0,none⟩) n cap) (hy:ev e y= .slice (some ⟨g1,o1,none⟩) kk c1) (hA:aY w g T (cap*m) f) (hn:n≤cap) (hcap:cap<9223372036854775808)
    (hc:∀i,i<kk*m→w.cell? ⟨g1,o1 + i,none⟩=some (h i)) (h1:∀i,i<kk*m→(h i).oneCell'=true) (hnk:n + kk≤1048576):
    cQ P ⟨d,.call {callee:= .builtin .append,args:= #[x,y],argTypes:= #[t,t]},ty,pos,after,gd⟩ e w
      (fun v' w'=>Keeps (fun b=>b=g) w w'∧∃g' cap' f',v'= .slice (some ⟨g',0,none⟩) (n + kk) cap'∧n + kk≤cap'∧cap'<9223372036854775808∧((g'=g∧cap'=cap∧n + kk≤cap)∨(w.heap.size≤g'∧aA w w'))∧aY w' g' T (cap'*m) f'∧
        (∀i,i<n*m→f' i=f i)∧∀i,i<kk*m→f' (n*m + i)=h i):=by
  obtain ⟨hu,i0,hi0,hm,hbb⟩:=bJ ht;subst hm;have hz':i0.zero=some z:=by rw [hi0] at hz;simpa using hz
  have hzs:z.cells.size=i0.size:=by rw [hzl];simpa using hzn
  have hlen:((List.range (kk*i0.size)).map h).length=kk*i0.size:=by simp
  have hnews:∀(j:Nat) (u:Value),((List.range (kk*i0.size)).map h)[j]? =some u→w.cell? ((⟨g1,o1,none⟩:Addr).add j)=some u:=by
    intro j u hj;obtain ⟨h5,h6⟩:=List.getElem?_eq_some_iff.1 hj;simp at h5 h6;rw [Addr.add_lit,hc j h5,h6]
  have hone:∀u∈(List.range (kk*i0.size)).map h,u.oneCell'=true:=by
    intro u hu;simp only [List.mem_map,List.mem_range] at hu;obtain ⟨j,hj,rfl⟩:=hu;exact h1 j hj
  by_cases hr:n + kk≤cap
  · have hle:n*i0.size + kk*i0.size≤cap*i0.size:=by rw [←Nat.add_mul];exact Nat.mul_le_mul_right _ hr
    obtain ⟨w',hs,hk,ha⟩:=cJ P (off:=n*i0.size) ((List.range (kk*i0.size)).map h) 0 w f hA (by rw [hlen];omega) hone;have hcell:∀j,j<((List.range (kk*i0.size)).map h).length→(w.cell? ⟨g,0 + n*i0.size + j,none⟩).isSome=true:=by
      intro j hj;rw [hlen] at hj;rw [hA.cell (i:=0 + n*i0.size + j) (by omega)]
      rfl
    have hfr:∀j,j<((List.range (kk*i0.size)).map h).length→w.frozen? ⟨g,0 + n*i0.size + j,none⟩=false:=fun j _=>hA.frozen _
    have hrun:=run_append_room_cells (P:=P) w t ty T i0 hu hi0 g 0 n cap ⟨g1,o1,none⟩ kk c1 ((List.range (kk*i0.size)).map h) hlen hnews hone hr hcell hfr;have hst:=run_storeCells_cells (P:=P) g (0 + n*i0.size) ((List.range (kk*i0.size)).map h) 0 w (by simpa using hcell) (by simpa using hfr) hone;have hw:w.setCells g (0 + n*i0.size) ((List.range (kk*i0.size)).map h)=w':=by
      rw [Nat.zero_add] at hst⊢;rw [hs] at hst;simp only [Nat.add_zero] at hst
      injection hst with _ h
      exact h.symm
    rw [hw] at hrun;refine cD (w':=w') (v:= .slice (some ⟨g,0,none⟩) (n + kk) cap) (by simp [execOp,resolve,invoke,builtin,hx,hy,hrun,Result.andThen]) ?_;refine ⟨hk,g,cap,_,rfl,hr,hcap,.inl ⟨rfl,rfl,hr⟩,ha,fun i hi=> ?_,fun i hi=> ?_⟩
    · rw [Nat.add_zero,nm f h];rw [if_neg (by omega)]
    · rw [Nat.add_zero,nm f h,if_pos (by omega)];congr 1;omega
  · obtain ⟨v',w',hrun,r1,r2⟩:=run_append_arg_grows (P:=P) w t ty T i0 z i0.size b hu hi0 hz' rfl hbb hzs hm0 ⟨g,0,none⟩ n cap ((List.range (n*i0.size)).map f) (by simp)
      (fun j u hj=>by
        obtain ⟨h5,h6⟩:=List.getElem?_eq_some_iff.1 hj;simp at h5 h6;have:n*i0.size≤cap*i0.size:=Nat.mul_le_mul_right _ hn;rw [Addr.add_lit,Nat.zero_add,hA.cell (i:=j) (by omega),h6]) ⟨g1,o1,none⟩ kk c1 ((List.range (kk*i0.size)).map h) hlen hnews (by omega) (by simp only [maxLen];omega) (by have:=Nat.mul_le_mul hnk hb;omega)
    refine cD (w':=w') (v:=v') (by simp [execOp,resolve,invoke,builtin,hx,hy,hrun,Result.andThen]) ?_;rcases r1.2 with ⟨_,h0⟩ | ⟨g',cap',cur,hv',hg,hh,h5,h6,h7,h8⟩
    · omega
    · refine ⟨⟨r2.os,r2.tape,r2.output,r2.size,fun k hk _=>r2.block k hk (by simp)⟩,g',cap',fun i=>cur.getD i undef,hv',h5,by simp only [maxLen] at h6;omega,.inr ⟨hg,⟨r2.os,r2.tape,r2.output,r2.size,fun k hk=>r2.block k hk (by simp)⟩⟩,⟨cur,hh,h7,fun i hi=>by simp [h7,hi]⟩,fun i hi=> ?_,fun i hi=> ?_⟩
      · have hlt:i<(n + kk)*i0.size:=by rw [Nat.add_mul];omega
        have h9:(cur.toList.take ((n + kk)*i0.size))[i]? =((List.range (n*i0.size)).map f ++ (List.range (kk*i0.size)).map h)[i]? :=by rw [h8]
        rw [List.getElem?_take,if_pos hlt,List.getElem?_append_left (by simpa using hi)] at h9;simp [hi] at h9;simp [h9]
      · have hlt:n*i0.size + i<(n + kk)*i0.size:=by rw [Nat.add_mul];omega
        have h9:(cur.toList.take ((n + kk)*i0.size))[n*i0.size + i]? =((List.range (n*i0.size)).map f ++ (List.range (kk*i0.size)).map h)[n*i0.size + i]? :=by rw [h8]
        rw [List.getElem?_take,if_pos hlt,List.getElem?_append_right (by simp)] at h9;simp [hi] at h9;simp [h9]
end
end Go.TL
namespace Go.TL
open Go.Proofs
set_option maxRecDepth 100000
theorem am:Tryz.prog.follows .mixedOrders=true:=by kernel_rfl
theorem xV:iZ Tryz.prog 121 2=true:=by kernel_rfl
theorem zI:iZ Tryz.prog 24 3=true:=by kernel_rfl
theorem aV:iZ Tryz.prog 28 3=true:=by kernel_rfl
theorem sK:iZ Tryz.prog 31 9=true:=by kernel_rfl
theorem aq:iZ Tryz.prog 49 2=true:=by kernel_rfl
theorem qY:Tryz.prog.underlying 4=some .bool:=by kernel_rfl
theorem sJ:ax Tryz.prog 100=true:=by kernel_rfl
theorem xT:ax Tryz.prog 101=true:=by kernel_rfl
theorem xS:ax Tryz.prog 102=true:=by kernel_rfl
theorem xR:ax Tryz.prog 103=true:=by kernel_rfl
theorem xQ:ax Tryz.prog 104=true:=by kernel_rfl
theorem mh:ax Tryz.prog 105=true:=by kernel_rfl
theorem mg:ax Tryz.prog 107=true:=by kernel_rfl
theorem xP:ax Tryz.prog 108=true:=by kernel_rfl
theorem xO:ax Tryz.prog 109=true:=by kernel_rfl
theorem nA:ax Tryz.prog 11=true:=by kernel_rfl
theorem fG:ax Tryz.prog 110=true:=by kernel_rfl
theorem sI:ax Tryz.prog 111=true:=by kernel_rfl
theorem sH:ax Tryz.prog 112=true:=by kernel_rfl
theorem xN:ax Tryz.prog 113=true:=by kernel_rfl
theorem oE:ax Tryz.prog 114=true:=by kernel_rfl
theorem xM:ax Tryz.prog 115=true:=by kernel_rfl
theorem xL:ax Tryz.prog 118=true:=by kernel_rfl
theorem xK:ax Tryz.prog 119=true:=by kernel_rfl
theorem zH:ax Tryz.prog 12=true:=by kernel_rfl
theorem xJ:ax Tryz.prog 120=true:=by kernel_rfl
theorem xI:ax Tryz.prog 121=true:=by kernel_rfl
theorem xH:ax Tryz.prog 122=true:=by kernel_rfl
theorem xG:ax Tryz.prog 123=true:=by kernel_rfl
theorem xF:ax Tryz.prog 124=true:=by kernel_rfl
theorem xE:ax Tryz.prog 125=true:=by kernel_rfl
theorem xD:ax Tryz.prog 126=true:=by kernel_rfl
theorem xC:ax Tryz.prog 127=true:=by kernel_rfl
theorem xB:ax Tryz.prog 128=true:=by kernel_rfl
theorem oD:ax Tryz.prog 129=true:=by kernel_rfl
theorem nz:ax Tryz.prog 13=true:=by kernel_rfl
theorem sG:ax Tryz.prog 130=true:=by kernel_rfl
theorem sF:ax Tryz.prog 131=true:=by kernel_rfl
theorem xA:ax Tryz.prog 132=true:=by kernel_rfl
theorem sE:ax Tryz.prog 133=true:=by kernel_rfl
theorem xz:ax Tryz.prog 134=true:=by kernel_rfl
theorem zG:ax Tryz.prog 15=true:=by kernel_rfl
theorem sD:ax Tryz.prog 17=true:=by kernel_rfl
theorem xa:ax Tryz.prog 19=true:=by kernel_rfl
theorem wZ:ax Tryz.prog 21=true:=by kernel_rfl
theorem lm:ax Tryz.prog 23=true:=by kernel_rfl
theorem sC:ax Tryz.prog 24=true:=by kernel_rfl
theorem sB:ax Tryz.prog 26=true:=by kernel_rfl
theorem nw:ax Tryz.prog 29=true:=by kernel_rfl
theorem sA:ax Tryz.prog 31=true:=by kernel_rfl
theorem wX:ax Tryz.prog 34=true:=by kernel_rfl
theorem gW:ax Tryz.prog 36=true:=by kernel_rfl
theorem zC:ax Tryz.prog 37=true:=by kernel_rfl
theorem zB:ax Tryz.prog 38=true:=by kernel_rfl
theorem sw:ax Tryz.prog 39=true:=by kernel_rfl
theorem zA:ax Tryz.prog 40=true:=by kernel_rfl
theorem wW:ax Tryz.prog 41=true:=by kernel_rfl
theorem ll:ax Tryz.prog 42=true:=by kernel_rfl
theorem sv:ax Tryz.prog 43=true:=by kernel_rfl
theorem su:ax Tryz.prog 44=true:=by kernel_rfl
theorem wV:ax Tryz.prog 45=true:=by kernel_rfl
theorem wU:ax Tryz.prog 46=true:=by kernel_rfl
theorem zz:ax Tryz.prog 47=true:=by kernel_rfl
theorem pK:ax Tryz.prog 49=true:=by kernel_rfl
theorem wT:ax Tryz.prog 52=true:=by kernel_rfl
theorem pJ:ax Tryz.prog 56=true:=by kernel_rfl
theorem st:ax Tryz.prog 59=true:=by kernel_rfl
theorem wS:ax Tryz.prog 60=true:=by kernel_rfl
theorem wR:ax Tryz.prog 61=true:=by kernel_rfl
theorem wQ:ax Tryz.prog 62=true:=by kernel_rfl
theorem zw:ax Tryz.prog 63=true:=by kernel_rfl
theorem zt:ax Tryz.prog 64=true:=by kernel_rfl
theorem wP:ax Tryz.prog 65=true:=by kernel_rfl
theorem nt:ax Tryz.prog 66=true:=by kernel_rfl
theorem zr:ax Tryz.prog 67=true:=by kernel_rfl
theorem jS:ax Tryz.prog 68=true:=by kernel_rfl
theorem zq:ax Tryz.prog 70=true:=by kernel_rfl
theorem ss:ax Tryz.prog 71=true:=by kernel_rfl
theorem wO:ax Tryz.prog 72=true:=by kernel_rfl
theorem jj:ax Tryz.prog 74=true:=by kernel_rfl
theorem zp:ax Tryz.prog 75=true:=by kernel_rfl
theorem so:ax Tryz.prog 76=true:=by kernel_rfl
theorem zn:ax Tryz.prog 77=true:=by kernel_rfl
theorem pI:ax Tryz.prog 78=true:=by kernel_rfl
theorem zm:ax Tryz.prog 79=true:=by kernel_rfl
theorem pH:ax Tryz.prog 80=true:=by kernel_rfl
theorem pG:ax Tryz.prog 81=true:=by kernel_rfl
theorem zj:ax Tryz.prog 82=true:=by kernel_rfl
theorem zi:ax Tryz.prog 83=true:=by kernel_rfl
theorem zh:ax Tryz.prog 84=true:=by kernel_rfl
theorem zg:ax Tryz.prog 85=true:=by kernel_rfl
theorem zf:ax Tryz.prog 86=true:=by kernel_rfl
theorem pF:ax Tryz.prog 87=true:=by kernel_rfl
theorem ze:ax Tryz.prog 88=true:=by kernel_rfl
theorem zd:ax Tryz.prog 89=true:=by kernel_rfl
theorem AD:ax Tryz.prog 9=true:=by kernel_rfl
theorem zc:ax Tryz.prog 90=true:=by kernel_rfl
theorem zb:ax Tryz.prog 92=true:=by kernel_rfl
theorem za:ax Tryz.prog 93=true:=by kernel_rfl
theorem yZ:ax Tryz.prog 94=true:=by kernel_rfl
theorem yY:ax Tryz.prog 95=true:=by kernel_rfl
theorem yX:ax Tryz.prog 96=true:=by kernel_rfl
theorem yW:ax Tryz.prog 97=true:=by kernel_rfl
theorem yV:ax Tryz.prog 98=true:=by kernel_rfl
theorem yU:ax Tryz.prog 99=true:=by kernel_rfl
theorem pE:gH Tryz.prog 24 0 0=true:=by kernel_rfl
theorem vj:gH Tryz.prog 24 2 2=true:=by kernel_rfl
theorem aX:gH Tryz.prog 28 0 0=true:=by kernel_rfl
theorem bC:gH Tryz.prog 28 1 1=true:=by kernel_rfl
theorem aw:gH Tryz.prog 28 2 2=true:=by kernel_rfl
theorem dS:gH Tryz.prog 31 0 0=true:=by kernel_rfl
theorem fY:gH Tryz.prog 31 1 3=true:=by kernel_rfl
theorem jy:gH Tryz.prog 31 2 6=true:=by kernel_rfl
theorem bI:gH Tryz.prog 49 0 0=true:=by kernel_rfl
theorem aH:gH Tryz.prog 49 1 1=true:=by kernel_rfl
theorem cB:gH Tryz.prog 74 0 0=true:=by kernel_rfl
theorem dF:gH Tryz.prog 74 1 3=true:=by kernel_rfl
theorem jx:gH Tryz.prog 74 2 6=true:=by kernel_rfl
theorem mf:iS Tryz.prog 28 2 26 2=true:=by kernel_rfl
theorem pD:iS Tryz.prog 31 0 28 0=true:=by kernel_rfl
theorem be:jt Tryz.prog 101 .u32=true:=by kernel_rfl
theorem qX:jt Tryz.prog 2 .i64=true:=by kernel_rfl
theorem vi:jt Tryz.prog 3 .i64=true:=by kernel_rfl
theorem vh:jt Tryz.prog 5 .u8=true:=by kernel_rfl
theorem yT:jt Tryz.prog 57 .i8=true:=by kernel_rfl
theorem bM:jt Tryz.prog 99 .u64=true:=by kernel_rfl
theorem bl:oneB Tryz.prog 101=true:=by kernel_rfl
theorem AC:oneB Tryz.prog 2=true:=by kernel_rfl
theorem yS:oneB Tryz.prog 22=true:=by kernel_rfl
theorem aU:oneB Tryz.prog 26=true:=by kernel_rfl
theorem bD:oneB Tryz.prog 3=true:=by kernel_rfl
theorem dC:oneB Tryz.prog 4=true:=by kernel_rfl
theorem bn:oneB Tryz.prog 41=true:=by kernel_rfl
theorem bA:oneB Tryz.prog 47=true:=by kernel_rfl
theorem yR:oneB Tryz.prog 5=true:=by kernel_rfl
theorem yQ:oneB Tryz.prog 57=true:=by kernel_rfl
theorem jR:gb Tryz.prog 28 [(0,1),(1,1),(2,1)]=true:=by kernel_rfl
theorem wM:gb Tryz.prog 31 [(0,3),(3,3),(6,3)]=true:=by kernel_rfl
theorem lk:gb Tryz.prog 49 [(0,1),(1,1)]=true:=by kernel_rfl
theorem yP:gb Tryz.prog 74 [(0,3),(3,3),(6,3)]=true:=by kernel_rfl
theorem xx:uJ Tryz.prog 121 3=true:=by kernel_rfl
theorem xv:Tryz.prog.eqGuardType Tryz.prog.depth 121=false:=by kernel_rfl
theorem wL:sliceB Tryz.prog 22 57 1 1=true:=by kernel_rfl
theorem aK:sliceB Tryz.prog 26 41 1 24=true:=by kernel_rfl
theorem bE:sliceB Tryz.prog 41 49 2 32=true:=by kernel_rfl
theorem cA:sliceB Tryz.prog 42 49 2 32=true:=by kernel_rfl
theorem al:sliceB Tryz.prog 47 101 1 4=true:=by kernel_rfl
theorem fF:sliceB Tryz.prog 69 2 1 8=true:=by kernel_rfl
theorem AB:Tryz.prog.underlying 9=some .string:=by kernel_rfl
theorem xu:Tryz.prog.underlying 121=some (.array 2 3):=by kernel_rfl
theorem di:(Tryz.prog.info? 101).bind (·.zero)=some (.int .u32 0):=by kernel_rfl
theorem sj:(Tryz.prog.info? 121).bind (·.zero)=some (.agg #[.int .i64 0,.int .i64 0]):=by kernel_rfl
theorem me:(Tryz.prog.info? 2).bind (·.zero)=some (.int .i64 0):=by kernel_rfl
theorem cn:(Tryz.prog.info? 28).bind (·.zero)=some (.agg #[.int .i64 0,.int .i64 0,.slice none 0 0]):=by kernel_rfl
theorem AA:(Tryz.prog.info? 3).bind (·.zero)=some (.int .i64 0):=by kernel_rfl
theorem no:(Tryz.prog.info? 31).bind (·.zero)=some (.agg #[.int .i64 0,.int .i64 0,.slice none 0 0,.int .i64 0,.int .i64 0,.slice none 0 0,.int .i64 0,.int .i64 0,.slice none 0 0]):=by kernel_rfl
theorem pC:(Tryz.prog.info? 41).bind (·.zero)=some (.slice none 0 0):=by kernel_rfl
theorem bH:(Tryz.prog.info? 49).bind (·.zero)=some (.agg #[.bool false,.slice none 0 0]):=by kernel_rfl
theorem yO:(Tryz.prog.info? 74).bind (·.zero)=some (.agg #[.int .i64 0,.int .i64 0,.slice none 0 0,.int .i64 0,.int .i64 0,.slice none 0 0,.int .i64 0,.int .i64 0,.slice none 0 0]):=by kernel_rfl
theorem jQ:(Array.range (1*1)).map (fun i=>([.int .u32 (0)]:List Value).toArray[i % ([.int .u32 (0)]:List Value).toArray.size]!)= #[.int .u32 (0)]:=by kernel_rfl
theorem nn:(Array.range (2*1)).map (fun i=>([.int .u32 (0)]:List Value).toArray[i % ([.int .u32 (0)]:List Value).toArray.size]!)= #[.int .u32 (0),.int .u32 (0)]:=by kernel_rfl
theorem xr:(Array.range (1*1)).map (fun i=>([.int .i64 (0)]:List Value).toArray[i % ([.int .i64 (0)]:List Value).toArray.size]!)= #[.int .i64 (0)]:=by kernel_rfl
theorem md:(Array.range (2*1)).map (fun i=>([.int .i64 (0)]:List Value).toArray[i % ([.int .i64 (0)]:List Value).toArray.size]!)= #[.int .i64 (0),.int .i64 (0)]:=by kernel_rfl
theorem mc:(Array.range (4*1)).map (fun i=>([.int .i64 (0)]:List Value).toArray[i % ([.int .i64 (0)]:List Value).toArray.size]!)= #[.int .i64 (0),.int .i64 (0),.int .i64 (0),.int .i64 (0)]:=by kernel_rfl
theorem vg:(Array.range (1*1)).map (fun i=>([.slice none 0 0]:List Value).toArray[i % ([.slice none 0 0]:List Value).toArray.size]!)= #[.slice none 0 0]:=by kernel_rfl
theorem dl:ey Tryz.prog 101 1=true:=by kernel_rfl
theorem xq:ey Tryz.prog 121 2=true:=by kernel_rfl
theorem cR:ey Tryz.prog 28 3=true:=by kernel_rfl
theorem yN:ey Tryz.prog 3 1=true:=by kernel_rfl
theorem si:ey Tryz.prog 31 9=true:=by kernel_rfl
theorem ji:ey Tryz.prog 41 1=true:=by kernel_rfl
theorem bf:ey Tryz.prog 49 2=true:=by kernel_rfl
end Go.TL
