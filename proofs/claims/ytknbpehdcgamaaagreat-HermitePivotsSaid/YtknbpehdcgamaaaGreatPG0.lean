/-
  Lemmas towards the theorem of this claim (part 0).
  Conditions: those that each theorem names.
-/
import Derived.Orders
import Derived.Tactics
import Derived.Below
import Derived.Scope
import Derived.ScopeJumps
import Derived.WalkKit
import Derived.WalkSpells
import Derived.ArgAppend
import Derived.Lib.SliceRun
namespace Go.TL
open Go.RowKit
abbrev cl:=Nat→Value
def wK (e:cl) (d:Nat) (v:Value):cl:=fun i=>bif Nat.beq i d then v else e i
def et (e:cl) (d:Option Nat) (v:Value):cl:=
  match d with
  | some d=>wK e d v
  | none=>e
theorem bO (e:cl) (d:Nat) (v:Value):wK e d v d=v:=by simp [wK]
theorem co (e:cl) (d i:Nat) (v:Value) (h:i≠d):wK e d v i=e i:=by
  have:Nat.beq i d=false:=by
    cases hb:Nat.beq i d with
    | true=>exact absurd (Nat.eq_of_beq_eq_true hb) h
    | false=>rfl
  simp [wK,this]
def ev (e:cl):Operand→Value
  | .tmp t=>e t
  | .const v=>v
  | .global g=> .pointer (some ⟨g,0,none⟩)
  | .func f=> .func (.func f) #[] #[]
structure IsE (N:Nat) (a:Act) (e:cl):Prop where
  size:a.tmps.size=N
  defers:a.defers= []
  get:∀t,a.tmps.getD t undef=e t
theorem IsE.eval {N:Nat} {a:Act} {e:cl} (h:IsE N a e):a.eval=ev e:=by
  funext x
  cases x with
  | tmp t=>exact h.get t
  | const v=>rfl
  | global g=>rfl
  | func f=>rfl
def fK (N:Nat):Option Nat→Bool
  | some d=>Nat.blt d N
  | none=>true
theorem IsE.put {N:Nat} {a:Act} {e:cl} (h:IsE N a e) {d:Option Nat} (hd:fK N d=true) (v:Value):IsE N (a.put d v) (et e d v):=by
  cases d with
  | none=>exact h
  | some d=>
    have hlt:d<N:=by simpa [fK,Nat.blt_eq] using hd
    refine ⟨by simp [Act.put,h.size],by simp [Act.put,h.defers],fun t=> ?_⟩;simp only [Act.put,et]
    by_cases ht:t=d
    · subst ht
      rw [bO];simp [h.size,hlt]
    · rw [co _ _ _ _ ht,←h.get t]
      simp [Array.getElem?_setIfInBounds_ne (Ne.symm ht)]
abbrev da:=Exit→cl→World→Prop
def WP (P:Program) (N:Nat) (c:Code) (Q:da) (e:cl) (w:World):Prop:=
  ∀a,IsE N a e→c.wp P (fun x a' w'=>∃e',IsE N a' e'∧Q x e' w') a w
def pl (K:cl→World→Prop) (Q:da):da
  | .normal,e,w=>K e w
  | x,e,w=>Q x e w
def iD (id:Nat) (Q:da):da
  | .exit i,e,w=>bif Nat.beq i id then Q .normal e w else Q (.exit i) e w
  | x,e,w=>Q x e w
section
variable {P:Program} {N:Nat} {Q:da} {e:cl} {w:World}
theorem WP.mono {c:Code} {Q':da} (h:WP P N c Q e w) (hq:∀x e w,Q x e w→Q' x e w):WP P N c Q' e w:=
  fun a ha=>Code.wp_mono (fun _ _ _ ⟨e',h1,h2⟩=>⟨e',h1,hq _ _ _ h2⟩) (h a ha)
theorem WP.skip (h:Q .normal e w):WP P N .skip Q e w:=fun _ ha=>wp_skip ⟨e,ha,h⟩
theorem WP.label {l:Nat} (h:Q .normal e w):WP P N (.label l) Q e w:=fun _ ha=>wp_label ⟨e,ha,h⟩
theorem WP.exit {id:Nat} (h:Q (.exit id) e w):WP P N (.exit id) Q e w:=fun _ ha=>wp_exit ⟨e,ha,h⟩
theorem WP.goto {l:Nat} (h:Q (.goto l) e w):WP P N (.goto l) Q e w:=fun _ ha=>wp_goto ⟨e,ha,h⟩
theorem WP.ret (h:Q .ret e w):WP P N .ret Q e w:=fun _ ha=>wp_ret ⟨e,ha,h⟩
theorem WP.seq {x y:Code} (h:WP P N x (pl (fun e w=>WP P N y Q e w) Q) e w):WP P N (.seq x y) Q e w:=by
  intro a ha;refine wp_seq (Code.wp_mono (fun ex a' w' hh=> ?_) (h a ha));obtain ⟨e',h1,h2⟩:=hh;cases ex<;>first | exact h2 a' h1 | exact ⟨e',h1,h2⟩
theorem WP.cond {c:Operand} {x y:Code} (b:Bool) (hc:ev e c= .bool b) (h1:b=true→WP P N x Q e w) (h2:b=false→WP P N y Q e w):
    WP P N (.cond c x y) Q e w:=fun a ha=>wp_cond_split (t:=b) (by rw [ha.eval];exact hc) (fun h=>h1 h a ha) (fun h=>h2 h a ha)
theorem ae {c:Operand} {x y:Code} (p:Prop) [Decidable p] (hc:ev e c= .bool (decide p)) (h1:p→WP P N x Q e w) (h2:¬p→WP P N y Q e w):
    WP P N (.cond c x y) Q e w:=WP.cond _ hc (fun h=>h1 (of_decide_eq_true h)) (fun h=>h2 (of_decide_eq_false h))
theorem WP.block {id:Nat} {c:Code} (h:WP P N c (iD id Q) e w):WP P N (.block id c) Q e w:=by
  intro a ha;refine wp_block (Code.wp_mono (fun ex a' w' hh=> ?_) (h a ha));obtain ⟨e',h1,h2⟩:=hh;cases ex with
  | exit i=>
    simp only [iD] at h2;simp only [Exit.inBlock]
    by_cases hi:i=id
    · subst hi
      rw [if_pos rfl];exact ⟨e',h1,by simpa using h2⟩
    · have hb:Nat.beq i id=false:=by
        cases hb:Nat.beq i id with
        | true=>exact absurd (Nat.eq_of_beq_eq_true hb) hi
        | false=>rfl
      rw [if_neg hi];exact ⟨e',h1,by simpa [hb] using h2⟩
  | _=>exact ⟨e',h1,h2⟩
theorem WP.scope {c:Code} (h:WP P N c (fun x e w=>match x with | .goto _=>False | x=>Q x e w) e w):WP P N (.scope c) Q e w:=by
  intro a ha;refine wp_scope_straight (Code.wp_mono (fun ex a' w' hh=> ?_) (h a ha));obtain ⟨e',h1,h2⟩:=hh;cases ex<;>first | exact h2.elim | exact ⟨e',h1,h2⟩
theorem WP.loop {c:Code} (I:Nat→cl→World→Prop) (m:Nat) (h0:I m e w)
    (hr:∀m e w,I m e w→WP P N c (pl (fun e' w'=>∃m',m'<m∧I m' e' w') Q) e w):WP P N (.loop c) Q e w:=by
  intro a ha b k cs;have key:∀m a e w,IsE N a e→I m e w→
      ∃x a' w',(∃e',IsE N a' e'∧Q x e' w')∧Arrives P (lone (b.at a (.code c:: .inLoop c::k)) cs w) b k cs x a' w':=by
    intro m
    induction m using Nat.strongRecOn with
    | _ m ih=>
      intro a e w ha hI;obtain ⟨x,a₁,w₁,⟨e₁,he₁,hq⟩,harr⟩:=hr m e w hI a ha b (.inLoop c::k) cs;cases x with
      | normal=>
        obtain ⟨m',hlt,hI₁⟩:=hq;obtain ⟨e₂,a₂,w₂,hq₂,harr₂⟩:=ih m' hlt a₁ e₁ w₁ he₁ hI₁;exact ⟨e₂,a₂,w₂,hq₂,.of_steps (Steps.trans harr (.one step_inLoop)) harr₂⟩
      | exit id=>exact ⟨_,a₁,w₁,⟨e₁,he₁,hq⟩,.pass (x:= .inLoop c) rfl (fun _ _=> .inl (by simp)) harr⟩
      | goto l=>exact ⟨_,a₁,w₁,⟨e₁,he₁,hq⟩,.pass (x:= .inLoop c) rfl (fun _ _=> .inl (by simp)) harr⟩
      | ret=>exact ⟨_,a₁,w₁,⟨e₁,he₁,hq⟩,.pass (x:= .inLoop c) rfl (fun _ _=> .inl (by simp)) harr⟩
      | panic ch=>exact ⟨_,a₁,w₁,⟨e₁,he₁,hq⟩,.pass (x:= .inLoop c) rfl (fun _ _=> .inl (by simp)) harr⟩
      | outgrown=>exact ⟨_,a₁,w₁,⟨e₁,he₁,hq⟩,.pass (x:= .inLoop c) rfl (fun _ _=> .inl (by simp)) harr⟩
  obtain ⟨x,a',w',hq,harr⟩:=key m a e w ha h0;exact ⟨x,a',w',hq,.of_steps (.one step_loop) harr⟩
end
abbrev aA (w w':World):Prop:=Below w.heap.size w w'
theorem aA.refl (w:World):aA w w:=Below.refl _ _
theorem aA.trans {a b c:World} (h:aA a b) (k:aA b c):aA a c:=Below.trans h (k.mono h.size)
def cj (P:Program) (o:Oper) (e:cl) (w:World) (v:Value):Prop:=(execOp (ev e) o).run P w= .ok (.value v) w
def cQ (P:Program) (o:Oper) (e:cl) (w:World) (R:Value→World→Prop):Prop:=
  ∀(a:Act),a.eval=ev e→∀(K:Act→World→Prop) (Q:Exit→Act→World→Prop),(∀v w',R v w'→K (a.put o.dst v) w')→o.wp P a w K Q
theorem cj.opX {P:Program} {o:Oper} {e:cl} {w:World} {v:Value} (h:cj P o e w v):cQ P o e w (fun v' w'=>v'=v∧w'=w):=by
  intro a ha K Q hK
  unfold Oper.wp
  rw [ha,h];exact hK v w ⟨rfl,rfl⟩
theorem cQ.mono {P:Program} {o:Oper} {e:cl} {w:World} {R R':Value→World→Prop} (h:cQ P o e w R) (hr:∀v w',R v w'→R' v w'):cQ P o e w R':=
  fun a ha K Q hK=>h a ha K Q fun v w' hv=>hK v w' (hr v w' hv)
def RL (P:Program) (N:Nat) (ops:Array Oper) (K:cl→World→Prop) (l:List Oper) (e:cl) (w:World):Prop:=
  ∀a Q,IsE N a e→(∀a' e' w',IsE N a' e'→K e' w'→Q .normal a' w')→wpList P ops Q l a w
section
variable {P:Program} {N:Nat} {ops:Array Oper} {K:cl→World→Prop} {l:List Oper} {o:Oper} {e:cl} {w:World}
theorem RL.nil (h:K e w):RL P N ops K [] e w:=fun _ _ ha hk=>hk _ _ _ ha h
theorem RL.x {R:Value→World→Prop} (hd:fK N o.dst=true) (hg:o.guard=none) (h:cQ P o e w R)
    (k:∀v w',R v w'→RL P N ops K l (et e o.dst v) w'):RL P N ops K (o::l) e w:=by
  intro a Q ha hk;refine wpList_plain hg fun K' hK'=>h a ha.eval K' Q fun v w' hv=>hK' _ _ (k v w' hv _ Q (ha.put hd v) hk)
theorem RL.p {v:Value} (hd:fK N o.dst=true) (hg:o.guard=none) (h:cj P o e w v) (k:RL P N ops K l (et e o.dst v) w):RL P N ops K (o::l) e w:=
  RL.x hd hg h.opX fun _ _ ⟨h1,h2⟩=>h1▸h2▸k
theorem WP.region {id:Nat} {l:List Oper} {Q:da} (h:RL P N l.toArray (fun e w=>Q .normal e w) l e w):WP P N (.region id l.toArray false) Q e w:=
  fun a ha=>wp_region_lit (h a _ ha fun _ e' _ h1 h2=>⟨e',h1,h2⟩)
theorem ab {id:Nat} {l:List Oper} {y:Code} {Q:da} (h:RL P N l.toArray (fun e w=>WP P N y Q e w) l e w):
    WP P N (.seq (.region id l.toArray false) y) Q e w:=WP.seq (WP.region h)
end
end Go.TL
namespace Go.TL
open Go.RowKit
abbrev cf:=Value→World→Prop
def ju (o:Oper) (j:Nat):Bool:=o.after.toList.any fun e=>Nat.beq e.on j&&Region.binds .any e
def aZ (l:List Oper) (j:Nat):Nat:=match l[j]? with | some o=>o.dst.getD 0 | none=>0
def eE (l:List Oper) (n:Nat) (t:Nat):Bool:=(l.take n).any fun o=>match o.dst with | some d=>Nat.beq t d | none=>false
def cK (Φ:List cf) (j:Nat) (v:Value) (w:World):Prop:=match Φ[j]? with | some φ=>φ v w | none=>True
def mP (acc:List Nat) (o:Oper):Nat:=o.after.toList.foldl (fun s e=>bif Region.binds .any e then s ||| (2^e.on) ||| (acc[e.on]?.getD 0) else s) 0
def oh (l:List Oper):List Nat:=l.foldl (fun acc o=>acc ++ [mP acc o]) []
def dI (f:Nat→Bool):Nat→Bool
  | 0=>true
  | n + 1=>f n&&dI f n
theorem cX {f:Nat→Bool}:∀{n:Nat},dI f n=true→∀i,i<n→f i=true
  | 0,_,i,hi=>by omega
  | n + 1,h,i,hi=>by
    simp only [dI,Bool.and_eq_true] at h
    by_cases e:i=n
    · subst e;exact h.1
    · exact cX h.2 i (by omega)
def rT (l:List Oper):Bool:=dI (fun i=>match l[i]? with | some o=>o.after.toList.all fun e=> !Region.binds .any e || Nat.blt e.on i | none=>true) l.length
def ys (N n:Nat) (l:List Oper):Bool:=dI (fun i=>match l[i]? with
  | some o=>(match o.dst with | some d=>Nat.blt d N&&dI (fun j=> !Nat.beq (aZ l j) d) i | none=>false)&&(match o.guard with | some (g,_)=>ju o g&&Nat.blt g n | none=>true)
  | none=>false) n
def xU (tk:Nat→Bool) (n:Nat) (l:List Oper) (m:List Nat):Bool:=dI (fun i=>Nat.blt i n || dI (fun j=>(m[i]?.getD 0).testBit j || tk j) i) l.length
def fc (tk:Nat→Bool) (N n:Nat) (l:List Oper):Bool:=Nat.ble n l.length&&rT l&&ys N n l&&xU tk n l (oh l)
def it (N n:Nat) (l:List Oper):Bool:=fc (fun _=>false) N n l
inductive Anc (l:List Oper):Nat→Nat→Prop
  | ju {i:Nat} {o:Oper} {e:Edge} (ho:l[i]? =some o) (he:e∈o.after) (hb:Region.binds .any e=true):Anc l i e.on
  | step {i j:Nat} {o:Oper} {e:Edge} (ho:l[i]? =some o) (he:e∈o.after) (hb:Region.binds .any e=true) (h:Anc l e.on j):Anc l i j
theorem mO (l:List Oper) (acc:List Nat) (i:Nat) (o:Oper) (ho:l[i]? =some o) (hacc:∀k j,(acc[k]?.getD 0).testBit j=true→Anc l k j):
    ∀j,(mP acc o).testBit j=true→Anc l i j:=by
  have key:∀(es:List Edge),(∀e∈es,e∈o.after.toList)→∀(s:Nat),(∀j,s.testBit j=true→Anc l i j)→
      ∀j,(es.foldl (fun s e=>bif Region.binds .any e then s ||| (2^e.on) ||| (acc[e.on]?.getD 0) else s) s).testBit j=true→Anc l i j:=by
    intro es
    induction es with
    | nil=>intro _ s hs j h;exact hs j h
    | cons e es ih=>
      intro hes s hs j h;simp only [List.foldl_cons] at h;refine ih (fun e' he'=>hes e' (List.mem_cons_of_mem _ he')) _ ?_ j h;intro j' hj';cases hb:Region.binds .any e with
      | false=>rw [hb] at hj';exact hs j' hj'
      | true=>
        rw [hb] at hj';simp only [cond_true,Nat.testBit_or,Bool.or_eq_true] at hj';have hmem:e∈o.after:=Array.mem_def.2 (hes e List.mem_cons_self);rcases hj' with (h1 | h1) | h1
        · exact hs j' h1
        · rw [Nat.testBit_two_pow] at h1
          have:e.on=j':=by simpa using h1
          subst this;exact .ju ho hmem hb
        · exact .step ho hmem hb (hacc _ _ h1)
  exact fun j h=>key o.after.toList (fun _ h=>h) 0 (by simp) j h
theorem ld (l:List Oper):∀k j,((oh l)[k]?.getD 0).testBit j=true→Anc l k j:=by
  have key:∀(l2 l1:List Oper),l=l1 ++ l2→∀acc:List Nat,acc.length=l1.length→(∀k j,(acc[k]?.getD 0).testBit j=true→Anc l k j)→
      ∀k j,((l2.foldl (fun acc o=>acc ++ [mP acc o]) acc)[k]?.getD 0).testBit j=true→Anc l k j:=by
    intro l2
    induction l2 with
    | nil=>intro l1 _ acc _ h k j hk;exact h k j hk
    | cons o l2 ih=>
      intro l1 hl acc hlen h k j hk;simp only [List.foldl_cons] at hk;refine ih (l1 ++ [o]) (by simp [hl]) _ (by simp [hlen]) ?_ k j hk;intro k' j' hk';rcases Nat.lt_trichotomy k' acc.length with hlt | heq | hgt
      · rw [List.getElem?_append_left hlt] at hk'
        exact h k' j' hk'
      · subst heq
        rw [List.getElem?_append_right (Nat.le_refl _)] at hk';simp only [Nat.sub_self,List.getElem?_cons_zero,Option.getD_some] at hk';exact mO l acc acc.length o (by rw [hl,hlen,List.getElem?_append_right (Nat.le_refl _)];simp) h j' hk'
      · rw [List.getElem?_eq_none (by simp;omega)] at hk'
        simp at hk'
  exact key l [] rfl [] rfl (by simp)
def AR (P:Program) (l:List Oper) (n:Nat) (Φ:List cf) (e0:cl) (w0:World) (o:Oper) (φ:cf):Prop:=
  ∀(e':cl) (w':World),aA w0 w'→(∀t,eE l n t=false→e' t=e0 t)→(∀j,ju o j=true→cK Φ j (e' (aZ l j)) w')→
    match o.guard with
    | none=>cQ P o e' w' (fun v w''=>aA w' w''∧φ v w'')
    | some (g,want)=>(∃b,e' (aZ l g)= .bool b∧(b=want→cQ P o e' w' (fun v w''=>aA w' w''∧φ v w''))∧(b= !want→φ undef w'))∨(e' (aZ l g)=undef∧φ undef w')
def pu (P:Program) (l:List Oper) (n:Nat) (Φ:List cf) (e0:cl) (w0:World):List Oper→List cf→Prop
  | o::l',φ::Φ'=>AR P l n Φ e0 w0 o φ∧pu P l n Φ e0 w0 l' Φ'
  | _,_=>True
def bq (φ:cf):Prop:=∀v w w',φ v w→aA w w'→φ v w'
def eN:List cf→Prop
  | φ::Φ=>bq φ∧eN Φ
  | []=>True
instance:Nonempty (eN []):=⟨trivial⟩
instance {φ:cf} {Φ:List cf} [h:Nonempty (bq φ)] [k:Nonempty (eN Φ)]:Nonempty (eN (φ::Φ)):=h.elim fun h=>k.elim fun k=>⟨h,k⟩
structure Apart (Φ:List cf) where
  ap:Nat→Nat→Bool
  symm:∀i j,ap i j=true→ap j i=true
  own:Nat→Value→World→Nat→Prop
  low:∀j k v w b,ap j k=true→cK Φ j v w→own j v w b→b<w.heap.size
  keep:∀j k v w w' b,ap j k=true→cK Φ j v w→aA w w'→own j v w' b→own j v w b
def Apart.none (Φ:List cf):Apart Φ:=⟨fun _ _=>false,(fun _ _ h=>by cases h),fun _ _ _ _=>False,(fun _ _ _ _ _ h=>by cases h),(fun _ _ _ _ _ _ h=>by cases h)⟩
def Apart.disj {Φ:List cf} (A:Apart Φ) (l:List Oper) (i j:Nat) (e:cl) (w:World):Prop:=A.ap i j=true→∀b,A.own i (e (aZ l i)) w b→¬A.own j (e (aZ l j)) w b
def Apart.fresh {Φ:List cf} (A:Apart Φ) (l:List Oper) (o:Oper) (i:Nat) (e':cl) (w':World) (v:Value) (w'':World):Prop:=
  (∀j,A.ap i j=false)∨(∀b,A.own i v w'' b→w'.heap.size≤b)∨∃k,ju o k=true∧(∀j,A.ap i j=true→A.ap k j=true∧j≠k)∧∀b,A.own i v w'' b→A.own k (e' (aZ l k)) w' b
def yD (P:Program) (l:List Oper) (n:Nat) (Φ:List cf) (A:Apart Φ) (e0:cl) (w0:World) (i:Nat) (o:Oper) (φ:cf):Prop:=
  ∀(e':cl) (w':World),aA w0 w'→(∀t,eE l n t=false→e' t=e0 t)→(∀j,ju o j=true→cK Φ j (e' (aZ l j)) w')→
    match o.guard with
    | none=>cQ P o e' w' (fun v w''=>aA w' w''∧φ v w''∧A.fresh l o i e' w' v w'')
    | some (g,want)=>(∀j,A.ap i j=false)∧((∃b,e' (aZ l g)= .bool b∧(b=want→cQ P o e' w' (fun v w''=>aA w' w''∧φ v w''))∧(b= !want→φ undef w'))∨(e' (aZ l g)=undef∧φ undef w'))
def fS (P:Program) (l:List Oper) (n:Nat) (Φ:List cf) (A:Apart Φ) (e0:cl) (w0:World):Nat→List Oper→List cf→Prop
  | i,o::l',φ::Φ'=>yD P l n Φ A e0 w0 i o φ∧fS P l n Φ A e0 w0 (i + 1) l' Φ'
  | _,_,_=>True
theorem fS.at_ {P:Program} {l:List Oper} {n:Nat} {Φ:List cf} {A:Apart Φ} {e0:cl} {w0:World}:∀{k:Nat} {l':List Oper} {Φ':List cf},fS P l n Φ A e0 w0 k l' Φ'→
    ∀(i:Nat) (o:Oper) (φ:cf),l'[i]? =some o→Φ'[i]? =some φ→yD P l n Φ A e0 w0 (k + i) o φ
  | _, [],_,_,_,_,_,h,_=>by simp at h
  | _,_::_, [],_,_,_,_,_,h=>by simp at h
  | k,_::_,_::_,h,0,o,φ,h1,h2=>by
    simp at h1 h2;subst h1;subst h2;exact h.1
  | k,_::_,_::_,h,i + 1,o,φ,h1,h2=>by
    have:=fS.at_ h.2 i o φ (by simpa using h1) (by simpa using h2)
    rwa [Nat.add_assoc,Nat.add_comm 1 i] at this
theorem AR.toF {P:Program} {l:List Oper} {n:Nat} {Φ:List cf} {e0:cl} {w0:World} {o:Oper} {φ:cf} (h:AR P l n Φ e0 w0 o φ) (i:Nat):yD P l n Φ (Apart.none Φ) e0 w0 i o φ:=by
  intro e' w' h1 h2 h3;have H:=h e' w' h1 h2 h3;cases hg:o.guard with
  | none=>
    rw [hg] at H;exact cQ.mono H fun v w'' hv=>⟨hv.1,hv.2,.inl fun _=>rfl⟩
  | some gw=>
    obtain ⟨g,want⟩:=gw;rw [hg] at H;exact ⟨fun _=>rfl,H⟩
theorem pu.toF {P:Program} {l:List Oper} {n:Nat} {Φ:List cf} {e0:cl} {w0:World}:∀{l':List Oper} {Φ':List cf} (i:Nat),pu P l n Φ e0 w0 l' Φ'→fS P l n Φ (Apart.none Φ) e0 w0 i l' Φ'
  | [],_,_,_=>by simp [fS]
  | _::_, [],_,_=>by simp [fS]
  | _::_,_::_,i,h=>⟨h.1.toF i,pu.toF (i + 1) h.2⟩
theorem pu.at_ {P:Program} {l:List Oper} {n:Nat} {Φ:List cf} {e0:cl} {w0:World}:∀{l':List Oper} {Φ':List cf},pu P l n Φ e0 w0 l' Φ'→
    ∀(i:Nat) (o:Oper) (φ:cf),l'[i]? =some o→Φ'[i]? =some φ→AR P l n Φ e0 w0 o φ
  | [],_,_,_,_,_,h,_=>by simp at h
  | _::_, [],_,_,_,_,_,h=>by simp at h
  | _::_,_::_,h,0,o,φ,h1,h2=>by
    simp at h1 h2;subst h1;subst h2;exact h.1
  | _::_,_::_,h,i + 1,o,φ,h1,h2=>pu.at_ h.2 i o φ (by simpa using h1) (by simpa using h2)
theorem eN.at_:∀{Φ:List cf},eN Φ→∀(i:Nat) (φ:cf),Φ[i]? =some φ→bq φ
  | [],_,_,_,h=>by simp at h
  | _::_,h,0,φ,h1=>by simp at h1;subst h1;exact h.1
  | _::_,h,i + 1,φ,h1=>eN.at_ h.2 i φ (by simpa using h1)
section
variable {P:Program} {N:Nat} {Q:Exit→Act→World→Prop} {l:List Oper}
theorem jL (t:Nat) (o:Oper) (rest:List Oper) (ho:l.toArray[t]? =some o) (a:Act) (w:World):
    wpList P l.toArray Q (o::rest) a w=wpOp P l.toArray Q t (wpList P l.toArray Q rest) a w:=by
  unfold wpOp
  rw [ho];simp only [wpList]
structure Good (N n:Nat) (l:List Oper) (tk:Nat→Bool):Prop where
  le:n≤l.length
  back:∀(i:Nat) (o:Oper),l[i]? =some o→∀e∈o.after,Region.binds .any e=true→e.on<i
  dst:∀(i:Nat) (o:Oper),i<n→l[i]? =some o→∃d,o.dst=some d∧d<N∧(∀j,j<i→aZ l j≠d)∧(∀g b,o.guard=some (g,b)→ju o g=true∧g<n)
  tail:∀i,n≤i→i<l.length→∀j,j<i→Anc l i j∨tk j=true
  tkn:∀j,tk j=true→j<n
theorem ep {a b:Nat} (h:Nat.beq a b=false):a≠b:=by
  intro e;subst e;have:Nat.beq a a=true:=by simp
  rw [this] at h;cases h
theorem eU {n:Nat} {tk:Nat→Bool} (h:fc tk N n l=true) (htk:∀j,tk j=true→j<n):Good N n l tk:=by
  simp only [fc,Bool.and_eq_true] at h;obtain ⟨⟨⟨h1,h2⟩,h3⟩,h4⟩:=h;refine ⟨Nat.le_of_ble_eq_true h1,?_,?_,?_,htk⟩
  · intro i o ho e he hbe
    have hi:i<l.length:=(List.getElem?_eq_some_iff.1 ho).1;have:=cX h2 i hi;simp only [ho,List.all_eq_true] at this;have:=this e (Array.mem_def.1 he)
    simpa [Nat.blt_eq,hbe] using this
  · intro i o hi ho
    have:=cX h3 i hi;simp only [ho,Bool.and_eq_true] at this;obtain ⟨hd,hg⟩:=this;cases hdst:o.dst with
    | none=>rw [hdst] at hd;cases hd
    | some d=>
      simp only [hdst,Bool.and_eq_true] at hd;refine ⟨d,rfl,by simpa [Nat.blt_eq] using hd.1,fun j hj=> ?_,fun g b hgb=> ?_⟩
      · have:=cX hd.2 j hj
        exact ep (by simpa using this)
      · simp only [hgb,Bool.and_eq_true] at hg
        exact ⟨hg.1,by simpa [Nat.blt_eq] using hg.2⟩
  · intro i hni hi j hj
    have:=cX h4 i hi;simp only [Bool.or_eq_true] at this;rcases this with h | h
    · have:i<n:=by simpa [Nat.blt_eq] using h
      omega
    · have h5:=cX h j hj
      simp only [Bool.or_eq_true] at h5;exact h5.imp (ld l i j) id
theorem getD_eq {listed:Array Bool} {j:Nat} (hj:j<listed.size) (a b:Bool):listed.getD j a=listed.getD j b:=by simp [hj]
theorem kI {listed:Array Bool} (hcl:∀(i:Nat) (o:Oper),l[i]? =some o→listed.getD i false=true→∀e∈o.after,Region.binds .any e=true→listed.getD e.on false=true)
    {i j:Nat} (h:Anc l i j):(∀o,l[i]? =some o→∀e∈o.after,Region.binds .any e=true→listed.getD e.on false=true)→listed.getD j false=true:=by
  induction h with
  | ju ho he hb=>intro hr;exact hr _ ho _ he hb
  | @step i j o e ho he hb h ih=>
    intro hr;have h1:=hr _ ho _ he hb;exact ih fun o' ho' e' he' hb'=>hcl _ _ ho' h1 e' he' hb'
theorem nB {n:Nat} {tk:Nat→Bool} (G:Good N n l tk):∀(fuel t:Nat) (listed:Array Bool) (a:Act) (w:World),n≤t→t≤l.length→listed.size=l.length→
    (∀j,j<t→listed.getD j false=true)→(∀j,t≤j→j<l.length→listed.getD j true=false)→l.length≤t + fuel→
    wpList P l.toArray Q (l.drop t) a w→wpAny P .any l.toArray Q fuel listed a w:=by
  have hready:∀(t:Nat) (listed:Array Bool),n≤t→(∀j,j<t→listed.getD j false=true)→(∀j,t≤j→j<l.length→listed.getD j true=false)→
      listed.size=l.length→∀i,i∈Region.ready .any l.toArray listed→i=t:=by
    intro t listed hnt hl1 hl2 hsz i hi;obtain ⟨h0,o,ho,hall⟩:=mem_ready.1 hi;have ho':l[i]? =some o:=by simpa using ho
    have hil:i<l.length:=(List.getElem?_eq_some_iff.1 ho').1;rcases Nat.lt_trichotomy i t with hlt | heq | hgt
    · have:=hl1 i hlt
      rw [getD_eq (by omega) false true,h0] at this;cases this
    · exact heq
    · have hcl:∀(i:Nat) (o:Oper),l[i]? =some o→listed.getD i false=true→∀e∈o.after,Region.binds .any e=true→listed.getD e.on false=true:=by
        intro k ok hk hlk e he hbe;have hkt:k<t:=by
          rcases Nat.lt_or_ge k t with h | h
          · exact h
          · have hkl:k<l.length:=(List.getElem?_eq_some_iff.1 hk).1
            have:=hl2 k h hkl;rw [getD_eq (by omega) true false,hlk] at this;cases this
        exact hl1 _ (Nat.lt_trans (G.back k ok hk e he hbe) hkt)
      have ha:Anc l i t:=(G.tail i (by omega) hil t hgt).elim id fun h=>absurd (G.tkn t h) (by omega)
      have:=kI hcl ha (fun o2 ho2 e he hb=>by rw [ho'] at ho2;injection ho2 with ho2;subst ho2;exact hall e he hb);have h2:=hl2 t (Nat.le_refl _) (by omega);rw [getD_eq (by omega) true false,this] at h2;cases h2
  intro fuel
  induction fuel with
  | zero=>
    intro t listed a w hnt htl hsz hl1 hl2 hf h;have:t=l.length:=by omega
    subst this;rw [List.drop_length] at h;refine ⟨?_,h⟩;cases hr:Region.ready .any l.toArray listed with
    | nil=>rfl
    | cons i r=>
      have hi:i∈Region.ready .any l.toArray listed:=by rw [hr];exact List.mem_cons_self
      have h1:=hready l.length listed hnt hl1 hl2 hsz i hi;obtain ⟨_,o,ho,_⟩:=mem_ready.1 hi;subst h1;simp at ho
  | succ fuel ih=>
    intro t listed a w hnt htl hsz hl1 hl2 hf h
    by_cases ht:t=l.length
    · subst ht
      rw [List.drop_length] at h;refine ⟨fun _=>h,fun i hi=> ?_⟩;have h1:=hready l.length listed hnt hl1 hl2 hsz i hi;obtain ⟨_,o,ho,_⟩:=mem_ready.1 hi;subst h1;simp at ho
    · have htl':t<l.length:=by omega
      obtain ⟨o,ho⟩:∃o,l[t]? =some o:=⟨l[t],List.getElem?_eq_getElem htl'⟩
      have hdrop:l.drop t=o::l.drop (t + 1):=by
        rw [List.drop_eq_getElem_cons htl']
        congr 1
        rw [List.getElem?_eq_getElem htl'] at ho
        injection ho
      have hrt:t∈Region.ready .any l.toArray listed:=mem_ready.2 ⟨hl2 t (Nat.le_refl _) htl',o,by simpa using ho,fun e he hbe=>hl1 _ (G.back t o ho e he hbe)⟩;refine ⟨fun hnil=>(by rw [hnil] at hrt;cases hrt),fun i hi=> ?_⟩;have:=hready t listed hnt hl1 hl2 hsz i hi;subst this;rw [hdrop,jL i o _ (by simpa using ho)] at h;refine wpOp_mono (fun a' w' h'=>ih (i + 1) _ a' w' (by omega) (by omega) (by simp [hsz]) ?_ ?_ (by omega) h') h
      · intro j hj
        by_cases hji:j=i
        · subst hji;simp [hsz,htl']
        · rw [getD_set_ne false (Ne.symm hji)];exact hl1 j (by omega)
      · intro j hj hjl
        rw [getD_set_ne true (by omega)];exact hl2 j (by omega) hjl
structure Mid (N n:Nat) (l:List Oper) (tk:Nat→Bool) (Φ:List cf) (A:Apart Φ) (e0:cl) (w0:World) (listed:Array Bool) (a:Act) (w:World):Prop where
  size:listed.size=l.length
  closed:∀(i:Nat) (o:Oper),l[i]? =some o→listed.getD i false=true→∀e∈o.after,Region.binds .any e=true→listed.getD e.on false=true
  late:∀j,n≤j→j<l.length→listed.getD j true=false
  taken:∀j,tk j=true→listed.getD j false=true
  ext:aA w0 w
  env:∃e',IsE N a e'∧(∀t,eE l n t=false→e' t=e0 t)∧(∀i,i<n→listed.getD i false=true→cK Φ i (e' (aZ l i)) w)∧
    ∀i j,i<n→j<n→i≠j→listed.getD i false=true→listed.getD j false=true→A.disj l i j e' w
theorem fJ {n t:Nat} (h:eE l n t=false) {i:Nat} {o:Oper} (hi:i<n) (ho:l[i]? =some o) {d:Nat} (hd:o.dst=some d):t≠d:=by
  intro e;subst e;have hmem:o∈l.take n:=by
    rw [List.mem_take_iff_getElem];have hl:i<l.length:=(List.getElem?_eq_some_iff.1 ho).1;exact ⟨i,by omega,(List.getElem?_eq_some_iff.1 ho).2⟩
  have:eE l n t=true:=by
    unfold eE
    rw [List.any_eq_true];exact ⟨o,hmem,by simp [hd]⟩
  rw [this] at h;cases h
theorem eF {listed:Array Bool} {i:Nat} (hi:i<listed.size) (h:listed.getD i true=false):
    (listed.setIfInBounds i true).toList.count false + 1=listed.toList.count false:=by
  have hlen:i<listed.toList.length:=by simpa using hi
  have hgi:listed.toList[i]=false:=by simpa [hi] using h
  rw [Array.toList_setIfInBounds,List.count_set hlen];have hpos:0<listed.toList.count false:=List.count_pos_iff.2 (hgi▸List.getElem_mem hlen);have e1:(false==false)=true:=rfl;have e2:(true==false)=false:=rfl;rw [hgi,e1,e2];simp only [if_true,Bool.false_eq_true,if_false];omega
theorem mv {n:Nat} {tk:Nat→Bool} (G:Good N n l tk) {Φ:List cf} {A:Apart Φ} {e0:cl} {w0:World} (hlen:Φ.length=n) (hmono:eN Φ) (hob:fS P l n Φ A e0 w0 0 l Φ)
    (htail:∀a e' w',IsE N a e'→aA w0 w'→(∀t,eE l n t=false→e' t=e0 t)→(∀i,i<n→cK Φ i (e' (aZ l i)) w')→
      (∀i j,i<n→j<n→i≠j→A.disj l i j e' w')→wpList P l.toArray Q (l.drop n) a w'):
    ∀(fuel:Nat) (listed:Array Bool) (a:Act) (w:World),Mid N n l tk Φ A e0 w0 listed a w→listed.toList.count false≤fuel→wpAny P .any l.toArray Q fuel listed a w:=by
  intro fuel
  induction fuel with
  | zero=>
    intro listed a w M hc;have hall:∀j,j<l.length→listed.getD j false=true:=by
      intro j hj;have hj':j<listed.size:=by rw [M.size];exact hj
      cases hb:listed.getD j false with
      | true=>rfl
      | false=>
        have:(false:Bool)∈listed.toList:=by
          have hx:listed.toList[j]'(by simpa using hj')=false:=by simpa [hj'] using hb
          exact hx▸List.getElem_mem _
        have:=List.count_pos_iff.2 this;omega
    have hnl:n=l.length:=by
      rcases Nat.lt_or_ge n l.length with h | h
      · have h1:=M.late n (Nat.le_refl _) h
        rw [getD_eq (by rw [M.size];exact h) true false,hall n h] at h1;cases h1
      · have:=G.le;omega
    obtain ⟨e',he,hother,hf,hd⟩:=M.env;have h1:=htail a e' w he M.ext hother (fun i hi=>hf i hi (hall i (by omega))) (fun i j hi hj hne=>hd i j hi hj hne (hall i (by omega)) (hall j (by omega)));exact nB G 0 n listed a w (Nat.le_refl _) G.le M.size (fun j hj=>hall j (by omega)) M.late (by omega) h1
  | succ fuel ih=>
    intro listed a w M hc
    by_cases hall:∀j,j<n→listed.getD j false=true
    · obtain ⟨e',he,hother,hf,hd⟩:=M.env
      have h1:=htail a e' w he M.ext hother (fun i hi=>hf i hi (hall i hi)) (fun i j hi hj hne=>hd i j hi hj hne (hall i hi) (hall j hj));refine nB G (fuel + 1) n listed a w (Nat.le_refl _) G.le M.size hall M.late ?_ h1;have key:∀m,m≤l.length→n≤m→(listed.toList.drop n).take (m - n)=List.replicate (m - n) false:=by
        intro m hm hnm
        apply List.ext_getElem?
        intro k
        by_cases hk:k<m - n
        · have hkl:n + k<listed.size:=by rw [M.size];omega
          rw [List.getElem?_take,if_pos hk,List.getElem?_drop,List.getElem?_replicate,if_pos hk];have:=M.late (n + k) (by omega) (by omega);simp only [Array.getD_eq_getD_getElem?] at this;rw [Array.getElem?_eq_getElem hkl] at this;simp only [Option.getD_some] at this;rw [Array.getElem?_toList,Array.getElem?_eq_getElem hkl,this]
        · rw [List.getElem?_eq_none (by simp;omega),List.getElem?_eq_none (by simp;omega)]
      have h2:=key l.length (Nat.le_refl _) G.le;have h3:(listed.toList.drop n).take (l.length - n)=listed.toList.drop n:=List.take_of_length_le (by simp [M.size]);have h4:listed.toList.count false=(listed.toList.take n).count false + (listed.toList.drop n).count false:=by
        rw [←List.count_append,List.take_append_drop]
      rw [h3] at h2;rw [h2,List.count_replicate_self] at h4;omega
    · have hex:∃j,j<n∧listed.getD j false=false:=by
        apply Classical.byContradiction
        intro hno
        apply hall
        intro j hj;cases hb:listed.getD j false with
        | true=>rfl
        | false=>exact absurd ⟨j,hj,hb⟩ hno
      have hmin:∃j,j<n∧listed.getD j false=false∧∀k,k<j→listed.getD k false=true:=by
        obtain ⟨j,hj,hb⟩:=hex
        induction j using Nat.strongRecOn with
        | _ j ihj=>
          by_cases hk:∃k,k<j∧listed.getD k false=false
          · obtain ⟨k,hkj,hkb⟩:=hk
            exact ihj k hkj (by omega) hkb
          · refine ⟨j,hj,hb,fun k hkj=> ?_⟩
            cases hbk:listed.getD k false with
            | true=>rfl
            | false=>exact absurd ⟨k,hkj,hbk⟩ hk
      obtain ⟨j0,hj0,hj0b,hj0k⟩:=hmin;have hj0l:j0<l.length:=Nat.lt_of_lt_of_le hj0 G.le;have hready0:j0∈Region.ready .any l.toArray listed:=by
        refine mem_ready.2 ⟨by rw [getD_eq (by rw [M.size];exact hj0l) true false];exact hj0b,l[j0],by simp [hj0l],fun e he hbe=>hj0k _ ?_⟩;exact G.back j0 _ (List.getElem?_eq_getElem hj0l) e he hbe
      refine ⟨fun hnil=>(by rw [hnil] at hready0;cases hready0),fun i hi=> ?_⟩;obtain ⟨hi0,o,ho,hafter⟩:=mem_ready.1 hi;have ho':l[i]? =some o:=by simpa using ho
      have hil:i<l.length:=(List.getElem?_eq_some_iff.1 ho').1;have hisz:i<listed.size:=by rw [M.size];exact hil
      have hin:i<n:=by
        rcases Nat.lt_or_ge i n with h | h
        · exact h
        · have ha:Anc l i j0:=(G.tail i h hil j0 (by omega)).elim id fun h=>by
            have:=M.taken j0 h;rw [hj0b] at this;cases this
          have:=kI M.closed ha (fun o2 ho2 e he hb=>by rw [ho'] at ho2;injection ho2 with ho2;subst ho2;exact hafter e he hb);rw [hj0b] at this;cases this
      obtain ⟨e',he,hother,hf,happ⟩:=M.env;obtain ⟨d,hd,hdN,hdist,hguard⟩:=G.dst i o hin ho';obtain ⟨φ,hφ⟩:∃φ,Φ[i]? =some φ:=⟨Φ[i]'(by omega),List.getElem?_eq_getElem (by omega)⟩
      have hdi:aZ l i=d:=by simp [aZ,ho',hd]
      have hedge:∀j,ju o j=true→listed.getD j false=true∧j<n:=by
        intro j hj;simp only [ju,List.any_eq_true,Bool.and_eq_true] at hj;obtain ⟨x,hx,hxj,hxb⟩:=hj;have hx':x∈o.after:=Array.mem_def.2 hx;have hxe:x.on=j:=Nat.eq_of_beq_eq_true hxj;subst hxe;exact ⟨hafter x hx' hxb,Nat.lt_trans (G.back i o ho' x hx' hxb) hin⟩
      have hob':=fS.at_ hob i o φ ho' hφ;rw [Nat.zero_add] at hob';have H:=hob' e' w M.ext hother (fun j hj=>hf j (hedge j hj).2 (hedge j hj).1);have next:∀v w',aA w w'→φ v w'→A.fresh l o i e' w v w'→Mid N n l tk Φ A e0 w0 (listed.setIfInBounds i true) (a.put o.dst v) w':=by
        intro v w' hext hφv hfresh;have hkd:∀k,k<n→k≠i→aZ l k≠d:=by
          intro k hk hki;rcases Nat.lt_trichotomy k i with h | h | h
          · exact hdist k h
          · exact absurd h hki
          · intro heq
            have hkl:k<l.length:=Nat.lt_of_lt_of_le hk G.le;obtain ⟨d2,hd2,_,hdist2,_⟩:=G.dst k l[k] hk (List.getElem?_eq_getElem hkl);have:aZ l k=d2:=by simp [aZ,hkl,hd2]
            rw [heq] at this;exact hdist2 i h (by rw [hdi];exact this)
        have hval:∀k,k<n→k≠i→et e' o.dst v (aZ l k)=e' (aZ l k):=by
          intro k hk hki;simp only [hd,et];exact co _ _ _ _ (hkd k hk hki)
        have hvi:et e' o.dst v (aZ l i)=v:=by rw [hdi];simp only [hd,et,bO]
        refine ⟨by simp [M.size],?_,?_,fun j hj=>getD_set_true (M.taken j hj),aA.trans M.ext hext,et e' o.dst v,he.put (by simp [hd,fK,Nat.blt_eq,hdN]) v,?_,?_,?_⟩
        · intro k ok hk hlk e hke hb
          by_cases hki:k=i
          · subst hki
            rw [ho'] at hk;injection hk with hk;subst hk;exact getD_set_true (hafter e hke hb)
          · rw [getD_set_ne false (Ne.symm hki)] at hlk
            exact getD_set_true (M.closed k ok hk hlk e hke hb)
        · intro j hj hjl
          rw [getD_set_ne true (by omega)];exact M.late j hj hjl
        · intro t ht
          simp only [hd,et];rw [co _ _ _ _ (fJ ht hin ho' hd)];exact hother t ht
        · intro k hk hlk
          by_cases hki:k=i
          · subst hki
            rw [hdi];simp only [hd,et,bO,cK,hφ];exact hφv
          · rw [getD_set_ne false (Ne.symm hki)] at hlk
            rw [hval k hk hki];have:=hf k hk hlk
            unfold cK at this⊢
            split
            · rename_i φk hφk
              rw [hφk] at this;exact eN.at_ hmono k φk hφk _ _ _ this hext
            · trivial
        · have old:∀k k',k<n→k≠i→listed.getD k false=true→A.ap k k'=true→∀b,A.own k (e' (aZ l k)) w' b→A.own k (e' (aZ l k)) w b∧b<w.heap.size:=fun k k' hk _ hlk hfk b hb=>
            ⟨A.keep k k' _ _ _ b hfk (hf k hk hlk) hext hb,A.low k k' _ _ b hfk (hf k hk hlk) (A.keep k k' _ _ _ b hfk (hf k hk hlk) hext hb)⟩
          have key:∀j,j<n→j≠i→listed.getD j false=true→A.ap i j=true→∀b,A.own i v w' b→¬A.own j (e' (aZ l j)) w' b:=by
            intro j hj hji hlj hap b h1 h2;have h3:=old j i hj hji hlj (A.symm i j hap) b h2;rcases hfresh with h4 | h4 | ⟨k,hk1,hk2,hk3⟩
            · rw [h4 j] at hap;cases hap
            · have:=h4 b h1;omega
            · obtain ⟨h5,h6⟩:=hk2 j hap
              obtain ⟨h7,h8⟩:=hedge k hk1;exact happ k j h8 hj (Ne.symm h6) h7 hlj h5 b (hk3 b h1) h3.1
          intro k j hk hj hkj hlk hlj hap b
          by_cases hki:k=i
          · have hji:j≠i:=fun h=>hkj (hki.trans h.symm)
            rw [getD_set_ne false (Ne.symm hji)] at hlj;rw [hval j hj hji];subst hki;rw [hvi];exact key j hj hji hlj hap b
          · rw [getD_set_ne false (Ne.symm hki)] at hlk
            rw [hval k hk hki]
            by_cases hji:j=i
            · subst hji
              rw [hvi];intro h1 h2;exact key k hk hki hlk (A.symm k j hap) b h2 h1
            · rw [getD_set_ne false (Ne.symm hji)] at hlj
              rw [hval j hj hji];intro h1 h2;exact happ k j hk hj hkj hlk hlj hap b (old k j hk hki hlk hap b h1).1 (old j k hj hji hlj (A.symm k j hap) b h2).1
      have hcnt:=eF hisz hi0
      unfold wpOp
      rw [ho];simp only;cases hg:o.guard with
      | none=>
        rw [hg] at H;simp only at H;rw [if_pos (by simp [Region.wanted,hg])];exact .inl (H a he.eval _ _ fun v w' hv=>ih _ _ _ (next v w' hv.1 hv.2.1 hv.2.2) (by omega))
      | some gw=>
        obtain ⟨g,want⟩:=gw;rw [hg] at H;simp only at H;obtain ⟨hnf,H⟩:=H;have nofr:∀v w',A.fresh l o i e' w v w':=fun v w'=> .inl hnf
        obtain ⟨hge,hgn⟩:=hguard g want hg;have hgl:g<l.length:=Nat.lt_of_lt_of_le hgn G.le;obtain ⟨dg,hdg,hdgN,_,_⟩:=G.dst g l[g] hgn (List.getElem?_eq_getElem hgl);have hdgat:aZ l g=dg:=by simp [aZ,hgl,hdg]
        have hsz:dg<a.tmps.size:=by rw [he.size];exact hdgN
        rcases H with ⟨b,hb,hyes,hno⟩ | ⟨hu,hno⟩
        · have hy:yielded l.toArray a.tmps g=some b:=by
            have hgv:=he.get dg;rw [←hdgat,hb,hdgat] at hgv;have hgv':a.tmps[dg]? =some (.bool b):=by
              simp only [Array.getD_eq_getD_getElem?,Array.getElem?_eq_getElem hsz,Option.getD_some] at hgv;rw [Array.getElem?_eq_getElem hsz,hgv]
            unfold yielded
            simp [hgl,hdg,hgv']
          by_cases hbw:b=want
          · rw [if_pos (by simp [Region.wanted,hg,hy,hbw])]
            exact .inl (hyes hbw a he.eval _ _ fun v w' hv=>ih _ _ _ (next v w' hv.1 hv.2 (nofr v w')) (by omega))
          · rw [if_neg (by simp [Region.wanted,hg,hy,hbw])]
            exact ih _ _ _ (next undef w (aA.refl w) (hno (by cases b<;>cases want<;>simp_all)) (nofr undef w)) (by omega)
        · have hy:yielded l.toArray a.tmps g=none:=by
            have hgv:=he.get dg;rw [←hdgat,hu,hdgat] at hgv;have hgv':a.tmps[dg]? =some undef:=by
              simp only [Array.getD_eq_getD_getElem?,Array.getElem?_eq_getElem hsz,Option.getD_some] at hgv;rw [Array.getElem?_eq_getElem hsz,hgv]
            unfold yielded
            simp [hgl,hdg,hgv',undef]
          rw [if_neg (by simp [Region.wanted,hg,hy])];exact ih _ _ _ (next undef w (aA.refl w) hno (nofr undef w)) (by omega)
theorem uK {n:Nat} {tk:Nat→Bool} (G:Good N n l tk):∀(fuel k:Nat) (listed:Array Bool) (a:Act) (w:World),listed.size=l.length→k + fuel=l.length→
    (∀j,j<k→listed.getD j false=true)→(∀j,k≤j→j<l.length→listed.getD j true=false)→
    wpAny P .any l.toArray Q fuel listed a w→wpOps P l.toArray Q (List.range' k fuel) a w:=by
  intro fuel
  induction fuel with
  | zero=>intro k listed a w _ _ _ _ h;exact h.2
  | succ fuel ih=>
    intro k listed a w hsz hk h1 h2 h;have hkl:k<l.length:=by omega
    have hready:k∈Region.ready .any l.toArray listed:=
      mem_ready.2 ⟨h2 k (Nat.le_refl _) hkl,l[k],by simp [hkl],fun e he hbe=>h1 _ (G.back k _ (List.getElem?_eq_getElem hkl) e he hbe)⟩
    rw [List.range'_succ,wpOps_cons];refine wpOp_mono (fun a' w' h'=>ih (k + 1) _ a' w' (by simp [hsz]) (by omega) ?_ ?_ h') (h.2 k hready)
    · intro j hj
      by_cases hjk:j=k
      · subst hjk;simp [hsz,hkl]
      · rw [getD_set_ne false (Ne.symm hjk)];exact h1 j (by omega)
    · intro j hj hjl
      rw [getD_set_ne true (by omega)];exact h2 j (by omega) hjl
end
theorem uQ {P:Program} {N:Nat} {Q:da} {e:cl} {w:World} {id:Nat} {l:List Oper} {d:Bool} (hm:P.follows .mixedOrders=true) (n:Nat) (Φ:List cf) (A:Apart Φ)
    (hc:it N n l=true) (hlen:Φ.length=n) (hmono:eN Φ) (hob:fS P l n Φ A e w 0 l Φ)
    (htail:∀e' w',aA w w'→(∀t,eE l n t=false→e' t=e t)→(∀j,Nat.blt j n=true→cK Φ j (e' (aZ l j)) w')→
      (∀i j,Nat.blt i n=true→Nat.blt j n=true→Nat.beq i j=false→A.disj l i j e' w')→
      RL P N l.toArray (fun e w=>Q .normal e w) (l.drop n) e' w'):WP P N (.region id l.toArray d) Q e w:=by
  intro a ha;have G:=eU (tk:=fun _=>false) hc (fun _ h=>by cases h);have any:∀w1,aA w w1→wpAny P .any l.toArray (fun x a' w'=>∃e',IsE N a' e'∧Q x e' w') l.length (Array.replicate l.length false) a w1:=by
    intro w1 hw1;refine mv G hlen hmono hob ?_ _ _ _ _ ?_ (by simp)
    · intro a' e' w' hae hext hoth hf hd
      exact htail e' w' hext hoth (fun j hj=>hf j (by simpa [Nat.blt_eq] using hj)) (fun i j hi hj hij=>hd i j (by simpa [Nat.blt_eq] using hi) (by simpa [Nat.blt_eq] using hj) (ep hij)) a' _ hae fun _ e'' _ h1 h2=>⟨e'',h1,h2⟩
    · refine ⟨by simp,?_,?_,(fun _ h=>by cases h),hw1,e,ha,fun _ _=>rfl,?_,?_⟩
      · intro i o _ h
        by_cases hi:i<l.length<;>simp [hi] at h
      · intro j _ hj
        simp [hj]
      · intro i _ h
        by_cases hi:i<l.length<;>simp [hi] at h
      · intro i j _ _ _ h
        by_cases hi:i<l.length<;>simp [hi] at h
  cases d with
  | true=>
    refine wp_region_any hm ?_;simp only [List.size_toArray];exact any _ ⟨rfl,rfl,rfl,Nat.le_refl _,fun _ _=>rfl⟩
  | false=>
    refine wp_region ?_;rw [List.size_toArray,List.range_eq_range'];exact uK G l.length 0 _ a w (by simp) (by omega) (by omega) (fun j _ hj=>by simp [hj]) (any w (aA.refl w))
theorem jb {P:Program} {N:Nat} {Q:da} {e:cl} {w:World} {id:Nat} {l:List Oper} {d:Bool} {y:Code} (hm:P.follows .mixedOrders=true) (n:Nat) (Φ:List cf) (A:Apart Φ)
    (hc:it N n l=true) (hlen:Φ.length=n) (hmono:eN Φ) (hob:fS P l n Φ A e w 0 l Φ)
    (htail:∀e' w',aA w w'→(∀t,eE l n t=false→e' t=e t)→(∀j,Nat.blt j n=true→cK Φ j (e' (aZ l j)) w')→
      (∀i j,Nat.blt i n=true→Nat.blt j n=true→Nat.beq i j=false→A.disj l i j e' w')→
      RL P N l.toArray (fun e w=>WP P N y Q e w) (l.drop n) e' w'):WP P N (.seq (.region id l.toArray d) y) Q e w:=
  WP.seq (uQ hm n Φ A hc hlen hmono hob htail)
theorem WP.dr {P:Program} {N:Nat} {Q:da} {e:cl} {w:World} {id:Nat} {l:List Oper} {d:Bool} (hm:P.follows .mixedOrders=true) (n:Nat) (Φ:List cf)
    (hc:it N n l=true) (hlen:Φ.length=n) (hmono:eN Φ) (hob:pu P l n Φ e w l Φ)
    (htail:∀e' w',aA w w'→(∀t,eE l n t=false→e' t=e t)→(∀j,Nat.blt j n=true→cK Φ j (e' (aZ l j)) w')→
      RL P N l.toArray (fun e w=>Q .normal e w) (l.drop n) e' w'):WP P N (.region id l.toArray d) Q e w:=
  uQ hm n Φ (Apart.none Φ) hc hlen hmono (hob.toF 0) fun e' w' h1 h2 h3 _=>htail e' w' h1 h2 h3
def AQ (P:Program) (l:List Oper) (Φ:List cf) (e':cl) (w':World) (o:Oper) (φ:cf):Prop:=
  (∀j,ju o j=true→cK Φ j (e' (aZ l j)) w')→
    match o.guard with
    | none=>cQ P o e' w' (fun v w''=>aA w' w''∧φ v w'')
    | some (g,want)=>(∃b,e' (aZ l g)= .bool b∧(b=want→cQ P o e' w' (fun v w''=>aA w' w''∧φ v w''))∧(b= !want→φ undef w'))∨(e' (aZ l g)=undef∧φ undef w')
def qJ (P:Program) (l:List Oper) (Φ:List cf) (e':cl) (w':World):List Oper→List cf→Prop
  | o::l',φ::Φ'=>AQ P l Φ e' w' o φ∧qJ P l Φ e' w' l' Φ'
  | _,_=>True
def Ao (l:List Oper) (n:Nat) (e e':cl):Prop:=∀t {v:Value},eE l n t=false→e t=v→e' t=v
theorem kS {P:Program} {l:List Oper} {n:Nat} {Φ:List cf} {e0:cl} {w0:World}:∀{l':List Oper} {Φ':List cf},(∀e' w',aA w0 w'→Ao l n e0 e'→qJ P l Φ e' w' l' Φ')→pu P l n Φ e0 w0 l' Φ'
  | [],_,_=>by simp [pu]
  | _::_, [],_=>by simp [pu]
  | _::_,_::_,h=>⟨fun e' w' hx ho hd=>(h e' w' hx fun t _ ht hv=>(ho t ht).trans hv).1 hd,kS fun e' w' hx ho=>(h e' w' hx ho).2⟩
theorem WP.ds {P:Program} {N:Nat} {Q:da} {e:cl} {w:World} {id:Nat} {l:List Oper} {d:Bool} (hm:P.follows .mixedOrders=true) (n:Nat) (Φ:List cf)
    (hc:it N n l=true) (hlen:Φ.length=n) (hob:∀e' w',aA w w'→Ao l n e e'→qJ P l Φ e' w' l Φ) [hmono:Nonempty (eN Φ)]
    (htail:∀e' w',aA w w'→Ao l n e e'→(∀j,Nat.blt j n=true→cK Φ j (e' (aZ l j)) w')→
      RL P N l.toArray (fun e w=>Q .normal e w) (l.drop n) e' w'):WP P N (.region id l.toArray d) Q e w:=
  hmono.elim fun hmono=>WP.dr hm n Φ hc hlen hmono (kS hob) fun e' w' hx ho hf=>htail e' w' hx (fun t _ ht hv=>(ho t ht).trans hv) hf
theorem aF {P:Program} {N:Nat} {Q:da} {e:cl} {w:World} {id:Nat} {l:List Oper} {d:Bool} {y:Code} (hm:P.follows .mixedOrders=true) (n:Nat) (Φ:List cf)
    (hc:it N n l=true) (hlen:Φ.length=n) (hob:∀e' w',aA w w'→Ao l n e e'→qJ P l Φ e' w' l Φ) [hmono:Nonempty (eN Φ)]
    (htail:∀e' w',aA w w'→Ao l n e e'→(∀j,Nat.blt j n=true→cK Φ j (e' (aZ l j)) w')→
      RL P N l.toArray (fun e w=>WP P N y Q e w) (l.drop n) e' w'):WP P N (.seq (.region id l.toArray d) y) Q e w:=
  WP.seq (WP.ds hm n Φ hc hlen hob htail)
theorem wz {P:Program} {N:Nat} {Q:da} {e:cl} {w:World} {id:Nat} {l:List Oper} (hm:P.follows .mixedOrders=true) (n:Nat) (Φ:List cf) (A:Apart Φ) (k:Nat) {ok:Oper} {vk:Value}
    (hk:l[k]? =some ok) (hkn:Nat.blt k n=true) (hg:ok.guard=none) (hs:Region.noSelect l.toArray=true) (hfree:Region.free .any l.toArray (Array.replicate l.length false) k=true)
    (hready:(Region.ready .any l.toArray (Array.replicate l.length false)).contains k=true) (hrb:(ok.after.toList.all fun e=> !Region.binds .any e)=true)
    (hc:fc (Nat.beq k) N n l=true) (hlen:Φ.length=n) (hmono:eN Φ) (hob:fS P l n Φ A e w 0 l Φ) (hv:∀w,cj P ok e w vk) (hφ:∀w,cK Φ k vk w) (hap:∀j,A.ap k j=false)
    (htail:∀e' w',aA w w'→(∀t,eE l n t=false→e' t=e t)→(∀j,Nat.blt j n=true→cK Φ j (e' (aZ l j)) w')→
      (∀i j,Nat.blt i n=true→Nat.blt j n=true→Nat.beq i j=false→A.disj l i j e' w')→
      RL P N l.toArray (fun e w=>Q .normal e w) (l.drop n) e' w'):WP P N (.region id l.toArray true) Q e w:=by
  intro a ha;have hkn':k<n:=by simpa [Nat.blt_eq] using hkn
  have G:=eU (tk:=Nat.beq k) hc (fun j h=>by rw [←Nat.eq_of_beq_eq_true h];exact hkn');have hkl:k<l.length:=Nat.lt_of_lt_of_le hkn' G.le;obtain ⟨d,hd,hdN,hdist,_⟩:=G.dst k ok hkn' hk;have hdk:aZ l k=d:=by simp [aZ,hk,hd]
  have hk':l.toArray[k]? =some ok:=by simpa using hk
  obtain ⟨f,hf⟩:∃f,l.length=f + 1:=⟨l.length - 1,by omega⟩
  refine Code.wp_mono (Q:=fun x a' w'=>x=Exit.normal∧∃e',IsE N a' e'∧Q x e' w') (fun x a' w' h=>h.2) ?_;refine wp_region_any hm ?_;simp only [List.size_toArray];rw [show wpAny P .any l.toArray (fun x a' w'=>x=Exit.normal∧∃e',IsE N a' e'∧Q x e' w') l.length=wpAny P .any l.toArray (fun x a' w'=>x=Exit.normal∧∃e',IsE N a' e'∧Q x e' w') (f + 1) by rw [hf]];refine wpAny_take hk' hs hfree hready (fun c a w h=>by cases h.1) (.inl ⟨by simp [Region.wanted,hg],fun w=>by have:=hv w;unfold cj at this;rw [ha.eval];exact this⟩) ?_;refine mv G hlen hmono hob ?_ _ _ _ _ ?_ ?_
  · intro a' e' w' hae hext hoth hf hd
    exact htail e' w' hext hoth (fun j hj=>hf j (by simpa [Nat.blt_eq] using hj)) (fun i j hi hj hij=>hd i j (by simpa [Nat.blt_eq] using hi) (by simpa [Nat.blt_eq] using hj) (ep hij)) a' _ hae fun _ e'' _ h1 h2=>⟨rfl,e'',h1,h2⟩
  · have hone:∀i,((Array.replicate l.length false).setIfInBounds k true).getD i false=true→i=k:=by
      intro i h
      by_cases hik:i=k
      · exact hik
      · rw [getD_set_ne false (Ne.symm hik)] at h
        by_cases hi:i<l.length<;>simp [hi] at h
    refine ⟨by simp,?_,?_,?_,⟨rfl,rfl,rfl,Nat.le_refl _,fun _ _=>rfl⟩,et e ok.dst vk,ha.put (by simp [hd,fK,Nat.blt_eq,hdN]) vk,?_,?_,?_⟩
    · intro i o ho h e he hb
      have:=hone i h;subst this;rw [hk] at ho;injection ho with ho;subst ho;simp only [List.all_eq_true,Bool.not_eq_true'] at hrb;rw [hrb e (Array.mem_def.1 he)] at hb;cases hb
    · intro j hj hjl
      rw [getD_set_ne true (by omega)];simp [hjl]
    · intro j hj
      rw [←Nat.eq_of_beq_eq_true hj];simp [hkl]
    · intro t ht
      simp only [hd,et];exact co _ _ _ _ (fJ ht hkn' hk hd)
    · intro i _ h
      have:=hone i h;subst this;rw [hdk];simp only [hd,et,bO];exact hφ _
    · intro i j _ _ hij hi hj
      exact absurd ((hone i hi).trans (hone j hj).symm) hij
  · have h1:=eF (listed:=Array.replicate l.length false) (i:=k) (by simpa using hkl) (by simp [hkl])
    have h2:(Array.replicate l.length false).toList.count false=l.length:=by simp
    omega
theorem gK {P:Program} {N:Nat} {Q:da} {e:cl} {w:World} {id:Nat} {l:List Oper} {y:Code} (hm:P.follows .mixedOrders=true) (n:Nat) (Φ:List cf) (A:Apart Φ) (k:Nat) {ok:Oper} {vk:Value}
    (hk:l[k]? =some ok) (hkn:Nat.blt k n=true) (hg:ok.guard=none) (hs:Region.noSelect l.toArray=true) (hfree:Region.free .any l.toArray (Array.replicate l.length false) k=true)
    (hready:(Region.ready .any l.toArray (Array.replicate l.length false)).contains k=true) (hrb:(ok.after.toList.all fun e=> !Region.binds .any e)=true)
    (hc:fc (Nat.beq k) N n l=true) (hlen:Φ.length=n) (hmono:eN Φ) (hob:fS P l n Φ A e w 0 l Φ) (hv:∀w,cj P ok e w vk) (hφ:∀w,cK Φ k vk w) (hap:∀j,A.ap k j=false)
    (htail:∀e' w',aA w w'→(∀t,eE l n t=false→e' t=e t)→(∀j,Nat.blt j n=true→cK Φ j (e' (aZ l j)) w')→
      (∀i j,Nat.blt i n=true→Nat.blt j n=true→Nat.beq i j=false→A.disj l i j e' w')→
      RL P N l.toArray (fun e w=>WP P N y Q e w) (l.drop n) e' w'):WP P N (.seq (.region id l.toArray true) y) Q e w:=
  WP.seq (wz hm n Φ A k hk hkn hg hs hfree hready hrb hc hlen hmono hob hv hφ hap htail)
def iw (ps:List (Nat×Nat)) (i j:Nat):Bool:=ps.any fun p=>(Nat.beq i p.1&&Nat.beq j p.2) || (Nat.beq i p.2&&Nat.beq j p.1)
def mG (ps:List (Nat×Nat)) (i:Nat):Bool:=ps.any fun p=>Nat.beq i p.1 || Nat.beq i p.2
theorem rW (ps:List (Nat×Nat)) (i j:Nat) (h:iw ps i j=true):iw ps j i=true:=by
  simp only [iw,List.any_eq_true,Bool.or_eq_true,Bool.and_eq_true] at h⊢;obtain ⟨p,hp,h⟩:=h;exact ⟨p,hp,h.symm.imp (fun x=>⟨x.2,x.1⟩) (fun x=>⟨x.2,x.1⟩)⟩
theorem gk {ps:List (Nat×Nat)} {i j:Nat} (h:iw ps i j=true):mG ps i=true:=by
  simp only [iw,mG,List.any_eq_true,Bool.or_eq_true,Bool.and_eq_true] at h⊢;obtain ⟨p,hp,h⟩:=h;exact ⟨p,hp,h.imp (fun x=>x.1) (fun x=>x.1)⟩
def fz (own:Value→World→Nat→Prop) (φ:cf):Prop:=(∀v w b,φ v w→own v w b→b<w.heap.size)∧(∀v w w' b,φ v w→aA w w'→own v w' b→own v w b)
def fT (own:Value→World→Nat→Prop) (fl:Nat→Bool):Nat→List cf→Prop
  | i,φ::Φ=>(fl i=true→fz own φ)∧fT own fl (i + 1) Φ
  | _, []=>True
theorem fT.at_ {own:Value→World→Nat→Prop} {fl:Nat→Bool}:∀{Φ:List cf} {k:Nat},fT own fl k Φ→∀(i:Nat) (φ:cf),Φ[i]? =some φ→fl (k + i)=true→fz own φ
  | [],_,_,_,_,h,_=>by simp at h
  | _::_,_,h,0,φ,h1,h2=>by simp at h1;subst h1;exact h.1 h2
  | _::_,k,h,i + 1,φ,h1,h2=>fT.at_ h.2 i φ (by simpa using h1) (by rwa [Nat.add_assoc,Nat.add_comm 1 i])
theorem fT.fact {own:Value→World→Nat→Prop} {fl:Nat→Bool} {Φ:List cf} (h:fT own fl 0 Φ) {j:Nat} (hj:fl j=true) (hl:j<Φ.length):fz own (cK Φ j):=by
  obtain ⟨φ,hφ⟩:∃φ,Φ[j]? =some φ:=⟨Φ[j],List.getElem?_eq_getElem hl⟩
  have h1:=h.at_ j φ hφ (by rwa [Nat.zero_add]);have:cK Φ j=φ:=by funext v w;simp [cK,hφ]
  rw [this];exact h1
def Apart.of {Φ:List cf} (own:Value→World→Nat→Prop) (ps:List (Nat×Nat)) (hps:(ps.all fun p=>Nat.blt p.1 Φ.length&&Nat.blt p.2 Φ.length)=true) (h:fT own (mG ps) 0 Φ):Apart Φ:=
  have hl:∀i,mG ps i=true→i<Φ.length:=fun i hi=>by
    simp only [mG,List.any_eq_true,Bool.or_eq_true] at hi;simp only [List.all_eq_true,Bool.and_eq_true,Nat.blt_eq] at hps;obtain ⟨p,hp,h1⟩:=hi;have h2:=hps p hp;rcases h1 with h1 | h1
    · rw [Nat.eq_of_beq_eq_true h1];exact h2.1
    · rw [Nat.eq_of_beq_eq_true h1];exact h2.2
  ⟨iw ps,rW ps,fun _=>own,(fun j _ v w b ha hf ho=>(h.fact (gk ha) (hl j (gk ha))).1 v w b hf ho),(fun j _ v w w' b ha hf hx ho=>(h.fact (gk ha) (hl j (gk ha))).2 v w w' b hf hx ho)⟩
section
variable {Φ:List cf} {own:Value→World→Nat→Prop} {ps:List (Nat×Nat)} {hps:(ps.all fun p=>Nat.blt p.1 Φ.length&&Nat.blt p.2 Φ.length)=true} {h:fT own (mG ps) 0 Φ}
  {l:List Oper} {o:Oper} {i:Nat} {e':cl} {w':World} {v:Value} {w'':World}
theorem vW (hi:mG ps i=false):(Apart.of own ps hps h).fresh l o i e' w' v w'':= .inl fun j=>by
  show iw ps i j=false;cases hb:iw ps i j with
  | false=>rfl
  | true=>rw [gk hb] at hi;cases hi
theorem fo (hb:∀b,own v w'' b→w'.heap.size≤b):(Apart.of own ps hps h).fresh l o i e' w' v w'':= .inr (.inl hb)
def Af (ps:List (Nat×Nat)) (i k:Nat):Bool:=ps.all fun p=>(!Nat.beq i p.1 || (iw ps k p.2&& !Nat.beq p.2 k))&&(!Nat.beq i p.2 || (iw ps k p.1&& !Nat.beq p.1 k))
theorem uh (k:Nat) (hk:ju o k=true) (hd:Af ps i k=true) (hb:∀b,own v w'' b→own (e' (aZ l k)) w' b):(Apart.of own ps hps h).fresh l o i e' w' v w'':=
  .inr (.inr ⟨k,hk,fun j hj=>by
    simp only [Af,List.all_eq_true,Bool.and_eq_true,Bool.or_eq_true,Bool.not_eq_true'] at hd;have hj':iw ps i j=true:=hj;simp only [iw,List.any_eq_true,Bool.or_eq_true,Bool.and_eq_true] at hj';obtain ⟨p,hp,h1⟩:=hj';have h2:=hd p hp;rcases h1 with ⟨h3,h4⟩ | ⟨h3,h4⟩
    · rcases h2.1 with h5 | h5
      · rw [h3] at h5;cases h5
      · rw [Nat.eq_of_beq_eq_true h4];exact ⟨h5.1,ep h5.2⟩
    · rcases h2.2 with h5 | h5
      · rw [h3] at h5;cases h5
      · rw [Nat.eq_of_beq_eq_true h4];exact ⟨h5.1,ep h5.2⟩,hb⟩)
theorem aS {R:Value→World→Prop} {P:Program} (hi:mG ps i=false) (ho:cQ P o e' w' (fun v w''=>aA w' w''∧R v w'')):cQ P o e' w' (fun v w''=>aA w' w''∧R v w''∧(Apart.of own ps hps h).fresh l o i e' w' v w''):=
  ho.mono fun _ _ hv=>⟨hv.1,hv.2,vW hi⟩
theorem iv (hi:mG ps i=false) (j:Nat):(Apart.of own ps hps h).ap i j=false:=by
  show iw ps i j=false;cases hb:iw ps i j with
  | false=>rfl
  | true=>rw [gk hb] at hi;cases hi
end
end Go.TL
namespace Go.TL
open Go.RowKit
def aY (w:World) (g:Nat) (T:TypeId) (n:Nat) (f:Nat→Value):Prop:=
  ∃cs:Array Value,w.heap[g]? =some (.cells cs T (0,0))∧cs.size=n∧∀i,i<n→cs[i]? =some (f i)
def bU (l:List Value):Nat→Value:=fun i=>l.getD i undef
structure Keeps (S:Nat→Prop) (w w':World):Prop where
  os:w'.os=w.os
  tape:w'.tape=w.tape
  output:w'.output=w.output
  size:w.heap.size≤w'.heap.size
  block:∀k,k<w.heap.size→¬S k→w'.heap[k]? =w.heap[k]?
section
variable {w w' w'':World} {g g':Nat} {T T':TypeId} {n n':Nat} {f f':Nat→Value} {S S':Nat→Prop}
theorem Keeps.refl (S:Nat→Prop) (w:World):Keeps S w w:=⟨rfl,rfl,rfl,Nat.le_refl _,fun _ _ _=>rfl⟩
theorem aA.keeps (h:aA w w') (S:Nat→Prop):Keeps S w w':=⟨h.os,h.tape,h.output,h.size,fun k hk _=>h.block k hk⟩
theorem Keeps.ext (h:Keeps (fun _=>False) w w'):aA w w':=⟨h.os,h.tape,h.output,h.size,fun k hk=>h.block k hk id⟩
theorem Keeps.mono (h:Keeps S w w') (hs:∀k,k<w.heap.size→S k→S' k):Keeps S' w w':=
  ⟨h.os,h.tape,h.output,h.size,fun k hk hn=>h.block k hk fun hS=>hn (hs k hk hS)⟩
theorem Keeps.step (h:Keeps S w w') (k:Keeps S' w' w'') (hs:∀b,S' b→S b∨w.heap.size≤b):Keeps S w w'':=
  ⟨k.os.trans h.os,k.tape.trans h.tape,k.output.trans h.output,Nat.le_trans h.size k.size,fun b hb hn=>by
    refine (k.block b (Nat.lt_of_lt_of_le hb h.size) fun hS=> ?_).trans (h.block b hb hn);rcases hs b hS with h1 | h1
    · exact hn h1
    · omega⟩
theorem bo (h:Keeps S w w') (k:aA w' w''):Keeps S w w'':=h.step (k.keeps (fun _=>False)) fun _ hf=>hf.elim
theorem aA.step (h:aA w w') (k:Keeps S' w' w'') (hs:∀b,S' b→w.heap.size≤b):aA w w'':=
  ((h.keeps (fun _=>False)).step k fun b hb=> .inr (hs b hb)).ext
theorem aA.lt (h:aA w w') (hg:g<w.heap.size):g<w'.heap.size:=Nat.lt_of_lt_of_le hg h.size
theorem Keeps.lt (h:Keeps S w w') (hg:g<w.heap.size):g<w'.heap.size:=Nat.lt_of_lt_of_le hg h.size
theorem aY.lt (h:aY w g T n f):g<w.heap.size:=by
  obtain ⟨cs,hg,_⟩:=h;exact (Array.getElem?_eq_some_iff.1 hg).1
theorem aY.cell (h:aY w g T n f) {i:Nat} (hi:i<n):w.cell? ⟨g,i,none⟩=some (f i):=by
  obtain ⟨cs,hg,_,hc⟩:=h;simp [World.cell?,hg,hc i hi]
theorem aY.frozen (h:aY w g T n f) (i:Nat):w.frozen? ⟨g,i,none⟩=false:=by
  obtain ⟨cs,hg,_⟩:=h;simp [World.frozen?,hg]
theorem aY.keep (h:aY w g T n f) (hk:Keeps S w w') (hs:¬S g):aY w' g T n f:=by
  have hlt:=h.lt;obtain ⟨cs,hg,h2⟩:=h;exact ⟨cs,(hk.block g hlt hs).trans hg,h2⟩
theorem aY.ext (h:aY w g T n f) (hx:aA w w'):aY w' g T n f:=h.keep (hx.keeps (fun _=>False)) id
theorem aY.ne (h:aY w g T n f) (h':aY w g' T' n' f') (ht:T≠T'):g≠g':=by
  rintro rfl;obtain ⟨cs,hg,_⟩:=h;obtain ⟨cs',hg',_⟩:=h';rw [hg] at hg';simp only [Option.some.injEq,Obj.cells.injEq] at hg';exact ht hg'.2.1
theorem aY.congr (h:aY w g T n f) (he:∀i,i<n→f i=f' i):aY w g T n f':=by
  obtain ⟨cs,hg,hn,hc⟩:=h;exact ⟨cs,hg,hn,fun i hi=>by rw [hc i hi,he i hi]⟩
theorem aY.eq (h:aY w g T n f) (h':aY w g T n' f'):n=n'∧∀i,i<n→f i=f' i:=by
  obtain ⟨cs,hg,hn,hc⟩:=h;obtain ⟨cs',hg',hn',hc'⟩:=h';rw [hg] at hg';simp only [Option.some.injEq,Obj.cells.injEq,and_true] at hg';obtain rfl:=hg';obtain rfl:n=n':=by omega
  exact ⟨rfl,fun i hi=>by have:=hc i hi;rw [hc' i hi] at this;exact (Option.some.inj this).symm⟩
theorem qR (w:World) (T:TypeId) (cs:Array Value):aY (w.alloc (.cells cs T)) w.heap.size T cs.size (fun i=>cs.getD i undef):=
  ⟨cs,heap_alloc_new w _,rfl,fun i hi=>by simp [hi]⟩
theorem aA.alloc (w:World) (o:Obj):aA w (w.alloc o):=(Below.refl _ _).alloc (Nat.le_refl _) o
theorem aY.set (h:aY w g T n f) {i:Nat} (_hi:i<n) (v:Value):aY (w.setCell ⟨g,i,none⟩ v) g T n (wK f i v):=by
  obtain ⟨cs,hg,hn,hc⟩:=h;refine ⟨cs.setIfInBounds i v,?_,by simpa using hn,fun j hj=> ?_⟩
  · simp [World.setCell,Array.getElem?_modify,hg]
  · by_cases e:j=i
    · subst e;rw [bO];simp [hn,hj]
    · rw [co _ _ _ _ e,Array.getElem?_setIfInBounds_ne (Ne.symm e)];exact hc j hj
theorem Keeps.setCell (w:World) (g i:Nat) (v:Value):Keeps (fun b=>b=g) w (w.setCell ⟨g,i,none⟩ v):=
  ⟨rfl,rfl,rfl,by simp [World.setCell],fun k _ hk=>Below.heap_setCell w _ v k hk⟩
end
def dM (f:Nat→Value) (o:Nat):List Value→Nat→Value
  | []=>f
  | v::l=>dM (wK f o v) (o + 1) l
theorem cJ (P:Program) {g:Nat} {T:TypeId} {n off:Nat}:∀(l:List Value) (i:Nat) (w:World) (f:Nat→Value),aY w g T n f→off + i + l.length≤n→
    (∀v∈l,v.oneCell'=true)→∃w',(storeCells ⟨g,off,none⟩ l i).run P w= .ok () w'∧Keeps (fun b=>b=g) w w'∧aY w' g T n (dM f (off + i) l)
  | [],i,w,f,h,_,_=>⟨w,rfl,Keeps.refl _ w,h⟩
  | v::l,i,w,f,h,hn,h1=>by
    have hi:off + i<n:=by simp at hn;omega
    have hc:=h.cell hi;have hf:=h.frozen (off + i);obtain ⟨w',hr,hk,ha⟩:=cJ P (off:=off) l (i + 1) _ _ (h.set hi v) (by simp at hn⊢;omega) (fun u hu=>h1 u (List.mem_cons_of_mem _ hu));refine ⟨w',?_,?_,?_⟩
    · simp only [storeCells,Sem.run_bind,Addr.add_lit,run_store P w _ v .plain (h1 v List.mem_cons_self)]
      simp [hc,hf,hr]
    · exact (Keeps.setCell w g (off + i) v).step hk fun b hb=> .inl hb
    · exact ha
def oneB (P:Program) (t:TypeId):Bool:=match P.underlying t with | some (.struct _) | some (.array _ _)=>false | some _=>true | none=>false
def iZ (P:Program) (t:TypeId) (n:Nat):Bool:=(match P.underlying t with | some (.struct _) | some (.array _ _)=>true | _=>false)&&(match P.info? t with | some i=>Nat.beq i.size n | none=>false)
def ey (P:Program) (t:TypeId) (n:Nat):Bool:=match P.info? t with | some i=>Nat.beq i.size n | none=>false
def gH (P:Program) (s f k:Nat):Bool:=match P.underlying s with
  | some (.struct fs)=>(match fs[f]? with
    | some fd=>Nat.beq fd.offset k&&(match P.info? fd.type with | some i=> !Nat.beq i.size 0 | none=>false)
    | none=>false)
  | _=>false
def sliceB (P:Program) (t e n b:TypeId):Bool:=(match P.underlying t with | some (.slice e')=>Nat.beq e' e | _=>false)&&(match P.info? e with | some i=>Nat.beq i.size n&&Nat.beq i.bytes b | none=>false)
def ax (P:Program) (f:Nat):Bool:=match P.funcs[f]? with | some fn=> !(fn.name== "runtime.NumGoroutine")&&fn.body.isSome | none=>false
def jt (P:Program) (t:TypeId) (k:IntKind):Bool:=match P.underlying t with | some (.int k')=>k'==k | _=>false
theorem bJ {P:Program} {t e n b:Nat} (h:sliceB P t e n b=true):P.underlying t=some (.slice e)∧∃i,P.info? e=some i∧i.size=n∧i.bytes=b:=by
  simp only [sliceB,Bool.and_eq_true] at h;obtain ⟨h1,h2⟩:=h
  constructor
  · revert h1
    cases P.underlying t with
    | none=>intro h;cases h
    | some d=>cases d<;>intro h<;>first | cases h | (have:=Nat.eq_of_beq_eq_true h;subst this;rfl)
  · revert h2
    cases P.info? e with
    | none=>intro h;cases h
    | some i=>
      intro h;simp only [Bool.and_eq_true] at h;exact ⟨i,rfl,Nat.eq_of_beq_eq_true h.1,Nat.eq_of_beq_eq_true h.2⟩
section
variable {P:Program} {e:cl} {w:World} {d:Option Tmp} {ty:TypeId} {pos:String} {after:Array Edge} {gd:Option (Nat×Bool)}
theorem cj.move {x:Operand} {v:Value} (h:ev e x=v):cj P ⟨d,.move x,ty,pos,after,gd⟩ e w v:=by subst h;rfl
theorem cj.assign {x:Operand} {v:Value} (h:ev e x=v):cj P ⟨d,.assign x,ty,pos,after,gd⟩ e w v:=by subst h;rfl
theorem cj.pick {c x y:Operand} {b:Bool} {v:Value} (hc:ev e c= .bool b) (ht:b=true→ev e x=v) (hf:b=false→ev e y=v):
    cj P ⟨d,.pick c x y,ty,pos,after,gd⟩ e w v:=by
  cases b<;>simp [cj,execOp,hc,asBool,ht,hf]
theorem au {c x:Operand} {p q:Prop} [Decidable p] [Decidable q] (hc:ev e c= .bool (decide p)) (ht:p→ev e x= .bool (decide q)):
    cj P ⟨d,.pick c x (.const (.bool false)),ty,pos,after,gd⟩ e w (.bool (decide (p∧q))):=by
  by_cases h:p
  · exact cj.pick hc (fun _=>by rw [ht h];simp [h]) (fun hf=>by simp [h] at hf)
  · exact cj.pick hc (fun ht=>by simp [h] at ht) (fun _=>by simp [h,ev])
theorem aP {c y:Operand} {p q:Prop} [Decidable p] [Decidable q] (hc:ev e c= .bool (decide p)) (hf:¬p→ev e y= .bool (decide q)):
    cj P ⟨d,.pick c (.const (.bool true)) y,ty,pos,after,gd⟩ e w (.bool (decide (p∨q))):=by
  by_cases h:p
  · exact cj.pick hc (fun _=>by simp [h,ev]) (fun hf=>by simp [h] at hf)
  · exact cj.pick hc (fun ht=>by simp [h] at ht) (fun _=>by rw [hf h];simp [h])
theorem je {op:BinOp} {xt yt:TypeId} {x y:Operand} {k:IntKind} {a b c:Int} (hx:ev e x= .int k a) (hy:ev e y= .int k b)
    (hop:(op= .add∧k.wrap (a + b)=c)∨(op= .sub∧k.wrap (a - b)=c)∨(op= .mul∧k.wrap (a*b)=c)):
    cj P ⟨d,.binOp op xt x y yt,ty,pos,after,gd⟩ e w (.int k c):=by
  rcases hop with ⟨rfl,rfl⟩ | ⟨rfl,rfl⟩ | ⟨rfl,rfl⟩<;>simp [cj,execOp,hx,hy,go_sem,Op.intArith]
theorem cj.add {xt yt:TypeId} {x y:Operand} {k:IntKind} {a b c:Int} (hx:ev e x= .int k a) (hy:ev e y= .int k b) (hc:k.wrap (a + b)=c):
    cj P ⟨d,.binOp .add xt x y yt,ty,pos,after,gd⟩ e w (.int k c):=je hx hy (.inl ⟨rfl,hc⟩)
theorem cj.sub {xt yt:TypeId} {x y:Operand} {k:IntKind} {a b c:Int} (hx:ev e x= .int k a) (hy:ev e y= .int k b) (hc:k.wrap (a - b)=c):
    cj P ⟨d,.binOp .sub xt x y yt,ty,pos,after,gd⟩ e w (.int k c):=je hx hy (.inr (.inl ⟨rfl,hc⟩))
theorem cj.mul {xt yt:TypeId} {x y:Operand} {k:IntKind} {a b c:Int} (hx:ev e x= .int k a) (hy:ev e y= .int k b) (hc:k.wrap (a*b)=c):
    cj P ⟨d,.binOp .mul xt x y yt,ty,pos,after,gd⟩ e w (.int k c):=je hx hy (.inr (.inr ⟨rfl,hc⟩))
theorem cj.quo {xt yt:TypeId} {x y:Operand} {k:IntKind} {a b c:Int} (hx:ev e x= .int k a) (hy:ev e y= .int k b) (hb:b≠0) (hc:k.wrap (a.tdiv b)=c):
    cj P ⟨d,.binOp .quo xt x y yt,ty,pos,after,gd⟩ e w (.int k c):=by
  subst hc;simp [cj,execOp,hx,hy,go_sem,Op.intDiv,hb]
theorem cj.rem {xt yt:TypeId} {x y:Operand} {k:IntKind} {a b c:Int} (hx:ev e x= .int k a) (hy:ev e y= .int k b) (hb:b≠0) (hc:a.tmod b=c):
    cj P ⟨d,.binOp .rem xt x y yt,ty,pos,after,gd⟩ e w (.int k c):=by
  subst hc;simp [cj,execOp,hx,hy,go_sem,Op.intDiv,hb]
theorem cj.shl {xt yt:TypeId} {x y:Operand} {k yk:IntKind} {a c:Int} {n:Int} (hx:ev e x= .int k a) (hy:ev e y= .int yk n) (h0:0≤n) (hn:n.toNat≤k.bits)
    (hc:k.wrap (a*2^n.toNat)=c):cj P ⟨d,.binOp .shl xt x y yt,ty,pos,after,gd⟩ e w (.int k c):=by
  subst hc;have h1:¬n<0:=by omega
  have h2:min n.toNat k.bits=n.toNat:=Nat.min_eq_left hn;simp [cj,execOp,hx,hy,eqGuard_shl,binOp_shl,Op.shift,h1,h2]
theorem cj.shr {xt yt:TypeId} {x y:Operand} {k yk:IntKind} {a c:Int} {n:Int} (hx:ev e x= .int k a) (hy:ev e y= .int yk n) (h0:0≤n) (hn:n.toNat≤k.bits)
    (hc:a/2^n.toNat=c):cj P ⟨d,.binOp .shr xt x y yt,ty,pos,after,gd⟩ e w (.int k c):=by
  subst hc;have h1:¬n<0:=by omega
  have h2:min n.toNat k.bits=n.toNat:=Nat.min_eq_left hn;have h3:∀m:Nat,a.fdiv (2^m)=a/2^m:=fun m=>by
    rw [Int.fdiv_eq_ediv_of_nonneg _ (Int.le_of_lt (Int.pow_pos (by decide)))]
  simp [cj,execOp,hx,hy,eqGuard_shr,binOp_shr,Op.shift,h1,h2,h3]
theorem ei {op:BinOp} {xt yt:TypeId} {x y:Operand} {k:IntKind} {a b c:Int} (hx:ev e x= .int k a) (hy:ev e y= .int k b) (hop:op= .and∨op= .or∨op= .xor)
    (hc:bits op k a b=c):cj P ⟨d,.binOp op xt x y yt,ty,pos,after,gd⟩ e w (.int k c):=by
  subst hc;rcases hop with rfl | rfl | rfl<;>simp [cj,execOp,hx,hy,go_sem]
theorem cj.lss {xt yt:TypeId} {x y:Operand} {k:IntKind} {a b:Int} (hx:ev e x= .int k a) (hy:ev e y= .int k b):
    cj P ⟨d,.binOp .lss xt x y yt,ty,pos,after,gd⟩ e w (.bool (decide (a<b))):=by simp [cj,execOp,hx,hy,go_sem]
theorem cj.leq {xt yt:TypeId} {x y:Operand} {k:IntKind} {a b:Int} (hx:ev e x= .int k a) (hy:ev e y= .int k b):
    cj P ⟨d,.binOp .leq xt x y yt,ty,pos,after,gd⟩ e w (.bool (decide (a≤b))):=by simp [cj,execOp,hx,hy,go_sem]
theorem cj.gtr {xt yt:TypeId} {x y:Operand} {k:IntKind} {a b:Int} (hx:ev e x= .int k a) (hy:ev e y= .int k b):
    cj P ⟨d,.binOp .gtr xt x y yt,ty,pos,after,gd⟩ e w (.bool (decide (b<a))):=by simp [cj,execOp,hx,hy,go_sem]
theorem cj.geq {xt yt:TypeId} {x y:Operand} {k:IntKind} {a b:Int} (hx:ev e x= .int k a) (hy:ev e y= .int k b):
    cj P ⟨d,.binOp .geq xt x y yt,ty,pos,after,gd⟩ e w (.bool (decide (b≤a))):=by simp [cj,execOp,hx,hy,go_sem]
theorem cj.eql {xt yt:TypeId} {x y:Operand} {k:IntKind} {a b:Int} (hx:ev e x= .int k a) (hy:ev e y= .int k b):
    cj P ⟨d,.binOp .eql xt x y yt,ty,pos,after,gd⟩ e w (.bool (decide (a=b))):=by
  have:(a==b)=decide (a=b):=by by_cases h:a=b<;>simp [h]
  simp [cj,execOp,hx,hy,go_sem,this]
theorem cj.neq {xt yt:TypeId} {x y:Operand} {k:IntKind} {a b:Int} (hx:ev e x= .int k a) (hy:ev e y= .int k b):
    cj P ⟨d,.binOp .neq xt x y yt,ty,pos,after,gd⟩ e w (.bool (decide (a≠b))):=by
  have:(a !=b)=decide (a≠b):=by by_cases h:a=b<;>simp [h]
  simp [cj,execOp,hx,hy,go_sem,this]
theorem fI {t:TypeId} (ht:P.underlying t=some .bool) (a b:Bool) (w:World):(Op.equal t (.bool a) (.bool b)).run P w= .ok (a==b) w:=by
  have h:∀n:Nat,(Op.equalIn (n + 1) t (.bool a) (.bool b)).run P w= .ok (a==b) w:=fun n=>by
    simp [Op.equalIn,run_underlying ht]
  exact h 9999
theorem kR {yt t:TypeId} (ht:P.underlying t=some .bool) {x y:Operand} {p q:Prop} [Decidable p] [Decidable q] (hx:ev e x= .bool (decide p)) (hy:ev e y= .bool (decide q)):
    cj P ⟨d,.binOp .eql t x y yt,ty,pos,after,gd⟩ e w (.bool (decide (p↔q))):=by
  have h1:(decide p==decide q)=decide (p↔q):=by by_cases h:p<;>by_cases h':q<;>simp [h,h']
  have hb:∀a b:Bool,binOp .eql t (.bool a) (.bool b)=(do pure (.bool (←Op.equal t (.bool a) (.bool b)))):=fun _ _=>rfl
  simp only [cj,execOp,hx,hy,eqGuard_at_bool,hb,Sem.run_bind,Sem.run_pure,Result.andThen_ok,fI ht,h1]
theorem kO {yt t:TypeId} (ht:P.underlying t=some .bool) {x y:Operand} {p q:Prop} [Decidable p] [Decidable q] (hx:ev e x= .bool (decide p)) (hy:ev e y= .bool (decide q)):
    cj P ⟨d,.binOp .neq t x y yt,ty,pos,after,gd⟩ e w (.bool (decide (¬(p↔q)))):=by
  have h1:(!(decide p==decide q))=decide (¬(p↔q)):=by by_cases h:p<;>by_cases h':q<;>simp [h,h']
  have hb:∀a b:Bool,binOp .neq t (.bool a) (.bool b)=(do pure (.bool (!(←Op.equal t (.bool a) (.bool b))))):=fun _ _=>rfl
  simp only [cj,execOp,hx,hy,eqGuard_at_bool,hb,Sem.run_bind,Sem.run_pure,Result.andThen_ok,fI ht,h1]
theorem cj.not {xt:TypeId} {x:Operand} {p:Prop} [Decidable p] (hx:ev e x= .bool (decide p)):cj P ⟨d,.unOp .not xt x,ty,pos,after,gd⟩ e w (.bool (decide (¬p))):=by
  have h1:(!(decide p))=decide (¬p):=by by_cases h:p<;>simp [h]
  simp only [cj,execOp,hx,Op.unary,Sem.run_bind,Sem.run_pure,Result.andThen_ok,h1]
theorem cj.neg {xt:TypeId} {x:Operand} {k:IntKind} {a c:Int} (hx:ev e x= .int k a) (hc:k.wrap (0 - a)=c):cj P ⟨d,.unOp .neg xt x,ty,pos,after,gd⟩ e w (.int k c):=by
  subst hc;simp [cj,execOp,hx,Op.unary,Op.intArith]
theorem ox {xt:TypeId} {x:Operand} {a c:Int} (hx:ev e x= .int .u32 a) (hc:bits .xor .u32 4294967295 a=c):cj P ⟨d,.unOp .xor xt x,ty,pos,after,gd⟩ e w (.int .u32 c):=by
  subst hc;simp [cj,execOp,hx,Op.unary,go_sem,IntKind.signed,IntKind.max,IntKind.bits]
theorem az {s t:TypeId} {k k':IntKind} {x:Operand} {a c:Int} (hs:jt P s k=true) (ht:jt P t k'=true) (hx:ev e x= .int k a) (hc:k'.wrap a=c):
    cj P ⟨d,.convert s t x,ty,pos,after,gd⟩ e w (.int k' c):=by
  subst hc;have un:∀{t:TypeId} {k:IntKind},jt P t k=true→P.underlying t=some (.int k):=by
    intro t k h
    unfold jt at h
    split at h
    · rename_i k2 h2;rw [h2];simp at h;rw [h]
    · cases h
  simp [cj,execOp,hx,convert,run_underlying (un hs),run_underlying (un ht),Conv.intToInt]
theorem cj.len {t:TypeId} {x:Operand} {A:Option Addr} {n c el m b:Nat} (ht:sliceB P t el m b=true) (hx:ev e x= .slice A n c):
    cj P ⟨d,.call {callee:= .builtin .len,args:= #[x],argTypes:= #[t]},ty,pos,after,gd⟩ e w (.int .i64 (n:Int)):=by
  simp [cj,execOp,resolve,invoke,builtin,hx,Builtin.len_,run_underlying (bJ ht).1,goInt]
theorem cj.min {ts:Array TypeId} {x y:Operand} {a b c:Int} (hx:ev e x= .int .i64 a) (hy:ev e y= .int .i64 b) (hc:min a b=c):
    cj P ⟨d,.call {callee:= .builtin .min,args:= #[x,y],argTypes:=ts},ty,pos,after,gd⟩ e w (.int .i64 c):=by
  have:(if b<a then b else a)=c:=by rw [←hc];omega
  simp [cj,execOp,resolve,invoke,builtin,hx,hy,Builtin.min_,Builtin.min2,this]
theorem cj.max {ts:Array TypeId} {x y:Operand} {k:IntKind} {a b c:Int} (hx:ev e x= .int k a) (hy:ev e y= .int k b) (hc:max a b=c):
    cj P ⟨d,.call {callee:= .builtin .max,args:= #[x,y],argTypes:=ts},ty,pos,after,gd⟩ e w (.int k c):=by
  have:(if a<b then b else a)=c:=by rw [←hc];omega
  simp [cj,execOp,resolve,invoke,builtin,hx,hy,Builtin.max_,Builtin.max2,this]
theorem cj.extract {x:Operand} {vs:Array Value} {i:Nat} {v:Value} (hx:ev e x= .tuple vs) (hi:vs[i]? =some v):cj P ⟨d,.extract x i,ty,pos,after,gd⟩ e w v:=by
  simp [cj,execOp,hx,Instr.extract,hi]
theorem cj.nilCheck {x:Operand} {a:Addr} (hx:ev e x= .pointer (some a)):cj P ⟨d,.nilCheck x,ty,pos,after,gd⟩ e w (.pointer (some a)):=by
  simp [cj,execOp,hx]
theorem cj.fieldAddr {s f k:Nat} {x:Operand} {g o:Nat} (hf:gH P s f k=true) (hx:ev e x= .pointer (some ⟨g,o,none⟩)):
    cj P ⟨d,.fieldAddr s x f,ty,pos,after,gd⟩ e w (.pointer (some ⟨g,o + k,none⟩)):=by
  unfold gH at hf
  split at hf
  · rename_i fs hs
    split at hf
    · rename_i fd hfd
      simp only [Bool.and_eq_true] at hf;obtain ⟨h1,h2⟩:=hf;have hk:=Nat.eq_of_beq_eq_true h1;subst hk
      split at h2
      · rename_i i hi
        have h0:i.size≠0:=fun h=>by simp [h] at h2
        simp [cj,execOp,hx,Instr.fieldAt,run_underlying hs,hfd,Instr.sureAddr,fieldPlace,sizeOf,typeInfo,hi,h0,Addr.add_lit]
      · cases h2
    · cases hf
  · cases hf
theorem cj.index {t el n c m b g o j:Nat} {x ix:Operand} {A:Option Addr} {i:Int} {k:IntKind} (ht:sliceB P t el m b=true) (hx:ev e x= .slice A n c) (hi:ev e ix= .int k i)
    (hA:A=some ⟨g,o,none⟩) (hij:i=(j:Int)) (hj:j<n):cj P ⟨d,.indexAddr t x ix,ty,pos,after,gd⟩ e w (.pointer (some ⟨g,o + j*m,none⟩)):=by
  subst hA;subst hij;obtain ⟨hu,i0,hi0,hm,_⟩:=bJ ht;subst hm;have h1:(0:Int)≤j∧(j:Int)<(n:Int):=by omega
  simp [cj,execOp,hx,hi,Instr.indexAt,run_underlying hu,asIntOf,sizeOf,typeInfo,hi0,Addr.add_lit];intro h;omega
theorem cj.load {t g o:Nat} {x:Operand} {v:Value} (ht:oneB P t=true) (hx:ev e x= .pointer (some ⟨g,o,none⟩)) (hc:w.cell? ⟨g,o,none⟩=some v):
    cj P ⟨d,.load t x,ty,pos,after,gd⟩ e w v:=by
  have hr:(loadVar t ⟨g,o,none⟩).run P w= .ok v w:=by
    unfold oneB at ht
    cases hu:P.underlying t with
    | none=>rw [hu] at ht;cases ht
    | some dsc=>
      rw [hu] at ht;have:(isAgg t).run P w= .ok false w:=by
        cases dsc<;>first | (simp at ht;done) | simp [isAgg,run_underlying hu]
      simp [loadVar,this,hc]
  simp [cj,execOp,hx,Instr.loadAt,Instr.sureAddr,hr]
theorem fB {t g o:Nat} (cs:List Value) (ht:iZ P t cs.length=true) (hc:∀i v,cs[i]? =some v→w.cell? ⟨g,o + i,none⟩=some v):
    (loadVar t ⟨g,o,none⟩).run P w= .ok (.agg cs.toArray) w:=by
  simp only [iZ,Bool.and_eq_true] at ht;obtain ⟨h1,h2⟩:=ht;cases hi:P.info? t with
  | none=>rw [hi] at h2;cases h2
  | some i=>
    rw [hi] at h2;have hs:=Nat.eq_of_beq_eq_true h2;cases hu:P.underlying t with
    | none=>rw [hu] at h1;cases h1
    | some dsc=>
      rw [hu] at h1;have:(isAgg t).run P w= .ok true w:=by
        cases dsc<;>first | (simp at h1;done) | simp [isAgg,run_underlying hu]
      have hl:=run_loadCells_list (P:=P) w ⟨g,o,none⟩ cs (fun j v hv=>by rw [Addr.add_lit];exact hc j v hv);simp [loadVar,this,sizeOf,typeInfo,hi,hs,hl]
theorem af {t g o:Nat} {x:Operand} (cs:List Value) (ht:iZ P t cs.length=true) (hx:ev e x= .pointer (some ⟨g,o,none⟩))
    (hc:∀i v,cs[i]? =some v→w.cell? ⟨g,o + i,none⟩=some v):cj P ⟨d,.load t x,ty,pos,after,gd⟩ e w (.agg cs.toArray):=by
  simp [cj,execOp,hx,Instr.loadAt,Instr.sureAddr,fB cs ht hc]
theorem cj.makeFunc {fn:Fn} {first captured:Array Operand} {vs us:Array Value} (h1:first.map (ev e)=vs) (h2:captured.map (ev e)=us):
    cj P ⟨d,.makeFunc fn first captured,ty,pos,after,gd⟩ e w (.func fn vs us):=by
  subst h1;subst h2;simp [cj,execOp,Instr.makeFunc]
theorem cD {o:Oper} {v:Value} {w':World} {R:Value→World→Prop} (h:(execOp (ev e) o).run P w= .ok (.value v) w') (hR:R v w'):cQ P o e w R:=by
  intro a ha K Q hK
  unfold Oper.wp
  rw [ha,h];exact hK v w' hR
theorem oq {o:Oper} {w':World} {R:Value→World→Prop} (h:(execOp (ev e) o).run P w= .ok .skip w') (hR:R undef w'):cQ P o e w R:=by
  intro a ha K Q hK
  unfold Oper.wp
  rw [ha,h];exact hK undef w' hR
def yI (w:World) (T:TypeId) (l:List Value) (v:Value) (w':World):Prop:=
  ∃g,v= .pointer (some ⟨g,0,none⟩)∧w.heap.size≤g∧aA w w'∧aY w' g T l.length (bU l)
theorem fr (w:World) (T:TypeId) (l:List Value):yI w T l (.pointer (some ⟨w.heap.size,0,none⟩)) (w.alloc (.cells l.toArray T)):=
  ⟨w.heap.size,rfl,Nat.le_refl _,aA.alloc w _,by
    have h:=qR w T l.toArray;simp only [List.size_toArray] at h;exact h.congr fun i hi=>by simp [bU]⟩
theorem cQ.alloc {T:TypeId} {z:Value} (l:List Value) (hz:(P.info? T).bind (·.zero)=some z) (hl:z.cells=l.toArray):
    cQ P ⟨d,.alloc T,ty,pos,after,gd⟩ e w (yI w T l):=by
  cases hi:P.info? T with
  | none=>rw [hi] at hz;cases hz
  | some i=>
    have hz':i.zero=some z:=by rw [hi] at hz;simpa using hz
    refine cD (w':=w.alloc (.cells z.cells T)) (v:= .pointer (some ⟨w.heap.size,0,none⟩)) ?_ (hl▸fr w T l);simp [execOp,Instr.alloc,zeroValue,typeInfo,hi,hz',newVar,newRow]
theorem cQ.box {T:TypeId} {x:Operand} {v:Value} (l:List Value) (hx:ev e x=v) (hl:v.cells=l.toArray):
    cQ P ⟨d,.box T x,ty,pos,after,gd⟩ e w (yI w T l):=by
  subst hx;refine cD (w':=w.alloc (.cells (ev e x).cells T)) (v:= .pointer (some ⟨w.heap.size,0,none⟩)) ?_ (hl▸fr w T l);simp [execOp,Instr.box,newVar,newRow]
theorem cQ.store {t g o n:Nat} {T:TypeId} {f:Nat→Value} {x y:Operand} {v:Value} (l:List Value) (ht:ey P t l.length=true) (hx:ev e x= .pointer (some ⟨g,o,none⟩))
    (hy:ev e y=v) (hl:v.cells=l.toArray) (hA:aY w g T n f) (hn:o + l.length≤n) (h1:∀u∈l,u.oneCell'=true):
    cQ P ⟨d,.store t x y,ty,pos,after,gd⟩ e w (fun _ w'=>Keeps (fun b=>b=g) w w'∧aY w' g T n (dM f o l)):=by
  subst hy
  unfold ey at ht
  cases hi:P.info? t with
  | none=>rw [hi] at ht;cases ht
  | some i=>
    rw [hi] at ht;have hs:=Nat.eq_of_beq_eq_true ht;obtain ⟨w',hr,hk,ha⟩:=cJ P (off:=o) l 0 w f hA (by omega) h1;refine oq (w':=w') ?_ ⟨hk,ha⟩;simp [execOp,Instr.storeAt,Instr.sureAddr,hx,storeVar,sizeOf,typeInfo,hi,hl,hs,hr]
def AS (w:World) (T:TypeId) (n cells:Nat) (f:Nat→Value) (v:Value) (w':World):Prop:=
  ∃g,v= .slice (some ⟨g,0,none⟩) n n∧w.heap.size≤g∧aA w w'∧aY w' g T cells f
theorem df {t el m b:Nat} {x y:Operand} {i j:Int} (n:Nat) {z:Value} (l:List Value) (ht:sliceB P t el m b=true) (hz:(P.info? el).bind (·.zero)=some z) (hl:z.cells=l.toArray)
    (hx:ev e x= .int .i64 i) (hy:ev e y= .int .i64 j) (hi:i=(n:Int)) (hj:j=(n:Int)) (hb:n*b≤281474976710656) (h63:n<9223372036854775808) (hl0:0<l.length):
    cQ P ⟨d,.makeSlice t x y,ty,pos,after,gd⟩ e w (AS w el n (n*m) (fun i=>bU l (i % l.length))):=by
  subst hi;subst hj;obtain ⟨hu,i0,hi0,hm,hbb⟩:=bJ ht;subst hm;subst hbb;have hz':i0.zero=some z:=by rw [hi0] at hz;simpa using hz
  have hb':(i0.bytes:Int)*(n:Int)≤281474976710656:=by
    have h:((i0.bytes*n:Nat):Int)≤281474976710656:=by rw [Nat.mul_comm];omega
    rwa [Int.natCast_mul] at h
  have hr:=run_make (P:=P) w t el i0 z hu hi0 hz' .i64 .i64 n n (by omega) (by omega) hb' (by omega);simp only [Int.toNat_natCast] at hr;refine cD (w':=w.alloc (.cells (madeCells z.cells (n*i0.size)) el)) (v:= .slice (some ⟨w.heap.size,0,none⟩) n n) (by simp [execOp,hx,hy,hr]) ?_;refine ⟨w.heap.size,rfl,Nat.le_refl _,aA.alloc w _,?_⟩;have h:=qR w el (madeCells z.cells (n*i0.size));rw [size_madeCells] at h;refine h.congr fun k hk=> ?_
  simp only [madeCells,bU,hl];simp [hk];have:k % l.length<l.length:=Nat.mod_lt _ hl0;simp [this]
end
end Go.TL
namespace Go.TL
open Go.RowKit
theorem ic (P:Program) (w:World):program.run P w= .ok P w:=rfl
theorem eY {P:Program} {t:TypeId} {i:TypeInfo} (h:P.info? t=some i) (w:World):(sizeOf t).run P w= .ok i.size w:=by simp [sizeOf,typeInfo,h]
def cc (w:World) (R:Value→World→Prop):Ending→World→Prop:=fun e w'=>∃v,e= .returned v∧aA w w'∧R v w'
def pn (S:Nat→Prop) (w:World) (R:Value→World→Prop):Ending→World→Prop:=fun e w'=>∃v,e= .returned v∧Keeps S w w'∧R v w'
def yK (tmps:Array Value):ResultVar→Sem Value
  | .tmp t=>pure (tmps.getD t undef)
  | .cell a t=>do loadVar t (←asAddr (tmps.getD a undef))
theorem fk (fn:Func) (tmps:Array Value):results fn tmps=(do let vs←fn.results.mapM (yK tmps);pure (if h:vs.size=1 then vs[0] else .tuple vs)):=by
  have:(yK tmps)=(fun | .tmp t=>pure (tmps.getD t undef) | .cell a t=>do loadVar t (←asAddr (tmps.getD a undef))):=by
    funext r;cases r<;>rfl
  rw [this]
  rfl
def fw (P:Program) (r:ResultVar) (e:cl) (w:World) (v:Value):Prop:=
  ∀tmps:Array Value,(∀t,tmps.getD t undef=e t)→(yK tmps r).run P w= .ok v w
def Am (P:Program) (rs:Array ResultVar) (e:cl) (w:World) (v:Value):Prop:=
  ∀(fn:Func) (tmps:Array Value),fn.results=rs→(∀t,tmps.getD t undef=e t)→(results fn tmps).run P w= .ok v w
def AO (P:Program) (rs:Array ResultVar) (R:Ending→World→Prop):da
  | .normal,e,w | .ret,e,w=>∃v,Am P rs e w v∧R (.returned v) w
  | _,_,_=>False
section
variable {P:Program} {e:cl} {w:World}
theorem fw.tmp {t:Nat} {v:Value} (h:e t=v):fw P (.tmp t) e w v:=by
  intro tmps ht;subst h;simp [yK,←ht]
theorem aj {a t g o:Nat} (cs:List Value) (ht:iZ P t cs.length=true) (h:e a= .pointer (some ⟨g,o,none⟩))
    (hc:∀i v,cs[i]? =some v→w.cell? ⟨g,o + i,none⟩=some v):fw P (.cell a t) e w (.agg cs.toArray):=by
  intro tmps htm;simp only [yK,htm,h];simp [asAddr,fB cs ht hc]
theorem fw.cell {a t g o:Nat} {v:Value} (ht:oneB P t=true) (h:e a= .pointer (some ⟨g,o,none⟩)) (hc:w.cell? ⟨g,o,none⟩=some v):fw P (.cell a t) e w v:=by
  intro tmps htm;simp only [yK,htm,h];have hl:(cj P ⟨none,.load t (.tmp a),0, "",#[],none⟩ e w v):=cj.load ht h hc;simp only [cj,execOp,ev,h,Instr.loadAt,Instr.sureAddr] at hl;simp only [asAddr,Sem.run_bind,Sem.run_pure,Result.andThen_ok] at hl⊢
  revert hl
  cases (loadVar t ⟨g,o,none⟩).run P w with
  | ok u w1=>intro hl;simp only [Result.andThen_ok,Result.ok.injEq,Next.value.injEq] at hl;rw [hl.1,hl.2]
  | halt x w1=>intro hl;cases hl
theorem Am.zero:Am P #[] e w (.tuple #[]):=by
  intro fn tmps hr ht;simp [fk,hr]
theorem Am.one {r:ResultVar} {v:Value} (h:fw P r e w v):Am P #[r] e w v:=by
  intro fn tmps hr ht;have h1:=h tmps ht;simp [fk,hr,List.mapM_toArray,List.mapM_cons,List.mapM_nil,h1]
theorem dT {r s:ResultVar} {v u:Value} (h:fw P r e w v) (k:fw P s e w u):Am P #[r,s] e w (.tuple #[v,u]):=by
  intro fn tmps hr ht;have h1:=h tmps ht;have h2:=k tmps ht;simp [fk,hr,List.mapM_toArray,List.mapM_cons,List.mapM_nil,h1,h2]
theorem dR {r s q:ResultVar} {v u x:Value} (h:fw P r e w v) (k:fw P s e w u) (l:fw P q e w x):Am P #[r,s,q] e w (.tuple #[v,u,x]):=by
  intro fn tmps hr ht;have h1:=h tmps ht;have h2:=k tmps ht;have h3:=l tmps ht;simp [fk,hr,List.mapM_toArray,List.mapM_cons,List.mapM_nil,h1,h2,h3]
theorem ai {f:FuncId} {fn:Func} {c:Code} {N:Nat} {args:Array Value} {R:Ending→World→Prop} {rs:Array ResultVar} (hf:P.funcs[f]? =some fn) (hb:fn.body=some c) (hN:fn.ntmps=N)
    (hrs:fn.results=rs) (hsz:args.size≤N) (h:WP P N c (AO P rs R) (bU args.toList) w):Calls P f args w R:=by
  refine calls_of_wp hf hb (Code.wp_mono (fun x a' w' hh=> ?_) (h _ ?_))
  · obtain ⟨e',he,hq⟩:=hh
    cases x<;>first
      | (obtain ⟨v,hr,hR⟩:=hq;exact ⟨he.defers,v,hr fn a'.tmps hrs he.get,hR⟩)
      | exact hq.elim
  · refine ⟨by simp [hN];omega,rfl,fun t=> ?_⟩
    simp only [Array.getD_eq_getD_getElem?,bU,List.getD_eq_getElem?_getD,Array.getElem?_toList];rw [Array.getElem?_append]
    split
    · rfl
    · rename_i hlt
      have h1:args[t]? =none:=Array.getElem?_eq_none (by omega);rw [h1,Array.getElem?_replicate]
      split<;>rfl
variable {d:Option Tmp} {ty:TypeId} {pos:String} {after:Array Edge} {gd:Option (Nat×Bool)}
theorem dt {cal:Operand} {xs:Array Operand} {ts:Array TypeId} {f:Nat} {fst cap vs:Array Value} {R':Ending→World→Prop} {R:Value→World→Prop} (hcb:ax P f=true)
    (hf:ev e cal= .func (.func f) fst cap) (ha:fst ++ xs.map (ev e) ++ cap=vs) (h:Calls P f vs w R') (hr:∀x w',R' x w'→∃v,x= .returned v∧R v w'):
    cQ P ⟨d,.call {callee:= .value cal,args:=xs,argTypes:=ts},ty,pos,after,gd⟩ e w R:=by
  subst ha;intro a ha K Q hK
  unfold ax at hcb
  have hrun:(execOp a.eval ⟨d,.call {callee:= .value cal,args:=xs,argTypes:=ts},ty,pos,after,gd⟩).run P w= .ok (.enter f (fst ++ xs.map (ev e) ++ cap)) w:=by
    rw [ha];cases hfn:P.funcs[f]? with
    | none=>rw [hfn] at hcb;cases hcb
    | some fn=>
      rw [hfn] at hcb;simp only [Bool.and_eq_true,Bool.not_eq_true'] at hcb;obtain ⟨h1,h2⟩:=hcb;have h3:fn.body.isNone=false:=by cases hb:fn.body<;>simp_all
      have h4:(callFunc f (fst ++ xs.map (ev e) ++ cap)).run P w= .ok (.enter f (fst ++ xs.map (ev e) ++ cap)) w:=by
        simp only [callFunc,Sem.run_bind,ic,Result.andThen_ok,hfn,h1,h3,Bool.false_eq_true,if_false,Sem.run_pure]
      simp only [execOp,resolve,hf,Deferred.ofValue,invoke,Sem.run_bind,Sem.run_pure,Result.andThen_ok,h4]
  unfold Oper.wp
  rw [hrun];refine h.mono fun x w' hx=> ?_
  obtain ⟨v,rfl,hv⟩:=hr x w' hx;exact hK v w' hv
theorem cQ.call {f:Nat} {xs:Array Operand} {ts:Array TypeId} {vs:Array Value} {R:Value→World→Prop} (hcb:ax P f=true) (ha:xs.map (ev e)=vs) (h:Calls P f vs w (cc w R)):
    cQ P ⟨d,.call {callee:= .value (.func f),args:=xs,argTypes:=ts},ty,pos,after,gd⟩ e w (fun v w'=>aA w w'∧R v w'):=
  dt (fst:= #[]) (cap:= #[]) hcb rfl (by simpa using ha) h fun _ _ ⟨v,h1,h2,h3⟩=>⟨v,h1,h2,h3⟩
theorem du {f:Nat} {xs:Array Operand} {ts:Array TypeId} {vs:Array Value} {S:Nat→Prop} {R:Value→World→Prop} (hcb:ax P f=true) (ha:xs.map (ev e)=vs) (h:Calls P f vs w (pn S w R)):
    cQ P ⟨d,.call {callee:= .value (.func f),args:=xs,argTypes:=ts},ty,pos,after,gd⟩ e w (fun v w'=>Keeps S w w'∧R v w'):=
  dt (fst:= #[]) (cap:= #[]) hcb rfl (by simpa using ha) h fun _ _ ⟨v,h1,h2,h3⟩=>⟨v,h1,h2,h3⟩
theorem lQ:(#[]:Array Operand).map (ev e)= #[]:=by simp
theorem aL {x:Operand} {a:Value} (hx:ev e x=a): #[x].map (ev e)= #[a]:=by simp [hx]
theorem aC {x y:Operand} {a b:Value} (hx:ev e x=a) (hy:ev e y=b): #[x,y].map (ev e)= #[a,b]:=by simp [hx,hy]
theorem cH {x y z:Operand} {a b c:Value} (hx:ev e x=a) (hy:ev e y=b) (hz:ev e z=c): #[x,y,z].map (ev e)= #[a,b,c]:=by simp [hx,hy,hz]
theorem xo {x y z u:Operand} {a b c d:Value} (hx:ev e x=a) (hy:ev e y=b) (hz:ev e z=c) (hu:ev e u=d): #[x,y,z,u].map (ev e)= #[a,b,c,d]:=by simp [hx,hy,hz,hu]
theorem fZ (k:IntKind) (i:Int) (j y:Nat) (code:BoundsCode) (hi:i=(j:Int)) (h1:j≤y):(Instr.sliceBound (.int k i) y code).run P w= .ok j w:=by
  subst hi;have:=run_sliceBound (P:=P) w k (j:Int) y code (by omega) (by omega)
  simpa using this
theorem fy {t el m b n c j:Nat} {x hi:Operand} {A:Option Addr} {i:Int} {k:IntKind} (ht:sliceB P t el m b=true) (hx:ev e x= .slice A n c) (hh:ev e hi= .int k i) (hij:i=(j:Int)) (hj:j≤c):
    cj P ⟨d,.slice t x none (some hi) none,ty,pos,after,gd⟩ e w (.slice A j c):=by
  obtain ⟨hu,i0,hi0,hm,_⟩:=bJ ht;have hA:(A.map fun a=>a.add 0)=A:=by cases A<;>simp [Addr.add]
  simp [cj,execOp,Instr.sliceAt,run_underlying hu,Instr.slice,hx,hh,Instr.sliceBounds,fZ k i j c _ hij hj,sizeOf,typeInfo,hi0,hA]
theorem oy {t el m b n c j l:Nat} {x hi mx:Operand} {A:Option Addr} {i i2:Int} {k k2:IntKind} (ht:sliceB P t el m b=true) (hx:ev e x= .slice A n c) (hh:ev e hi= .int k i) (hm:ev e mx= .int k2 i2)
    (hij:i=(j:Int)) (hil:i2=(l:Int)) (hj:j≤l) (hl:l≤c):cj P ⟨d,.slice t x none (some hi) (some mx),ty,pos,after,gd⟩ e w (.slice A j l):=by
  obtain ⟨hu,i0,hi0,hm0,_⟩:=bJ ht;have hA:(A.map fun a=>a.add 0)=A:=by cases A<;>simp [Addr.add]
  simp [cj,execOp,Instr.sliceAt,run_underlying hu,Instr.slice,hx,hh,hm,Instr.sliceBounds,fZ k i j l _ hij hj,fZ k2 i2 l c _ hil hl,sizeOf,typeInfo,hi0,hA]
theorem pt {t el m b n c j:Nat} {x lo:Operand} {A:Option Addr} {i:Int} {k:IntKind} (ht:sliceB P t el m b=true) (hx:ev e x= .slice A n c) (hh:ev e lo= .int k i) (hij:i=(j:Int)) (hj:j≤n):
    cj P ⟨d,.slice t x (some lo) none none,ty,pos,after,gd⟩ e w (.slice (if c=j then A else A.map (·.add (j*m))) (n - j) (c - j)):=by
  obtain ⟨hu,i0,hi0,hm,_⟩:=bJ ht;subst hm;simp [cj,execOp,Instr.sliceAt,run_underlying hu,Instr.slice,hx,hh,Instr.sliceBounds,fZ k i j n _ hij hj,sizeOf,typeInfo,hi0]
def gb (P:Program) (t:Nat) (ps:List (Nat×Nat)):Bool:=match P.underlying t with
  | some (.struct fs)=>(fs.toList.map fun f=>(f.offset,(match P.info? f.type with | some i=>i.size | none=>1000000)))==ps&&fs.toList.all fun f=>(P.info? f.type).isSome
  | _=>false
theorem oG {ps:List (Nat×Nat)} (fs:List Field) (h:(fs.map fun f=>(f.offset,(match P.info? f.type with | some i=>i.size | none=>1000000)))=ps) (hi:∀f∈fs,(P.info? f.type).isSome=true):
    (fs.mapM (fun f=>do pure (f.offset,←sizeOf f.type)):Sem (List (Nat×Nat))).run P w= .ok ps w:=by
  induction fs generalizing ps with
  | nil=>subst h;simp
  | cons f fs ih=>
    subst h;have h1:=hi f List.mem_cons_self;cases hf:P.info? f.type with
    | none=>rw [hf] at h1;cases h1
    | some i=>
      have h2:=ih rfl (fun g hg=>hi g (List.mem_cons_of_mem _ hg));simp only [List.mapM_cons,Sem.run_bind,eY hf,Result.andThen_ok,Sem.run_pure,List.map_cons,hf] at h2⊢;rw [h2]
      rfl
theorem cj.build {t:Nat} {z:Value} {xs:Array (Nat×Operand)} {vs:List (Nat×Value)} {cells:Array Value} (ps:List (Nat×Nat)) (hp:gb P t ps=true) (hz:(P.info? t).bind (·.zero)=some z)
    (hx:xs.toList.map (fun p=>(p.1,ev e p.2))=vs) (hf:Instr.fill (ps[·]?) z.cells vs=some cells):cj P ⟨d,.build t xs,ty,pos,after,gd⟩ e w (.agg cells):=by
  unfold gb at hp
  split at hp
  · rename_i fs hu
    simp only [Bool.and_eq_true,beq_iff_eq,List.all_eq_true] at hp;obtain ⟨h1,h2⟩:=hp;cases hi:P.info? t with
    | none=>rw [hi] at hz;cases hz
    | some i=>
      have hz':i.zero=some z:=by rw [hi] at hz;simpa using hz
      have hm:=oG (P:=P) (w:=w) fs.toList h1 h2;have hpl:(fs.mapM (fun f=>do pure (f.offset,←sizeOf f.type)):Sem (Array (Nat×Nat))).run P w= .ok ps.toArray w:=by
        rw [Array.mapM_eq_mapM_toList,Sem.run_map,hm,Result.andThen_ok]
      have hx':(xs.map fun p=>(p.1,ev e p.2)).toList=vs:=by simpa using hx
      have hf':Instr.fill (fun i=>ps.toArray[i]?) z.cells (xs.map fun p=>(p.1,ev e p.2)).toList=some cells:=by
        rw [hx'];simpa using hf
      simp only [cj,execOp,Instr.build,Sem.run_bind,zeroValue,typeInfo,ic,Result.andThen_ok,hi,hz',Sem.run_pure,run_underlying hu,hpl,hf']
  · cases hp
theorem eS {i:Nat} {x:Operand} {v:Value} (h:ev e x=v): #[(i,x)].toList.map (fun p:Nat×Operand=>(p.1,ev e p.2))= [(i,v)]:=by simp [h]
theorem eQ {i j:Nat} {x y:Operand} {v u:Value} (h:ev e x=v) (k:ev e y=u): #[(i,x),(j,y)].toList.map (fun p:Nat×Operand=>(p.1,ev e p.2))= [(i,v),(j,u)]:=by simp [h,k]
theorem ko {i j l:Nat} {x y z:Operand} {v u t:Value} (h:ev e x=v) (k:ev e y=u) (m:ev e z=t):
    #[(i,x),(j,y),(l,z)].toList.map (fun p:Nat×Operand=>(p.1,ev e p.2))= [(i,v),(j,u),(l,t)]:=by simp [h,k,m]
end
end Go.TL
namespace Go.TL
def bj:Nat:=562949953421312
def val (l:Nat→Nat):Nat→Nat
  | 0=>0
  | n + 1=>val l n + l n*4294967296^n
theorem kg (n:Nat):0<4294967296^n:=Nat.pow_pos (by decide)
theorem bY (n:Nat):4294967296^(n + 1)=4294967296*4294967296^n:=by rw [Nat.pow_succ,Nat.mul_comm]
theorem dE {l:Nat→Nat}:∀{n:Nat},(∀i,i<n→l i<4294967296)→val l n<4294967296^n
  | 0,_=>by simp [val]
  | n + 1,h=>by
    have h1:=dE (l:=l) (n:=n) fun i hi=>h i (by omega)
    have h2:l n + 1≤4294967296:=h n (by omega);have h3:(l n + 1)*4294967296^n≤4294967296*4294967296^n:=Nat.mul_le_mul_right _ h2;rw [Nat.add_mul,Nat.one_mul] at h3;simp only [val];rw [bY];omega
theorem db {l l':Nat→Nat}:∀{n:Nat},(∀i,i<n→l i=l' i)→val l n=val l' n
  | 0,_=>rfl
  | n + 1,h=>by simp only [val];rw [db fun i hi=>h i (by omega),h n (by omega)]
theorem gV (l:Nat→Nat):∀n,val l (n + 1)=l 0 + 4294967296*val (fun i=>l (i + 1)) n
  | 0=>by simp [val]
  | n + 1=>by
    rw [val,gV l n];simp only [val];rw [bY,Nat.mul_add,Nat.mul_left_comm];omega
theorem eX {l:Nat→Nat}:∀{n m:Nat},n≤m→(∀i,n≤i→i<m→l i=0)→val l m=val l n
  | n,0,h,_=>by
    have:n=0:=by omega
    subst this;rfl
  | n,m + 1,h,hz=>by
    by_cases e:n=m + 1
    · subst e;rfl
    · rw [val,hz m (by omega) (by omega),eX (n:=n) (m:=m) (by omega) fun i h1 h2=>hz i h1 (by omega)]
      simp
def aB (w:World) (A:Option Addr) (n c:Nat) (l:Nat→Nat):Prop:=
  n≤c∧c<9223372036854775808∧(∀i,i<n→l i<4294967296)∧
  (0<n→∃g m f,A=some ⟨g,0,none⟩∧n≤m∧aY w g 101 m f∧∀i,i<n→f i= .int .u32 (l i:Int))
def blk (A:Option Addr):Nat:=match A with | some a=>a.block | none=>0
section
variable {w w':World} {A:Option Addr} {n c:Nat} {l l':Nat→Nat}
theorem aB.lt (h:aB w A n c l):∀i,i<n→l i<4294967296:=h.2.2.1
theorem aB.le (h:aB w A n c l):n≤c:=h.1
theorem aB.lim (h:aB w A n c l):n<9223372036854775808:=by have:=h.1;have:=h.2.1;omega
theorem aB.addr (h:aB w A n c l) (hn:0<n):A=some ⟨blk A,0,none⟩:=by
  obtain ⟨g,m,f,hA,_⟩:=h.2.2.2 hn;subst hA;rfl
theorem aB.get (h:aB w A n c l) {i:Nat} (hi:i<n):w.cell? ⟨blk A,i,none⟩=some (.int .u32 (l i:Int)):=by
  obtain ⟨g,m,f,hA,hm,ha,hf⟩:=h.2.2.2 (by omega);subst hA;have:=ha.cell (i:=i) (by omega);rw [hf i hi] at this;exact this
theorem aB.keep {S:Nat→Prop} (h:aB w A n c l) (hk:Keeps S w w') (hs:∀b m f,S b→¬aY w b 101 m f):aB w' A n c l:=
  ⟨h.1,h.2.1,h.2.2.1,fun hn=>by
    obtain ⟨g,m,f,hA,hm,ha,hf⟩:=h.2.2.2 hn;exact ⟨g,m,f,hA,hm,ha.keep hk fun hS=>hs g m f hS ha,hf⟩⟩
theorem aB.ext (h:aB w A n c l) (hx:aA w w'):aB w' A n c l:=h.keep (hx.keeps (fun _=>False)) fun _ _ _ hf=>hf.elim
theorem aB.far {S:Nat→Prop} (h:aB w A n c l) (hk:Keeps S w w') {B:Nat} (hs:∀b,S b→B≤b) (hb:0<n→blk A<B):aB w' A n c l:=
  ⟨h.1,h.2.1,h.2.2.1,fun hn=>by
    have hb':=hb hn;obtain ⟨g,m,f,hA,hm,ha,hf⟩:=h.2.2.2 hn;subst hA;exact ⟨g,m,f,rfl,hm,ha.keep hk fun hS=>by have:=hs g hS;simp [blk] at hb';omega,hf⟩⟩
theorem aB.old (h:aB w A n c l) (hn:0<n):blk A<w.heap.size:=by
  obtain ⟨g,m,f,hA,hm,ha,hf⟩:=h.2.2.2 hn;subst hA;exact ha.lt
theorem aB.sub (h:aB w A n c l) {m d:Nat} (hm:m≤n) (hd:m≤d) (hdc:d≤c):aB w A m d l:=
  ⟨hd,by have:=h.2.1;omega,fun i hi=>h.2.2.1 i (by omega),fun hp=>by
    obtain ⟨g,k,f,hA,hk,ha,hf⟩:=h.2.2.2 (by omega);exact ⟨g,k,f,hA,by omega,ha,fun i hi=>hf i (by omega)⟩⟩
theorem aB.nil (w:World) (l:Nat→Nat):aB w none 0 0 l:=⟨Nat.le_refl _,by omega,fun i hi=>by omega,fun h=>by omega⟩
theorem aB.congr (h:aB w A n c l) (he:∀i,i<n→l i=l' i):aB w A n c l':=
  ⟨h.1,h.2.1,fun i hi=>by rw [←he i hi];exact h.2.2.1 i hi,fun hn=>by
    obtain ⟨g,m,f,hA,hm,ha,hf⟩:=h.2.2.2 hn;exact ⟨g,m,f,hA,hm,ha,fun i hi=>by rw [←he i hi];exact hf i hi⟩⟩
theorem ek {g m:Nat} {f:Nat→Value} (ha:aY w g 101 m f) (hn:n≤m) (hc:n≤c) (h63:c<9223372036854775808) (hl:∀i,i<n→l i<4294967296)
    (hf:∀i,i<n→f i= .int .u32 (l i:Int)):aB w (some ⟨g,0,none⟩) n c l:=
  ⟨hc,h63,hl,fun _=>⟨g,m,f,rfl,hn,ha,hf⟩⟩
end
def cz (w:World) (g n:Nat) (l:Nat→Nat):Prop:=(∀i,i<n→l i<4294967296)∧aY w g 101 n (fun i=> .int .u32 (l i:Int))
def ci (l:Nat→Nat) (d v:Nat):Nat→Nat:=fun i=>if i=d then v else l i
section
variable {w w':World} {g n:Nat} {l l':Nat→Nat}
theorem cz.get (h:cz w g n l) {i:Nat} (hi:i<n):w.cell? ⟨g,i,none⟩=some (.int .u32 (l i:Int)):=h.2.cell hi
theorem cz.ext (h:cz w g n l) (hx:aA w w'):cz w' g n l:=⟨h.1,h.2.ext hx⟩
theorem cz.keep {S:Nat→Prop} (h:cz w g n l) (hk:Keeps S w w') (hs:¬S g):cz w' g n l:=⟨h.1,h.2.keep hk hs⟩
theorem cz.set {i v:Nat} (h:cz w g n l) (hv:v<4294967296) (h':aY w' g 101 n (dM (fun i=> .int .u32 (l i:Int)) i [.int .u32 (v:Int)])):cz w' g n (ci l i v):=by
  refine ⟨fun j hj=> ?_,h'.congr fun j hj=> ?_⟩
  · unfold ci;split
    · exact hv
    · exact h.1 j hj
  · simp only [dM]
    by_cases e:j=i
    · subst e;rw [bO];simp [ci]
    · rw [co _ _ _ _ e];simp [ci,e]
theorem cz.limbs (h:cz w g n l) {m c:Nat} (hm:m≤n) (hc:m≤c) (h63:c<9223372036854775808):aB w (some ⟨g,0,none⟩) m c l:=
  ek h.2 hm hc h63 (fun i hi=>h.1 i (by omega)) fun _ _=>rfl
theorem cz.congr (h:cz w g n l) (he:∀i,i<n→l i=l' i):cz w g n l':=
  ⟨fun i hi=>by rw [←he i hi];exact h.1 i hi,h.2.congr fun i hi=>by rw [he i hi]⟩
theorem cF (h:aY w g 101 n (fun i=>bU [.int .u32 0] (i % 1))):cz w g n (fun _=>0):=
  ⟨fun _ _=>(by decide:(0:Nat)<4294967296),h.congr fun i _=>by rw [Nat.mod_one];rfl⟩
end
theorem aW (l:Nat→Nat) (d v:Nat):ci l d v d=v:=by simp [ci]
theorem aT (l:Nat→Nat) (d v i:Nat) (h:i≠d):ci l d v i=l i:=by simp [ci,h]
theorem dV (l:Nat→Nat) {d n:Nat} (h:n≤d) (v:Nat):val (ci l d v) n=val l n:=db fun i hi=>aT l d v i (by omega)
def ak (w:World) (v:Value) (z:Int) (b:Nat):Prop:=
  b≤bj∧z.natAbs<2^b∧∃A n c l,v= .agg #[.bool (decide (z<0)),.slice A n c]∧aB w A n c l∧val l n=z.natAbs∧(0<n→l (n - 1)≠0)
section
variable {w w':World} {v:Value} {z:Int} {b:Nat}
theorem ak.keep {S:Nat→Prop} (h:ak w v z b) (hk:Keeps S w w') (hs:∀k m f,S k→¬aY w k 101 m f):ak w' v z b:=by
  obtain ⟨h1,h2,A,n,c,l,hv,hl,h3⟩:=h;exact ⟨h1,h2,A,n,c,l,hv,hl.keep hk hs,h3⟩
theorem ak.ext (h:ak w v z b) (hx:aA w w'):ak w' v z b:=h.keep (hx.keeps (fun _=>False)) fun _ _ _ hf=>hf.elim
theorem ak.more {b':Nat} (h:ak w v z b) (hb:z.natAbs<2^b') (hl:b'≤bj):ak w v z b':=⟨hl,hb,h.2.2⟩
theorem ak.up {b':Nat} (h:ak w v z b) (hb:b≤b') (hl:b'≤bj):ak w v z b':=
  h.more (Nat.lt_of_lt_of_le h.2.1 (Nat.pow_le_pow_right (by omega) hb)) hl
theorem dA (z:Int) (b:Nat):bq (fun v w=>ak w v z b):=fun _ _ _ h hx=>h.ext hx
instance (z:Int) (b:Nat):Nonempty (bq (fun v w=>ak w v z b)):=⟨dA z b⟩
theorem fX {l:Nat→Nat} {n:Nat} (hn:0<n) (ht:l (n - 1)≠0):4294967296^(n - 1)≤val l n:=by
  obtain ⟨m,rfl⟩:∃m,n=m + 1:=⟨n - 1,by omega⟩
  simp only [Nat.add_sub_cancel] at ht⊢;simp only [val];have:1*4294967296^m≤l m*4294967296^m:=Nat.mul_le_mul_right _ (by omega);omega
theorem cC {l:Nat→Nat} {n:Nat} (ht:0<n→l (n - 1)≠0) (hb:val l n<2^b):32*n≤b + 31:=by
  rcases Nat.eq_zero_or_pos n with h | h
  · subst h;omega
  · have h1:=fX h (ht h)
    have h2:(2:Nat)^(32*(n - 1))<2^b:=by
      rw [Nat.pow_mul];exact Nat.lt_of_le_of_lt h1 hb
    have:=(Nat.pow_lt_pow_iff_right (by omega)).1 h2;omega
theorem ak.form (h:ak w v z b):∃A n c l,v= .agg #[.bool (decide (z<0)),.slice A n c]∧aB w A n c l∧val l n=z.natAbs∧(0<n→l (n - 1)≠0)∧32*n≤b + 31∧b≤bj:=by
  obtain ⟨h1,h2,A,n,c,l,hv,hl,h3,h4⟩:=h;exact ⟨A,n,c,l,hv,hl,h3,h4,cC h4 (h3▸h2),h1⟩
theorem ak.mk {A:Option Addr} {n c:Nat} {l:Nat→Nat} {s:Bool} (hl:aB w A n c l) (hv:val l n=z.natAbs) (ht:0<n→l (n - 1)≠0) (hs:s=decide (z<0)) (hb:z.natAbs<2^b) (hlim:b≤bj):
    ak w (.agg #[.bool s,.slice A n c]) z b:=⟨hlim,hb,A,n,c,l,by rw [hs],hl,hv,ht⟩
end
theorem bT {x c:Int} (h: -9223372036854775808≤x∧x≤9223372036854775807∧x=c):IntKind.i64.wrap x=c:=by
  rw [IntKind.wrap_i64];omega
theorem cV {x c:Int} (h:0≤x∧x<18446744073709551616∧x=c):IntKind.u64.wrap x=c:=by
  rw [IntKind.wrap_u64];omega
theorem nj {x c:Int} (h:0≤x∧x<4294967296∧x=c):IntKind.u32.wrap x=c:=by
  rw [IntKind.wrap_u32];omega
theorem eJ {x c:Int} (h:x % 4294967296=c):IntKind.u32.wrap x=c:=by
  rw [IntKind.wrap_u32];exact h
theorem jh {x c:Int} (h:x % 18446744073709551616=c):IntKind.u64.wrap x=c:=by
  rw [IntKind.wrap_u64];exact h
end Go.TL
namespace Go.TL
open Go.RowKit
section
variable {K:cl→World→Prop} {Q:da} {e:cl} {w:World} {i id:Nat}
theorem pl.norm (h:K e w):pl K Q .normal e w:=h
theorem pl.exit (h:Q (.exit i) e w):pl K Q (.exit i) e w:=h
theorem pl.ret (h:Q .ret e w):pl K Q .ret e w:=h
theorem pl.goto (h:Q (.goto i) e w):pl K Q (.goto i) e w:=h
theorem iD.norm (h:Q .normal e w):iD id Q .normal e w:=h
theorem iD.ret (h:Q .ret e w):iD id Q .ret e w:=h
theorem iD.goto (h:Q (.goto i) e w):iD id Q (.goto i) e w:=h
theorem iD.same (h:Q .normal e w):iD id Q (.exit id) e w:=by simpa [iD] using h
theorem fV (hb:Nat.beq i id=false) (h:Q (.exit i) e w):iD id Q (.exit i) e w:=by simp only [iD,hb];exact h
end
def jK (Q:da):da
  | .goto _,_,_=>False
  | x,e,w=>Q x e w
theorem lR {P:Program} {N:Nat} {c:Code} {Q:da} {e:cl} {w:World} (h:WP P N c (jK Q) e w):WP P N (.scope c) Q e w:=
  WP.scope (h.mono fun x _ _ hx=>by cases x<;>exact hx)
theorem jK.norm {Q:da} {e:cl} {w:World} (h:Q .normal e w):jK Q .normal e w:=h
theorem jK.ret {Q:da} {e:cl} {w:World} (h:Q .ret e w):jK Q .ret e w:=h
theorem jK.exit {Q:da} {e:cl} {w:World} {i:Nat} (h:Q (.exit i) e w):jK Q (.exit i) e w:=h
theorem WP.cut {P:Program} {N:Nat} {x y:Code} {Q:da} {e:cl} {w:World} (J:cl→World→Prop) (h1:WP P N x (pl J Q) e w) (h2:∀e w,J e w→WP P N y Q e w):WP P N (.seq x y) Q e w:=
  WP.seq (h1.mono fun x e w hx=>by cases x<;>first | exact h2 _ _ hx | exact hx)
def lA (f:Nat→Value) (o:Nat):Nat→List Value
  | 0=> []
  | k + 1=>f o::lA f (o + 1) k
theorem iH (f:Nat→Value):∀(k o i:Nat),i<k→(lA f o k)[i]? =some (f (o + i))
  | 0,_,_,h=>by omega
  | k + 1,o,0,_=>by simp [lA]
  | k + 1,o,i + 1,h=>by
    simp only [lA,List.getElem?_cons_succ];rw [iH f k (o + 1) i (by omega)]
    congr 2;omega
section
variable {w w':World} {g n:Nat} {T:TypeId} {f:Nat→Value}
theorem aY.cells (h:aY w g T n f) (o:Nat) (cs:List Value) (hn:Nat.ble (o + cs.length) n=true) (hf:lA f o cs.length=cs):∀i v,cs[i]? =some v→w.cell? ⟨g,o + i,none⟩=some v:=by
  intro i v hv;have hi:i<cs.length:=(List.getElem?_eq_some_iff.1 hv).1;have h1:=iH f cs.length o i hi;rw [hf,hv] at h1;have hn':=Nat.le_of_ble_eq_true hn;rw [h.cell (by omega)];exact h1.symm
theorem aY.lit (h:aY w g T n f) (l:List Value) (hl:lA f 0 n=l):aY w g T n (bU l):=by
  refine h.congr fun i hi=> ?_
  have h1:=iH f n 0 i hi;rw [hl] at h1;simp [bU,h1]
theorem aY.at_ (h:aY w g T n f) {i:Nat} {v:Value} (hi:Nat.blt i n=true) (hv:f i=v):w.cell? ⟨g,i,none⟩=some v:=by
  subst hv;exact h.cell (by simpa [Nat.blt_eq] using hi)
end
theorem aN {w w':World} {A:Option Addr} {n c B g:Nat} {l:Nat→Nat} (h:aB w A n c l) (hk:Keeps (fun b=>b=g) w w') (hg:B≤g) (hb:0<n→blk A<B):aB w' A n c l:=
  h.far hk (fun b e=>by subst e;exact hg) hb
theorem ah {w w':World} {v:Value} {z:Int} {b g n:Nat} {T:TypeId} {f:Nat→Value} (h:ak w v z b) (hk:Keeps (fun b=>b=g) w w') (hA:aY w g T n f) (ht:T≠101):ak w' v z b:=
  h.keep hk fun _ _ _ e ha=>hA.ne (e▸ha) ht rfl
theorem bg {w w':World} {A:Option Addr} {n c g m:Nat} {l:Nat→Nat} {T:TypeId} {f:Nat→Value} (h:aB w A n c l) (hk:Keeps (fun b=>b=g) w w') (hA:aY w g T m f) (ht:T≠101):aB w' A n c l:=
  h.keep hk fun _ _ _ e ha=>hA.ne (e▸ha) ht rfl
theorem aQ {w:World} {g j:Nat} {x:Option Value} (h:w.cell? ⟨g,j,none⟩=x):w.cell? ⟨g,0 + j*1,none⟩=x:=by simpa using h
theorem dp {w:World} {g j n:Nat} {T:TypeId} {f:Nat→Value} {l:List Value} (h:aY w g T n (dM f (0 + j*1) l)):aY w g T n (dM f j l):=by simpa using h
theorem dx {a:Value} (ha:a.oneCell'=true):∀u∈ [a],u.oneCell'=true:=by simp [ha]
theorem bs {a b:Value} (ha:a.oneCell'=true) (hb:b.oneCell'=true):∀u∈ [a,b],u.oneCell'=true:=by simp [ha,hb]
theorem cS {a b c:Value} (ha:a.oneCell'=true) (hb:b.oneCell'=true) (hc:c.oneCell'=true):∀u∈ [a,b,c],u.oneCell'=true:=by simp [ha,hb,hc]
def bV (a b:Int):Int:=if a<b then -1 else if b<a then 1 else 0
section
variable {P:Program} {o:Oper} {e:cl} {w:World} {v:Value} {φ:cf}
theorem cj.dr (h:cj P o e w v) (hφ:φ v w):cQ P o e w (fun v' w''=>aA w w''∧φ v' w''):=
  h.opX.mono fun v' w' ⟨h1,h2⟩=>by subst h1;subst h2;exact ⟨aA.refl _,hφ⟩
theorem aa (h:cj P o e w v):cQ P o e w (fun v' w''=>aA w w''∧v'=v):=h.dr (φ:=fun v' _=>v'=v) rfl
theorem cQ.imp {p:Prop} (h:cQ P o e w (fun v' w''=>aA w w''∧φ v' w'')):cQ P o e w (fun v' w''=>aA w w''∧(p→φ v' w'')):=
  h.mono fun _ _ ⟨h1,h2⟩=>⟨h1,fun _=>h2⟩
theorem yp {l:List Oper} {g:Nat} {p:Prop} [Decidable p] {X:Prop} {ψ:Prop} (hb:e (aZ l g)= .bool (decide p)) (h:p→X) (hn:¬p→ψ):
    (∃b,e (aZ l g)= .bool b∧(b=true→X)∧(b= !true→ψ))∨(e (aZ l g)=undef∧ψ):=
  .inl ⟨decide p,hb,fun hp=>h (of_decide_eq_true hp),fun hp=>hn (of_decide_eq_false hp)⟩
theorem ug {l:List Oper} {g:Nat} {p:Prop} [Decidable p] {X:Prop} {ψ:Prop} (hb:e (aZ l g)= .bool (decide p)) (h:¬p→X) (hn:p→ψ):
    (∃b,e (aZ l g)= .bool b∧(b=false→X)∧(b= !false→ψ))∨(e (aZ l g)=undef∧ψ):=
  .inl ⟨decide p,hb,fun hp=>h (of_decide_eq_false hp),fun hp=>hn (of_decide_eq_true hp)⟩
theorem yq {l:List Oper} {g:Nat} {O p:Prop} [Decidable O] [Decidable p] {X:Prop} {ψ:Prop} (hb:(O→e (aZ l g)= .bool (decide p))∧(¬O→e (aZ l g)=undef)) (h:O∧p→X) (hn:¬(O∧p)→ψ):
    (∃b,e (aZ l g)= .bool b∧(b=true→X)∧(b= !true→ψ))∨(e (aZ l g)=undef∧ψ):=by
  by_cases ho:O
  · exact .inl ⟨decide p,hb.1 ho,fun hp=>h ⟨ho,of_decide_eq_true hp⟩,fun hp=>hn fun hh=>(of_decide_eq_false hp) hh.2⟩
  · exact .inr ⟨hb.2 ho,hn fun hh=>ho hh.1⟩
theorem cQ.impU {p:Prop} (hp:p) (h:cQ P o e w (fun v' w''=>aA w w''∧φ v' w'')):cQ P o e w (fun v' w''=>aA w w''∧((p→φ v' w'')∧(¬p→v'=undef))):=
  h.mono fun _ _ ⟨h1,h2⟩=>⟨h1,fun _=>h2,fun hn=>absurd hp hn⟩
theorem gT {l:List Oper} {g:Nat} {p:Prop} [Decidable p] (hb:e (aZ l g)= .bool (decide p)) (h:p→cQ P o e w (fun v w'=>aA w w'∧φ v w')):
    (∃b,e (aZ l g)= .bool b∧(b=true→cQ P o e w (fun v w'=>aA w w'∧(p→φ v w')))∧(b= !true→(p→φ undef w)))∨(e (aZ l g)=undef∧(p→φ undef w)):=
  yp hb (fun hg=>cQ.imp (h hg)) fun hn hg=>absurd hg hn
theorem gF {l:List Oper} {g:Nat} {p:Prop} [Decidable p] (hb:e (aZ l g)= .bool (decide p)) (h:¬p→cQ P o e w (fun v w'=>aA w w'∧φ v w')):
    (∃b,e (aZ l g)= .bool b∧(b=false→cQ P o e w (fun v w'=>aA w w'∧(¬p→φ v w')))∧(b= !false→(¬p→φ undef w)))∨(e (aZ l g)=undef∧(¬p→φ undef w)):=
  ug hb (fun hg=>cQ.imp (h hg)) fun hn hg=>absurd hn hg
theorem gN {l:List Oper} {g:Nat} {O p:Prop} [Decidable O] [Decidable p] (hb:(O→e (aZ l g)= .bool (decide p))∧(¬O→e (aZ l g)=undef)) (h:O∧p→cQ P o e w (fun v w'=>aA w w'∧φ v w')):
    (∃b,e (aZ l g)= .bool b∧(b=true→cQ P o e w (fun v w'=>aA w w'∧(O∧p→φ v w')))∧(b= !true→(O∧p→φ undef w)))∨(e (aZ l g)=undef∧(O∧p→φ undef w)):=
  yq hb (fun hg=>cQ.imp (h hg)) fun hn hg=>absurd hg hn
theorem gFU {l:List Oper} {g:Nat} {p:Prop} [Decidable p] (hb:e (aZ l g)= .bool (decide p)) (h:¬p→cQ P o e w (fun v w'=>aA w w'∧φ v w')):
    (∃b,e (aZ l g)= .bool b∧(b=false→cQ P o e w (fun v w'=>aA w w'∧((¬p→φ v w')∧(¬¬p→v=undef))))∧(b= !false→((¬p→φ undef w)∧(¬¬p→undef=undef))))∨(e (aZ l g)=undef∧((¬p→φ undef w)∧(¬¬p→undef=undef))):=
  ug hb (fun hg=>cQ.impU hg (h hg)) fun hn=>⟨fun hg=>absurd hn hg,fun _=>rfl⟩
theorem bq.impU {p:Prop} (h:bq φ):bq (fun v w=>(p→φ v w)∧(¬p→v=undef)):=fun _ _ _ h1 hx=>⟨fun hp=>h _ _ _ (h1.1 hp) hx,h1.2⟩
theorem ac (v:Value):bq (fun v' _=>v'=v):=fun _ _ _ h _=>h
instance (v:Value):Nonempty (bq (fun v' _=>v'=v)):=⟨ac v⟩
theorem bq.imp {p:Prop} (h:bq φ):bq (fun v w=>p→φ v w):=fun _ _ _ h1 hx hp=>h _ _ _ (h1 hp) hx
instance {p:Prop} [h:Nonempty (bq φ)]:Nonempty (bq (fun v w=>p→φ v w)):=h.elim fun h=>⟨h.imp⟩
instance {p:Prop} [h:Nonempty (bq φ)]:Nonempty (bq (fun v w=>(p→φ v w)∧(¬p→v=undef))):=h.elim fun h=>⟨h.impU⟩
end
end Go.TL
namespace Go.TL
theorem lM {a b:Int} (h:bV a b=0):a=b:=by
  unfold bV at h;split at h
  · omega
  · split at h<;>omega
theorem fL {a b:Int} (h:b<a):bV a b=1:=by unfold bV;rw [if_neg (by omega),if_pos h]
theorem fM {a b:Int} (h:a<b):bV a b= -1:=by unfold bV;rw [if_pos h]
theorem qz {a b:Int} (h:a=b):bV a b=0:=by unfold bV;rw [if_neg (by omega),if_neg (by omega)]
theorem qy {la lb:Nat→Nat} {n m:Nat} (ha:∀i,i<n→la i<4294967296) (hb:∀i,i<m→lb i<4294967296)
    (hta:0<n→la (n - 1)≠0) (htb:0<m→lb (m - 1)≠0) (h:(n:Int)≠(m:Int)):bV (val la n:Int) (val lb m)=bV n m:=by
  have key:∀{l l':Nat→Nat} {n m:Nat},(∀i,i<n→l i<4294967296)→(0<m→l' (m - 1)≠0)→n<m→val l n<val l' m:=by
    intro l l' n m h1 h2 hlt;have h3:=dE h1;have h4:=fX (l:=l') (n:=m) (by omega) (h2 (by omega));have h5:4294967296^n≤4294967296^(m - 1):=Nat.pow_le_pow_right (by omega) (by omega);omega
  rcases Nat.lt_trichotomy n m with h1 | h1 | h1
  · have h2:=key ha htb h1
    rw [fM (a:=(val la n:Int)) (by omega),fM (by omega)]
  · omega
  · have h2:=key hb hta h1
    rw [fL (a:=(val la n:Int)) (by omega),fL (by omega)]
theorem dN (l:Nat→Nat) (k:Nat):∀{n:Nat},k≤n→val l n=val l k + 4294967296^k*val (fun i=>l (i + k)) (n - k)
  | 0,h=>by
    have:k=0:=by omega
    subst this;simp [val]
  | n + 1,h=>by
    by_cases e:k=n + 1
    · subst e;simp [val]
    · have h1:=dN l k (n:=n) (by omega)
      have h2:n + 1 - k=(n - k) + 1:=by omega
      rw [h2];simp only [val];rw [h1,Nat.mul_add,Nat.sub_add_cancel (by omega:k≤n)];have h3:4294967296^n=4294967296^k*4294967296^(n - k):=by rw [←Nat.pow_add];congr 1;omega
      rw [h3,Nat.mul_left_comm];omega
theorem uD {la lb:Nat→Nat} {n m k:Nat} (ha:∀i,i<n→la i<4294967296) (hb:∀i,i<m→lb i<4294967296) (hnm:n=m) (hk:k<n)
    (heq:∀j,k<j→j<n→la j=lb j) (hne:(la k:Int)≠(lb k:Int)):bV (val la n:Int) (val lb m)=bV (la k) (lb k):=by
  subst hnm;have h1:=dN la (k + 1) (n:=n) (by omega);have h2:=dN lb (k + 1) (n:=n) (by omega);have h3:val (fun i=>la (i + (k + 1))) (n - (k + 1))=val (fun i=>lb (i + (k + 1))) (n - (k + 1)):=db fun i hi=>heq _ (by omega) (by omega)
  rw [h3] at h1;have h4:=dE (l:=la) (n:=k) fun i hi=>ha i (by omega)
  have h5:=dE (l:=lb) (n:=k) fun i hi=>hb i (by omega)
  simp only [val] at h1 h2;rcases Nat.lt_trichotomy (la k) (lb k) with h | h | h
  · have h6:(la k + 1)*4294967296^k≤lb k*4294967296^k:=Nat.mul_le_mul_right _ h
    rw [Nat.add_mul] at h6;rw [fM (by omega),fM (by omega)]
  · omega
  · have h6:(lb k + 1)*4294967296^k≤la k*4294967296^k:=Nat.mul_le_mul_right _ h
    rw [Nat.add_mul] at h6;rw [fL (by omega),fL (by omega)]
theorem uC {la lb:Nat→Nat} {n m:Nat} (hnm:n=m) (heq:∀j,j<n→la j=lb j):val la n=val lb m:=by subst hnm;exact db heq
end Go.TL
namespace Go.TL
open Go.RowKit
def dK (w:World) (v:Value) (m:Nat):Prop:=∃A n c l,v= .slice A n c∧aB w A n c l∧val l n=m
def dD (w:World) (v:Value) (m:Nat):Prop:=∃A n c l,v= .slice A n c∧aB w A n c l∧val l n=m∧(0<n→l (n - 1)≠0)
theorem dK.ext {w w':World} {v:Value} {m:Nat} (h:dK w v m) (hx:aA w w'):dK w' v m:=by
  obtain ⟨A,n,c,l,h1,h2,h3⟩:=h;exact ⟨A,n,c,l,h1,h2.ext hx,h3⟩
theorem dD.ext {w w':World} {v:Value} {m:Nat} (h:dD w v m) (hx:aA w w'):dD w' v m:=by
  obtain ⟨A,n,c,l,h1,h2,h3⟩:=h;exact ⟨A,n,c,l,h1,h2.ext hx,h3⟩
theorem dD.limV {w:World} {v:Value} {m:Nat} (h:dD w v m):dK w v m:=by
  obtain ⟨A,n,c,l,h1,h2,h3,_⟩:=h;exact ⟨A,n,c,l,h1,h2,h3⟩
theorem rC (m:Nat):bq (fun v w=>dK w v m):=fun _ _ _ h hx=>h.ext hx
instance (m:Nat):Nonempty (bq (fun v w=>dK w v m)):=⟨rC m⟩
theorem rD (m:Nat):bq (fun v w=>dD w v m):=fun _ _ _ h hx=>h.ext hx
instance (m:Nat):Nonempty (bq (fun v w=>dD w v m)):=⟨rD m⟩
theorem limV {w:World} {A:Option Addr} {n c m:Nat} {l:Nat→Nat} (h:aB w A n c l) (hv:val l n=m):dK w (.slice A n c) m:=⟨A,n,c,l,rfl,h,hv⟩
theorem limC {w:World} {A:Option Addr} {n c m:Nat} {l:Nat→Nat} (h:aB w A n c l) (hv:val l n=m) (ht:0<n→l (n - 1)≠0):dD w (.slice A n c) m:=⟨A,n,c,l,rfl,h,hv,ht⟩
theorem dh {w w':World} {v:Value} {m g n:Nat} {T:TypeId} {f:Nat→Value} (h:dK w v m) (hk:Keeps (fun b=>b=g) w w') (hA:aY w g T n f) (ht:T≠101):dK w' v m:=by
  obtain ⟨A,n,c,l,h1,h2,h3⟩:=h;exact ⟨A,n,c,l,h1,bg h2 hk hA ht,h3⟩
theorem ak.cells {w:World} {v:Value} {z:Int} {b:Nat} (h:ak w v z b):∃c0 c1,v= .agg #[c0,c1]∧c0.oneCell'=true∧c1.oneCell'=true:=by
  obtain ⟨_,_,A,n,c,l,hv,_⟩:=h;exact ⟨_,_,hv,rfl,rfl⟩
theorem ak.lim {w:World} {v:Value} {z:Int} {b:Nat} (h:ak w v z b):b≤bj:=h.1
theorem ak.bd {w:World} {v:Value} {z:Int} {b:Nat} (h:ak w v z b):z.natAbs<2^b:=h.2.1
theorem ak.zero (w:World):ak w (.agg #[.bool false,.slice none 0 0]) 0 0:=
  ⟨Nat.zero_le _,by decide,none,0,0,fun _=>0,rfl,aB.nil w _,rfl,fun h=>by omega⟩
def aD (p:Prop) [Decidable p] (m:Nat):Int:=if p then -(m:Int) else m
theorem ia (p:Prop) [Decidable p] (m:Nat):(aD p m).natAbs=m:=by unfold aD;split<;>simp
theorem rl {w:World} {A:Option Addr} {n c k b:Nat} {l:Nat→Nat} {p:Prop} [Decidable p] (hL:aB w A n c l) (hk:k≤n) (hz:val l n=val l k) (ht:0<k→l (k - 1)≠0)
    (hb:val l n<2^b) (hlim:b≤bj):ak w (.agg #[.bool (decide (p∧(0:Int)<(k:Int))),.slice A k k]) (aD p (val l n)) b:=by
  refine ak.mk (hL.sub hk (Nat.le_refl _) (by have:=hL.le;omega)) (by rw [ia,hz]) ht ?_ (by rw [ia];exact hb) hlim
  by_cases hp:p
  · by_cases h0:k=0
    · subst h0
      have:val l n=0:=by rw [hz];rfl
      simp [aD,hp,this]
    · have h1:=fX (l:=l) (n:=k) (by omega) (ht (by omega))
      have h2:=kg (k - 1);have:0<val l n:=by omega
      simp [aD,hp];omega
  · simp [aD,hp]
section
variable {P:Program} {e:cl} {w:World} {d:Option Tmp} {ty:TypeId} {pos:String} {after:Array Edge} {gd:Option (Nat×Bool)}
theorem jd {φ:cf} {x:Operand} (hx:φ (ev e x) w):cQ P ⟨d,.assign x,ty,pos,after,gd⟩ e w (fun v w'=>aA w w'∧φ v w'):=
  (cj.assign rfl).opX.mono fun v w' h=>by obtain ⟨rfl,rfl⟩:=h;exact ⟨aA.refl _,hx⟩
theorem sc {φ:cf} {x:Operand} (hx:φ (ev e x) w):cQ P ⟨d,.move x,ty,pos,after,gd⟩ e w (fun v w'=>aA w w'∧φ v w'):=
  (cj.move rfl).opX.mono fun v w' h=>by obtain ⟨rfl,rfl⟩:=h;exact ⟨aA.refl _,hx⟩
theorem cQ.buildSlice {t el m b len:Nat} {xs:Array (Nat×Operand)} {vs:List (Nat×Value)} {z:Value} (zl l:List Value) (ht:sliceB P t el m b=true) (hz:(P.info? el).bind (·.zero)=some z) (hzl:z.cells=zl.toArray)
    (hx:xs.toList.map (fun p=>(p.1,ev e p.2))=vs) (hlen:Nat.ble (len*m) 16777216=true) (h0:len*m≠0) {zs:Array Value}
    (hzs:(Array.range (len*m)).map (zl.toArray[· % zl.toArray.size]!)=zs) (hf:Instr.fill (fun i=>some (i*m,m)) zs vs=some l.toArray):
    cQ P ⟨d,.buildSlice t len xs,ty,pos,after,gd⟩ e w (fun v w'=>∃g,v= .slice (some ⟨g,0,none⟩) len len∧w.heap.size≤g∧aA w w'∧aY w' g el l.length (bU l)):=by
  obtain ⟨hu,i0,hi0,hm,_⟩:=bJ ht;subst hm;have hz':i0.zero=some z:=by rw [hi0] at hz;simpa using hz
  have hle:¬(len*i0.size>2^24):=by have:=Nat.le_of_ble_eq_true hlen;omega
  have hx':(xs.map fun p=>(p.1,ev e p.2)).toList=vs:=by simpa using hx
  obtain ⟨g,hg,hle2,hext,harr⟩:=fr w el l;have hg':w.heap.size=g:=by simpa using hg
  subst hg';refine cD (w':=w.alloc (.cells l.toArray el)) (v:= .slice (some ⟨w.heap.size,0,none⟩) len len) ?_ ⟨_,rfl,hle2,hext,harr⟩;have hf':Instr.fill (fun i=>some (i*i0.size,i0.size)) ((Array.range (len*i0.size)).map (zl.toArray[· % zl.toArray.size]!)) (xs.map fun p=>(p.1,ev e p.2)).toList=some l.toArray:=by rw [hx',hzs];exact hf
  simp only [execOp,Instr.buildSlice,Sem.run_bind,run_underlying hu,Result.andThen_ok,eY hi0,Sem.run_ite,if_neg hle,if_neg h0,zeroValue,typeInfo,ic,hi0,hz',Sem.run_pure,hzl,hf',newRow];simp
end
end Go.TL
namespace Go.TL
def dj (x y c:Nat):Nat:=(x + 4294967296 - y - c) % 4294967296
def bor (x y c:Nat):Nat:=if x<y + c then 1 else 0
theorem sL {x y c:Nat} (hx:x<4294967296) (hy:y<4294967296) (hc:c≤1):x + 4294967296*bor x y c=dj x y c + y + c:=by
  unfold bor dj;split<;>omega
theorem dm (x y c:Nat):dj x y c<4294967296:=Nat.mod_lt _ (by decide)
theorem uI (x y c:Nat):bor x y c≤1:=by unfold bor;split<;>omega
theorem en (a:Nat) (ha:a<4294967296):(BitVec.ofInt 32 (a:Int)).toNat=a:=by
  rw [BitVec.ofInt_natCast,BitVec.toNat_ofNat];exact Nat.mod_eq_of_lt (by omega)
theorem pz (a b:Nat) (ha:a<4294967296) (hb:b<4294967296):bits .and .u32 (a:Int) (b:Int)=((a&&&b:Nat):Int):=by
  have hx:a&&&b<2^32:=Nat.and_lt_two_pow _ (by omega);show IntKind.u32.wrap ((BitVec.ofInt 32 (a:Int)&&&BitVec.ofInt 32 (b:Int)).toNat:Int)=_;rw [BitVec.toNat_and,en a ha,en b hb,IntKind.wrap_u32];omega
theorem sh (a b:Nat) (ha:a<4294967296) (hb:b<4294967296):bits .or .u32 (a:Int) (b:Int)=((a ||| b:Nat):Int):=by
  have hx:a ||| b<2^32:=Nat.or_lt_two_pow (by omega) (by omega);show IntKind.u32.wrap ((BitVec.ofInt 32 (a:Int) ||| BitVec.ofInt 32 (b:Int)).toNat:Int)=_;rw [BitVec.toNat_or,en a ha,en b hb,IntKind.wrap_u32];omega
theorem ma (a b:Nat) (ha:a<4294967296) (hb:b<4294967296):bits .xor .u32 (a:Int) (b:Int)=((a^^^b:Nat):Int):=by
  have hx:a^^^b<2^32:=Nat.xor_lt_two_pow (by omega) (by omega);show IntKind.u32.wrap ((BitVec.ofInt 32 (a:Int)^^^BitVec.ofInt 32 (b:Int)).toNat:Int)=_;rw [BitVec.toNat_xor,en a ha,en b hb,IntKind.wrap_u32];omega
theorem lF (a:Nat) (ha:a<18446744073709551616):(BitVec.ofInt 64 (a:Int)).toNat=a:=by
  rw [BitVec.ofInt_natCast,BitVec.toNat_ofNat];exact Nat.mod_eq_of_lt (by omega)
theorem xp (a b:Nat) (ha:a<18446744073709551616) (hb:b<18446744073709551616):bits .or .u64 (a:Int) (b:Int)=((a ||| b:Nat):Int):=by
  have hx:a ||| b<2^64:=Nat.or_lt_two_pow (by omega) (by omega);show IntKind.u64.wrap ((BitVec.ofInt 64 (a:Int) ||| BitVec.ofInt 64 (b:Int)).toNat:Int)=_;rw [BitVec.toNat_or,lF a ha,lF b hb,IntKind.wrap_u64];omega
theorem jw {a:Nat} (ha:a<4294967296):a/2147483648=(a.testBit 31).toNat:=by
  rw [Nat.testBit_eq_decide_div_mod_eq];have h1:a/2147483648<2:=by omega
  have h2:(2:Nat)^31=2147483648:=by decide
  rw [h2]
  by_cases h:a/2147483648 % 2=1
  · rw [decide_eq_true h];show _=1;omega
  · rw [decide_eq_false h];show _=0;omega
theorem tw:(4294967295:Nat).testBit 31=true:=by decide
theorem rc {x y c:Nat} (hx:x<4294967296) (hy:y<4294967296) (hc:c≤1):
    bits .or .u32 (bits .and .u32 (bits .xor .u32 4294967295 (x:Int)) (y:Int)) (bits .and .u32 (bits .xor .u32 4294967295 (bits .xor .u32 (x:Int) (y:Int))) ((dj x y c:Nat):Int))/2^(31:Int).toNat=((bor x y c:Nat):Int):=by
  have hM:(4294967295:Int)=((4294967295:Nat):Int):=rfl;have b1:4294967295^^^x<4294967296:=Nat.xor_lt_two_pow (n:=32) (by decide) (by omega);have b2:x^^^y<4294967296:=Nat.xor_lt_two_pow (n:=32) (by omega) (by omega);have b3:4294967295^^^(x^^^y)<4294967296:=Nat.xor_lt_two_pow (n:=32) (by decide) (by omega);have hs:=dm x y c;have b4:(4294967295^^^x)&&&y<4294967296:=Nat.and_lt_two_pow (n:=32) _ (by omega);have b5:(4294967295^^^(x^^^y))&&&dj x y c<4294967296:=Nat.and_lt_two_pow (n:=32) _ (by omega);have b6:(4294967295^^^x)&&&y ||| (4294967295^^^(x^^^y))&&&dj x y c<4294967296:=Nat.or_lt_two_pow (n:=32) (by omega) (by omega);rw [hM,ma _ _ (by decide) hx,ma _ _ hx hy,ma _ _ (by decide) b2,pz _ _ b1 hy,pz _ _ b3 hs,sh _ _ b4 b5];have e1:(2:Int)^(31:Int).toNat=((2147483648:Nat):Int):=by decide
  rw [e1,←Int.natCast_ediv,jw b6]
  congr 1
  simp only [Nat.testBit_or,Nat.testBit_and,Nat.testBit_xor,tw];have t1:=jw hx;have t2:=jw hy;have t3:=jw hs
  unfold dj at t3⊢
  unfold bor
  cases hx1:x.testBit 31<;>cases hy1:y.testBit 31<;>cases hd:((x + 4294967296 - y - c) % 4294967296).testBit 31<;>
    (rw [hx1] at t1;rw [hy1] at t2;rw [hd] at t3;simp at t1 t2 t3⊢;first | omega | (split<;>omega) | (intro;omega))
end Go.TL
namespace Go.TL
open Go.RowKit
section
variable {l:Nat→Nat} {n:Nat} {z:Int}
theorem fP (hv:val l n=z.natAbs) (h:(n:Int)=0):z=0:=by
  have:n=0:=by omega
  subst this;simp only [val] at hv;omega
theorem mQ (hv:val l n=z.natAbs) (ht:0<n→l (n - 1)≠0) (h:¬(n:Int)=0):z≠0:=by
  have h1:=fX (l:=l) (n:=n) (by omega) (ht (by omega));have h2:=kg (n - 1);omega
end
theorem tC {l:Nat→Nat} {n:Nat} {z:Int} (hv:val l n=z.natAbs) (ht:0<n→l (n - 1)≠0):decide ((¬(z<0))∧((0:Int)<((n:Nat):Int)))=decide (-z<0):=by
  apply decide_eq_decide.2
  by_cases h:(n:Int)=0
  · have:=fP hv h;omega
  · have:=mQ hv ht h;omega
theorem od {a b:Int} (ha:a<0) (hb:b<0):bV (b.natAbs:Nat) (a.natAbs:Nat)=bV a b:=by unfold bV;split<;>split<;>(try split)<;>(try split)<;>omega
theorem oc {a b:Int} (ha:0≤a) (hb:0≤b):bV (a.natAbs:Nat) (b.natAbs:Nat)=bV a b:=by unfold bV;split<;>split<;>(try split)<;>(try split)<;>omega
theorem nk {l:Nat→Nat} {n k:Nat} (hz:val l n=val l k) (hk:0<k) (h0:l (k - 1)=0):val l n=val l (k - 1):=
  hz.trans (eX (by omega) fun i h1 h2=>by
    have:i=k - 1:=by omega
    rw [this];exact h0)
def lz (m:Nat) (l:Nat→Nat):Nat→Nat:=fun i=>if i<m then l i else 0
theorem ec {m:Nat} {l:Nat→Nat} (h:∀i,i<m→l i<4294967296) (i:Nat):lz m l i<4294967296:=by
  unfold lz;split
  · exact h i (by assumption)
  · decide
theorem kA {m n:Nat} (l:Nat→Nat) (h:m≤n):val (lz m l) n=val l m:=by
  rw [eX h (fun i h1 _=>by simp [lz];omega)];exact db fun i hi=>by simp [lz,hi]
theorem kB {m:Nat} {l:Nat→Nat} {i:Nat} (h:i<m):lz m l i=l i:=by simp [lz,h]
theorem eT {m:Nat} {l:Nat→Nat} {i:Nat} (h:¬i<m):lz m l i=0:=by simp [lz,h]
theorem er (o:Nat→Nat) (k v:Nat):val (ci o k v) (k + 1)=val o k + v*4294967296^k:=by
  simp only [val];rw [dV o (Nat.le_refl k),aW]
theorem jT {o la lb:Nat→Nat} {k c:Nat} (h:val o k + c*4294967296^k=val la k + val lb k):
    val (ci o k ((la k + lb k + c) % 4294967296)) (k + 1) + (la k + lb k + c)/4294967296*4294967296^(k + 1)=val la (k + 1) + val lb (k + 1):=by
  rw [er];simp only [val];have h1:=Nat.mod_add_div (la k + lb k + c) 4294967296;have h2:(la k + lb k + c) % 4294967296*4294967296^k + (la k + lb k + c)/4294967296*4294967296^(k + 1)=(la k + lb k + c)*4294967296^k:=by
    rw [bY,←Nat.mul_assoc,←Nat.add_mul]
    congr 1
    omega
  rw [Nat.add_mul,Nat.add_mul] at h2;omega
theorem nZ {o la lb:Nat→Nat} {k c:Nat} (ha:la k<4294967296) (hb:lb k<4294967296) (hc:c≤1) (h:val la k + c*4294967296^k=val o k + val lb k):
    val la (k + 1) + bor (la k) (lb k) c*4294967296^(k + 1)=val (ci o k (dj (la k) (lb k) c)) (k + 1) + val lb (k + 1):=by
  rw [er];simp only [val];have h1:=sL ha hb hc;have h2:la k*4294967296^k + bor (la k) (lb k) c*4294967296^(k + 1)=dj (la k) (lb k) c*4294967296^k + lb k*4294967296^k + c*4294967296^k:=by
    rw [bY,←Nat.mul_assoc,←Nat.add_mul,←Nat.add_mul,←Nat.add_mul]
    congr 1
    omega
  omega
theorem pi {la lb:Nat→Nat} {n m:Nat} (ha:∀i,i<n→la i<4294967296) (htb:0<m→lb (m - 1)≠0) (h:val lb m≤val la n):m≤n:=by
  rcases Nat.lt_or_ge n m with h1 | h1
  · have h2:=dE ha
    have h3:=fX (l:=lb) (n:=m) (by omega) (htb (by omega));have h5:4294967296^n≤4294967296^(m - 1):=Nat.pow_le_pow_right (by omega) (by omega);omega
  · exact h1
theorem qu {o la lb:Nat→Nat} {n m c:Nat} (ho:∀i,i<n→o i<4294967296) (hc:c≤1) (hmn:m≤n) (hle:val lb m≤val la n)
    (h:val la n + c*4294967296^n=val o n + val (lz m lb) n):val o n=val la n - val lb m:=by
  rw [kA lb hmn] at h;have h1:=dE ho;have h2:c=0∨c=1:=by omega
  rcases h2 with h2 | h2<;>subst h2<;>omega
section
variable {P:Program} {e:cl} {w:World} {d:Option Tmp} {ty:TypeId} {pos:String} {after:Array Edge} {gd:Option (Nat×Bool)}
theorem lT {t t2 N C n c g b b2:Nat} {x y:Operand} {A:Option Addr} {l o:Nat→Nat} (ht:sliceB P t 101 1 b=true) (_ht2:sliceB P t2 101 1 b2=true)
    (hx:ev e x= .slice (some ⟨g,0,none⟩) N C) (hy:ev e y= .slice A n c) (hA:cz w g N o) (hL:aB w A n c l) (hn:n≤N):
    cQ P ⟨d,.call {callee:= .builtin .copy,args:= #[x,y],argTypes:= #[t,t2]},ty,pos,after,gd⟩ e w
      (fun v w'=>v= .int .i64 (n:Int)∧Keeps (fun b=>b=g) w w'∧cz w' g N (fun i=>if i<n then l i else o i)):=by
  obtain ⟨hu,i0,hi0,hm,_⟩:=bJ ht;have hmin:Nat.min n N=n:=Nat.min_eq_left hn;have hload:(Builtin.firstCells i0.size n (.slice A n c)).run P w= .ok ((List.range n).map fun i=>Value.int .u32 (l i:Int)).toArray w:=by
    rcases Nat.eq_zero_or_pos n with h0 | h0
    · subst h0
      cases A<;>simp [Builtin.firstCells,loadCells,loadCellsFrom]
    · rw [hL.addr h0]
      simp only [Builtin.firstCells,hm,Nat.mul_one];have:=run_loadCells_list (P:=P) w ⟨blk A,0,none⟩ ((List.range n).map fun i=>Value.int .u32 (l i:Int)) (fun j v hv=>by
        rw [Addr.add_lit];have hj:j<n:=by have:=(List.getElem?_eq_some_iff.1 hv).1;simpa using this
        rw [List.getElem?_map,List.getElem?_range hj] at hv;simp at hv;subst hv
        simpa using hL.get hj)
      simpa using this
  obtain ⟨w',hr,hk,ha⟩:=cJ P (off:=0) ((List.range n).map fun i=>Value.int .u32 (l i:Int)) 0 w _ hA.2 (by simpa using hn) (by
    intro v hv;obtain ⟨i,_,rfl⟩:=List.mem_map.1 hv
    rfl)
  refine cD (w':=w') (v:= .int .i64 (n:Int)) ?_ ⟨rfl,hk,?_⟩
  · simp only [execOp,resolve,Sem.run_bind,Sem.run_pure,Result.andThen_ok,invoke,builtin,List.map_toArray,List.map_cons,List.map_nil,hx,hy]
    simp [Builtin.copy_,run_underlying hu,Builtin.lenOf,eY hi0,hmin,hload,hr,goInt]
  · have key:∀(k:Nat) (f:Nat→Value) (i:Nat),dM f k ((List.range n).map fun i=>Value.int .u32 (l i:Int)) i=if k≤i∧i<k + n then .int .u32 (l (i - k):Int) else f i:=by
      have gen:∀(vs:List Value) (k:Nat) (f:Nat→Value) (i:Nat),dM f k vs i=if k≤i∧i<k + vs.length then vs.getD (i - k) undef else f i:=by
        intro vs
        induction vs with
        | nil=>intro k f i;simp only [dM,List.length_nil,Nat.add_zero];rw [if_neg (by omega)]
        | cons v vs ih=>
          intro k f i;simp only [dM,List.length_cons];rw [ih]
          by_cases h1:k + 1≤i∧i<k + 1 + vs.length
          · rw [if_pos h1,if_pos (by omega)]
            have:i - k=(i - (k + 1)) + 1:=by omega
            rw [this];rfl
          · rw [if_neg h1]
            by_cases h2:i=k
            · subst h2;rw [bO,if_pos (by omega)];simp
            · rw [co _ _ _ _ h2,if_neg (by omega)]
      intro k f i;rw [gen];simp only [List.length_map,List.length_range]
      by_cases h1:k≤i∧i<k + n
      · rw [if_pos h1,if_pos h1,List.getD_eq_getElem?_getD,List.getElem?_map,List.getElem?_range (by omega)]
        rfl
      · rw [if_neg h1,if_neg h1]
    refine ⟨fun i hi=> ?_,ha.congr fun i hi=> ?_⟩
    · dsimp only
      split
      · exact hL.lt i (by assumption)
      · exact hA.1 i hi
    · rw [Nat.add_zero,key]
      dsimp only
      by_cases h1:i<n
      · rw [if_pos (by omega),if_pos h1,Nat.sub_zero]
      · rw [if_neg (by omega),if_neg h1]
end
end Go.TL
namespace Go.TL
theorem dY {j n:Nat} {a:Value} (h:j<n):0 + j*1 + [a].length≤n:=by simp;omega
theorem kV {x:Value} {k:IntKind} {a b:Nat} (h:x= .int k (b:Int)) (e:a=b):x= .int k (a:Int):=by rw [e];exact h
theorem vc {x y:Nat} (h:x*y<18446744073709551616):IntKind.u64.wrap ((x:Int)*(y:Int))=((x*y:Nat):Int):=by
  have e:(x:Int)*(y:Int)=((x*y:Nat):Int):=(Int.natCast_mul x y).symm;rw [e];exact cV (by omega)
theorem dc {w:World} {v:Value} {z z':Int} {b:Nat} (h:ak w v z b) (e:z=z'):ak w v z' b:=e▸h
theorem ak.limC {w:World} {c0 c1:Value} {z:Int} {b:Nat} (h:ak w (.agg #[c0,c1]) z b):dD w c1 z.natAbs:=by
  obtain ⟨_,_,A,n,c,l,hv,hL,h3,h4⟩:=h;simp only [Value.agg.injEq,Array.mk.injEq,List.cons.injEq,and_true] at hv;exact ⟨A,n,c,l,hv.2,hL,h3,h4⟩
theorem ak.sign {w:World} {c0 c1:Value} {z:Int} {b:Nat} (h:ak w (.agg #[c0,c1]) z b):c0= .bool (decide (z<0)):=by
  obtain ⟨_,_,A,n,c,l,hv,hL,h3,h4⟩:=h;simp only [Value.agg.injEq,Array.mk.injEq,List.cons.injEq,and_true] at hv;exact hv.1
theorem nN {o la lb:Nat→Nat} {n m c k s:Nat} (hk:k=n) (hmn:m≤n) (h:val o k + c*4294967296^k=val la k + val (lz m lb) k) (hs:s=val la n + val lb m):val (ci o n c) (n + 1)=s:=by
  subst hk;rw [er,h,kA lb hmn,hs]
theorem uL {x y bx by_ b:Nat} (hx:x<2^bx) (hy:y<2^by_) (h1:bx + 1≤b) (h2:by_ + 1≤b):x + y<2^b:=by
  obtain ⟨q,rfl⟩:∃q,b=q + 1:=⟨b - 1,by omega⟩
  have h3:2^bx≤2^q:=Nat.pow_le_pow_right (by omega) (by omega);have h4:2^by_≤2^q:=Nat.pow_le_pow_right (by omega) (by omega);rw [Nat.pow_succ];omega
theorem oj {a b:Int} (h:(a<0)↔(b<0)):aD (a<0) (a.natAbs + b.natAbs)=a + b:=by unfold aD;split<;>omega
theorem qF {a b:Int} (h:¬((a<0)↔(b<0))) (h2:b.natAbs≤a.natAbs):aD (a<0) (a.natAbs - b.natAbs)=a + b:=by unfold aD;split<;>omega
theorem qE {a b:Int} (h:¬((a<0)↔(b<0))) (h2:a.natAbs≤b.natAbs):aD (b<0) (b.natAbs - a.natAbs)=a + b:=by unfold aD;split<;>omega
theorem jI {a b:Nat} (h:bV (a:Int) b<0):a<b:=by
  unfold bV at h;split at h
  · omega
  · split at h<;>omega
theorem iu {a b:Nat} (h:¬bV (a:Int) b<0):b≤a:=by
  unfold bV at h;split at h
  · omega
  · omega
theorem nP {o o0 ly:Nat→Nat} {x k j c:Nat} (heq:∀i,k + j≤i→o i=o0 i) (h:val o (k + j) + c*4294967296^(k + j)=val o0 (k + j) + x*val ly j*4294967296^k):
    val (ci o (k + j) ((c + (x*ly j + o (k + j))) % 4294967296)) (k + (j + 1)) + (c + (x*ly j + o (k + j)))/4294967296*4294967296^(k + (j + 1))=val o0 (k + (j + 1)) + x*val ly (j + 1)*4294967296^k:=by
  have e:k + (j + 1)=(k + j) + 1:=by omega
  rw [e,er];simp only [val];rw [heq _ (Nat.le_refl _)];have h2:(c + (x*ly j + o0 (k + j))) % 4294967296*4294967296^(k + j) + (c + (x*ly j + o0 (k + j)))/4294967296*4294967296^(k + j + 1)=(c + (x*ly j + o0 (k + j)))*4294967296^(k + j):=by
    rw [bY,←Nat.mul_assoc,←Nat.add_mul]
    congr 1
    have:=Nat.mod_add_div (c + (x*ly j + o0 (k + j))) 4294967296;omega
  have h3:x*(val ly j + ly j*4294967296^j)*4294967296^k=x*val ly j*4294967296^k + x*ly j*4294967296^(k + j):=by
    rw [Nat.mul_add,Nat.add_mul,Nat.pow_add]
    congr 1
    rw [←Nat.mul_assoc,Nat.mul_assoc (x*ly j),Nat.mul_comm (4294967296^j)]
  rw [h3];rw [Nat.add_mul,Nat.add_mul] at h2;omega
theorem vD {o o0 lx ly:Nat→Nat} {k n c j:Nat} (hj:j=n) (h0:val o0 (k + n)=val lx k*val ly n) (h:val o (k + j) + c*4294967296^(k + j)=val o0 (k + j) + lx k*val ly j*4294967296^k):
    val (ci o (k + n) c) (k + 1 + n)=val lx (k + 1)*val ly n:=by
  subst hj;have e:k + 1 + j=(k + j) + 1:=by omega
  rw [e,er,h,h0];simp only [val];rw [Nat.add_mul,Nat.mul_right_comm]
theorem tD {x y bx by_ b:Nat} (hx:x<2^bx) (hy:y<2^by_) (h:bx + by_≤b):x*y<2^b:=by
  have h1:x*y<2^bx*2^by_:=Nat.mul_lt_mul_of_lt_of_le hx (Nat.le_of_lt hy) (Nat.pow_pos (by omega));rw [←Nat.pow_add] at h1;exact Nat.lt_of_lt_of_le h1 (Nat.pow_le_pow_right (by omega) h)
theorem pZ {a b:Int}:aD (¬((a<0)↔(b<0))) (a.natAbs*b.natAbs)=a*b:=by
  rcases Int.lt_or_le a 0 with ha | ha<;>rcases Int.lt_or_le b 0 with hb | hb
  · have h1:a*b=(-a)*(-b):=by rw [Int.neg_mul_neg]
    have h2:aD (¬((a<0)↔(b<0))) (a.natAbs*b.natAbs)=((a.natAbs*b.natAbs:Nat):Int):=by unfold aD;rw [if_neg (by simp [ha,hb])]
    rw [h2,Int.natCast_mul,h1]
    congr 1<;>omega
  · have h2:aD (¬((a<0)↔(b<0))) (a.natAbs*b.natAbs)= -((a.natAbs*b.natAbs:Nat):Int):=by unfold aD;rw [if_pos (by simp [ha];omega)]
    rw [h2,Int.natCast_mul,←Int.neg_mul]
    congr 1<;>omega
  · have h2:aD (¬((a<0)↔(b<0))) (a.natAbs*b.natAbs)= -((a.natAbs*b.natAbs:Nat):Int):=by unfold aD;rw [if_pos (by simp [hb];omega)]
    rw [h2,Int.natCast_mul,←Int.mul_neg]
    congr 1<;>omega
  · have h2:aD (¬((a<0)↔(b<0))) (a.natAbs*b.natAbs)=((a.natAbs*b.natAbs:Nat):Int):=by unfold aD;rw [if_neg (by simp;omega)]
    rw [h2,Int.natCast_mul]
    congr 1<;>omega
theorem nh {x:Value} {k:IntKind} {a b:Int} (h:x= .int k b) (e:a=b):x= .int k a:=by rw [e];exact h
theorem jO (n:Nat):val (fun _=>0) n=0:=by
  rw [eX (n:=0) (Nat.zero_le n) fun _ _ _=>rfl];rfl
theorem lj {w:World} {g a b m:Nat} (h:aY w g 101 2 (bU [.int .u32 (a:Int),.int .u32 (b:Int)])) (ha:a<4294967296) (hb:b<4294967296) (hm:m=a + b*4294967296):
    dK w (.slice (some ⟨g,0,none⟩) 2 2) m:=by
  refine ⟨_,_,_,fun i=>if i=0 then a else b,rfl,ek h (Nat.le_refl _) (Nat.le_refl _) (by decide) ?_ ?_,?_⟩
  · intro i _;show (if i=0 then a else b)<_;split
    · exact ha
    · exact hb
  · intro i hi
    match i,hi with
    | 0,_=>rfl
    | 1,_=>rfl
  · simp [val];omega
theorem nD (n:Int):aD (n<0) n.natAbs=n:=by unfold aD;split<;>omega
theorem fb {w:World} {g n:Nat} {o:Nat→Nat} (h:cz w g n o) (h63:n<9223372036854775808):dK w (.slice (some ⟨g,0,none⟩) n n) (val o n):=
  ⟨_,_,_,_,rfl,h.limbs (Nat.le_refl _) (Nat.le_refl _) h63,rfl⟩
end Go.TL
namespace Go.TL
open Go.RowKit
section
variable {P:Program} {e:cl} {w:World} {d:Option Tmp} {ty:TypeId} {pos:String} {after:Array Edge} {gd:Option (Nat×Bool)}
theorem iT (op:BinOp) (t:TypeId) (x y:Operand) (A:Option Addr) (n c:Nat) (v:Value):eqGuard op t x y (.slice A n c) v=pure ():=by cases op<;>rfl
theorem pc (A:Option Addr):A.isNone=decide (A=none):=by cases A<;>simp
theorem gO {t yt el m b n c n' c':Nat} {x y:Operand} {A:Option Addr} (ht:sliceB P t el m b=true) (hx:ev e x= .slice A n c) (hy:ev e y= .slice none n' c'):
    cj P ⟨d,.binOp .eql t x y yt,ty,pos,after,gd⟩ e w (.bool (decide (A=none))):=by
  simp only [cj,execOp,hx,hy,iT,Sem.run_bind,Sem.run_pure,Result.andThen_ok,Lib.run_eql_slice_nil w t el A n c n' c' (bJ ht).1,pc]
theorem cL {t el m b:Nat} (ht:sliceB P t el m b=true):
    cQ P ⟨d,.buildSlice t 0 #[],ty,pos,after,gd⟩ e w (fun v w'=>∃g,v= .slice (some ⟨g,0,none⟩) 0 0∧w.heap.size≤g∧aA w w'∧aY w' g el 0 (bU [])):=by
  obtain ⟨hu,i0,hi0,hm,_⟩:=bJ ht;obtain ⟨g,hg,hle2,hext,harr⟩:=fr w el [];have hg':w.heap.size=g:=by simpa using hg
  subst hg';refine cD (w':=w.alloc (.cells (([]:List Value).toArray) el)) (v:= .slice (some ⟨w.heap.size,0,none⟩) 0 0) ?_ ⟨_,rfl,hle2,hext,harr⟩;have e0:(Array.map (fun _=>(default:Value)) (Array.range 0))= #[]:=by rw [←Array.size_eq_zero_iff];simp
  simp [execOp,Instr.buildSlice,run_underlying hu,sizeOf,typeInfo,hi0,Instr.fill,newRow,e0]
theorem ow {t el m b g0 n c g o:Nat} {x y:Operand} {z:Value} {f:Nat→Value} (zl:List Value) (ht:sliceB P t el m b=true) (hz:(P.info? el).bind (·.zero)=some z) (hzl:z.cells=zl.toArray) (hzn:zl.length=m) (hm0:0<m)
    (hx:ev e x= .slice (some ⟨g0,0,none⟩) 0 0) (hy:ev e y= .slice (some ⟨g,o,none⟩) n c) (hn:0<n) (hc:∀i,i<n*m→w.cell? ⟨g,o + i,none⟩=some (f i)) (h63:n<9223372036854775808) (hb:n*b≤140737488355328):
    cQ P ⟨d,.call {callee:= .builtin .append,args:= #[x,y],argTypes:= #[t,t]},ty,pos,after,gd⟩ e w
      (fun v w'=>∃g' cap f',v= .slice (some ⟨g',0,none⟩) n cap∧n≤cap∧cap<9223372036854775808∧w.heap.size≤g'∧aA w w'∧aY w' g' el (cap*m) f'∧∀i,i<n*m→f' i=f i):=by
  obtain ⟨hu,i0,hi0,hm,hbb⟩:=bJ ht;subst hm;subst hbb;have hz':i0.zero=some z:=by rw [hi0] at hz;simpa using hz
  have hzs:z.cells.size=i0.size:=by rw [hzl];simpa using hzn
  obtain ⟨v',w',hrun,r1,r2⟩:=run_append_arg_grows (P:=P) w t ty el i0 z i0.size i0.bytes hu hi0 hz' rfl rfl hzs hm0 ⟨g0,0,none⟩ 0 0 [] (by simp) (by simp) ⟨g,o,none⟩ n c ((List.range (n*i0.size)).map f) (by simp)
    (fun j u hj=>by
      obtain ⟨h1,h2⟩:=List.getElem?_eq_some_iff.1 hj;simp at h1 h2;rw [Addr.add_lit,hc j h1,h2]) (by omega) (by simp only [maxLen];omega) (by simpa using hb)
  refine cD (w':=w') (v:=v') (by simp [execOp,resolve,invoke,builtin,hx,hy,hrun,Result.andThen]) ?_;simp only [Nat.zero_add,List.nil_append] at r1;rcases r1.2 with ⟨_,h0⟩ | ⟨g',cap,cur,hv,hg,hh,h1,h2,h3,h4⟩
  · omega
  · refine ⟨g',cap,fun i=>cur.getD i undef,hv,h1,by simp only [maxLen] at h2;omega,hg,⟨r2.os,r2.tape,r2.output,r2.size,fun k hk=>r2.block k hk (by simp)⟩,⟨cur,hh,h3,fun i hi=> ?_⟩,fun i hi=> ?_⟩
    · simp [h3,hi]
    · have h5:(cur.toList.take (n*i0.size))[i]? =some (f i):=by rw [h4];simp [hi]
      rw [List.getElem?_take,if_pos hi] at h5;simp at h5;simp [h5]
theorem mY {t el m b k cp c:Nat} {x y:Operand} {A B:Option Addr} (ht:sliceB P t el m b=true) (hx:ev e x= .slice A k cp) (hk:k≤cp) (hy:ev e y= .slice B 0 c):
    cQ P ⟨d,.call {callee:= .builtin .append,args:= #[x,y],argTypes:= #[t,t]},ty,pos,after,gd⟩ e w (fun v w'=>v= .slice A k cp∧w'=w):=by
  obtain ⟨hu,i0,hi0,hm,hbb⟩:=bJ ht;refine cD (w':=w) (v:= .slice A k cp) ?_ ⟨rfl,rfl⟩;cases A<;>cases B<;>simp [execOp,resolve,invoke,builtin,hx,hy,Builtin.append_,run_underlying hu,sizeOf,typeInfo,hi0,Builtin.lenOf,Builtin.firstCells,hk,storeCells,Result.andThen,loadCells,loadCellsFrom]
theorem mZ {t:Nat} {s:ByteArray} {x y:Operand} {k:IntKind} {j:Nat} {i:Int} {b:UInt8} (ht:P.underlying t=some .string) (hx:ev e x= .string s) (hy:ev e y= .int k i) (hij:i=(j:Int)) (hb:s[j]? =some b):
    cj P ⟨d,.index t x y,ty,pos,after,gd⟩ e w (.int .u8 (b.toNat:Int)):=by
  subst hij;simp [cj,execOp,hx,hy,Instr.index,asIntOf,run_underlying ht,hb]
theorem kM {n c g0:Nat} {t b:Nat} {x y:Operand} {A:Option Addr} {l:Nat→Nat} (ht:sliceB P t 101 1 b=true) (hb4:b≤4) (hz:(P.info? 101).bind (·.zero)=some (.int .u32 0))
    (hx:ev e x= .slice (some ⟨g0,0,none⟩) 0 0) (hy:ev e y= .slice A n c) (hL:aB w A n c l) (hn:n≤35184372088832) (htop:0<n→l (n - 1)≠0):
    cQ P ⟨d,.call {callee:= .builtin .append,args:= #[x,y],argTypes:= #[t,t]},ty,pos,after,gd⟩ e w (fun v w'=>aA w w'∧dD w' v (val l n)):=by
  rcases Nat.eq_zero_or_pos n with h0 | h0
  · subst h0
    refine (mY ht hx (Nat.le_refl _) hy).mono fun v w' ⟨h1,h2⟩=> ?_
    subst h1;subst h2;exact ⟨aA.refl _,_,_,_,l,rfl,⟨Nat.le_refl _,by omega,fun i hi=>by omega,fun h=>by omega⟩,rfl,fun h=>by omega⟩
  · obtain ⟨g,m,f,hA,hm,ha,hf⟩:=hL.2.2.2 h0
    subst hA;refine (ow (f:=f) [.int .u32 0] ht hz rfl rfl (by decide) hx hy h0 (fun i hi=>by rw [Nat.zero_add];exact ha.cell (by omega)) hL.lim (by have:=Nat.mul_le_mul_left n hb4;omega)).mono ?_;rintro v w' ⟨g',cap,f',hv,h1,h2,h3,h4,h5,h6⟩;refine ⟨h4,_,_,_,l,hv,ek h5 (by omega) h1 h2 hL.lt fun i hi=> ?_,rfl,htop⟩;rw [h6 i (by omega),hf i hi]
end
end Go.TL
namespace Go.TL
open Go.RowKit
set_option linter.unusedVariables false
theorem wu8 {x c:Int} (h:0≤x∧x<256∧x=c):IntKind.u8.wrap x=c:=by
  rw [IntKind.wrap_u8];omega
theorem wJ {a:Nat} (h:a<4294967296):IntKind.u32.wrap (a:Int)=(a:Int):=nj (by omega)
def eh (b:Nat):Nat:=if b=0 then 0 else Nat.log2 b + 1
theorem qD {b n:Nat} (hb:b≠0) (h1:2^n≤b) (h2:b<2^(n + 1)):eh b=n + 1:=by
  unfold eh;rw [if_neg hb,(Nat.log2_eq_iff hb).2 ⟨h1,h2⟩]
theorem iX {b:Nat} (hb:b≠0):∃n,eh b=n + 1∧2^n≤b∧b<2^(n + 1):=
  ⟨Nat.log2 b,by unfold eh;rw [if_neg hb],(Nat.log2_eq_iff hb).1 rfl⟩
theorem mN {b n:Nat} (h:b<2^n):eh b≤n:=by
  by_cases hb:b=0
  · subst hb;exact Nat.zero_le _
  · obtain ⟨m,h1,h2,h3⟩:=iX hb
    rw [h1];exact (Nat.pow_lt_pow_iff_right (by omega)).1 (Nat.lt_of_le_of_lt h2 h)
theorem kH {x k:Nat} (h:2^k≤x):eh x=k + eh (x/2^k):=by
  have hp:0<2^k:=Nat.pow_pos (by omega);have hq:1≤x/2^k:=(Nat.le_div_iff_mul_le hp).2 (by omega);obtain ⟨n,h1,h2,h3⟩:=iX (b:=x/2^k) (by omega);rw [h1,←Nat.add_assoc];have h4:2^n*2^k≤x:=(Nat.le_div_iff_mul_le hp).1 h2;have h5:x<2^(n + 1)*2^k:=(Nat.div_lt_iff_lt_mul hp).1 h3;refine qD (by omega) (by rw [Nat.pow_add,Nat.mul_comm];exact h4) ?_;rw [show k + n + 1=(n + 1) + k by omega,Nat.pow_add];exact h5
def lenTab:List UInt8:= [0,1,2,2,3,3,3,3,4,4,4,4,4,4,4,4] ++ List.replicate 16 5 ++ List.replicate 32 6 ++ List.replicate 64 7 ++ List.replicate 128 8
def xb (j:Nat):Bool:=match lenTab[j]? with | some b=>(Nat.beq b.toNat 0&&Nat.beq j 0) || (Nat.ble 1 b.toNat&&Nat.ble (2^(b.toNat - 1)) j&&Nat.blt j (2^b.toNat)) | none=>false
theorem qZ:dI xb 256=true:=by decide +kernel
theorem pa {j:Nat} (h:j<256):∃b,lenTab[j]? =some b∧b.toNat=eh j:=by
  have h1:=cX qZ j h
  unfold xb at h1
  split at h1
  · rename_i b hb
    refine ⟨b,hb,?_⟩;simp only [Bool.or_eq_true,Bool.and_eq_true,Nat.ble_eq,Nat.blt_eq] at h1;rcases h1 with ⟨h2,h3⟩ | ⟨⟨h2,h3⟩,h4⟩
    · have h2:=Nat.eq_of_beq_eq_true h2
      have h3:=Nat.eq_of_beq_eq_true h3;subst h3;rw [h2];rfl
    · have:j≠0:=by
        intro h0;subst h0;have:=Nat.pow_pos (n:=b.toNat - 1) (show 0<2 by omega);omega
      rw [qD (n:=b.toNat - 1) this h3 (by rw [Nat.sub_add_cancel h2];exact h4)];omega
  · cases h1
section
variable {P:Program} {e:cl} {w:World} {d:Option Tmp} {ty:TypeId} {pos:String} {after:Array Edge} {gd:Option (Nat×Bool)}
theorem cj.lenTab {t j:Nat} {x y:Operand} {i:Int} (ht:P.underlying t=some .string) (hx:ev e x= .string ⟨Go.TL.lenTab.toArray⟩) (hy:ev e y= .int .u8 i) (hij:i=(j:Int)) (hj:j<256):
    cj P ⟨d,.index t x y,ty,pos,after,gd⟩ e w (.int .u8 (eh j:Nat)):=by
  obtain ⟨b,hb,hv⟩:=pa hj;rw [←hv];refine mZ ht hx hy hij ?_;have h0:j<Go.TL.lenTab.length:=(List.getElem?_eq_some_iff.1 hb).1;have h1:Go.TL.lenTab[j]=b:=(List.getElem?_eq_some_iff.1 hb).2;have h2:j<(ByteArray.mk Go.TL.lenTab.toArray).size:=by simpa [ByteArray.size] using h0
  rw [getElem?_pos _ j h2];simp [ByteArray.getElem_eq_getElem_data,h1]
end
theorem tu {a b k:Nat} (hb:b<2^k):(a*2^k) ||| b=a*2^k + b:=by
  have:=Nat.shiftLeft_add_eq_or_of_lt hb a;rw [Nat.shiftLeft_eq] at this;exact this.symm
theorem xf {a b k:Nat} (hb:b<2^k) (h:a*2^k + b<4294967296):bits .or .u32 (b:Int) ((a*2^k:Nat):Int)=((b + a*2^k:Nat):Int):=by
  rw [sh _ _ (by omega) (by omega),Nat.or_comm,tu hb,Nat.add_comm]
theorem AI {a b k:Nat} (hb:b<2^k) (h:a*2^k + b<18446744073709551616):bits .or .u64 ((a*2^k:Nat):Int) (b:Int)=((a*2^k + b:Nat):Int):=by
  rw [xp _ _ (by omega) (by omega),tu hb]
theorem tv {a b:Nat} (hb:b<4294967296) (h:a<4294967296):bits .or .u64 ((a*4294967296:Nat):Int) (b:Int)=((a*4294967296 + b:Nat):Int):=AI (k:=32) hb (by omega)
theorem wsh {a k:Nat} (h:a*2^k<18446744073709551616):IntKind.u64.wrap ((a:Int)*2^((k:Int).toNat))=((a*2^k:Nat):Int):=by
  have e:(a:Int)*2^((k:Int).toNat)=((a*2^k:Nat):Int):=by simp
  rw [e];exact cV (by omega)
theorem px {a:Nat} (h:a<4294967296):IntKind.u64.wrap ((a:Int)*2^((32:Int).toNat))=((a*4294967296:Nat):Int):=by
  have:((32:Int).toNat)=32:=rfl;rw [this];exact cV (by omega)
theorem pO {a k:Nat}:(a:Int)/2^((k:Int).toNat)=((a/2^k:Nat):Int):=by simp
theorem wi {a b:Nat}:(a:Int).tdiv (b:Int)=((a/b:Nat):Int):=by
  rw [Int.tdiv_eq_ediv_of_nonneg (by omega)];rfl
theorem qa {a b:Nat}:(a:Int).tmod (b:Int)=((a % b:Nat):Int):=by
  rw [Int.tmod_eq_emod_of_nonneg (by omega)];rfl
theorem ve {a b:Nat} (h:a<18446744073709551616):IntKind.u64.wrap ((a:Int).tdiv (b:Int))=((a/b:Nat):Int):=by
  rw [wi];have:=Nat.div_le_self a b
  generalize a/b=q at this⊢
  exact cV (by omega)
def dQ:Value→Nat
  | .slice (some a) _ _=>a.block
  | .pointer (some a)=>a.block
  | _=>0
def rZ (w:World) (v:Value) (n m:Nat):Prop:=∃g l,v= .slice (some ⟨g,0,none⟩) n n∧cz w g n l∧val l n=m
theorem rZ.ext {w w':World} {v:Value} {n m:Nat} (h:rZ w v n m) (hx:aA w w'):rZ w' v n m:=by
  obtain ⟨g,l,h1,h2,h3⟩:=h;exact ⟨g,l,h1,h2.ext hx,h3⟩
theorem rq (n m:Nat):bq (fun v w=>rZ w v n m):=fun _ _ _ h hx=>h.ext hx
instance (n m:Nat):Nonempty (bq (fun v w=>rZ w v n m)):=⟨rq n m⟩
theorem rZ.lt {w:World} {v:Value} {n m:Nat} (h:rZ w v n m):dQ v<w.heap.size:=by
  obtain ⟨g,l,h1,h2,h3⟩:=h;subst h1;exact h2.2.lt
theorem sR {o lx:Nat→Nat} {k j x:Nat} (hk:k<32) (hxj:lx j=x) (hx:x<4294967296) (h:val o j + o j*4294967296^j=val lx j*2^k) (ho:o j<2^k):
    val (ci (ci o j (o j + x*2^k % 4294967296)) (j + 1) (x*2^k/4294967296)) (j + 1) + (x*2^k/4294967296)*4294967296^(j + 1)=val lx (j + 1)*2^k:=by
  simp only [val];rw [hxj,dV _ (by omega),dV _ (by omega),aT _ _ _ _ (by omega),aW,bY];have h1:=Nat.mod_add_div (x*2^k) 4294967296;have h2:(x*2^k % 4294967296)*4294967296^j + (x*2^k/4294967296)*(4294967296*4294967296^j)=x*2^k*4294967296^j:=by
    rw [←Nat.mul_assoc,←Nat.add_mul,Nat.mul_comm (x*2^k/4294967296),h1]
  have h3:x*4294967296^j*2^k=x*2^k*4294967296^j:=by ac_rfl
  rw [Nat.add_mul,Nat.add_mul,h3,←h2,←h];omega
theorem pP {x k:Nat} (hk:k<32) (hx:x<4294967296):x*2^k/4294967296<2^k:=by
  have hp:0<2^k:=Nat.pow_pos (by omega);refine (Nat.div_lt_iff_lt_mul (by decide)).2 ?_;rw [Nat.mul_comm];exact Nat.mul_lt_mul_of_pos_left hx hp
theorem nM {k:Nat} (hk:k<32):2^k≤2147483648:=by
  have:2^k≤2^31:=Nat.pow_le_pow_right (by omega) (by omega)
  simpa using this
theorem ya {a x k:Nat} (hk:k<32) (ha:a<2^k):bits .or .u32 (a:Int) ((x*2^k % 4294967296:Nat):Int)=((a + x*2^k % 4294967296:Nat):Int):=by
  have e:x*2^k % 4294967296=(x % 2^(32 - k))*2^k:=by
    have:(4294967296:Nat)=2^(32 - k)*2^k:=by rw [←Nat.pow_add,Nat.sub_add_cancel (by omega)]
    rw [this,Nat.mul_mod_mul_right]
  have hlt:x % 2^(32 - k)<2^(32 - k):=Nat.mod_lt _ (Nat.pow_pos (by omega));have h2:(x % 2^(32 - k) + 1)*2^k≤2^(32 - k)*2^k:=Nat.mul_le_mul_right _ hlt;rw [←Nat.pow_add,Nat.sub_add_cancel (by omega),Nat.add_mul] at h2;rw [e];exact xf ha (by omega)
theorem sS {a x k:Nat} (hk:k<32) (ha:a<2^k):a + x*2^k % 4294967296<4294967296:=by
  have e:x*2^k % 4294967296=(x % 2^(32 - k))*2^k:=by
    have:(4294967296:Nat)=2^(32 - k)*2^k:=by rw [←Nat.pow_add,Nat.sub_add_cancel (by omega)]
    rw [this,Nat.mul_mod_mul_right]
  have hlt:x % 2^(32 - k)<2^(32 - k):=Nat.mod_lt _ (Nat.pow_pos (by omega));have h2:(x % 2^(32 - k) + 1)*2^k≤2^(32 - k)*2^k:=Nat.mul_le_mul_right _ hlt;rw [←Nat.pow_add,Nat.sub_add_cancel (by omega),Nat.add_mul] at h2;rw [e];omega
theorem oF {o lx:Nat→Nat} {n k r d:Nat} (hk:k<n) (hd:0<d) (hr:r<d)
    (h:val (fun i=>lx (i + (k + 1))) (n - (k + 1))=val (fun i=>o (i + (k + 1))) (n - (k + 1))*d + r):
    val (fun i=>lx (i + k)) (n - k)=val (fun i=>ci o k ((r*4294967296 + lx k)/d) (i + k)) (n - k)*d + (r*4294967296 + lx k) % d:=by
  obtain ⟨q,hq⟩:∃q,n - k=q + 1:=⟨n - k - 1,by omega⟩
  have hq':n - (k + 1)=q:=by omega
  rw [hq'] at h;rw [hq,gV,gV];simp only [Nat.zero_add,aW];have e1:val (fun i=>lx (i + 1 + k)) q=val (fun i=>lx (i + (k + 1))) q:=db fun i _=>by congr 1;omega
  have e2:val (fun i=>ci o k ((r*4294967296 + lx k)/d) (i + 1 + k)) q=val (fun i=>o (i + (k + 1))) q:=db fun i _=>by
    rw [aT _ _ _ _ (by omega)];congr 1;omega
  rw [e1,e2,h];have h3:=Nat.div_add_mod (r*4294967296 + lx k) d;rw [Nat.add_mul,Nat.mul_comm ((r*4294967296 + lx k)/d) d,Nat.mul_add,Nat.mul_assoc];omega
theorem sQ {r x d:Nat} (hr:r<d) (hd:d<4294967296) (hx:x<4294967296):(r*4294967296 + x)/d<4294967296:=by
  refine (Nat.div_lt_iff_lt_mul (by omega)).2 ?_;have:(r + 1)*4294967296≤d*4294967296:=Nat.mul_le_mul_right _ hr;rw [Nat.mul_comm 4294967296 d];omega
end Go.TL
