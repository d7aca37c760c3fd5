import PyProof.Rows.All
import Wide.All
import OpenK.AllK
import Wide.FinOn
import HandS.Base
import HandS.Call
import HandS.CallSlots
import HandS.Codes
import HandS.Conv
import HandS.Deep
import HandS.Dict
import HandS.DictComp
import HandS.DictTup
import HandS.Ends
import HandS.Exc
import HandS.ExcOwn
import HandS.ForMost
import HandS.IsInst
import HandS.Iter
import HandS.List
import HandS.ListItems
import HandS.More
import HandS.Set
import HandS.SetFor
import HandS.SetKeys
import HandS.Strs
import HandS.TryOnly
import HandS.TupAny
import HandS.Walk
import HandS.WordsExc
import KE.DataCmp
import KE.SortData
import PySem.Challenge.RW_bagwise_k66_whole_fair_turns
set_option Elab.async false
set_option linter.all false
set_option maxRecDepth 100000
set_option maxHeartbeats 4000000
/-! Bw: Python defs as plain functions over data trees (D), with a small heap of cells (Cell); how these stand for the layer's readings. -/
namespace Bw
open PySem L2

/-- a value as a tree of data; ref: a cell of the small heap -/
inductive D where
  | non | bl (b : Bool) | int (i : Int) | str (x : Str)
  | tup (ds : List D) | lst (ds : List D) | dic (t : Bool) (es : List (D × D)) | kt (ds : List D) | scr (ds : List D)
  | ref (i : Nat) | exc (c : Str) (fs : List (Str × D)) | fn (f : Str)
  deriving Inhabited

/-- what a cell holds: an instance, or a list or dict that changes -/
inductive Ob where
  | ins (c : Str) (fs : List (Str × D)) | con (d : D)
structure Cell where
  lk : Bool
  o : Ob
abbrev Hd := List Cell
/-- a name's slot: unassigned; a value; a list or dict that this frame alone holds -/
inductive Sl where
  | un | v (d : D) | own (d : D)
/-- how a piece of code ends -/
inductive R (α : Type) where
  | ok (a : α) (σ : List Sl) (h : Hd) | exc (x : D) (σ : List Sl) (h : Hd) | no
abbrev M (α : Type) := List Sl → Hd → R α
def ret {α : Type} (a : α) : M α := fun σ h => .ok a σ h
def no {α : Type} : M α := fun _ _ => .no
def bnd {α β : Type} (m : M α) (f : α → M β) : M β := fun σ h =>
  match m σ h with
  | .ok a σ' h' => f a σ' h'
  | .exc x σ' h' => .exc x σ' h'
  | .no => .no
def opt {α : Type} : Option α → M α
  | some a => ret a
  | none => no
inductive Fl where
  | nx | rt (d : D) | bk | ct

/-- the addresses of the cells; of this frame's own lists and dicts; of those of others -/
structure G where
  ρ : List Addr
  O : Addr → Prop
  B : Addr → Prop
def G.W (g : G) (a : Addr) : Prop := a ∈ g.ρ ∨ g.O a ∨ g.B a

def kD : Key → D
  | .inl i => .int i
  | .inr x => .str x

/-- a tuple whose object is known to have no dict of its own -/
def KT (K : PySem.W.Frag) (H : Hp) (a : Addr) (vs : List V) : Prop :=
  (∃ o, H a = some (.frz o (.tup vs)) ∧ o.cls = .type "tuple" ∧ o.dict = none) ∨ ((∃ o, K.lookup a = some o ∧ o.cls = .type "tuple" ∧ o.dict = none) ∧ SqT K (fun _ => none) a vs)
theorem KT.sq {K : PySem.W.Frag} {H : Hp} {a : Addr} {vs : List V} (h : KT K H a vs) : SqT K H a vs := by
  rcases h with ⟨o, h, _⟩ | ⟨_, h⟩
  · exact .inl (.inr ⟨o, h⟩)
  · rcases h with h | h
    · rcases h with h | ⟨_, h⟩ <;> cases h
    · exact .inr h
theorem KT.keep {K : PySem.W.Frag} {H H' : Hp} {a : Addr} {vs : List V} (h : KT K H a vs) (k : ∀ a ob u, H a = some (.frz ob u) → H' a = some (.frz ob u)) : KT K H' a vs := by
  rcases h with ⟨o, h, r⟩ | h
  · exact .inl ⟨o, k _ _ _ h, r⟩
  · exact .inr h
section
variable (K : PySem.W.Frag) (H : Hp) (g : G)
mutual
inductive Rep : D → V → Prop
  | non : Rep .non .non
  | bl (b : Bool) : Rep (.bl b) (.bl b)
  | int (i : Int) : Rep (.int i) (.int i)
  | str (x : Str) : Rep (.str x) (.str x)
  | tup {ds : List D} {a : Addr} {vs : List V} : H a = some (.tup vs) → RepL ds vs → Rep (.tup ds) (.ref a)
  | lst {ds : List D} {a : Addr} {vs : List V} : H a = some (.lst vs) → ¬ g.W a → RepL ds vs → Rep (.lst ds) (.ref a)
  | dic {t : Bool} {es : List (D × D)} {a : Addr} {u : HO} : Rd H a u → ¬ g.W a → CRep (.dic t es) u → Rep (.dic t es) (.ref a)
  | scr {ds : List D} {a : Addr} {vs : List V} : (Rd H a (.lst vs) ∧ ¬ g.W a) ∨ SqL K (fun _ => none) a vs → RepL ds vs → Rep (.scr ds) (.ref a)
  | kt {ds : List D} {a : Addr} {vs : List V} : KT K H a vs → RepL ds vs → Rep (.kt ds) (.ref a)
  | ref {i : Nat} {a : Addr} : g.ρ[i]? = some a → Rep (.ref i) (.ref a)
inductive RepL : List D → List V → Prop
  | nil : RepL [] []
  | cons {d : D} {v : V} {ds : List D} {vs : List V} : Rep d v → RepL ds vs → RepL (d :: ds) (v :: vs)
inductive RepK : List (D × D) → List (Key × V) → Prop
  | nil : RepK [] []
  | cons {k : Key} {d : D} {v : V} {es : List (D × D)} {kvs : List (Key × V)} : Rep d v → RepK es kvs → RepK ((kD k, d) :: es) ((k, v) :: kvs)
inductive RepT : List (D × D) → List (List Key × V) → Prop
  | nil : RepT [] []
  | cons {k : List Key} {d : D} {v : V} {es : List (D × D)} {kvs : List (List Key × V)} : Rep d v → RepT es kvs → RepT ((.tup (k.map kD), d) :: es) ((k, v) :: kvs)
inductive CRep : D → HO → Prop
  | lst {ds : List D} {vs : List V} : RepL ds vs → CRep (.lst ds) (.lst vs)
  | dicK {es : List (D × D)} {kvs : List (Key × V)} : RepK es kvs → CRep (.dic false es) (.dK kvs)
  | dicT {es : List (D × D)} {kvs : List (List Key × V)} : RepT es kvs → CRep (.dic true es) (.dT kvs)
end
inductive RepF : List (Str × D) → List (Str × V) → Prop
  | nil : RepF [] []
  | cons {f : Str} {d : D} {v : V} {fs : List (Str × D)} {gs : List (Str × V)} : Rep K H g d v → RepF fs gs → RepF ((f, d) :: fs) ((f, v) :: gs)
inductive ORep (mg : Str → Option Value) : Ob → HO → Prop
  | ins {c : Str} {C dx : Addr} {fs : List (Str × D)} {gs : List (Str × V)} : mg c = some (.ref C) → RepF K H g fs gs → ORep mg (.ins c fs) (.ins C dx gs)
  | con {d : D} {u : HO} : CRep K H g d u → ORep mg (.con d) u
end

/-- from one heap to a later one -/
structure Fr (g : G) (H : Hp) (g' : G) (H' : Hp) : Prop where
  pre : g.ρ <+: g'.ρ
  new : ∀ a, a ∈ g'.ρ → a ∈ g.ρ ∨ H a = none
  B : g'.B = g.B
  O : ∀ a, g'.O a → g.O a ∨ H a = none
  keep : ∀ a o, H a = some o → g.B a → H' a = some o
  rd : ∀ a u, Rd H a u → ¬ g.W a → Rd H' a u
  ls : ∀ a vs, H a = some (.lst vs) → ¬ g.W a → H' a = some (.lst vs)
  tup : ∀ a xs, H a = some (.tup xs) → H' a = some (.tup xs)
  frz : ∀ a ob u, H a = some (.frz ob u) → H' a = some (.frz ob u)
  live : ∀ a o, H a = some o → ∃ o', H' a = some o'
theorem Fr.refl (g : G) (H : Hp) : Fr g H g H := ⟨List.prefix_refl _, fun _ h => .inl h, rfl, fun _ h => .inl h, fun _ _ h _ => h, fun _ _ h _ => h, fun _ _ h _ => h, fun _ _ h => h, fun _ _ _ h => h, fun _ o h => ⟨o, h⟩⟩
theorem Fr.none {g g' : G} {H H' : Hp} (f : Fr g H g' H') {a : Addr} (h : H' a = .none) : H a = .none := by
  cases e : H a with
  | none => rfl
  | some o => obtain ⟨o', e'⟩ := f.live a o e; rw [h] at e'; cases e'
theorem Fr.W {g g' : G} {H H' : Hp} (f : Fr g H g' H') {a : Addr} {o : HO} (h : H a = some o) (w : ¬ g.W a) : ¬ g'.W a := by
  rintro (q | q | q)
  · rcases f.new a q with z | z
    · exact w (.inl z)
    · rw [h] at z; cases z
  · rcases f.O a q with z | z
    · exact w (.inr (.inl z))
    · rw [h] at z; cases z
  · exact w (.inr (.inr (by rw [← f.B]; exact q)))

theorem Fr.trans {g g1 g2 : G} {H H1 H2 : Hp} (a : Fr g H g1 H1) (b : Fr g1 H1 g2 H2) : Fr g H g2 H2 where
  pre := a.pre.trans b.pre
  new := fun x h => (b.new x h).elim (a.new x) fun q => .inr (a.none q)
  B := b.B.trans a.B
  O := fun x h => (b.O x h).elim (a.O x) fun q => .inr (a.none q)
  keep := fun x o h h1 => b.keep x o (a.keep x o h h1) (by rw [a.B]; exact h1)
  rd := fun x u h w => b.rd x u (a.rd x u h w) (h.elim (fun q => a.W q w) fun ⟨_, q⟩ => a.W q w)
  ls := fun x vs h w => b.ls x vs (a.ls x vs h w) (a.W h w)
  tup := fun x xs h => b.tup x xs (a.tup x xs h)
  frz := fun x ob u h => b.frz x ob u (a.frz x ob u h)
  live := fun x o h => by obtain ⟨o1, h1⟩ := a.live x o h; exact b.live x o1 h1
section
variable {K : PySem.W.Frag} {H H' : Hp} {g g' : G}
/-- what a value's tree leans on is kept -/
structure Stays (g : G) (H : Hp) (g' : G) (H' : Hp) : Prop where
  pre : ∀ (i : Nat) (a : Addr), g.ρ[i]? = some a → g'.ρ[i]? = some a
  tup : ∀ a xs, H a = some (.tup xs) → H' a = some (.tup xs)
  rd : ∀ a u, Rd H a u → ¬ g.W a → Rd H' a u ∧ ¬ g'.W a
  ls : ∀ a vs, H a = some (.lst vs) → ¬ g.W a → H' a = some (.lst vs)
  frz : ∀ a ob u, H a = some (.frz ob u) → H' a = some (.frz ob u)
theorem Fr.stays (f : Fr g H g' H') : Stays g H g' H' where
  pre := fun i a h => by
    obtain ⟨t, e⟩ := f.pre
    rw [← e]
    rw [List.getElem?_append_left (List.getElem?_eq_some_iff.mp h).1]; exact h
  tup := f.tup
  rd := fun a u h w => ⟨f.rd a u h w, h.elim (fun q => f.W q w) fun ⟨_, q⟩ => f.W q w⟩
  ls := f.ls
  frz := f.frz
theorem Stays.trans {g2 : G} {H2 : Hp} (a : Stays g H g' H') (b : Stays g' H' g2 H2) : Stays g H g2 H2 :=
  ⟨fun i x h => b.pre i x (a.pre i x h), fun x xs h => b.tup x xs (a.tup x xs h), fun x u h w => b.rd x u (a.rd x u h w).1 (a.rd x u h w).2, fun x vs h w => b.ls x vs (a.ls x vs h w) (a.rd x _ (.inl h) w).2, fun x ob u h => b.frz x ob u (a.frz x ob u h)⟩
theorem Rep.stays (f : Stays g H g' H') {d : D} {v : V} (h : Rep K H g d v) : Rep K H' g' d v :=
  Rep.rec (motive_1 := fun d v _ => Rep K H' g' d v) (motive_2 := fun ds vs _ => RepL K H' g' ds vs) (motive_3 := fun es kvs _ => RepK K H' g' es kvs) (motive_4 := fun es kvs _ => RepT K H' g' es kvs) (motive_5 := fun d u _ => CRep K H' g' d u)
    .non .bl .int .str (fun h _ r => .tup (f.tup _ _ h) r) (fun h w _ r => .lst (f.ls _ _ h w) (f.rd _ _ (.inl h) w).2 r) (fun h w _ r => .dic (f.rd _ _ h w).1 (f.rd _ _ h w).2 r) (fun h _ r => .scr (h.imp (fun q => f.rd _ _ q.1 q.2) id) r) (fun h _ r => .kt (h.keep f.frz) r) (fun h => .ref (f.pre _ _ h))
    .nil (fun _ _ a b => .cons a b) .nil (fun _ _ a b => .cons a b) .nil (fun _ _ a b => .cons a b) (fun _ r => .lst r) (fun _ r => .dicK r) (fun _ r => .dicT r) h
theorem RepL.stays (f : Stays g H g' H') : ∀ {ds : List D} {vs : List V}, RepL K H g ds vs → RepL K H' g' ds vs
  | _, _, .nil => .nil
  | _, _, .cons a b => .cons (a.stays f) (RepL.stays f b)
theorem RepK.stays (f : Stays g H g' H') : ∀ {es : List (D × D)} {kvs : List (Key × V)}, RepK K H g es kvs → RepK K H' g' es kvs
  | _, _, .nil => .nil
  | _, _, .cons a b => .cons (a.stays f) (RepK.stays f b)
theorem RepT.stays (f : Stays g H g' H') : ∀ {es : List (D × D)} {kvs : List (List Key × V)}, RepT K H g es kvs → RepT K H' g' es kvs
  | _, _, .nil => .nil
  | _, _, .cons a b => .cons (a.stays f) (RepT.stays f b)
theorem CRep.stays (f : Stays g H g' H') {d : D} {u : HO} (h : CRep K H g d u) : CRep K H' g' d u := by
  cases h with
  | lst r => exact .lst (r.stays f)
  | dicK r => exact .dicK (r.stays f)
  | dicT r => exact .dicT (r.stays f)
theorem RepF.stays (f : Stays g H g' H') : ∀ {fs : List (Str × D)} {gs : List (Str × V)}, RepF K H g fs gs → RepF K H' g' fs gs
  | _, _, .nil => .nil
  | _, _, .cons a b => .cons (a.stays f) (RepF.stays f b)
theorem ORep.stays {mg : Str → Option Value} (f : Stays g H g' H') {o : Ob} {u : HO} (h : ORep K H g mg o u) : ORep K H' g' mg o u := by
  cases h with
  | ins a r => exact .ins a (r.stays f)
  | con r => exact .con (r.stays f)
end

def SlRep (K : PySem.W.Frag) (H : Hp) (g : G) : Sl → Option V → Prop
  | .un, _ => True
  | .v d, x => ∃ v, x = some v ∧ Rep K H g d v
  | .own d, x => ∃ a u, x = some (.ref a) ∧ g.O a ∧ H a = some u ∧ CRep K H g d u
def Sl.mine : Sl → Bool
  | .own _ => true
  | _ => false
structure Slots (K : PySem.W.Frag) (g : G) (σ : List Sl) (τ : St) (H : Hp) : Prop where
  len : σ.length = τ.length
  rep : ∀ (i : Nat) (s : Sl) (x : Option V), σ[i]? = some s → τ[i]? = some x → SlRep K H g s x
  inj : ∀ (i j : Nat) (s t : Sl) (a : Addr), σ[i]? = some s → σ[j]? = some t → s.mine = true → t.mine = true → τ[i]? = some (some (.ref a)) → τ[j]? = some (some (.ref a)) → i = j
def CellAt (K : PySem.W.Frag) (mg : Str → Option Value) (g : G) (H : Hp) (a : Addr) (c : Cell) : Prop :=
  ∃ u, ORep K H g mg c.o u ∧ (c.lk = false → H a = some u) ∧ (c.lk = true → ∃ ob, H a = some (.frz ob u))
structure Heaps (K : PySem.W.Frag) (mg : Str → Option Value) (g : G) (h : Hd) (H : Hp) : Prop where
  len : h.length = g.ρ.length
  nd : g.ρ.Nodup
  cell : ∀ (i : Nat) (c : Cell) (a : Addr), h[i]? = some c → g.ρ[i]? = some a → CellAt K mg g H a c
  sO : ∀ a, a ∈ g.ρ → ¬ g.O a
  sB : ∀ a, a ∈ g.ρ → ¬ g.B a
  sOB : ∀ a, g.O a → ¬ g.B a
  live : ∀ a, g.W a → ∃ o, H a = some o
  noT : ∀ a xs, H a = some (.tup xs) → ¬ g.W a

/-- an exception's record: its class, its own dict -/
def XRep (K : PySem.W.Frag) (mg : Str → Option Value) (H : Hp) (g : G) (x : D) (cls : Value) (dx : Option Addr) : Prop :=
  ∃ c fs, x = .exc c fs ∧ mg c = some cls ∧ ((dx = none ∧ fs = []) ∨ ∃ a gs, dx = some a ∧ H a = some (.xd gs) ∧ RepF K H g fs gs)

section
variable (K : PySem.W.Frag) (mg : Str → Option Value)
/-- what is wanted behind a piece of code: of its value, of an exception -/
def Post {α β : Type} (rel : Hp → G → α → β → Prop) (w : WX) (Q : β → Hp → Prop) (g : G) (H : Hp) (τ : St) : R α → Prop
  | .ok a σ h => ∀ g' b H', Heaps K mg g' h H' → Slots K g' σ τ H' → Fr g H g' H' → rel H' g' a b → Q b H'
  | .exc x σ h => ∀ g' H' cls dx, Heaps K mg g' h H' → Slots K g' σ τ H' → Fr g H g' H' → XRep K mg H' g' x cls dx → w cls dx τ H'
  | .no => False
def tM {α β : Type} (rel : Hp → G → α → β → Prop) (w : WX) (m : M α) : St → Hp → (β → Hp → Prop) → Prop := fun τ H Q =>
  ∃ g σ h, Heaps K mg g h H ∧ Slots K g σ τ H ∧ Post K mg rel w Q g H τ (m σ h)
/-- a value's; a test's; an argument list's -/
abbrev tE (w : WX) (m : M D) : TE := tM K mg (Rep K) w m
abbrev tT (w : WX) (m : M Bool) : TT := tM K mg (fun _ _ b c => b = c) w m
abbrev tA (w : WX) (m : M (List D)) : TA := tM K mg (RepL K) w m
/-- a new list's or dict's, that nothing else holds yet -/
def PostF (w : WX) (Q : VK) (g : G) (H : Hp) (τ : St) : R D → Prop
  | .ok d σ h => ∀ g' H' p u, Heaps K mg g' h H' → Slots K g' σ τ H' → Fr g H g' H' → H' p = none → CRep K H' g' d u → Q (.ref p) (upd H' p u)
  | .exc x σ h => ∀ g' H' cls dx, Heaps K mg g' h H' → Slots K g' σ τ H' → Fr g H g' H' → XRep K mg H' g' x cls dx → w cls dx τ H'
  | .no => False
def tF (w : WX) (m : M D) : TE := fun τ H Q => ∃ g σ h, Heaps K mg g h H ∧ Slots K g σ τ H ∧ PostF K mg w Q g H τ (m σ h)
def FlD (K : PySem.W.Frag) (D : Ends) (τ : St) (H : Hp) (g : G) : Fl → Prop
  | .nx => D.nx τ H
  | .rt d => ∀ v, Rep K H g d v → D.rt v H
  | .bk => D.bk τ H
  | .ct => D.ct τ H
def PostS (w : WX) (D : Ends) (g : G) (H : Hp) : R Fl → Prop
  | .ok fl σ h => ∀ g' τ' H', Heaps K mg g' h H' → Slots K g' σ τ' H' → Fr g H g' H' → FlD K D τ' H' g' fl
  | .exc x σ h => ∀ g' τ' H' cls dx, Heaps K mg g' h H' → Slots K g' σ τ' H' → Fr g H g' H' → XRep K mg H' g' x cls dx → w cls dx τ' H'
  | .no => False
def tS (w : WX) (m : M Fl) : TS := fun D τ H => ∃ g σ h, Heaps K mg g h H ∧ Slots K g σ τ H ∧ PostS K mg w D g H (m σ h)
end
abbrev DE (X : Cx) (w : WX) (e : Expr) (m : M D) : Prop := PE X e (tE X.K X.mg w m)
abbrev DT (X : Cx) (w : WX) (e : Expr) (m : M Bool) : Prop := PT X e (tT X.K X.mg w m)
abbrev DA (X : Cx) (w : WX) (e : List Expr) (m : M (List D)) : Prop := PA X e (tA X.K X.mg w m)
abbrev DF (X : Cx) (w : WX) (e : Expr) (m : M D) : Prop := PE X e (tF X.K X.mg w m)
abbrev DS (X : Cx) (w : WX) (st : Stmt) (m : M Fl) : Prop := PS X st (tS X.K X.mg w m)
abbrev DSs (X : Cx) (w : WX) (sts : List Stmt) (m : M Fl) : Prop := PSs X sts (tS X.K X.mg w m)
end Bw
namespace Bw
open PySem L2
section
variable {K : PySem.W.Frag} {mg : Str → Option Value} {g g' g1 : G} {h h' h1 : Hd} {H H' H1 : Hp} {σ σ' σ1 : List Sl} {τ τ' : St} {w : WX}

theorem Post.shift {α β : Type} {rel : Hp → G → α → β → Prop} {Q : β → Hp → Prop} {r : R α} (f : Fr g H g1 H1) (p : Post K mg rel w Q g H τ r) : Post K mg rel w Q g1 H1 τ r := by
  cases r with
  | ok a σ h => exact fun g' b H' a1 a2 a3 => p g' b H' a1 a2 (f.trans a3)
  | exc x σ h => exact fun g' H' c d a1 a2 a3 => p g' H' c d a1 a2 (f.trans a3)
  | no => exact p
theorem PostF.shift {Q : VK} {r : R D} (f : Fr g H g1 H1) (p : PostF K mg w Q g H τ r) : PostF K mg w Q g1 H1 τ r := by
  cases r with
  | ok a σ h => exact fun g' H' b u a1 a2 a3 => p g' H' b u a1 a2 (f.trans a3)
  | exc x σ h => exact fun g' H' c d a1 a2 a3 => p g' H' c d a1 a2 (f.trans a3)
  | no => exact p
theorem PostS.shift {D : Ends} {r : R Fl} (f : Fr g H g1 H1) (p : PostS K mg w D g H r) : PostS K mg w D g1 H1 r := by
  cases r with
  | ok a σ h => exact fun g' b H' a1 a2 a3 => p g' b H' a1 a2 (f.trans a3)
  | exc x σ h => exact fun g' t H' c d a1 a2 a3 => p g' t H' c d a1 a2 (f.trans a3)
  | no => exact p
/-- the first of two: what comes behind is asked of where it ends -/
theorem tM.first {α β : Type} {rel : Hp → G → α → β → Prop} {m : M α} {Q : β → Hp → Prop} (hs : Heaps K mg g h H) (ss : Slots K g σ τ H)
    (hx : ∀ x σ1 h1, m σ h = .exc x σ1 h1 → ∀ g' H' cls dx, Heaps K mg g' h1 H' → Slots K g' σ1 τ H' → Fr g H g' H' → XRep K mg H' g' x cls dx → w cls dx τ H') (hn : m σ h ≠ .no)
    (hk : ∀ a σ1 h1, m σ h = .ok a σ1 h1 → ∀ g1 b H1, Heaps K mg g1 h1 H1 → Slots K g1 σ1 τ H1 → Fr g H g1 H1 → rel H1 g1 a b → Q b H1) : tM K mg rel w m τ H Q := by
  refine ⟨g, σ, h, hs, ss, ?_⟩
  cases e : m σ h with
  | ok a σ1 h1 => exact hk a σ1 h1 e
  | exc x σ1 h1 => exact hx x σ1 h1 e
  | no => exact absurd e hn
theorem tM.bnd {α β α' β' : Type} {rel : Hp → G → α → β → Prop} {rel' : Hp → G → α' → β' → Prop} {m : M α} {f : α → M α'} {Q : β' → Hp → Prop} {Q1 : β → Hp → Prop} (hs : Heaps K mg g h H) (ss : Slots K g σ τ H) (p : Post K mg rel' w Q g H τ (Bw.bnd m f σ h))
    (hk : ∀ a σ1 h1 g1 b H1, Heaps K mg g1 h1 H1 → Slots K g1 σ1 τ H1 → Fr g H g1 H1 → rel H1 g1 a b → Post K mg rel' w Q g1 H1 τ (f a σ1 h1) → Q1 b H1) : tM K mg rel w m τ H Q1 := by
  refine tM.first hs ss (fun x σ1 h1 e => ?_) (fun e => ?_) fun a σ1 h1 e g1 b H1 a1 a2 a3 a4 => ?_
  · unfold Bw.bnd at p; rw [e] at p; exact p
  · unfold Bw.bnd at p; rw [e] at p; exact p
  · unfold Bw.bnd at p; rw [e] at p; exact hk a σ1 h1 g1 b H1 a1 a2 a3 a4 (p.shift a3)
theorem tM.bndF {α β : Type} {rel : Hp → G → α → β → Prop} {m : M α} {f : α → M D} {Q : VK} {Q1 : β → Hp → Prop} (hs : Heaps K mg g h H) (ss : Slots K g σ τ H) (p : PostF K mg w Q g H τ (Bw.bnd m f σ h))
    (hk : ∀ a σ1 h1 g1 b H1, Heaps K mg g1 h1 H1 → Slots K g1 σ1 τ H1 → Fr g H g1 H1 → rel H1 g1 a b → PostF K mg w Q g1 H1 τ (f a σ1 h1) → Q1 b H1) : tM K mg rel w m τ H Q1 := by
  refine tM.first hs ss (fun x σ1 h1 e => ?_) (fun e => ?_) fun a σ1 h1 e g1 b H1 a1 a2 a3 a4 => ?_
  · unfold Bw.bnd at p; rw [e] at p; exact p
  · unfold Bw.bnd at p; rw [e] at p; exact p
  · unfold Bw.bnd at p; rw [e] at p; exact hk a σ1 h1 g1 b H1 a1 a2 a3 a4 (p.shift a3)
theorem tM.bndS {α β : Type} {rel : Hp → G → α → β → Prop} {m : M α} {f : α → M Fl} {D : Ends} {Q1 : β → Hp → Prop} (hs : Heaps K mg g h H) (ss : Slots K g σ τ H) (p : PostS K mg w D g H (Bw.bnd m f σ h))
    (hk : ∀ a σ1 h1 g1 b H1, Heaps K mg g1 h1 H1 → Slots K g1 σ1 τ H1 → Fr g H g1 H1 → rel H1 g1 a b → PostS K mg w D g1 H1 (f a σ1 h1) → Q1 b H1) : tM K mg rel w m τ H Q1 := by
  refine tM.first hs ss (fun x σ1 h1 e => ?_) (fun e => ?_) fun a σ1 h1 e g1 b H1 a1 a2 a3 a4 => ?_
  · unfold Bw.bnd at p; rw [e] at p; exact fun g' H' c d => p g' τ H' c d
  · unfold Bw.bnd at p; rw [e] at p; exact p
  · unfold Bw.bnd at p; rw [e] at p; exact hk a σ1 h1 g1 b H1 a1 a2 a3 a4 (p.shift a3)

/-! ### new objects -/
def New (H H' : Hp) : Prop := ∀ a o, H a = some o → H' a = some o
theorem New.refl (H : Hp) : New H H := fun _ _ h => h
theorem New.upd {p : Addr} {u : HO} (hp : H p = Option.none) : New H (L2.upd H p u) := fun a o e => by rw [upd_ne (ne_of_none e hp)]; exact e
theorem New.trans {H2 : Hp} (a : New H H1) (b : New H1 H2) : New H H2 := fun x o e => b x o (a x o e)
theorem New.rd (n : New H H') {a : Addr} {u : HO} (h : Rd H a u) : Rd H' a u := h.elim (fun q => .inl (n a _ q)) fun ⟨o, q⟩ => .inr ⟨o, n a _ q⟩
theorem New.fr (n : New H H') : Fr g H g H' := ⟨List.prefix_refl _, fun _ h => .inl h, rfl, fun _ h => .inl h, fun a o e _ => n a o e, fun _ _ q _ => n.rd q, fun a vs e _ => n a _ e, fun a xs e => n a _ e, fun a ob u e => n a _ e, fun a o e => ⟨o, n a o e⟩⟩
theorem New.stays (n : New H H') : Stays g H g H' := n.fr.stays
theorem CellAt.stays {a : Addr} {c : Cell} (f : Stays g H g' H') (hk : ∀ o, H a = some o → H' a = some o) (x : CellAt K mg g H a c) : CellAt K mg g' H' a c := by
  obtain ⟨u, r, h1, h2⟩ := x
  exact ⟨u, r.stays f, fun e => hk _ (h1 e), fun e => by obtain ⟨ob, q⟩ := h2 e; exact ⟨ob, hk _ q⟩⟩
theorem Heaps.new (n : New H H') (hs : Heaps K mg g h H) : Heaps K mg g h H' where
  len := hs.len
  nd := hs.nd
  cell := fun i c a e1 e2 => (hs.cell i c a e1 e2).stays n.stays fun o q => n _ _ q
  sO := hs.sO
  sB := hs.sB
  sOB := hs.sOB
  live := fun a q => by obtain ⟨o, e⟩ := hs.live a q; exact ⟨o, n a o e⟩
  noT := fun a xs e q => by
    obtain ⟨o, e'⟩ := hs.live a q
    have := n a o e'
    rw [e] at this; cases this
    exact hs.noT a xs e' q
theorem SlRep.stays {s : Sl} {x : Option V} (f : Stays g H g' H') (hO : ∀ a, g.O a → g'.O a) (hk : ∀ a o, g.O a → H a = some o → H' a = some o) (q : SlRep K H g s x) : SlRep K H' g' s x := by
  cases s with
  | un => trivial
  | v d => obtain ⟨v, e, r⟩ := q; exact ⟨v, e, r.stays f⟩
  | own d => obtain ⟨a, u, e, o, l, r⟩ := q; exact ⟨a, u, e, hO a o, hk a _ o l, r.stays f⟩
theorem Slots.new (n : New H H') (ss : Slots K g σ τ H) : Slots K g σ τ H' :=
  ⟨ss.len, fun i s x e1 e2 => (ss.rep i s x e1 e2).stays n.stays (fun _ q => q) fun a o _ e => n a o e, ss.inj⟩

/-! ### an object is written that is a cell's or this frame's own -/
def Plain : HO → Prop
  | .tup _ => False
  | .frz _ _ => False
  | _ => True
theorem Stays.upd {a : Addr} {u u' : HO} (hw : g.W a) (e : H a = some u) (pl : Plain u) : Stays g H g (L2.upd H a u') where
  pre := fun _ _ q => q
  tup := fun b xs q => by rw [upd_ne]; exact q; rintro rfl; rw [e] at q; cases q; exact pl
  rd := fun b o q nw => by
    have hb : b ≠ a := fun z => nw (z ▸ hw)
    refine ⟨?_, nw⟩
    unfold Rd
    rw [upd_ne hb]; exact q
  ls := fun b vs q nw => by rw [upd_ne]; exact q; rintro rfl; exact nw hw
  frz := fun b ob v q => by rw [upd_ne]; exact q; rintro rfl; rw [e] at q; cases q; exact pl
theorem Fr.upd {a : Addr} {u u' : HO} (hw : a ∈ g.ρ ∨ g.O a) (nb : ¬ g.B a) (e : H a = some u) (pl : Plain u) : Fr g H g (L2.upd H a u') where
  pre := List.prefix_refl _
  new := fun _ q => .inl q
  B := rfl
  O := fun _ q => .inl q
  keep := fun b o q h1 => by rw [upd_ne]; exact q; rintro rfl; exact nb h1
  rd := fun b v q nw => ((Stays.upd (u' := u') (hw.elim .inl fun z => .inr (.inl z)) e pl).rd b v q nw).1
  ls := fun b vs q nw => (Stays.upd (u' := u') (hw.elim .inl fun z => .inr (.inl z)) e pl).ls b vs q nw
  tup := fun b xs q => by rw [upd_ne]; exact q; rintro rfl; rw [e] at q; cases q; exact pl
  frz := fun b ob v q => by rw [upd_ne]; exact q; rintro rfl; rw [e] at q; cases q; exact pl
  live := fun b o q => by
    by_cases hb : b = a
    · subst hb; exact ⟨u', upd_same⟩
    · exact ⟨o, by rw [upd_ne hb]; exact q⟩
theorem noT_upd {a : Addr} {u' : HO} (hs : Heaps K mg g h H) (pl : Plain u') : ∀ b xs, L2.upd H a u' b = some (.tup xs) → ¬ g.W b := fun b xs q => by
  by_cases hb : b = a
  · subst hb; rw [upd_same] at q; cases q; exact pl.elim
  · rw [upd_ne hb] at q; exact hs.noT b xs q
theorem live_upd {a : Addr} {u' : HO} (hs : Heaps K mg g h H) : ∀ b, g.W b → ∃ o, L2.upd H a u' b = some o := fun b q => by
  by_cases hb : b = a
  · subst hb; exact ⟨u', upd_same⟩
  · rw [upd_ne hb]; exact hs.live b q
/-- a cell -/
theorem Heaps.put {a : Addr} {i : Nat} {c c' : Cell} {u u' : HO} (hs : Heaps K mg g h H) (hi : h[i]? = some c) (ha : g.ρ[i]? = some a) (e : H a = some u) (pl : Plain u) (pl' : Plain u')
    (new : CellAt K mg g (L2.upd H a u') a c') : Heaps K mg g (h.set i c') (L2.upd H a u') := by
  have hm : a ∈ g.ρ := List.mem_of_getElem? ha
  have st : Stays g H g (L2.upd H a u') := Stays.upd (.inl hm) e pl
  refine ⟨by rw [List.length_set]; exact hs.len, hs.nd, fun j d b e1 e2 => ?_, hs.sO, hs.sB, hs.sOB, live_upd hs, noT_upd hs pl'⟩
  by_cases hj : j = i
  · subst hj
    rw [ha] at e2; cases e2
    rw [List.getElem?_set_self (by have := (List.getElem?_eq_some_iff.mp hi).1; exact this)] at e1
    cases e1
    exact new
  · rw [List.getElem?_set_ne (Ne.symm hj)] at e1
    have hb : b ≠ a := fun z => hj (by subst z; exact nodup_ix' hs.nd e2 ha)
    exact (hs.cell j d b e1 e2).stays st fun o q => by rw [upd_ne hb]; exact q
where
  nodup_ix' {N : List Addr} (hN : N.Nodup) {i j : Nat} {x : Addr} (a : N[i]? = some x) (b : N[j]? = some x) : i = j := by
    obtain ⟨h1, e1⟩ := List.getElem?_eq_some_iff.mp a
    obtain ⟨h2, e2⟩ := List.getElem?_eq_some_iff.mp b
    exact (List.getElem_inj hN).mp (e1.trans e2.symm)
theorem Slots.putC {a : Addr} {u u' : HO} (ss : Slots K g σ τ H) (hm : a ∈ g.ρ) (hO : ¬ g.O a) (e : H a = some u) (pl : Plain u) : Slots K g σ τ (L2.upd H a u') := by
  have st : Stays g H g (L2.upd H a u') := Stays.upd (.inl hm) e pl
  refine ⟨ss.len, fun i s x e1 e2 => (ss.rep i s x e1 e2).stays st (fun _ q => q) fun b o ob q => ?_, ss.inj⟩
  rw [upd_ne]; exact q
  rintro rfl; exact hO ob
/-- an own list or dict, in the slot i -/
theorem Heaps.putO {a : Addr} {u u' : HO} (hs : Heaps K mg g h H) (hO : g.O a) (e : H a = some u) (pl : Plain u) (pl' : Plain u') : Heaps K mg g h (L2.upd H a u') := by
  have st : Stays g H g (L2.upd H a u') := Stays.upd (.inr (.inl hO)) e pl
  refine ⟨hs.len, hs.nd, fun j d b e1 e2 => (hs.cell j d b e1 e2).stays st fun o q => ?_, hs.sO, hs.sB, hs.sOB, live_upd hs, noT_upd hs pl'⟩
  rw [upd_ne]; exact q
  rintro rfl; exact hs.sO _ (List.mem_of_getElem? e2) hO
theorem Slots.putO {a : Addr} {i : Nat} {d d' : D} {u u' : HO} (ss : Slots K g σ τ H) (hi : σ[i]? = some (.own d)) (ht : τ[i]? = some (some (.ref a))) (hO : g.O a) (e : H a = some u) (pl : Plain u) (new : CRep K (L2.upd H a u') g d' u') :
    Slots K g (σ.set i (.own d')) τ (L2.upd H a u') := by
  have st : Stays g H g (L2.upd H a u') := Stays.upd (.inr (.inl hO)) e pl
  have il : i < σ.length := (List.getElem?_eq_some_iff.mp hi).1
  have get : ∀ (j : Nat) (s : Sl), (σ.set i (.own d'))[j]? = some s → (j = i ∧ s = .own d') ∨ (j ≠ i ∧ σ[j]? = some s) := fun j s q => by
    by_cases hj : j = i
    · subst hj; rw [List.getElem?_set_self il] at q; cases q; exact .inl ⟨rfl, rfl⟩
    · rw [List.getElem?_set_ne (Ne.symm hj)] at q; exact .inr ⟨hj, q⟩
  have mine' : ∀ (j : Nat) (s : Sl), (σ.set i (.own d'))[j]? = some s → s.mine = true → ∃ s', σ[j]? = some s' ∧ s'.mine = true := fun j s q m => by
    rcases get j s q with ⟨rfl, rfl⟩ | ⟨_, q'⟩
    · exact ⟨_, hi, rfl⟩
    · exact ⟨s, q', m⟩
  refine ⟨by rw [List.length_set]; exact ss.len, fun j s x e1 e2 => ?_, fun j k s t b q1 q2 m1 m2 t1 t2 => ?_⟩
  · rcases get j s e1 with ⟨rfl, rfl⟩ | ⟨hj, e1⟩
    · rw [ht] at e2; cases e2
      exact ⟨a, u', rfl, hO, upd_same, new⟩
    · have q := ss.rep j s x e1 e2
      have other : ∀ b, s.mine = true → x = some (.ref b) → b ≠ a := fun b m ex z => by
        subst z; subst ex
        exact hj (ss.inj j i s (.own d) b e1 hi m rfl e2 ht)
      cases s with
      | un => trivial
      | v d => obtain ⟨v, e, r⟩ := q; exact ⟨v, e, r.stays st⟩
      | own d => obtain ⟨b, v, e, o, l, r⟩ := q; exact ⟨b, v, e, o, by rw [upd_ne (other b rfl e)]; exact l, r.stays st⟩
  · obtain ⟨s', q1', m1'⟩ := mine' j s q1 m1
    obtain ⟨t', q2', m2'⟩ := mine' k t q2 m2
    exact ss.inj j k s' t' b q1' q2' m1' m2' t1 t2

theorem Rep.ofC {d : D} {a : Addr} {u : HO} (e : H a = some u) (nw : ¬ g.W a) (r : CRep K H g d u) : Rep K H g d (.ref a) := by
  cases r with
  | lst r => exact .lst e nw r
  | dicK r => exact .dic (.inl e) nw (.dicK r)
  | dicT r => exact .dic (.inl e) nw (.dicT r)
/-! ### an own list or dict is let go: a value from then on -/
def G.drop (g : G) (a : Addr) : G := { g with O := fun b => g.O b ∧ b ≠ a }
theorem G.drop_W {a b : Addr} (h : (g.drop a).W b) : g.W b := by
  rcases h with q | q | q
  · exact .inl q
  · exact .inr (.inl q.1)
  · exact .inr (.inr q)
theorem Stays.drop {a : Addr} : Stays g H (g.drop a) H := ⟨fun _ _ q => q, fun _ _ q => q, fun b u q nw => ⟨q, fun z => nw (G.drop_W z)⟩, fun _ _ q _ => q, fun _ _ _ q => q⟩
theorem Fr.drop {a : Addr} : Fr g H (g.drop a) H := ⟨List.prefix_refl _, fun _ q => .inl q, rfl, fun _ q => .inl q.1, fun _ _ q _ => q, fun _ _ q _ => q, fun _ _ q _ => q, fun _ _ q => q, fun _ _ _ q => q, fun _ o q => ⟨o, q⟩⟩
theorem Heaps.drop {a : Addr} (hs : Heaps K mg g h H) : Heaps K mg (g.drop a) h H :=
  ⟨hs.len, hs.nd, fun j d b e1 e2 => (hs.cell j d b e1 e2).stays .drop fun _ q => q, fun b q z => hs.sO b q z.1, hs.sB, fun b q => hs.sOB b q.1, fun b q => hs.live b (G.drop_W q), fun b xs e q => hs.noT b xs e (G.drop_W q)⟩
theorem Slots.drop {a : Addr} {i : Nat} {d : D} {u : HO} (hs : Heaps K mg g h H) (ss : Slots K g σ τ H) (hi : σ[i]? = some (.own d)) (ht : τ[i]? = some (some (.ref a))) (hO : g.O a) (e : H a = some u) (r : CRep K H g d u) :
    Slots K (g.drop a) (σ.set i (.v d)) τ H ∧ Rep K H (g.drop a) d (.ref a) := by
  have rp : Rep K H (g.drop a) d (.ref a) := by
    refine .ofC e ?_ (r.stays .drop)
    rintro (q | q | q)
    · exact hs.sO a q hO
    · exact q.2 rfl
    · exact hs.sOB a hO q
  have il : i < σ.length := (List.getElem?_eq_some_iff.mp hi).1
  have get : ∀ (j : Nat) (s : Sl), (σ.set i (.v d))[j]? = some s → (j = i ∧ s = .v d) ∨ (j ≠ i ∧ σ[j]? = some s) := fun j s q => by
    by_cases hj : j = i
    · subst hj; rw [List.getElem?_set_self il] at q; cases q; exact .inl ⟨rfl, rfl⟩
    · rw [List.getElem?_set_ne (Ne.symm hj)] at q; exact .inr ⟨hj, q⟩
  refine ⟨⟨by rw [List.length_set]; exact ss.len, fun j s x e1 e2 => ?_, fun j k s t b q1 q2 m1 m2 t1 t2 => ?_⟩, rp⟩
  · rcases get j s e1 with ⟨rfl, rfl⟩ | ⟨hj, e1⟩
    · rw [ht] at e2; cases e2
      exact ⟨_, rfl, rp⟩
    · have q := ss.rep j s x e1 e2
      have other : ∀ b, s.mine = true → x = some (.ref b) → b ≠ a := fun b m ex z => by
        subst z; subst ex
        exact hj (ss.inj j i s (.own d) b e1 hi m rfl e2 ht)
      cases s with
      | un => trivial
      | v d => obtain ⟨v, e, r⟩ := q; exact ⟨v, e, r.stays .drop⟩
      | own d => obtain ⟨b, v, e, o, l, r⟩ := q; exact ⟨b, v, e, ⟨o, other b rfl e⟩, l, r.stays .drop⟩
  · rcases get j s q1 with ⟨rfl, rfl⟩ | ⟨hj, q1⟩
    · cases m1
    · rcases get k t q2 with ⟨rfl, rfl⟩ | ⟨hk, q2⟩
      · cases m2
      · exact ss.inj j k s t b q1 q2 m1 m2 t1 t2

/-! ### a new list or dict becomes this frame's own -/
def G.take (g : G) (a : Addr) : G := { g with O := fun b => g.O b ∨ b = a }
section
variable {p : Addr} {u : HO}
theorem Stays.take (hp : H p = Option.none) : Stays g H (g.take p) (L2.upd H p u) where
  pre := fun _ _ q => q
  tup := fun b xs q => (New.upd hp) b _ q
  rd := fun b v q nw => by
    have hb : b ≠ p := by
      rintro rfl
      rcases q with q | ⟨o, q⟩ <;> rw [hp] at q <;> cases q
    refine ⟨by unfold Rd; rw [upd_ne hb]; exact q, ?_⟩
    rintro (z | z | z)
    · exact nw (.inl z)
    · rcases z with z | z
      · exact nw (.inr (.inl z))
      · exact hb z
    · exact nw (.inr (.inr z))
  ls := fun b vs q _ => New.upd hp b _ q
  frz := fun b ob v q => New.upd hp b _ q
theorem Fr.take (hp : H p = Option.none) : Fr g H (g.take p) (L2.upd H p u) where
  pre := List.prefix_refl _
  new := fun _ q => .inl q
  B := rfl
  O := fun b q => q.elim .inl fun z => .inr (by rw [z]; exact hp)
  keep := fun b o q _ => New.upd hp b o q
  rd := fun b o q _ => (New.upd hp).rd q
  ls := fun b o q _ => New.upd hp b _ q
  tup := fun b xs q => New.upd hp b _ q
  frz := fun b ob v q => New.upd hp b _ q
  live := fun b o q => ⟨o, New.upd hp b o q⟩
theorem Heaps.take (hs : Heaps K mg g h H) (hp : H p = Option.none) (pl : Plain u) : Heaps K mg (g.take p) h (L2.upd H p u) := by
  have np : ∀ b, g.W b → b ≠ p := fun b q z => by obtain ⟨o, e⟩ := hs.live b q; rw [z, hp] at e; cases e
  refine ⟨hs.len, hs.nd, fun j d b e1 e2 => (hs.cell j d b e1 e2).stays (.take hp) fun o q => New.upd hp b o q, fun b q z => ?_, hs.sB, fun b q z => ?_, fun b q => ?_, fun b xs e q => ?_⟩
  · rcases z with z | z
    · exact hs.sO b q z
    · exact np b (.inl q) z
  · rcases q with q | q
    · exact hs.sOB b q z
    · exact np b (.inr (.inr z)) q
  · by_cases hb : b = p
    · subst hb; exact ⟨u, upd_same⟩
    · rw [upd_ne hb]
      rcases q with q | q | q
      · exact hs.live b (.inl q)
      · exact hs.live b (.inr (.inl (q.resolve_right hb)))
      · exact hs.live b (.inr (.inr q))
  · by_cases hb : b = p
    · subst hb; rw [upd_same] at e; cases e; exact pl
    · rw [upd_ne hb] at e
      refine hs.noT b xs e ?_
      rcases q with q | q | q
      · exact .inl q
      · exact .inr (.inl (q.resolve_right hb))
      · exact .inr (.inr q)
theorem Slots.take (hs : Heaps K mg g h H) (ss : Slots K g σ τ H) (hp : H p = Option.none) : Slots K (g.take p) σ τ (L2.upd H p u) :=
  ⟨ss.len, fun i s x e1 e2 => (ss.rep i s x e1 e2).stays (.take hp) (fun _ q => .inl q) fun b o _ e => New.upd hp b o e, ss.inj⟩
end

/-! ### slots stored -/
theorem Slots.setV {i : Nat} {d : D} {v : V} (ss : Slots K g σ τ H) (r : Rep K H g d v) : Slots K g (σ.set i (.v d)) (τ.set i (some v)) H := by
  have key : ∀ (j : Nat) (s : Sl) (x : Option V), (σ.set i (.v d))[j]? = some s → (τ.set i (some v))[j]? = some x → (j = i ∧ s = .v d ∧ x = some v) ∨ (j ≠ i ∧ σ[j]? = some s ∧ τ[j]? = some x) := fun j s x e1 e2 => by
    by_cases hj : j = i
    · subst hj
      have h1 := (List.getElem?_eq_some_iff.mp e1).1
      have h2 := (List.getElem?_eq_some_iff.mp e2).1
      rw [List.length_set] at h1 h2
      rw [List.getElem?_set_self h1] at e1; rw [List.getElem?_set_self h2] at e2
      cases e1; cases e2; exact .inl ⟨rfl, rfl, rfl⟩
    · rw [List.getElem?_set_ne (Ne.symm hj)] at e1 e2; exact .inr ⟨hj, e1, e2⟩
  refine ⟨by rw [List.length_set, List.length_set]; exact ss.len, fun j s x e1 e2 => ?_, fun j k s t b q1 q2 m1 m2 t1 t2 => ?_⟩
  · rcases key j s x e1 e2 with ⟨rfl, rfl, rfl⟩ | ⟨_, e1, e2⟩
    · exact ⟨v, rfl, r⟩
    · exact ss.rep j s x e1 e2
  · rcases key j s _ q1 t1 with ⟨rfl, rfl, _⟩ | ⟨_, q1, t1⟩
    · cases m1
    · rcases key k t _ q2 t2 with ⟨rfl, rfl, _⟩ | ⟨_, q2, t2⟩
      · cases m2
      · exact ss.inj j k s t b q1 q2 m1 m2 t1 t2
theorem Slots.setO {i : Nat} {d : D} {a : Addr} {u : HO} (ss : Slots K g σ τ H) (hO : g.O a) (e : H a = some u) (r : CRep K H g d u) (fresh : ∀ (j : Nat) (s : Sl), σ[j]? = some s → s.mine = true → τ[j]? ≠ some (some (.ref a))) :
    Slots K g (σ.set i (.own d)) (τ.set i (some (.ref a))) H := by
  have key : ∀ (j : Nat) (s : Sl) (x : Option V), (σ.set i (.own d))[j]? = some s → (τ.set i (some (.ref a)))[j]? = some x → (j = i ∧ s = .own d ∧ x = some (.ref a)) ∨ (j ≠ i ∧ σ[j]? = some s ∧ τ[j]? = some x) := fun j s x e1 e2 => by
    by_cases hj : j = i
    · subst hj
      have h1 := (List.getElem?_eq_some_iff.mp e1).1
      have h2 := (List.getElem?_eq_some_iff.mp e2).1
      rw [List.length_set] at h1 h2
      rw [List.getElem?_set_self h1] at e1; rw [List.getElem?_set_self h2] at e2
      cases e1; cases e2; exact .inl ⟨rfl, rfl, rfl⟩
    · rw [List.getElem?_set_ne (Ne.symm hj)] at e1 e2; exact .inr ⟨hj, e1, e2⟩
  refine ⟨by rw [List.length_set, List.length_set]; exact ss.len, fun j s x e1 e2 => ?_, fun j k s t b q1 q2 m1 m2 t1 t2 => ?_⟩
  · rcases key j s x e1 e2 with ⟨rfl, rfl, rfl⟩ | ⟨_, e1, e2⟩
    · exact ⟨a, u, rfl, hO, e, r⟩
    · exact ss.rep j s x e1 e2
  · rcases key j s _ q1 t1 with ⟨rfl, rfl, z1⟩ | ⟨_, q1, t1⟩
    · rcases key k t _ q2 t2 with ⟨rfl, _, _⟩ | ⟨_, q2, t2⟩
      · rfl
      · cases z1; exact absurd t2 (fresh k t q2 m2)
    · rcases key k t _ q2 t2 with ⟨rfl, rfl, z2⟩ | ⟨_, q2, t2⟩
      · cases z2; rename_i q1' t1' _; exact absurd ‹τ[j]? = _› (fresh j s ‹σ[j]? = _› m1)
      · exact ss.inj j k s t b q1 q2 m1 m2 t1 t2

/-! ### a new cell -/
def G.cell (g : G) (a : Addr) : G := { g with ρ := g.ρ ++ [a] }
section
variable {p : Addr} {u : HO}
theorem G.cell_W {b : Addr} (q : (g.cell p).W b) : g.W b ∨ b = p := by
  rcases q with q | q | q
  · rcases List.mem_append.mp q with q | q
    · exact .inl (.inl q)
    · exact .inr (by simpa using q)
  · exact .inl (.inr (.inl q))
  · exact .inl (.inr (.inr q))
theorem Stays.cell (hp : H p = Option.none) : Stays g H (g.cell p) (L2.upd H p u) where
  pre := fun i a q => by
    show (g.ρ ++ [p])[i]? = some a
    rw [List.getElem?_append_left (List.getElem?_eq_some_iff.mp q).1]; exact q
  tup := fun b xs q => (New.upd hp) b _ q
  rd := fun b v q nw => by
    have hb : b ≠ p := by
      rintro rfl
      rcases q with q | ⟨o, q⟩ <;> rw [hp] at q <;> cases q
    exact ⟨by unfold Rd; rw [upd_ne hb]; exact q, fun z => (G.cell_W z).elim nw hb⟩
  ls := fun b vs q _ => New.upd hp b _ q
  frz := fun b ob v q => New.upd hp b _ q
theorem Fr.cell (hp : H p = Option.none) : Fr g H (g.cell p) (L2.upd H p u) where
  pre := List.prefix_append _ _
  new := fun b q => (List.mem_append.mp q).elim .inl fun z => .inr (by rw [show b = p by simpa using z]; exact hp)
  B := rfl
  O := fun b q => .inl q
  keep := fun b o q _ => New.upd hp b o q
  rd := fun b o q _ => (New.upd hp).rd q
  ls := fun b o q _ => New.upd hp b _ q
  tup := fun b xs q => New.upd hp b _ q
  frz := fun b ob v q => New.upd hp b _ q
  live := fun b o q => ⟨o, New.upd hp b o q⟩
theorem Heaps.addc {o : Ob} (hs : Heaps K mg g h H) (hp : H p = Option.none) (pl : Plain u) (r : ORep K H g mg o u) : Heaps K mg (g.cell p) (h ++ [⟨false, o⟩]) (L2.upd H p u) := by
  have np : ∀ b, g.W b → b ≠ p := fun b q z => by obtain ⟨o, e⟩ := hs.live b q; rw [z, hp] at e; cases e
  refine ⟨?_, ?_, fun j d b e1 e2 => ?_, fun b q z => ?_, fun b q z => ?_, hs.sOB, fun b q => ?_, fun b xs e q => ?_⟩
  · show (h ++ [_]).length = (g.ρ ++ [p]).length
    rw [List.length_append, List.length_append, hs.len]; rfl
  · show (g.ρ ++ [p]).Nodup
    refine List.nodup_append.mpr ⟨hs.nd, by simp, fun a ha b hb => ?_⟩
    rw [show b = p by simpa using hb]
    exact np a (.inl ha)
  · by_cases hj : j < h.length
    · rw [List.getElem?_append_left hj] at e1
      have e2 : (g.ρ ++ [p])[j]? = some b := e2
      rw [List.getElem?_append_left (by rw [← hs.len]; exact hj)] at e2
      exact (hs.cell j d b e1 e2).stays (.cell hp) fun o q => New.upd hp b o q
    · have e2 : (g.ρ ++ [p])[j]? = some b := e2
      have jl := (List.getElem?_eq_some_iff.mp e1).1
      rw [List.length_append] at jl
      have ej : j = h.length := by simp at jl; omega
      subst ej
      rw [List.getElem?_append_right (Nat.le_refl _)] at e1
      rw [hs.len, List.getElem?_append_right (Nat.le_refl _)] at e2
      simp at e1 e2
      subst e1; subst e2
      exact ⟨u, r.stays (.cell hp), fun _ => upd_same, fun z => nomatch z⟩
  · rcases List.mem_append.mp q with q | q
    · exact hs.sO b q z
    · exact np b (.inr (.inl z)) (by simpa using q)
  · rcases List.mem_append.mp q with q | q
    · exact hs.sB b q z
    · exact np b (.inr (.inr z)) (by simpa using q)
  · by_cases hb : b = p
    · subst hb; exact ⟨u, upd_same⟩
    · rw [upd_ne hb]; exact hs.live b ((G.cell_W q).resolve_right hb)
  · by_cases hb : b = p
    · subst hb; rw [upd_same] at e; cases e; exact pl
    · rw [upd_ne hb] at e; exact hs.noT b xs e ((G.cell_W q).resolve_right hb)
theorem Slots.addc (ss : Slots K g σ τ H) (hp : H p = Option.none) : Slots K (g.cell p) σ τ (L2.upd H p u) :=
  ⟨ss.len, fun i s x e1 e2 => (ss.rep i s x e1 e2).stays (Stays.cell hp) (fun _ q => q) fun b o _ e => New.upd hp b o e, ss.inj⟩
end
theorem CRep.plain {d : D} {u : HO} (r : CRep K H g d u) : Plain u := by cases r <;> trivial
theorem ORep.plain {o : Ob} {u : HO} (r : ORep K H g mg o u) : Plain u := by
  cases r with
  | ins _ _ => trivial
  | con r => exact r.plain
end
end Bw
namespace Bw
open PySem L2
section
variable {X : Cx} {w : WX} {e a b c : Expr} {es : List Expr} {pos : Pos} {m ma mb mc : M D} {mt : M Bool}
theorem PE.imp' {t t' : TE} (h : PE X e t) (i : ∀ τ H Q, t' τ H Q → t τ H Q) : PE X e t' := ⟨fun pins s τ H Q I q => h.run pins s τ H Q I (i τ H Q q)⟩
theorem PT.imp' {t t' : TT} (h : PT X e t) (i : ∀ τ H Q, t' τ H Q → t τ H Q) : PT X e t' := ⟨fun pins s τ H Q I q => h.run pins s τ H Q I (i τ H Q q)⟩
theorem PA.imp' {t t' : TA} (h : PA X es t) (i : ∀ τ H Q, t' τ H Q → t τ H Q) : PA X es t' := ⟨fun p pins s τ H Q I q => h.run p pins s τ H Q I (i τ H Q q)⟩
theorem PS.imp' {st : Stmt} {t t' : TS} (h : PS X st t) (i : ∀ D τ H, t' D τ H → t D τ H) : PS X st t' := ⟨fun pins s τ H D I q => h.run pins s τ H D I (i D τ H q)⟩
theorem PSs.imp' {st : List Stmt} {t t' : TS} (h : PSs X st t) (i : ∀ D τ H, t' D τ H → t D τ H) : PSs X st t' := ⟨fun pins s τ H D I q => h.run pins s τ H D I (i D τ H q)⟩

/-! ### constants and names -/
theorem tE_ret {K : PySem.W.Frag} {mg : Str → Option Value} {d : D} {v : V} (r : ∀ (H : Hp) (g : G), Rep K H g d v) {τ : St} {H : Hp} {Q : VK} (h : tE K mg w (ret d) τ H Q) : Q v H := by
  obtain ⟨g, σ, h0, hs, ss, p⟩ := h
  exact p g v H hs ss (Fr.refl _ _) (r H g)
theorem de_int {i : Int} {j : Nat} : DE X w (.Constant (.int i) j pos) (ret (.int i)) := PE.imp' pe_int fun _ _ _ h => tE_ret (fun _ _ => .int i) h
theorem de_bl {i : Bool} {j : Nat} : DE X w (.Constant (.bool i) j pos) (ret (.bl i)) := PE.imp' pe_bl fun _ _ _ h => tE_ret (fun _ _ => .bl i) h
theorem de_non {j : Nat} : DE X w (.Constant .none j pos) (ret .non) := PE.imp' pe_non fun _ _ _ h => tE_ret (fun _ _ => .non) h
theorem de_str {x : Str} {j : Nat} : DE X w (.Constant (.str x) j pos) (ret (.str x)) := PE.imp' pe_str fun _ _ _ h => tE_ret (fun _ _ => .str x) h
/-- a module's constant -/
theorem de_gint {x : Str} {i : Int} {t : Tok} (hg : Gl X x) (hm : X.mg x = some (.int i t)) (hd : (x == ("__debug__" : Str)) = false := by decide) : DE X w (.Name x pos) (ret (.int i)) :=
  PE.imp' (pe_glob (v := .int i) hg hm ⟨t, rfl⟩ hd) fun _ _ _ h => tE_ret (fun _ _ => .int i) h
theorem de_gstr {x : Str} {z : Str} {t : Tok} (hg : Gl X x) (hm : X.mg x = some (.str z t)) (hd : (x == ("__debug__" : Str)) = false := by decide) : DE X w (.Name x pos) (ret (.str z)) :=
  PE.imp' (pe_glob (v := .str z) hg hm ⟨t, rfl⟩ hd) fun _ _ _ h => tE_ret (fun _ _ => .str z) h
/-- a tuple that the top has written -/
theorem de_gtup {x : Str} {a : Addr} {ds : List D} {vs : List V} (hg : Gl X x) (hm : X.mg x = some (.ref a)) (hk : ∃ o, X.K.lookup a = some o ∧ o.cls = .type "tuple" ∧ o.dict = none) (hq : SqT X.K (fun _ => none) a vs) (hr : ∀ H g, RepL X.K H g ds vs) (hd : (x == ("__debug__" : Str)) = false := by decide) : DE X w (.Name x pos) (ret (.kt ds)) :=
  PE.imp' (pe_glob (v := .ref a) hg hm rfl hd) fun _ _ _ h => tE_ret (fun H g => .kt (.inr ⟨hk, hq⟩) (hr H g)) h
/-- a name: a value, or its own list or dict, that is let go -/
def nm (i : Nat) : M D := fun σ h => match σ[i]? with
  | some (.v d) => .ok d σ h
  | some (.own d) => .ok d (σ.set i (.v d)) h
  | _ => .no
theorem de_nm (i : Nat) {x : Str} (hN : X.N[i]? = some x := by rfl) (hv : Vis X.env.scope x := by first | exact Or.inl rfl | exact Or.inr (Or.inl rfl) | exact Or.inr (Or.inr rfl)) (hd : (x == ("__debug__" : Str)) = false := by decide)
    (hcd : (x == ("__classdict__" : Str)) = false := by decide) : DE X w (.Name x pos) (nm i) := PE.imp' (pe_var hN hv hd hcd) fun τ H Q h => by
  obtain ⟨g, σ, h0, hs, ss, p⟩ := h
  unfold nm at p
  cases e : σ[i]? with
  | none => rw [e] at p; exact p.elim
  | some s =>
    rw [e] at p
    have il : i < τ.length := by rw [← ss.len]; exact (List.getElem?_eq_some_iff.mp e).1
    have et : τ[i]? = some τ[i] := List.getElem?_eq_getElem il
    have q := ss.rep i s _ e et
    cases s with
    | un => exact p.elim
    | v d =>
      obtain ⟨v, ev, r⟩ := q
      exact ⟨v, by rw [et, ev], p g v H hs ss (Fr.refl _ _) r⟩
    | own d =>
      obtain ⟨a, u, ea, hO, el, r⟩ := q
      rw [ea] at et
      obtain ⟨ss', r'⟩ := Slots.drop hs ss e et hO el r
      exact ⟨.ref a, et, p (g.drop a) (.ref a) H hs.drop ss' .drop r'⟩

/-! ### two-place operators: f tells what comes out -/
def rD2 (K : PySem.W.Frag) (mg : Str → Option Value) (f : Hd → D → D → Option D) : R2 := fun x y H Q =>
  ∃ g h dx dy d, Heaps K mg g h H ∧ Rep K H g dx x ∧ Rep K H g dy y ∧ f h dx dy = some d ∧ ∀ v H', New H H' → Rep K H' g d v → Q v H'
def op2 (f : Hd → D → D → Option D) (ma mb : M D) : M D := bnd ma fun x => bnd mb fun y => fun σ h => opt (f h x y) σ h
theorem tE_op2 {f : Hd → D → D → Option D} {τ : St} {H : Hp} {Q : VK} (h : tE X.K X.mg w (op2 f ma mb) τ H Q) : tOp (rD2 X.K X.mg f) (tE X.K X.mg w ma) (tE X.K X.mg w mb) τ H Q := by
  obtain ⟨g, σ, h0, hs, ss, p⟩ := h
  refine tM.bnd hs ss p fun x σ1 h1 g1 vx H1 hs1 ss1 f1 rx p1 => ?_
  refine tM.bnd hs1 ss1 p1 fun y σ2 h2 g2 vy H2 hs2 ss2 f2 ry p2 => ?_
  cases e : f h2 x y with
  | none => rw [e] at p2; exact p2.elim
  | some d =>
    rw [e] at p2
    exact ⟨g2, h2, x, y, d, hs2, rx.stays f2.stays, ry, e, fun v H' n r => p2 g2 v H' (hs2.new n) (ss2.new n) n.fr r⟩
theorem de_op {op : Operator} {f : Hd → D → D → Option D} (ho : OpR X (binaryOp op) (rD2 X.K X.mg f)) (ha : DE X w a ma) (hb : DE X w b mb) : DE X w (.BinOp a op b pos) (op2 f ma mb) :=
  PE.imp' (pe_op ho ha hb) fun _ _ _ => tE_op2
def op2b (f : Hd → D → D → Option Bool) (ma mb : M D) : M Bool := bnd ma fun x => bnd mb fun y => fun σ h => opt (f h x y) σ h
def blM (m : M Bool) : M D := bnd m fun k => ret (.bl k)
def rDb (K : PySem.W.Frag) (mg : Str → Option Value) (f : Hd → D → D → Option Bool) : R2 := fun x y H Q =>
  ∃ g h dx dy k, Heaps K mg g h H ∧ Rep K H g dx x ∧ Rep K H g dy y ∧ f h dx dy = some k ∧ ∀ H', New H H' → Q (.bl k) H'
theorem de_cmp {op : CmpOp} {f : Hd → D → D → Option Bool} (ho : OpR X (compareOp op) (rDb X.K X.mg f)) (ha : DE X w a ma) (hb : DE X w b mb) (hm : behindInMarks op b = false) : DE X w (.Compare a [op] [b] pos) (blM (op2b f ma mb)) :=
  PE.imp' (pe_cmpR ho ha hb hm) fun τ H Q h => by
    obtain ⟨g, σ, h0, hs, ss, p⟩ := h
    have p' : Post X.K X.mg (Rep X.K) w Q g H τ (bnd ma (fun x => bnd mb fun y => fun σ h => bnd (fun σ h => opt (f h x y) σ h) (fun k => ret (.bl k)) σ h) σ h0) := by
      have e : blM (op2b f ma mb) σ h0 = bnd ma (fun x => bnd mb fun y => fun σ h => bnd (fun σ h => opt (f h x y) σ h) (fun k => ret (.bl k)) σ h) σ h0 := by
        unfold blM op2b bnd
        cases ma σ h0 with
        | ok x σ1 h1 => dsimp only; cases mb σ1 h1 <;> rfl
        | exc _ _ _ => rfl
        | no => rfl
      rw [← e]; exact p
    refine tM.bnd hs ss p' fun x σ1 h1 g1 vx H1 hs1 ss1 f1 rx p1 => ?_
    refine tM.bnd hs1 ss1 p1 fun y σ2 h2 g2 vy H2 hs2 ss2 f2 ry p2 => ?_
    unfold bnd at p2
    dsimp only at p2
    cases e : f h2 x y with
    | none => rw [e] at p2; exact p2.elim
    | some k =>
      rw [e] at p2
      exact ⟨g2, h2, x, y, k, hs2, rx.stays f2.stays, ry, e, fun H' n => p2 g2 _ H' (hs2.new n) (ss2.new n) n.fr (.bl k)⟩
theorem dt_cmp {op : CmpOp} {f : Hd → D → D → Option Bool} (ho : OpR X (compareOp op) (rDb X.K X.mg f)) (ha : DE X w a ma) (hb : DE X w b mb) (hm : behindInMarks op b = false) : DT X w (.Compare a [op] [b] pos) (op2b f ma mb) :=
  PT.imp' (pt_cmpR ho ha hb hm) fun τ H Q h => by
    obtain ⟨g, σ, h0, hs, ss, p⟩ := h
    refine tM.bnd hs ss p fun x σ1 h1 g1 vx H1 hs1 ss1 f1 rx p1 => ?_
    refine tM.bnd hs1 ss1 p1 fun y σ2 h2 g2 vy H2 hs2 ss2 f2 ry p2 => ?_
    cases e : f h2 x y with
    | none => rw [e] at p2; exact p2.elim
    | some k =>
      rw [e] at p2
      exact ⟨g2, h2, x, y, k, hs2, rx.stays f2.stays, ry, e, fun H' n => ⟨k, rfl, p2 g2 k H' (hs2.new n) (ss2.new n) n.fr rfl⟩⟩

/-! ### truth, and, or, not, if .. else -/
def asB (m : M D) : M Bool := bnd m fun d => match d with | .bl k => ret k | _ => no
theorem dt_val (h : DE X w e m) (he : ∀ whole, isTrue e X.env whole = (do let v ← whole; standAt e.pos; holding [v] (truthy v)) := by intro _; rfl) : DT X w e (asB m) :=
  PT.imp' (pt_val h he) fun τ H Q h => by
    obtain ⟨g, σ, h0, hs, ss, p⟩ := h
    refine tM.bnd hs ss p fun x σ1 h1 g1 vx H1 hs1 ss1 f1 rx p1 => ?_
    cases rx with
    | bl k => exact ⟨k, rfl, p1 g1 k H1 hs1 ss1 (Fr.refl _ _) rfl⟩
    | _ => exact p1.elim
def andB (m n : M Bool) : M Bool := bnd m fun k => if k = true then n else ret false
def orB (m n : M Bool) : M Bool := bnd m fun k => if k = true then ret true else n
def notB (m : M Bool) : M Bool := bnd m fun k => ret (!k)
variable {m1 m2 : M Bool} {rest : List Expr}
abbrev DW (X : Cx) (w : WX) (e : Expr) (m : M Bool) : Prop := PW X e (tT X.K X.mg w m)
theorem PW.imp' {t t' : TT} (h : PW X e t) (i : ∀ τ H Q, t' τ H Q → t τ H Q) : PW X e t' := ⟨fun wh pins s τ H Q I q => h.run wh pins s τ H Q I (i τ H Q q)⟩
theorem dw_and1 (h : DT X w a m1) : DW X w (.BoolOp .And [a] pos) m1 := pw_and1 h
theorem dw_or1 (h : DT X w a m1) : DW X w (.BoolOp .Or [a] pos) m1 := pw_or1 h
theorem dw_and (h : DT X w a m1) (h2 : DW X w (.BoolOp .And (b :: rest) pos) m2) : DW X w (.BoolOp .And (a :: b :: rest) pos) (andB m1 m2) :=
  PW.imp' (pw_and h h2) fun τ H Q h => by
    obtain ⟨g, σ, h0, hs, ss, p⟩ := h
    refine tM.bnd hs ss p fun x σ1 h1 g1 vx H1 hs1 ss1 f1 rx p1 => ?_
    subst rx
    cases x with
    | true => rw [if_pos rfl] at p1 ⊢; exact ⟨g1, σ1, h1, hs1, ss1, p1⟩
    | false => rw [if_neg Bool.false_ne_true] at p1 ⊢; exact p1 g1 _ H1 hs1 ss1 (Fr.refl _ _) rfl
theorem dw_or (h : DT X w a m1) (h2 : DW X w (.BoolOp .Or (b :: rest) pos) m2) : DW X w (.BoolOp .Or (a :: b :: rest) pos) (orB m1 m2) :=
  PW.imp' (pw_or h h2) fun τ H Q h => by
    obtain ⟨g, σ, h0, hs, ss, p⟩ := h
    refine tM.bnd hs ss p fun x σ1 h1 g1 vx H1 hs1 ss1 f1 rx p1 => ?_
    subst rx
    cases x with
    | true => rw [if_pos rfl] at p1 ⊢; exact p1 g1 _ H1 hs1 ss1 (Fr.refl _ _) rfl
    | false => rw [if_neg Bool.false_ne_true] at p1 ⊢; exact ⟨g1, σ1, h1, hs1, ss1, p1⟩
theorem dt_not (h : DT X w a m1) : DT X w (.UnaryOp .Not a pos) (notB m1) :=
  PT.imp' (pt_not h) fun τ H Q h => by
    obtain ⟨g, σ, h0, hs, ss, p⟩ := h
    refine tM.bnd hs ss p fun x σ1 h1 g1 vx H1 hs1 ss1 f1 rx p1 => ?_
    subst rx
    exact p1 g1 _ H1 hs1 ss1 (Fr.refl _ _) rfl
/-- and, or, not as values, of bools -/
def andV (m n : M D) : M D := bnd m fun d => match d with | .bl true => n | .bl false => ret (.bl false) | _ => no
def orV (m n : M D) : M D := bnd m fun d => match d with | .bl true => ret (.bl true) | .bl false => n | _ => no
def notV (m : M D) : M D := bnd m fun d => match d with | .bl k => ret (.bl (!k)) | _ => no
theorem de_one {op : BoolOp} (h : DE X w a m) : DE X w (.BoolOp op [a] pos) m := pe_one h
theorem de_and (h : DE X w a ma) (h2 : DE X w (.BoolOp .And (b :: rest) pos) mb) : DE X w (.BoolOp .And (a :: b :: rest) pos) (andV ma mb) :=
  PE.imp' (pe_and h h2) fun τ H Q h => by
    obtain ⟨g, σ, h0, hs, ss, p⟩ := h
    refine tM.bnd hs ss p fun x σ1 h1 g1 vx H1 hs1 ss1 f1 rx p1 => ?_
    cases rx with
    | bl k =>
      refine ⟨k, rfl, ?_⟩
      cases k with
      | true => rw [if_pos rfl]; exact ⟨g1, σ1, h1, hs1, ss1, p1⟩
      | false => rw [if_neg Bool.false_ne_true]; exact p1 g1 _ H1 hs1 ss1 (Fr.refl _ _) (.bl false)
    | _ => exact p1.elim
theorem de_or (h : DE X w a ma) (h2 : DE X w (.BoolOp .Or (b :: rest) pos) mb) : DE X w (.BoolOp .Or (a :: b :: rest) pos) (orV ma mb) :=
  PE.imp' (pe_or h h2) fun τ H Q h => by
    obtain ⟨g, σ, h0, hs, ss, p⟩ := h
    refine tM.bnd hs ss p fun x σ1 h1 g1 vx H1 hs1 ss1 f1 rx p1 => ?_
    cases rx with
    | bl k =>
      refine ⟨k, rfl, ?_⟩
      cases k with
      | true => rw [if_pos rfl]; exact p1 g1 _ H1 hs1 ss1 (Fr.refl _ _) (.bl true)
      | false => rw [if_neg Bool.false_ne_true]; exact ⟨g1, σ1, h1, hs1, ss1, p1⟩
    | _ => exact p1.elim
theorem de_not (h : DE X w a ma) : DE X w (.UnaryOp .Not a pos) (notV ma) :=
  PE.imp' (pe_not h) fun τ H Q h => by
    obtain ⟨g, σ, h0, hs, ss, p⟩ := h
    refine tM.bnd hs ss p fun x σ1 h1 g1 vx H1 hs1 ss1 f1 rx p1 => ?_
    cases rx with
    | bl k => exact ⟨k, rfl, p1 g1 _ H1 hs1 ss1 (Fr.refl _ _) (.bl _)⟩
    | _ => exact p1.elim
def ifM {α : Type} (c : M Bool) (m n : M α) : M α := bnd c fun k => if k = true then m else n
theorem de_if (hc : DT X w c m1) (ha : DE X w a ma) (hb : DE X w b mb) : DE X w (.IfExp c a b pos) (ifM m1 ma mb) :=
  PE.imp' (pe_ifExp hc ha hb) fun τ H Q h => by
    obtain ⟨g, σ, h0, hs, ss, p⟩ := h
    refine tM.bnd hs ss p fun x σ1 h1 g1 vx H1 hs1 ss1 f1 rx p1 => ?_
    subst rx
    cases x with
    | true => rw [if_pos rfl] at p1 ⊢; exact ⟨g1, σ1, h1, hs1, ss1, p1⟩
    | false => rw [if_neg Bool.false_ne_true] at p1 ⊢; exact ⟨g1, σ1, h1, hs1, ss1, p1⟩

/-! ### argument lists, displays -/
def cns (m : M D) (ms : M (List D)) : M (List D) := bnd m fun d => bnd ms fun ds => ret (d :: ds)
theorem da_nil : DA X w [] (ret []) := PA.imp' pa_nil fun τ H Q h => by
  obtain ⟨g, σ, h0, hs, ss, p⟩ := h
  exact p g [] H hs ss (Fr.refl _ _) .nil
theorem da_cons {ms : M (List D)} (ha : DE X w e m) (hr : DA X w es ms) (hst : starEach (e :: es) X.env = (false, eval e X.env) :: starEach es X.env := by rfl) : DA X w (e :: es) (cns m ms) :=
  PA.imp' (pa_cons ha hr hst) fun τ H Q h => by
    obtain ⟨g, σ, h0, hs, ss, p⟩ := h
    refine tM.bnd hs ss p fun x σ1 h1 g1 vx H1 hs1 ss1 f1 rx p1 => ?_
    refine tM.bnd hs1 ss1 p1 fun y σ2 h2 g2 vy H2 hs2 ss2 f2 ry p2 => ?_
    exact p2 g2 _ H2 hs2 ss2 (Fr.refl _ _) (.cons (rx.stays f2.stays) ry)
theorem RepL.len {K : PySem.W.Frag} {H : Hp} {g : G} : ∀ {ds : List D} {vs : List V}, RepL K H g ds vs → ds.length = vs.length
  | _, _, .nil => rfl
  | _, _, .cons _ t => by rw [List.length_cons, List.length_cons, t.len]
/-- the greatest length of a list, a tuple, a text -/
def big : Nat := 16777216
theorem big_eq : big = sizeLine := sizeLine_eq.symm
def tupM (ms : M (List D)) : M D := bnd ms fun ds => if ds.length ≤ big then ret (.tup ds) else no
theorem de_tup {x1} {ms : M (List D)} (h : DA X w es ms) : DE X w (.Tuple es x1 pos) (tupM ms) := PE.imp' (pe_tup h) fun τ H Q h => by
  obtain ⟨g, σ, h0, hs, ss, p⟩ := h
  refine tM.bnd hs ss p fun x σ1 h1 g1 vx H1 hs1 ss1 f1 rx p1 => ?_
  by_cases hl : x.length ≤ big
  · rw [if_pos hl] at p1
    refine ⟨by rw [← rx.len, ← big_eq]; exact hl, fun q hq => ?_⟩
    have n : New H1 (upd H1 q (.tup vx)) := New.upd hq
    exact p1 g1 _ _ (hs1.new n) (ss1.new n) n.fr (.tup upd_same (rx.stays n.stays))
  · rw [if_neg hl] at p1; exact p1.elim
def lstM (ms : M (List D)) : M D := bnd ms fun ds => if ds.length ≤ big then ret (.lst ds) else no
theorem df_lst {ms : M (List D)} (h : DA X w es ms) : DF X w (.List es pos) (lstM ms) := PE.imp' (pe_lst h) fun τ H Q h => by
  obtain ⟨g, σ, h0, hs, ss, p⟩ := h
  refine tM.bndF hs ss p fun x σ1 h1 g1 vx H1 hs1 ss1 f1 rx p1 => ?_
  by_cases hl : x.length ≤ big
  · rw [if_pos hl] at p1
    exact ⟨by rw [← rx.len, ← big_eq]; exact hl, fun q hq => p1 g1 _ q _ hs1 ss1 (Fr.refl _ _) hq (.lst rx)⟩
  · rw [if_neg hl] at p1; exact p1.elim
theorem df_dicK : DF X w (.Dict [] [] pos) (ret (.dic false [])) := PE.imp' pe_dnewK fun τ H Q h => by
  obtain ⟨g, σ, h0, hs, ss, p⟩ := h
  exact fun q hq => p g H q _ hs ss (Fr.refl _ _) hq (.dicK .nil)
theorem df_dicT : DF X w (.Dict [] [] pos) (ret (.dic true [])) := PE.imp' pe_dnewT fun τ H Q h => by
  obtain ⟨g, σ, h0, hs, ss, p⟩ := h
  exact fun q hq => p g H q _ hs ss (Fr.refl _ _) hq (.dicT .nil)
/-- a new list or dict as a value that no one changes -/
theorem de_frozen (h : DF X w e m) : DE X w e m := PE.imp' h fun τ H Q h => by
  obtain ⟨g, σ, h0, hs, ss, p⟩ := h
  refine ⟨g, σ, h0, hs, ss, ?_⟩
  cases ev : m σ h0 with
  | ok d σ1 h1 =>
    rw [ev] at p
    intro g' H' q u hs' ss' f' hq r
    have n : New H' (upd H' q u) := New.upd hq
    refine p g' _ _ (hs'.new n) (ss'.new n) (f'.trans n.fr) (.ofC upd_same (fun z => ?_) (r.stays n.stays))
    obtain ⟨o, eo⟩ := hs'.live q z
    rw [hq] at eo; cases eo
  | exc x σ1 h1 => rw [ev] at p; exact p
  | no => rw [ev] at p; exact p
/-- .. as a cell -/
def newc (m : M D) : M D := bnd m fun d => fun σ h => .ok (.ref h.length) σ (h ++ [⟨false, .con d⟩])
theorem de_cell (h : DF X w e m) : DE X w e (newc m) := PE.imp' h fun τ H Q h => by
  obtain ⟨g, σ, h0, hs, ss, p⟩ := h
  refine ⟨g, σ, h0, hs, ss, ?_⟩
  unfold newc bnd at p
  cases ev : m σ h0 with
  | ok d σ1 h1 =>
    rw [ev] at p
    intro g' H' q u hs' ss' f' hq r
    refine p (g'.cell q) (.ref q) _ (hs'.addc hq r.plain (.con r)) (ss'.addc hq) (f'.trans (.cell hq)) (.ref ?_)
    rw [hs'.len]
    show (g'.ρ ++ [q])[g'.ρ.length]? = some q
    simp
  | exc x σ1 h1 => rw [ev] at p; exact p
  | no => rw [ev] at p; exact p
end
end Bw
namespace Bw
open PySem L2

mutual
def toPy : D → Option PyData
  | .non => some .none
  | .bl b => some (.bool b)
  | .int i => some (.int i)
  | .str x => some (.str x)
  | .tup ds => (toPys ds).map .tuple
  | .kt ds => (toPys ds).map .tuple
  | .lst ds => (toPys ds).map .list
  | _ => none
def toPys : List D → Option (List PyData)
  | [] => some []
  | d :: ds => match toPy d, toPys ds with
    | some x, some xs => some (x :: xs)
    | _, _ => none
end
theorem toPys_cons {d : D} {ds : List D} {r : List PyData} (h : toPys (d :: ds) = some r) : ∃ x xs, toPy d = some x ∧ toPys ds = some xs ∧ r = x :: xs := by
  rw [toPys] at h
  cases e1 : toPy d with
  | none => rw [e1] at h; cases h
  | some x =>
    cases e2 : toPys ds with
    | none => rw [e1, e2] at h; cases h
    | some xs => rw [e1, e2] at h; cases h; exact ⟨x, xs, rfl, rfl, rfl⟩
section
variable {K : PySem.W.Frag} {H : Hp} {g : G}
mutual
theorem dp_of : ∀ (d : D) (v : V) (y : PyData), Rep K H g d v → toPy d = some y → Dp K H v y
  | .non, _, _, r, e => by cases r; rw [toPy] at e; cases e; exact .non
  | .bl b, _, _, r, e => by cases r; rw [toPy] at e; cases e; exact .bl b
  | .int i, _, _, r, e => by cases r; rw [toPy] at e; cases e; exact .int i
  | .str x, _, _, r, e => by cases r; rw [toPy] at e; cases e; exact .str x
  | .tup ds, _, _, r, e => by
    cases r with
    | tup h rl =>
      rw [toPy] at e
      obtain ⟨l, e1, rfl⟩ := Option.map_eq_some_iff.mp e
      exact .tup (SqT.of h) (dps_of ds _ l rl e1)
  | .lst ds, _, _, r, e => by
    cases r with
    | lst h _ rl =>
      rw [toPy] at e
      obtain ⟨l, e1, rfl⟩ := Option.map_eq_some_iff.mp e
      exact .lst (SqL.of h) (dps_of ds _ l rl e1)
  | .dic _ _, _, _, _, e => by rw [toPy] at e <;> first | cases e | (intros; contradiction)
  | .kt ds, _, _, r, e => by
    cases r with
    | kt h rl =>
      rw [toPy] at e
      obtain ⟨l, e1, rfl⟩ := Option.map_eq_some_iff.mp e
      exact .tup h.sq (dps_of ds _ l rl e1)
  | .scr _, _, _, _, e => by rw [toPy] at e <;> first | cases e | (intros; contradiction)
  | .ref _, _, _, _, e => by rw [toPy] at e <;> first | cases e | (intros; contradiction)
  | .exc _ _, _, _, _, e => by rw [toPy] at e <;> first | cases e | (intros; contradiction)
  | .fn _, _, _, _, e => by rw [toPy] at e <;> first | cases e | (intros; contradiction)
theorem dps_of : ∀ (ds : List D) (vs : List V) (ys : List PyData), RepL K H g ds vs → toPys ds = some ys → DpAll K H vs ys
  | [], _, _, r, e => by cases r; rw [toPys] at e; cases e; exact .nil
  | d :: ds, _, _, r, e => by
    cases r with
    | cons r1 r2 =>
      obtain ⟨x, xs, e1, e2, rfl⟩ := toPys_cons e
      exact .cons (dp_of d _ x r1 e1) (dps_of ds _ xs r2 e2)
end
/-- a list or tuple to be read: what a value is, or the list that a cell holds -/
theorem Rep.fresh {mg : Str → Option Value} {h : Hd} {d : D} {u : HO} {p : Addr} (hs : Heaps K mg g h H) (hp : H p = none) (r : CRep K H g d u) : New H (upd H p u) ∧ Rep K (upd H p u) g d (.ref p) := by
  have n : New H (upd H p u) := New.upd hp
  refine ⟨n, .ofC upd_same (fun z => ?_) (r.stays n.stays)⟩
  obtain ⟨o, eo⟩ := hs.live p z
  rw [hp] at eo; cases eo
theorem RepL.append : ∀ {ds es : List D} {vs ws : List V}, RepL K H g ds vs → RepL K H g es ws → RepL K H g (ds ++ es) (vs ++ ws)
  | _, _, _, _, .nil, s => s
  | _, _, _, _, .cons r t, s => .cons r (RepL.append t s)
theorem RepL.get : ∀ {ds : List D} {vs : List V} {i : Nat} {d : D}, RepL K H g ds vs → ds[i]? = some d → ∃ v, vs[i]? = some v ∧ Rep K H g d v
  | _, _, _, _, .nil, e => by simp at e
  | _, _, 0, _, .cons r _, e => by simp at e; subst e; exact ⟨_, rfl, r⟩
  | _, _, i + 1, d, .cons _ t, e => by
    obtain ⟨v, h1, h2⟩ := RepL.get (i := i) (d := d) t (by simpa using e)
    exact ⟨v, by simpa using h1, h2⟩
theorem RepL.take : ∀ {ds : List D} {vs : List V} (n : Nat), RepL K H g ds vs → RepL K H g (ds.take n) (vs.take n)
  | _, _, 0, _ => by simp; exact .nil
  | _, _, _ + 1, .nil => by simp; exact .nil
  | _, _, n + 1, .cons r t => by simp; exact .cons r (RepL.take n t)
theorem RepL.drop : ∀ {ds : List D} {vs : List V} (n : Nat), RepL K H g ds vs → RepL K H g (ds.drop n) (vs.drop n)
  | _, _, 0, r => by simpa using r
  | _, _, _ + 1, .nil => by simp; exact .nil
  | _, _, n + 1, .cons r t => by simp; exact RepL.drop n t
theorem RepL.nil_iff {ds : List D} {vs : List V} (r : RepL K H g ds vs) : ds = [] ↔ vs = [] := by
  cases r with
  | nil => simp
  | cons _ _ => simp
theorem RepL.rep {ds : List D} {vs : List V} (r : RepL K H g ds vs) : ∀ n : Nat, RepL K H g (List.replicate n ds).flatten (List.replicate n vs).flatten
  | 0 => .nil
  | n + 1 => by rw [List.replicate_succ, List.replicate_succ, List.flatten_cons, List.flatten_cons]; exact r.append (RepL.rep r n)
end

/-! ### + - * // % ** -/
def addD (_ : Hd) : D → D → Option D
  | .int i, .int j => some (.int (i + j))
  | .str x, .str y => if x.length + y.length ≤ big then some (.str (x ++ y)) else none
  | .tup x, .tup y => if x.length + y.length ≤ big then some (.tup (x ++ y)) else none
  | .lst x, .lst y => if x.length + y.length ≤ big then some (.lst (x ++ y)) else none
  | .kt (a :: x), .tup (b :: y) => if (a :: x).length + (b :: y).length ≤ big then some (.tup (a :: x ++ b :: y)) else none
  | .tup (a :: x), .kt (b :: y) => if (a :: x).length + (b :: y).length ≤ big then some (.tup (a :: x ++ b :: y)) else none
  | .kt (a :: x), .kt (b :: y) => if (a :: x).length + (b :: y).length ≤ big then some (.tup (a :: x ++ b :: y)) else none
  | _, _ => none
def subD (_ : Hd) : D → D → Option D
  | .int i, .int j => some (.int (i - j))
  | _, _ => none
def mulOk (i j : Int) : Bool := (decide (-(2 ^ 64) < i) && decide (i < 2 ^ 64)) || (decide (-(2 ^ 64) < j) && decide (j < 2 ^ 64))
def mulD (_ : Hd) : D → D → Option D
  | .int i, .int j => if mulOk i j = true then some (.int (i * j)) else none
  | .lst x, .int k => if 0 ≤ k ∧ k ≤ 1000 ∧ x.length * k.toNat ≤ big then some (.lst (List.replicate k.toNat x).flatten) else none
  | _, _ => none
def divD (_ : Hd) : D → D → Option D
  | .int i, .int j => if 0 < j ∧ j < 1073741824 then some (.int (i / j)) else none
  | _, _ => none
def modD (_ : Hd) : D → D → Option D
  | .int i, .int j => if 0 < j then some (.int (i % j)) else none
  | _, _ => none
def powD (_ : Hd) : D → D → Option D
  | .int i, .int j => if 0 ≤ j ∧ j ≤ 1000 ∧ i.natAbs ≤ 1000 then some (.int (i ^ j.toNat)) else none
  | _, _ => none
section
variable {X : Cx}
theorem rep_int {K : PySem.W.Frag} {H : Hp} {g : G} {i : Int} {v : V} (r : Rep K H g (.int i) v) : v = .int i := by cases r; rfl
theorem rep_str {K : PySem.W.Frag} {H : Hp} {g : G} {i : Str} {v : V} (r : Rep K H g (.str i) v) : v = .str i := by cases r; rfl
theorem rep_tup {K : PySem.W.Frag} {H : Hp} {g : G} {ds : List D} {v : V} (r : Rep K H g (.tup ds) v) : ∃ a vs, v = .ref a ∧ H a = some (.tup vs) ∧ RepL K H g ds vs := by cases r with | tup h r => exact ⟨_, _, rfl, h, r⟩
theorem rep_lst {K : PySem.W.Frag} {H : Hp} {g : G} {ds : List D} {v : V} (r : Rep K H g (.lst ds) v) : ∃ a vs, v = .ref a ∧ H a = some (.lst vs) ∧ ¬ g.W a ∧ RepL K H g ds vs := by cases r with | lst h w r => exact ⟨_, _, rfl, h, w, r⟩
theorem rep_seqT {K : PySem.W.Frag} {H : Hp} {g : G} {ds : List D} {d : D} {v : V} (e : d = .tup ds ∨ d = .kt ds) (r : Rep K H g d v) : ∃ a vs, v = .ref a ∧ SqT K H a vs ∧ RepL K H g ds vs := by
  rcases e with rfl | rfl
  · cases r with
    | tup h rl => exact ⟨_, _, rfl, SqT.of h, rl⟩
  · cases r with
    | kt h rl => exact ⟨_, _, rfl, h.sq, rl⟩
theorem op_addD : OpR X (binaryOp .Add) (rD2 X.K X.mg addD) := by
  intro pins s τ H x y v u Q I rx ry ⟨g, h, dx, dy, d, hs, r1, r2, e, k⟩
  unfold addD at e
  split at e
  · cases e; cases rep_int r1; cases rep_int r2
    exact op_add pins s τ H _ _ v u Q I rx ry ⟨_, _, rfl, rfl, k _ H (New.refl H) (.int _)⟩
  · split at e
    · cases e; cases rep_str r1; cases rep_str r2
      exact op_add_str pins s τ H _ _ v u Q I rx ry ⟨_, _, rfl, rfl, by rw [← big_eq]; assumption, k _ H (New.refl H) (.str _)⟩
    · cases e
  · split at e
    · rename_i hl
      cases e
      obtain ⟨a, xs, rfl, h1, l1⟩ := rep_tup r1
      obtain ⟨b, ys, rfl, h2, l2⟩ := rep_tup r2
      refine op_catA pins s τ H _ _ v u Q I rx ry ⟨a, b, xs, ys, rfl, rfl, SqT.of h1, SqT.of h2, by rw [← l1.len, ← l2.len, ← big_eq]; exact hl, fun z => ?_, fun _ z => ?_, fun _ _ p hp => ?_⟩
      · refine k _ H (New.refl H) (.tup h2 ?_)
        have := l1.append l2
        rw [z] at this; exact this
      · refine k _ H (New.refl H) (.tup h1 ?_)
        have := l1.append l2
        rw [z, List.append_nil] at this; exact this
      · have n : New H (upd H p (.tup (xs ++ ys))) := New.upd hp
        exact k _ _ n (.tup upd_same ((l1.append l2).stays n.stays))
    · cases e
  · split at e
    · rename_i hl
      cases e
      obtain ⟨a, xs, rfl, h1, w1, l1⟩ := rep_lst r1
      obtain ⟨b, ys, rfl, h2, w2, l2⟩ := rep_lst r2
      refine op_cat pins s τ H _ _ v u Q I rx ry ⟨a, b, xs, ys, rfl, rfl, h1, h2, by rw [← l1.len, ← l2.len, ← big_eq]; exact hl, fun p hp => ?_⟩
      obtain ⟨n, r⟩ := Rep.fresh hs hp (.lst (l1.append l2))
      exact k _ _ n r
    · cases e
  · split at e
    · rename_i hl
      cases e
      obtain ⟨a, xs1, rfl, h1, l1⟩ := rep_seqT (d := .kt _) (.inr rfl) r1
      obtain ⟨b, xs2, rfl, h2, l2⟩ := rep_seqT (d := .tup _) (.inl rfl) r2
      refine op_catA pins s τ H _ _ v u Q I rx ry ⟨a, b, xs1, xs2, rfl, rfl, h1, h2, by rw [← l1.len, ← l2.len, ← big_eq]; exact hl, fun z => ?_, fun _ z => ?_, fun _ _ p hp => ?_⟩
      · rw [z] at l1; cases l1
      · rw [z] at l2; cases l2
      · have n : New H (upd H p (.tup (xs1 ++ xs2))) := New.upd hp
        exact k _ _ n (.tup upd_same ((l1.append l2).stays n.stays))
    · cases e
  · split at e
    · rename_i hl
      cases e
      obtain ⟨a, xs1, rfl, h1, l1⟩ := rep_seqT (d := .tup _) (.inl rfl) r1
      obtain ⟨b, xs2, rfl, h2, l2⟩ := rep_seqT (d := .kt _) (.inr rfl) r2
      refine op_catA pins s τ H _ _ v u Q I rx ry ⟨a, b, xs1, xs2, rfl, rfl, h1, h2, by rw [← l1.len, ← l2.len, ← big_eq]; exact hl, fun z => ?_, fun _ z => ?_, fun _ _ p hp => ?_⟩
      · rw [z] at l1; cases l1
      · rw [z] at l2; cases l2
      · have n : New H (upd H p (.tup (xs1 ++ xs2))) := New.upd hp
        exact k _ _ n (.tup upd_same ((l1.append l2).stays n.stays))
    · cases e
  · split at e
    · rename_i hl
      cases e
      obtain ⟨a, xs1, rfl, h1, l1⟩ := rep_seqT (d := .kt _) (.inr rfl) r1
      obtain ⟨b, xs2, rfl, h2, l2⟩ := rep_seqT (d := .kt _) (.inr rfl) r2
      refine op_catA pins s τ H _ _ v u Q I rx ry ⟨a, b, xs1, xs2, rfl, rfl, h1, h2, by rw [← l1.len, ← l2.len, ← big_eq]; exact hl, fun z => ?_, fun _ z => ?_, fun _ _ p hp => ?_⟩
      · rw [z] at l1; cases l1
      · rw [z] at l2; cases l2
      · have n : New H (upd H p (.tup (xs1 ++ xs2))) := New.upd hp
        exact k _ _ n (.tup upd_same ((l1.append l2).stays n.stays))
    · cases e
  · cases e
theorem op_subD : OpR X (binaryOp .Sub) (rD2 X.K X.mg subD) := by
  intro pins s τ H x y v u Q I rx ry ⟨g, h, dx, dy, d, hs, r1, r2, e, k⟩
  unfold subD at e
  split at e
  · cases e; cases rep_int r1; cases rep_int r2
    exact op_sub pins s τ H _ _ v u Q I rx ry ⟨_, _, rfl, rfl, k _ H (New.refl H) (.int _)⟩
  · cases e
theorem op_mulD : OpR X (binaryOp .Mult) (rD2 X.K X.mg mulD) := by
  intro pins s τ H x y v u Q I rx ry ⟨g, h, dx, dy, d, hs, r1, r2, e, k⟩
  unfold mulD at e
  split at e
  · split at e
    · rename_i hc
      cases e; cases rep_int r1; cases rep_int r2
      refine op_mul pins s τ H _ _ v u Q I rx ry ⟨_, _, rfl, rfl, ?_, k _ H (New.refl H) (.int _)⟩
      unfold mulOk at hc
      simpa [CMul] using hc
    · cases e
  · split at e
    · rename_i hc
      cases e
      obtain ⟨a, xs, rfl, h1, w1, l1⟩ := rep_lst r1
      cases rep_int r2
      refine op_rep pins s τ H _ _ v u Q I rx ry ⟨a, _, xs, rfl, rfl, h1, by omega, by omega, by rw [← l1.len, ← big_eq]; exact hc.2.2, fun p hp => ?_⟩
      obtain ⟨n, r⟩ := Rep.fresh hs hp (.lst (l1.rep _))
      exact k _ _ n r
    · cases e
  · cases e
theorem op_divD : OpR X (binaryOp .FloorDiv) (rD2 X.K X.mg divD) := by
  intro pins s τ H x y v u Q I rx ry ⟨g, h, dx, dy, d, hs, r1, r2, e, k⟩
  unfold divD at e
  split at e
  · split at e
    · cases e; cases rep_int r1; cases rep_int r2
      exact op_fdiv pins s τ H _ _ v u Q I rx ry ⟨_, _, rfl, rfl, by assumption, k _ H (New.refl H) (.int _)⟩
    · cases e
  · cases e
theorem op_modD : OpR X (binaryOp .Mod) (rD2 X.K X.mg modD) := by
  intro pins s τ H x y v u Q I rx ry ⟨g, h, dx, dy, d, hs, r1, r2, e, k⟩
  unfold modD at e
  split at e
  · split at e
    · cases e; cases rep_int r1; cases rep_int r2
      exact op_mod pins s τ H _ _ v u Q I rx ry ⟨_, _, rfl, rfl, by assumption, k _ H (New.refl H) (.int _)⟩
    · cases e
  · cases e
theorem op_powD : OpR X (binaryOp .Pow) (rD2 X.K X.mg powD) := by
  intro pins s τ H x y v u Q I rx ry ⟨g, h, dx, dy, d, hs, r1, r2, e, k⟩
  unfold powD at e
  split at e
  · split at e
    · rename_i hc
      cases e; cases rep_int r1; cases rep_int r2
      refine op_pow pins s τ H _ _ v u Q I rx ry ⟨_, _, rfl, rfl, ⟨hc.1, by omega, ?_⟩, k _ H (New.refl H) (.int _)⟩
      have := hc.2.2
      omega
    · cases e
  · cases e
/-- -x -/
def negM (m : M D) : M D := bnd m fun d => match d with | .int i => ret (.int (-i)) | _ => no
theorem de_neg {w : WX} {a : Expr} {m : M D} {pos : Pos} (h : DE X w a m) : DE X w (.UnaryOp .USub a pos) (negM m) :=
  PE.imp' (pe_un un_neg h) fun τ H Q h => by
    obtain ⟨g, σ, h0, hs, ss, p⟩ := h
    refine tM.bnd hs ss p fun x σ1 h1 g1 vx H1 hs1 ss1 f1 rx p1 => ?_
    cases rx with
    | int i => exact ⟨i, rfl, p1 g1 _ H1 hs1 ss1 (Fr.refl _ _) (.int _)⟩
    | _ => exact p1.elim

/-! ### == != < <= > >= -/
def pyOk (d : PyData) : Bool := SeqAt.shaped d
def eqO (a b : D) : Option Bool := match toPy a, toPy b with
  | some x, some y => if (pyOk x && pyOk y) = true then some (PyData.eqv x y) else none
  | _, _ => none
def eqD (_ : Hd) (a b : D) : Option Bool := match a, b with
  | .int i, .int j => some (i == j)
  | .str x, .str y => some (x == y)
  | .non, .str _ => some false
  | .str _, .non => some false
  | .non, .int _ => some false
  | .int _, .non => some false
  | .non, .non => some true
  | a, b => eqO a b
def neD (h : Hd) (a b : D) : Option Bool := (eqD h a b).map (!·)
theorem eqO_some {a b : D} {k : Bool} (e : eqO a b = some k) : ∃ x y, toPy a = some x ∧ toPy b = some y ∧ SeqAt.shaped x = true ∧ SeqAt.shaped y = true ∧ k = PyData.eqv x y := by
  unfold eqO at e
  split at e
  · rename_i x y e1 e2
    split at e
    · rename_i hc
      cases e
      rw [Bool.and_eq_true] at hc
      exact ⟨x, y, e1, e2, hc.1, hc.2, rfl⟩
    · cases e
  · cases e
theorem op_eqD' (hu : X.A.units + 64 < cLine) : OpR X (compareOp .Eq) (rDb X.K X.mg eqD) := by
  intro pins s τ H x y v u Q I rx ry ⟨g, h, dx, dy, k, hs, r1, r2, e, q⟩
  unfold eqD at e
  split at e
  · cases e; cases rep_int r1; cases rep_int r2
    exact L2.op_eq pins s τ H _ _ v u Q I rx ry ⟨rfl, by rw [dec_int]; exact q H (New.refl H)⟩
  · cases e; cases rep_str r1; cases rep_str r2
    exact L2.op_eq pins s τ H _ _ v u Q I rx ry ⟨rfl, by rw [dec_str]; exact q H (New.refl H)⟩
  · cases e; cases r1; cases rep_str r2
    exact L2.op_eq pins s τ H _ _ v u Q I rx ry ⟨rfl, q H (New.refl H)⟩
  · cases e; cases rep_str r1; cases r2
    exact L2.op_eq pins s τ H _ _ v u Q I rx ry ⟨rfl, q H (New.refl H)⟩
  · cases e; cases r1; cases rep_int r2
    exact L2.op_eq pins s τ H _ _ v u Q I rx ry ⟨rfl, q H (New.refl H)⟩
  · cases e; cases rep_int r1; cases r2
    exact L2.op_eq pins s τ H _ _ v u Q I rx ry ⟨rfl, q H (New.refl H)⟩
  · cases e; cases r1; cases r2
    exact L2.op_eq pins s τ H _ _ v u Q I rx ry ⟨rfl, q H (New.refl H)⟩
  · obtain ⟨a, b, e1, e2, s1, s2, rfl⟩ := eqO_some e
    exact op_eqD hu pins s τ H _ _ v u Q I rx ry ⟨a, b, dp_of _ _ _ r1 e1, dp_of _ _ _ r2 e2, s1, s2, q H (New.refl H)⟩
theorem op_neD' (hu : X.A.units + 64 < cLine) : OpR X (compareOp .NotEq) (rDb X.K X.mg neD) := by
  intro pins s τ H x y v u Q I rx ry ⟨g, h, dx, dy, k, hs, r1, r2, e, q⟩
  obtain ⟨k', e', rfl⟩ := Option.map_eq_some_iff.mp e
  unfold eqD at e'
  split at e'
  · cases e'; cases rep_int r1; cases rep_int r2
    exact L2.op_ne pins s τ H _ _ v u Q I rx ry ⟨rfl, by rw [dec_int]; exact q H (New.refl H)⟩
  · cases e'; cases rep_str r1; cases rep_str r2
    exact L2.op_ne pins s τ H _ _ v u Q I rx ry ⟨rfl, by rw [dec_str]; exact q H (New.refl H)⟩
  · cases e'; cases r1; cases rep_str r2
    exact L2.op_ne pins s τ H _ _ v u Q I rx ry ⟨rfl, q H (New.refl H)⟩
  · cases e'; cases rep_str r1; cases r2
    exact L2.op_ne pins s τ H _ _ v u Q I rx ry ⟨rfl, q H (New.refl H)⟩
  · cases e'; cases r1; cases rep_int r2
    exact L2.op_ne pins s τ H _ _ v u Q I rx ry ⟨rfl, q H (New.refl H)⟩
  · cases e'; cases rep_int r1; cases r2
    exact L2.op_ne pins s τ H _ _ v u Q I rx ry ⟨rfl, q H (New.refl H)⟩
  · cases e'; cases r1; cases r2
    exact L2.op_ne pins s τ H _ _ v u Q I rx ry ⟨rfl, q H (New.refl H)⟩
  · obtain ⟨a, b, e1, e2, s1, s2, rfl⟩ := eqO_some e'
    exact op_neD hu pins s τ H _ _ v u Q I rx ry ⟨a, b, dp_of _ _ _ r1 e1, dp_of _ _ _ r2 e2, s1, s2, q H (New.refl H)⟩
/-- the order of data of one kind -/
def ordOk (x y : PyData) : Bool := PySem.W.alike x y && (match x with | .none => false | _ => true) && decide (min x.depth y.depth ≤ 64)
def ltD (_ : Hd) (a b : D) : Option Bool := match a, b with
  | .int i, .int j => some (decide (i < j))
  | _, _ => match toPy a, toPy b with
    | some x, some y => if ordOk x y = true then some (PySem.W.dataLt x y) else none
    | _, _ => none
def gtD (h : Hd) (a b : D) : Option Bool := match a, b with
  | .int i, .int j => some (decide (j < i))
  | _, _ => match toPy a, toPy b with
    | some x, some y => if ordOk x y = true then some (PySem.W.dataLt y x) else none
    | _, _ => none
def leD (h : Hd) (a b : D) : Option Bool := match a, b with
  | .int i, .int j => some (decide (i ≤ j))
  | _, _ => match toPy a, toPy b with
    | some x, some y => if ordOk x y = true then some (!PySem.W.dataLt y x) else none
    | _, _ => none
def geD (h : Hd) (a b : D) : Option Bool := match a, b with
  | .int i, .int j => some (decide (j ≤ i))
  | _, _ => match toPy a, toPy b with
    | some x, some y => if ordOk x y = true then some (!PySem.W.dataLt x y) else none
    | _, _ => none
theorem ordOk_of {x y : PyData} (h : ordOk x y = true) : PySem.W.alike x y = true ∧ x ≠ .none ∧ min x.depth y.depth ≤ 64 := by
  unfold ordOk at h
  simp only [Bool.and_eq_true, decide_eq_true_eq] at h
  refine ⟨h.1.1, fun e => ?_, h.2⟩
  rw [e] at h
  exact absurd h.1.2 (by simp)
theorem op_ltD' (hu : X.A.units + 64 < cLine) : OpR X (compareOp .Lt) (rDb X.K X.mg ltD) := by
  intro pins s τ H x y v u Q I rx ry ⟨g, h, dx, dy, k, hs, r1, r2, e, q⟩
  unfold ltD at e
  split at e
  · cases e; cases rep_int r1; cases rep_int r2
    exact op_lt pins s τ H _ _ v u Q I rx ry ⟨_, _, rfl, rfl, q H (New.refl H)⟩
  · split at e
    · rename_i a b e1 e2
      split at e
      · rename_i hc
        cases e
        obtain ⟨c1, c2, c3⟩ := ordOk_of hc
        obtain ⟨as, q1⟩ := Dp.reads I a x v (dp_of _ _ _ r1 e1) rx
        obtain ⟨bs, q2⟩ := Dp.reads I b y u (dp_of _ _ _ r2 e2) ry
        exact PySem.W.lt_data q1 q2 c1 c2 (by omega) ⟨.bl _, H, I, rfl, q H (New.refl H)⟩
      · cases e
    · cases e
theorem op_gtD' (hu : X.A.units + 64 < cLine) : OpR X (compareOp .Gt) (rDb X.K X.mg gtD) := by
  intro pins s τ H x y v u Q I rx ry ⟨g, h, dx, dy, k, hs, r1, r2, e, q⟩
  unfold gtD at e
  split at e
  · cases e; cases rep_int r1; cases rep_int r2
    exact op_gt pins s τ H _ _ v u Q I rx ry ⟨_, _, rfl, rfl, q H (New.refl H)⟩
  · split at e
    · rename_i a b e1 e2
      split at e
      · rename_i hc
        cases e
        obtain ⟨c1, c2, c3⟩ := ordOk_of hc
        obtain ⟨as, q1⟩ := Dp.reads I a x v (dp_of _ _ _ r1 e1) rx
        obtain ⟨bs, q2⟩ := Dp.reads I b y u (dp_of _ _ _ r2 e2) ry
        exact PySem.W.gt_data q1 q2 c1 c2 (by omega) ⟨.bl _, H, I, rfl, q H (New.refl H)⟩
      · cases e
    · cases e
theorem op_leD' (hu : X.A.units + 64 < cLine) : OpR X (compareOp .LtE) (rDb X.K X.mg leD) := by
  intro pins s τ H x y v u Q I rx ry ⟨g, h, dx, dy, k, hs, r1, r2, e, q⟩
  unfold leD at e
  split at e
  · cases e; cases rep_int r1; cases rep_int r2
    exact op_le pins s τ H _ _ v u Q I rx ry ⟨_, _, rfl, rfl, q H (New.refl H)⟩
  · split at e
    · rename_i a b e1 e2
      split at e
      · rename_i hc
        cases e
        obtain ⟨c1, c2, c3⟩ := ordOk_of hc
        obtain ⟨as, q1⟩ := Dp.reads I a x v (dp_of _ _ _ r1 e1) rx
        obtain ⟨bs, q2⟩ := Dp.reads I b y u (dp_of _ _ _ r2 e2) ry
        exact PySem.W.le_data q1 q2 c1 c2 (by omega) ⟨.bl _, H, I, rfl, q H (New.refl H)⟩
      · cases e
    · cases e
theorem op_geD' (hu : X.A.units + 64 < cLine) : OpR X (compareOp .GtE) (rDb X.K X.mg geD) := by
  intro pins s τ H x y v u Q I rx ry ⟨g, h, dx, dy, k, hs, r1, r2, e, q⟩
  unfold geD at e
  split at e
  · cases e; cases rep_int r1; cases rep_int r2
    exact op_ge pins s τ H _ _ v u Q I rx ry ⟨_, _, rfl, rfl, q H (New.refl H)⟩
  · split at e
    · rename_i a b e1 e2
      split at e
      · rename_i hc
        cases e
        obtain ⟨c1, c2, c3⟩ := ordOk_of hc
        obtain ⟨as, q1⟩ := Dp.reads I a x v (dp_of _ _ _ r1 e1) rx
        obtain ⟨bs, q2⟩ := Dp.reads I b y u (dp_of _ _ _ r2 e2) ry
        exact PySem.W.ge_data q1 q2 c1 c2 (by omega) ⟨.bl _, H, I, rfl, q H (New.refl H)⟩
      · cases e
    · cases e
/-- a < b <= c: b asked once -/
def chn (f g : Hd → D → D → Option Bool) (ma mb mc : M D) : M Bool := bnd ma fun x => bnd mb fun y => fun σ h => match f h x y with
  | some true => bnd mc (fun z σ h => opt (g h y z) σ h) σ h
  | some false => .ok false σ h
  | none => .no
theorem dt_chain {w : WX} {a b c : Expr} {pos : Pos} {ma mb mc : M D} {op op' : CmpOp} {f f' : Hd → D → D → Option Bool} (ho : OpR X (compareOp op) (rDb X.K X.mg f)) (ho' : OpR X (compareOp op') (rDb X.K X.mg f')) (ha : DE X w a ma) (hb : DE X w b mb) (hc : DE X w c mc)
    (h1 : lastMarks [op, op'] [b, c] = false := by rfl) : DT X w (.Compare a [op, op'] [b, c] pos) (chn f f' ma mb mc) :=
  PT.imp' (pt_chain ho ho' ha hb hc h1) fun τ H Q h => by
    obtain ⟨g, σ, h0, hs, ss, p⟩ := h
    refine tM.bnd hs ss p fun x σ1 h1 g1 vx H1 hs1 ss1 f1 rx p1 => ?_
    refine tM.bnd hs1 ss1 p1 fun y σ2 h2 g2 vy H2 hs2 ss2 f2 ry p2 => ?_
    cases e : f h2 x y with
    | none => rw [e] at p2; exact p2.elim
    | some k =>
      rw [e] at p2
      refine ⟨g2, h2, x, y, k, hs2, rx.stays f2.stays, ry, e, fun H' n => ⟨k, rfl, ?_⟩⟩
      cases k with
      | false => rw [if_neg Bool.false_ne_true]; exact ⟨false, rfl, p2 g2 _ H' (hs2.new n) (ss2.new n) n.fr rfl⟩
      | true =>
        rw [if_pos rfl]
        refine tM.bnd (hs2.new n) (ss2.new n) (p2.shift n.fr) fun z σ3 h3 g3 vz H3 hs3 ss3 f3 rz p3 => ?_
        cases e' : f' h3 y z with
        | none => rw [e'] at p3; exact p3.elim
        | some k' =>
          rw [e'] at p3
          exact ⟨g3, h3, y, z, k', hs3, (ry.stays n.stays).stays f3.stays, rz, e', fun H' n' => ⟨k', rfl, p3 g3 k' H' (hs3.new n') (ss3.new n') n'.fr rfl⟩⟩
/-- is None, is not None -/
def isN (m : M D) : M Bool := bnd m fun d => ret (match d with | .non => true | _ => false)
theorem dt_isN {w : WX} {a : Expr} {m : M D} {j : Nat} {pos' pos : Pos} (h : DE X w a m) : DT X w (.Compare a [.Is] [.Constant .none j pos'] pos) (isN m) :=
  PT.imp' (pt_cmp (pc_isN h)) fun τ H Q h => by
    obtain ⟨g, σ, h0, hs, ss, p⟩ := h
    refine tM.bnd hs ss p fun x σ1 h1 g1 vx H1 hs1 ss1 f1 rx p1 => ?_
    refine ⟨_, rfl, p1 g1 _ H1 hs1 ss1 (Fr.refl _ _) ?_⟩
    cases rx <;> simp
theorem dt_notN {w : WX} {a : Expr} {m : M D} {j : Nat} {pos' pos : Pos} (h : DE X w a m) : DT X w (.Compare a [.IsNot] [.Constant .none j pos'] pos) (notB (isN m)) :=
  PT.imp' (pt_cmp (pc_notN h)) fun τ H Q h => by
    obtain ⟨g, σ, h0, hs, ss, p⟩ := h
    have p' : Post X.K X.mg (fun _ _ b c => b = c) w Q g H τ (bnd m (fun d => ret (!(match d with | .non => true | _ => false))) σ h0) := by
      have e : notB (isN m) σ h0 = bnd m (fun d => ret (!(match d with | .non => true | _ => false))) σ h0 := by
        unfold notB isN bnd
        cases m σ h0 <;> rfl
      rw [← e]; exact p
    refine tM.bnd hs ss p' fun x σ1 h1 g1 vx H1 hs1 ss1 f1 rx p1 => ?_
    refine ⟨_, rfl, p1 g1 _ H1 hs1 ss1 (Fr.refl _ _) ?_⟩
    cases rx <;> simp
theorem de_isN {w : WX} {a : Expr} {m : M D} {j : Nat} {pos' pos : Pos} (h : DE X w a m) : DE X w (.Compare a [.Is] [.Constant .none j pos'] pos) (blM (isN m)) :=
  PE.imp' (pe_cmp (pc_isN h)) fun τ H Q h => by
    obtain ⟨g, σ, h0, hs, ss, p⟩ := h
    have p' : Post X.K X.mg (Rep X.K) w Q g H τ (bnd m (fun d => ret (.bl (match d with | .non => true | _ => false))) σ h0) := by
      have e : blM (isN m) σ h0 = bnd m (fun d => ret (.bl (match d with | .non => true | _ => false))) σ h0 := by
        unfold blM isN bnd
        cases m σ h0 <;> rfl
      rw [← e]; exact p
    refine tM.bnd hs ss p' fun x σ1 h1 g1 vx H1 hs1 ss1 f1 rx p1 => ?_
    refine p1 g1 _ H1 hs1 ss1 (Fr.refl _ _) ?_
    cases rx <;> exact .bl _
end
end Bw
namespace Bw
open PySem L2

/-! ### dicts as lists of pairs -/
def toKey : D → Option Key
  | .int i => some (.inl i)
  | .str x => some (.inr x)
  | _ => none
def toKeyL : List D → Option (List Key)
  | [] => some []
  | d :: ds => match toKey d, toKeyL ds with
    | some k, some ks => some (k :: ks)
    | _, _ => none
def toKeys : D → Option (List Key)
  | .tup ds => toKeyL ds
  | _ => none
theorem toKey_kD (k : Key) : toKey (kD k) = some k := by cases k <;> rfl
theorem toKey_some {d : D} {k : Key} (h : toKey d = some k) : d = kD k := by
  cases d <;> first | (cases h; rfl) | cases h
theorem toKeyL_map : ∀ ks : List Key, toKeyL (ks.map kD) = some ks
  | [] => rfl
  | k :: ks => by rw [List.map_cons, toKeyL, toKey_kD, toKeyL_map ks]
theorem toKeyL_some : ∀ {ds : List D} {ks : List Key}, toKeyL ds = some ks → ds = ks.map kD
  | [], _, h => by cases h; rfl
  | d :: ds, _, h => by
    rw [toKeyL] at h
    cases e1 : toKey d with
    | none => rw [e1] at h; cases h
    | some k =>
      cases e2 : toKeyL ds with
      | none => rw [e1, e2] at h; cases h
      | some ks => rw [e1, e2] at h; cases h; rw [List.map_cons, ← toKey_some e1, ← toKeyL_some e2]
/-- the key's place: by its own kind -/
def getK (es : List (D × D)) (k : Key) : Option D := (es.find? fun e => decide (toKey e.1 = some k)).map (·.2)
def getT (es : List (D × D)) (k : List Key) : Option D := (es.find? fun e => decide (toKeys e.1 = some k)).map (·.2)
def dget (t : Bool) (es : List (D × D)) (d : D) : Option (Option D) := match t with
  | false => (toKey d).map (getK es)
  | true => (toKeys d).map (getT es)
def putE (p : D → Bool) (es : List (D × D)) (k v : D) : List (D × D) := if (es.any fun e => p e.1) = true then es.map (fun e => if p e.1 = true then (e.1, v) else e) else es ++ [(k, v)]
def dput (t : Bool) (es : List (D × D)) (d v : D) : Option (List (D × D)) := match t with
  | false => (toKey d).map fun k => putE (fun x => decide (toKey x = some k)) es d v
  | true => (toKeys d).map fun k => putE (fun x => decide (toKeys x = some k)) es d v
def ddel (es : List (D × D)) (d : D) : Option (List (D × D)) := (toKey d).map fun k => es.filter fun e => decide (toKey e.1 ≠ some k)
section
variable {K : PySem.W.Frag} {H H' : Hp} {g : G}
theorem RepK.len : ∀ {es : List (D × D)} {kvs : List (Key × V)}, RepK K H g es kvs → es.length = kvs.length
  | _, _, .nil => rfl
  | _, _, .cons _ t => by rw [List.length_cons, List.length_cons, t.len]
theorem RepT.len : ∀ {es : List (D × D)} {kvs : List (List Key × V)}, RepT K H g es kvs → es.length = kvs.length
  | _, _, .nil => rfl
  | _, _, .cons _ t => by rw [List.length_cons, List.length_cons, t.len]
def RelG (K : PySem.W.Frag) (H : Hp) (g : G) : Option D → Option V → Prop
  | some d, some v => Rep K H g d v
  | none, none => True
  | _, _ => False
theorem RepK.val {k : Key} : ∀ {es : List (D × D)} {kvs : List (Key × V)}, RepK K H g es kvs → RelG K H g (getK es k) (valV kvs k)
  | _, _, .nil => trivial
  | _, _, .cons (k := j) (d := d) (v := v) (es := es) (kvs := kvs) r t => by
    by_cases e : j = k
    · subst e
      have h1 : getK ((kD j, d) :: es) j = some d := by simp [getK, List.find?_cons, toKey_kD]
      rw [h1, valV_pos (p := (j, v)) rfl]; exact r
    · have h1 : getK ((kD j, d) :: es) k = getK es k := by simp [getK, List.find?_cons, toKey_kD, e]
      rw [h1, valV_neg (p := (j, v)) e]; exact t.val
theorem RepT.val {k : List Key} : ∀ {es : List (D × D)} {kvs : List (List Key × V)}, RepT K H g es kvs → RelG K H g (getT es k) (valV kvs k)
  | _, _, .nil => trivial
  | _, _, .cons (k := j) (d := d) (v := v) (es := es) (kvs := kvs) r t => by
    by_cases e : j = k
    · subst e
      have h1 : getT ((.tup (j.map kD), d) :: es) j = some d := by simp [getT, List.find?_cons, toKeys, toKeyL_map]
      rw [h1, valV_pos (p := (j, v)) rfl]; exact r
    · have h1 : getT ((.tup (j.map kD), d) :: es) k = getT es k := by simp [getT, List.find?_cons, toKeys, toKeyL_map, e]
      rw [h1, valV_neg (p := (j, v)) e]; exact t.val
theorem RepK.any {k : Key} : ∀ {es : List (D × D)} {kvs : List (Key × V)}, RepK K H g es kvs → (es.any fun e => decide (toKey e.1 = some k)) = (kvs.any fun e => decide (e.1 = k))
  | _, _, .nil => rfl
  | _, _, .cons (k := j) r t => by rw [List.any_cons, List.any_cons, t.any, toKey_kD]; simp
theorem RepT.any {k : List Key} : ∀ {es : List (D × D)} {kvs : List (List Key × V)}, RepT K H g es kvs → (es.any fun e => decide (toKeys e.1 = some k)) = (kvs.any fun e => decide (e.1 = k))
  | _, _, .nil => rfl
  | _, _, .cons (k := j) r t => by
    rw [List.any_cons, List.any_cons, t.any]
    have : toKeys (.tup (j.map kD)) = some j := by rw [toKeys, toKeyL_map]
    rw [this]; simp
theorem RepK.app : ∀ {es fs : List (D × D)} {kvs ls : List (Key × V)}, RepK K H g es kvs → RepK K H g fs ls → RepK K H g (es ++ fs) (kvs ++ ls)
  | _, _, _, _, .nil, s => s
  | _, _, _, _, .cons r t, s => .cons r (RepK.app t s)
theorem RepT.app : ∀ {es fs : List (D × D)} {kvs ls : List (List Key × V)}, RepT K H g es kvs → RepT K H g fs ls → RepT K H g (es ++ fs) (kvs ++ ls)
  | _, _, _, _, .nil, s => s
  | _, _, _, _, .cons r t, s => .cons r (RepT.app t s)
theorem RepK.map {k : Key} {d : D} {v : V} (rd : Rep K H g d v) : ∀ {es : List (D × D)} {kvs : List (Key × V)}, RepK K H g es kvs →
    RepK K H g (es.map fun e => if decide (toKey e.1 = some k) = true then (e.1, d) else e) (kvs.map fun kv => if kv.1 = k then (kv.1, v) else kv)
  | _, _, .nil => .nil
  | _, _, .cons (k := j) r t => by
    rw [List.map_cons, List.map_cons]
    dsimp only
    rw [toKey_kD]
    by_cases e : j = k
    · subst e; simp only [decide_true, if_true]; exact .cons rd (RepK.map rd t)
    · have e' : ¬ (some j = some k) := fun z => e (Option.some.inj z)
      rw [if_neg e, decide_eq_false e', if_neg Bool.false_ne_true]; exact .cons r (RepK.map rd t)
theorem RepT.map {k : List Key} {d : D} {v : V} (rd : Rep K H g d v) : ∀ {es : List (D × D)} {kvs : List (List Key × V)}, RepT K H g es kvs →
    RepT K H g (es.map fun e => if decide (toKeys e.1 = some k) = true then (e.1, d) else e) (kvs.map fun kv => if kv.1 = k then (kv.1, v) else kv)
  | _, _, .nil => .nil
  | _, _, .cons (k := j) r t => by
    rw [List.map_cons, List.map_cons]
    dsimp only
    have ej : toKeys (.tup (j.map kD)) = some j := by rw [toKeys, toKeyL_map]
    rw [ej]
    by_cases e : j = k
    · subst e; simp only [decide_true, if_true]; exact .cons rd (RepT.map rd t)
    · have e' : ¬ (some j = some k) := fun z => e (Option.some.inj z)
      rw [if_neg e, decide_eq_false e', if_neg Bool.false_ne_true]; exact .cons r (RepT.map rd t)
theorem RepK.put {k : Key} {d : D} {v : V} {es : List (D × D)} {kvs : List (Key × V)} (r : RepK K H g es kvs) (rd : Rep K H g d v) : RepK K H g (putE (fun x => decide (toKey x = some k)) es (kD k) d) (putK kvs k v) := by
  unfold putE putK
  rw [r.any]
  split
  · exact r.map rd
  · exact r.app (.cons rd .nil)
theorem RepT.put {k : List Key} {d : D} {v : V} {es : List (D × D)} {kvs : List (List Key × V)} (r : RepT K H g es kvs) (rd : Rep K H g d v) : RepT K H g (putE (fun x => decide (toKeys x = some k)) es (.tup (k.map kD)) d) (putK kvs k v) := by
  unfold putE putK
  rw [r.any]
  split
  · exact r.map rd
  · exact r.app (.cons rd .nil)
theorem RepK.del {k : Key} : ∀ {es : List (D × D)} {kvs : List (Key × V)}, RepK K H g es kvs → RepK K H g (es.filter fun e => decide (toKey e.1 ≠ some k)) (dropK kvs k)
  | _, _, .nil => .nil
  | _, _, .cons (k := j) r t => by
    unfold dropK
    rw [List.filter_cons, List.filter_cons]
    have ej : toKey (kD j) = some j := toKey_kD j
    by_cases e : j = k
    · subst e
      simp only [ej, ne_eq, not_true_eq_false, decide_false, Bool.false_eq_true, if_false]
      exact RepK.del t
    · have e' : ¬ (some j = some k) := fun z => e (Option.some.inj z)
      simp only [ej, ne_eq, e, e', not_false_eq_true, decide_true, if_true]
      exact .cons r (RepK.del t)
end

/-! ### what a list, tuple, text or dict holds -/
/-- a value; or one's own list or dict -/
inductive RepB (K : PySem.W.Frag) (H : Hp) (g : G) : D → V → Prop
  | val {d : D} {v : V} : Rep K H g d v → RepB K H g d v
  | own {d : D} {a : Addr} {u : HO} : g.W a → Rd H a u → CRep K H g d u → RepB K H g d (.ref a)
/-- a cell's list or dict in place of the cell -/
def deref (h : Hd) : D → D
  | .ref i => match h[i]? with
    | some ⟨_, .con d⟩ => d
    | _ => .ref i
  | d => d
def peek (σ : List Sl) (h : Hd) (i : Nat) : Option D := match σ[i]? with
  | some (.v d) => some (deref h d)
  | some (.own d) => some d
  | _ => none
abbrev DB (X : Cx) (w : WX) (e : Expr) (m : M D) : Prop := PE X e (tM X.K X.mg (RepB X.K) w m)
theorem repB_deref {K : PySem.W.Frag} {mg : Str → Option Value} {H : Hp} {g : G} {h : Hd} {d : D} {v : V} (hs : Heaps K mg g h H) (r : Rep K H g d v) : RepB K H g (deref h d) v := by
  cases r with
  | ref hi =>
    rename_i i a
    have go : ∀ o : Option Cell, h[i]? = o → RepB K H g (match o with | some ⟨_, .con d⟩ => d | _ => .ref i) (.ref a) := by
      rintro (_ | ⟨lk, _ | d0⟩) hc
      · exact .val (.ref hi)
      · exact .val (.ref hi)
      · obtain ⟨u, ru, k1, k2⟩ := hs.cell i _ a hc hi
        cases ru with
        | con rc =>
          refine .own (.inl (List.mem_of_getElem? hi)) ?_ rc
          cases lk with
          | false => exact .inl (k1 rfl)
          | true => exact .inr (k2 rfl)
    exact go _ rfl
  | non => exact .val .non
  | bl b => exact .val (.bl b)
  | int i => exact .val (.int i)
  | str x => exact .val (.str x)
  | tup h r => exact .val (.tup h r)
  | lst h w r => exact .val (.lst h w r)
  | dic h w r => exact .val (.dic h w r)
  | scr h r => exact .val (.scr h r)
  | kt h r => exact .val (.kt h r)
section
variable {X : Cx} {w : WX} {e a b : Expr} {m ma mb : M D} {pos : Pos}
def drf (m : M D) : M D := bnd m fun d => fun σ h => .ok (deref h d) σ h
theorem db_of (he : DE X w e m) : DB X w e (drf m) := PE.imp' he fun τ H Q h => by
  obtain ⟨g, σ, h0, hs, ss, p⟩ := h
  refine tM.bnd hs ss p fun x σ1 h1 g1 vx H1 hs1 ss1 f1 rx p1 => ?_
  exact p1 g1 _ H1 hs1 ss1 (Fr.refl _ _) (repB_deref hs1 rx)
theorem Slots.peek {K : PySem.W.Frag} {mg : Str → Option Value} {g : G} {σ : List Sl} {τ : St} {H : Hp} {h : Hd} {i : Nat} {d : D} (hs : Heaps K mg g h H) (ss : Slots K g σ τ H) (e : Bw.peek σ h i = some d) : ∃ v, τ[i]? = some (some v) ∧ RepB K H g d v := by
  unfold Bw.peek at e
  cases es : σ[i]? with
  | none => rw [es] at e; cases e
  | some s =>
    have il : i < τ.length := by rw [← ss.len]; exact (List.getElem?_eq_some_iff.mp es).1
    have et : τ[i]? = some τ[i] := List.getElem?_eq_getElem il
    have q := ss.rep i s _ es et
    rw [es] at e
    cases s with
    | un => cases e
    | v d0 => cases e; obtain ⟨v, ev, r⟩ := q; exact ⟨v, by rw [et, ev], repB_deref hs r⟩
    | own d0 => cases e; obtain ⟨a, u, ev, o, l, r⟩ := q; exact ⟨.ref a, by rw [et, ev], .own (.inr (.inl o)) (.inl l) r⟩
def pk (i : Nat) : M D := fun σ h => opt (peek σ h i) σ h
theorem db_nm (i : Nat) {x : Str} (hN : X.N[i]? = some x := by rfl) (hv : Vis X.env.scope x := by first | exact Or.inl rfl | exact Or.inr (Or.inl rfl) | exact Or.inr (Or.inr rfl)) (hd : (x == ("__debug__" : Str)) = false := by decide)
    (hcd : (x == ("__classdict__" : Str)) = false := by decide) : DB X w (.Name x pos) (pk i) := PE.imp' (pe_var hN hv hd hcd) fun τ H Q h => by
  obtain ⟨g, σ, h0, hs, ss, p⟩ := h
  unfold pk at p
  cases e : peek σ h0 i with
  | none => rw [e] at p; exact p.elim
  | some d =>
    rw [e] at p
    obtain ⟨v, et, r⟩ := ss.peek hs e
    exact ⟨v, et, p g v H hs ss (Fr.refl _ _) r⟩

/-! ### built-in functions of one thing -/
def rB1 (K : PySem.W.Frag) (mg : Str → Option Value) (f : D → Option D) : List V → Hp → VK → Prop := fun xs H Q =>
  ∃ g h x dx d, xs = [x] ∧ Heaps K mg g h H ∧ RepB K H g dx x ∧ f dx = some d ∧ ∀ v H', New H H' → Rep K H' g d v → Q v H'
def un1 (f : D → Option D) (m : M D) : M D := bnd m fun d => opt (f d)
theorem da_one (he : DB X w e m) (hst : starEach [e] X.env = (false, eval e X.env) :: starEach [] X.env := by rfl) : PA X [e] (tCons (tM X.K X.mg (RepB X.K) w m) tNil) := pa_cons he pa_nil hst
theorem de_call1 {x : Str} {id : String} {f : D → Option D} {p : Pos} (hc : CallR X (.builtin id) (rB1 X.K X.mg f)) (hg : Gl X x) (hm : X.mg x = none) (hv : bootBuiltins x = some (.builtin id)) (he : DB X w e m)
    (hn : x ≠ "__name__" := by decide) (hdb : (x == ("__debug__" : Str)) = false := by decide) (hst : starEach [e] X.env = (false, eval e X.env) :: starEach [] X.env := by rfl) : DE X w (.Call (.Name x p) [e] [] pos) (un1 f m) :=
  PE.imp' (pe_callB hc hg hm hv (da_one he hst) hn hdb (he := hst)) fun τ H Q h => by
    obtain ⟨g, σ, h0, hs, ss, p⟩ := h
    refine tM.bnd hs ss p fun x σ1 h1 g1 vx H1 hs1 ss1 f1 rx p1 => ?_
    cases e : f x with
    | none => rw [e] at p1; exact p1.elim
    | some d =>
      rw [e] at p1
      exact ⟨g1, h1, vx, x, d, rfl, hs1, rx, e, fun v H' n r => p1 g1 v H' (hs1.new n) (ss1.new n) n.fr r⟩
theorem de_callT1 {x : Str} {T : String} {f : D → Option D} {p : Pos} (hc : CallR X (.type T) (rB1 X.K X.mg f)) (hg : Gl X x) (hm : X.mg x = none) (hv : bootBuiltins x = some (.type T)) (he : DB X w e m)
    (hn : x ≠ "__name__" := by decide) (hdb : (x == ("__debug__" : Str)) = false := by decide) (hst : starEach [e] X.env = (false, eval e X.env) :: starEach [] X.env := by rfl) : DE X w (.Call (.Name x p) [e] [] pos) (un1 f m) :=
  PE.imp' (pe_callTy hc hg hm hv (da_one he hst) hn hdb (he := hst)) fun τ H Q h => by
    obtain ⟨g, σ, h0, hs, ss, p⟩ := h
    refine tM.bnd hs ss p fun x σ1 h1 g1 vx H1 hs1 ss1 f1 rx p1 => ?_
    cases e : f x with
    | none => rw [e] at p1; exact p1.elim
    | some d =>
      rw [e] at p1
      exact ⟨g1, h1, vx, x, d, rfl, hs1, rx, e, fun v H' n r => p1 g1 v H' (hs1.new n) (ss1.new n) n.fr r⟩
/-- .. that give a new list or dict -/
def rB1F (K : PySem.W.Frag) (mg : Str → Option Value) (f : D → Option D) : List V → Hp → VK → Prop := fun xs H Q =>
  ∃ g h x dx d, xs = [x] ∧ Heaps K mg g h H ∧ RepB K H g dx x ∧ f dx = some d ∧ ∀ H1 p u, New H H1 → H1 p = none → CRep K H1 g d u → Q (.ref p) (upd H1 p u)
theorem df_call1 {x : Str} {id : String} {f : D → Option D} {p : Pos} (hc : CallR X (.builtin id) (rB1F X.K X.mg f)) (hg : Gl X x) (hm : X.mg x = none) (hv : bootBuiltins x = some (.builtin id)) (he : DB X w e m)
    (hn : x ≠ "__name__" := by decide) (hdb : (x == ("__debug__" : Str)) = false := by decide) (hst : starEach [e] X.env = (false, eval e X.env) :: starEach [] X.env := by rfl) : DF X w (.Call (.Name x p) [e] [] pos) (un1 f m) :=
  PE.imp' (pe_callB hc hg hm hv (da_one he hst) hn hdb (he := hst)) fun τ H Q h => by
    obtain ⟨g, σ, h0, hs, ss, p⟩ := h
    refine tM.bndF hs ss p fun x σ1 h1 g1 vx H1 hs1 ss1 f1 rx p1 => ?_
    cases e : f x with
    | none => rw [e] at p1; exact p1.elim
    | some d =>
      rw [e] at p1
      exact ⟨g1, h1, vx, x, d, rfl, hs1, rx, e, fun H' q u n hq r => p1 g1 H' q u (hs1.new n) (ss1.new n) n.fr hq r⟩
theorem df_callT1 {x : Str} {T : String} {f : D → Option D} {p : Pos} (hc : CallR X (.type T) (rB1F X.K X.mg f)) (hg : Gl X x) (hm : X.mg x = none) (hv : bootBuiltins x = some (.type T)) (he : DB X w e m)
    (hn : x ≠ "__name__" := by decide) (hdb : (x == ("__debug__" : Str)) = false := by decide) (hst : starEach [e] X.env = (false, eval e X.env) :: starEach [] X.env := by rfl) : DF X w (.Call (.Name x p) [e] [] pos) (un1 f m) :=
  PE.imp' (pe_callTy hc hg hm hv (da_one he hst) hn hdb (he := hst)) fun τ H Q h => by
    obtain ⟨g, σ, h0, hs, ss, p⟩ := h
    refine tM.bndF hs ss p fun x σ1 h1 g1 vx H1 hs1 ss1 f1 rx p1 => ?_
    cases e : f x with
    | none => rw [e] at p1; exact p1.elim
    | some d =>
      rw [e] at p1
      exact ⟨g1, h1, vx, x, d, rfl, hs1, rx, e, fun H' q u n hq r => p1 g1 H' q u (hs1.new n) (ss1.new n) n.fr hq r⟩

/-- what may be read item by item -/
def itemsD : D → Option (List D)
  | .lst ds => some ds
  | .tup ds => some ds
  | .scr ds => some ds
  | .kt ds => some ds
  | _ => none
theorem seq_of {K : PySem.W.Frag} {H : Hp} {g : G} {d : D} {ds : List D} {v : V} (e : itemsD d = some ds) (r : RepB K H g d v) : ∃ p vs, v = .ref p ∧ (SqL K H p vs ∨ SqT K H p vs) ∧ RepL K H g ds vs := by
  cases r with
  | val r =>
    cases r with
    | tup h r => cases e; exact ⟨_, _, rfl, .inr (SqT.of h), r⟩
    | lst h w r => cases e; exact ⟨_, _, rfl, .inl (SqL.of h), r⟩
    | scr h r =>
      cases e
      refine ⟨_, _, rfl, .inl ?_, r⟩
      rcases h with h | h
      · exact .inl h.1
      · rcases h with h | h
        · rcases h with h | ⟨_, h⟩ <;> cases h
        · exact .inr h
    | kt h r => cases e; exact ⟨_, _, rfl, .inr h.sq, r⟩
    | _ => cases e
  | own w h r =>
    cases r with
    | lst r => cases e; exact ⟨_, _, rfl, .inl (.inl h), r⟩
    | _ => cases e
/-- len -/
def lenD : D → Option D
  | .str x => if x.length ≤ big then some (.int x.length) else none
  | .dic false es => some (.int es.length)
  | d => (itemsD d).map fun ds => .int ds.length
theorem dic_rd {K : PySem.W.Frag} {H : Hp} {g : G} {t : Bool} {es : List (D × D)} {v : V} (r : RepB K H g (.dic t es) v) : ∃ p u, v = .ref p ∧ Rd H p u ∧ CRep K H g (.dic t es) u := by
  cases r with
  | val r => cases r with | dic h w c => exact ⟨_, _, rfl, h, c⟩
  | own w h c => exact ⟨_, _, rfl, h, c⟩
theorem call_lenB : CallR X (.builtin "len") (rB1 X.K X.mg lenD) := by
  intro pins s τ H xs us Q I r ⟨g, h, x, dx, d, ex, hs, rx, e, k⟩
  subst ex
  unfold lenD at e
  split at e
  · split at e
    · rename_i z hl
      cases e
      cases rx with
      | val rx => cases rx; exact call_len_str pins s τ H _ us Q I r ⟨z, rfl, by rw [← big_eq]; exact hl, k _ H (New.refl H) (.int _)⟩
      | own w h c => cases c
    · cases e
  · cases e
    obtain ⟨p, u, rfl, hr, c⟩ := dic_rd rx
    cases c with
    | dicK rk =>
      have eu := Vals.ref1 r
      subst eu
      refine d_len I hr fun t s' I' => ?_
      exact ⟨.int _, H, I', ⟨t, rfl⟩, by rw [← rk.len]; exact k _ H (New.refl H) (.int _)⟩
  · obtain ⟨ds, e1, e2⟩ := Option.map_eq_some_iff.mp e
    subst e2
    obtain ⟨p, vs, rfl, hq, rl⟩ := seq_of e1 rx
    exact call_len_seq pins s τ H _ us Q I r ⟨p, vs, rfl, hq, by rw [← rl.len]; exact k _ H (New.refl H) (.int _)⟩
/-- list(x), tuple(x), dict(x) -/
def listD (d : D) : Option D := (itemsD d).map .lst
theorem call_listB : CallR X (.type "list") (rB1F X.K X.mg listD) := by
  intro pins s τ H xs us Q I r ⟨g, h, x, dx, d, ex, hs, rx, e, k⟩
  subst ex
  obtain ⟨ds, e1, e2⟩ := Option.map_eq_some_iff.mp e
  subst e2
  obtain ⟨p, vs, rfl, hq, rl⟩ := seq_of e1 rx
  exact call_list_of pins s τ H _ us Q I r ⟨p, vs, rfl, hq, fun l hl => k H l _ (New.refl H) hl (.lst rl)⟩
def tupleD (d : D) : Option D := match d with
  | .tup ds => some (.tup ds)
  | .kt ds => some (.kt ds)
  | d => (itemsD d).map .kt
theorem call_tupleB : CallR X (.type "tuple") (rB1 X.K X.mg tupleD) := by
  intro pins s τ H xs us Q I r ⟨g, h, x, dx, d, ex, hs, rx, e, k⟩
  subst ex
  have fin : ∀ {ds : List D} {p vs}, (∀ v H', New H H' → Rep X.K H' g (.kt ds) v → Q v H') → SqL X.K H p vs → RepL X.K H g ds vs → x = .ref p → wpAny (model X.prog X.w) X.A (call (.type "tuple") us) (EP X pins τ Q) X.xe s := fun {ds p vs} kk hq rl ex => by
    subst ex
    obtain ⟨u, rfl, rv⟩ := vals1 r
    cases rv
    obtain ⟨its, r', pl, hz⟩ := I.list hq
    have hlen := r'.length
    refine call_tuple_list pl.isList (fun h' kp => ?_) (by simp only [List.size_toArray] <;> omega)
    have I1 : L2.Inv X pins τ H { s with heap := h' } := I.kept (t' := s.toks) kp
    have hn : H h'.objs.size = none := I1.hok.fresh (Nat.le_refl _)
    have I2 : L2.Inv X pins τ (upd H h'.objs.size (.frz { cls := .type "tuple", data := .seq its.toArray } (.tup vs))) { s with heap := h'.push { cls := .type "tuple", data := .seq its.toArray } } :=
      I1.laid (t' := s.toks) (fun b o e => Heap.get?_push_of_some _ e) (Nat.le_refl _) (show ObjOk X.prog X.w _ _ _ (.frz _ (.tup vs)) from ⟨Heap.get?_push_size _ rfl, hz, its, r', PyProof.Rows.IsTup.new _ _⟩)
    have n : New H (upd H h'.objs.size (.frz { cls := .type "tuple", data := .seq its.toArray } (.tup vs))) := New.upd hn
    exact ⟨.ref h'.objs.size, _, I2, rfl, kk _ _ n (.kt (.inl ⟨_, upd_same, rfl, rfl⟩) (rl.stays n.stays))⟩
  cases rx with
  | val rx =>
    cases rx with
    | tup h0 rl => cases e; exact call_tuple_of pins s τ H _ us Q I r ⟨_, _, rfl, .inr ⟨SqT.of h0, k _ H (New.refl H) (.tup h0 rl)⟩⟩
    | kt h0 rl => cases e; exact call_tuple_of pins s τ H _ us Q I r ⟨_, _, rfl, .inr ⟨h0.sq, k _ H (New.refl H) (.kt h0 rl)⟩⟩
    | lst h0 w0 rl => cases e; exact fin k (SqL.of h0) rl rfl
    | scr h0 rl =>
      cases e
      refine fin k ?_ rl rfl
      rcases h0 with h0 | h0
      · exact .inl h0.1
      · rcases h0 with h0 | h0
        · rcases h0 with h0 | ⟨_, h0⟩ <;> cases h0
        · exact .inr h0
    | _ => cases e
  | own w0 h0 c =>
    cases c with
    | lst rl => cases e; exact fin k (.inl h0) rl rfl
    | _ => cases e
def dictD : D → Option D
  | .dic false es => some (.dic false es)
  | _ => none
theorem call_dictB : CallR X (.type "dict") (rB1F X.K X.mg dictD) := by
  intro pins s τ H xs us Q I r ⟨g, h, x, dx, d, ex, hs, rx, e, k⟩
  subst ex
  unfold dictD at e
  split at e
  · cases e
    obtain ⟨p, u, rfl, hr, c⟩ := dic_rd rx
    cases c with
    | dicK rk =>
      have eu := Vals.ref1 r
      subst eu
      exact d_copyOf I hr fun q s' hq I' => ⟨.ref q, _, I', rfl, k H q _ (New.refl H) hq (.dicK rk)⟩
  · cases e
/-- int(x) of an int or a bool, str(n) -/
def intD : D → Option D
  | .int i => some (.int i)
  | .bl b => some (.int (if b then 1 else 0))
  | _ => none
theorem call_intB : CallR X (.type "int") (rB1 X.K X.mg intD) := by
  intro pins s τ H xs us Q I r ⟨g, h, x, dx, d, ex, hs, rx, e, k⟩
  subst ex
  unfold intD at e
  split at e
  · cases e
    cases rx with
    | val rx => cases rx; exact call_int1 pins s τ H _ us Q I r (.inl ⟨_, rfl, k _ H (New.refl H) (.int _)⟩)
    | own _ _ c => cases c
  · cases e
    cases rx with
    | val rx => cases rx; exact call_int1 pins s τ H _ us Q I r (.inr ⟨_, rfl, k _ H (New.refl H) (.int _)⟩)
    | own _ _ c => cases c
  · cases e
def strD : D → Option D
  | .int i => if i.natAbs.log2 < 1920 then some (.str (toString i)) else none
  | _ => none
theorem call_strB : CallR X (.type "str") (rB1 X.K X.mg strD) := by
  intro pins s τ H xs us Q I r ⟨g, h, x, dx, d, ex, hs, rx, e, k⟩
  subst ex
  unfold strD at e
  split at e
  · split at e
    · cases e
      cases rx with
      | val rx => cases rx; exact call_str_int pins s τ H _ us Q I r ⟨_, rfl, by assumption, k _ H (New.refl H) (.str _)⟩
      | own _ _ c => cases c
    · cases e
  · cases e
/-- all, any of a list of bools -/
def blsD : List D → Option (List Bool)
  | [] => some []
  | .bl b :: ds => (blsD ds).map (b :: ·)
  | _ => none
theorem bls_of {K : PySem.W.Frag} {H : Hp} {g : G} : ∀ {ds : List D} {vs : List V} {bs : List Bool}, RepL K H g ds vs → blsD ds = some bs → vs = bs.map V.bl
  | _, _, _, .nil, e => by cases e; rfl
  | _, _, _, .cons (d := d) r t, e => by
    cases r with
    | bl b =>
      obtain ⟨bs, e1, rfl⟩ := Option.map_eq_some_iff.mp (show (blsD _).map (b :: ·) = some _ from e)
      rw [List.map_cons, bls_of t e1]
    | _ => cases e
def lstItems : D → Option (List D)
  | .lst ds => some ds
  | _ => none
theorem lst_of {K : PySem.W.Frag} {H : Hp} {g : G} {d : D} {ds : List D} {v : V} (e : lstItems d = some ds) (r : RepB K H g d v) : ∃ p vs, v = .ref p ∧ SqL K H p vs ∧ RepL K H g ds vs := by
  cases r with
  | val r => cases r with
    | lst h w r => cases e; exact ⟨_, _, rfl, SqL.of h, r⟩
    | _ => cases e
  | own w h r => cases r with
    | lst r => cases e; exact ⟨_, _, rfl, .inl h, r⟩
    | _ => cases e
def allD (d : D) : Option D := (lstItems d).bind fun ds => (blsD ds).map fun bs => .bl (bs.all id)
def anyD (d : D) : Option D := (lstItems d).bind fun ds => (blsD ds).map fun bs => .bl (bs.any id)
theorem call_allB (hc : X.calm = true) : CallR X (.builtin "all") (rB1 X.K X.mg allD) := by
  intro pins s τ H xs us Q I r ⟨g, h, x, dx, d, ex, hs, rx, e, k⟩
  subst ex
  obtain ⟨ds, e1, e2⟩ := Option.bind_eq_some_iff.mp e
  obtain ⟨bs, e3, rfl⟩ := Option.map_eq_some_iff.mp e2
  obtain ⟨p, vs, rfl, hq, rl⟩ := lst_of e1 rx
  exact cr_all hc pins s τ H _ us Q I r ⟨p, bs, rfl, by rw [← bls_of rl e3]; exact hq, k _ H (New.refl H) (.bl _)⟩
theorem call_anyB (hc : X.calm = true) : CallR X (.builtin "any") (rB1 X.K X.mg anyD) := by
  intro pins s τ H xs us Q I r ⟨g, h, x, dx, d, ex, hs, rx, e, k⟩
  subst ex
  obtain ⟨ds, e1, e2⟩ := Option.bind_eq_some_iff.mp e
  obtain ⟨bs, e3, rfl⟩ := Option.map_eq_some_iff.mp e2
  obtain ⟨p, vs, rfl, hq, rl⟩ := lst_of e1 rx
  exact cr_any hc pins s τ H _ us Q I r ⟨p, bs, rfl, by rw [← bls_of rl e3]; exact hq, k _ H (New.refl H) (.bl _)⟩
/-- sum of a list of ints -/
def intsD : List D → Option (List Int)
  | [] => some []
  | .int b :: ds => (intsD ds).map (b :: ·)
  | _ => none
theorem ints_of {K : PySem.W.Frag} {H : Hp} {g : G} : ∀ {ds : List D} {vs : List V} {bs : List Int}, RepL K H g ds vs → intsD ds = some bs → vs = bs.map V.int
  | _, _, _, .nil, e => by cases e; rfl
  | _, _, _, .cons (d := d) r t, e => by
    cases r with
    | int b =>
      obtain ⟨bs, e1, rfl⟩ := Option.map_eq_some_iff.mp (show (intsD _).map (b :: ·) = some _ from e)
      rw [List.map_cons, ints_of t e1]
    | _ => cases e
def sumD (d : D) : Option D := (lstItems d).bind fun ds => (intsD ds).map fun bs => .int bs.sum
theorem call_sumB (hc : X.calm = true) : CallR X (.builtin "sum") (rB1 X.K X.mg sumD) := by
  intro pins s τ H xs us Q I r ⟨g, h, x, dx, d, ex, hs, rx, e, k⟩
  subst ex
  obtain ⟨ds, e1, e2⟩ := Option.bind_eq_some_iff.mp e
  obtain ⟨bs, e3, rfl⟩ := Option.map_eq_some_iff.mp e2
  obtain ⟨p, vs, rfl, hq, rl⟩ := lst_of e1 rx
  exact cr_sum hc pins s τ H _ us Q I r ⟨p, bs, rfl, by rw [← ints_of rl e3]; exact hq, k _ H (New.refl H) (.int _)⟩
end
end Bw
namespace Bw
open PySem L2 PySem.Spec PyProof.Rows

/-! ### sorted(x) -/
def enc (d : D) : PyData := (toPy d).getD .none
def alikeB (ps : List PyData) : Bool := ps.all fun x => ps.all fun y => PySem.W.alike x y
def isT1 : PyData → Bool
  | .tuple (_ :: _) => true
  | _ => false
def isT0 : PyData → Bool
  | .none => false
  | .tuple _ => false
  | _ => true
/-- by insertion: what is equal stays in its order -/
def insL {α : Type} (le : α → α → Bool) (a : α) : List α → List α
  | [] => [a]
  | b :: l => if le a b = true then a :: b :: l else b :: insL le a l
def isort {α : Type} (le : α → α → Bool) : List α → List α
  | [] => []
  | a :: l => insL le a (isort le l)
theorem insL_at {α : Type} {le : α → α → Bool} {a : α} : ∀ {l1 l2 : List α}, (∀ b ∈ l1, (!le a b) = true) → (∀ b ∈ l2.head?, le a b = true) → insL le a (l1 ++ l2) = l1 ++ a :: l2
  | [], [], _, _ => rfl
  | [], b :: l2, _, h => by
    show (if le a b = true then a :: b :: l2 else _) = _
    rw [if_pos (h b rfl)]; rfl
  | b :: l1, l2, h, h2 => by
    show (if le a b = true then a :: b :: (l1 ++ l2) else b :: insL le a (l1 ++ l2)) = _
    have hb := h b List.mem_cons_self
    rw [Bool.not_eq_true'] at hb
    rw [hb, if_neg Bool.false_ne_true, insL_at (fun c hc => h c (List.mem_cons_of_mem _ hc)) h2]
    rfl
theorem isort_eq {α : Type} {le : α → α → Bool} (tr : ∀ a b c, le a b = true → le b c = true → le a c = true) (to : ∀ a b, (le a b || le b a) = true) : ∀ l : List α, isort le l = l.mergeSort le
  | [] => by rw [List.mergeSort_nil]; rfl
  | a :: l => by
    obtain ⟨l1, l2, h1, h2, h3⟩ := List.mergeSort_cons tr to a l
    show insL le a (isort le l) = _
    rw [isort_eq tr to l, h2, h1]
    refine insL_at h3 fun b hb => ?_
    have hs := List.pairwise_mergeSort tr to (a :: l)
    rw [h1] at hs
    have hs := (List.pairwise_append.mp hs).2.1
    cases l2 with
    | nil => cases hb
    | cons c l3 =>
      have e : c = b := Option.some.inj hb
      rw [← e]
      exact (List.pairwise_cons.mp hs).1 c List.mem_cons_self
theorem le_tr (a b c : D) (h1 : PySem.W.dataLe false enc a b = true) (h2 : PySem.W.dataLe false enc b c = true) : PySem.W.dataLe false enc a c = true := by
  rw [PySem.W.dataLe_eq] at *
  simp only [cond_false, Bool.not_eq_true'] at *
  cases h : PySem.W.dataLt (enc c) (enc a) with
  | false => rfl
  | true =>
    rcases PyProof.Rows.lex_negTrans _ (PySem.W.keyToks (enc b)) _ h with z | z
    · rw [show PySem.W.dataLt (enc c) (enc b) = true from z] at h2; cases h2
    · rw [show PySem.W.dataLt (enc b) (enc a) = true from z] at h1; cases h1
theorem le_to (a b : D) : (PySem.W.dataLe false enc a b || PySem.W.dataLe false enc b a) = true := by
  rw [PySem.W.dataLe_eq]
  simp only [cond_false]
  cases h : PySem.W.dataLt (enc b) (enc a) with
  | false => rfl
  | true =>
    cases h2 : PySem.W.dataLt (enc a) (enc b) with
    | false => rfl
    | true =>
      have := PyProof.Rows.lex_trans _ _ _ h h2
      rw [PyProof.Rows.lex_irrefl] at this
      cases this
def sortL (ds : List D) : List D := isort (PySem.W.dataLe false enc) ds
theorem sortL_eq (ds : List D) : sortL ds = ds.mergeSort (PySem.W.dataLe false enc) := isort_eq le_tr le_to ds
def sortD (ds : List D) : Option (List D) := match toPys ds with
  | some ps => if (alikeB ps && (ps.all isT1 || ps.all isT0) && ps.all (fun p => decide (p.depth ≤ 60)) && decide (ds.length ≤ big)) = true then some (sortL ds) else none
  | none => none
theorem toPys_map : ∀ {ds : List D} {ps : List PyData}, toPys ds = some ps → ps = ds.map enc
  | [], _, e => by cases e; rfl
  | d :: ds, _, e => by
    obtain ⟨x, xs, e1, e2, rfl⟩ := toPys_cons e
    rw [List.map_cons, ← toPys_map e2]
    unfold enc
    rw [e1]; rfl
theorem toPys_mem : ∀ {ds : List D} {ps : List PyData}, toPys ds = some ps → ∀ d ∈ ds, toPy d = some (enc d)
  | [], _, _, _, h => absurd h (by simp)
  | d :: ds, _, e, d', h => by
    obtain ⟨x, xs, e1, e2, rfl⟩ := toPys_cons e
    rcases List.mem_cons.mp h with rfl | h
    · unfold enc; rw [e1]; rfl
    · exact toPys_mem e2 d' h
structure SortOk (ds : List D) (es : List D) : Prop where
  py : ∀ d ∈ ds, toPy d = some (enc d)
  al : PySem.W.AllAlike (ds.map enc)
  so : PySem.W.Sortable (ds.map enc)
  de : ∀ d ∈ ds, (enc d).depth ≤ 60
  len : ds.length ≤ sizeLine
  eq : es = ds.mergeSort (PySem.W.dataLe false enc)
theorem sortOk_of {ds es : List D} (e : sortD ds = some es) : SortOk ds es := by
  unfold sortD at e
  split at e
  · rename_i ps hp
    split at e
    · rename_i hc
      cases e
      simp only [Bool.and_eq_true, Bool.or_eq_true, List.all_eq_true, decide_eq_true_eq, alikeB] at hc
      obtain ⟨⟨⟨h1, h2⟩, h3⟩, h4⟩ := hc
      have hm := toPys_map hp
      subst hm
      refine ⟨toPys_mem hp, h1, ?_, fun d hd => h3 _ (List.mem_map.mpr ⟨d, hd, rfl⟩), by rw [← big_eq]; exact h4, sortL_eq ds⟩
      rcases h2 with h2 | h2
      · refine .inl fun d hd => ?_
        have := h2 d hd
        unfold isT1 at this
        split at this
        · exact ⟨_, _, rfl⟩
        · cases this
      · refine .inr (fun d hd => ?_)
        have := h2 d hd
        exact ⟨fun z => by (rw [z] at this; cases this), fun xs z => by (rw [z] at this; cases this)⟩
    · cases e
  · cases e
section
variable {X : Cx} {pins : List (Addr × Obj)} {τ : L2.St} {H : Hp} {s : Shared}
theorem each_of {g : G} : ∀ {ds : List D} {vs : List V} {us : List Value}, RepL X.K H g ds vs → Vals vs us → PySem.W.EachIs (fun u d => ∃ x, RelV x u ∧ Rep X.K H g d x) us ds
  | _, _, _, .nil, .nil => .nil
  | _, _, _, .cons r t, .cons q u => .cons ⟨_, q, r⟩ (each_of t u)
theorem of_each {g : G} : ∀ {ds : List D} {us : List Value}, PySem.W.EachIs (fun u d => ∃ x, RelV x u ∧ Rep X.K H g d x) us ds → ∃ vs, Vals vs us ∧ RepL X.K H g ds vs
  | _, _, .nil => ⟨[], .nil, .nil⟩
  | _, _, .cons ⟨x, q, r⟩ t => by
    obtain ⟨vs, h1, h2⟩ := of_each t
    exact ⟨x :: vs, .cons q h1, .cons r h2⟩
theorem each_reads {g : G} (I : L2.Inv X pins τ H s) {h' : Heap} (hk : ∀ b o, s.heap.get? b = some o → h'.get? b = some o) : ∀ {ds : List D} {us : List Value}, (∀ d ∈ ds, toPy d = some (enc d)) → PySem.W.EachIs (fun u d => ∃ x, RelV x u ∧ Rep X.K H g d x) us ds →
    PySem.W.EachIs (fun v b => ∃ as, Reads h' v (enc b) as) us ds
  | _, _, _, .nil => .nil
  | d :: ds, _, hp, .cons ⟨x, q, r⟩ t => by
    refine .cons ?_ (each_reads I hk (fun e he => hp e (List.mem_cons_of_mem _ he)) t)
    obtain ⟨as, hr⟩ := Dp.reads I (enc d) x _ (dp_of d x _ r (hp d List.mem_cons_self)) q
    exact ⟨as, PyProof.Rows.Reads.keeps hk hr⟩
/-- sorted of what can be gathered, in whatever order -/
theorem sorted_gen (I : L2.Inv X pins τ H s) (hr : X.A.units + 64 < cLine) {g : G} {es : List D} {v : Value} {Q : VK}
    (hcol : ∀ (R : List Value → Shared → Prop) (E : Value → Shared → Prop), (∀ s' H' us vs ds, New H H' → L2.Inv X pins τ H' s' → Vals vs us → RepL X.K H' g ds vs → sortD ds = some es → R us s') → wpAny (model X.prog X.w) X.A.in1 (collect v) R E s)
    (k : ∀ H' p ws, New H H' → H' p = none → RepL X.K H' g es ws → Q (.ref p) (upd H' p (.lst ws))) : wpAny (model X.prog X.w) X.A (call (.builtin "sorted") [v]) (EP X pins τ Q) X.xe s := by
  refine Calls.call_function_entry PyProof.Rows.kind_sorted PyProof.Rows.plain_sorted PyProof.Rows.entry_sorted (PyProof.Rows.args_sorted1 _) ?_
  unfold Builtin.«sorted»
  refine wpAny_bind (m := checkCount "sorted" 1 1 _) (wpAny_pure ?_)
  refine wpAny_bind (hcol _ _ fun s' H' us vs ds nw I1 rv rl e => ?_)
  obtain ⟨h', gs, dw, tk, os⟩ := s'
  have so := sortOk_of e
  have hlen : us.length = ds.length := by rw [← rv.length, ← rl.len]
  have hz : us.length ≤ sizeLine := by rw [hlen]; exact so.len
  refine wpAny_bind (wpAny_newList ?_ hz)
  have hoL : (h'.push (seqObj "list" us.toArray 0)).get? h'.objs.size = some (seqObj "list" us.toArray 0) := Heap.get?_push_size _ rfl
  show wpAny _ _ _ _ _ ⟨h'.push (seqObj "list" us.toArray 0), gs, dw, tk, os⟩
  have ea := each_of (X := X) rl rv
  have hk2 : ∀ b o, h'.get? b = some o → (PySem.W.sortingHeap (h'.push (seqObj "list" us.toArray 0)) h'.objs.size us).get? b = some o := fun b o q =>
    PySem.W.sortingHeap_old (Nat.ne_of_lt (Heap.lt_size q)) (Heap.get?_push_of_some _ q)
  have er := each_reads I1 (h' := PySem.W.sortingHeap (h'.push (seqObj "list" us.toArray 0)) h'.objs.size us) hk2 so.py ea
  have S : PySem.W.SortsAt X.prog X.w X.A.in1.in1 ⟨PySem.W.sortingHeap (h'.push (seqObj "list" us.toArray 0)) h'.objs.size us, gs, dw, tk, os⟩ (PySem.W.dataKind (PySem.W.sortingHeap (h'.push (seqObj "list" us.toArray 0)) h'.objs.size us) (ds.map enc)) us := by
    refine PySem.W.SortsAt.data (PySem.W.each_map (R := fun v d => ∃ as, Reads (PySem.W.sortingHeap (h'.push (seqObj "list" us.toArray 0)) h'.objs.size us) v d as) enc er) so.al so.so fun d hd => ?_
    obtain ⟨b, hb, rfl⟩ := List.mem_map.mp hd
    have h1 := so.de b hb
    have h2 : X.A.in1.in1.units = X.A.units + 2 := rfl
    omega
  refine wpAny_bind (wpAny_holding (wpAny_call_entry PyProof.Rows.slot_list_sort ⟨_, hoL, rfl⟩ PyProof.Rows.entry_list_sort
    (PySem.W.list_sort_vals (s := ⟨h'.push (seqObj "list" us.toArray 0), gs, dw, tk, os⟩) hoL S hz ⟨_, rfl, ?_⟩) (PyProof.Rows.args_list_sort _)))
  have hout := PySem.W.sortVals_data false ea er so.al
  rw [← so.eq] at hout
  generalize hO : PySem.W.sortVals (PySem.W.dataKind (PySem.W.sortingHeap (h'.push (seqObj "list" us.toArray 0)) h'.objs.size us) (ds.map enc)) false us us = out at hout
  obtain ⟨ws, w1, w2⟩ := of_each hout
  obtain ⟨e', he'⟩ := PyProof.Rows.sortedHeap_at (vs := us) (out := out.toArray) hoL
  have hwl : ws.length ≤ sizeLine := by
    rw [← w2.len, so.eq, List.length_mergeSort]; exact so.len
  refine wpAny_pure ⟨_, rfl, .ref h'.objs.size, upd H' h'.objs.size (.lst ws), I1.laid (t' := tk) (fun b u q => ?_) (Nat.le_refl _) (show ObjOk X.prog X.w _ _ _ (.lst ws) from ⟨hwl, out, e', w1, he'⟩), rfl, k H' _ ws nw (I1.hok.fresh (Nat.le_refl _)) w2⟩
  have hb : b < h'.objs.size := Heap.lt_size q
  rw [PyProof.Rows.sortedHeap_old (Nat.ne_of_lt hb) (by rw [size_push']; exact Nat.lt_succ_of_lt hb)]
  exact Heap.get?_push_of_some _ q
theorem sorted_run (I : L2.Inv X pins τ H s) (hr : X.A.units + 64 < cLine) {g : G} {ds es : List D} {vs : List V} {v : Value} {Q : VK} (rl : RepL X.K H g ds vs) (e : sortD ds = some es)
    (hcol : ∀ (R : List Value → Shared → Prop) (E : Value → Shared → Prop), (∀ h' tk us, (∀ b o, s.heap.get? b = some o → h'.get? b = some o) → Vals vs us → R us { s with heap := h', toks := tk }) → wpAny (model X.prog X.w) X.A.in1 (collect v) R E s)
    (k : ∀ H' p ws, New H H' → H' p = none → RepL X.K H' g es ws → Q (.ref p) (upd H' p (.lst ws))) : wpAny (model X.prog X.w) X.A (call (.builtin "sorted") [v]) (EP X pins τ Q) X.xe s :=
  sorted_gen I hr (fun R E h => hcol R E fun h' tk us hk rv => h _ H us vs ds (New.refl H) (I.kept hk) rv rl e) k
/-- a tuple gathered -/
theorem collect_tup {prog : Program} {w : World} {A : Around} {E : Value → Shared → Prop} {s : Shared} {l : Addr} {vs : List Value} {Q : List Value → Shared → Prop} (hl : IsTup s.heap l vs.toArray)
    (h : Q vs { s with heap := (s.heap.push (seqObj "list" #[] 0)).update s.heap.objs.size (Obj.mapSeq (· ++ vs.toArray)) }) (hsz : vs.length ≤ sizeLine) :
    wpAny (model prog w) A (collect (.ref l)) Q E s := by
  obtain ⟨o, ho, hc, n, hd⟩ := id hl
  unfold collect
  refine wpAny_bind (wpAny_runValue (codeAny_builtin entry_proto_collect' ?_))
  show wpAny _ _ (do again (.builtin "list.__iadd__" ⟨[← newList [], .ref l], []⟩)) _ _ s
  refine wpAny_bind (wpAny_newList (wpAny_pure ⟨Code.quiet_builtin _ (by decide +kernel), codeAny_builtin entry_list_iadd' ?_⟩))
  show wpAny _ _ (Builtin.List.listExtendWith (.ref s.heap.objs.size) (.ref l) (.ref s.heap.objs.size)) _ _ { s with heap := s.heap.push (seqObj "list" #[] 0) }
  unfold Builtin.List.listExtendWith
  have ho' : (s.heap.push (seqObj "list" #[] 0)).get? l = some o := Heap.get?_push_of_some _ ho
  refine wpAny_bind (wpAny_typeOf (T := "tuple") ⟨o, ho', hc⟩ ?_)
  have ht : (Value.type "tuple" == Value.type "tuple") = true := by rfl
  have ht2 : (Value.type "tuple" == Value.type "list") = false := by decide
  rw [if_pos (by rw [ht]; simp)]
  refine wpAny_bind (listItems_at ho' hd ?_)
  refine wpAny_bind (listItems_at (xs := #[]) (n := 0) (Heap.get?_push_size _ rfl) rfl ?_)
  rw [if_neg (by simp)]
  refine wpAny_bind (listUpdate_at (xs := #[]) (n := 0) (Heap.get?_push_size _ rfl) rfl ?_ (Nat.zero_le _) (by show (#[] ++ vs.toArray).size ≤ sizeLine + 1; simp only [Array.size_append, List.size_toArray, List.length_nil]; omega))
  refine wpAny_pure ?_
  show wpAny (model prog w) A (do
      let o ← load s.heap.objs.size
      match o.data with
      | .seq xs _ => pure xs.toList
      | _ => unsupported "internal:collect") Q E { s with heap := (s.heap.push (seqObj "list" #[] 0)).update s.heap.objs.size (Obj.mapSeq (· ++ vs.toArray)) }
  refine wpAny_bind (wpAny_load (get?_update_seq (Heap.get?_push_size _ rfl) _) ?_)
  show wpAny _ _ (pure ((#[] : Array Value) ++ vs.toArray).toList) Q E _
  rw [show ((#[] : Array Value) ++ vs.toArray).toList = vs by simp]
  exact wpAny_pure h
theorem keeps_col {h : Heap} {us : List Value} : ∀ b o, h.get? b = some o → ((h.push (seqObj "list" #[] 0)).update h.objs.size (Obj.mapSeq (· ++ us.toArray))).get? b = some o := fun b o q => by
  rw [Heap.get?_update_ne _ _ _ _ (Nat.ne_of_lt (Heap.lt_size q))]
  exact Heap.get?_push_of_some _ q
/-- the items of a list, a tuple; a dict's keys -/
def gather : D → Option (List D)
  | .lst ds => some ds
  | .tup ds => some ds
  | .scr ds => some ds
  | .kt ds => some ds
  | .dic false es => some (es.map (·.1))
  | _ => none
theorem repK_keys {K : PySem.W.Frag} {g : G} : ∀ {es : List (D × D)} {kvs : List (Key × V)}, RepK K H g es kvs → RepL K H g (es.map (·.1)) (kvs.map fun kv => kV kv.1)
  | _, _, .nil => .nil
  | _, _, .cons (k := k) r t => .cons (by cases k; exact .int _; exact .str _) (repK_keys t)
theorem gather_run (I : L2.Inv X pins τ H s) (hc : X.calm = true) {g : G} {d : D} {ds : List D} {x : V} {v : Value} (r : RepB X.K H g d x) (rx : RelV x v) (e : gather d = some ds) :
    ∃ vs, RepL X.K H g ds vs ∧ ∀ (R : List Value → Shared → Prop) (E : Value → Shared → Prop), (∀ h' tk us, (∀ b o, s.heap.get? b = some o → h'.get? b = some o) → Vals vs us → R us { s with heap := h', toks := tk }) → wpAny (model X.prog X.w) X.A.in1 (collect v) R E s := by
  have seq : ∀ {p : Addr} {vs : List V}, x = .ref p → (SqL X.K H p vs ∨ SqT X.K H p vs) → ∀ (R : List Value → Shared → Prop) (E : Value → Shared → Prop), (∀ h' tk us, (∀ b o, s.heap.get? b = some o → h'.get? b = some o) → Vals vs us → R us { s with heap := h', toks := tk }) → wpAny (model X.prog X.w) X.A.in1 (collect v) R E s := fun {p vs} ex hq R E kk => by
    subst ex
    cases rx
    rcases hq with hq | hq
    · obtain ⟨its, rv, pl, hz⟩ := I.list hq
      have hl : its.length ≤ sizeLine := by rw [← rv.length]; exact hz
      exact collect_list pl.isList (kk _ s.toks its keeps_col rv) hl
    · obtain ⟨its, rv, pl, hz⟩ := I.tuple hq
      have hl : its.length ≤ sizeLine := by rw [← rv.length]; exact hz
      exact collect_tup pl (kk _ s.toks its keeps_col rv) hl
  unfold gather at e
  split at e
  · cases e
    obtain ⟨p, vs, ex, hq, rl⟩ := seq_of (ds := ds) rfl r
    exact ⟨vs, rl, seq ex hq⟩
  · cases e
    obtain ⟨p, vs, ex, hq, rl⟩ := seq_of (ds := ds) rfl r
    exact ⟨vs, rl, seq ex hq⟩
  · cases e
    obtain ⟨p, vs, ex, hq, rl⟩ := seq_of (ds := ds) rfl r
    exact ⟨vs, rl, seq ex hq⟩
  · cases e
    obtain ⟨p, vs, ex, hq, rl⟩ := seq_of (ds := ds) rfl r
    exact ⟨vs, rl, seq ex hq⟩
  · cases e
    obtain ⟨p, u, rfl, hr, c⟩ := dic_rd r
    cases c with
    | dicK rk =>
      rename_i es kvs
      refine ⟨kvs.map fun kv => kV kv.1, repK_keys rk, fun R E kk => ?_⟩
      cases rx
      obtain ⟨z, lo, vs, rel, dd⟩ := dk_rd I.hok hr
      obtain ⟨ep, hat⟩ := dd.dictAt
      have hl : vs.length ≤ sizeLine := by rw [← rel.length]; exact z
      refine PySem.W.kdu_collect (A := X.A.in1) (PySem.W.kdl_dict (knd := mixKind X.prog X.w) (kvs := vs) (ep := ep) lo) (I.ok.hd hc) hat hl fun h' tk acc hk hacc => ?_
      refine kk h' tk acc.toList hk (vals_of_at ?_ fun j x u e1 e2 => ?_)
      · have q1 := hacc.1
        have q2 := rel.length
        rw [List.length_map, q2, ← q1]; simp
      · obtain ⟨k, y, e3, e4⟩ := hacc.2 j u (by rw [← Array.getElem?_toList]; exact e2)
        have hk2 : (vs.map (·.1))[j]? = some k := by rw [List.getElem?_map, e3]; rfl
        rw [← rel.keys, List.getElem?_map] at hk2
        rw [List.getElem?_map] at e1
        cases e5 : kvs[j]? with
        | none => rw [e5] at e1; cases e1
        | some kv =>
          rw [e5] at e1 hk2
          have e6 : kv.1 = k := Option.some.inj hk2
          have e7 : kV kv.1 = x := Option.some.inj e1
          rw [← e7, e6]
          exact keyIs_rel (show keyIs k u = true from e4)
  · cases e
def sortedD (d : D) : Option D := (gather d).bind fun ds => (sortD ds).map .lst
theorem call_sortedB (hu : X.A.units + 64 < cLine) (hc : X.calm = true) : CallR X (.builtin "sorted") (rB1F X.K X.mg sortedD) := by
  intro pins s τ H xs us Q I r ⟨g, h, x, dx, d, ex, hs, rx, e, k⟩
  subst ex
  obtain ⟨ds, e1, e2⟩ := Option.bind_eq_some_iff.mp e
  obtain ⟨es, e3, rfl⟩ := Option.map_eq_some_iff.mp e2
  obtain ⟨v, rfl, rv⟩ := vals1 r
  obtain ⟨vs, rl, col⟩ := gather_run I hc rx rv e1
  exact sorted_run I hu rl e3 col fun H' p ws n hp rw' => k H' p _ n hp (.lst rw')
end
end Bw
namespace Bw
open PySem L2

section
variable {K : PySem.W.Frag} {mg : Str → Option Value} {H : Hp} {g : G}
theorem repL_keys : ∀ {ks : List Key} {vs : List V}, RepL K H g (ks.map kD) vs → vs = ks.map kV
  | [], _, h => by cases h; rfl
  | k :: ks, _, h => by
    cases h with
    | cons r t =>
      rw [repL_keys t, List.map_cons]
      cases k with
      | inl i => cases rep_int r; rfl
      | inr x => cases rep_str r; rfl
/-- a dict's look-up -/
theorem dget_rep {t : Bool} {es : List (D × D)} {d : D} {y : V} {o : Option D} {a : Addr} {u : HO} (e : dget t es d = some o) (r : Rep K H g d y) (h : Rd H a u) (c : CRep K H g (.dic t es) u) : ∃ o', DGet H a y o' ∧ RelG K H g o o' := by
  cases c with
  | dicK rk =>
    rename_i kvs
    obtain ⟨k, e1, rfl⟩ := Option.map_eq_some_iff.mp (show (toKey d).map (getK es) = some o from e)
    have ed := toKey_some e1
    subst ed
    have ey : y = kV k := by
      cases k with
      | inl i => exact rep_int r
      | inr x => exact rep_str r
    exact ⟨valV kvs k, .inl ⟨kvs, k, h, ey, rfl⟩, rk.val⟩
  | dicT rt =>
    rename_i kvs
    obtain ⟨k, e1, rfl⟩ := Option.map_eq_some_iff.mp (show (toKeys d).map (getT es) = some o from e)
    cases d with
    | tup ds =>
      have ed := toKeyL_some e1
      subst ed
      obtain ⟨b, vs, rfl, hb, rl⟩ := rep_tup r
      exact ⟨valV kvs k, .inr ⟨kvs, k, b, h, rfl, by rw [hb, repL_keys rl], rfl⟩, rt.val⟩
    | _ => cases e1
end

/-! ### x in c -/
def rDbB (K : PySem.W.Frag) (mg : Str → Option Value) (f : D → D → Option Bool) : R2 := fun x y H Q =>
  ∃ g h dx dy k, Heaps K mg g h H ∧ Rep K H g dx x ∧ RepB K H g dy y ∧ f dx dy = some k ∧ ∀ H', New H H' → Q (.bl k) H'
def op2c (f : D → D → Option Bool) (ma mb : M D) : M Bool := bnd ma fun x => bnd mb fun y => opt (f x y)
section
variable {X : Cx} {w : WX} {e a b c : Expr} {m ma mb mc : M D} {pos : Pos}
theorem dt_in {op : CmpOp} {f : D → D → Option Bool} (ho : OpR X (compareOp op) (rDbB X.K X.mg f)) (ha : DE X w a ma) (hb : DB X w b mb) (hm : behindInMarks op b = false) : DT X w (.Compare a [op] [b] pos) (op2c f ma mb) :=
  PT.imp' (pt_cmpR ho ha hb hm) fun τ H Q h => by
    obtain ⟨g, σ, h0, hs, ss, p⟩ := h
    refine tM.bnd hs ss p fun x σ1 h1 g1 vx H1 hs1 ss1 f1 rx p1 => ?_
    refine tM.bnd hs1 ss1 p1 fun y σ2 h2 g2 vy H2 hs2 ss2 f2 ry p2 => ?_
    cases e : f x y with
    | none => rw [e] at p2; exact p2.elim
    | some k =>
      rw [e] at p2
      exact ⟨g2, h2, x, y, k, hs2, rx.stays f2.stays, ry, e, fun H' n => ⟨k, rfl, p2 g2 k H' (hs2.new n) (ss2.new n) n.fr rfl⟩⟩
theorem blM_op2c {f : D → D → Option Bool} : blM (op2c f ma mb) = bnd ma fun x => bnd mb fun y => bnd (opt (f x y)) fun k => ret (.bl k) := by
  funext σ h
  unfold blM op2c bnd
  cases ma σ h with
  | ok x σ1 h1 => dsimp only; cases mb σ1 h1 <;> rfl
  | exc _ _ _ => rfl
  | no => rfl
theorem de_in {op : CmpOp} {f : D → D → Option Bool} (ho : OpR X (compareOp op) (rDbB X.K X.mg f)) (ha : DE X w a ma) (hb : DB X w b mb) (hm : behindInMarks op b = false) : DE X w (.Compare a [op] [b] pos) (blM (op2c f ma mb)) :=
  PE.imp' (pe_cmpR ho ha hb hm) fun τ H Q h => by
    obtain ⟨g, σ, h0, hs, ss, p⟩ := h
    rw [blM_op2c] at p
    refine tM.bnd hs ss p fun x σ1 h1 g1 vx H1 hs1 ss1 f1 rx p1 => ?_
    refine tM.bnd hs1 ss1 p1 fun y σ2 h2 g2 vy H2 hs2 ss2 f2 ry p2 => ?_
    unfold bnd at p2
    dsimp only at p2
    cases e : f x y with
    | none => rw [e] at p2; exact p2.elim
    | some k =>
      rw [e] at p2
      exact ⟨g2, h2, x, y, k, hs2, rx.stays f2.stays, ry, e, fun H' n => p2 g2 _ H' (hs2.new n) (ss2.new n) n.fr (.bl k)⟩
def flatD : D → Bool
  | .non => true
  | .bl _ => true
  | .int _ => true
  | .str _ => true
  | _ => false
def eqF : D → D → Bool
  | .non, .non => true
  | .bl a, .bl b => a == b
  | .bl a, .int b => (if a then 1 else 0) == b
  | .int a, .bl b => a == (if b then 1 else 0)
  | .int a, .int b => a == b
  | .str a, .str b => a == b
  | _, _ => false
def inD (x : D) : D → Option Bool
  | .dic t es => (dget t es x).map (·.isSome)
  | .str z => match x with
    | .str y => some (!(Builtin.Str.occurrences z y 0 z.length 1).isEmpty)
    | _ => none
  | .lst ds => match toPy x, toPys ds with
    | some p, some ps => if (pyOk p && pyOk (.list ps)) = true then some (ps.any fun z => PyData.eqv z p) else none
    | _, _ => none
  | .tup ds => if (flatD x && ds.all flatD) = true then some (ds.any fun y => eqF y x) else none
  | .kt ds => if (flatD x && ds.all flatD) = true then some (ds.any fun y => eqF y x) else none
  | _ => none
theorem flat_rep {K : PySem.W.Frag} {H : Hp} {g : G} {d : D} {v : V} (r : Rep K H g d v) (f : flatD d = true) : flatV v = true := by
  cases r <;> first | rfl | cases f
theorem flats_rep {K : PySem.W.Frag} {H : Hp} {g : G} : ∀ {ds : List D} {vs : List V}, RepL K H g ds vs → ds.all flatD = true → vs.all flatV = true
  | _, _, .nil, _ => rfl
  | _, _, .cons r t, f => by
    rw [List.all_cons, Bool.and_eq_true] at f
    rw [List.all_cons, flat_rep r f.1, flats_rep t f.2]; rfl
theorem eqF_rep {K : PySem.W.Frag} {H : Hp} {g : G} {d d' : D} {v v' : V} (r : Rep K H g d v) (r' : Rep K H g d' v') (f : flatD d = true) (f' : flatD d' = true) : eqV v v' = eqF d d' := by
  cases r <;> first | exact absurd f Bool.false_ne_true | (cases r' <;> first | exact absurd f' Bool.false_ne_true | rfl)
theorem inV_rep {K : PySem.W.Frag} {H : Hp} {g : G} {d : D} {v : V} (r : Rep K H g d v) (f : flatD d = true) : ∀ {ds : List D} {vs : List V}, RepL K H g ds vs → ds.all flatD = true → inV v vs = ds.any fun y => eqF y d
  | _, _, .nil, _ => rfl
  | _, _, .cons q t, f2 => by
    rw [List.all_cons, Bool.and_eq_true] at f2
    show (eqV _ v || inV v _) = _
    rw [List.any_cons, inV_rep r f t f2.2, eqF_rep q r f2.1 f]
theorem dp_list {K : PySem.W.Frag} {H : Hp} {g : G} {ds : List D} {ps : List PyData} {y : V} (e : toPys ds = some ps) (r : RepB K H g (.lst ds) y) : Dp K H y (.list ps) := by
  obtain ⟨p, vs, rfl, hq, rl⟩ := lst_of (d := .lst ds) rfl r
  exact .lst hq (dps_of ds _ ps rl e)
theorem op_inD' (hu : X.A.units + 65 < cLine) : OpR X (compareOp .In) (rDbB X.K X.mg inD) := by
  intro pins s τ H x y v u Q I rx ry ⟨g, h, dx, dy, k, hs, r1, r2, e, q⟩
  unfold inD at e
  split at e
  · obtain ⟨o, e1, rfl⟩ := Option.map_eq_some_iff.mp e
    obtain ⟨p, w, rfl, hr, c⟩ := dic_rd r2
    obtain ⟨o', dg, rel⟩ := dget_rep e1 r1 hr c
    cases ry
    refine d_in (by omega) I dg rx fun s' I' => ⟨.bl _, H, I', rfl, ?_⟩
    have : o'.isSome = o.isSome := by cases o <;> cases o' <;> first | rfl | exact (rel : False).elim
    rw [this]; exact q H (New.refl H)
  · split at e
    · cases e
      cases rep_str r1
      cases r2 with
      | val r2 => cases rep_str r2; exact op_in_str pins s τ H _ _ v u Q I rx ry ⟨_, _, rfl, rfl, q H (New.refl H)⟩
      | own _ _ c => cases c
    · cases e
  · split at e
    · rename_i p ps e1 e2
      split at e
      · rename_i hc
        cases e
        rw [Bool.and_eq_true] at hc
        exact op_inD hu pins s τ H _ _ v u Q I rx ry ⟨p, ps, dp_of _ _ _ r1 e1, dp_list e2 r2, hc.1, hc.2, q H (New.refl H)⟩
      · cases e
    · cases e
  · split at e
    · rename_i ds hc
      cases e
      rw [Bool.and_eq_true] at hc
      obtain ⟨p, vs, rfl, hq, rl⟩ := seq_of (d := .tup ds) rfl r2
      refine op_in_seq pins s τ H _ _ v u Q I rx ry ⟨p, vs, rfl, hq, flat_rep r1 hc.1, flats_rep rl hc.2, ?_⟩
      rw [if_neg Bool.false_ne_true, inV_rep r1 hc.1 rl hc.2]
      exact q H (New.refl H)
    · cases e
  · split at e
    · rename_i ds hc
      cases e
      rw [Bool.and_eq_true] at hc
      obtain ⟨p, vs, rfl, hq, rl⟩ := seq_of (d := .kt ds) rfl r2
      refine op_in_seq pins s τ H _ _ v u Q I rx ry ⟨p, vs, rfl, hq, flat_rep r1 hc.1, flats_rep rl hc.2, ?_⟩
      rw [if_neg Bool.false_ne_true, inV_rep r1 hc.1 rl hc.2]
      exact q H (New.refl H)
    · cases e
  · cases e
def notInD (x c : D) : Option Bool := (inD x c).map (!·)
theorem op_notInD' (hu : X.A.units + 65 < cLine) : OpR X (compareOp .NotIn) (rDbB X.K X.mg notInD) := by
  intro pins s τ H x y v u Q I rx ry ⟨g, h, dx, dy, k', hs, r1, r2, e', q⟩
  obtain ⟨k, e, rfl⟩ := Option.map_eq_some_iff.mp e'
  unfold inD at e
  split at e
  · obtain ⟨o, e1, rfl⟩ := Option.map_eq_some_iff.mp e
    obtain ⟨p, w, rfl, hr, c⟩ := dic_rd r2
    obtain ⟨o', dg, rel⟩ := dget_rep e1 r1 hr c
    cases ry
    refine d_notIn (by omega) I dg rx fun s' I' => ⟨.bl _, H, I', rfl, ?_⟩
    have : o'.isSome = o.isSome := by cases o <;> cases o' <;> first | rfl | exact (rel : False).elim
    rw [this]; exact q H (New.refl H)
  · split at e
    · cases e
      cases rep_str r1
      cases r2 with
      | val r2 => cases rep_str r2; exact op_notin_str pins s τ H _ _ v u Q I rx ry ⟨_, _, rfl, rfl, q H (New.refl H)⟩
      | own _ _ c => cases c
    · cases e
  · split at e
    · rename_i p ps e1 e2
      split at e
      · rename_i hc
        cases e
        rw [Bool.and_eq_true] at hc
        exact op_notInD hu pins s τ H _ _ v u Q I rx ry ⟨p, ps, dp_of _ _ _ r1 e1, dp_list e2 r2, hc.1, hc.2, q H (New.refl H)⟩
      · cases e
    · cases e
  · split at e
    · rename_i ds hc
      cases e
      rw [Bool.and_eq_true] at hc
      obtain ⟨p, vs, rfl, hq, rl⟩ := seq_of (d := .tup ds) rfl r2
      refine op_notIn_seq pins s τ H _ _ v u Q I rx ry ⟨p, vs, rfl, hq, flat_rep r1 hc.1, flats_rep rl hc.2, ?_⟩
      rw [if_pos rfl, inV_rep r1 hc.1 rl hc.2]
      exact q H (New.refl H)
    · cases e
  · split at e
    · rename_i ds hc
      cases e
      rw [Bool.and_eq_true] at hc
      obtain ⟨p, vs, rfl, hq, rl⟩ := seq_of (d := .kt ds) rfl r2
      refine op_notIn_seq pins s τ H _ _ v u Q I rx ry ⟨p, vs, rfl, hq, flat_rep r1 hc.1, flats_rep rl hc.2, ?_⟩
      rw [if_pos rfl, inV_rep r1 hc.1 rl hc.2]
      exact q H (New.refl H)
    · cases e
  · cases e

/-! ### c[k], c[a:b] -/
def ixC : D → D → Option D
  | .lst ds, .int i => atI ds i
  | .tup ds, .int i => atI ds i
  | .scr ds, .int i => atI ds i
  | .kt ds, .int i => atI ds i
  | .str z, .int i => if z.length ≤ big then (atI z.cps.toList i).map fun c => .str ⟨#[c]⟩ else none
  | .dic t es, k => (dget t es k).bind id
  | _, _ => none
def rIxC (K : PySem.W.Frag) (mg : Str → Option Value) : R2 := fun x y H Q => ∃ g h dx dy d, Heaps K mg g h H ∧ RepB K H g dx x ∧ Rep K H g dy y ∧ ixC dx dy = some d ∧ ∀ v, Rep K H g d v → Q v H
theorem atI_rep {K : PySem.W.Frag} {H : Hp} {g : G} {ds : List D} {vs : List V} {i : Int} {d : D} (rl : RepL K H g ds vs) (e : atI ds i = some d) : ∃ v, atI vs i = some v ∧ Rep K H g d v := by
  unfold atI at e ⊢
  rw [← rl.len]
  cases e1 : ixN ds.length i with
  | none => rw [e1] at e; cases e
  | some j =>
    rw [e1] at e
    exact rl.get (show ds[j]? = some d from e)
theorem ix_C (hu : X.A.units + 64 < cLine) : IxR X (rIxC X.K X.mg) := by
  intro value slice pins s τ H x y v u Q I rx ry ⟨g, h, dx, dy, d, hs, r1, r2, e, k⟩ hsub
  have seq : ∀ (ds : List D) (i : Int), itemsD dx = some ds → dy = .int i → atI ds i = some d → wpAny (model X.prog X.w) X.A (PyProof.Rows.subscriptTail value slice v u) (EP X pins τ Q) X.xe s := fun ds i e1 e2 e3 => by
    subst e2
    obtain ⟨p, vs, rfl, hq, rl⟩ := seq_of e1 r1
    cases rep_int r2
    obtain ⟨w, e4, rw'⟩ := atI_rep rl e3
    rcases hq with hq | hq
    · exact ix_list value slice pins s τ H _ _ v u Q I rx ry ⟨p, vs, i, w, rfl, rfl, hq, e4, k w rw'⟩ hsub
    · exact ix_tup value slice pins s τ H _ _ v u Q I rx ry ⟨p, vs, i, w, rfl, rfl, hq, e4, k w rw'⟩ hsub
  unfold ixC at e
  split at e
  · exact seq _ _ rfl rfl e
  · exact seq _ _ rfl rfl e
  · exact seq _ _ rfl rfl e
  · exact seq _ _ rfl rfl e
  · split at e
    · rename_i hl
      obtain ⟨c, e1, rfl⟩ := Option.map_eq_some_iff.mp e
      cases rep_int r2
      cases r1 with
      | val r1 => cases rep_str r1; exact ix_str value slice pins s τ H _ _ v u Q I rx ry ⟨_, _, c, rfl, rfl, by rw [← big_eq]; exact hl, e1, k _ (.str _)⟩ hsub
      | own _ _ c => cases c
    · cases e
  · obtain ⟨o, e1, e2⟩ := Option.bind_eq_some_iff.mp e
    have e2 : o = some d := e2
    subst e2
    obtain ⟨p, w, rfl, hr, c⟩ := dic_rd r1
    obtain ⟨o', dg, rel⟩ := dget_rep e1 r2 hr c
    cases rx
    cases o' with
    | none => exact (rel : False).elim
    | some v' =>
      exact PyProof.Rows.tail_any (dict_typeIs I dg) PySem.F.slot_dict_getitem.lookup (d_getItem (by omega) I dg ry fun w' s' I' rw' => ⟨v', H, I', rw', k v' rel⟩) hsub
  · cases e
def ixM (m mk : M D) : M D := bnd m fun d => bnd mk fun k => fun σ h => opt (ixC (deref h d) k) σ h
theorem de_ix (hu : X.A.units + 64 < cLine) (ha : DE X w a ma) (hb : DE X w b mb) (hs : PlainIx b) : DE X w (.Subscript a b pos) (ixM ma mb) :=
  PE.imp' (pe_ix (ix_C hu) ha hb hs) fun τ H Q h => by
    obtain ⟨g, σ, h0, hs, ss, p⟩ := h
    refine tM.bnd hs ss p fun x σ1 h1 g1 vx H1 hs1 ss1 f1 rx p1 => ?_
    refine tM.bnd hs1 ss1 p1 fun y σ2 h2 g2 vy H2 hs2 ss2 f2 ry p2 => ?_
    cases e : ixC (deref h2 x) y with
    | none => rw [e] at p2; exact p2.elim
    | some d =>
      rw [e] at p2
      exact ⟨g2, h2, _, y, d, hs2, repB_deref hs2 (rx.stays f2.stays), ry, e, fun v r => p2 g2 v H2 hs2 ss2 (Fr.refl _ _) r⟩
/-- .. of a name: its own list or dict is not let go -/
def has (σ : List Sl) (i : Nat) : Bool := match σ[i]? with
  | some (.v _) => true
  | some (.own _) => true
  | _ => false
theorem Slots.has {K : PySem.W.Frag} {g : G} {σ : List Sl} {τ : St} {H : Hp} {i : Nat} (ss : Slots K g σ τ H) (e : Bw.has σ i = true) : ∃ v, τ[i]? = some (some v) := by
  unfold Bw.has at e
  cases es : σ[i]? with
  | none => rw [es] at e; cases e
  | some s =>
    have il : i < τ.length := by rw [← ss.len]; exact (List.getElem?_eq_some_iff.mp es).1
    have et : τ[i]? = some τ[i] := List.getElem?_eq_getElem il
    have q := ss.rep i s _ es et
    rw [es] at e
    cases s with
    | un => cases e
    | v d0 => obtain ⟨v, ev, r⟩ := q; exact ⟨v, by rw [et, ev]⟩
    | own d0 => obtain ⟨a, u, ev, _⟩ := q; exact ⟨.ref a, by rw [et, ev]⟩
def ixN' (i : Nat) (mk : M D) : M D := fun σ h => if has σ i = true then bnd mk (fun k σ h => opt ((peek σ h i).bind fun d => ixC d k) σ h) σ h else .no
theorem de_ixn (hu : X.A.units + 64 < cLine) {i : Nat} {x : Str} {px : Pos} (hb : DE X w b mb) (hs : PlainIx b) (hN : X.N[i]? = some x := by rfl) (hv : Vis X.env.scope x := by first | exact Or.inl rfl | exact Or.inr (Or.inl rfl) | exact Or.inr (Or.inr rfl)) (hd : (x == ("__debug__" : Str)) = false := by decide)
    (hcd : (x == ("__classdict__" : Str)) = false := by decide) : DE X w (.Subscript (.Name x px) b pos) (ixN' i mb) :=
  PE.imp' (pe_ix (ix_C hu) (pe_var hN hv hd hcd) hb hs) fun τ H Q h => by
    obtain ⟨g, σ, h0, hs, ss, p⟩ := h
    unfold ixN' at p
    by_cases hh : has σ i = true
    · rw [if_pos hh] at p
      obtain ⟨v, et⟩ := ss.has hh
      refine ⟨v, et, ?_⟩
      refine tM.bnd hs ss p fun y σ2 h2 g2 vy H2 hs2 ss2 f2 ry p2 => ?_
      cases e0 : peek σ2 h2 i with
      | none => rw [e0] at p2; exact p2.elim
      | some dc =>
        rw [e0] at p2
        obtain ⟨v', et', rb⟩ := ss2.peek hs2 e0
        rw [et] at et'; cases et'
        cases e : ixC dc y with
        | none => rw [show (some dc).bind (fun d => ixC d y) = none from e] at p2; exact p2.elim
        | some d =>
          rw [show (some dc).bind (fun d => ixC d y) = some d from e] at p2
          exact ⟨g2, h2, dc, y, d, hs2, rb, ry, e, fun v r => p2 g2 v H2 hs2 ss2 (Fr.refl _ _) r⟩
    · rw [if_neg hh] at p; exact p.elim

abbrev DO (X : Cx) (w : WX) (e : Option Expr) (m : M (Option Int)) : Prop := PO X e (tM X.K X.mg (fun _ _ a b => a = b) w m)
theorem PO.imp' {e : Option Expr} {t t' : TO} (h : PO X e t) (i : ∀ τ H Q, t' τ H Q → t τ H Q) : PO X e t' := ⟨fun pins s τ H Q I q => h.run pins s τ H Q I (i τ H Q q)⟩
theorem do_none : DO X w none (ret none) := PO.imp' po_none fun τ H Q h => by
  obtain ⟨g, σ, h0, hs, ss, p⟩ := h
  exact p g none H hs ss (Fr.refl _ _) rfl
def prt (m : M D) : M (Option Int) := bnd m fun d => match d with | .int i => ret (some i) | _ => no
theorem do_some (h : DE X w e m) : DO X w (some e) (prt m) := PO.imp' (po_some h) fun τ H Q h => by
  obtain ⟨g, σ, h0, hs, ss, p⟩ := h
  refine tM.bnd hs ss p fun x σ1 h1 g1 vx H1 hs1 ss1 f1 rx p1 => ?_
  cases rx with
  | int i => exact ⟨i, rfl, p1 g1 _ H1 hs1 ss1 (Fr.refl _ _) rfl⟩
  | _ => exact p1.elim
def cutL {α : Type} (xs : List α) (lo hi : Option Int) : List α := (xs.drop (HT.sIx xs.length 0 lo)).take (HT.sIx xs.length xs.length hi - HT.sIx xs.length 0 lo)
def slC : D → Option Int → Option Int → Option D
  | .lst ds, lo, hi => some (.lst (cutL ds lo hi))
  | .tup ds, lo, hi => some (.tup (cutL ds lo hi))
  | .str z, lo, hi => if z.length ≤ big then some (.str (cutS z lo hi)) else none
  | .kt ds, lo, hi => if HT.sIx ds.length 0 lo = 0 ∧ HT.sIx ds.length ds.length hi = ds.length then some (.kt ds) else some (.tup (cutL ds lo hi))
  | _, _, _ => none
theorem RepL.cut {K : PySem.W.Frag} {H : Hp} {g : G} {ds : List D} {vs : List V} (rl : RepL K H g ds vs) (lo hi : Option Int) : RepL K H g (cutL ds lo hi) (cutV vs lo hi) := by
  unfold cutL cutV
  rw [rl.len]
  exact (rl.drop _).take _
def rSlC (K : PySem.W.Frag) (mg : Str → Option Value) : V → Option Int → Option Int → Hp → VK → Prop := fun x lo hi H Q => ∃ g h dx d, Heaps K mg g h H ∧ RepB K H g dx x ∧ slC dx lo hi = some d ∧ ∀ v H', New H H' → Rep K H' g d v → Q v H'
theorem sl_C : SlR X (rSlC X.K X.mg) := by
  intro pins s τ H x v vl vu lo hi sl Q I rx hsl pl pu ⟨g, h, dx, d, hs, r, e, k⟩
  unfold slC at e
  split at e
  · cases e
    rename_i ds
    obtain ⟨p, vs, rfl, hq, rl⟩ := lst_of (d := .lst ds) rfl r
    refine sl_list pins s τ H _ v vl vu lo hi sl Q I rx hsl pl pu ⟨p, vs, rfl, hq, fun q hq2 => ?_⟩
    obtain ⟨n, rr⟩ := Rep.fresh hs hq2 (.lst (rl.cut lo hi))
    exact k _ _ n rr
  · cases e
    cases r with
    | val r =>
      obtain ⟨a, vs, rfl, h1, rl⟩ := rep_tup r
      refine sl_tupA pins s τ H _ v vl vu lo hi sl Q I rx hsl pl pu ⟨a, vs, rfl, SqT.of h1, fun z => ?_, fun _ q hq => ?_⟩
      · refine k _ H (New.refl H) (.tup h1 ?_)
        have := rl.cut lo hi
        unfold cutV at this
        rw [z.1, z.2, List.drop_zero, Nat.sub_zero, List.take_length] at this
        exact this
      · have n : New H (upd H q (.tup (cutV vs lo hi))) := New.upd hq
        exact k _ _ n (.tup upd_same ((rl.cut lo hi).stays n.stays))
    | own _ _ c => cases c
  · split at e
    · rename_i hl
      cases e
      cases r with
      | val r => cases rep_str r; exact sl_str pins s τ H _ v vl vu lo hi sl Q I rx hsl pl pu ⟨_, rfl, by rw [← big_eq]; exact hl, k _ H (New.refl H) (.str _)⟩
      | own _ _ c => cases c
    · cases e
  · rename_i ds
    have hr : ∃ a vs, x = .ref a ∧ KT X.K H a vs ∧ RepL X.K H g ds vs := by
      cases r with
      | val r => cases r with
        | kt h1 rl => exact ⟨_, _, rfl, h1, rl⟩
      | own _ _ c => cases c
    obtain ⟨a, vs, rfl, h1, rl⟩ := hr
    refine sl_tupA pins s τ H _ v vl vu lo hi sl Q I rx hsl pl pu ⟨a, vs, rfl, h1.sq, fun z => ?_, fun z q hq => ?_⟩
    · rw [← rl.len] at z
      rw [if_pos z] at e
      cases e
      exact k _ H (New.refl H) (.kt h1 rl)
    · rw [← rl.len] at z
      rw [if_neg z] at e
      cases e
      have n : New H (upd H q (.tup (cutV vs lo hi))) := New.upd hq
      exact k _ _ n (.tup upd_same ((rl.cut lo hi).stays n.stays))
  · cases e
def slM (m : M D) (ml mh : M (Option Int)) : M D := bnd m fun d => bnd ml fun lo => bnd mh fun hi => fun σ h => opt (slC (deref h d) lo hi) σ h
theorem de_sl {lo hi : Option Expr} {ml mh : M (Option Int)} {p2 : Pos} (ha : DE X w a ma) (hl : DO X w lo ml) (hh : DO X w hi mh) : DE X w (.Subscript a (.Slice lo hi none p2) pos) (slM ma ml mh) :=
  PE.imp' (pe_slice sl_C ha hl hh) fun τ H Q h => by
    obtain ⟨g, σ, h0, hs, ss, p⟩ := h
    refine tM.bnd hs ss p fun x σ1 h1 g1 vx H1 hs1 ss1 f1 rx p1 => ?_
    refine tM.bnd hs1 ss1 p1 fun y σ2 h2 g2 vy H2 hs2 ss2 f2 ry p2 => ?_
    refine tM.bnd hs2 ss2 p2 fun z σ3 h3 g3 vz H3 hs3 ss3 f3 rz p3 => ?_
    subst ry; subst rz
    cases e : slC (deref h3 x) y z with
    | none => rw [e] at p3; exact p3.elim
    | some d =>
      rw [e] at p3
      exact ⟨g3, h3, _, d, hs3, repB_deref hs3 ((rx.stays f2.stays).stays f3.stays), e, fun v H' n r => p3 g3 v H' (hs3.new n) (ss3.new n) n.fr r⟩
def slN (i : Nat) (ml mh : M (Option Int)) : M D := fun σ h => if has σ i = true then bnd ml (fun lo => bnd mh fun hi => fun σ h => opt ((peek σ h i).bind fun d => slC d lo hi) σ h) σ h else .no
theorem de_sln {i : Nat} {x : Str} {px : Pos} {lo hi : Option Expr} {ml mh : M (Option Int)} {p2 : Pos} (hl : DO X w lo ml) (hh : DO X w hi mh) (hN : X.N[i]? = some x := by rfl) (hv : Vis X.env.scope x := by first | exact Or.inl rfl | exact Or.inr (Or.inl rfl) | exact Or.inr (Or.inr rfl)) (hd : (x == ("__debug__" : Str)) = false := by decide)
    (hcd : (x == ("__classdict__" : Str)) = false := by decide) : DE X w (.Subscript (.Name x px) (.Slice lo hi none p2) pos) (slN i ml mh) :=
  PE.imp' (pe_slice sl_C (pe_var hN hv hd hcd) hl hh) fun τ H Q h => by
    obtain ⟨g, σ, h0, hs, ss, p⟩ := h
    unfold slN at p
    by_cases hh : has σ i = true
    · rw [if_pos hh] at p
      obtain ⟨v, et⟩ := ss.has hh
      refine ⟨v, et, ?_⟩
      refine tM.bnd hs ss p fun y σ2 h2 g2 vy H2 hs2 ss2 f2 ry p2 => ?_
      refine tM.bnd hs2 ss2 p2 fun z σ3 h3 g3 vz H3 hs3 ss3 f3 rz p3 => ?_
      subst ry; subst rz
      cases e0 : peek σ3 h3 i with
      | none => rw [e0] at p3; exact p3.elim
      | some dc =>
        rw [e0] at p3
        obtain ⟨v', et', rb⟩ := ss3.peek hs3 e0
        rw [et] at et'; cases et'
        cases e : slC dc y z with
        | none => rw [show (some dc).bind (fun d => slC d y z) = none from e] at p3; exact p3.elim
        | some d =>
          rw [show (some dc).bind (fun d => slC d y z) = some d from e] at p3
          exact ⟨g3, h3, dc, d, hs3, rb, e, fun v H' n r => p3 g3 v H' (hs3.new n) (ss3.new n) n.fr r⟩
    · rw [if_neg hh] at p; exact p.elim
end
end Bw
namespace Bw
open PySem L2

/-! ### fields -/
def FOk (K : PySem.W.Frag) (mg : Str → Option Value) (cs : List Str) (f : Str) : Prop := ∀ c ∈ cs, ∃ C, mg c = some (.ref C) ∧ Cls K C ∧ NoAttr K C f
def insOf (cs : List Str) (h : Hd) : D → Option (Nat × Str × List (Str × D))
  | .ref i => match h[i]? with
    | some ⟨false, .ins c fs⟩ => if cs.contains c = true then some (i, c, fs) else none
    | _ => none
  | _ => none
def fldD (cs : List Str) (f : Str) (h : Hd) (d : D) : Option D := (insOf cs h d).bind fun p => p.2.2.lookup f
theorem RepF.lookup {K : PySem.W.Frag} {H : Hp} {g : G} {f : Str} {d : D} : ∀ {fs : List (Str × D)} {gs : List (Str × V)}, RepF K H g fs gs → fs.lookup f = some d → ∃ v, gs.lookup f = some v ∧ Rep K H g d v
  | _, _, .nil, e => by cases e
  | _, _, .cons (f := k) r t, e => by
    rw [List.lookup_cons] at e ⊢
    by_cases hk : (f == k) = true
    · rw [hk] at e ⊢; cases e; exact ⟨_, rfl, r⟩
    · have hk' : (f == k) = false := by simpa using hk
      rw [hk'] at e ⊢; exact t.lookup e
theorem RepF.lookup_none {K : PySem.W.Frag} {H : Hp} {g : G} {f : Str} : ∀ {fs : List (Str × D)} {gs : List (Str × V)}, RepF K H g fs gs → fs.lookup f = none → gs.lookup f = none
  | _, _, .nil, _ => rfl
  | _, _, .cons (f := k) r t, e => by
    rw [List.lookup_cons] at e ⊢
    by_cases hk : (f == k) = true
    · rw [hk] at e; cases e
    · have hk' : (f == k) = false := by simpa using hk
      rw [hk'] at e ⊢; exact t.lookup_none e
theorem RepF.len {K : PySem.W.Frag} {H : Hp} {g : G} : ∀ {fs : List (Str × D)} {gs : List (Str × V)}, RepF K H g fs gs → fs.length = gs.length
  | _, _, .nil => rfl
  | _, _, .cons _ t => by rw [List.length_cons, List.length_cons, t.len]
def putFD (f : Str) (d : D) : List (Str × D) → List (Str × D)
  | [] => [(f, d)]
  | (g, x) :: r => if g = f then (g, d) :: r else (g, x) :: putFD f d r
theorem RepF.put {K : PySem.W.Frag} {H : Hp} {g : G} {f : Str} {d : D} {v : V} (rd : Rep K H g d v) : ∀ {fs : List (Str × D)} {gs : List (Str × V)}, RepF K H g fs gs → RepF K H g (putFD f d fs) (putF f v gs)
  | _, _, .nil => .cons rd .nil
  | _, _, .cons (f := k) r t => by
    unfold putFD putF
    by_cases hk : k = f
    · rw [if_pos hk, if_pos hk]; exact .cons rd t
    · rw [if_neg hk, if_neg hk]; exact .cons r (RepF.put rd t)
theorem insOf_some {cs : List Str} {h : Hd} {d : D} {i : Nat} {c : Str} {fs : List (Str × D)} (e : insOf cs h d = some (i, c, fs)) : d = .ref i ∧ h[i]? = some ⟨false, .ins c fs⟩ ∧ c ∈ cs := by
  unfold insOf at e
  split at e
  · split at e
    · rename_i hc
      split at e
      · rename_i hm
        cases e
        exact ⟨rfl, hc, by simpa using hm⟩
      · cases e
    · cases e
  · cases e
theorem ins_at {K : PySem.W.Frag} {mg : Str → Option Value} {g : G} {h : Hd} {H : Hp} {i : Nat} {c : Str} {fs : List (Str × D)} {v : V} (hs : Heaps K mg g h H) (e : h[i]? = some ⟨false, .ins c fs⟩) (r : Rep K H g (.ref i) v) :
    ∃ a C dx gs, v = .ref a ∧ g.ρ[i]? = some a ∧ H a = some (.ins C dx gs) ∧ mg c = some (.ref C) ∧ RepF K H g fs gs := by
  cases r with
  | ref hi =>
    obtain ⟨u, ru, k1, _⟩ := hs.cell i _ _ e hi
    cases ru with
    | ins hm rf => exact ⟨_, _, _, _, rfl, hi, k1 rfl, hm, rf⟩
section
variable {X : Cx} {w : WX} {e o value : Expr} {m mo mv : M D} {pos pos' : Pos}
def fldM (cs : List Str) (f : Str) (m : M D) : M D := bnd m fun d => fun σ h => opt (fldD cs f h d) σ h
theorem de_fld {cs : List Str} {f : Str} (hf : FOk X.K X.mg cs f) (he : DE X w e m) (hb : attributeBase e f X.env (eval e X.env) = eval e X.env) : DE X w (.Attribute e f pos) (fldM cs f m) :=
  PE.imp' (pe_fld he hb) fun τ H Q h => by
    obtain ⟨g, σ, h0, hs, ss, p⟩ := h
    refine tM.bnd hs ss p fun x σ1 h1 g1 vx H1 hs1 ss1 f1 rx p1 => ?_
    unfold fldD at p1
    cases e1 : insOf cs h1 x with
    | none => rw [e1] at p1; exact p1.elim
    | some q =>
      obtain ⟨i, c, fs⟩ := q
      rw [e1] at p1
      obtain ⟨rfl, e2, hm⟩ := insOf_some e1
      obtain ⟨a, C, dx, gs, rfl, hi, ha, hc, rf⟩ := ins_at hs1 e2 rx
      obtain ⟨C', hc', cl, na⟩ := hf c hm
      rw [hc] at hc'; cases hc'
      cases e3 : fs.lookup f with
      | none => rw [show (some (i, c, fs)).bind (fun p => p.2.2.lookup f) = none from e3] at p1; exact p1.elim
      | some d =>
        rw [show (some (i, c, fs)).bind (fun p => p.2.2.lookup f) = some d from e3] at p1
        obtain ⟨v, lv, rv⟩ := rf.lookup e3
        exact ⟨a, C, dx, gs, v, rfl, ha, cl, na, lv, p1 g1 v H1 hs1 ss1 (Fr.refl _ _) rv⟩
def stfM (cs : List Str) (f : Str) (mo mv : M D) : M Fl := bnd mv fun v => bnd mo fun d => fun σ h => match insOf cs h d with
  | some (i, c, fs) => if fs.length < 900 then .ok .nx σ (h.set i ⟨false, .ins c (putFD f v fs)⟩) else .no
  | none => .no
theorem ds_fld {cs : List Str} {f : Str} (hf : FOk X.K X.mg cs f) (ho : DE X w o mo) (hv : DE X w value mv) (hsw : swapsWith value (some (.Attribute o f pos')) pos.line X.env = pure false) : DS X w (.Assign [.Attribute o f pos'] value pos) (stfM cs f mo mv) :=
  PS.imp' (ps_fld ho hv hsw) fun D τ H h => by
    obtain ⟨g, σ, h0, hs, ss, p⟩ := h
    refine tM.bndS hs ss p fun x σ1 h1 g1 vx H1 hs1 ss1 f1 rx p1 => ?_
    refine tM.bndS hs1 ss1 p1 fun y σ2 h2 g2 vy H2 hs2 ss2 f2 ry p2 => ?_
    cases e1 : insOf cs h2 y with
    | none => rw [e1] at p2; exact p2.elim
    | some q =>
      obtain ⟨i, c, fs⟩ := q
      rw [e1] at p2
      dsimp only at p2
      obtain ⟨rfl, e2, hm⟩ := insOf_some e1
      obtain ⟨a, C, dx, gs, rfl, hi, ha, hc, rf⟩ := ins_at hs2 e2 ry
      obtain ⟨C', hc', cl, na⟩ := hf c hm
      rw [hc] at hc'; cases hc'
      by_cases hl : fs.length < 900
      · rw [if_pos hl] at p2
        have hmem : a ∈ g2.ρ := List.mem_of_getElem? hi
        have st : Stays g2 H2 g2 (upd H2 a (.ins C dx (putF f vx gs))) := Stays.upd (.inl hmem) ha trivial
        refine ⟨a, C, dx, gs, rfl, ha, cl, na, by rw [← rf.len]; omega, ?_⟩
        refine p2 g2 τ _ (hs2.put e2 hi ha trivial trivial ⟨_, .ins hc ((rf.put (rx.stays f2.stays)).stays st), fun _ => upd_same, fun z => nomatch z⟩)
          (ss2.putC hmem (hs2.sO a hmem) ha trivial) (Fr.upd (.inl hmem) (by first | exact hs2.sB a hmem | exact hs.sB a hmem) ha trivial)
      · rw [if_neg hl] at p2; exact p2.elim
/-- o.f += e, whole numbers -/
def augfM (cs : List Str) (f : Str) (mo mv : M D) (op : Int → Int → Int) : M Fl := bnd mo fun d => fun σ h => match fldD cs f h d with
  | some (.int i) => bnd mv (fun v => fun σ h => match v with
    | .int j => match insOf cs h d with
      | some (n, c, fs) => if fs.length < 900 ∧ (fs.lookup f).isSome = true then .ok .nx σ (h.set n ⟨false, .ins c (putFD f (.int (op i j)) fs)⟩) else .no
      | none => .no
    | _ => .no) σ h
  | _ => .no

/-! ### c[k] = v -/
def putC : D → D → D → Option D
  | .lst ds, .int i, v => (ixN ds.length i).map fun j => .lst (ds.set j v)
  | .dic t es, k, v => if es.length < big then (dput t es k v).map (.dic t) else none
  | _, _, _ => none
def rSetC (K : PySem.W.Frag) (mg : Str → Option Value) : TSet := fun o i v H Q => ∃ g h a u dc dk dv d', o = .ref a ∧ H a = some u ∧ g.W a ∧ Heaps K mg g h H ∧ CRep K H g dc u ∧ Rep K H g dk i ∧ Rep K H g dv v ∧ putC dc dk dv = some d' ∧
  ∀ u', CRep K H g d' u' → Q (upd H a u')
theorem RepL.set {K : PySem.W.Frag} {H : Hp} {g : G} {d : D} {v : V} (r : Rep K H g d v) : ∀ {ds : List D} {vs : List V} (j : Nat), RepL K H g ds vs → RepL K H g (ds.set j d) (vs.set j v)
  | _, _, _, .nil => .nil
  | _, _, 0, .cons _ t => .cons r t
  | _, _, j + 1, .cons q t => .cons q (RepL.set r j t)
theorem set_C (hu : X.A.units + 64 < cLine) : PSet X (rSetC X.K X.mg) := by
  intro pins s τ H o i v ov iv u0 Q I ro ri rv ⟨g, h, a, u, dc, dk, dv, d', ea, ha, hw, hs, c, rk, rd, e, k⟩
  subst ea
  unfold putC at e
  split at e
  · cases c with
    | lst rl =>
      obtain ⟨j, e1, rfl⟩ := Option.map_eq_some_iff.mp e
      cases rep_int rk
      exact set_list pins s τ H _ _ v ov iv u0 Q I ro ri rv ⟨a, _, _, j, rfl, rfl, ha, by rw [← rl.len]; exact e1, k _ (.lst (rl.set rd j))⟩
  · split at e
    · rename_i hl
      obtain ⟨es', e1, rfl⟩ := Option.map_eq_some_iff.mp e
      cases ro
      cases c with
      | dicK rk0 =>
        rename_i es kvs
        obtain ⟨key, e2, rfl⟩ := Option.map_eq_some_iff.mp (show (toKey dk).map (fun k => putE (fun x => decide (toKey x = some k)) es dk dv) = some es' from e1)
        have ed := toKey_some e2
        subst ed
        have ey : i = kV key := by
          cases key with
          | inl n => exact rep_int rk
          | inr x => exact rep_str rk
        subst ey
        exact d_setItem (by omega) I (DPut.k ha (by rw [← rk0.len, ← big_eq]; exact hl)) ri rv fun s' I' => ⟨_, I', k _ (.dicK (rk0.put rd))⟩
      | dicT rt0 =>
        rename_i es kvs
        obtain ⟨key, e2, rfl⟩ := Option.map_eq_some_iff.mp (show (toKeys dk).map (fun k => putE (fun x => decide (toKeys x = some k)) es dk dv) = some es' from e1)
        cases dk with
        | tup ds =>
          have ed := toKeyL_some (show toKeyL ds = some key from e2)
          subst ed
          obtain ⟨b, vs, rfl, hb, rl⟩ := rep_tup rk
          exact d_setItem (by omega) I (DPut.t ha (by rw [hb, repL_keys rl]) (by rw [← rt0.len, ← big_eq]; exact hl)) ri rv fun s' I' => ⟨_, I', k _ (.dicT (rt0.put rd))⟩
        | _ => cases e2
    · cases e
  · cases e
def stC (j : Nat) (k v : D) : M Fl := fun σ h => match h[j]? with
  | some ⟨false, .con d⟩ => match putC d k v with
    | some d' => .ok .nx σ (h.set j ⟨false, .con d'⟩)
    | none => .no
  | _ => .no
def stN (i : Nat) (k v : D) : M Fl := fun σ h => match σ[i]? with
  | some (.own d) => match putC d k v with
    | some d' => .ok .nx (σ.set i (.own d')) h
    | none => .no
  | some (.v (.ref j)) => stC j k v σ h
  | _ => .no
/-- the store to a cell -/
theorem stC_run {g : G} {h : Hd} {H : Hp} {σ : List Sl} {τ : L2.St} {D : Ends} {j : Nat} {k v : Bw.D} {x y z : V} (hs : Heaps X.K X.mg g h H) (ss : Slots X.K g σ τ H) (rj : Rep X.K H g (.ref j) x) (rk : Rep X.K H g k y) (rv : Rep X.K H g v z)
    (p : PostS X.K X.mg w D g H (stC j k v σ h)) : rSetC X.K X.mg x y z H (D.nx τ) := by
  unfold stC at p
  have go : ∀ o : Option Cell, h[j]? = o → PostS X.K X.mg w D g H (match o with | some ⟨false, .con d⟩ => (match putC d k v with | some d' => .ok .nx σ (h.set j ⟨false, .con d'⟩) | none => .no) | _ => .no) → rSetC X.K X.mg x y z H (D.nx τ) := by
    rintro (_ | ⟨_ | _, _ | d⟩) hc q
    · exact q.elim
    · exact q.elim
    · cases rj with
      | ref hi =>
        rename_i a
        obtain ⟨u, ru, k1, _⟩ := hs.cell j _ _ hc hi
        cases ru with
        | con rc =>
          have ha := k1 rfl
          have hmem : a ∈ g.ρ := List.mem_of_getElem? hi
          dsimp only at q
          cases e : putC d k v with
          | none => rw [e] at q; exact q.elim
          | some d' =>
            rw [e] at q
            refine ⟨g, h, a, u, d, k, v, d', rfl, ha, .inl hmem, hs, rc, rk, rv, e, fun u' c' => ?_⟩
            have st : Stays g H g (upd H a u') := Stays.upd (.inl hmem) ha rc.plain
            exact q g τ _ (hs.put hc hi ha rc.plain c'.plain ⟨u', .con (c'.stays st), fun _ => upd_same, fun z => nomatch z⟩) (ss.putC hmem (hs.sO a hmem) ha rc.plain) (Fr.upd (.inl hmem) (by first | exact hs2.sB a hmem | exact hs.sB a hmem) ha rc.plain)
    · exact q.elim
    · exact q.elim
  exact go _ rfl p
def stnM (i : Nat) (mk mv : M D) : M Fl := bnd mv fun v => fun σ h => if has σ i = true then bnd mk (fun k => stN i k v) σ h else .no
theorem ds_stn (hu : X.A.units + 64 < cLine) {i : Nat} {x : Str} {px ps : Pos} {k : Expr} {mk : M D} (hk : DE X w k mk) (hv : DE X w value mv) (hs : swapsWithSole [.Subscript (.Name x px) k ps] value pos.line X.env = pure false := by rfl) (hw : swappedStores [.Subscript (.Name x px) k ps] value X.env = pure none := by rfl)
    (h1 : (assignEach [.Subscript (.Name x px) k ps] X.env).map (·.2) = [assign (.Subscript (.Name x px) k ps) X.env] := by rfl)
    (ha : ∀ v, assign (.Subscript (.Name x px) k ps) X.env v = (do
      let ov ← holding [v] (eval (.Name x px) X.env)
      let iv ← holding [v, ov] (eval k X.env)
      standAt ps
      holding [v, ov, iv] (setItem ov iv v)
      release [v, ov, iv] []) := by intro _; rfl)
    (hN : X.N[i]? = some x := by rfl) (hvs : Vis X.env.scope x := by first | exact Or.inl rfl | exact Or.inr (Or.inl rfl) | exact Or.inr (Or.inr rfl)) (hd : (x == ("__debug__" : Str)) = false := by decide)
    (hcd : (x == ("__classdict__" : Str)) = false := by decide) : DS X w (.Assign [.Subscript (.Name x px) k ps] value pos) (stnM i mk mv) :=
  PS.imp' (ps_asg hv (pg_sub (pe_var hN hvs hd hcd) hk (set_C hu) ha) hs hw h1) fun D τ H h => by
    obtain ⟨g, σ, h0, hs, ss, p⟩ := h
    refine tM.bndS hs ss p fun v σ1 h1 g1 vv H1 hs1 ss1 f1 rv p1 => ?_
    by_cases hh : has σ1 i = true
    · skip
      rw [if_pos hh] at p1
      obtain ⟨x0, et⟩ := ss1.has hh
      refine ⟨x0, et, ?_⟩
      refine tM.bndS hs1 ss1 p1 fun y σ2 h2 g2 vy H2 hs2 ss2 f2 ry p2 => ?_
      unfold stN at p2
      cases es : σ2[i]? with
      | none => rw [es] at p2; exact p2.elim
      | some s =>
        rw [es] at p2
        have q := ss2.rep i s _ es et
        cases s with
        | un => exact p2.elim
        | v d =>
          cases d with
          | ref j =>
            obtain ⟨v', ev, r⟩ := q
            cases ev
            exact stC_run hs2 ss2 r ry (rv.stays f2.stays) p2
          | _ => exact p2.elim
        | own d =>
          obtain ⟨a, u, ev, o, l, r⟩ := q
          cases ev
          dsimp only at p2
          cases e : putC d y v with
          | none => rw [e] at p2; exact p2.elim
          | some d' =>
            rw [e] at p2
            refine ⟨g2, h2, a, u, d, y, v, d', rfl, l, .inr (.inl o), hs2, r, ry, rv.stays f2.stays, e, fun u' c' => ?_⟩
            have st : Stays g2 H2 g2 (upd H2 a u') := Stays.upd (.inr (.inl o)) l r.plain
            exact p2 g2 τ _ (hs2.putO o l r.plain c'.plain) (ss2.putO es et o l r.plain (c'.stays st)) (Fr.upd (.inr o) (by first | exact hs2.sOB a o | exact hs.sOB a o) l r.plain)
    · skip
      rw [if_neg hh] at p1; exact p1.elim
def stoM (mo mk mv : M D) : M Fl := bnd mv fun v => bnd mo fun o => bnd mk fun k => match o with | .ref j => stC j k v | _ => no
theorem ds_sto (hu : X.A.units + 64 < cLine) {k : Expr} {mk : M D} {ps : Pos} (ho : DE X w o mo) (hk : DE X w k mk) (hv : DE X w value mv) (hs : swapsWithSole [.Subscript o k ps] value pos.line X.env = pure false := by rfl) (hw : swappedStores [.Subscript o k ps] value X.env = pure none := by rfl)
    (h1 : (assignEach [.Subscript o k ps] X.env).map (·.2) = [assign (.Subscript o k ps) X.env] := by rfl)
    (ha : ∀ v, assign (.Subscript o k ps) X.env v = (do
      let ov ← holding [v] (eval o X.env)
      let iv ← holding [v, ov] (eval k X.env)
      standAt ps
      holding [v, ov, iv] (setItem ov iv v)
      release [v, ov, iv] []) := by intro _; rfl) : DS X w (.Assign [.Subscript o k ps] value pos) (stoM mo mk mv) :=
  PS.imp' (ps_asg hv (pg_sub ho hk (set_C hu) ha) hs hw h1) fun D τ H h => by
    obtain ⟨g, σ, h0, hs, ss, p⟩ := h
    refine tM.bndS hs ss p fun v σ1 h1 g1 vv H1 hs1 ss1 f1 rv p1 => ?_
    refine tM.bndS hs1 ss1 p1 fun x σ2 h2 g2 vx H2 hs2 ss2 f2 rx p2 => ?_
    refine tM.bndS hs2 ss2 p2 fun y σ3 h3 g3 vy H3 hs3 ss3 f3 ry p3 => ?_
    cases x with
    | ref j => exact stC_run hs3 ss3 (rx.stays f3.stays) ry ((rv.stays f2.stays).stays f3.stays) p3
    | _ => exact p3.elim

/-! ### methods that change a list or dict -/
def rMut (K : PySem.W.Frag) (mg : Str → Option Value) (f : D → List D → Option (D × D)) : V → List V → Hp → VK → Prop := fun x xs H Q => ∃ g h a u dc das d' res, x = .ref a ∧ H a = some u ∧ g.W a ∧ Heaps K mg g h H ∧ CRep K H g dc u ∧ RepL K H g das xs ∧ f dc das = some (d', res) ∧
  ∀ u' v, CRep K H g d' u' → Rep K H g res v → Q v (upd H a u')
def mutC (f : D → List D → Option (D × D)) (j : Nat) (as : List D) : M D := fun σ h => match h[j]? with
  | some ⟨false, .con d⟩ => match f d as with
    | some (d', r) => .ok r σ (h.set j ⟨false, .con d'⟩)
    | none => .no
  | _ => .no
def mutN (f : D → List D → Option (D × D)) (i : Nat) (as : List D) : M D := fun σ h => match σ[i]? with
  | some (.own d) => match f d as with
    | some (d', r) => .ok r (σ.set i (.own d')) h
    | none => .no
  | some (.v (.ref j)) => mutC f j as σ h
  | _ => .no
theorem mutC_run {f : D → List D → Option (D × D)} {g : G} {h : Hd} {H : Hp} {σ : List Sl} {τ : L2.St} {Q : VK} {j : Nat} {as : List D} {x : V} {xs : List V} (hs : Heaps X.K X.mg g h H) (ss : Slots X.K g σ τ H) (rj : Rep X.K H g (.ref j) x) (ra : RepL X.K H g as xs)
    (p : Post X.K X.mg (Rep X.K) w Q g H τ (mutC f j as σ h)) : rMut X.K X.mg f x xs H Q := by
  unfold mutC at p
  have go : ∀ o : Option Cell, h[j]? = o → Post X.K X.mg (Rep X.K) w Q g H τ (match o with | some ⟨false, .con d⟩ => (match f d as with | some (d', r) => .ok r σ (h.set j ⟨false, .con d'⟩) | none => .no) | _ => .no) → rMut X.K X.mg f x xs H Q := by
    rintro (_ | ⟨_ | _, _ | d⟩) hc q
    · exact q.elim
    · exact q.elim
    · cases rj with
      | ref hi =>
        rename_i a
        obtain ⟨u, ru, k1, _⟩ := hs.cell j _ _ hc hi
        cases ru with
        | con rc =>
          have ha := k1 rfl
          have hmem : a ∈ g.ρ := List.mem_of_getElem? hi
          dsimp only at q
          cases e : f d as with
          | none => rw [e] at q; exact q.elim
          | some d' =>
            obtain ⟨d', res⟩ := d'
            rw [e] at q
            refine ⟨g, h, a, u, d, as, d', res, rfl, ha, .inl hmem, hs, rc, ra, e, fun u' v c' rr => ?_⟩
            have st : Stays g H g (upd H a u') := Stays.upd (.inl hmem) ha rc.plain
            exact q g v _ (hs.put hc hi ha rc.plain c'.plain ⟨u', .con (c'.stays st), fun _ => upd_same, fun z => nomatch z⟩) (ss.putC hmem (hs.sO a hmem) ha rc.plain) (Fr.upd (.inl hmem) (by first | exact hs2.sB a hmem | exact hs.sB a hmem) ha rc.plain) (rr.stays st)
    · exact q.elim
    · exact q.elim
  exact go _ rfl p
theorem mutN_run {f : D → List D → Option (D × D)} {g : G} {h : Hd} {H : Hp} {σ : List Sl} {τ : L2.St} {Q : VK} {i : Nat} {as : List D} {x : V} {xs : List V} (hs : Heaps X.K X.mg g h H) (ss : Slots X.K g σ τ H) (et : τ[i]? = some (some x)) (ra : RepL X.K H g as xs)
    (p : Post X.K X.mg (Rep X.K) w Q g H τ (mutN f i as σ h)) : rMut X.K X.mg f x xs H Q := by
  unfold mutN at p
  cases es : σ[i]? with
  | none => rw [es] at p; exact p.elim
  | some s =>
    rw [es] at p
    have q := ss.rep i s _ es et
    cases s with
    | un => exact p.elim
    | v d =>
      cases d with
      | ref j =>
        obtain ⟨v', ev, r⟩ := q
        cases ev
        exact mutC_run hs ss r ra p
      | _ => exact p.elim
    | own d =>
      obtain ⟨a, u, ev, o, l, r⟩ := q
      cases ev
      dsimp only at p
      cases e : f d as with
      | none => rw [e] at p; exact p.elim
      | some d' =>
        obtain ⟨d', res⟩ := d'
        rw [e] at p
        refine ⟨g, h, a, u, d, as, d', res, rfl, l, .inr (.inl o), hs, r, ra, e, fun u' v c' rr => ?_⟩
        have st : Stays g H g (upd H a u') := Stays.upd (.inr (.inl o)) l r.plain
        exact p g v _ (hs.putO o l r.plain c'.plain) (ss.putO es et o l r.plain (c'.stays st)) (Fr.upd (.inr o) (by first | exact hs2.sOB a o | exact hs.sOB a o) l r.plain) (rr.stays st)
/-- the type of what a slot or a cell holds -/
def isTy (T : String) : D → Bool
  | .lst _ => T == "list"
  | .dic _ _ => T == "dict"
  | _ => false
def tyN (T : String) (σ : List Sl) (h : Hd) (i : Nat) : Bool := match σ[i]? with
  | some (.own d) => isTy T d
  | some (.v (.ref j)) => match h[j]? with
    | some ⟨false, .con d⟩ => isTy T d
    | _ => false
  | _ => false
theorem tyV_c {K : PySem.W.Frag} {H : Hp} {g : G} {T : String} {d : D} {a : Addr} {u : HO} (e : isTy T d = true) (ha : H a = some u) (c : CRep K H g d u) : tyV K T (.ref a) H := by
  cases c with
  | lst r => exact .inl ⟨by simpa [isTy] using e, _, SqL.of ha⟩
  | dicK r => exact .inr (.inr (.inl ⟨by simpa [isTy] using e, .inl ⟨_, ha⟩⟩))
  | dicT r => exact .inr (.inr (.inl ⟨by simpa [isTy] using e, .inr ⟨_, ha⟩⟩))
def tyC (T : String) (h : Hd) (j : Nat) : Bool := match h[j]? with
  | some ⟨false, .con d⟩ => isTy T d
  | _ => false
theorem tyC_run {T : String} {g : G} {h : Hd} {H : Hp} {j : Nat} {x : V} (hs : Heaps X.K X.mg g h H) (rj : Rep X.K H g (.ref j) x) (e : tyC T h j = true) : tyV X.K T x H := by
  unfold tyC at e
  have go : ∀ o : Option Cell, h[j]? = o → (match o with | some ⟨false, .con d⟩ => isTy T d | _ => false) = true → tyV X.K T x H := by
    rintro (_ | ⟨_ | _, _ | d⟩) hc q
    · cases q
    · cases q
    · cases rj with
      | ref hi =>
        obtain ⟨u, ru, k1, _⟩ := hs.cell j _ _ hc hi
        cases ru with
        | con rc => exact tyV_c q (k1 rfl) rc
    · cases q
    · cases q
  exact go _ rfl e
theorem tyN_run {T : String} {g : G} {h : Hd} {H : Hp} {σ : List Sl} {τ : L2.St} {i : Nat} (hs : Heaps X.K X.mg g h H) (ss : Slots X.K g σ τ H) (e : tyN T σ h i = true) : ∃ x, τ[i]? = some (some x) ∧ tyV X.K T x H := by
  unfold tyN at e
  cases es : σ[i]? with
  | none => rw [es] at e; cases e
  | some s =>
    rw [es] at e
    have il : i < τ.length := by rw [← ss.len]; exact (List.getElem?_eq_some_iff.mp es).1
    have et : τ[i]? = some τ[i] := List.getElem?_eq_getElem il
    have q := ss.rep i s _ es et
    cases s with
    | un => cases e
    | v d =>
      cases d with
      | ref j => obtain ⟨v', ev, r⟩ := q; exact ⟨v', by rw [et, ev], tyC_run hs r e⟩
      | _ => cases e
    | own d => obtain ⟨a, u, ev, o, l, r⟩ := q; exact ⟨.ref a, by rw [et, ev], tyV_c e l r⟩
def mutnM (T : String) (f : D → List D → Option (D × D)) (i : Nat) (ma : M (List D)) : M D := fun σ h => if tyN T σ h i = true then bnd ma (fun as => mutN f i as) σ h else .no
def mutoM (T : String) (f : D → List D → Option (D × D)) (mo : M D) (ma : M (List D)) : M D := bnd mo fun o => match o with
  | .ref j => fun σ h => if tyC T h j = true then bnd ma (fun as => mutC f j as) σ h else .no
  | _ => no
variable {es : List Expr} {ma : M (List D)} {name : Str} {apos cpos : Pos} {T id : String} {f : D → List D → Option (D × D)}
theorem de_mutn {i : Nat} {x : Str} {px : Pos} (pa : PlainAttrs T) (slot : Slot T name id) (hty : typeOf (.builtin id) = pure (.type "method_descriptor")) (hm : MtR X id (rMut X.K X.mg f)) (ha : DA X w (e :: es) ma)
    (hN : X.N[i]? = some x := by rfl) (hvs : Vis X.env.scope x := by first | exact Or.inl rfl | exact Or.inr (Or.inl rfl) | exact Or.inr (Or.inr rfl)) (hd : (x == ("__debug__" : Str)) = false := by decide)
    (hcd : (x == ("__classdict__" : Str)) = false := by decide) (hbase : attributeBase (.Name x px) name X.env (eval (.Name x px) X.env) = eval (.Name x px) X.env := by rfl)
    (hfew : ((backTo cpos (starEach (e :: es) X.env)).all (fun x => !x.1) && (backToKw cpos (keywordEach [] X.env)).all (fun x => x.1.isSome)
      && decide ((e :: es).length + ([] : List Keyword).length + (if ([] : List Keyword).isEmpty then 0 else 1) < 30)) = true := by rfl)
    (hline : (apos.endLine == cpos.line) = true := by rfl) (hs : starEach (e :: es) X.env = (false, eval e X.env) :: starEach es X.env := by rfl) (hplain : (backTo cpos (starEach es X.env)).any (·.1) = false := by rfl) :
    DE X w (.Call (.Attribute (.Name x px) name apos) (e :: es) [] cpos) (mutnM T f i ma) :=
  PE.imp' (pe_bm pa slot hty hm (pe_var hN hvs hd hcd) ha hbase hfew hline hs hplain) fun τ H Q h => by
    obtain ⟨g, σ, h0, hs, ss, p⟩ := h
    unfold mutnM at p
    by_cases hh : tyN T σ h0 i = true
    · rw [if_pos hh] at p
      obtain ⟨x, et, ty⟩ := tyN_run hs ss hh
      refine ⟨x, et, ty, ?_⟩
      refine tM.bnd hs ss p fun as σ1 h1 g1 vs H1 hs1 ss1 f1 ra p1 => ?_
      exact mutN_run hs1 ss1 et ra p1
    · rw [if_neg hh] at p; exact p.elim
theorem de_mutn0 {i : Nat} {x : Str} {px : Pos} (pa : PlainAttrs T) (slot : Slot T name id) (hty : typeOf (.builtin id) = pure (.type "method_descriptor")) (hm : MtR X id (rMut X.K X.mg f))
    (hN : X.N[i]? = some x := by rfl) (hvs : Vis X.env.scope x := by first | exact Or.inl rfl | exact Or.inr (Or.inl rfl) | exact Or.inr (Or.inr rfl)) (hd : (x == ("__debug__" : Str)) = false := by decide)
    (hcd : (x == ("__classdict__" : Str)) = false := by decide) (hbase : attributeBase (.Name x px) name X.env (eval (.Name x px) X.env) = eval (.Name x px) X.env := by rfl) (hline : (apos.endLine == cpos.line) = true := by rfl) :
    DE X w (.Call (.Attribute (.Name x px) name apos) [] [] cpos) (mutnM T f i (ret [])) :=
  PE.imp' (pe_bm0 pa slot hty hm (pe_var hN hvs hd hcd) hbase hline) fun τ H Q h => by
    obtain ⟨g, σ, h0, hs, ss, p⟩ := h
    unfold mutnM at p
    by_cases hh : tyN T σ h0 i = true
    · rw [if_pos hh] at p
      obtain ⟨x, et, ty⟩ := tyN_run hs ss hh
      exact ⟨x, et, ty, mutN_run hs ss et .nil p⟩
    · rw [if_neg hh] at p; exact p.elim
theorem de_muto (pa : PlainAttrs T) (slot : Slot T name id) (hty : typeOf (.builtin id) = pure (.type "method_descriptor")) (hm : MtR X id (rMut X.K X.mg f)) (ho : DE X w o mo) (ha : DA X w (e :: es) ma)
    (hbase : attributeBase o name X.env (eval o X.env) = eval o X.env := by rfl)
    (hfew : ((backTo cpos (starEach (e :: es) X.env)).all (fun x => !x.1) && (backToKw cpos (keywordEach [] X.env)).all (fun x => x.1.isSome)
      && decide ((e :: es).length + ([] : List Keyword).length + (if ([] : List Keyword).isEmpty then 0 else 1) < 30)) = true := by rfl)
    (hline : (apos.endLine == cpos.line) = true := by rfl) (hs : starEach (e :: es) X.env = (false, eval e X.env) :: starEach es X.env := by rfl) (hplain : (backTo cpos (starEach es X.env)).any (·.1) = false := by rfl) :
    DE X w (.Call (.Attribute o name apos) (e :: es) [] cpos) (mutoM T f mo ma) :=
  PE.imp' (pe_bm pa slot hty hm ho ha hbase hfew hline hs hplain) fun τ H Q h => by
    obtain ⟨g, σ, h0, hs, ss, p⟩ := h
    refine tM.bnd hs ss p fun d σ1 h1 g1 vx H1 hs1 ss1 f1 rx p1 => ?_
    cases d with
    | ref j =>
      dsimp only at p1
      by_cases hh : tyC T h1 j = true
      · rw [if_pos hh] at p1
        refine ⟨tyC_run hs1 rx hh, ?_⟩
        refine tM.bnd hs1 ss1 p1 fun as σ2 h2 g2 vs H2 hs2 ss2 f2 ra p2 => ?_
        exact mutC_run hs2 ss2 (rx.stays f2.stays) ra p2
      · rw [if_neg hh] at p1; exact p1.elim
    | _ => exact p1.elim
theorem de_muto0 (pa : PlainAttrs T) (slot : Slot T name id) (hty : typeOf (.builtin id) = pure (.type "method_descriptor")) (hm : MtR X id (rMut X.K X.mg f)) (ho : DE X w o mo)
    (hbase : attributeBase o name X.env (eval o X.env) = eval o X.env := by rfl) (hline : (apos.endLine == cpos.line) = true := by rfl) :
    DE X w (.Call (.Attribute o name apos) [] [] cpos) (mutoM T f mo (ret [])) :=
  PE.imp' (pe_bm0 pa slot hty hm ho hbase hline) fun τ H Q h => by
    obtain ⟨g, σ, h0, hs, ss, p⟩ := h
    refine tM.bnd hs ss p fun d σ1 h1 g1 vx H1 hs1 ss1 f1 rx p1 => ?_
    cases d with
    | ref j =>
      dsimp only at p1
      by_cases hh : tyC T h1 j = true
      · rw [if_pos hh] at p1
        exact ⟨tyC_run hs1 rx hh, mutC_run hs1 ss1 rx .nil p1⟩
      · rw [if_neg hh] at p1; exact p1.elim
    | _ => exact p1.elim
/-- append, extend, pop, reverse -/
def fAppend : D → List D → Option (D × D)
  | .lst ds, [d] => if ds.length < big then some (.lst (ds ++ [d]), .non) else none
  | _, _ => none
theorem mt_appendC : MtR X "list.append" (rMut X.K X.mg fAppend) := by
  intro pins s τ H x xs v us Q I rx rs ⟨g, h, a, u, dc, das, d', res, ea, ha, hw, hs, c, ra, e, k⟩
  subst ea
  unfold fAppend at e
  split at e
  · split at e
    · rename_i hl
      cases e
      cases c with
      | lst rl =>
        cases ra with
        | cons r1 t =>
          cases t
          exact mt_append pins s τ H _ _ v us Q I rx rs ⟨a, _, _, rfl, rfl, ha, by rw [← rl.len, ← big_eq]; exact hl, k _ _ (.lst (rl.append (.cons r1 .nil))) .non⟩
    · cases e
  · cases e
def fExtend : D → List D → Option (D × D)
  | .lst ds, [.lst es] => if ds.length + es.length ≤ big then some (.lst (ds ++ es), .non) else none
  | _, _ => none
theorem mt_extendC : MtR X "list.extend" (rMut X.K X.mg fExtend) := by
  intro pins s τ H x xs v us Q I rx rs ⟨g, h, a, u, dc, das, d', res, ea, ha, hw, hs, c, ra, e, k⟩
  subst ea
  unfold fExtend at e
  split at e
  · split at e
    · rename_i hl
      cases e
      cases c with
      | lst rl =>
        cases ra with
        | cons r1 t =>
          cases t
          obtain ⟨b, ws, rfl, hb, _, rl2⟩ := rep_lst r1
          exact mt_extend pins s τ H _ _ v us Q I rx rs ⟨a, b, _, ws, rfl, rfl, ha, hb, by rw [← rl.len, ← rl2.len, ← big_eq]; exact hl, k _ _ (.lst (rl.append rl2)) .non⟩
    · cases e
  · cases e
def fPop : D → List D → Option (D × D)
  | .lst ds, [] => (ds[ds.length - 1]?).map fun d => (.lst ds.dropLast, d)
  | .lst ds, [.int i] => if -(2 ^ 63) ≤ i ∧ i < 2 ^ 63 then (ixN ds.length i).bind fun j => (ds[j]?).map fun d => (.lst (ds.eraseIdx j), d) else none
  | _, _ => none
theorem RepL.dropLast {K : PySem.W.Frag} {H : Hp} {g : G} {ds : List D} {vs : List V} (r : RepL K H g ds vs) : RepL K H g ds.dropLast vs.dropLast := by
  rw [List.dropLast_eq_take, List.dropLast_eq_take, r.len]
  exact r.take _
theorem RepL.erase {K : PySem.W.Frag} {H : Hp} {g : G} : ∀ {ds : List D} {vs : List V} (j : Nat), RepL K H g ds vs → RepL K H g (ds.eraseIdx j) (vs.eraseIdx j)
  | _, _, _, .nil => by simp; exact .nil
  | _, _, 0, .cons _ t => by simpa using t
  | _, _, j + 1, .cons r t => by simp; exact .cons r (RepL.erase j t)
theorem mt_popC : MtR X "list.pop" (rMut X.K X.mg fPop) := by
  intro pins s τ H x xs v us Q I rx rs ⟨g, h, a, u, dc, das, d', res, ea, ha, hw, hs, c, ra, e, k⟩
  subst ea
  unfold fPop at e
  split at e
  · obtain ⟨d, e1, e2⟩ := Option.map_eq_some_iff.mp e
    cases e2
    cases c with
    | lst rl =>
      cases ra
      obtain ⟨y, ey, ry⟩ := rl.get e1
      exact mt_pop pins s τ H _ _ v us Q I rx rs ⟨a, _, y, rfl, rfl, ha, by rw [← rl.len]; exact ey, k _ _ (.lst rl.dropLast) ry⟩
  · split at e
    · rename_i hb
      obtain ⟨j, e0, e'⟩ := Option.bind_eq_some_iff.mp e
      obtain ⟨d, e1, e2⟩ := Option.map_eq_some_iff.mp e'
      cases e2
      cases c with
      | lst rl =>
        cases ra with
        | cons r1 t =>
          cases t
          cases rep_int r1
          obtain ⟨y, ey, ry⟩ := rl.get e1
          obtain ⟨s1, s2, _, _⟩ := ixN_seq e0
          exact mt_popAt pins s τ H _ _ v us Q I rx rs ⟨a, _, _, j, y, rfl, rfl, ha, hb.1, hb.2, by rw [← rl.len]; exact s1, ey, k _ _ (.lst (rl.erase j)) ry⟩
    · cases e
  · cases e
def fReverse : D → List D → Option (D × D)
  | .lst ds, [] => some (.lst ds.reverse, .non)
  | _, _ => none
theorem RepL.reverse {K : PySem.W.Frag} {H : Hp} {g : G} : ∀ {ds : List D} {vs : List V}, RepL K H g ds vs → RepL K H g ds.reverse vs.reverse
  | _, _, .nil => .nil
  | _, _, .cons r t => by rw [List.reverse_cons, List.reverse_cons]; exact (RepL.reverse t).append (.cons r .nil)
theorem mt_reverseC : MtR X "list.reverse" (rMut X.K X.mg fReverse) := by
  intro pins s τ H x xs v us Q I rx rs ⟨g, h, a, u, dc, das, d', res, ea, ha, hw, hs, c, ra, e, k⟩
  subst ea
  unfold fReverse at e
  split at e
  · cases e
    cases c with
    | lst rl =>
      cases ra
      exact mt_reverse pins s τ H _ _ v us Q I rx rs ⟨a, _, rfl, rfl, ha, k _ _ (.lst rl.reverse) .non⟩
  · cases e
/-- d.pop(k) of a dict, there -/
def fDPop : D → List D → Option (D × D)
  | .dic false es, [d] => ((toKey d).bind (getK es)).bind fun v => (ddel es d).map fun es' => (.dic false es', v)
  | _, _ => none
theorem mt_dpopC : MtR X "dict.pop" (rMut X.K X.mg fDPop) := by
  intro pins s τ H x xs v us Q I rx rs ⟨g, h, a, u, dc, das, d', res, ea, ha, hw, hs, c, ra, e, k⟩
  subst ea
  unfold fDPop at e
  split at e
  · obtain ⟨d1, e1, e2⟩ := Option.bind_eq_some_iff.mp e
    obtain ⟨es', e3, e4⟩ := Option.map_eq_some_iff.mp e2
    cases e4
    obtain ⟨key, e5, e6⟩ := Option.bind_eq_some_iff.mp e1
    have ed := toKey_some e5
    subst ed
    unfold ddel at e3
    rw [e5] at e3
    cases e3
    cases c with
    | dicK rk =>
      cases ra with
      | cons r1 t =>
        cases t
        obtain ⟨u1, rfl, ru⟩ := Vals.one rs
        cases rx
        rename_i vk
        have ey : vk = kV key := by
          cases key with
          | inl n => exact rep_int r1
          | inr z => exact rep_str r1
        subst ey
        have rel := rk.val (k := key)
        rw [e6] at rel
        rename_i kvs
        cases e7 : valV kvs key with
        | none => rw [e7] at rel; exact (rel : False).elim
        | some y =>
          rw [e7] at rel
          exact d_pop I ha ru e7 (.inl rfl) fun w' s' I' rw' => ⟨y, _, I', rw', k _ _ (.dicK rk.del) rel⟩
  · cases e
end
end Bw
namespace Bw
open PySem L2

inductive RF where
  | ret (d : D) (h : Hd) | exc (x : D) (h : Hd) | no
abbrev FnD := List D → Hd → RF
/-- a def's promise: it does what m tells -/
def SpD (K : PySem.W.Frag) (mg : Str → Option Value) (n : Nat) (m : FnD) : Sp := fun vs H Q E => vs.length = n ∧ ∃ g h ds, Heaps K mg g h H ∧ (∀ a, ¬ g.O a) ∧ RepL K H g ds vs ∧ match m ds h with
  | .ret d h' => ∀ g' v H', Heaps K mg g' h' H' → Fr g H g' H' → Rep K H' g' d v → Q v H'
  | .exc x h' => ∀ g' H' cls dx, Heaps K mg g' h' H' → Fr g H g' H' → XRep K mg H' g' x cls dx → E cls dx H'
  | .no => False
def cal (m : FnD) (ds : List D) : M D := fun σ h => match m ds h with
  | .ret d h' => .ok d σ h'
  | .exc x h' => .exc x σ h'
  | .no => .no
/-- the frame that calls, as the callee has it -/
def G.inn (g : G) : G := { ρ := g.ρ, O := fun _ => False, B := fun a => g.B a ∨ g.O a }
def G.out (g g' : G) : G := { ρ := g'.ρ, O := g.O, B := g.B }
section
variable {K : PySem.W.Frag} {mg : Str → Option Value} {g g' : G} {h h' : Hd} {H H' : Hp} {σ : List Sl} {τ : L2.St} {w : WX}
theorem inn_W {a : Addr} : g.inn.W a ↔ g.W a := by
  unfold G.W G.inn
  constructor
  · rintro (q | q | q | q)
    · exact .inl q
    · exact q.elim
    · exact .inr (.inr q)
    · exact .inr (.inl q)
  · rintro (q | q | q)
    · exact .inl q
    · exact .inr (.inr (.inr q))
    · exact .inr (.inr (.inl q))
theorem Stays.inn : Stays g H g.inn H := ⟨fun _ _ q => q, fun _ _ q => q, fun _ _ q nw => ⟨q, fun z => nw (inn_W.mp z)⟩, fun _ _ q _ => q, fun _ _ _ q => q⟩
theorem Heaps.inn (hs : Heaps K mg g h H) : Heaps K mg g.inn h H :=
  ⟨hs.len, hs.nd, fun i c a e1 e2 => (hs.cell i c a e1 e2).stays .inn fun _ q => q, fun _ _ z => z, fun a q z => z.elim (hs.sB a q) (hs.sO a q), fun _ z => z.elim, fun a q => hs.live a (inn_W.mp q), fun a xs e q => hs.noT a xs e (inn_W.mp q)⟩
theorem out_W (f : Fr g.inn H g' H') {a : Addr} (q : (g.out g').W a) : g'.W a := by
  rcases q with q | q | q
  · exact .inl q
  · exact .inr (.inr (by rw [f.B]; exact .inr q))
  · exact .inr (.inr (by rw [f.B]; exact .inl q))
theorem Stays.out (f : Fr g.inn H g' H') : Stays g' H' (g.out g') H' := ⟨fun _ _ q => q, fun _ _ q => q, fun _ _ q nw => ⟨q, fun z => nw (out_W f z)⟩, fun _ _ q _ => q, fun _ _ _ q => q⟩
theorem Heaps.out (hs0 : Heaps K mg g h H) (hs : Heaps K mg g' h' H') (f : Fr g.inn H g' H') : Heaps K mg (g.out g') h' H' :=
  ⟨hs.len, hs.nd, fun i c a e1 e2 => (hs.cell i c a e1 e2).stays (.out f) fun _ q => q, fun a q z => hs.sB a q (by rw [f.B]; exact .inr z), fun a q z => hs.sB a q (by rw [f.B]; exact .inl z), hs0.sOB, fun a q => hs.live a (out_W f q), fun a xs e q => hs.noT a xs e (out_W f q)⟩
theorem Fr.out (f : Fr g.inn H g' H') : Fr g H (g.out g') H' := ⟨f.pre, f.new, rfl, fun _ q => .inl q, fun a o e h1 => f.keep a o e (.inl h1), fun a u q nw => f.rd a u q fun z => nw (inn_W.mp z), fun a u q nw => f.ls a u q fun z => nw (inn_W.mp z), f.tup, f.frz, f.live⟩
theorem Slots.out (hs : Heaps K mg g h H) (ss : Slots K g σ τ H) (f : Fr g.inn H g' H') : Slots K (g.out g') σ τ H' :=
  ⟨ss.len, fun i s x e1 e2 => (ss.rep i s x e1 e2).stays f.out.stays (fun _ q => q) fun a o q e => f.keep a o e (.inr q), ss.inj⟩
theorem XRep.stays {H2 : Hp} {g2 : G} {x : D} {cls : Value} {dx : Option Addr} (st : Stays g H g2 H2) (hk : ∀ a u, H a = some (.xd u) → H2 a = some (.xd u)) (r : XRep K mg H g x cls dx) : XRep K mg H2 g2 x cls dx := by
  obtain ⟨c, fs, rfl, hm, q⟩ := r
  refine ⟨c, fs, rfl, hm, ?_⟩
  rcases q with q | ⟨a, gs, e, ha, rf⟩
  · exact .inl q
  · exact .inr ⟨a, gs, e, hk a _ ha, rf.stays st⟩
/-- what a call asks of its callee -/
theorem call_ask {m : FnD} {n : Nat} {ds : List D} {vs : List V} {Q : VK} (hn : ds.length = n) (hs : Heaps K mg g h H) (ss : Slots K g σ τ H) (rl : RepL K H g ds vs) (p : Post K mg (Rep K) w Q g H τ (cal m ds σ h)) :
    SpD K mg n m vs H Q (WE w τ) := by
  refine ⟨by rw [← rl.len]; exact hn, g.inn, h, ds, hs.inn, fun _ z => z, rl.stays .inn, ?_⟩
  unfold cal at p
  cases e : m ds h with
  | ret d h' =>
    rw [e] at p
    exact fun g' v H' hs' f r => p (g.out g') v H' (hs.out hs' f) (ss.out hs f) f.out (r.stays (.out f))
  | exc x h' =>
    rw [e] at p
    exact fun g' H' cls dx hs' f r => p (g.out g') H' cls dx (hs.out hs' f) (ss.out hs f) f.out (r.stays (.out f) fun _ _ q => q)
  | no => rw [e] at p; exact p
end
section
variable {X : Cx} {w : WX} {e o : Expr} {es : List Expr} {ma : M (List D)} {mo : M D} {k n : Nat} {f : Addr} {fd : FuncData} {ps : List Str} {m : FnD} {x : Str} {p pos apos : Pos}
def calM (n : Nat) (m : FnD) (ma : M (List D)) : M D := bnd ma fun ds => if ds.length = n then cal m ds else no
theorem de_call (F : FnOk X.prog X.w X.K X.mg X.base (L2.CX X.prog X.w) k f fd ps (SpD X.K X.mg n m)) (hr : Room k X.A) (hg : Gl X x) (hm : X.mg x = some (.ref f)) (hk : PySem.W.keepIn X.K (.ref f) = true) (hb : Binds X.K fd ps []) (tk : Takes X w) (ha : DA X w (e :: es) ma)
    (hdb : (x == ("__debug__" : Str)) = false := by decide) (he : starEach (e :: es) X.env = (false, eval e X.env) :: starEach es X.env := by rfl) (hpl : (backTo pos (starEach es X.env)).any (·.1) = false := by rfl) : DE X w (.Call (.Name x p) (e :: es) [] pos) (calM n m ma) :=
  PE.imp' (pe_callS (E := WE w) F hr hg hm hk hb (fun σ => passAt tk σ) ha hdb he hpl) fun τ H Q h => by
    obtain ⟨g, σ, h0, hs, ss, p⟩ := h
    refine tM.bnd hs ss p fun ds σ1 h1 g1 vs H1 hs1 ss1 f1 rl p1 => ?_
    by_cases hn : ds.length = n
    · rw [if_pos hn] at p1; exact call_ask hn hs1 ss1 rl p1
    · rw [if_neg hn] at p1; exact p1.elim
/-- o.m(..): the method by the class -/
structure MOk (X : Cx) (name : Str) (c : Str) (n : Nat) (m : FnD) : Prop where
  ex : ∃ (C f : Addr) (fd : FuncData) (ps : List Str) (k : Nat), X.mg c = some (.ref C) ∧ Cls X.K C ∧ Meth X.K C name f ∧ FnOk X.prog X.w X.K X.mg X.base (L2.CX X.prog X.w) k f fd ps (SpD X.K X.mg n m) ∧ Room k X.A ∧ Binds X.K fd ps []
def pick (alts : List (Str × FnD)) (c : Str) : Option FnD := alts.lookup c
def metM (alts : List (Str × FnD)) (name : Str) (n : Nat) (mo : M D) (ma : M (List D)) : M D := bnd mo fun o => fun σ h => match insOf (alts.map (·.1)) h o with
  | some (_, c, fs) => match pick alts c with
    | some m => if fs.lookup name = none then bnd ma (fun as => if as.length + 1 = n then cal m (o :: as) else no) σ h else .no
    | none => .no
  | none => .no
theorem MOk.run {name : Str} {c : Str} (M : MOk X name c n m) {τ : L2.St} {H H2 : Hp} {Q : VK} {pins : List (Addr × PySem.Obj)} {s2 : Shared} {us : List Value} {vs : List V} {g : G} {h : Hd} {σ : List Sl} {ds : List D} (tk : Takes X w) (I : L2.Inv X pins τ H2 s2) (rv : Vals vs us)
    (hn : ds.length = n) (hs : Heaps X.K X.mg g h H2) (ss : Slots X.K g σ τ H2) (rl : RepL X.K H2 g ds vs) (p : Post X.K X.mg (Rep X.K) w Q g H2 τ (cal m ds σ h)) {C f : Addr} (hC : X.mg c = some (.ref C)) (hf : Meth X.K C name f) :
    wpAny (model X.prog X.w) X.A (call (.ref f) us) (EP X pins τ Q) X.xe s2 := by
  obtain ⟨C', f', fd, ps, k, h1, h2, h3, F, hr, hb⟩ := M.ex
  rw [hC] at h1; cases h1
  have ef : f = f' := by
    have a := hf.at_
    rw [h3.at_] at a
    cases a; rfl
  subst ef
  exact run_fnS F hr hb (passAt tk τ) I rv (call_ask hn hs ss rl p)
theorem de_meth {alts : List (Str × FnD)} {name : Str} {pl : Sem Bool} (hA : ∀ c m, pick alts c = some m → MOk X name c n m) (tk : Takes X w) (ho : DE X w o mo) (ha : DA X w (e :: es) ma)
    (hst : starEach (e :: es) X.env = (false, eval e X.env) :: starEach es X.env := by rfl) (hpl : (backTo pos (starEach es X.env)).any (·.1) = false := by rfl)
    (ht : eval (.Call (.Attribute o name apos) (e :: es) [] pos) X.env = (do
      let ov ← eval o X.env
      standAt apos.atName
      let (f, first) ← holding [ov] (getMethod ov name pl)
      callWith pos f first (backTo pos (starEach (e :: es) X.env)) (backToKw pos (keywordEach [] X.env))) := by rfl) :
    DE X w (.Call (.Attribute o name apos) (e :: es) [] pos) (metM alts name n mo ma) := by
  refine ⟨fun pins s τ H Q I hq => ?_⟩
  obtain ⟨g, σ, h0, hs, ss, p⟩ := hq
  refine PySem.W.methodCall_KW (pl := pl) (thn (ho.run pins s τ H _ I (tM.bnd hs ss p fun d σ1 h1 g1 vx H1 hs1 ss1 f1 rx p1 =>
    (show (∃ (i : Nat) (c : Str) (fs : List (Str × D)) (m : FnD) (a C dx : Addr) (gs : List (Str × V)), pick alts c = some m ∧ vx = .ref a ∧ H1 a = some (.ins C dx gs) ∧ X.mg c = some (.ref C) ∧ gs.lookup name = none ∧
      tA X.K X.mg w ma τ H1 fun vs H2 => ∃ g2 σ2 h2 as, Heaps X.K X.mg g2 h2 H2 ∧ Slots X.K g2 σ2 τ H2 ∧ RepL X.K H2 g2 (.ref i :: as) (vx :: vs) ∧ (D.ref i :: as).length = n ∧ Post X.K X.mg (Rep X.K) w Q g2 H2 τ (cal m (.ref i :: as) σ2 h2)) from ?_))) fun u s1 q1 => ?_) ht
  · cases e1 : insOf (alts.map (·.1)) h1 d with
    | none => rw [e1] at p1; exact p1.elim
    | some q =>
      obtain ⟨i, c, fs⟩ := q
      skip
      rw [e1] at p1
      dsimp only at p1
      cases e2 : pick alts c with
      | none => rw [e2] at p1; exact p1.elim
      | some m =>
        rw [e2] at p1
        dsimp only at p1
        obtain ⟨rfl, e3, hm⟩ := insOf_some e1
        obtain ⟨a, C, dx, gs, rfl, hi, ha', hc, rf⟩ := ins_at hs1 e3 rx
        by_cases hl : fs.lookup name = none
        · rw [if_pos hl] at p1
          refine ⟨i, c, fs, m, a, C, dx, gs, e2, rfl, ha', hc, rf.lookup_none hl, ?_⟩
          refine tM.bnd hs1 ss1 p1 fun as σ2 h2 g2 vs H2 hs2 ss2 f2 rl p2 => ?_
          by_cases hn : as.length + 1 = n
          · rw [if_pos hn] at p2
            exact ⟨g2, σ2, h2, as, hs2, ss2, .cons (rx.stays f2.stays) rl, by rw [List.length_cons]; exact hn, p2⟩
          · rw [if_neg hn] at p2; exact p2.elim
        · rw [if_neg hl] at p1; exact p1.elim
  · obtain ⟨vx, H1, I1, rx, i, c, fs, m, a, C, dx, gs, e2, rfl, ha', hc, l, q⟩ := q1
    obtain rfl : u = Value.ref a := rx
    have M := hA c m e2
    obtain ⟨C', f, fd, ps, k, c1, c2, c3, _⟩ := M.ex
    rw [hc] at c1; cases c1
    refine getmeth_ok I1 ha' c2 c3 l ?_
    refine PySem.W.callWith_K (first := [.ref a]) (h₀ := X.base) I.ok.mod.kin c3.kp (thn (ha.run pos pins s1 τ H1 _ I1 q) fun us s2 ⟨vs, H2, I2, r, g2, σ2, h2, as, hs2, ss2, rl, hn, p2⟩ => ⟨I2.kIn, ?_⟩) hst hpl
    exact M.run (us := .ref a :: us) (vs := .ref a :: vs) (H := H2) tk I2 (.cons rfl r) hn hs2 ss2 rl p2 hc c3
theorem de_meth0 {alts : List (Str × FnD)} {name : Str} {pl : Sem Bool} (hA : ∀ c m, pick alts c = some m → MOk X name c 1 m) (tk : Takes X w) (ho : DE X w o mo)
    (ht : eval (.Call (.Attribute o name apos) [] [] pos) X.env = (do
      let ov ← eval o X.env
      standAt apos.atName
      let (f, first) ← holding [ov] (getMethod ov name pl)
      callWith pos f first (backTo pos (starEach [] X.env)) (backToKw pos (keywordEach [] X.env))) := by rfl) :
    DE X w (.Call (.Attribute o name apos) [] [] pos) (metM alts name 1 mo (ret [])) := by
  refine ⟨fun pins s τ H Q I hq => ?_⟩
  obtain ⟨g, σ, h0, hs, ss, p⟩ := hq
  refine PySem.W.methodCall_KW (pl := pl) (thn (ho.run pins s τ H _ I (tM.bnd hs ss p fun d σ1 h1 g1 vx H1 hs1 ss1 f1 rx p1 =>
    (show (∃ (i : Nat) (c : Str) (m : FnD) (a C dx : Addr) (gs : List (Str × V)), pick alts c = some m ∧ vx = .ref a ∧ H1 a = some (.ins C dx gs) ∧ X.mg c = some (.ref C) ∧ gs.lookup name = none ∧
      ∃ g2 σ2 h2, Heaps X.K X.mg g2 h2 H1 ∧ Slots X.K g2 σ2 τ H1 ∧ RepL X.K H1 g2 [.ref i] [vx] ∧ Post X.K X.mg (Rep X.K) w Q g2 H1 τ (cal m [.ref i] σ2 h2)) from ?_))) fun u s1 q1 => ?_) ht
  · cases e1 : insOf (alts.map (·.1)) h1 d with
    | none => rw [e1] at p1; exact p1.elim
    | some q =>
      obtain ⟨i, c, fs⟩ := q
      skip
      rw [e1] at p1
      dsimp only at p1
      cases e2 : pick alts c with
      | none => rw [e2] at p1; exact p1.elim
      | some m =>
        rw [e2] at p1
        dsimp only at p1
        obtain ⟨rfl, e3, hm⟩ := insOf_some e1
        obtain ⟨a, C, dx, gs, rfl, hi, ha', hc, rf⟩ := ins_at hs1 e3 rx
        by_cases hl : fs.lookup name = none
        · rw [if_pos hl] at p1
          exact ⟨i, c, m, a, C, dx, gs, e2, rfl, ha', hc, rf.lookup_none hl, g1, σ1, h1, hs1, ss1, .cons rx .nil, p1⟩
        · rw [if_neg hl] at p1; exact p1.elim
  · obtain ⟨vx, H1, I1, rx, i, c, m, a, C, dx, gs, e2, rfl, ha', hc, l, g2, σ2, h2, hs2, ss2, rl, p2⟩ := q1
    obtain rfl : u = Value.ref a := rx
    have M := hA c m e2
    obtain ⟨C', f, fd, ps, k, c1, c2, c3, _⟩ := M.ex
    rw [hc] at c1; cases c1
    refine getmeth_ok I1 ha' c2 c3 l ?_
    exact PySem.W.callWith_K0 (first := [.ref a]) I1.kIn c3.kp (M.run (us := [.ref a]) (vs := [.ref a]) (H := H1) tk I1 (.cons rfl .nil) rfl hs2 ss2 rl p2 hc c3)
/-- C(..) -/
def makM (c : Str) (n : Nat) (m : FnD) (ma : M (List D)) : M D := bnd ma fun ds => fun σ h => if ds.length + 1 = n then (match m (.ref h.length :: ds) (h ++ [⟨false, .ins c []⟩]) with
  | .ret .non h' => .ok (.ref h.length) σ h'
  | .exc x h' => .exc x σ h'
  | _ => .no) else .no
theorem run_makeS {C : Addr} {pins : List (Addr × PySem.Obj)} {σ : L2.St} {H : Hp} {s : Shared} {Q : VK} {us : List Value} {vs : List V} {sp : Sp} {E : L2.St → XK} (M : Mk X.K C f) (F : FnOk X.prog X.w X.K X.mg X.base (L2.CX X.prog X.w) k f fd ps sp) (hr : Room (k + 1) X.A) (hb : Binds X.K fd ps [])
    (hx : ∀ pins' H' s' e s'', L2.Inv X pins' σ H' s' → L2.CX X.prog X.w X.stack H' s' (E σ) e s'' → X.xe e s'') (I : L2.Inv X pins σ H s) (r : Vals vs us)
    (h : ∀ x dx, H x = none → H dx = none → dx ≠ x → sp (.ref x :: vs) (upd (upd H dx (.own x)) x (.ins C dx [])) (fun v H2 => v = .non ∧ Q (.ref x) H2) (E σ)) :
    wpAny (model X.prog X.w) X.A (call (.ref C) us) (EP X pins σ Q) X.xe s := by
  have hq := h (s.heap.objs.size + 1) s.heap.objs.size (I.hok.fresh (Nat.le_succ _)) (I.hok.fresh (Nat.le_refl _)) (Nat.ne_of_lt (Nat.lt_succ_self _))
  have I2 := Inv.made (C := C) I
  have r2 : Vals (V.ref (s.heap.objs.size + 1) :: vs) (Value.ref (s.heap.objs.size + 1) :: us) := .cons rfl r
  have hl : (Value.ref (s.heap.objs.size + 1) :: us ++ []).length = ps.length := by
    have e := r2.length
    rw [F.len _ _ _ _ hq] at e
    rw [List.append_nil]; exact e.symm
  have hbb := hb _ (Value.ref (s.heap.objs.size + 1) :: us) I2.kIn hl
  rw [List.append_nil] at hbb
  refine wpAny_call (make_map (f := f) I.kIn M.makes M.init (beq_iff_eq.mp M.fn) (codeAny_mono (F.run _ X.stack _ _ ⟨Value.ref (s.heap.objs.size + 1) :: us, []⟩ (Value.ref (s.heap.objs.size + 1) :: us) _ _ (E σ) (hr.make C us [])
    (I2.env0.make C us []) hbb r2 hq) fun r s' hq' => ?_))
  cases r with
  | error e => exact hx pins _ _ e s' I2 hq'
  | ok fl =>
    cases fl with
    | ret u =>
      obtain ⟨v, H', I3, rv, ev, q3⟩ := I2.after hq'
      subst ev
      exact ⟨rv, ⟨V.ref (s.heap.objs.size + 1), H', I3, rfl, q3⟩⟩
    | next => exact False.elim hq'
    | brk => exact False.elim hq'
    | cont => exact False.elim hq'
theorem mak_ask {c : Str} {C : Addr} {g : G} {h : Hd} {H : Hp} {σ : List Sl} {τ : L2.St} {ds : List D} {vs : List V} {Q : VK} (hC : X.mg c = some (.ref C)) (hn : ds.length + 1 = n) (hs : Heaps X.K X.mg g h H) (ss : Slots X.K g σ τ H) (rl : RepL X.K H g ds vs)
    (p : Post X.K X.mg (Rep X.K) w Q g H τ (match m (.ref h.length :: ds) (h ++ [⟨false, .ins c []⟩]) with
      | .ret .non h' => .ok (.ref h.length) σ h'
      | .exc x h' => .exc x σ h'
      | _ => .no)) : ∀ x dx, H x = none → H dx = none → dx ≠ x → SpD X.K X.mg n m (.ref x :: vs) (upd (upd H dx (.own x)) x (.ins C dx [])) (fun v H2 => v = .non ∧ Q (.ref x) H2) (WE w τ) := by
  intro x dx hx hdx hne
  have n1 : New H (upd H dx (.own x)) := New.upd hdx
  have hx1 : upd H dx (.own x) x = none := by rw [upd_ne hne.symm]; exact hx
  have hs1 := hs.new n1
  have ss1 := ss.new n1
  have hs2 : Heaps X.K X.mg (g.cell x) (h ++ [⟨false, .ins c []⟩]) (upd (upd H dx (.own x)) x (.ins C dx [])) := hs1.addc hx1 trivial (.ins hC .nil)
  have ss2 : Slots X.K (g.cell x) σ τ (upd (upd H dx (.own x)) x (.ins C dx [])) := ss1.addc hx1
  have f2 : Fr g H (g.cell x) (upd (upd H dx (.own x)) x (.ins C dx [])) := n1.fr.trans (.cell hx1)
  have hi : (g.cell x).ρ[h.length]? = some x := by
    rw [hs.len]
    show (g.ρ ++ [x])[g.ρ.length]? = some x
    simp
  refine ⟨by rw [List.length_cons, ← rl.len]; exact hn, (g.cell x).inn, _, .ref h.length :: ds, hs2.inn, fun _ z => z, .cons (.ref hi) ((rl.stays f2.stays).stays .inn), ?_⟩
  have p := p.shift f2
  cases e : m (.ref h.length :: ds) (h ++ [⟨false, .ins c []⟩]) with
  | ret d h' =>
    rw [e] at p
    intro g' v H' hs' f r
    cases r with
    | non => exact ⟨rfl, p ((g.cell x).out g') (.ref x) H' (hs2.out hs' f) (ss2.out hs2 f) f.out (.ref (f.out.stays.pre _ _ hi))⟩
    | _ => exact p.elim
  | exc y h' =>
    rw [e] at p
    exact fun g' H' cls dx hs' f r => p ((g.cell x).out g') H' cls dx (hs2.out hs' f) (ss2.out hs2 f) f.out (r.stays (.out f) fun _ _ q => q)
  | no => rw [e] at p; exact p
theorem de_make {c : Str} {C : Addr} (M : Mk X.K C f) (F : FnOk X.prog X.w X.K X.mg X.base (L2.CX X.prog X.w) k f fd ps (SpD X.K X.mg n m)) (hr : Room (k + 1) X.A) (hg : Gl X c) (hm : X.mg c = some (.ref C)) (hb : Binds X.K fd ps []) (tk : Takes X w) (ha : DA X w (e :: es) ma)
    (hdb : (c == ("__debug__" : Str)) = false := by decide) (he : starEach (e :: es) X.env = (false, eval e X.env) :: starEach es X.env := by rfl) (hpl : (backTo pos (starEach es X.env)).any (·.1) = false := by rfl) :
    DE X w (.Call (.Name c p) (e :: es) [] pos) (makM c n m ma) := by
  refine ⟨fun pins s τ H Q I hq => ?_⟩
  refine wpAny_Call_Name_kw (ld_glob I hg hm ?_ hdb)
  obtain ⟨g, σ, h0, hs, ss, p⟩ := hq
  refine PySem.W.callWith_K (h₀ := X.base) I.ok.mod.kin M.kp (thn (ha.run pos pins s τ H _ I (tM.bnd hs ss p fun ds σ1 h1 g1 vs H1 hs1 ss1 f1 rl p1 =>
    (show (∀ x dx, H1 x = none → H1 dx = none → dx ≠ x → SpD X.K X.mg n m (.ref x :: vs) (upd (upd H1 dx (.own x)) x (.ins C dx [])) (fun v H2 => v = .non ∧ Q (.ref x) H2) (WE w τ)) from ?_))) fun us s1 ⟨vs, H1, I1, r, q⟩ => ⟨I1.kIn, ?_⟩) he hpl
  · by_cases hn : ds.length + 1 = n
    · rw [if_pos hn] at p1; exact mak_ask hm hn hs1 ss1 rl p1
    · rw [if_neg hn] at p1; exact p1.elim
  · exact run_makeS (E := WE w) M F hr hb (fun pins' H' s' e s'' I' c' => passAt tk τ pins' H' s' e s'' I' c') I1 r q
theorem de_make0 {c : Str} {C : Addr} (M : Mk X.K C f) (F : FnOk X.prog X.w X.K X.mg X.base (L2.CX X.prog X.w) k f fd ps (SpD X.K X.mg 1 m)) (hr : Room (k + 1) X.A) (hg : Gl X c) (hm : X.mg c = some (.ref C)) (hb : Binds X.K fd ps []) (tk : Takes X w)
    (hdb : (c == ("__debug__" : Str)) = false := by decide) : DE X w (.Call (.Name c p) [] [] pos) (makM c 1 m (ret [])) := by
  refine ⟨fun pins s τ H Q I hq => ?_⟩
  refine wpAny_Call_Name_kw (ld_glob I hg hm ?_ hdb)
  obtain ⟨g, σ, h0, hs, ss, p⟩ := hq
  exact PySem.W.callWith_K0 I.kIn M.kp (run_makeS (E := WE w) (us := []) M F hr hb (fun pins' H' s' e s'' I' c' => passAt tk τ pins' H' s' e s'' I' c') I .nil (mak_ask hm rfl hs ss .nil p))
end
end Bw
namespace Bw
open PySem L2

/-! ### blocks, small statements -/
def seqM (m n : M Fl) : M Fl := fun σ h => match m σ h with
  | .ok .nx σ' h' => n σ' h'
  | .ok f σ' h' => .ok f σ' h'
  | .exc x σ' h' => .exc x σ' h'
  | .no => .no
section
variable {X : Cx} {w : WX} {e value : Expr} {st : Stmt} {sts : List Stmt} {m : M D} {mt : M Bool} {ms ms2 : M Fl} {pos : Pos}
/-- from statements to what comes behind -/
theorem tS.first {D : Ends} {τ : L2.St} {H : Hp} {g : G} {σ : List Sl} {h : Hd} {D' : Ends} (hs : Heaps X.K X.mg g h H) (ss : Slots X.K g σ τ H)
    (p : PostS X.K X.mg w D g H (seqM ms ms2 σ h)) (hn : ∀ g' τ' H' σ' h', Heaps X.K X.mg g' h' H' → Slots X.K g' σ' τ' H' → Fr g H g' H' → PostS X.K X.mg w D g' H' (ms2 σ' h') → D'.nx τ' H')
    (hr : ∀ v H, D.rt v H → D'.rt v H) (hb : ∀ τ H, D.bk τ H → D'.bk τ H) (hc : ∀ τ H, D.ct τ H → D'.ct τ H) : tS X.K X.mg w ms D' τ H := by
  refine ⟨g, σ, h, hs, ss, ?_⟩
  unfold seqM at p
  cases e : ms σ h with
  | ok f σ' h' =>
    rw [e] at p
    cases f with
    | nx => exact fun g' τ' H' a1 a2 a3 => hn g' τ' H' σ' h' a1 a2 a3 (p.shift a3)
    | rt d => exact fun g' τ' H' a1 a2 a3 v r => hr v H' (p g' τ' H' a1 a2 a3 v r)
    | bk => exact fun g' τ' H' a1 a2 a3 => hb τ' H' (p g' τ' H' a1 a2 a3)
    | ct => exact fun g' τ' H' a1 a2 a3 => hc τ' H' (p g' τ' H' a1 a2 a3)
  | exc x σ' h' => rw [e] at p; exact p
  | no => rw [e] at p; exact p
theorem dss_nil : DSs X w [] (ret .nx) := PSs.imp' pss_nil fun D τ H h => by
  obtain ⟨g, σ, h0, hs, ss, p⟩ := h
  exact p g τ H hs ss (Fr.refl _ _)
theorem dss_cons (h1 : DS X w st ms) (h2 : DSs X w sts ms2) : DSs X w (st :: sts) (seqM ms ms2) := PSs.imp' (pss_cons h1 h2) fun D τ H h => by
  obtain ⟨g, σ, h0, hs, ss, p⟩ := h
  exact tS.first hs ss p (fun g' τ' H' σ' h' a1 a2 _ a4 => ⟨g', σ', h', a1, a2, a4⟩) (fun _ _ q => q) (fun _ _ q => q) fun _ _ q => q
theorem dss_one (h1 : DS X w st ms) : DSs X w [st] ms := pss_one h1
theorem ds_pass : DS X w (.Pass pos) (ret .nx) := PS.imp' ps_pass fun D τ H h => by
  obtain ⟨g, σ, h0, hs, ss, p⟩ := h
  exact p g τ H hs ss (Fr.refl _ _)
theorem ds_break : DS X w (.Break pos) (ret .bk) := PS.imp' ps_break fun D τ H h => by
  obtain ⟨g, σ, h0, hs, ss, p⟩ := h
  exact p g τ H hs ss (Fr.refl _ _)
theorem ds_cont : DS X w (.Continue pos) (ret .ct) := PS.imp' ps_continue fun D τ H h => by
  obtain ⟨g, σ, h0, hs, ss, p⟩ := h
  exact p g τ H hs ss (Fr.refl _ _)
def drpM (m : M D) : M Fl := bnd m fun _ => ret .nx
theorem ds_expr (h : DE X w e m) (hs : swapsWith e none pos.line X.env = pure false := by rfl) : DS X w (.Expr e pos) (drpM m) := PS.imp' (ps_expr h hs) fun D τ H h => by
  obtain ⟨g, σ, h0, hs, ss, p⟩ := h
  refine tM.bndS hs ss p fun x σ1 h1 g1 vx H1 hs1 ss1 f1 rx p1 => ?_
  exact p1 g1 τ H1 hs1 ss1 (Fr.refl _ _)
def rtM (m : M D) : M Fl := bnd m fun d => ret (.rt d)
theorem ds_ret (h : DE X w e m) : DS X w (.Return (some e) pos) (rtM m) := PS.imp' (ps_ret h) fun D τ H h => by
  obtain ⟨g, σ, h0, hs, ss, p⟩ := h
  refine tM.bndS hs ss p fun x σ1 h1 g1 vx H1 hs1 ss1 f1 rx p1 => ?_
  exact p1 g1 τ H1 hs1 ss1 (Fr.refl _ _) vx rx
theorem ds_retN : DS X w (.Return none pos) (ret (.rt .non)) := PS.imp' ps_retN fun D τ H h => by
  obtain ⟨g, σ, h0, hs, ss, p⟩ := h
  exact p g τ H hs ss (Fr.refl _ _) .non .non
theorem ds_if {c : Expr} {a b : List Stmt} (hc : DT X w c mt) (ha : DSs X w a ms) (hb : DSs X w b ms2) : DS X w (.If c a b pos) (ifM mt ms ms2) := PS.imp' (ps_if hc ha hb) fun D τ H h => by
  obtain ⟨g, σ, h0, hs, ss, p⟩ := h
  refine tM.bndS hs ss p fun x σ1 h1 g1 vx H1 hs1 ss1 f1 rx p1 => ?_
  subst rx
  cases x with
  | true => rw [if_pos rfl] at p1 ⊢; exact ⟨g1, σ1, h1, hs1, ss1, p1⟩
  | false => rw [if_neg Bool.false_ne_true] at p1 ⊢; exact ⟨g1, σ1, h1, hs1, ss1, p1⟩
/-- what is never come to -/
theorem ds_never : DS X w st no := PS.imp' ps_never fun D τ H h => by
  obtain ⟨g, σ, h0, hs, ss, p⟩ := h
  exact p

/-! ### a name stored -/
/-- a value or an own list or dict -/
def PostV (K : PySem.W.Frag) (mg : Str → Option Value) (w : WX) (Q : VK) (g : G) (H : Hp) (τ : L2.St) : R Sl → Prop
  | .ok (.v d) σ h => ∀ g' v H', Heaps K mg g' h H' → Slots K g' σ τ H' → Fr g H g' H' → Rep K H' g' d v → Q v H'
  | .ok (.own d) σ h => ∀ g' H' p u, Heaps K mg g' h H' → Slots K g' σ τ H' → Fr g H g' H' → H' p = none → CRep K H' g' d u → Q (.ref p) (upd H' p u)
  | .ok .un _ _ => False
  | .exc x σ h => ∀ g' H' cls dx, Heaps K mg g' h H' → Slots K g' σ τ H' → Fr g H g' H' → XRep K mg H' g' x cls dx → w cls dx τ H'
  | .no => False
def tV (K : PySem.W.Frag) (mg : Str → Option Value) (w : WX) (m : M Sl) : TE := fun τ H Q => ∃ g σ h, Heaps K mg g h H ∧ Slots K g σ τ H ∧ PostV K mg w Q g H τ (m σ h)
abbrev DV (X : Cx) (w : WX) (e : Expr) (m : M Sl) : Prop := PE X e (tV X.K X.mg w m)
def vM (m : M D) : M Sl := bnd m fun d => ret (.v d)
def oM (m : M D) : M Sl := bnd m fun d => ret (.own d)
theorem dv_e (h : DE X w e m) : DV X w e (vM m) := PE.imp' h fun τ H Q h => by
  obtain ⟨g, σ, h0, hs, ss, p⟩ := h
  refine ⟨g, σ, h0, hs, ss, ?_⟩
  unfold vM bnd at p
  cases ev : m σ h0 <;> (rw [ev] at p; exact p)
theorem dv_f (h : DF X w e m) : DV X w e (oM m) := PE.imp' h fun τ H Q h => by
  obtain ⟨g, σ, h0, hs, ss, p⟩ := h
  refine ⟨g, σ, h0, hs, ss, ?_⟩
  unfold oM bnd at p
  cases ev : m σ h0 <;> (rw [ev] at p; exact p)
def setM (i : Nat) (m : M Sl) : M Fl := bnd m fun s => match s with
  | .un => no
  | s => fun σ h => .ok .nx (σ.set i s) h
theorem slots_own {K : PySem.W.Frag} {mg : Str → Option Value} {g : G} {σ : List Sl} {τ : L2.St} {H : Hp} {h : Hd} {i : Nat} {d : D} {p : Addr} {u : HO} (hs : Heaps K mg g h H) (ss : Slots K g σ τ H) (hp : H p = none) (c : CRep K H g d u) :
    Slots K (g.take p) (σ.set i (.own d)) (τ.set i (some (.ref p))) (upd H p u) := by
  refine (ss.take hs hp).setO (u := u) (.inr rfl) upd_same (c.stays (.take hp)) fun j s e1 m e2 => ?_
  cases s with
  | own d' =>
    obtain ⟨a, u', ev, o, l, _⟩ := ss.rep j _ _ e1 e2
    cases ev
    rw [hp] at l; cases l
  | _ => cases m
theorem ds_set {i : Nat} {x : Str} {px : Pos} {mv : M Sl} (hN : X.N.Nodup) (h : DV X w e mv) (hi : X.N[i]? = some x := by rfl) (hx : Loc X.env.scope x := by first | exact Or.inl rfl | exact Or.inr rfl) (hsw : swapsWith e (some (.Name x px)) pos.line X.env = pure false := by rfl) (hf : X.fn x = true ∨ X.env.scope.names.lookup x = some .local := by first | exact .inl rfl | exact .inr rfl) :
    DS X w (.Assign [.Name x px] e pos) (setM i mv) := PS.imp' (ps_set hN hi hx h hsw hf) fun D τ H h => by
  obtain ⟨g, σ, h0, hs, ss, p⟩ := h
  refine ⟨g, σ, h0, hs, ss, ?_⟩
  unfold setM bnd at p
  cases ev : mv σ h0 with
  | ok s σ1 h1 =>
    rw [ev] at p
    cases s with
    | un => exact p.elim
    | v d => exact fun g' v H' a1 a2 a3 r => p g' _ H' a1 (a2.setV r) a3
    | own d => exact fun g' H' q u a1 a2 a3 hq c => p (g'.take q) _ _ (a1.take hq c.plain) (slots_own a1 a2 hq c) (a3.trans (.take hq))
  | exc x σ1 h1 => rw [ev] at p; exact fun g' H' c d => p g' τ H' c d
  | no => rw [ev] at p; exact p
end
end Bw
namespace Bw
open PySem L2

/-! ### targets -/
/-- the slots but those of js are as they were -/
def Off (js : List Nat) (τ τ' : L2.St) : Prop := τ'.length = τ.length ∧ ∀ i, i ∉ js → τ'[i]? = τ[i]?
theorem Off.refl (js : List Nat) (τ : L2.St) : Off js τ τ := ⟨rfl, fun _ _ => rfl⟩
theorem Off.trans {js : List Nat} {τ τ1 τ2 : L2.St} (a : Off js τ τ1) (b : Off js τ1 τ2) : Off js τ τ2 := ⟨b.1.trans a.1, fun i h => (b.2 i h).trans (a.2 i h)⟩
abbrev Tg (α : Type) := α → List Sl → Option (List Sl)
def PostG (K : PySem.W.Frag) (mg : Str → Option Value) (js : List Nat) (Q : L2.St → Hp → Prop) (g : G) (H : Hp) (τ : L2.St) (h : Hd) : Option (List Sl) → Prop
  | some σ => ∀ g' τ' H', Heaps K mg g' h H' → Slots K g' σ τ' H' → Fr g H g' H' → Off js τ τ' → Q τ' H'
  | none => False
theorem PostG.shift {K : PySem.W.Frag} {mg : Str → Option Value} {js : List Nat} {Q : L2.St → Hp → Prop} {g g1 : G} {H H1 : Hp} {τ τ1 : L2.St} {h : Hd} {r : Option (List Sl)} (f : Fr g H g1 H1) (o : Off js τ τ1) (p : PostG K mg js Q g H τ h r) : PostG K mg js Q g1 H1 τ1 h r := by
  cases r with
  | some σ => exact fun g' τ' H' a b c d => p g' τ' H' a b (f.trans c) (o.trans d)
  | none => exact p
def tG (K : PySem.W.Frag) (mg : Str → Option Value) (js : List Nat) (t : Tg D) : TG := fun v τ H Q => ∃ g σ h d, Heaps K mg g h H ∧ Slots K g σ τ H ∧ Rep K H g d v ∧ PostG K mg js Q g H τ h (t d σ)
def tGs (K : PySem.W.Frag) (mg : Str → Option Value) (js : List Nat) (t : Tg (List D)) : TGs := fun vs τ H Q => ∃ g σ h ds, Heaps K mg g h H ∧ Slots K g σ τ H ∧ RepL K H g ds vs ∧ PostG K mg js Q g H τ h (t ds σ)
abbrev DG (X : Cx) (js : List Nat) (e : Expr) (t : Tg D) : Prop := PG X e (tG X.K X.mg js t)
abbrev DGs (X : Cx) (js : List Nat) (es : List Expr) (t : Tg (List D)) : Prop := PGs X es (tGs X.K X.mg js t)
def gnm (i : Nat) : Tg D := fun d σ => some (σ.set i (.v d))
def gnil : Tg (List D) := fun ds σ => match ds with | [] => some σ | _ => none
def gcns (t : Tg D) (ts : Tg (List D)) : Tg (List D) := fun ds σ => match ds with
  | d :: ds => (t d σ).bind (ts ds)
  | [] => none
def gtup (n : Nat) (ts : Tg (List D)) : Tg D := fun d σ => match d with
  | .tup ds => if ds.length = n then ts ds σ else none
  | .lst ds => if ds.length = n then ts ds σ else none
  | .kt ds => if ds.length = n then ts ds σ else none
  | _ => none
section
variable {X : Cx} {js : List Nat} {pos : Pos}
theorem PG.imp' {e : Expr} {t t' : TG} (h : PG X e t) (i : ∀ v τ H Q, t' v τ H Q → t v τ H Q) : PG X e t' := ⟨fun pins s τ H v u Q I r q => h.run pins s τ H v u Q I r (i v τ H Q q)⟩
theorem PGs.imp' {e : List Expr} {t t' : TGs} (h : PGs X e t) (i : ∀ v τ H Q, t' v τ H Q → t v τ H Q) : PGs X e t' := ⟨fun pins s τ H v u Q I r q => h.run pins s τ H v u Q I r (i v τ H Q q)⟩
theorem PG.or {e : Expr} {t t' : TG} (h : PG X e t) (h' : PG X e t') : PG X e (fun v τ H Q => t v τ H Q ∨ t' v τ H Q) := ⟨fun pins s τ H v u Q I r q => q.elim (h.run pins s τ H v u Q I r) (h'.run pins s τ H v u Q I r)⟩
theorem dg_nm (i : Nat) {x : Str} (hN : X.N.Nodup) (hj : i ∈ js) (hi : X.N[i]? = some x := by rfl) (hx : Loc X.env.scope x := by first | exact Or.inl rfl | exact Or.inr rfl) (hf : X.fn x = true ∨ X.env.scope.names.lookup x = some .local := by first | exact .inl rfl | exact .inr rfl) : DG X js (.Name x pos) (gnm i) :=
  PG.imp' (pg_name hN hi hx hf) fun v τ H Q h => by
    obtain ⟨g, σ, h0, d, hs, ss, r, p⟩ := h
    exact p g _ H hs (ss.setV r) (Fr.refl _ _) ⟨List.length_set, fun k hk => List.getElem?_set_ne (fun z => hk (by rw [← z]; exact hj))⟩
theorem dgs_nil : DGs X js [] gnil := PGs.imp' pgs_nil fun v τ H Q h => by
  obtain ⟨g, σ, h0, ds, hs, ss, r, p⟩ := h
  cases r with
  | nil => exact ⟨rfl, p g τ H hs ss (Fr.refl _ _) (Off.refl _ _)⟩
  | cons _ _ => exact p.elim
theorem dgs_cons {e : Expr} {es : List Expr} {t : Tg D} {ts : Tg (List D)} (h1 : DG X js e t) (h2 : DGs X js es ts) (hs : (assignEach (e :: es) X.env).map (·.2) = assign e X.env :: (assignEach es X.env).map (·.2) := by rfl) : DGs X js (e :: es) (gcns t ts) :=
  PGs.imp' (pgs_cons h1 h2 hs) fun v τ H Q h => by
    obtain ⟨g, σ, h0, ds, hs, ss, r, p⟩ := h
    cases r with
    | nil => exact p.elim
    | cons r rl =>
      rename_i d v' ds' vs'
      refine ⟨v', vs', rfl, g, σ, h0, d, hs, ss, r, ?_⟩
      have p : PostG X.K X.mg js Q g H τ h0 ((t d σ).bind (ts ds')) := p
      cases e1 : t d σ with
      | some σ1 =>
        rw [e1] at p
        exact fun g1 τ1 H1 a1 a2 a3 a4 => ⟨g1, σ1, h0, ds', a1, a2, rl.stays a3.stays, PostG.shift (r := ts ds' σ1) a3 a4 p⟩
      | none => rw [e1] at p; exact p
theorem dg_tup {es : List Expr} {k n : Nat} {ts : Tg (List D)} (hc : X.calm = true) (h : DGs X js es ts) (hn : (assignEach es X.env).length = n := by rfl) (hst : (assignEach es X.env).findIdx? (·.1) = none := by rfl) : DG X js (.Tuple es k pos) (gtup n ts) :=
  PG.imp' (PG.or (pg_tup hc h hn hst) (pg_lst hc h hn hst)) fun v τ H Q hq => by
    obtain ⟨g, σ, h0, d, hs, ss, r, p⟩ := hq
    unfold gtup at p
    cases d with
    | tup ds =>
      dsimp only at p
      by_cases hl : ds.length = n
      · rw [if_pos hl] at p
        obtain ⟨a, vs, rfl, ha, rl⟩ := rep_tup r
        exact .inl ⟨a, vs, rfl, SqT.of ha, by rw [← rl.len]; exact hl, g, σ, h0, ds, hs, ss, rl, p⟩
      · rw [if_neg hl] at p; exact p.elim
    | kt ds =>
      dsimp only at p
      by_cases hl : ds.length = n
      · rw [if_pos hl] at p
        cases r with
        | kt hq rl => exact .inl ⟨_, _, rfl, hq.sq, by rw [← rl.len]; exact hl, g, σ, h0, ds, hs, ss, rl, p⟩
      · rw [if_neg hl] at p; exact p.elim
    | lst ds =>
      dsimp only at p
      by_cases hl : ds.length = n
      · rw [if_pos hl] at p
        obtain ⟨a, vs, rfl, ha, _, rl⟩ := rep_lst r
        exact .inr ⟨a, vs, rfl, SqL.of ha, by rw [← rl.len]; exact hl, g, σ, h0, ds, hs, ss, rl, p⟩
      · rw [if_neg hl] at p; exact p.elim
    | _ => exact p.elim
/-- a, b = e -/
def asgM (m : M D) (t : Tg D) : M Fl := bnd m fun d => fun σ h => match t d σ with
  | some σ' => .ok .nx σ' h
  | none => .no
theorem ds_asg {w : WX} {tg e : Expr} {m : M D} {t : Tg D} (he : DE X w e m) (hg : DG X js tg t) (hs : swapsWithSole [tg] e pos.line X.env = pure false := by rfl) (hw : swappedStores [tg] e X.env = pure none := by rfl)
    (h1 : (assignEach [tg] X.env).map (·.2) = [assign tg X.env] := by rfl) : DS X w (.Assign [tg] e pos) (asgM m t) := PS.imp' (ps_asg he hg hs hw h1) fun D τ H h => by
  obtain ⟨g, σ, h0, hs, ss, p⟩ := h
  refine tM.bndS hs ss p fun d σ1 h1 g1 v H1 hs1 ss1 f1 r p1 => ?_
  refine ⟨g1, σ1, h1, d, hs1, ss1, r, ?_⟩
  cases e1 : t d σ1 with
  | some σ2 => rw [e1] at p1; exact fun g' τ' H' a1 a2 a3 _ => p1 g' τ' H' a1 a2 a3
  | none => rw [e1] at p1; exact p1

/-! ### what is walked -/
structure Serves (K : PySem.W.Frag) (J : It) (g0 : G) (H0 : Hp) (ds : List D) : Prop where
  goes : ∀ i g H, i < ds.length → Stays g0 H0 g H → J.go i H
  stops : ∀ g H, Stays g0 H0 g H → J.stop ds.length H
  yields : ∀ i g H x H', i < ds.length → Stays g0 H0 g H → J.yld i H x H' → New H H' ∧ ∃ d, ds[i]? = some d ∧ (∀ K' , K' = K → Rep K' H' g d x)
def PostI (K : PySem.W.Frag) (mg : Str → Option Value) (w : WX) (R : It → Hp → Prop) (g : G) (H : Hp) (τ : L2.St) : Bw.R (List D) → Prop
  | .ok ds σ h => ∀ g' H' J, Heaps K mg g' h H' → Slots K g' σ τ H' → Fr g H g' H' → Serves K J g' H' ds → R J H'
  | .exc x σ h => ∀ g' H' cls dx, Heaps K mg g' h H' → Slots K g' σ τ H' → Fr g H g' H' → XRep K mg H' g' x cls dx → w cls dx τ H'
  | .no => False
theorem PostI.shift {K : PySem.W.Frag} {mg : Str → Option Value} {w : WX} {R : It → Hp → Prop} {g g1 : G} {H H1 : Hp} {τ : L2.St} {r : Bw.R (List D)} (f : Fr g H g1 H1) (p : PostI K mg w R g H τ r) : PostI K mg w R g1 H1 τ r := by
  cases r with
  | ok a σ h => exact fun g' b u a1 a2 a3 => p g' b u a1 a2 (f.trans a3)
  | exc x σ h => exact fun g' H' c d a1 a2 a3 => p g' H' c d a1 a2 (f.trans a3)
  | no => exact p
def tI (K : PySem.W.Frag) (mg : Str → Option Value) (w : WX) (m : M (List D)) : TI := fun τ H R => ∃ g σ h, Heaps K mg g h H ∧ Slots K g σ τ H ∧ PostI K mg w R g H τ (m σ h)
abbrev DI (X : Cx) (w : WX) (tg e : Expr) (m : M (List D)) : Prop := PI X tg e (tI X.K X.mg w m)
theorem PI.imp' {tg e : Expr} {t t' : TI} (h : PI X tg e t) (i : ∀ τ H R, t' τ H R → t τ H R) : PI X tg e t' := ⟨fun pins s τ H R I q => h.run pins s τ H R I (i τ H R q)⟩
theorem PI.or {tg e : Expr} {t t' : TI} (h : PI X tg e t) (h' : PI X tg e t') : PI X tg e (fun τ H R => t τ H R ∨ t' τ H R) := ⟨fun pins s τ H R I q => q.elim (h.run pins s τ H R I) (h'.run pins s τ H R I)⟩
section
variable {w : WX} {tg e a b : Expr} {m ma mb : M D} {K : PySem.W.Frag} {mg : Str → Option Value} {g : G} {H : Hp} {τ : L2.St} {h : Hd} {σ : List Sl}
theorem tM.bndI {α β : Type} {rel : Hp → G → α → β → Prop} {m : M α} {f : α → M (List D)} {R : It → Hp → Prop} {Q1 : β → Hp → Prop} (hs : Heaps K mg g h H) (ss : Slots K g σ τ H) (p : PostI K mg w R g H τ (Bw.bnd m f σ h))
    (hk : ∀ a σ1 h1 g1 b H1, Heaps K mg g1 h1 H1 → Slots K g1 σ1 τ H1 → Fr g H g1 H1 → rel H1 g1 a b → PostI K mg w R g1 H1 τ (f a σ1 h1) → Q1 b H1) : tM K mg rel w m τ H Q1 := by
  refine tM.first hs ss (fun x σ1 h1 e => ?_) (fun e => ?_) fun a σ1 h1 e g1 b H1 a1 a2 a3 a4 => ?_
  · unfold Bw.bnd at p; rw [e] at p; exact p
  · unfold Bw.bnd at p; rw [e] at p; exact p
  · unfold Bw.bnd at p; rw [e] at p; exact hk a σ1 h1 g1 b H1 a1 a2 a3 a4 (p.shift a3)
theorem serves_list {a : Addr} {ds : List D} {vs : List V} (hl : ∀ g' H', Stays g H g' H' → SqL K H' a vs ∧ RepL K H' g' ds vs) : Serves K (Itl K a) g H ds where
  goes := fun i g' H' hi st => by
    obtain ⟨q, r⟩ := hl g' H' st
    have hv : i < vs.length := by rw [← r.len]; exact hi
    exact walk_list.goes i H' hv q
  stops := fun g' H' st => by
    obtain ⟨q, r⟩ := hl g' H' st
    rw [r.len]; exact walk_list.stops H' q
  yields := fun i g' H' x H2 hi st y => by
    obtain ⟨q, r⟩ := hl g' H' st
    have hv : i < vs.length := by rw [← r.len]; exact hi
    obtain ⟨rfl, e⟩ := walk_list.yields i H' x H2 hv q y
    have hd : ds[i]? = some ds[i] := List.getElem?_eq_getElem hi
    obtain ⟨v, e2, r2⟩ := r.get hd
    rw [e] at e2; cases e2
    exact ⟨New.refl _, ds[i], hd, fun K' eK => by rw [eK]; exact r2⟩
theorem serves_tup {a : Addr} {ds : List D} {vs : List V} (hl : ∀ g' H', Stays g H g' H' → SqT K H' a vs ∧ RepL K H' g' ds vs) : Serves K (Itt K a) g H ds where
  goes := fun i g' H' hi st => by
    obtain ⟨q, r⟩ := hl g' H' st
    have hv : i < vs.length := by rw [← r.len]; exact hi
    exact walk_tup.goes i H' hv q
  stops := fun g' H' st => by
    obtain ⟨q, r⟩ := hl g' H' st
    rw [r.len]; exact walk_tup.stops H' q
  yields := fun i g' H' x H2 hi st y => by
    obtain ⟨q, r⟩ := hl g' H' st
    have hv : i < vs.length := by rw [← r.len]; exact hi
    obtain ⟨rfl, e⟩ := walk_tup.yields i H' x H2 hv q y
    have hd : ds[i]? = some ds[i] := List.getElem?_eq_getElem hi
    obtain ⟨v, e2, r2⟩ := r.get hd
    rw [e] at e2; cases e2
    exact ⟨New.refl _, ds[i], hd, fun K' eK => by rw [eK]; exact r2⟩
/-- sign by sign -/
def signs (z : Str) : List D := z.cps.toList.map fun c => .str ⟨#[c]⟩
theorem serves_str {z : Str} : Serves K (Its z) g H (signs z) where
  goes := fun i g' H' hi st => walk_str.goes i H' (by simpa [signs] using hi) trivial
  stops := fun g' H' st => by
    have e : (signs z).length = z.cps.size := by simp [signs]
    rw [e]; exact walk_str.stops H' trivial
  yields := fun i g' H' x H2 hi st y => by
    obtain ⟨rfl, c, e, rfl⟩ := walk_str.yields i H' x H2 (by simpa [signs] using hi) trivial y
    refine ⟨New.refl _, .str ⟨#[c]⟩, ?_, fun K' _ => .str _⟩
    unfold signs
    rw [List.getElem?_map, Array.getElem?_toList, e]; rfl
def rngD (lo : Int) (n : Nat) : List D := (List.range n).map fun (i : Nat) => .int (lo + (i : Int))
theorem serves_range {lo : Int} {n : Nat} : Serves K (Itr lo n) g H (rngD lo n) where
  goes := fun i g' H' hi st => walk_range.goes i H' (by simpa [rngD] using hi) trivial
  stops := fun g' H' st => by
    have e : (rngD lo n).length = n := by simp [rngD]
    rw [e]; exact walk_range.stops H' trivial
  yields := fun i g' H' x H2 hi st y => by
    have hi' : i < n := by simpa [rngD] using hi
    obtain ⟨rfl, rfl⟩ := walk_range.yields i H' x H2 hi' trivial y
    refine ⟨New.refl _, .int (lo + i), ?_, fun K' _ => .int _⟩
    unfold rngD
    rw [List.getElem?_map, List.getElem?_range hi']; rfl
/-- a dict that stands still: by its keys; from then on it is locked -/
theorem repK_key : ∀ {es : List (D × D)} {kvs : List (Key × V)} {i : Nat} {k : Key} {v : V}, RepK K H g es kvs → kvs[i]? = some (k, v) → ∃ d, es[i]? = some (kD k, d) ∧ Rep K H g d v
  | _, _, _, _, _, .nil, e => by simp at e
  | _, _, 0, _, _, .cons r t, e => by simp at e; obtain ⟨rfl, rfl⟩ := e; exact ⟨_, rfl, r⟩
  | _, _, i + 1, k, v, .cons r t, e => by
    obtain ⟨d, h1, h2⟩ := repK_key (i := i) (k := k) (v := v) t (by simpa using e)
    exact ⟨d, by simpa using h1, h2⟩
theorem rep_kD (k : Key) : Rep K H g (kD k) (kV k) := by
  cases k with
  | inl i => exact .int i
  | inr x => exact .str x
theorem repT_key : ∀ {es : List (D × D)} {kvs : List (List Key × V)} {i : Nat} {k : List Key} {v : V}, RepT K H g es kvs → kvs[i]? = some (k, v) → ∃ d, es[i]? = some (.tup (k.map kD), d) ∧ Rep K H g d v
  | _, _, _, _, _, .nil, e => by simp at e
  | _, _, 0, _, _, .cons r t, e => by simp at e; obtain ⟨rfl, rfl⟩ := e; exact ⟨_, rfl, r⟩
  | _, _, i + 1, k, v, .cons r t, e => by
    obtain ⟨d, h1, h2⟩ := repT_key (i := i) (k := k) (v := v) t (by simpa using e)
    exact ⟨d, by simpa using h1, h2⟩
theorem repL_kD : ∀ ks : List Key, RepL K H g (ks.map kD) (ks.map kV)
  | [] => .nil
  | k :: ks => .cons (rep_kD k) (repL_kD ks)
theorem serves_keys {d : Addr} {o : PySem.Obj} {es : List (D × D)} {kvs : List (Key × V)} (hd : H d = some (.frz o (.dK kvs))) (r : RepK K H g es kvs) : Serves K (Itk d o kvs) g H (es.map (·.1)) where
  goes := fun i g' H' hi st => walk_keys.goes i H' (by rw [← r.len]; simpa using hi) (st.frz _ _ _ hd)
  stops := fun g' H' st => by
    rw [List.length_map, r.len]; exact walk_keys.stops H' (st.frz _ _ _ hd)
  yields := fun i g' H' x H2 hi st y => by
    obtain ⟨rfl, k, v, e, rfl⟩ := walk_keys.yields i H' x H2 (by rw [← r.len]; simpa using hi) (st.frz _ _ _ hd) y
    obtain ⟨dd, e2, _⟩ := repK_key r e
    exact ⟨New.refl _, kD k, by rw [List.getElem?_map, e2]; rfl, fun K' _ => rep_kD k⟩
theorem serves_keysT {d : Addr} {o : PySem.Obj} {es : List (D × D)} {kvs : List (List Key × V)} (hd : H d = some (.frz o (.dT kvs))) (r : RepT K H g es kvs) : Serves K (Itkt d o kvs) g H (es.map (·.1)) where
  goes := fun i g' H' hi st => walk_keysT.goes i H' (by rw [← r.len]; simpa using hi) (st.frz _ _ _ hd)
  stops := fun g' H' st => by
    rw [List.length_map, r.len]; exact walk_keysT.stops H' (st.frz _ _ _ hd)
  yields := fun i g' H' x H2 hi st y => by
    obtain ⟨rfl, k, v, q, e, rfl, hq⟩ := walk_keysT.yields i H' x H2 (by rw [← r.len]; simpa using hi) (st.frz _ _ _ hd) y
    obtain ⟨dd, e2, _⟩ := repT_key r e
    exact ⟨New.refl _, .tup (k.map kD), by rw [List.getElem?_map, e2]; rfl, fun K' _ => .tup hq (repL_kD k)⟩
theorem serves_items {d : Addr} {o : PySem.Obj} {es : List (D × D)} {kvs : List (Key × V)} (hd : H d = some (.frz o (.dK kvs))) (r : RepK K H g es kvs) : Serves K (Iti d o kvs) g H (es.map fun e => .tup [e.1, e.2]) where
  goes := fun i g' H' hi st => walk_items.goes i H' (by rw [← r.len]; simpa using hi) (st.frz _ _ _ hd)
  stops := fun g' H' st => by
    rw [List.length_map, r.len]; exact walk_items.stops H' (st.frz _ _ _ hd)
  yields := fun i g' H' x H2 hi st y => by
    obtain ⟨T, kx, vx, rfl, hT, rfl, e1, e2⟩ := walk_items.yields i H' x H2 (by rw [← r.len]; simpa using hi) (st.frz _ _ _ hd) y
    dsimp only at e1 e2
    cases e3 : kvs[i]? with
    | none => rw [e3] at e1; cases e1
    | some kv =>
      rw [e3] at e1 e2
      cases e1; cases e2
      obtain ⟨k, v⟩ := kv
      obtain ⟨dd, e4, rd⟩ := repK_key r e3
      have n : New H' (upd H' T (.tup [kV k, v])) := New.upd hT
      exact ⟨n, .tup [kD k, dd], by rw [List.getElem?_map, e4]; rfl, fun K' eK => by subst eK; exact .tup upd_same (.cons (rep_kD k) (.cons ((rd.stays st).stays n.stays) .nil))⟩
end
end
end Bw
namespace Bw
open PySem L2
section
variable {X : Cx} {w : WX} {tg e a b iter : Expr} {m ma mb : M D} {pos : Pos}

/-! ### what is walked: rules -/
/-- a dict that is a value is locked once it is walked -/
theorem pe_lockd {t : TE} (h : PE X e t) : PE X e (fun τ H Q => t τ H fun x H1 => Q x H1 ∨ ∃ d u, x = .ref d ∧ H1 d = some u ∧ Mut (some u) ∧ ∀ od, Q x (upd H1 d (.frz od u))) :=
  ⟨fun pins s τ H Q I q => thn (h.run pins s τ H _ I q) fun v s1 ⟨x, H1, I1, r1, q1⟩ => by
    rcases q1 with q1 | ⟨d, u, rfl, hd, mu, q1⟩
    · exact ⟨x, H1, I1, r1, q1⟩
    · obtain ⟨od, I2⟩ := Inv.lock I1 hd mu
      exact ⟨_, _, I2, r1, q1 od⟩⟩
theorem lock_stays {g : G} {H : Hp} {d : Addr} {u : HO} {od : PySem.Obj} (hd : H d = some u) (nw : ¬ g.W d) (nl : ∀ vs, u ≠ .lst vs) (pl : Plain u) : Fr g H g (upd H d (.frz od u)) where
  pre := List.prefix_refl _
  new := fun _ q => .inl q
  B := rfl
  O := fun _ q => .inl q
  keep := fun b o q h1 => by rw [upd_ne]; exact q; rintro rfl; exact nw (.inr (.inr h1))
  rd := fun b v q _ => by
    by_cases hb : b = d
    · subst hb
      rcases q with q | ⟨o, q⟩
      · rw [hd] at q; cases q; exact .inr ⟨od, upd_same⟩
      · rw [hd] at q; cases q; exact pl.elim
    · unfold Rd; rw [upd_ne hb]; exact q
  ls := fun b vs q _ => by rw [upd_ne]; exact q; rintro rfl; rw [hd] at q; cases q; exact nl vs rfl
  tup := fun b xs q => by rw [upd_ne]; exact q; rintro rfl; rw [hd] at q; cases q; exact pl
  frz := fun b ob v q => by rw [upd_ne]; exact q; rintro rfl; rw [hd] at q; cases q; exact pl
  live := fun b o q => by
    by_cases hb : b = d
    · subst hb; exact ⟨_, upd_same⟩
    · exact ⟨o, by rw [upd_ne hb]; exact q⟩
theorem lock_heaps {K : PySem.W.Frag} {mg : Str → Option Value} {g : G} {h : Hd} {H : Hp} {d : Addr} {u : HO} {od : PySem.Obj} (hs : Heaps K mg g h H) (hd : H d = some u) (nw : ¬ g.W d) (nl : ∀ vs, u ≠ .lst vs) (pl : Plain u) : Heaps K mg g h (upd H d (.frz od u)) where
  len := hs.len
  nd := hs.nd
  cell := fun i c a e1 e2 => (hs.cell i c a e1 e2).stays (lock_stays hd nw nl pl).stays fun o q => by rw [upd_ne]; exact q; rintro rfl; exact nw (.inl (List.mem_of_getElem? e2))
  sO := hs.sO
  sB := hs.sB
  sOB := hs.sOB
  live := fun b q => by rw [upd_ne]; exact hs.live b q; rintro rfl; exact nw q
  noT := fun b xs e q => by
    by_cases hb : b = d
    · subst hb; exact nw q
    · rw [upd_ne hb] at e; exact hs.noT b xs e q
theorem lock_slots {K : PySem.W.Frag} {g : G} {σ : List Sl} {τ : L2.St} {H : Hp} {d : Addr} {u : HO} {od : PySem.Obj} (ss : Slots K g σ τ H) (hd : H d = some u) (nw : ¬ g.W d) (nl : ∀ vs, u ≠ .lst vs) (pl : Plain u) : Slots K g σ τ (upd H d (.frz od u)) :=
  ⟨ss.len, fun i s x e1 e2 => (ss.rep i s x e1 e2).stays (lock_stays hd nw nl pl).stays (fun _ q => q) fun b o q e => by rw [upd_ne]; exact e; rintro rfl; exact nw (.inr (.inl q)), ss.inj⟩
/-- the items of a value -/
def walkD : D → Option (List D)
  | .lst ds => some ds
  | .tup ds => some ds
  | .scr ds => some ds
  | .kt ds => some ds
  | .str z => some (signs z)
  | .dic _ es => some (es.map (·.1))
  | _ => none
def wkM (m : M D) : M (List D) := bnd m fun d => opt (walkD d)
theorem di_any (he : DE X w e m) : DI X w tg e (wkM m) := by
  refine PI.imp' (PI.or (PI.or (pi_list he) (pi_tup he)) (PI.or (pi_str he) (pi_keys (pe_lockd he)))) fun τ H R h => ?_
  obtain ⟨g, σ, h0, hs, ss, p⟩ := h
  have ex : ∀ x σ1 h1, m σ h0 = .exc x σ1 h1 → ∀ g' H' cls dx, Heaps X.K X.mg g' h1 H' → Slots X.K g' σ1 τ H' → Fr g H g' H' → XRep X.K X.mg H' g' x cls dx → w cls dx τ H' := fun x σ1 h1 e1 => by
    unfold wkM bnd at p; rw [e1] at p; exact p
  cases e1 : m σ h0 with
  | no => unfold wkM bnd at p; rw [e1] at p; exact p.elim
  | exc x σ1 h1 => exact .inl (.inl (tM.first hs ss ex (by rw [e1]; exact fun z => nomatch z) fun a σ2 h2 e2 => by rw [e1] at e2; cases e2))
  | ok d σ1 h1 =>
    have p' : PostI X.K X.mg w R g H τ (opt (walkD d) σ1 h1) := by unfold wkM bnd at p; rw [e1] at p; exact p
    have go : ∀ {Q : VK}, (∀ g1 v H1, Heaps X.K X.mg g1 h1 H1 → Slots X.K g1 σ1 τ H1 → Fr g H g1 H1 → Rep X.K H1 g1 d v → Q v H1) → tE X.K X.mg w m τ H Q := fun {Q} hk =>
      tM.first hs ss ex (by rw [e1]; exact fun z => nomatch z) fun a σ2 h2 e2 => by rw [e1] at e2; cases e2; exact hk
    cases d with
    | lst ds =>
      refine .inl (.inl (go fun g1 v H1 hs1 ss1 f1 r => ?_))
      obtain ⟨a, vs, rfl, ha, nw, rl⟩ := rep_lst r
      exact ⟨a, rfl, ⟨vs, SqL.of ha⟩, p' g1 H1 _ hs1 ss1 f1 (serves_list (vs := vs) fun g' H' st => ⟨SqL.of (st.ls a vs ha nw), rl.stays st⟩)⟩
    | tup ds =>
      refine .inl (.inr (go fun g1 v H1 hs1 ss1 f1 r => ?_))
      obtain ⟨a, vs, rfl, ha, rl⟩ := rep_tup r
      exact ⟨a, rfl, ⟨vs, SqT.of ha⟩, p' g1 H1 _ hs1 ss1 f1 (serves_tup (vs := vs) fun g' H' st => ⟨SqT.of (st.tup a vs ha), rl.stays st⟩)⟩
    | kt ds =>
      refine .inl (.inr (go fun g1 v H1 hs1 ss1 f1 r => ?_))
      cases r with
      | kt hq rl =>
        rename_i a vs
        exact ⟨a, rfl, ⟨vs, hq.sq⟩, p' g1 H1 _ hs1 ss1 f1 (serves_tup (vs := vs) fun g' H' st => ⟨(hq.keep st.frz).sq, rl.stays st⟩)⟩
    | scr ds =>
      refine .inl (.inl (go fun g1 v H1 hs1 ss1 f1 r => ?_))
      cases r with
      | scr hq rl =>
        rename_i a vs
        have lst : ∀ g' H', Stays g1 H1 g' H' → SqL X.K H' a vs := fun g' H' st => by
          rcases hq with q | q
          · exact .inl (st.rd a _ q.1 q.2).1
          · rcases q with q | q
            · rcases q with q | ⟨_, q⟩ <;> cases q
            · exact .inr q
        exact ⟨a, rfl, ⟨vs, lst g1 H1 (Fr.refl _ _).stays⟩, p' g1 H1 _ hs1 ss1 f1 (serves_list (vs := vs) fun g' H' st => ⟨lst g' H' st, rl.stays st⟩)⟩
    | str z =>
      refine .inr (.inl (go fun g1 v H1 hs1 ss1 f1 r => ?_))
      cases rep_str r
      exact ⟨z, rfl, p' g1 H1 _ hs1 ss1 f1 serves_str⟩
    | dic t es =>
      refine .inr (.inr (go fun g1 v H1 hs1 ss1 f1 r => ?_))
      cases r with
      | dic hr nw c =>
        rename_i a u
        rcases hr with hr | ⟨o, hr⟩
        · refine .inr ⟨a, u, rfl, hr, by cases c <;> trivial, fun od => ?_⟩
          have nl : ∀ vs, u ≠ .lst vs := fun vs z => by subst z; cases c
          have f2 : Fr g1 H1 g1 (upd H1 a (.frz od u)) := lock_stays hr nw nl c.plain
          have hs2 := lock_heaps (od := od) hs1 hr nw nl c.plain
          have ss2 := lock_slots (od := od) ss1 hr nw nl c.plain
          have c2 := c.stays f2.stays
          refine ⟨a, od, rfl, ?_⟩
          cases c2 with
          | dicK rk => exact .inl ⟨_, upd_same, p' g1 _ _ hs2 ss2 (f1.trans f2) (serves_keys upd_same rk)⟩
          | dicT rt => exact .inr ⟨_, upd_same, p' g1 _ _ hs2 ss2 (f1.trans f2) (serves_keysT upd_same rt)⟩
        · refine .inl ⟨a, o, rfl, ?_⟩
          cases c with
          | dicK rk => exact .inl ⟨_, hr, p' g1 _ _ hs1 ss1 f1 (serves_keys hr rk)⟩
          | dicT rt => exact .inr ⟨_, hr, p' g1 _ _ hs1 ss1 f1 (serves_keysT hr rt)⟩
    | _ => exact p'.elim
def rg1 (m : M D) : M (List D) := bnd m fun d => match d with
  | .int j => if -(2 ^ 62) ≤ j ∧ j < 2 ^ 62 then ret (rngD 0 j.toNat) else no
  | _ => no
theorem di_range1 {p : Pos} (hg : Gl X "range") (hm : X.mg "range" = none) (ha : DE X w a m) (hs : starEach [a] X.env = [(false, eval a X.env)] := by rfl) (hst : starEach [a] X.env = (false, eval a X.env) :: starEach [] X.env := by rfl) : DI X w tg (.Call (.Name "range" p) [a] [] pos) (rg1 m) :=
  PI.imp' (pi_range1 hg hm (pa_cons ha pa_nil hst) hs) fun τ H R h => by
    obtain ⟨g, σ, h0, hs, ss, p⟩ := h
    refine tM.bndI hs ss p fun d σ1 h1 g1 v H1 hs1 ss1 f1 r p1 => ?_
    cases d with
    | int j =>
      dsimp only at p1
      by_cases hj : -(2 ^ 62) ≤ j ∧ j < 2 ^ 62
      · rw [if_pos hj] at p1
        cases rep_int r
        exact ⟨j, rfl, hj.1, hj.2, p1 g1 H1 _ hs1 ss1 (Fr.refl _ _) serves_range⟩
      · rw [if_neg hj] at p1; exact p1.elim
    | _ => exact p1.elim
def rg2 (ma mb : M D) : M (List D) := bnd ma fun x => bnd mb fun y => match x, y with
  | .int i, .int j => if (-(2 ^ 62) ≤ i ∧ i < 2 ^ 62) ∧ -(2 ^ 62) ≤ j ∧ j < 2 ^ 62 then ret (rngD i (j - i).toNat) else no
  | _, _ => no
theorem di_range2 {p : Pos} (hg : Gl X "range") (hm : X.mg "range" = none) (ha : DE X w a ma) (hb : DE X w b mb) (hs : starEach [a, b] X.env = [(false, eval a X.env), (false, eval b X.env)] := by rfl) (hs2 : starEach [b] X.env = [(false, eval b X.env)] := by rfl)
    (hst : starEach [a, b] X.env = (false, eval a X.env) :: starEach [b] X.env := by rfl) (hst2 : starEach [b] X.env = (false, eval b X.env) :: starEach [] X.env := by rfl) : DI X w tg (.Call (.Name "range" p) [a, b] [] pos) (rg2 ma mb) :=
  PI.imp' (pi_range2 hg hm (pa_cons ha (pa_cons hb pa_nil hst2) hst) hs hs2) fun τ H R h => by
    obtain ⟨g, σ, h0, hs, ss, p⟩ := h
    refine tM.bndI hs ss p fun x σ1 h1 g1 vx H1 hs1 ss1 f1 rx p1 => ?_
    refine tM.bndI hs1 ss1 p1 fun y σ2 h2 g2 vy H2 hs2 ss2 f2 ry p2 => ?_
    cases x with
    | int i =>
      cases y with
      | int j =>
        dsimp only at p2
        by_cases hj : (-(2 ^ 62) ≤ i ∧ i < 2 ^ 62) ∧ -(2 ^ 62) ≤ j ∧ j < 2 ^ 62
        · rw [if_pos hj] at p2
          cases rep_int rx; cases rep_int ry
          exact ⟨i, j, rfl, ⟨hj.1.1, hj.1.2, hj.2.1, hj.2.2⟩, p2 g2 H2 _ hs2 ss2 (Fr.refl _ _) serves_range⟩
        · rw [if_neg hj] at p2; exact p2.elim
      | _ => exact p2.elim
    | _ => exact p2.elim

/-! ### for -/
def forM (t : Tg D) (body : M Fl) : List D → M Fl
  | [] => ret .nx
  | d :: ds => fun σ h => match t d σ with
    | none => .no
    | some σ' => match body σ' h with
      | .ok .nx σ2 h2 => forM t body ds σ2 h2
      | .ok .ct σ2 h2 => forM t body ds σ2 h2
      | .ok .bk σ2 h2 => .ok .nx σ2 h2
      | .ok (.rt d) σ2 h2 => .ok (.rt d) σ2 h2
      | .exc x σ2 h2 => .exc x σ2 h2
      | .no => .no
def foM (mi : M (List D)) (t : Tg D) (body : M Fl) : M Fl := bnd mi fun ds => forM t body ds
theorem ds_for {js : List Nat} {mi : M (List D)} {t : Tg D} {body : List Stmt} {mb : M Fl} (hp : PassesOwn (model X.prog X.w) X.A X.env X.xe) (hc : X.calm = true) (hi : DI X w tg iter mi) (hg : DG X js tg t) (hb : DSs X w body mb)
    (hs : ∀ x, foldedSetIterable iter X.env x = pure x := by intro _; rfl) : DS X w (.For tg iter body [] pos) (foM mi t mb) := PS.imp' (ps_for hp hc hi hg hb hs) fun D τ H h => by
  obtain ⟨g, σ, h0, hs, ss, p⟩ := h
  refine ⟨g, σ, h0, hs, ss, ?_⟩
  unfold foM bnd at p
  cases ei : mi σ h0 with
  | no => rw [ei] at p; exact p
  | exc x σ1 h1 => rw [ei] at p; exact fun g' H' c d => p g' τ H' c d
  | ok ds σ1 h1 =>
    rw [ei] at p
    intro g1 H1 J hs1 ss1 f1 sv
    have p : PostS X.K X.mg w D g1 H1 (forM t mb ds σ1 h1) := PostS.shift f1 p
    refine ⟨fun i n τ2 H2 => n = ds.length - i ∧ i ≤ ds.length ∧ ∃ g2 σ2 h2, Heaps X.K X.mg g2 h2 H2 ∧ Slots X.K g2 σ2 τ2 H2 ∧ Stays g1 H1 g2 H2 ∧ PostS X.K X.mg w D g2 H2 (forM t mb (ds.drop i) σ2 h2),
      ⟨ds.length, by simp, Nat.zero_le _, g1, σ1, h1, hs1, ss1, (Fr.refl _ _).stays, p⟩, ?_⟩
    rintro i n τ2 H2 ⟨rfl, hil, g2, σ2, h2, hs2, ss2, st, q⟩
    by_cases hlt : i < ds.length
    · refine .inr ⟨sv.goes i g2 H2 hlt st, fun τ3 H3 => ∃ g3 σ3 h3, Heaps X.K X.mg g3 h3 H3 ∧ Slots X.K g3 σ3 τ3 H3 ∧ Stays g1 H1 g3 H3 ∧ PostS X.K X.mg w D g3 H3 (forM t mb (ds.drop (i + 1)) σ3 h3),
        fun τ3 H3 ⟨g3, σ3, h3, a1, a2, a3, a4⟩ => ⟨ds.length - (i + 1), by omega, rfl, hlt, g3, σ3, h3, a1, a2, a3, a4⟩, fun x H3 y => ?_⟩
      obtain ⟨nw, d, hd, rd⟩ := sv.yields i g2 H2 x H3 hlt st y
      have ed : ds.drop i = d :: ds.drop (i + 1) := by
        rw [List.drop_eq_getElem_cons hlt]
        rw [List.getElem?_eq_getElem hlt] at hd
        cases hd; rfl
      rw [ed] at q
      have q : PostS X.K X.mg w D g2 H3 (forM t mb (d :: ds.drop (i + 1)) σ2 h2) := PostS.shift nw.fr q
      refine ⟨g2, σ2, h2, d, hs2.new nw, ss2.new nw, rd _ rfl, ?_⟩
      unfold forM at q
      cases et : t d σ2 with
      | none => rw [et] at q; exact q.elim
      | some σ3 =>
        rw [et] at q
        intro g3 τ3 H4 hs3 ss3 f3 _
        refine ⟨g3, σ3, h2, hs3, ss3, ?_⟩
        have q := PostS.shift f3 q
        dsimp only at q
        have st3 : ∀ {g4 : G} {H5 : Hp}, Fr g3 H4 g4 H5 → Stays g1 H1 g4 H5 := fun {g4 H5} f4 => (st.trans nw.stays).trans (f3.trans f4).stays
        cases eb : mb σ3 h2 with
        | no => rw [eb] at q; exact q
        | exc y σ4 h4 => rw [eb] at q; exact q
        | ok fl σ4 h4 =>
          rw [eb] at q
          cases fl with
          | nx => exact fun g4 τ4 H5 a1 a2 a3 => ⟨g4, σ4, h4, a1, a2, st3 a3, PostS.shift a3 q⟩
          | ct => exact fun g4 τ4 H5 a1 a2 a3 => ⟨g4, σ4, h4, a1, a2, st3 a3, PostS.shift a3 q⟩
          | bk => exact fun g4 τ4 H5 a1 a2 a3 => q g4 τ4 H5 a1 a2 a3
          | rt d => exact fun g4 τ4 H5 a1 a2 a3 => q g4 τ4 H5 a1 a2 a3
    · have e : i = ds.length := by omega
      subst e
      refine .inl ⟨sv.stops g2 H2 st, ?_⟩
      rw [List.drop_length] at q
      exact q g2 τ2 H2 hs2 ss2 (Fr.refl _ _)

/-! ### while, of at most so many turns -/
def whlM (c : M Bool) (body : M Fl) : Nat → M Fl
  | 0 => no
  | n + 1 => bnd c fun k => if k = true then (fun σ h => match body σ h with
      | .ok .nx σ2 h2 => whlM c body n σ2 h2
      | .ok .ct σ2 h2 => whlM c body n σ2 h2
      | .ok .bk σ2 h2 => .ok .nx σ2 h2
      | .ok (.rt d) σ2 h2 => .ok (.rt d) σ2 h2
      | .exc x σ2 h2 => .exc x σ2 h2
      | .no => .no) else ret .nx
theorem ds_while {n : Nat} {c : Expr} {mc : M Bool} {body : List Stmt} {mb : M Fl} (hp : PassesOwn (model X.prog X.w) X.A X.env X.xe) (hc : DT X w c mc) (hb : DSs X w body mb) : DS X w (.While c body [] pos) (whlM mc mb n) := PS.imp' (ps_while hp hc hb) fun D τ H h => by
  obtain ⟨g, σ, h0, hs, ss, p⟩ := h
  refine ⟨fun k τ2 H2 => ∃ g2 σ2 h2, Heaps X.K X.mg g2 h2 H2 ∧ Slots X.K g2 σ2 τ2 H2 ∧ PostS X.K X.mg w D g2 H2 (whlM mc mb k σ2 h2), ⟨n, g, σ, h0, hs, ss, p⟩, ?_⟩
  rintro k τ2 H2 ⟨g2, σ2, h2, hs2, ss2, q⟩
  cases k with
  | zero => exact q.elim
  | succ k =>
    refine tM.bndS hs2 ss2 q fun x σ3 h3 g3 vx H3 hs3 ss3 f3 rx q3 => ?_
    subst rx
    cases x with
    | false => rw [if_neg Bool.false_ne_true] at q3 ⊢; exact q3 g3 τ2 H3 hs3 ss3 (Fr.refl _ _)
    | true =>
      rw [if_pos rfl] at q3 ⊢
      refine ⟨fun τ4 H4 => ∃ g4 σ4 h4, Heaps X.K X.mg g4 h4 H4 ∧ Slots X.K g4 σ4 τ4 H4 ∧ PostS X.K X.mg w D g4 H4 (whlM mc mb k σ4 h4), fun τ4 H4 ⟨g4, σ4, h4, a1, a2, a3⟩ => ⟨k, Nat.lt_succ_self k, g4, σ4, h4, a1, a2, a3⟩, g3, σ3, h3, hs3, ss3, ?_⟩
      cases eb : mb σ3 h3 with
      | no => rw [eb] at q3; exact q3
      | exc y σ4 h4 => rw [eb] at q3; exact q3
      | ok fl σ4 h4 =>
        rw [eb] at q3
        cases fl with
        | nx => exact fun g4 τ4 H5 a1 a2 a3 => ⟨g4, σ4, h4, a1, a2, PostS.shift a3 q3⟩
        | ct => exact fun g4 τ4 H5 a1 a2 a3 => ⟨g4, σ4, h4, a1, a2, PostS.shift a3 q3⟩
        | bk => exact fun g4 τ4 H5 a1 a2 a3 => q3 g4 τ4 H5 a1 a2 a3
        | rt d => exact fun g4 τ4 H5 a1 a2 a3 => q3 g4 τ4 H5 a1 a2 a3
end
end Bw
namespace Bw
open PySem L2

/-! ### something new is held aside while other code runs -/
def G.hold (g : G) (p : Addr) : G := { g with B := fun b => g.B b ∨ b = p }
def rem (H : Hp) (p : Addr) : Hp := fun b => if b = p then none else H b
theorem rem_same {H : Hp} {p : Addr} : rem H p p = none := if_pos rfl
theorem rem_ne {H : Hp} {p b : Addr} (h : b ≠ p) : rem H p b = H b := if_neg h
theorem upd_rem {H : Hp} {p : Addr} {u : HO} (h : H p = some u) : upd (rem H p) p u = H := by
  funext b
  by_cases hb : b = p
  · subst hb; rw [upd_same, h]
  · rw [upd_ne hb, rem_ne hb]
section
variable {K : PySem.W.Frag} {mg : Str → Option Value} {g g4 : G} {h h4 : Hd} {H H4 : Hp} {σ : List Sl} {τ : L2.St} {p : Addr} {u : HO}
theorem hold_W {b : Addr} (q : (g.hold p).W b) : g.W b ∨ b = p := by
  rcases q with q | q | q
  · exact .inl (.inl q)
  · exact .inl (.inr (.inl q))
  · rcases q with q | q
    · exact .inl (.inr (.inr q))
    · exact .inr q
theorem Stays.hold (hp : H p = Option.none) : Stays g H (g.hold p) (L2.upd H p u) where
  pre := fun _ _ q => q
  tup := fun b xs q => (New.upd hp) b _ q
  rd := fun b v q nw => by
    have hb : b ≠ p := by
      rintro rfl
      rcases q with q | ⟨o, q⟩ <;> rw [hp] at q <;> cases q
    exact ⟨(New.upd hp).rd q, fun z => (hold_W z).elim nw hb⟩
  ls := fun b vs q _ => New.upd hp b _ q
  frz := fun b ob v q => New.upd hp b _ q
theorem Heaps.hold (hs : Heaps K mg g h H) (hp : H p = Option.none) (pl : Plain u) : Heaps K mg (g.hold p) h (L2.upd H p u) := by
  have np : ∀ b, g.W b → b ≠ p := fun b q z => by obtain ⟨o, e⟩ := hs.live b q; rw [z, hp] at e; cases e
  refine ⟨hs.len, hs.nd, fun j d b e1 e2 => (hs.cell j d b e1 e2).stays (Stays.hold hp) fun o q => New.upd hp b o q, hs.sO, fun b q z => ?_, fun b q z => ?_, fun b q => ?_, fun b xs e q => ?_⟩
  · rcases z with z | z
    · exact hs.sB b q z
    · exact np b (.inl q) z
  · rcases z with z | z
    · exact hs.sOB b q z
    · exact np b (.inr (.inl q)) z
  · by_cases hb : b = p
    · subst hb; exact ⟨u, upd_same⟩
    · rw [upd_ne hb]; exact hs.live b ((hold_W q).resolve_right hb)
  · by_cases hb : b = p
    · subst hb; rw [upd_same] at e; cases e; exact pl
    · rw [upd_ne hb] at e; exact hs.noT b xs e ((hold_W q).resolve_right hb)
theorem Slots.hold (ss : Slots K g σ τ H) (hp : H p = Option.none) : Slots K (g.hold p) σ τ (L2.upd H p u) :=
  ⟨ss.len, fun i s x e1 e2 => (ss.rep i s x e1 e2).stays (Stays.hold hp) (fun _ q => q) fun b o _ e => New.upd hp b o e, ss.inj⟩
/-- behind the other code: it is taken off again -/
def G.back (g4 g : G) : G := { g4 with B := g.B }
theorem back_W (f : Fr (g.hold p) (L2.upd H p u) g4 H4) {b : Addr} (q : (g4.back g).W b) : g4.W b := by
  rcases q with q | q | q
  · exact .inl q
  · exact .inr (.inl q)
  · exact .inr (.inr (by rw [f.B]; exact .inl q))
theorem held_at (f : Fr (g.hold p) (L2.upd H p u) g4 H4) : H4 p = some u := f.keep p u upd_same (.inr rfl)
theorem Stays.back (f : Fr (g.hold p) (L2.upd H p u) g4 H4) (pl : Plain u) : Stays g4 H4 (g4.back g) (rem H4 p) where
  pre := fun _ _ q => q
  tup := fun b xs q => by rw [rem_ne]; exact q; rintro rfl; rw [held_at f] at q; cases q; exact pl
  rd := fun b v q nw => by
    have hb : b ≠ p := by rintro rfl; exact nw (.inr (.inr (by rw [f.B]; exact .inr rfl)))
    exact ⟨by unfold Rd; rw [rem_ne hb]; exact q, fun z => nw (back_W f z)⟩
  ls := fun b vs q nw => by rw [rem_ne]; exact q; rintro rfl; exact nw (.inr (.inr (by rw [f.B]; exact .inr rfl)))
  frz := fun b ob v q => by rw [rem_ne]; exact q; rintro rfl; rw [held_at f] at q; cases q; exact pl
theorem Fr.back (f : Fr (g.hold p) (L2.upd H p u) g4 H4) (hp : H p = Option.none) : Fr g H (g4.back g) (rem H4 p) := by
  have nn : ∀ b, L2.upd H p u b = Option.none → H b = Option.none := fun b e => by
    by_cases hb : b = p
    · subst hb; exact hp
    · rw [upd_ne hb] at e; exact e
  have ne : ∀ {b o}, H b = some o → b ≠ p := fun {b o} e z => by rw [z, hp] at e; cases e
  refine ⟨f.pre, fun a q => (f.new a q).imp id (nn a), rfl, fun a q => (f.O a q).imp id (nn a), fun a o e q => ?_, fun a v q nw => ?_, fun a vs q nw => ?_, fun a xs q => ?_, fun a ob v q => ?_, fun a o q => ?_⟩
  · rw [rem_ne (ne e)]; exact f.keep a o (New.upd hp a o e) (.inl q)
  · have hb : a ≠ p := by rcases q with q | ⟨_, q⟩ <;> exact ne q
    unfold Rd; rw [rem_ne hb]; exact f.rd a v ((New.upd hp).rd q) fun z => (hold_W z).elim nw hb
  · rw [rem_ne (ne q)]; exact f.ls a vs (New.upd hp a _ q) fun z => (hold_W z).elim nw (ne q)
  · rw [rem_ne (ne q)]; exact f.tup a xs (New.upd hp a _ q)
  · rw [rem_ne (ne q)]; exact f.frz a ob v (New.upd hp a _ q)
  · rw [rem_ne (ne q)]; exact f.live a o (New.upd hp a _ q)
theorem Heaps.back (hs0 : Heaps K mg g h H) (hs : Heaps K mg g4 h4 H4) (f : Fr (g.hold p) (L2.upd H p u) g4 H4) (hp : H p = Option.none) (pl : Plain u) : Heaps K mg (g4.back g) h4 (rem H4 p) := by
  have np : ∀ b, (g4.back g).W b → b ≠ p := fun b q z => by
    subst z
    rcases q with q | q | q
    · exact hs.sB b q (by rw [f.B]; exact .inr rfl)
    · exact hs.sOB b q (by rw [f.B]; exact .inr rfl)
    · obtain ⟨o, e⟩ := hs0.live b (.inr (.inr q)); rw [hp] at e; cases e
  refine ⟨hs.len, hs.nd, fun j d b e1 e2 => (hs.cell j d b e1 e2).stays (Stays.back f pl) fun o q => ?_, hs.sO, fun b q z => hs.sB b q (by rw [f.B]; exact .inl z), fun b q z => hs.sOB b q (by rw [f.B]; exact .inl z), fun b q => ?_, fun b xs e q => ?_⟩
  · rw [rem_ne (np b (.inl (List.mem_of_getElem? e2)))]; exact q
  · rw [rem_ne (np b q)]; exact hs.live b (back_W f q)
  · rw [rem_ne (np b q)] at e; exact hs.noT b xs e (back_W f q)
theorem Slots.back {τ' : L2.St} (hs : Heaps K mg g4 h4 H4) (ss : Slots K g4 σ τ' H4) (f : Fr (g.hold p) (L2.upd H p u) g4 H4) (pl : Plain u) : Slots K (g4.back g) σ τ' (rem H4 p) :=
  ⟨ss.len, fun i s x e1 e2 => (ss.rep i s x e1 e2).stays (Stays.back f pl) (fun _ q => q) fun b o q e => by rw [rem_ne]; exact e; rintro rfl; exact hs.sOB b q (by rw [f.B]; exact .inr rfl), ss.inj⟩
end

/-! ### comprehensions -/
def wipeS (σ : List Sl) : List Nat → List Sl
  | [] => σ
  | v :: vs => (wipeS σ vs).set v .un
theorem wipeS_len (σ : List Sl) : ∀ vs : List Nat, (wipeS σ vs).length = σ.length
  | [] => rfl
  | v :: vs => by unfold wipeS; rw [List.length_set, wipeS_len σ vs]
theorem wipeS_out {σ : List Sl} {i : Nat} : ∀ {vs : List Nat}, i ∉ vs → (wipeS σ vs)[i]? = σ[i]?
  | [], _ => rfl
  | v :: vs, h => by
    have h1 : v ≠ i := fun e => h (by rw [e]; exact List.mem_cons_self)
    unfold wipeS
    rw [List.getElem?_set_ne h1]
    exact wipeS_out fun z => h (List.mem_cons_of_mem _ z)
theorem wipeS_in {σ : List Sl} {i : Nat} {s : Sl} : ∀ {vs : List Nat}, i ∈ vs → (wipeS σ vs)[i]? = some s → s = .un
  | [], h, _ => absurd h (by simp)
  | v :: vs, h, e => by
    unfold wipeS at e
    by_cases hv : v = i
    · subst hv
      have hl := (List.getElem?_eq_some_iff.mp e).1
      rw [List.length_set] at hl
      rw [List.getElem?_set_self hl] at e
      cases e; rfl
    · rw [List.getElem?_set_ne hv] at e
      exact wipeS_in ((List.mem_cons.mp h).resolve_left (fun z => hv z.symm)) e
/-- the outer names of the same slots come back -/
def bringS (σ0 σ : List Sl) : List Nat → List Sl
  | [] => σ
  | v :: vs => (bringS σ0 σ vs).set v (match σ0[v]? with | some (.v d) => .v d | _ => .un)
theorem bringS_len (σ0 σ : List Sl) : ∀ vs : List Nat, (bringS σ0 σ vs).length = σ.length
  | [] => rfl
  | v :: vs => by unfold bringS; rw [List.length_set, bringS_len σ0 σ vs]
theorem bringS_out {σ0 σ : List Sl} {i : Nat} : ∀ {vs : List Nat}, i ∉ vs → (bringS σ0 σ vs)[i]? = σ[i]?
  | [], _ => rfl
  | v :: vs, h => by
    have h1 : v ≠ i := fun e => h (by rw [e]; exact List.mem_cons_self)
    unfold bringS
    rw [List.getElem?_set_ne h1]
    exact bringS_out fun z => h (List.mem_cons_of_mem _ z)
theorem bringS_in {σ0 σ : List Sl} {i : Nat} {s : Sl} : ∀ {vs : List Nat}, i ∈ vs → (bringS σ0 σ vs)[i]? = some s → s = .un ∨ ∃ d, s = .v d ∧ σ0[i]? = some (.v d)
  | [], h, _ => absurd h (by simp)
  | v :: vs, h, e => by
    unfold bringS at e
    by_cases hv : v = i
    · subst hv
      have hl := (List.getElem?_eq_some_iff.mp e).1
      rw [List.length_set] at hl
      rw [List.getElem?_set_self hl] at e
      cases e
      split
      · exact .inr ⟨_, rfl, by assumption⟩
      · exact .inl rfl
    · rw [List.getElem?_set_ne hv] at e
      exact bringS_in ((List.mem_cons.mp h).resolve_left (fun z => hv z.symm)) e
section
variable {K : PySem.W.Frag} {g g' : G} {H H' : Hp} {σ σ0 : List Sl} {τ : L2.St}
theorem Slots.wipe (ss : Slots K g σ τ H) (vs : List Nat) : Slots K g (wipeS σ vs) (wipe τ vs) H := by
  refine ⟨by rw [wipeS_len, wipe_length]; exact ss.len, fun i s x e1 e2 => ?_, fun i j s t a e1 e2 m1 m2 t1 t2 => ?_⟩
  · by_cases hi : i ∈ vs
    · rw [wipeS_in hi e1]; trivial
    · rw [wipeS_out hi] at e1; rw [wipe_out hi] at e2; exact ss.rep i s x e1 e2
  · by_cases hi : i ∈ vs
    · rw [wipeS_in hi e1] at m1; cases m1
    · by_cases hj : j ∈ vs
      · rw [wipeS_in hj e2] at m2; cases m2
      · rw [wipeS_out hi] at e1; rw [wipe_out hi] at t1; rw [wipeS_out hj] at e2; rw [wipe_out hj] at t2
        exact ss.inj i j s t a e1 e2 m1 m2 t1 t2
theorem Slots.bring {vs : List Nat} (s0 : Slots K g σ0 τ H) (st : Stays g H g' H') (ss : Slots K g' σ (L2.wipe τ vs) H') : Slots K g' (bringS σ0 σ vs) τ H' := by
  refine ⟨by rw [bringS_len]; exact ss.len.trans (wipe_length τ vs), fun i s x e1 e2 => ?_, fun i j s t a e1 e2 m1 m2 t1 t2 => ?_⟩
  · by_cases hi : i ∈ vs
    · rcases bringS_in hi e1 with rfl | ⟨d, rfl, e0⟩
      · trivial
      · obtain ⟨v, ev, r⟩ := s0.rep i _ x e0 e2
        exact ⟨v, ev, r.stays st⟩
    · rw [bringS_out hi] at e1
      exact ss.rep i s x e1 (by rw [wipe_out hi]; exact e2)
  · by_cases hi : i ∈ vs
    · rcases bringS_in hi e1 with rfl | ⟨d, rfl, _⟩ <;> cases m1
    · by_cases hj : j ∈ vs
      · rcases bringS_in hj e2 with rfl | ⟨d, rfl, _⟩ <;> cases m2
      · rw [bringS_out hi] at e1; rw [bringS_out hj] at e2
        exact ss.inj i j s t a e1 e2 m1 m2 (by rw [wipe_out hi]; exact t1) (by rw [wipe_out hj]; exact t2)
theorem wipe_off {js vs : List Nat} {τ τ' : L2.St} (o : Off js τ τ') (hj : ∀ j ∈ js, j ∈ vs) : wipe τ' vs = wipe τ vs := by
  apply List.ext_getElem?
  intro i
  by_cases hi : i ∈ vs
  · have key : ∀ (t t' : L2.St), t.length = t'.length → ∀ {us : List Nat}, i ∈ us → (wipe t us)[i]? = (wipe t' us)[i]? := by
      intro t t' hl us
      induction us with
      | nil => intro h; exact absurd h (by simp)
      | cons v us ih =>
        intro h
        unfold wipe
        by_cases hv : v = i
        · subst hv
          rw [List.getElem?_set, List.getElem?_set, if_pos rfl, if_pos rfl, wipe_length, wipe_length, hl]
        · rw [List.getElem?_set_ne hv, List.getElem?_set_ne hv]
          exact ih ((List.mem_cons.mp h).resolve_left (fun z => hv z.symm))
    exact key _ _ o.1 hi
  · rw [wipe_out hi, wipe_out hi]; exact o.2 i fun z => hi (hj i z)
end
def wN : WX := fun _ _ _ _ => False
/-- the tests of a comprehension: none, or one -/
abbrev DTs (X : Cx) (w : WX) (es : List Expr) (m : M Bool) : Prop := PTs X es (tT X.K X.mg w m)
theorem dts_nil {X : Cx} {w : WX} : DTs X w [] (ret true) := ⟨fun pins s τ H Q I h => by
  obtain ⟨g, σ, h0, hs, ss, p⟩ := h
  exact (pts_nil (X := X)).run pins s τ H Q I (p g true H hs ss (Fr.refl _ _) rfl)⟩
theorem dts_one {X : Cx} {w : WX} {c : Expr} {m : M Bool} (h : DT X w c m) : DTs X w [c] m := pts_one h
def lcM (vs : List Nat) (t : Tg D) (c : M Bool) (e : M D) : List D → List D → M (List D)
  | acc, [] => ret acc
  | acc, d :: ds => fun σ h => match t d σ with
    | none => .no
    | some σ1 => match c σ1 h with
      | .ok true σ2 h2 => match e σ2 h2 with
        | .ok y σ3 h3 => if acc.length < big then lcM vs t c e (acc ++ [y]) ds (wipeS σ3 vs) h3 else .no
        | _ => .no
      | .ok false σ2 h2 => lcM vs t c e acc ds (wipeS σ2 vs) h2
      | _ => .no
def lcF (mi : M (List D)) (vs : List Nat) (t : Tg D) (c : M Bool) (e : M D) : M D := bnd mi fun ds => fun σ h => match lcM vs t c e [] ds (wipeS σ vs) h with
  | .ok acc σ' h' => .ok (.lst acc) (bringS σ σ' vs) h'
  | _ => .no
section
variable {X : Cx} {w : WX} {tg iter elt : Expr} {ifs : List Expr} {scope : Scope} {own : List (Str × Nat)} {pos : Pos} {js : List Nat} {mi : M (List D)} {t : Tg D} {mc : M Bool} {me : M D}
theorem Slots.wiped {K : PySem.W.Frag} {g : G} {σ : List Sl} {τ τ' : L2.St} {H : Hp} {vs : List Nat} (ss : Slots K g σ τ' H) (e : L2.wipe τ' vs = L2.wipe τ vs) : Slots K g (wipeS σ vs) (L2.wipe τ vs) H := by rw [← e]; exact ss.wipe vs
theorem lc_read (hj : ∀ j ∈ js, j ∈ own.map (·.2)) {τ : L2.St} {H : Hp} {Q : VK} (h : tF X.K X.mg w (lcF mi (own.map (·.2)) t mc me) τ H Q) :
    tLc (tI X.K X.mg w mi) (tG X.K X.mg js t) (tT X.K X.mg wN mc) (tE X.K X.mg wN me) (own.map (·.2)) τ H Q := by
  obtain ⟨g, σ, h0, hs, ss, p⟩ := h
  refine ⟨g, σ, h0, hs, ss, ?_⟩
  unfold lcF bnd at p
  generalize hvs : own.map (·.2) = vs at *
  cases ei : mi σ h0 with
  | no => rw [ei] at p; exact p
  | exc x σ1 h1 => rw [ei] at p; exact p
  | ok ds σ1 h1 =>
    rw [ei] at p
    intro g1 H1 J hs1 ss1 f1 sv D hD
    dsimp only at p
    -- what is wanted of what the loop hands back
    let Fin : R (List Bw.D) → Prop := fun r => PostF X.K X.mg w Q g H τ (match r with | .ok acc σ' h' => .ok (.lst acc) (bringS σ1 σ' vs) h' | _ => .no)
    have p0 : Fin (lcM vs t mc me [] ds (wipeS σ1 vs) h1) := p
    refine ⟨fun i n H2 => n = ds.length - i ∧ i ≤ ds.length ∧ ∃ g2 σ2 h2 acc vacc Hm, Hm D = none ∧ H2 = upd Hm D (.lst vacc) ∧ Heaps X.K X.mg g2 h2 Hm ∧ Slots X.K g2 σ2 (wipe τ vs) Hm ∧ Fr g1 H1 g2 Hm ∧ RepL X.K Hm g2 acc vacc ∧ Fin (lcM vs t mc me acc (ds.drop i) σ2 h2),
      ⟨ds.length, by simp, Nat.zero_le _, g1, _, h1, [], [], H1, hD, rfl, hs1, ss1.wipe vs, Fr.refl _ _, .nil, p0⟩, ?_⟩
    rintro i n H2 ⟨rfl, hil, g2, σ2, h2, acc, vacc, Hm, hm, rfl, hs2, ss2, f2, ra, q⟩
    have stH : Stays g2 Hm (g2.hold D) (upd Hm D (.lst vacc)) := .hold hm
    have stJ := f2.stays.trans stH
    by_cases hlt : i < ds.length
    · refine .inr ⟨sv.goes i _ _ hlt stJ, fun H3 => ∃ g3 σ3 h3 acc3 vacc3 Hm3, Hm3 D = none ∧ H3 = upd Hm3 D (.lst vacc3) ∧ Heaps X.K X.mg g3 h3 Hm3 ∧ Slots X.K g3 σ3 (wipe τ vs) Hm3 ∧ Fr g1 H1 g3 Hm3 ∧ RepL X.K Hm3 g3 acc3 vacc3 ∧ Fin (lcM vs t mc me acc3 (ds.drop (i + 1)) σ3 h3),
        fun H3 ⟨g3, σ3, h3, acc3, vacc3, Hm3, a1, a2, a3, a4, a5, a6, a7⟩ => ⟨ds.length - (i + 1), by omega, rfl, hlt, g3, σ3, h3, acc3, vacc3, Hm3, a1, a2, a3, a4, a5, a6, a7⟩, fun x H3 y => ?_⟩
      obtain ⟨nw, d, hd, rd⟩ := sv.yields i _ _ x H3 hlt stJ y
      have ed : ds.drop i = d :: ds.drop (i + 1) := by
        rw [List.drop_eq_getElem_cons hlt]
        rw [List.getElem?_eq_getElem hlt] at hd
        cases hd; rfl
      rw [ed] at q
      have hsH : Heaps X.K X.mg (g2.hold D) h2 (upd Hm D (.lst vacc)) := hs2.hold hm trivial
      have ssH : Slots X.K (g2.hold D) σ2 (wipe τ vs) (upd Hm D (.lst vacc)) := ss2.hold hm
      have wss : wipe (wipe τ vs) vs = wipe τ vs := wipe_off (js := vs) ⟨(wipe_length τ vs), fun k hk => wipe_out hk⟩ fun _ z => z
      refine ⟨g2.hold D, σ2, h2, d, hsH.new nw, ssH.new nw, rd _ rfl, ?_⟩
      unfold lcM at q
      cases et : t d σ2 with
      | none => rw [et] at q; exact q.elim
      | some σ3 =>
        rw [et] at q
        intro g3 τ3 H4 hs3 ss3 f3 off
        have ew : wipe τ3 vs = wipe τ vs := (wipe_off off hj).trans wss
        refine ⟨ew, ?_⟩
        dsimp only at q
        have f3' : Fr (g2.hold D) (upd Hm D (.lst vacc)) g3 H4 := nw.fr.trans f3
        cases ec : mc σ3 h2 with
        | no => rw [ec] at q; exact q.elim
        | exc _ _ _ => rw [ec] at q; exact q.elim
        | ok b σ4 h4 =>
          rw [ec] at q
          refine tM.first hs3 ss3 (fun _ _ _ e2 => by rw [ec] at e2; cases e2) (by rw [ec]; exact fun z => nomatch z) fun b' σ4' h4' e2 g4 vb H5 hs4 ss4 f4 rb => ?_
          rw [ec] at e2; cases e2
          subst rb
          have f4' := f3'.trans f4
          cases b with
          | false =>
            rw [if_neg Bool.false_ne_true]
            refine ⟨g4.back g2, wipeS σ4 vs, h4, acc, vacc, rem H5 D, rem_same, (upd_rem (held_at f4')).symm, hs2.back hs4 f4' hm trivial, (Slots.back hs4 ss4 f4' trivial).wiped ew, f2.trans (f4'.back hm), ?_, q⟩
            exact ra.stays (f4'.back hm).stays
          | true =>
            rw [if_pos rfl]
            dsimp only at q
            cases ee : me σ4 h4 with
            | no => rw [ee] at q; exact q.elim
            | exc _ _ _ => rw [ee] at q; exact q.elim
            | ok yd σ5 h5 =>
              rw [ee] at q
              refine tM.first hs4 ss4 (fun _ _ _ e2 => by rw [ee] at e2; cases e2) (by rw [ee]; exact fun z => nomatch z) fun y' σ5' h5' e2 g5 yv H6 hs5 ss5 f5 ry => ?_
              rw [ee] at e2; cases e2
              have f5' := f4'.trans f5
              dsimp only at q
              by_cases hl : acc.length < big
              · rw [if_pos hl] at q
                refine ⟨vacc, held_at f5', by rw [← ra.len, ← big_eq]; exact hl, g5.back g2, wipeS σ5 vs, h5, acc ++ [yd], vacc ++ [yv], rem H6 D, rem_same, ?_, hs2.back hs5 f5' hm trivial, (Slots.back hs5 ss5 f5' trivial).wiped ew, f2.trans (f5'.back hm), ?_, q⟩
                · rw [← upd_rem (held_at f5'), upd_upd, upd_rem (held_at f5')]
                · exact (ra.stays (f5'.back hm).stays).append (.cons (ry.stays (.back f5' trivial)) .nil)
              · rw [if_neg hl] at q; exact q.elim
    · have e : i = ds.length := by omega
      subst e
      refine .inl ⟨sv.stops _ _ stJ, ?_⟩
      rw [List.drop_length] at q
      exact q g2 Hm D _ hs2 (Slots.bring ss1 f2.stays ss2) (f1.trans f2) hm (.lst ra)
theorem df_lc {vs : List Nat} (hc : X.calm = true) (hN : X.N.Nodup) (hi : DI X w tg iter mi) (ok : BlkOk X.N X.env.scope scope own) (hj : ∀ j ∈ js, j ∈ own.map (·.2))
    (hg : ∀ (s : Shared) (H : Hp) (C : Addr) (cl : List (Str × Addr)) (fp : List Addr), DG (X.blk s H scope (compEnvC scope cl C X.env) fp) js tg t) (ht : ∀ (s : Shared) (H : Hp) (C : Addr) (cl : List (Str × Addr)) (fp : List Addr), DTs (X.blk s H scope (compEnvC scope cl C X.env) fp) wN ifs mc)
    (he : ∀ (s : Shared) (H : Hp) (C : Addr) (cl : List (Str × Addr)) (fp : List Addr), DE (X.blk s H scope (compEnvC scope cl C X.env) fp) wN elt me) (hs : ∀ x, foldedSetIterable iter X.env x = pure x := by intro _; rfl) (hv : own.map (·.2) = vs := by rfl) :
    DF X w (.ListComp elt [⟨tg, iter, ifs, 0⟩] scope pos) (lcF mi vs t mc me) := by
  subst hv
  exact
  PE.imp' (pe_lc hc hN hi ok hg ht he hs) fun τ H Q h => lc_read hj h
/-- name = [..]: own -/
theorem ds_setLc {vs : List Nat} {i : Nat} {y : Str} {py spos : Pos} (hc : X.calm = true) (hN : X.N.Nodup) (hi : DI X w tg iter mi) (ok : BlkOk X.N X.env.scope scope own) (hj : ∀ j ∈ js, j ∈ own.map (·.2))
    (hg : ∀ (s : Shared) (H : Hp) (C : Addr) (cl : List (Str × Addr)) (fp : List Addr), DG (X.blk s H scope (compEnvC scope cl C X.env) fp) js tg t) (ht : ∀ (s : Shared) (H : Hp) (C : Addr) (cl : List (Str × Addr)) (fp : List Addr), DTs (X.blk s H scope (compEnvC scope cl C X.env) fp) wN ifs mc)
    (he : ∀ (s : Shared) (H : Hp) (C : Addr) (cl : List (Str × Addr)) (fp : List Addr), DE (X.blk s H scope (compEnvC scope cl C X.env) fp) wN elt me)
    (hsw : swapsWith (.ListComp elt [⟨tg, iter, ifs, 0⟩] scope pos) (some (.Name y py)) spos.line X.env = pure true)
    (hy : X.N[i]? = some y := by rfl) (hyl : X.env.scope.names.lookup y = some .local := by rfl) (hs : ∀ x, foldedSetIterable iter X.env x = pure x := by intro _; rfl) (hv : own.map (·.2) = vs := by rfl) :
    DS X w (.Assign [.Name y py] (.ListComp elt [⟨tg, iter, ifs, 0⟩] scope pos) spos) (setM i (oM (lcF mi vs t mc me))) := by
  subst hv
  exact
  PS.imp' (L2.ps_setLc (i := i) hc hN hy hyl hsw hi ok hg ht he hs) fun Dd τ H h => by
    have h2 : tF X.K X.mg w (lcF mi (own.map (·.2)) t mc me) τ H (fun x H1 => gName i x τ H1 Dd.nx) := by
      obtain ⟨g, σ, h0, hs, ss, p⟩ := h
      refine ⟨g, σ, h0, hs, ss, ?_⟩
      unfold setM oM bnd at p
      cases ev : lcF mi (own.map (·.2)) t mc me σ h0 with
      | ok d σ1 h1 =>
        rw [ev] at p
        exact fun g' H' q u a1 a2 a3 hq c => p (g'.take q) _ _ (a1.take hq c.plain) (slots_own a1 a2 hq c) (a3.trans (.take hq))
      | exc x σ1 h1 => rw [ev] at p; exact fun g' H' c d => p g' τ H' c d
      | no => rw [ev] at p; exact p
    exact lc_read hj h2

/-! ### dict comprehensions -/
def dcM (vs : List Nat) (t : Tg D) (c : M Bool) (k e : M D) : List (D × D) → List D → M (List (D × D))
  | acc, [] => ret acc
  | acc, d :: ds => fun σ h => match t d σ with
    | none => .no
    | some σ1 => match c σ1 h with
      | .ok true σ2 h2 => match k σ2 h2 with
        | .ok kd σ3 h3 => match e σ3 h3 with
          | .ok y σ4 h4 => if acc.length < big then (match dput false acc kd y with
            | some acc' => dcM vs t c k e acc' ds (wipeS σ4 vs) h4
            | none => .no) else .no
          | _ => .no
        | _ => .no
      | .ok false σ2 h2 => dcM vs t c k e acc ds (wipeS σ2 vs) h2
      | _ => .no
def dcF (mi : M (List D)) (vs : List Nat) (t : Tg D) (c : M Bool) (k e : M D) : M D := bnd mi fun ds => fun σ h => match dcM vs t c k e [] ds (wipeS σ vs) h with
  | .ok acc σ' h' => .ok (.dic false acc) (bringS σ σ' vs) h'
  | _ => .no
variable {kx : Expr} {mk : M D}
theorem dc_read (hj : ∀ j ∈ js, j ∈ own.map (·.2)) {τ : L2.St} {H : Hp} {Q : VK} (h : tF X.K X.mg w (dcF mi (own.map (·.2)) t mc mk me) τ H Q) :
    tDc (tI X.K X.mg w mi) (tG X.K X.mg js t) (tT X.K X.mg wN mc) (tE X.K X.mg wN mk) (tE X.K X.mg wN me) (own.map (·.2)) τ H Q := by
  obtain ⟨g, σ, h0, hs, ss, p⟩ := h
  refine ⟨g, σ, h0, hs, ss, ?_⟩
  unfold dcF bnd at p
  generalize hvs : own.map (·.2) = vs at *
  cases ei : mi σ h0 with
  | no => rw [ei] at p; exact p
  | exc x σ1 h1 => rw [ei] at p; exact p
  | ok ds σ1 h1 =>
    rw [ei] at p
    intro g1 H1 J hs1 ss1 f1 sv D hD
    dsimp only at p
    let Fin : R (List (Bw.D × Bw.D)) → Prop := fun r => PostF X.K X.mg w Q g H τ (match r with | .ok acc σ' h' => .ok (.dic false acc) (bringS σ1 σ' vs) h' | _ => .no)
    have p0 : Fin (dcM vs t mc mk me [] ds (wipeS σ1 vs) h1) := p
    refine ⟨fun i n H2 => n = ds.length - i ∧ i ≤ ds.length ∧ ∃ g2 σ2 h2 acc vacc Hm, Hm D = none ∧ H2 = upd Hm D (.dK vacc) ∧ Heaps X.K X.mg g2 h2 Hm ∧ Slots X.K g2 σ2 (wipe τ vs) Hm ∧ Fr g1 H1 g2 Hm ∧ RepK X.K Hm g2 acc vacc ∧ Fin (dcM vs t mc mk me acc (ds.drop i) σ2 h2),
      ⟨ds.length, by simp, Nat.zero_le _, g1, _, h1, [], [], H1, hD, rfl, hs1, ss1.wipe vs, Fr.refl _ _, .nil, p0⟩, ?_⟩
    rintro i n H2 ⟨rfl, hil, g2, σ2, h2, acc, vacc, Hm, hm, rfl, hs2, ss2, f2, ra, q⟩
    have stH : Stays g2 Hm (g2.hold D) (upd Hm D (.dK vacc)) := .hold hm
    have stJ := f2.stays.trans stH
    by_cases hlt : i < ds.length
    · refine .inr ⟨sv.goes i _ _ hlt stJ, fun H3 => ∃ g3 σ3 h3 acc3 vacc3 Hm3, Hm3 D = none ∧ H3 = upd Hm3 D (.dK vacc3) ∧ Heaps X.K X.mg g3 h3 Hm3 ∧ Slots X.K g3 σ3 (wipe τ vs) Hm3 ∧ Fr g1 H1 g3 Hm3 ∧ RepK X.K Hm3 g3 acc3 vacc3 ∧ Fin (dcM vs t mc mk me acc3 (ds.drop (i + 1)) σ3 h3),
        fun H3 ⟨g3, σ3, h3, acc3, vacc3, Hm3, a1, a2, a3, a4, a5, a6, a7⟩ => ⟨ds.length - (i + 1), by omega, rfl, hlt, g3, σ3, h3, acc3, vacc3, Hm3, a1, a2, a3, a4, a5, a6, a7⟩, fun x H3 y => ?_⟩
      obtain ⟨nw, d, hd, rd⟩ := sv.yields i _ _ x H3 hlt stJ y
      have ed : ds.drop i = d :: ds.drop (i + 1) := by
        rw [List.drop_eq_getElem_cons hlt]
        rw [List.getElem?_eq_getElem hlt] at hd
        cases hd; rfl
      rw [ed] at q
      have hsH : Heaps X.K X.mg (g2.hold D) h2 (upd Hm D (.dK vacc)) := hs2.hold hm trivial
      have ssH : Slots X.K (g2.hold D) σ2 (wipe τ vs) (upd Hm D (.dK vacc)) := ss2.hold hm
      have wss : wipe (wipe τ vs) vs = wipe τ vs := wipe_off (js := vs) ⟨(wipe_length τ vs), fun k hk => wipe_out hk⟩ fun _ z => z
      refine ⟨g2.hold D, σ2, h2, d, hsH.new nw, ssH.new nw, rd _ rfl, ?_⟩
      unfold dcM at q
      cases et : t d σ2 with
      | none => rw [et] at q; exact q.elim
      | some σ3 =>
        rw [et] at q
        intro g3 τ3 H4 hs3 ss3 f3 off
        have ew : wipe τ3 vs = wipe τ vs := (wipe_off off hj).trans wss
        refine ⟨ew, ?_⟩
        dsimp only at q
        have f3' : Fr (g2.hold D) (upd Hm D (.dK vacc)) g3 H4 := nw.fr.trans f3
        cases ec : mc σ3 h2 with
        | no => rw [ec] at q; exact q.elim
        | exc _ _ _ => rw [ec] at q; exact q.elim
        | ok b σ4 h4 =>
          rw [ec] at q
          refine tM.first hs3 ss3 (fun _ _ _ e2 => by rw [ec] at e2; cases e2) (by rw [ec]; exact fun z => nomatch z) fun b' σ4' h4' e2 g4 vb H5 hs4 ss4 f4 rb => ?_
          rw [ec] at e2; cases e2
          subst rb
          have f4' := f3'.trans f4
          cases b with
          | false =>
            rw [if_neg Bool.false_ne_true]
            refine ⟨g4.back g2, wipeS σ4 vs, h4, acc, vacc, rem H5 D, rem_same, (upd_rem (held_at f4')).symm, hs2.back hs4 f4' hm trivial, (Slots.back hs4 ss4 f4' trivial).wiped ew, f2.trans (f4'.back hm), ?_, q⟩
            exact ra.stays (f4'.back hm).stays
          | true =>
            rw [if_pos rfl]
            dsimp only at q
            cases ek : mk σ4 h4 with
            | no => rw [ek] at q; exact q.elim
            | exc _ _ _ => rw [ek] at q; exact q.elim
            | ok kd σ5 h5 =>
              rw [ek] at q
              refine tM.first hs4 ss4 (fun _ _ _ e2 => by rw [ek] at e2; cases e2) (by rw [ek]; exact fun z => nomatch z) fun k' σ5' h5' e2 g5 kv H6 hs5 ss5 f5 rk => ?_
              rw [ek] at e2; cases e2
              have f5' := f4'.trans f5
              dsimp only at q
              cases ee : me σ5 h5 with
              | no => rw [ee] at q; exact q.elim
              | exc _ _ _ => rw [ee] at q; exact q.elim
              | ok yd σ6 h6 =>
                rw [ee] at q
                refine tM.first hs5 ss5 (fun _ _ _ e2 => by rw [ee] at e2; cases e2) (by rw [ee]; exact fun z => nomatch z) fun y' σ6' h6' e2 g6 yv H7 hs6 ss6 f6 ry => ?_
                rw [ee] at e2; cases e2
                have f6' := f5'.trans f6
                dsimp only at q
                by_cases hl : acc.length < big
                · rw [if_pos hl] at q
                  cases ep : dput false acc kd yd with
                  | none => rw [ep] at q; exact q.elim
                  | some acc' =>
                    rw [ep] at q
                    obtain ⟨key, e8, rfl⟩ := Option.map_eq_some_iff.mp (show (toKey kd).map (fun k => putE (fun x => decide (toKey x = some k)) acc kd yd) = some acc' from ep)
                    have ed8 := toKey_some e8
                    subst ed8
                    have ekv : kv = kV key := by
                      cases key with
                      | inl n => exact rep_int rk
                      | inr z => exact rep_str rk
                    refine ⟨vacc, key, ekv, held_at f6', by rw [← ra.len, ← big_eq]; exact hl, g6.back g2, wipeS σ6 vs, h6, _, putK vacc key yv, rem H7 D, rem_same, ?_, hs2.back hs6 f6' hm trivial, (Slots.back hs6 ss6 f6' trivial).wiped ew, f2.trans (f6'.back hm), ?_, q⟩
                    · rw [← upd_rem (held_at f6'), upd_upd, upd_rem (held_at f6')]
                    · exact (ra.stays (f6'.back hm).stays).put (ry.stays (.back f6' trivial))
                · rw [if_neg hl] at q; exact q.elim
    · have e : i = ds.length := by omega
      subst e
      refine .inl ⟨sv.stops _ _ stJ, ?_⟩
      rw [List.drop_length] at q
      exact q g2 Hm D _ hs2 (Slots.bring ss1 f2.stays ss2) (f1.trans f2) hm (.dicK ra)
theorem df_dc {vs : List Nat} (hc : X.calm = true) (hN : X.N.Nodup) (hi : DI X w tg iter mi) (ok : BlkOk X.N X.env.scope scope own) (hj : ∀ j ∈ js, j ∈ own.map (·.2))
    (hg : ∀ (s : Shared) (H : Hp) (C : Addr) (cl : List (Str × Addr)) (fp : List Addr), DG (X.blk s H scope (compEnvC scope cl C X.env) fp) js tg t) (ht : ∀ (s : Shared) (H : Hp) (C : Addr) (cl : List (Str × Addr)) (fp : List Addr), DTs (X.blk s H scope (compEnvC scope cl C X.env) fp) wN ifs mc)
    (hk : ∀ (s : Shared) (H : Hp) (C : Addr) (cl : List (Str × Addr)) (fp : List Addr), DE (X.blk s H scope (compEnvC scope cl C X.env) fp) wN kx mk)
    (he : ∀ (s : Shared) (H : Hp) (C : Addr) (cl : List (Str × Addr)) (fp : List Addr), DE (X.blk s H scope (compEnvC scope cl C X.env) fp) wN elt me) (hs : ∀ x, foldedSetIterable iter X.env x = pure x := by intro _; rfl) (hv : own.map (·.2) = vs := by rfl) :
    DF X w (.DictComp kx elt [⟨tg, iter, ifs, 0⟩] scope pos) (dcF mi vs t mc mk me) := by
  subst hv
  have key : PE X (.DictComp kx elt [⟨tg, iter, ifs, 0⟩] scope pos) (tDc (tI X.K X.mg w mi) (tG X.K X.mg js t) (tT X.K X.mg wN mc) (tE X.K X.mg wN mk) (tE X.K X.mg wN me) (own.map (·.2))) := pe_dc hc hN hi ok hg ht hk he hs
  exact PE.imp' key fun τ H Q h => dc_read hj h
/-- name = {..}: own -/
theorem ps_setDc {i : Nat} {y : Str} {py spos : Pos} {g : TG} {tt : TT} {tk tv : TE} {wi : TI} (hc : X.calm = true) (hN : X.N.Nodup) (hy : X.N[i]? = some y) (hyl : X.env.scope.names.lookup y = some .local)
    (hsw : swapsWith (.DictComp kx elt [⟨tg, iter, ifs, 0⟩] scope pos) (some (.Name y py)) spos.line X.env = pure true) (hi : PI X tg iter wi) (ok : BlkOk X.N X.env.scope scope own)
    (hg : ∀ (s : Shared) (H : Hp) (C : Addr) (cl : List (Str × Addr)) (fp : List Addr), PG (X.blk s H scope (compEnvC scope cl C X.env) fp) tg g) (ht : ∀ (s : Shared) (H : Hp) (C : Addr) (cl : List (Str × Addr)) (fp : List Addr), PTs (X.blk s H scope (compEnvC scope cl C X.env) fp) ifs tt)
    (hk : ∀ (s : Shared) (H : Hp) (C : Addr) (cl : List (Str × Addr)) (fp : List Addr), PE (X.blk s H scope (compEnvC scope cl C X.env) fp) kx tk)
    (he : ∀ (s : Shared) (H : Hp) (C : Addr) (cl : List (Str × Addr)) (fp : List Addr), PE (X.blk s H scope (compEnvC scope cl C X.env) fp) elt tv) (hs : ∀ x, foldedSetIterable iter X.env x = pure x := by intro _; rfl) :
    PS X (.Assign [.Name y py] (.DictComp kx elt [⟨tg, iter, ifs, 0⟩] scope pos) spos) (tAsg (tDc wi g tt tk tv (own.map (·.2))) (gName i)) := by
  refine ⟨fun pins s τ H D I h => ?_⟩
  rw [exec_Assign_Name_used _ _ _ _ hsw]
  refine wpAny_bind (wpAny_standAt (wpAny_bind ?_))
  show wpAny _ X.A (do let _ ← comprehension (.DictComp kx elt [⟨tg, iter, ifs, 0⟩] scope pos) scope X.env (firstIterPos [⟨tg, iter, ifs, 0⟩] pos) newDict false (eval iter X.env) (some (assign (.Name y py) X.env))) _ _ s
  have h : tDc wi g tt tk tv (own.map (·.2)) τ H (fun x H1 => gName i x τ H1 D.nx) := h
  refine wpAny_bind (thn (dc_core (Qf := fun _ s' => SP X pins D .next s') hc hN I hi ok hg ht hk he hs h fun L C s' m H' I' q hn f => ?_) fun _ s' hq => wpAny_pure (wpAny_pure hq))
  show wpAny _ _ (assign (.Name y py) X.env (.ref L)) _ _ _
  refine wpAny_assign_Name (store_ok2 (v := V.ref L) I' hN hy (.inl hyl) rfl (fun s2 I2 ⟨a, sb, ha⟩ => ?_) (.inr hyl))
  obtain ⟨f0, f1, f2, f3, f4, f5⟩ := f
  have ne : C ≠ a := by
    rcases ha with z | z
    · rw [z]; exact f1
    · exact fun e => f4 y a z e.symm
  refine ⟨m, hn.sameBut sb ne, fun h3 sb3 => ?_⟩
  exact ⟨_, H', I2.turned (t' := s2.toks) (fun b o hb e => (sb3.2 b hb).trans e) f0 f1 f3 f4 f5, q⟩
theorem ds_setDc {vs : List Nat} {i : Nat} {y : Str} {py spos : Pos} (hc : X.calm = true) (hN : X.N.Nodup) (hi : DI X w tg iter mi) (ok : BlkOk X.N X.env.scope scope own) (hj : ∀ j ∈ js, j ∈ own.map (·.2))
    (hg : ∀ (s : Shared) (H : Hp) (C : Addr) (cl : List (Str × Addr)) (fp : List Addr), DG (X.blk s H scope (compEnvC scope cl C X.env) fp) js tg t) (ht : ∀ (s : Shared) (H : Hp) (C : Addr) (cl : List (Str × Addr)) (fp : List Addr), DTs (X.blk s H scope (compEnvC scope cl C X.env) fp) wN ifs mc)
    (hk : ∀ (s : Shared) (H : Hp) (C : Addr) (cl : List (Str × Addr)) (fp : List Addr), DE (X.blk s H scope (compEnvC scope cl C X.env) fp) wN kx mk)
    (he : ∀ (s : Shared) (H : Hp) (C : Addr) (cl : List (Str × Addr)) (fp : List Addr), DE (X.blk s H scope (compEnvC scope cl C X.env) fp) wN elt me)
    (hsw : swapsWith (.DictComp kx elt [⟨tg, iter, ifs, 0⟩] scope pos) (some (.Name y py)) spos.line X.env = pure true)
    (hy : X.N[i]? = some y := by rfl) (hyl : X.env.scope.names.lookup y = some .local := by rfl) (hs : ∀ x, foldedSetIterable iter X.env x = pure x := by intro _; rfl) (hv : own.map (·.2) = vs := by rfl) :
    DS X w (.Assign [.Name y py] (.DictComp kx elt [⟨tg, iter, ifs, 0⟩] scope pos) spos) (setM i (oM (dcF mi vs t mc mk me))) := by
  subst hv
  exact
  PS.imp' (ps_setDc (i := i) hc hN hy hyl hsw hi ok hg ht hk he hs) fun Dd τ H h => by
    have h2 : tF X.K X.mg w (dcF mi (own.map (·.2)) t mc mk me) τ H (fun x H1 => gName i x τ H1 Dd.nx) := by
      obtain ⟨g, σ, h0, hs, ss, p⟩ := h
      refine ⟨g, σ, h0, hs, ss, ?_⟩
      unfold setM oM bnd at p
      cases ev : dcF mi (own.map (·.2)) t mc mk me σ h0 with
      | ok d σ1 h1 =>
        rw [ev] at p
        exact fun g' H' q u a1 a2 a3 hq c => p (g'.take q) _ _ (a1.take hq c.plain) (slots_own a1 a2 hq c) (a3.trans (.take hq))
      | exc x σ1 h1 => rw [ev] at p; exact fun g' H' c d => p g' τ H' c d
      | no => rw [ev] at p; exact p
    exact dc_read hj h2
end
end Bw
namespace Bw
open PySem PySem.Spec PyProof.Rows L2

/-! ### sets of whole numbers and texts -/
def kOf (e : Int × Value) : Key := match e.2 with
  | .int i _ => .inl i
  | .str x _ => .inr x
  | _ => .inl 0
theorem kOf_eq {e : Int × Value} {j : Key} (h : keyIs j e.2 = true) : kOf e = j := by
  unfold kOf
  rcases keyIs_shape h with ⟨i, t, rfl, e1⟩ | ⟨x, t, rfl, e1⟩ <;> rw [e1]
def hasK (ks : List Key) (k : Key) : Bool := ks.any fun j => decide (j = k)
theorem hasK_iff {ks : List Key} {k : Key} : hasK ks k = true ↔ k ∈ ks := by
  unfold hasK
  rw [List.any_eq_true]
  constructor
  · rintro ⟨j, hj, e⟩
    rw [decide_eq_true_eq] at e
    rw [← e]; exact hj
  · intro h
    exact ⟨k, h, decide_eq_true rfl⟩
def insK (ks : List Key) (k : Key) : List Key := if hasK ks k = true then ks else ks ++ [k]
theorem insK_nodup {ks : List Key} {k : Key} (h : ks.Nodup) : (insK ks k).Nodup := by
  unfold insK
  split
  · exact h
  · rename_i hk
    rw [List.nodup_append]
    refine ⟨h, by simp, fun a ha b hb => ?_⟩
    rw [List.mem_singleton] at hb
    rintro rfl
    subst hb
    exact hk (hasK_iff.mpr ha)
theorem insK_len (ks : List Key) (k : Key) : (insK ks k).length ≤ ks.length + 1 := by
  unfold insK
  split
  · exact Nat.le_succ _
  · rw [List.length_append] <;> exact Nat.le_refl _
/-- each key once, in the order of the first -/
def onceK (ks : List Key) : List Key := ks.foldl insK []
structure SetL (P : Program) (w : World) (h : Heap) (a : Addr) (ks : List Key) : Prop where
  ex : ∃ o es ep t, h.get? a = some o ∧ o.ExactSet ∧ o.data = .set es ep t ∧ ElemsOf (mixKind P w) es.toList ∧ (es.toList.map kOf).Perm ks ∧ ks.Nodup ∧ es.size < scanBound ∧ t.fits es.size = true ∧ Ris t.place.toList ∧ (w.params.followText "set-order" = true ∨ t.led = true)
section
variable {P : Program} {w : World} {h h' : Heap} {a : Addr} {ks : List Key}
theorem SetL.keep (R : SetL P w h a ks) (k : ∀ o, h.get? a = some o → h'.get? a = some o) : SetL P w h' a ks := by
  obtain ⟨o, es, ep, t, ho, r⟩ := R.ex
  exact ⟨o, es, ep, t, k o ho, r⟩
theorem elems_mem {l : List (Int × Value)} (g : ElemsOf (mixKind P w) l) (k : Key) : k ∈ l.map kOf ↔ ∃ e ∈ l, (mixKind P w).is k e.2 = true := by
  rw [List.mem_map]
  constructor
  · rintro ⟨e, he, q⟩
    obtain ⟨⟨j, hj, _⟩, _⟩ := g e he
    have := kOf_eq (e := e) hj
    rw [q] at this
    subst this
    exact ⟨e, he, hj⟩
  · rintro ⟨e, he, q⟩
    exact ⟨e, he, kOf_eq q⟩
end
section
variable {P : Program} {w : World} {A : Around} {E : Value → Shared → Prop} {s : Shared} {a : Addr} {ks : List Key}
theorem setL_tail {gr : Bool → Sem Unit} (hgr : ∀ (b : Bool) (s1 : Shared) (Q' : Unit → Shared → Prop), Q' () s1 → wpAny (model P w) A (gr b) Q' E s1)
    {ob : PySem.Obj} {rows : Array (Int × Value)} {ep : Nat} {tb : SetTable} (e1 : s.heap.get? a = some ob) (e2 : ob.ExactSet) (e3 : ob.data = .set rows ep tb)
    {rows1 : Array (Int × Value)} {tb2 : SetTable} {ks' : List Key} (c1 : ElemsOf (mixKind P w) rows1.toList) (c2 : (rows1.toList.map kOf).Perm ks') (c3 : ks'.Nodup)
    (c4 : rows1.size < scanBound) (c5 : tb2.fits rows1.size = true) (c6 : Ris tb2.place.toList) (c7 : w.params.followText "set-order" = true ∨ tb2.led = true) {dm : Bool} {R : Option Bool → Shared → Prop}
    (hR : ∀ h', Heap.SameBut a s.heap h' → SetL P w h' a ks' → R (some true) { s with heap := h' }) :
    wpAny (model P w) A (do
        storeSet a rows1 tb2
        if (!dm && tb2.tooFull) = true then do
            gr (relayAll tb2 rows1 (SetTable.grown rows1.size)).2.2
            storeSet a (relayAll tb2 rows1 (SetTable.grown rows1.size)).1 (relayAll tb2 rows1 (SetTable.grown rows1.size)).2.1
            pure (some true)
          else pure (some true)) R E s := by
  refine wpAny_bind (wpAny_storeSet_of e1 e3 ?_ (fits_of_scanBound c4))
  have e4 := L2.store_at (es' := rows1) (t' := tb2) e1 e3
  have same1 := Heap.SameBut.update s.heap a (Obj.putSet rows1 tb2)
  split
  · have d1 := relayAll_perm tb2 rows1 (SetTable.grown rows1.size)
    have d2 := relayAll_fits tb2 rows1 (SetTable.grown rows1.size)
    have d3 := relayAll_ris tb2 rows1 (SetTable.grown rows1.size)
    have d4 := relayAll_led tb2 rows1 (SetTable.grown rows1.size)
    generalize relayAll tb2 rows1 (SetTable.grown rows1.size) = Z at d1 d2 d3 d4 ⊢
    obtain ⟨rows2, tb3, gave⟩ := Z
    dsimp only at d1 d2 d3 d4 ⊢
    have d5 : rows2.size = rows1.size := by rw [← Array.length_toList, d1.length_eq, Array.length_toList]
    have d6 : rows2.size < scanBound := by rw [d5]; exact c4
    refine wpAny_bind (hgr _ _ _ ?_)
    refine wpAny_bind (wpAny_storeSet_of e4 rfl ?_ (fits_of_scanBound d6))
    have e5 := L2.store_at (es' := rows2) (t' := tb3) e4 rfl
    refine wpAny_pure (hR _ (same1.trans (Heap.SameBut.update _ a _)) ⟨_, rows2, _, tb3, e5, e2, rfl, c1.perm d1, (d1.map kOf).trans c2, c3, d6, d2, d3, c7.imp id fun z => by rw [d4]; exact z⟩)
  · exact wpAny_pure (hR _ same1 ⟨_, rows1, _, tb2, e4, e2, rfl, c1, c2, c3, c4, c5, c6, c7⟩)
theorem setL_add {k : Key} {x : Value} {Q : Bool → Shared → Prop} (hk : (mixKind P w).is k x = true) (sc : x.scannable = true) (R : SetL P w s.heap a ks) (room : ks.length + 1 < scanBound)
    (hQ : ∀ b h', Heap.SameBut a s.heap h' → SetL P w h' a (insK ks k) → Q b { s with heap := h' }) : wpAny (model P w) A (setAddHashed a x ((mixKind P w).hash k)) Q E s := by
  obtain ⟨ob, rows, ep, tb, e1, e2, e3, c1, c2, c3, c4, c5, c6, c7⟩ := R.ex
  unfold setAddHashed setAddHashedIn
  refine wpAny_holding (wpAny_bind (wpAny_setState_of e1 e3 c5 ?_))
  dsimp only
  rw [byScan_of sc c4 c1]
  simp only [↓reduceIte]
  unfold setAddByScan
  refine wpAny_bind ?_
  refine wpAny_bind (wpAny_rule ?_)
  refine wpAny_bind (wpAny_setScan_of hk e1 e3 c5 c1 ?_)
  cases hfi : List.findIdx? (fun e => (mixKind P w).is k e.2) rows.toList with
  | some j =>
    dsimp only
    obtain ⟨hj, pj, _⟩ := List.findIdx?_eq_some_iff_getElem.mp hfi
    have hin : k ∈ ks := c2.mem_iff.mp ((elems_mem c1 k).2 ⟨rows.toList[j], List.getElem_mem hj, pj⟩)
    refine wpAny_pure (wpAny_pure ?_)
    exact hQ _ s.heap (Heap.SameBut.refl a s.heap) (by unfold insK; rw [if_pos (hasK_iff.mpr hin)]; exact R)
  | none =>
    dsimp only
    have hin : k ∉ ks := fun z => by
      obtain ⟨e, he, q⟩ := (elems_mem c1 k).1 (c2.mem_iff.mpr z)
      have c := List.findIdx?_eq_none_iff.mp hfi e he
      rw [q] at c
      cases c
    have ei : insK ks k = ks ++ [k] := by unfold insK; rw [if_neg fun z => hin (hasK_iff.mp z)]
    have hgw : ∀ (b : Bool) {s1 : Shared} {Q' : Unit → Shared → Prop}, Q' () s1 → wpAny (model P w) A (match b with | true => rule "set.scan.the-table-gave-way" | false => pure ()) Q' E s1 :=
      fun b s1 Q' q => by cases b with
        | true => exact wpAny_rule q
        | false => exact wpAny_pure q
    have d1 := layNew_perm tb rows ((mixKind P w).hash k) x
    have d2 := layNew_fits tb rows ((mixKind P w).hash k) x
    have d3 := layNew_ris tb rows ((mixKind P w).hash k) x c6
    have d4 := layNew_led tb rows ((mixKind P w).hash k) x
    generalize layNew tb rows ((mixKind P w).hash k) x = Z at d1 d2 d3 d4 ⊢
    obtain ⟨rows1, tb1, dm, gave⟩ := Z
    dsimp only at d1 d2 d3 d4 ⊢
    rw [Array.toList_push] at d1
    have g1 : ElemsOf (mixKind P w) rows1.toList := (c1.push hk sc).perm d1
    have g2 : (rows1.toList.map kOf).Perm (insK ks k) := by
      rw [ei]
      refine (d1.map kOf).trans ?_
      rw [List.map_append]
      have : [(((mixKind P w).hash k, x) : Int × Value)].map kOf = [k] := by
        rw [List.map_cons, List.map_nil, kOf_eq (e := ((mixKind P w).hash k, x)) hk]
      rw [this]
      exact c2.append_right _
    have lr : rows.size = ks.length := by
      have := c2.length_eq
      rw [List.length_map, Array.length_toList] at this
      exact this
    have lr1 : rows1.size = ks.length + 1 := by rw [← Array.length_toList, d1.length_eq, List.length_append, Array.length_toList, lr] <;> rfl
    have g4 : rows1.size < scanBound := by rw [lr1]; exact room
    have g7 : w.params.followText "set-order" = true ∨ tb1.led = true := c7.imp id fun z => by rw [d4]; exact z
    refine wpAny_bind (hgw _ ?_)
    split
    · refine wpAny_bind ?_
      rw [hashByValue_scannable 8 sc]
      refine wpAny_pure ?_
      refine setL_tail ?_ e1 e2 e3 g1 g2 (insK_nodup c3) g4 ?_ ?_ ?_ ?_
      · intro b s1 Q' q; cases b <;> first | exact wpAny_rule q | exact wpAny_pure q
      · first | (split <;> first | exact d2 | exact SetTable.fits_plain_off d2) | exact d2
      · first | (split <;> exact d3) | exact d3
      · first | (split <;> exact g7) | exact g7
      · intro h' sb r; dsimp only; exact wpAny_pure (hQ _ h' sb r)
    · refine wpAny_bind (wpAny_pure ?_)
      simp only [↓reduceIte]
      refine setL_tail ?_ e1 e2 e3 g1 g2 (insK_nodup c3) g4 d2 d3 g7 ?_
      · intro b s1 Q' q; cases b <;> first | exact wpAny_rule q | exact wpAny_pure q
      · intro h' sb r; dsimp only; exact wpAny_pure (hQ _ h' sb r)
theorem setL_fresh {h : Heap} {a : Addr} (ho : h.get? a = some { cls := .type "set", dict := none, data := .set #[] 0 (.fresh 0 0 (!w.params.followText "set-order")) }) : SetL P w h a [] :=
  ⟨_, #[], 0, _, ho, ⟨rfl, rfl, rfl⟩, rfl, (fun e he => by simp at he), by simp, by simp, (by decide), (by rfl), List.Pairwise.nil, by
    show _ ∨ (!w.params.followText "set-order") = true
    cases w.params.followText "set-order" with
    | false => exact .inr rfl
    | true => exact .inl rfl⟩
theorem take_onceK {ks : List Key} {i : Nat} {k : Key} (h : ks[i]? = some k) : onceK (ks.take (i + 1)) = insK (onceK (ks.take i)) k := by
  unfold onceK
  rw [List.take_add_one, h]
  show ((ks.take i) ++ [k]).foldl insK [] = _
  rw [List.foldl_append] <;> rfl
theorem onceK_len : ∀ (ks : List Key), (onceK ks).length ≤ ks.length := by
  have go : ∀ (ks acc : List Key), (ks.foldl insK acc).length ≤ acc.length + ks.length := by
    intro ks
    induction ks with
    | nil => intro acc; exact Nat.le_refl _
    | cons k ks ih =>
      intro acc
      have h1 := ih (insK acc k)
      have h2 := insK_len acc k
      show (ks.foldl insK (insK acc k)).length ≤ _
      rw [List.length_cons]
      omega
  intro ks
  have := go ks []
  unfold onceK
  simpa using this
def emp (w : World) : PySem.Obj := { cls := .type "set", dict := none, data := .set #[] 0 (.fresh 0 0 (!w.params.followText "set-order")) }
/-- the loop that fills it -/
theorem setL_fill {I : Addr} {fp wr : List Addr} {G : Array GenState → Array GenState → Prop} {n : Nat} {Pv : Nat → Value → Prop} {St : Nat → Shared → Prop} {R : Result → Shared → Prop}
    (W : WalksS P w A.in1 I fp wr G n Pv St) (S : Addr) (nS : S ∉ fp) (ns : List Key) (hn : n = ns.length) (hb : ns.length + 1 < scanBound) (hval : ∀ i v, Pv i v → ∃ k, ns[i]? = some k ∧ (mixKind P w).is k v = true ∧ v.scannable = true) :
    ∀ (m i : Nat) (s : Shared), n - i = m → i ≤ n → St i s → SetL P w s.heap S (onceK (ns.take i)) →
      (∀ s', Moved (S :: wr) G s s' → SetL P w s'.heap S (onceK ns) → R (.ok (.ret .none)) s') →
      codeAny (model P w) A (.builtin "set.update.loop" ⟨[.ref S, .ref I], []⟩) R s := by
  have nW : S ∉ wr := fun z => nS (W.sub _ z)
  have sub : ∀ b ∈ wr, b ∈ S :: wr := fun b q => List.mem_cons_of_mem _ q
  intro m
  induction m with
  | zero =>
    intro i s hm hi st hS hR
    have ei : i = n := by omega
    subst ei
    refine codeAny_builtin F.entry_set_update_loop ?_
    rw [Around.under_plainId F.plain_set_update_loop _]
    show wpAny _ A.in1 (pyNext (.ref I) >>= _) _ _ s
    refine wpAny_bind (W.done s _ _ st fun s' mv => ?_)
    show wpAny _ A.in1 (PySem.ret Value.none) _ _ s'
    rw [List.take_of_length_le (by omega)] at hS
    exact wpAny_pure (hR s' (mv.mono sub) (hS.keep fun o e => mv.heap S o nW e))
  | succ m ih =>
    intro i s hm hi st hS hR
    have il : i < n := by omega
    refine codeAny_builtin F.entry_set_update_loop ?_
    rw [Around.under_plainId F.plain_set_update_loop _]
    show wpAny _ A.in1 (pyNext (.ref I) >>= _) _ _ s
    refine wpAny_bind (W.item i s _ _ il st fun v s' pv st' mv => ?_)
    obtain ⟨k, hk, kv, sc⟩ := hval i v pv
    have hS' := hS.keep fun o e => mv.heap S o nW e
    show wpAny _ A.in1 (holding [v] (setAdd S v) >>= _) _ _ s'
    refine wpAny_bind (wpAny_holding ?_)
    unfold setAdd
    refine wpAny_holding ?_
    refine wpAny_bind ((mixKind P w).pyHash (k := k) kv ?_)
    have hl := onceK_len (ns.take i)
    rw [List.length_take] at hl
    refine setL_add (s := { s' with toks := s'.toks + 1 }) kv sc hS' (by omega) fun b h' sb hS2 => ?_
    rw [← take_onceK hk] at hS2
    refine wpAny_pure ⟨plainId_quiet F.plain_set_update_loop _, ih (i + 1) _ (by omega) il (W.frame _ s' _ _ st' (Nat.le_succ _) fun b hb o e => ?_) hS2 fun s2 mv2 hS3 => ?_⟩
    · rw [sb.2 b (fun z : b = S => nS (by rw [← z]; exact hb))]; exact e
    · refine hR s2 (Moved.trans W.gtrans ((mv.mono sub).then_heap (Nat.le_succ _) fun b o hb e => ?_) mv2) hS3
      rw [sb.2 b (fun z : b = S => hb (by rw [z]; exact List.mem_cons_self))]; exact e

theorem itemsAre_len : ∀ {ks : List Key} {vs : List Value}, ItemsAre (mixKind P w) ks vs → ks.length = vs.length
  | _, _, .nil => rfl
  | _, _, .cons _ t => by rw [List.length_cons, List.length_cons, itemsAre_len t]
theorem itemsAre_at : ∀ {ks : List Key} {vs : List Value}, ItemsAre (mixKind P w) ks vs → ∀ (i : Nat) (v : Value), vs[i]? = some v → ∃ k, ks[i]? = some k ∧ (mixKind P w).is k v = true
  | _, _, .nil, i, v, e => by simp at e
  | _, _, .cons h t, 0, v, e => by simp at e; subst e; exact ⟨_, rfl, h⟩
  | _, _, .cons h t, i + 1, v, e => by
    obtain ⟨k, e1, e2⟩ := itemsAre_at t i v (by simpa using e)
    exact ⟨k, by simpa using e1, e2⟩

set_option maxRecDepth 100000 in
theorem call_setL_list {l : Addr} {its : Array Value} (ks : List Key) {Q : Value → Shared → Prop} (hh : A.handled = none) (hl : s.heap.IsList l its) (hit : ItemsAre (mixKind P w) ks its.toList) (hsc : ∀ v ∈ its.toList, v.scannable = true) (hb : ks.length + 1 < scanBound)
    (kk : ∀ (h' : Heap) (tk : Nat), SetL P w h' s.heap.objs.size (onceK ks) → (∀ b o, s.heap.get? b = some o → h'.get? b = some o) → Q (.ref s.heap.objs.size) { s with heap := h', toks := tk }) :
    wpAny (model P w) A (call (.type "set") [.ref l]) Q E s := by
  have isz : its.size = ks.length := by rw [← Array.length_toList]; exact (itemsAre_len hit).symm
  obtain ⟨c, tl, hmro⟩ := F.called_set.mro
  have m1 := F.called_set.made
  have m2 := F.called_set.sub
  refine wpAny_call (codeAny_of_tree ?_)
  show wpAny _ _ (callAny (.type "set") _) _ _ _
  refine wpAny_pure ⟨Code.quiet_builtin _ (by decide +kernel), codeAny_builtin F.entry_type_call ?_⟩
  rw [Around.under_plain (weight_type_call_type "set" [.ref l] []) rfl]
  have m3 := F.called_set.notType
  have m4 := F.called_set.canCreate
  have m5 := F.typeCall_set_1 (.ref l)
  repeat (any_goals (first | assumption | wp_step))
  refine codeAny_mono (code_set_led1 (.ref l) (E := E) (Q₁ := fun obj s1 => obj = .ref s.heap.objs.size ∧ s1 = { s with heap := s.heap.push (emp w) }) ⟨rfl, rfl⟩) fun r s1 hr => ?_
  cases r with
  | error e => exact hr
  | ok fl =>
    cases fl with
    | ret obj =>
      obtain ⟨rfl, rfl⟩ := hr
      have hS : (s.heap.push (emp w)).get? s.heap.objs.size = some (emp w) := Heap.get?_push_size _ rfl
      have hT : Shared.TypeIs { s with heap := s.heap.push (emp w) } (.ref s.heap.objs.size) "set" := ⟨_, hS, rfl⟩
      have m6 := F.called_set.init.lookup
      have m7 := F.called_set.init.bind (.ref s.heap.objs.size)
      repeat (any_goals (first | assumption | wp_step))
      refine codeAny_mono (codeAny_call_builtin (R := wants (fun r s2 => r = .none ∧ ∃ h' tk, s2 = { s with heap := h', toks := tk } ∧ SetL P w h' s.heap.objs.size (onceK ks) ∧ ∀ b o, s.heap.get? b = some o → h'.get? b = some o) E) F.called_set.init.plain F.entry_set_init (check_set_init_1 hT ?_)) fun r2 s2 hr2 => ?_
      · obtain ⟨ol, hol, hcl, nl, hdl⟩ := hl
        obtain ⟨ocls, odict, odata, oslots⟩ := ol
        simp only at hcl hdl
        subst hcl; subst hdl
        have hol' : (s.heap.push (emp w)).get? l = some { cls := .type "list", dict := odict, data := .seq its nl, slots := oslots } := Heap.get?_push_of_some _ hol
        have m8 := F.sub_list_set
        have m9 := F.sub_list_frozenset
        have m10 : (Value.type "list" == Value.type "dict") = false := by decide
        have hl1 : (s.heap.push (emp w)).IsList l its := ⟨_, hol', rfl, nl, rfl⟩
        unfold Builtin.«set.__init__» noKeywords Builtin.Frozenset.updateFrom
        generalize hPI : pyIter = PI
        wp_walk
        subst hPI
        refine wpAny_pyIter_list hl1 ?_
        refine wpAny_bind (wpAny_runValue ?_)
        have ll : l < s.heap.objs.size := Heap.lt_size hol
        have hh3 : A.in1.in1.in1.handled = none := by simp [hh]
        have hz1 : (s.heap.push (emp w)).objs.size = s.heap.objs.size + 1 := Heap.size_push ..
        have nI : l ≠ (s.heap.push (emp w)).objs.size := by rw [hz1]; exact Nat.ne_of_lt (Nat.lt_succ_of_lt ll)
        have nS : s.heap.objs.size ∉ [(s.heap.push (emp w)).objs.size, l] := by
          rw [hz1]
          intro z
          rcases List.mem_cons.mp z with z | z
          · exact Nat.ne_of_lt (Nat.lt_succ_self _) z
          · exact Nat.ne_of_gt ll (List.mem_singleton.mp z)
        have hval : ∀ (i : Nat) (v : Value), its[i]? = some v → ∃ k, ks[i]? = some k ∧ (mixKind P w).is k v = true ∧ v.scannable = true := fun i v hv => by
          have hv' : its.toList[i]? = some v := by rw [Array.getElem?_toList]; exact hv
          obtain ⟨k, e1, e2⟩ := itemsAre_at hit i v hv'
          exact ⟨k, e1, e2, hsc v (List.mem_of_getElem? hv')⟩
        refine setL_fill ((Walks.list hh3 _ l nI its).toS) s.heap.objs.size nS ks isz hb hval (its.size - 0) 0 _ (by omega) (Nat.zero_le _) ⟨⟨_, Heap.get?_push_size _ rfl, rfl, rfl⟩, (hl1.push _)⟩ ?_ ?_
        · have hget : ((s.heap.push (emp w)).push { cls := .type "list_iterator", data := .fields #[.ref l, .int 0 0] }).get? s.heap.objs.size = some (emp w) := Heap.get?_push_of_some _ hS
          exact setL_fresh hget
        · intro s' mv hS'
          obtain ⟨h', g2, d', tk', os'⟩ := s'
          have eg : g2 = s.gens := mv.gens
          have ed : d' = s.drawn := mv.drawn
          have eo : os' = s.os := mv.os
          subst eg ed eo
          show wpAny _ _ _ _ _ _
          refine wpAny_pure ?_
          show wpAny _ _ (PySem.ret Value.none) _ _ _
          refine wpAny_pure ⟨rfl, h', tk', rfl, hS', fun b o e => ?_⟩
          have hb0 : b < s.heap.objs.size := Heap.lt_size e
          refine mv.heap b o (fun z => ?_) (Heap.get?_push_of_some _ (Heap.get?_push_of_some _ e))
          rcases List.mem_cons.mp z with z | z
          · exact Nat.ne_of_lt hb0 z
          · have z := List.mem_singleton.mp z
            rw [hz1] at z
            exact Nat.ne_of_lt (Nat.lt_succ_of_lt hb0) z
      · cases r2 with
        | error e => exact hr2
        | ok fl2 =>
          cases fl2 with
          | ret r =>
            obtain ⟨rfl, h', tk, rfl, hS', hk'⟩ := hr2
            repeat (any_goals (first | assumption | wp_step))
            exact kk _ _ hS' hk'
          | _ => exact hr2.elim
    | _ => exact hr.elim

set_option maxRecDepth 100000 in
theorem call_setL_tuple {l : Addr} {its : Array Value} (ks : List Key) {Q : Value → Shared → Prop} (hh : A.handled = none) (hl : s.heap.IsTuple l its) (hit : ItemsAre (mixKind P w) ks its.toList) (hsc : ∀ v ∈ its.toList, v.scannable = true) (hb : ks.length + 1 < scanBound)
    (kk : ∀ (h' : Heap) (tk : Nat), SetL P w h' s.heap.objs.size (onceK ks) → (∀ b o, s.heap.get? b = some o → h'.get? b = some o) → Q (.ref s.heap.objs.size) { s with heap := h', toks := tk }) :
    wpAny (model P w) A (call (.type "set") [.ref l]) Q E s := by
  have isz : its.size = ks.length := by rw [← Array.length_toList]; exact (itemsAre_len hit).symm
  obtain ⟨c, tl, hmro⟩ := F.called_set.mro
  have m1 := F.called_set.made
  have m2 := F.called_set.sub
  refine wpAny_call (codeAny_of_tree ?_)
  show wpAny _ _ (callAny (.type "set") _) _ _ _
  refine wpAny_pure ⟨Code.quiet_builtin _ (by decide +kernel), codeAny_builtin F.entry_type_call ?_⟩
  rw [Around.under_plain (weight_type_call_type "set" [.ref l] []) rfl]
  have m3 := F.called_set.notType
  have m4 := F.called_set.canCreate
  have m5 := F.typeCall_set_1 (.ref l)
  repeat (any_goals (first | assumption | wp_step))
  refine codeAny_mono (code_set_led1 (.ref l) (E := E) (Q₁ := fun obj s1 => obj = .ref s.heap.objs.size ∧ s1 = { s with heap := s.heap.push (emp w) }) ⟨rfl, rfl⟩) fun r s1 hr => ?_
  cases r with
  | error e => exact hr
  | ok fl =>
    cases fl with
    | ret obj =>
      obtain ⟨rfl, rfl⟩ := hr
      have hS : (s.heap.push (emp w)).get? s.heap.objs.size = some (emp w) := Heap.get?_push_size _ rfl
      have hT : Shared.TypeIs { s with heap := s.heap.push (emp w) } (.ref s.heap.objs.size) "set" := ⟨_, hS, rfl⟩
      have m6 := F.called_set.init.lookup
      have m7 := F.called_set.init.bind (.ref s.heap.objs.size)
      repeat (any_goals (first | assumption | wp_step))
      refine codeAny_mono (codeAny_call_builtin (R := wants (fun r s2 => r = .none ∧ ∃ h' tk, s2 = { s with heap := h', toks := tk } ∧ SetL P w h' s.heap.objs.size (onceK ks) ∧ ∀ b o, s.heap.get? b = some o → h'.get? b = some o) E) F.called_set.init.plain F.entry_set_init (check_set_init_1 hT ?_)) fun r2 s2 hr2 => ?_
      · obtain ⟨ol, hol, hcl, nl, hdl⟩ := hl
        obtain ⟨ocls, odict, odata, oslots⟩ := ol
        simp only at hcl hdl
        subst hcl; subst hdl
        have hol' : (s.heap.push (emp w)).get? l = some { cls := .type "tuple", dict := odict, data := .seq its nl, slots := oslots } := Heap.get?_push_of_some _ hol
        have m8 := F.sub_tuple_set
        have m9 := F.sub_tuple_frozenset
        have m10 : (Value.type "tuple" == Value.type "dict") = false := by decide
        have hl1 : (s.heap.push (emp w)).IsTuple l its := ⟨_, hol', rfl, nl, rfl⟩
        unfold Builtin.«set.__init__» noKeywords Builtin.Frozenset.updateFrom
        generalize hPI : pyIter = PI
        wp_walk
        subst hPI
        refine wpAny_pyIter_tuple hl1 ?_
        refine wpAny_bind (wpAny_runValue ?_)
        have ll : l < s.heap.objs.size := Heap.lt_size hol
        have hh3 : A.in1.in1.in1.handled = none := by simp [hh]
        have hz1 : (s.heap.push (emp w)).objs.size = s.heap.objs.size + 1 := Heap.size_push ..
        have nI : l ≠ (s.heap.push (emp w)).objs.size := by rw [hz1]; exact Nat.ne_of_lt (Nat.lt_succ_of_lt ll)
        have nS : s.heap.objs.size ∉ [(s.heap.push (emp w)).objs.size, l] := by
          rw [hz1]
          intro z
          rcases List.mem_cons.mp z with z | z
          · exact Nat.ne_of_lt (Nat.lt_succ_self _) z
          · exact Nat.ne_of_gt ll (List.mem_singleton.mp z)
        have hval : ∀ (i : Nat) (v : Value), its[i]? = some v → ∃ k, ks[i]? = some k ∧ (mixKind P w).is k v = true ∧ v.scannable = true := fun i v hv => by
          have hv' : its.toList[i]? = some v := by rw [Array.getElem?_toList]; exact hv
          obtain ⟨k, e1, e2⟩ := itemsAre_at hit i v hv'
          exact ⟨k, e1, e2, hsc v (List.mem_of_getElem? hv')⟩
        refine setL_fill ((Walks.tuple hh3 _ l nI its).toS) s.heap.objs.size nS ks isz hb hval (its.size - 0) 0 _ (by omega) (Nat.zero_le _) ⟨⟨_, Heap.get?_push_size _ rfl, rfl, rfl⟩, (hl1.push _)⟩ ?_ ?_
        · have hget : ((s.heap.push (emp w)).push { cls := .type "tuple_iterator", data := .fields #[.ref l, .int 0 0] }).get? s.heap.objs.size = some (emp w) := Heap.get?_push_of_some _ hS
          exact setL_fresh hget
        · intro s' mv hS'
          obtain ⟨h', g2, d', tk', os'⟩ := s'
          have eg : g2 = s.gens := mv.gens
          have ed : d' = s.drawn := mv.drawn
          have eo : os' = s.os := mv.os
          subst eg ed eo
          show wpAny _ _ _ _ _ _
          refine wpAny_pure ?_
          show wpAny _ _ (PySem.ret Value.none) _ _ _
          refine wpAny_pure ⟨rfl, h', tk', rfl, hS', fun b o e => ?_⟩
          have hb0 : b < s.heap.objs.size := Heap.lt_size e
          refine mv.heap b o (fun z => ?_) (Heap.get?_push_of_some _ (Heap.get?_push_of_some _ e))
          rcases List.mem_cons.mp z with z | z
          · exact Nat.ne_of_lt hb0 z
          · have z := List.mem_singleton.mp z
            rw [hz1] at z
            exact Nat.ne_of_lt (Nat.lt_succ_of_lt hb0) z
      · cases r2 with
        | error e => exact hr2
        | ok fl2 =>
          cases fl2 with
          | ret r =>
            obtain ⟨rfl, h', tk, rfl, hS', hk'⟩ := hr2
            repeat (any_goals (first | assumption | wp_step))
            exact kk _ _ hS' hk'
          | _ => exact hr2.elim
    | _ => exact hr.elim
end
end Bw
namespace Bw
open PySem PySem.Spec PyProof.Rows L2

/-! ### keys in order -/
def pyK : Key → PyData
  | .inl i => .int i
  | .inr x => .str x
theorem toPy_kD (k : Key) : toPy (kD k) = some (pyK k) := by cases k <;> rfl
theorem toPys_kD : ∀ ks : List Key, toPys (ks.map kD) = some (ks.map pyK)
  | [] => rfl
  | k :: ks => by rw [List.map_cons, toPys, toPy_kD, toPys_kD ks] <;> rfl
theorem enc_kD (k : Key) : enc (kD k) = pyK k := by unfold enc; rw [toPy_kD] <;> rfl
def isI : Key → Bool
  | .inl _ => true
  | _ => false
theorem alike_kinds {k j : Key} (h : PySem.W.alike (pyK k) (pyK j) = true) : isI k = isI j := by
  cases k <;> cases j <;> first | rfl | cases h
theorem uniq_sort {α : Type} {le : α → α → Bool} (tr : ∀ a b c, le a b = true → le b c = true → le a c = true) (to : ∀ a b, (le a b || le b a) = true) (an : ∀ a b, le a b = true → le b a = true → a = b) {xs ys : List α} (p : xs.Perm ys) :
    xs.mergeSort le = ys.mergeSort le :=
  List.Perm.eq_of_pairwise (le := fun a b => le a b = true) (fun a b _ _ => an a b) (List.pairwise_mergeSort tr to xs) (List.pairwise_mergeSort tr to ys) (((List.mergeSort_perm xs le).trans p).trans (List.mergeSort_perm ys le).symm)
def leI (a b : Int) : Bool := decide (a ≤ b)
def leS (a b : Str) : Bool := decide (a.cps.toList ≤ b.cps.toList)
theorem uniqI {xs ys : List Int} (p : xs.Perm ys) : xs.mergeSort leI = ys.mergeSort leI :=
  uniq_sort (fun a b c h1 h2 => by unfold leI at *; rw [decide_eq_true_eq] at *; omega) (fun a b => by unfold leI; rw [Bool.or_eq_true, decide_eq_true_eq, decide_eq_true_eq]; omega)
    (fun a b h1 h2 => by unfold leI at *; rw [decide_eq_true_eq] at *; omega) p
theorem leS_tr (a b c : Str) (h1 : leS a b = true) (h2 : leS b c = true) : leS a c = true := by
  unfold leS at *; rw [decide_eq_true_eq] at *; exact List.le_trans h1 h2
theorem leS_to (a b : Str) : (leS a b || leS b a) = true := by
  unfold leS; rw [Bool.or_eq_true, decide_eq_true_eq, decide_eq_true_eq]; exact List.le_total _ _
theorem leS_an (a b : Str) (h1 : leS a b = true) (h2 : leS b a = true) : a = b := by
  unfold leS at *; rw [decide_eq_true_eq] at *
  have := List.le_antisymm h1 h2
  cases a; cases b
  simp only [Str.mk.injEq]
  exact Array.toList_inj.mp this
theorem uniqS {xs ys : List Str} (p : xs.Perm ys) : xs.mergeSort leS = ys.mergeSort leS := uniq_sort leS_tr leS_to leS_an p
theorem le_int (a b : Int) : PySem.W.dataLe false enc (.int a) (.int b) = leI a b := by
  have := congrFun (congrFun (PySem.W.dataLe_int (fun i : Int => i)) a) b
  exact this
theorem le_str (a b : Str) : PySem.W.dataLe false enc (.str a) (.str b) = leS a b := by
  have := congrFun (congrFun (PySem.W.dataLe_str (fun i : Str => i)) a) b
  exact this
theorem sort_ints (xs : List Int) : (xs.map D.int).mergeSort (PySem.W.dataLe false enc) = (xs.mergeSort leI).map D.int :=
  (List.map_mergeSort fun a _ b _ => (le_int a b).symm).symm
theorem sort_strs (xs : List Str) : (xs.map D.str).mergeSort (PySem.W.dataLe false enc) = (xs.mergeSort leS).map D.str :=
  (List.map_mergeSort fun a _ b _ => (le_str a b).symm).symm
def gI : Key → Int
  | .inl i => i
  | _ => 0
def gS : Key → Str
  | .inr x => x
  | _ => Str.empty
theorem allI {ks : List Key} (h : ∀ k ∈ ks, isI k = true) : ks.map kD = (ks.map gI).map D.int := by
  rw [List.map_map]
  exact List.map_congr_left fun k hk => by cases k with
    | inl i => rfl
    | inr x => exact absurd (h _ hk) (by simp [isI])
theorem allS {ks : List Key} (h : ∀ k ∈ ks, isI k = false) : ks.map kD = (ks.map gS).map D.str := by
  rw [List.map_map]
  exact List.map_congr_left fun k hk => by cases k with
    | inr x => rfl
    | inl i => exact absurd (h _ hk) (by simp [isI])
theorem sortD_perm {xs ys : List Key} (p : xs.Perm ys) : sortD (xs.map kD) = sortD (ys.map kD) := by
  unfold sortD
  rw [toPys_kD, toPys_kD]
  dsimp only
  have pp : (xs.map pyK).Perm (ys.map pyK) := p.map _
  have e1 : alikeB (xs.map pyK) = alikeB (ys.map pyK) := by
    unfold alikeB
    rw [pp.all_eq]
    congr 1
    funext x
    exact pp.all_eq
  rw [e1, pp.all_eq (f := isT1), pp.all_eq (f := isT0), pp.all_eq (f := fun q => decide (q.depth ≤ 60)), (p.map kD).length_eq]
  by_cases hc : (alikeB (ys.map pyK) && ((ys.map pyK).all isT1 || (ys.map pyK).all isT0) && (ys.map pyK).all (fun q => decide (q.depth ≤ 60)) && decide ((ys.map kD).length ≤ big)) = true
  · rw [if_pos hc, if_pos hc]
    congr 1
    have al : ∀ k ∈ ys, ∀ j ∈ ys, isI k = isI j := fun k hk j hj => by
      simp only [Bool.and_eq_true] at hc
      have h := hc.1.1.1
      unfold alikeB at h
      rw [List.all_eq_true] at h
      have h2 := h (pyK k) (List.mem_map.mpr ⟨k, hk, rfl⟩)
      rw [List.all_eq_true] at h2
      exact alike_kinds (h2 (pyK j) (List.mem_map.mpr ⟨j, hj, rfl⟩))
    by_cases hi : ∀ k ∈ ys, isI k = true
    · rw [sortL_eq, sortL_eq, allI hi, allI fun k hk => hi k (p.mem_iff.mp hk), sort_ints, sort_ints, uniqI (p.map gI)]
    · have hi' : ∀ k ∈ ys, isI k = false := by
        intro k hk
        cases e : isI k with
        | false => rfl
        | true => exact absurd (fun j hj => by rw [al j hj k hk]; exact e) hi
      rw [sortL_eq, sortL_eq, allS hi', allS fun k hk => hi' k (p.mem_iff.mp hk), sort_strs, sort_strs, uniqS (p.map gS)]
  · rw [if_neg hc, if_neg hc]

/-! ### set(x), sorted(set(x)), len(set(x)) -/
def SetHO (P : Program) (w : World) (a : Addr) (ks : List Key) : HO := .ext fun h => SetL P w h a ks
theorem setHO_new {P : Program} {w : World} {H : Hp} {h : Heap} {a : Addr} {ks : List Key} (R : SetL P w h a ks) : ObjOk P w H h a (SetHO P w a ks) := by
  obtain ⟨o, _, _, _, ho, _⟩ := R.ex
  exact ⟨R, ⟨o, ho⟩, fun h1 h2 p k => SetL.keep p k⟩
def setK (d : D) : Option (List Key) := (itemsD d).bind fun ds => (toKeyL ds).bind fun ks => if ks.length + 1 < 4096 then some (onceK ks) else none
section
variable {X : Cx} {w : WX} {e : Expr} {m : M D} {pos pos2 p p2 : Pos} {pins : List (Addr × PySem.Obj)} {τ : L2.St} {H : Hp} {s : Shared}
theorem setHO_get {a : Addr} {ks : List Key} (I : L2.Inv X pins τ H s) (ha : H a = some (SetHO X.prog X.w a ks)) : SetL X.prog X.w s.heap a ks := (I.hok a _ ha).1
theorem scan_all : ∀ {ks : List Key} {us : List Value}, Vals (ks.map kV) us → ∀ u ∈ us, u.scannable = true
  | [], _, .nil => fun _ h => nomatch h
  | k :: ks, _, .cons r t => fun u hu => by
    rcases List.mem_cons.mp hu with rfl | hu
    · exact key_scan r
    · exact scan_all t u hu
def rSet (X : Cx) : List V → Hp → VK → Prop := fun xs H Q => ∃ g h x dx ks, xs = [x] ∧ Heaps X.K X.mg g h H ∧ RepB X.K H g dx x ∧ setK dx = some ks ∧ ∀ q, H q = none → Q (.ref q) (upd H q (SetHO X.prog X.w q ks))
theorem call_setB (hc : X.calm = true) : CallR X (.type "set") (rSet X) := by
  intro pins s τ H xs us Q I r ⟨g, h, x, dx, ks, ex, hs, rx, e, k⟩
  subst ex
  obtain ⟨v, rfl, rv⟩ := vals1 r
  obtain ⟨ds, e1, e2⟩ := Option.bind_eq_some_iff.mp e
  obtain ⟨js, e3, e4⟩ := Option.bind_eq_some_iff.mp e2
  split at e4
  · rename_i hb
    cases e4
    obtain ⟨a, vs, rfl, hq, rl⟩ := seq_of e1 rx
    have ed := toKeyL_some e3
    subst ed
    have ev : vs = js.map kV := repL_keys rl
    subst ev
    cases rv
    have fin : ∀ (h' : Heap) (tk : Nat), SetL X.prog X.w h' s.heap.objs.size (onceK js) → (∀ b o, s.heap.get? b = some o → h'.get? b = some o) → EP X pins τ Q (.ref s.heap.objs.size) { s with heap := h', toks := tk } := fun h' tk hS hk =>
      ⟨.ref s.heap.objs.size, upd H s.heap.objs.size (SetHO X.prog X.w s.heap.objs.size (onceK js)), I.laid (t' := tk) hk (Nat.le_refl _) (setHO_new hS), rfl, k _ (I.hok.fresh (Nat.le_refl _))⟩
    rcases hq with hq | hq
    · obtain ⟨its, rv, pl, hz⟩ := I.list hq
      exact call_setL_list js (I.ok.hd hc) pl.isList (by simpa using items_are rv) (by simpa using scan_all rv) hb fin
    · obtain ⟨its, rv, pl, hz⟩ := I.tuple hq
      exact call_setL_tuple js (I.ok.hd hc) pl (by simpa using items_are rv) (by simpa using scan_all rv) hb fin
  · cases e4
def sRel (X : Cx) : Hp → G → List Key → V → Prop := fun H _ ks v => ∃ q, v = .ref q ∧ H q = some (SetHO X.prog X.w q ks)
def setM' (m : M D) : M (List Key) := bnd m fun d => opt (setK d)
theorem pe_setB (hc : X.calm = true) (hg : Gl X "set") (hm : X.mg "set" = none) (he : DB X w e m) (hst : starEach [e] X.env = (false, eval e X.env) :: starEach [] X.env := by rfl) :
    PE X (.Call (.Name "set" p) [e] [] pos) (tM X.K X.mg (sRel X) w (setM' m)) :=
  PE.imp' (pe_callTy (call_setB hc) hg hm rfl (da_one he hst) (he := hst)) fun τ H Q h => by
    obtain ⟨g, σ, h0, hs, ss, p⟩ := h
    refine tM.bnd hs ss p fun x σ1 h1 g1 vx H1 hs1 ss1 f1 rx p1 => ?_
    cases e : setK x with
    | none => rw [e] at p1; exact p1.elim
    | some ks =>
      rw [e] at p1
      exact ⟨g1, h1, vx, x, ks, rfl, hs1, rx, e, fun q hq => p1 g1 _ _ (hs1.new (.upd hq)) (ss1.new (.upd hq)) (New.upd hq).fr ⟨q, rfl, upd_same⟩⟩
def rSortS (X : Cx) : List V → Hp → VK → Prop := fun xs H Q => ∃ g a ks es, xs = [.ref a] ∧ H a = some (SetHO X.prog X.w a ks) ∧ sortD (ks.map kD) = some es ∧ ∀ H' q ws, New H H' → H' q = none → RepL X.K H' g es ws → Q (.ref q) (upd H' q (.lst ws))
theorem call_sortedS (hu : X.A.units + 64 < cLine) (hc : X.calm = true) : CallR X (.builtin "sorted") (rSortS X) := by
  intro pins s τ H xs us Q I r ⟨g, a, ks, es, ex, ha, e, k⟩
  subst ex
  obtain ⟨v, rfl, rv⟩ := vals1 r
  cases rv
  obtain ⟨o, rows, ep, tb, e1, e2, e3, c1, c2, c3, c4, c5, c6, c7⟩ := (setHO_get I ha).ex
  refine sorted_gen (g := g) I hu (fun R E hh => ?_) k
  refine collect_set (A := X.A.in1) (by simpa using I.ok.hd hc) ⟨o, e1, e2.1, e3⟩ c5 c4 c6 c7 fun s' out k1 hz g1 o1 pm => ?_
  have I1 : L2.Inv X pins τ H s' := I.call' (ch := []) o1 (Un.kept k1) (I.hok.kept k1) (by rw [g1]; exact I.bare) fun _ z => nomatch z
  have isk : ∀ u ∈ out, keyIs (kOf (0, u)) u = true := fun u hu => by
    obtain ⟨row, hr, rfl⟩ := List.mem_map.mp (pm.mem_iff.mp hu)
    obtain ⟨⟨j, hj, _⟩, _⟩ := c1 row hr
    have := kOf_eq (e := (0, row.2)) hj
    rw [this]; exact hj
  have pk : (out.map fun u => kOf (0, u)).Perm ks := by
    refine (pm.map _).trans ?_
    rw [List.map_map]
    exact c2
  refine hh s' H out (out.map fun u => kV (kOf (0, u))) (out.map fun u => kD (kOf (0, u))) (New.refl H) I1 ?_ ?_ ?_
  · clear pm pk
    induction out with
    | nil => exact .nil
    | cons u us ih => exact .cons (keyIs_rel (isk u List.mem_cons_self)) (ih fun x hx => isk x (List.mem_cons_of_mem _ hx))
  · clear pm pk isk
    induction out with
    | nil => exact .nil
    | cons u us ih => exact .cons (rep_kD _) ih
  · have := sortD_perm pk
    rw [List.map_map] at this
    rw [e] at this
    exact this
def srtS (m : M (List Key)) : M D := bnd m fun ks => opt ((sortD (ks.map kD)).map .lst)
theorem df_sortset (hu : X.A.units + 64 < cLine) (hc : X.calm = true) (hg : Gl X "sorted") (hm : X.mg "sorted" = none) (hg2 : Gl X "set") (hm2 : X.mg "set" = none) (he : DB X w e m) (hst : starEach [e] X.env = (false, eval e X.env) :: starEach [] X.env := by rfl)
    (hst2 : starEach [.Call (.Name "set" p) [e] [] pos] X.env = (false, eval (.Call (.Name "set" p) [e] [] pos) X.env) :: starEach [] X.env := by rfl) :
    DF X w (.Call (.Name "sorted" p2) [.Call (.Name "set" p) [e] [] pos] [] pos2) (srtS (setM' m)) :=
  PE.imp' (pe_callB (call_sortedS hu hc) hg hm rfl (pa_cons (pe_setB hc hg2 hm2 he hst) pa_nil hst2) (he := hst2)) fun τ H Q h => by
    obtain ⟨g, σ, h0, hs, ss, p⟩ := h
    refine tM.bndF hs ss p fun ks σ1 h1 g1 vx H1 hs1 ss1 f1 rx p1 => ?_
    obtain ⟨q, rfl, hq⟩ := rx
    cases e : sortD (ks.map kD) with
    | none => rw [e] at p1; exact p1.elim
    | some es =>
      rw [e] at p1
      exact ⟨g1, q, ks, es, rfl, hq, e, fun H' r ws n hr rl => p1 g1 H' r _ (hs1.new n) (ss1.new n) n.fr hr (.lst rl)⟩
/-- len(set(x)) -/
def lnS (m : M (List Key)) : M D := bnd m fun ks => ret (.int ks.length)
def rLenS (X : Cx) : List V → Hp → VK → Prop := fun xs H Q => ∃ a ks, xs = [.ref a] ∧ H a = some (SetHO X.prog X.w a ks) ∧ Q (.int ks.length) H
theorem call_lenS : CallR X (.builtin "len") (rLenS X) := by
  intro pins s τ H xs us Q I r ⟨a, ks, ex, ha, k⟩
  subst ex
  obtain ⟨v, rfl, rv⟩ := vals1 r
  cases rv
  obtain ⟨o, rows, ep, tb, e1, e2, e3, c1, c2, c3, c4, c5, c6, c7⟩ := (setHO_get I ha).ex
  have hl : rows.size = ks.length := by
    have := c2.length_eq
    rw [List.length_map, Array.length_toList] at this
    exact this
  have hb : rows.size < 4096 := c4
  exact call_len_set e1 e2 e3 c5 (by omega) ⟨.int ks.length, H, I.tok _, ⟨_, by rw [hl]⟩, k⟩
theorem de_lenset (hc : X.calm = true) (hg : Gl X "len") (hm : X.mg "len" = none) (hg2 : Gl X "set") (hm2 : X.mg "set" = none) (he : DB X w e m) (hst : starEach [e] X.env = (false, eval e X.env) :: starEach [] X.env := by rfl)
    (hst2 : starEach [.Call (.Name "set" p) [e] [] pos] X.env = (false, eval (.Call (.Name "set" p) [e] [] pos) X.env) :: starEach [] X.env := by rfl) :
    DE X w (.Call (.Name "len" p2) [.Call (.Name "set" p) [e] [] pos] [] pos2) (lnS (setM' m)) :=
  PE.imp' (pe_callB call_lenS hg hm rfl (pa_cons (pe_setB hc hg2 hm2 he hst) pa_nil hst2) (he := hst2)) fun τ H Q h => by
    obtain ⟨g, σ, h0, hs, ss, p⟩ := h
    refine tM.bnd hs ss p fun ks σ1 h1 g1 vx H1 hs1 ss1 f1 rx p1 => ?_
    obtain ⟨q, rfl, hq⟩ := rx
    exact ⟨q, ks, rfl, hq, p1 g1 _ H1 hs1 ss1 (Fr.refl _ _) (.int _)⟩
end
end Bw
namespace Bw
open PySem PySem.Spec PyProof.Rows L2
section
variable {X : Cx} {w : WX} {e o a b : Expr} {m mo ma mb mk mz : M D} {pos apos cpos : Pos}

/-! ### d.get(k), d.get(k, z) -/
def getC (d k z : D) : Option D := match d with
  | .dic t es => (dget t es k).map fun o => o.getD z
  | _ => none
def isDic : D → Bool
  | .dic _ _ => true
  | _ => false
theorem isD_of {K : PySem.W.Frag} {H : Hp} {g : G} {d : D} {v : V} (r : RepB K H g d v) (e : isDic d = true) : ∃ p, v = .ref p ∧ IsD H p := by
  cases d with
  | dic t es =>
    obtain ⟨p, u, rfl, hr, c⟩ := dic_rd r
    refine ⟨p, rfl, ?_⟩
    cases c with
    | dicK _ => exact .inl ⟨_, hr⟩
    | dicT _ => exact .inr ⟨_, hr⟩
  | _ => cases e
theorem getC_rep {K : PySem.W.Frag} {H : Hp} {g : G} {d k z r : D} {x y q : V} (rx : RepB K H g d x) (ry : Rep K H g k y) (rz : Rep K H g z q) (e : getC d k z = some r) : ∃ p o, x = .ref p ∧ DGet H p y o ∧ Rep K H g r (o.getD q) := by
  cases d with
  | dic t es =>
    obtain ⟨o, e1, rfl⟩ := Option.map_eq_some_iff.mp (show (dget t es k).map (fun o => o.getD z) = some r from e)
    obtain ⟨p, u, rfl, hr, c⟩ := dic_rd rx
    obtain ⟨o', dg, rel⟩ := dget_rep e1 ry hr c
    refine ⟨p, o', rfl, dg, ?_⟩
    cases o with
    | none => cases o' with
      | none => exact rz
      | some v => exact (rel : False).elim
    | some d => cases o' with
      | none => exact (rel : False).elim
      | some v => exact rel
  | _ => cases e
def getNM (i : Nat) (mk mz : M D) : M D := fun σ h => match peek σ h i with
  | some d0 => if isDic d0 = true then bnd mk (fun k => bnd mz fun z => fun σ h => opt ((peek σ h i).bind fun d => getC d k z) σ h) σ h else .no
  | none => .no
theorem de_getn1 (hu : X.A.units + 1 < cLine) {i : Nat} {x : Str} {px : Pos} (hk : DE X w a mk) (hm : M1 X (.Name x px) "get" apos a cpos) (hN : X.N[i]? = some x := by rfl) (hv : Vis X.env.scope x := by first | exact Or.inl rfl | exact Or.inr (Or.inl rfl) | exact Or.inr (Or.inr rfl)) (hd : (x == ("__debug__" : Str)) = false := by decide)
    (hcd : (x == ("__classdict__" : Str)) = false := by decide) : DE X w (.Call (.Attribute (.Name x px) "get" apos) [a] [] cpos) (getNM i mk (ret .non)) :=
  PE.imp' (pe_dget1 hu (pe_var hN hv hd hcd) hk hm) fun τ H Q h => by
    obtain ⟨g, σ, h0, hs, ss, p⟩ := h
    unfold getNM at p
    cases e0 : peek σ h0 i with
    | none => rw [e0] at p; exact p.elim
    | some d0 =>
      rw [e0] at p
      dsimp only at p
      by_cases hd0 : isDic d0 = true
      · rw [if_pos hd0] at p
        obtain ⟨v, et, rb⟩ := ss.peek hs e0
        obtain ⟨q, rfl, isd⟩ := isD_of rb hd0
        refine ⟨_, et, q, rfl, isd, ?_⟩
        refine tM.bnd hs ss p fun k σ1 h1 g1 vk H1 hs1 ss1 f1 rk p1 => ?_
        have p1 : Post X.K X.mg (Rep X.K) w Q g1 H1 τ (opt ((peek σ1 h1 i).bind fun d => getC d k .non) σ1 h1) := p1
        cases e1 : peek σ1 h1 i with
        | none => rw [e1] at p1; exact p1.elim
        | some d =>
          rw [e1] at p1
          obtain ⟨v', et', rb'⟩ := ss1.peek hs1 e1
          rw [et] at et'; cases et'
          cases e2 : getC d k .non with
          | none => rw [show (some d).bind (fun d => getC d k .non) = none from e2] at p1; exact p1.elim
          | some r =>
            rw [show (some d).bind (fun d => getC d k .non) = some r from e2] at p1
            obtain ⟨q', o', e3, dg, rr⟩ := getC_rep rb' rk .non e2
            cases e3
            exact ⟨o', dg, p1 g1 _ H1 hs1 ss1 (Fr.refl _ _) rr⟩
      · rw [if_neg hd0] at p; exact p.elim
theorem de_getn2 (hu : X.A.units + 1 < cLine) {i : Nat} {x : Str} {px : Pos} (hk : DE X w a mk) (hz : DE X w b mz) (hm : M2 X (.Name x px) "get" apos a b cpos) (hN : X.N[i]? = some x := by rfl) (hv : Vis X.env.scope x := by first | exact Or.inl rfl | exact Or.inr (Or.inl rfl) | exact Or.inr (Or.inr rfl)) (hd : (x == ("__debug__" : Str)) = false := by decide)
    (hcd : (x == ("__classdict__" : Str)) = false := by decide) : DE X w (.Call (.Attribute (.Name x px) "get" apos) [a, b] [] cpos) (getNM i mk mz) :=
  PE.imp' (pe_dget2 hu (pe_var hN hv hd hcd) hk hz hm) fun τ H Q h => by
    obtain ⟨g, σ, h0, hs, ss, p⟩ := h
    unfold getNM at p
    cases e0 : peek σ h0 i with
    | none => rw [e0] at p; exact p.elim
    | some d0 =>
      rw [e0] at p
      dsimp only at p
      by_cases hd0 : isDic d0 = true
      · rw [if_pos hd0] at p
        obtain ⟨v, et, rb⟩ := ss.peek hs e0
        obtain ⟨q, rfl, isd⟩ := isD_of rb hd0
        refine ⟨_, et, q, rfl, isd, ?_⟩
        refine tM.bnd hs ss p fun k σ1 h1 g1 vk H1 hs1 ss1 f1 rk p1 => ?_
        refine tM.bnd hs1 ss1 p1 fun z σ2 h2 g2 vz H2 hs2 ss2 f2 rz p2 => ?_
        cases e1 : peek σ2 h2 i with
        | none => rw [e1] at p2; exact p2.elim
        | some d =>
          rw [e1] at p2
          obtain ⟨v', et', rb'⟩ := ss2.peek hs2 e1
          rw [et] at et'; cases et'
          cases e2 : getC d k z with
          | none => rw [show (some d).bind (fun d => getC d k z) = none from e2] at p2; exact p2.elim
          | some r =>
            rw [show (some d).bind (fun d => getC d k z) = some r from e2] at p2
            obtain ⟨q', o', e3, dg, rr⟩ := getC_rep rb' (rk.stays f2.stays) rz e2
            cases e3
            exact ⟨o', dg, p2 g2 _ H2 hs2 ss2 (Fr.refl _ _) rr⟩
      · rw [if_neg hd0] at p; exact p.elim
def getM (m mk mz : M D) : M D := bnd m fun d => fun σ h => if isDic (deref h d) = true then bnd mk (fun k => bnd mz fun z => fun σ h => opt (getC (deref h d) k z) σ h) σ h else .no
theorem de_get1 (hu : X.A.units + 1 < cLine) (ho : DE X w o mo) (hk : DE X w a mk) (hm : M1 X o "get" apos a cpos) : DE X w (.Call (.Attribute o "get" apos) [a] [] cpos) (getM mo mk (ret .non)) :=
  PE.imp' (pe_dget1 hu ho hk hm) fun τ H Q h => by
    obtain ⟨g, σ, h0, hs, ss, p⟩ := h
    refine tM.bnd hs ss p fun d σ1 h1 g1 vx H1 hs1 ss1 f1 rx p1 => ?_
    by_cases hd0 : isDic (deref h1 d) = true
    · rw [if_pos hd0] at p1
      obtain ⟨q, rfl, isd⟩ := isD_of (repB_deref hs1 rx) hd0
      refine ⟨q, rfl, isd, ?_⟩
      refine tM.bnd hs1 ss1 p1 fun k σ2 h2 g2 vk H2 hs2 ss2 f2 rk p2 => ?_
      have p2 : Post X.K X.mg (Rep X.K) w Q g2 H2 τ (opt (getC (deref h2 d) k .non) σ2 h2) := p2
      cases e2 : getC (deref h2 d) k .non with
      | none => rw [e2] at p2; exact p2.elim
      | some r =>
        rw [e2] at p2
        obtain ⟨q', o', e3, dg, rr⟩ := getC_rep (repB_deref hs2 (rx.stays f2.stays)) rk .non e2
        cases e3
        exact ⟨o', dg, p2 g2 _ H2 hs2 ss2 (Fr.refl _ _) rr⟩
    · rw [if_neg hd0] at p1; exact p1.elim
theorem de_get2 (hu : X.A.units + 1 < cLine) (ho : DE X w o mo) (hk : DE X w a mk) (hz : DE X w b mz) (hm : M2 X o "get" apos a b cpos) : DE X w (.Call (.Attribute o "get" apos) [a, b] [] cpos) (getM mo mk mz) :=
  PE.imp' (pe_dget2 hu ho hk hz hm) fun τ H Q h => by
    obtain ⟨g, σ, h0, hs, ss, p⟩ := h
    refine tM.bnd hs ss p fun d σ1 h1 g1 vx H1 hs1 ss1 f1 rx p1 => ?_
    by_cases hd0 : isDic (deref h1 d) = true
    · rw [if_pos hd0] at p1
      obtain ⟨q, rfl, isd⟩ := isD_of (repB_deref hs1 rx) hd0
      refine ⟨q, rfl, isd, ?_⟩
      refine tM.bnd hs1 ss1 p1 fun k σ2 h2 g2 vk H2 hs2 ss2 f2 rk p2 => ?_
      refine tM.bnd hs2 ss2 p2 fun z σ3 h3 g3 vz H3 hs3 ss3 f3 rz p3 => ?_
      cases e2 : getC (deref h3 d) k z with
      | none => rw [e2] at p3; exact p3.elim
      | some r =>
        rw [e2] at p3
        obtain ⟨q', o', e3, dg, rr⟩ := getC_rep (repB_deref hs3 ((rx.stays f2.stays).stays f3.stays)) (rk.stays f3.stays) rz e2
        cases e3
        exact ⟨o', dg, p3 g3 _ H3 hs3 ss3 (Fr.refl _ _) rr⟩
    · rw [if_neg hd0] at p1; exact p1.elim

/-! ### d.setdefault(k, z) -/
def fSetd (d : D) (as : List D) : Option (D × D) := match d, as with
  | .dic false es, [k, z] => if es.length < big then (toKey k).map fun key => match getK es key with
    | some x => (.dic false es, x)
    | none => (.dic false (putE (fun x => decide (toKey x = some key)) es k z), z)
    else none
  | _, _ => none
theorem upd_self {H : Hp} {p : Addr} {u : HO} (h : H p = some u) : upd H p u = H := by
  funext q
  by_cases e : q = p
  · subst e; rw [upd_same, h]
  · rw [upd_ne e]
theorem setd_run {x y z : V} {H : Hp} {Q : VK} (h : rMut X.K X.mg fSetd x [y, z] H Q) : ∃ p kvs k, x = .ref p ∧ H p = some (.dK kvs) ∧ y = kV k ∧ kvs.length < sizeLine ∧ (∀ v, valV kvs k = some v → Q v H) ∧ (valV kvs k = none → Q z (upd H p (.dK (putK kvs k z)))) := by
  obtain ⟨g, hh, p, u, dc, das, d', res, rfl, hp, hw, hs, c, ra, e, k⟩ := h
  cases c with
  | dicK rk =>
    rename_i es kvs
    cases ra with
    | cons r1 ra =>
      cases ra with
      | cons r2 ra =>
        cases ra
        rename_i dk dz
        unfold fSetd at e
        dsimp only at e
        by_cases hl : es.length < big
        · rw [if_pos hl] at e
          obtain ⟨key, e1, e2⟩ := Option.map_eq_some_iff.mp e
          have ed := toKey_some e1
          subst ed
          have ey : y = kV key := by
            cases key with
            | inl n => exact rep_int r1
            | inr x => exact rep_str r1
          subst ey
          refine ⟨p, kvs, key, rfl, hp, rfl, by rw [← rk.len, ← big_eq]; exact hl, fun v hv => ?_, fun hv => ?_⟩
          · have rel := rk.val (k := key)
            rw [hv] at rel
            cases eg : getK es key with
            | none => rw [eg] at rel; exact (rel : False).elim
            | some x =>
              rw [eg] at rel e2
              cases e2
              have := k (.dK kvs) v (.dicK rk) rel
              rw [upd_self hp] at this
              exact this
          · have rel := rk.val (k := key)
            rw [hv] at rel
            cases eg : getK es key with
            | some x => rw [eg] at rel; exact (rel : False).elim
            | none =>
              rw [eg] at e2
              cases e2
              exact k _ _ (.dicK (rk.put r2)) r2
        · rw [if_neg hl] at e; cases e
  | dicT rt => cases e
  | lst rl => cases e
def setdN (i : Nat) (mk mz : M D) : M D := fun σ h => if tyN "dict" σ h i = true then bnd mk (fun k => bnd mz fun z => mutN fSetd i [k, z]) σ h else .no
theorem tyV_dict {K : PySem.W.Frag} {x : V} {H : Hp} {T : String} {d : D} {p : Addr} {u : HO} (e : isTy "dict" d = true) (hr : H p = some u) (c : CRep K H g d u) : IsD H p := by
  cases c with
  | lst _ => cases e
  | dicK _ => exact .inl ⟨_, .inl hr⟩
  | dicT _ => exact .inr ⟨_, .inl hr⟩
theorem tyC_dict {g : G} {h : Hd} {H : Hp} {j : Nat} {x : V} (hs : Heaps X.K X.mg g h H) (rj : Rep X.K H g (.ref j) x) (e : tyC "dict" h j = true) : ∃ p, x = .ref p ∧ IsD H p := by
  unfold tyC at e
  have go : ∀ o : Option Cell, h[j]? = o → (match o with | some ⟨false, .con d⟩ => isTy "dict" d | _ => false) = true → ∃ p, x = .ref p ∧ IsD H p := by
    rintro (_ | ⟨_ | _, _ | d⟩) hc q
    · cases q
    · cases q
    · cases rj with
      | ref hi =>
        obtain ⟨u, ru, k1, _⟩ := hs.cell j _ _ hc hi
        cases ru with
        | con rc => exact ⟨_, rfl, tyV_dict (x := .non) (T := "") q (k1 rfl) rc⟩
    · cases q
    · cases q
  exact go _ rfl e
theorem tyN_dict {g : G} {h : Hd} {H : Hp} {σ : List Sl} {τ : L2.St} {i : Nat} (hs : Heaps X.K X.mg g h H) (ss : Slots X.K g σ τ H) (e : tyN "dict" σ h i = true) : ∃ p, τ[i]? = some (some (.ref p)) ∧ IsD H p := by
  unfold tyN at e
  cases es : σ[i]? with
  | none => rw [es] at e; cases e
  | some s =>
    rw [es] at e
    have il : i < τ.length := by rw [← ss.len]; exact (List.getElem?_eq_some_iff.mp es).1
    have et : τ[i]? = some τ[i] := List.getElem?_eq_getElem il
    have q := ss.rep i s _ es et
    cases s with
    | un => cases e
    | v d =>
      cases d with
      | ref j =>
        obtain ⟨v', ev, r⟩ := q
        obtain ⟨p, rfl, isd⟩ := tyC_dict hs r e
        exact ⟨p, by rw [et, ev], isd⟩
      | _ => cases e
    | own d => obtain ⟨p, u, ev, o, l, r⟩ := q; exact ⟨p, by rw [et, ev], tyV_dict (x := .non) (T := "") e l r⟩
theorem de_setdn {i : Nat} {x : Str} {px : Pos} (hk : DE X w a mk) (hz : DE X w b mz) (hm : M2 X (.Name x px) "setdefault" apos a b cpos) (hN : X.N[i]? = some x := by rfl) (hv : Vis X.env.scope x := by first | exact Or.inl rfl | exact Or.inr (Or.inl rfl) | exact Or.inr (Or.inr rfl)) (hd : (x == ("__debug__" : Str)) = false := by decide)
    (hcd : (x == ("__classdict__" : Str)) = false := by decide) : DE X w (.Call (.Attribute (.Name x px) "setdefault" apos) [a, b] [] cpos) (setdN i mk mz) :=
  PE.imp' (pe_dsetd (pe_var hN hv hd hcd) hk hz hm) fun τ H Q h => by
    obtain ⟨g, σ, h0, hs, ss, p⟩ := h
    unfold setdN at p
    by_cases hh : tyN "dict" σ h0 i = true
    · rw [if_pos hh] at p
      obtain ⟨q, et, isd⟩ := tyN_dict hs ss hh
      refine ⟨_, et, q, rfl, isd, ?_⟩
      refine tM.bnd hs ss p fun k σ1 h1 g1 vk H1 hs1 ss1 f1 rk p1 => ?_
      refine tM.bnd hs1 ss1 p1 fun z σ2 h2 g2 vz H2 hs2 ss2 f2 rz p2 => ?_
      obtain ⟨q', kvs, key, e1, e2, e3, e4, e5, e6⟩ := setd_run (mutN_run hs2 ss2 et (.cons (rk.stays f2.stays) (.cons rz .nil)) p2)
      cases e1
      exact ⟨kvs, key, e2, e3, e4, e5, e6⟩
    · rw [if_neg hh] at p; exact p.elim
def setdO (mo mk mz : M D) : M D := bnd mo fun o => match o with
  | .ref j => fun σ h => if tyC "dict" h j = true then bnd mk (fun k => bnd mz fun z => mutC fSetd j [k, z]) σ h else .no
  | _ => no
theorem de_setdo (ho : DE X w o mo) (hk : DE X w a mk) (hz : DE X w b mz) (hm : M2 X o "setdefault" apos a b cpos) : DE X w (.Call (.Attribute o "setdefault" apos) [a, b] [] cpos) (setdO mo mk mz) :=
  PE.imp' (pe_dsetd ho hk hz hm) fun τ H Q h => by
    obtain ⟨g, σ, h0, hs, ss, p⟩ := h
    refine tM.bnd hs ss p fun d σ1 h1 g1 vx H1 hs1 ss1 f1 rx p1 => ?_
    cases d with
    | ref j =>
      dsimp only at p1
      by_cases hh : tyC "dict" h1 j = true
      · rw [if_pos hh] at p1
        obtain ⟨q, rfl, isd⟩ := tyC_dict hs1 rx hh
        refine ⟨q, rfl, isd, ?_⟩
        refine tM.bnd hs1 ss1 p1 fun k σ2 h2 g2 vk H2 hs2 ss2 f2 rk p2 => ?_
        refine tM.bnd hs2 ss2 p2 fun z σ3 h3 g3 vz H3 hs3 ss3 f3 rz p3 => ?_
        obtain ⟨q', kvs, key, e1, e2, e3, e4, e5, e6⟩ := setd_run (mutC_run hs3 ss3 ((rx.stays f2.stays).stays f3.stays) (.cons (rk.stays f3.stays) (.cons rz .nil)) p3)
        cases e1
        exact ⟨kvs, key, e2, e3, e4, e5, e6⟩
      · rw [if_neg hh] at p1; exact p1.elim
    | _ => exact p1.elim

/-! ### isinstance(x, T) -/
def tyName : D → Option String
  | .non => some "NoneType"
  | .bl _ => some "bool"
  | .int _ => some "int"
  | .str _ => some "str"
  | .tup _ => some "tuple"
  | .kt _ => some "tuple"
  | .lst _ => some "list"
  | .dic false _ => some "dict"
  | _ => none
def isiS (n T : String) : Bool := n == T || (n == "bool" && T == "int")
def isTyB (T : String) : Bool := T == "bool" || T == "int" || T == "str" || T == "tuple" || T == "list" || T == "dict"
theorem isi_kit {n T : String} (hn : n = "NoneType" ∨ n = "bool" ∨ n = "int" ∨ n = "str" ∨ n = "tuple" ∨ n = "list" ∨ n = "dict") (hT : isTyB T = true) : kitB n T = some (isiS n T) := by
  unfold isTyB at hT
  simp only [Bool.or_eq_true, beq_iff_eq] at hT
  rcases hT with ((((hT | hT) | hT) | hT) | hT) | hT <;> subst hT <;> rcases hn with h | h | h | h | h | h | h <;> subst h <;> decide +kernel
def isiD (T : String) (d : D) : Option D := if isTyB T = true then (tyName d).map fun n => .bl (isiS n T) else none
theorem tyX_of {K : PySem.W.Frag} {H : Hp} {g : G} {d : D} {v : V} {n : String} (r : RepB K H g d v) (e : tyName d = some n) : TyX K H v (.type n) ∧ (n = "NoneType" ∨ n = "bool" ∨ n = "int" ∨ n = "str" ∨ n = "tuple" ∨ n = "list" ∨ n = "dict") := by
  cases d with
  | non => cases e; cases r with
    | val r => cases r; exact ⟨.base .non, by simp⟩
    | own _ _ c => cases c
  | bl b => cases e; cases r with
    | val r => cases r; exact ⟨.base (.bl _), by simp⟩
    | own _ _ c => cases c
  | int b => cases e; cases r with
    | val r => cases r; exact ⟨.base (.int _), by simp⟩
    | own _ _ c => cases c
  | str b => cases e; cases r with
    | val r => cases r; exact ⟨.base (.str _), by simp⟩
    | own _ _ c => cases c
  | tup b => cases e; cases r with
    | val r => cases r with
      | tup h _ => exact ⟨.base (.tup h), by simp⟩
    | own _ _ c => cases c
  | kt b => cases e; cases r with
    | val r => cases r with
      | kt h _ =>
        rcases h with ⟨o, h, _⟩ | ⟨⟨o, h, hc, _⟩, _⟩
        · exact ⟨.fTuple h, by simp⟩
        · exact ⟨.kTuple h hc, by simp⟩
    | own _ _ c => cases c
  | lst b => cases e; cases r with
    | val r => cases r with
      | lst h _ _ => exact ⟨.base (.lst h), by simp⟩
    | own _ hr c => cases c with
      | lst _ => rcases hr with hr | ⟨ob, hr⟩
                 · exact ⟨.base (.lst hr), by simp⟩
                 · exact ⟨.base (.frz hr), by simp⟩
  | dic t es =>
    cases t with
    | true => cases e
    | false =>
      cases e
      obtain ⟨p, u, rfl, hr, c⟩ := dic_rd r
      cases c with
      | dicK _ => rcases hr with hr | ⟨ob, hr⟩
                  · exact ⟨.base (.dK hr), by simp⟩
                  · exact ⟨.fDict hr, by simp⟩
  | _ => cases e
def isiM (T : String) (m : M D) : M D := bnd m fun d => opt (isiD T d)
theorem de_isi {T : String} {x : Str} {p px : Pos} (hg : Gl X "isinstance") (hm : X.mg "isinstance" = none) (hgx : Gl X x) (hmx : X.mg x = none) (hvx : bootBuiltins x = some (.type T)) (he : DB X w e m) (hnx : x ≠ "__name__" := by decide) (hdx : (x == ("__debug__" : Str)) = false := by decide)
    (hst : starEach [e, .Name x px] X.env = (false, eval e X.env) :: starEach [.Name x px] X.env := by rfl) (hst2 : starEach [.Name x px] X.env = (false, eval (.Name x px) X.env) :: starEach [] X.env := by rfl) (hpl : (backTo pos (starEach [.Name x px] X.env)).any (·.1) = false := by rfl) :
    DE X w (.Call (.Name "isinstance" p) [e, .Name x px] [] pos) (isiM T m) :=
  PE.imp' (pe_callB call_isi hg hm rfl (pa_cons he (pa_cons (pe_bltn (v := .ty T) hgx hmx hvx rfl hnx hdx) pa_nil hst2) hst) (he := hst) (hpl := hpl)) fun τ H Q h => by
    obtain ⟨g, σ, h0, hs, ss, p⟩ := h
    refine tM.bnd hs ss p fun d σ1 h1 g1 vx H1 hs1 ss1 f1 rx p1 => ?_
    cases e : isiD T d with
    | none => rw [e] at p1; exact p1.elim
    | some r =>
      rw [e] at p1
      unfold isiD at e
      split at e
      · rename_i hT
        obtain ⟨n, e1, rfl⟩ := Option.map_eq_some_iff.mp e
        obtain ⟨ty, hn⟩ := tyX_of rx e1
        exact ⟨vx, .ty T, _, _, _, rfl, .ty T, ty, kit_ty (isi_kit hn hT), p1 g1 _ H1 hs1 ss1 (Fr.refl _ _) (.bl _)⟩
      · cases e

/-! ### a, b = x, y -/
def parM (i j : Nat) (ma mb : M D) : M Fl := bnd ma fun x => bnd mb fun y => fun σ h => .ok .nx ((σ.set i (.v x)).set j (.v y)) h
theorem ds_par {i j : Nat} {x y : Str} {px py pt : Pos} {kt k2 : Nat} {pt2 : Pos} (hc : X.calm = true) (hN : X.N.Nodup) (ha : DE X w a ma) (hb : DE X w b mb) (hij : i ≠ j) (hw : swappedStores [.Tuple [.Name x px, .Name y py] kt pt] (.Tuple [a, b] k2 pt2) X.env = pure (some [x, y]))
    (hi : X.N[i]? = some x := by rfl) (hj : X.N[j]? = some y := by rfl) (hx : X.env.scope.names.lookup x = some .local := by rfl) (hy : X.env.scope.names.lookup y = some .local := by rfl)
    (hs : swapsWithSole [.Tuple [.Name x px, .Name y py] kt pt] (.Tuple [a, b] k2 pt2) pos.line X.env = pure false := by rfl) (hst : starEach [a, b] X.env = (false, eval a X.env) :: starEach [b] X.env := by rfl) (hst2 : starEach [b] X.env = (false, eval b X.env) :: starEach [] X.env := by rfl) :
    DS X w (.Assign [.Tuple [.Name x px, .Name y py] kt pt] (.Tuple [a, b] k2 pt2) pos) (parM i j ma mb) :=
  PS.imp' (ps_par hc hN hi hj hij hx hy (pa_cons ha (pa_cons hb pa_nil hst2) hst) hw hs) fun D τ H h => by
    obtain ⟨g, σ, h0, hs, ss, p⟩ := h
    refine tM.bndS hs ss p fun d σ1 h1 g1 vx H1 hs1 ss1 f1 rx p1 => ?_
    refine tM.bndS hs1 ss1 p1 fun d2 σ2 h2 g2 vy H2 hs2 ss2 f2 ry p2 => ?_
    exact ⟨vx, vy, rfl, p2 g2 _ H2 hs2 ((ss2.setV (rx.stays f2.stays)).setV ry) (Fr.refl _ _)⟩

/-! ### sorted(d.items()) -/
def itmD (es : List (D × D)) : List D := es.map fun e => .tup [e.1, e.2]
def srtI (m : M D) : M D := bnd m fun d => match d with
  | .dic false es => opt ((sortD (itmD es)).map .lst)
  | _ => no
theorem tups_laid {pins : List (Addr × PySem.Obj)} {σ : L2.St} {H : Hp} {s : Shared} {h' : Heap} {tk : Nat} {kvs : List (Key × V)} {vs : List (Key × Value)} {as : List Addr} (I : L2.Inv X pins σ H s) (kv : KV kvs vs) (hk : ∀ b o, s.heap.get? b = some o → h'.get? b = some o)
    (hl : as.length = vs.length) (hG : PySem.W.KdxG (mixKind X.prog X.w) vs s.heap.objs.size h' as) :
    New H (LiI.putT H as kvs) ∧ Paired (fun (t : Addr) (q : Key × V) => LiI.putT H as kvs t = some (.tup [kV q.1, q.2])) as kvs ∧ L2.Inv X pins σ (LiI.putT H as kvs) { s with heap := h', toks := tk } := by
  have nd : as.Nodup := List.Pairwise.imp (fun {a b} (z : a < b) => Nat.ne_of_lt z) hG.rise
  have fresh : ∀ t ∈ as, H t = none := fun t ht => I.hok.fresh (Nat.le_of_lt (hG.above t ht))
  have pr := LiI.putT_at as kvs H (hl.trans (Paired.length kv).symm) nd
  have nw : New H (LiI.putT H as kvs) := fun b u q => by
    rw [LiI.putT_off as kvs _ (fun z => by rw [fresh b z] at q; cases q)]; exact q
  have low : ∀ b o, s.heap.get? b = some o → b ∉ as := fun b o q z => absurd (Heap.lt_size q) (Nat.not_lt.mpr (Nat.le_of_lt (hG.above b z)))
  refine ⟨nw, pr, ?_⟩
  refine I.call' (ch := []) rfl ⟨fun b o q _ _ _ => hk b o q, fun b o q _ _ _ => ⟨o.slots, hk b o q⟩, fun b o q n _ => (LiI.putT_off as kvs _ (low b o q)).trans n, fun b o q _ => ⟨o, hk b o q⟩, fun b xs q => nw b _ q, fun b o u q => nw b _ q, fun b ps q => ⟨#[], by rw [nw b _ q]; simp⟩⟩ (fun b u q => ?_) I.bare fun b z => nomatch z
  by_cases hb : b ∈ as
  · obtain ⟨j, pk, e1, e2, e3⟩ := LiI.paired_ix pr hb
    rw [e3] at q
    cases q
    obtain ⟨key, k, x, f1, f2, f3⟩ := hG.pairs j b e1
    obtain ⟨qv, g1, g2, g3⟩ := LiI.paired_get kv e2
    rw [f1] at g1
    cases g1
    have rk : RelV (kV pk.1) key := by rw [g2]; exact relV_key (show keyIs k key = true from f2)
    exact ⟨by show 2 ≤ sizeLine; decide, [key, x], .cons rk (.cons g3 .nil), ⟨_, f3, rfl, _, rfl⟩⟩
  · rw [LiI.putT_off as kvs _ hb] at q
    exact (I.hok b u q).stay (fun d v _ y => hk d v y) (fun d y => nw d _ y) fun d xs y => nw d _ y
theorem itm_rep {K : PySem.W.Frag} {H H' : Hp} {g : G} (st : Stays g H g H') : ∀ {es : List (D × D)} {kvs : List (Key × V)} {as : List Addr}, RepK K H g es kvs → Paired (fun (t : Addr) (q : Key × V) => H' t = some (.tup [kV q.1, q.2])) as kvs → RepL K H' g (itmD es) (as.map V.ref)
  | _, _, _, .nil, .nil => .nil
  | _, _, _, .cons r t, .cons p u => .cons (.tup p (.cons (rep_kD _) (.cons (r.stays st) .nil))) (itm_rep st t u)
theorem df_sortitems (hu : X.A.units + 64 < cLine) (hc : X.calm = true) {p : Pos} (hg : Gl X "sorted") (hm : X.mg "sorted" = none) (he : DB X w e m) (hbase : attributeBase e "items" X.env (eval e X.env) = eval e X.env := by rfl) (hline : (apos.endLine == cpos.line) = true := by rfl)
    (hst : starEach [.Call (.Attribute e "items" apos) [] [] cpos] X.env = (false, eval (.Call (.Attribute e "items" apos) [] [] cpos) X.env) :: starEach [] X.env := by rfl) :
    DF X w (.Call (.Name "sorted" p) [.Call (.Attribute e "items" apos) [] [] cpos] [] pos) (srtI m) := by
  refine ⟨fun pins s τ H Q I hq => ?_⟩
  obtain ⟨g, σ, h0, hs, ss, pp⟩ := hq
  refine wpAny_Call_Name_kw (ld_blt I hg hm rfl ?_)
  refine PyProof.Rows.callWith_builtin1 ?_ hst rfl
  rw [hst]
  show wpAny _ _ (spliced ((false, eval (.Call (.Attribute e "items" apos) [] [] cpos) X.env) :: backTo pos (starEach [] X.env))) _ _ s
  refine Calls.spliced_cons ?_
  refine wpAny_Call_method (T := "dict") (id := "dict.items") hbase rfl hline F.plainAttrs_dict F.slot_dict_items F.type_dict_items (thn (he.run pins s τ H _ I (tM.bndF hs ss pp fun d σ1 h1 g1 vx H1 hs1 ss1 f1 rx p1 =>
    (show (∃ (g1 : G) (q : Addr) (kvs : List (Key × V)) (es : List (D × D)) (so : List D), vx = .ref q ∧ Rd H1 q (.dK kvs) ∧ RepK X.K H1 g1 es kvs ∧ sortD (itmD es) = some so ∧ ∀ H' r ws, New H1 H' → H' r = none → RepL X.K H' g1 so ws → Q (.ref r) (upd H' r (.lst ws))) from ?_))) fun u s1 ⟨vx, H1, I1, rx, q1⟩ => ?_)
  · cases d with
    | dic t es =>
      cases t with
      | true => exact p1.elim
      | false =>
        obtain ⟨q, u, rfl, hr, c⟩ := dic_rd rx
        cases c with
        | dicK rk =>
          dsimp only at p1
          cases e1 : sortD (itmD es) with
          | none => rw [e1] at p1; exact p1.elim
          | some so =>
            rw [e1] at p1
            exact ⟨g1, q, _, es, so, rfl, hr, rk, e1, fun H' r ws n hr rl => p1 g1 H' r _ (hs1.new n) (ss1.new n) n.fr hr (.lst rl)⟩
    | _ => exact p1.elim
  · obtain ⟨g1, q, kvs, es, so, rfl, hr, rk, e1, kk⟩ := q1
    obtain rfl : u = Value.ref q := rx
    obtain ⟨hz, hs0, vs, kv, hdo⟩ := dk_rd I1.hok hr
    obtain ⟨ep, hat⟩ := hdo.dictAt
    have lk : kvs.length = vs.length := Paired.length kv
    have I2 : L2.Inv X pins τ H1 { s1 with heap := s1.heap.push { cls := .type "dict_items", data := .fields #[.ref q] } } := I1.kept (t' := s1.toks) fun b ob q => Heap.get?_push_of_some _ q
    refine ⟨hdo.typeIs, hdo.mapOf.noDict, ?_⟩
    show wpAny _ _ (callWith cpos (.builtin "dict.items") [.ref q] [] []) _ X.xe s1
    refine method_meetsIn F.slot_dict_items F.entry_dict_items rfl (PySem.evalArgs_none ⟨rfl, hdo.typeIs, F.args_dict_items_1 _, _, meets_dict_items (mixKind X.prog X.w) q hs0, ⟨vs, hdo⟩, ?_⟩)
    refine Calls.spliced_nil ?_
    refine sorted_gen (g := g1) I2 hu (fun R E hh => ?_) kk
    refine PySem.W.kdx_collect (A := X.A.in1) (knd := mixKind X.prog X.w) (kvs := vs) (ep := ep) (by simpa using I1.ok.hd hc) ⟨_, Heap.get?_push_size _ rfl, rfl, rfl⟩ (hat.push _) (by rw [← lk]; exact hz) fun h' tk as hk hl hG => ?_
    obtain ⟨nw, pr, J⟩ := tups_laid (tk := tk) I2 kv hk hl hG
    exact hh _ _ _ _ _ nw J (LiI.vals_refs as) (itm_rep nw.stays rk pr) e1
end
end Bw
namespace Bw
open PySem PySem.Spec PyProof.Rows L2

/-! ### a def -/
def slots0 (N : Nat) (ds : List D) : List Sl := ds.map Sl.v ++ List.replicate (N - ds.length) .un
/-- what a body does, as a def: its names beside the parameters are unassigned at the start -/
def fnD (N : Nat) (body : M Fl) : FnD := fun ds h => match body (slots0 N ds) h with
  | .ok .nx _ h' => .ret .non h'
  | .ok (.rt d) _ h' => .ret d h'
  | .exc x _ h' => .exc x h'
  | _ => .no
theorem slots0_rep {K : PySem.W.Frag} {g : G} {H : Hp} {N : List Str} {ds : List D} {vs : List V} (rl : RepL K H g ds vs) : Slots K g (slots0 N.length ds) (L2.start N vs) H := by
  have hl := rl.len
  unfold slots0 L2.start
  refine ⟨by simp [hl], fun i s x e1 e2 => ?_, fun i j s t a e1 e2 m1 => ?_⟩
  · by_cases hi : i < ds.length
    · rw [List.getElem?_append_left (by simpa using hi), List.getElem?_map, List.getElem?_eq_getElem hi] at e1
      rw [List.getElem?_append_left (by simp [← hl]; exact hi), List.getElem?_map] at e2
      cases e1
      obtain ⟨v, e3, r⟩ := rl.get (List.getElem?_eq_getElem hi)
      rw [e3] at e2
      cases e2
      exact ⟨v, rfl, r⟩
    · rw [List.getElem?_append_right (by simpa using Nat.le_of_not_lt hi)] at e1
      have : s = .un := List.eq_of_mem_replicate (List.mem_of_getElem? e1)
      subst this
      trivial
  · exfalso
    by_cases hi : i < ds.length
    · rw [List.getElem?_append_left (by simpa using hi), List.getElem?_map, List.getElem?_eq_getElem hi] at e1
      cases e1; cases m1
    · rw [List.getElem?_append_right (by simpa using Nat.le_of_not_lt hi)] at e1
      have : s = .un := List.eq_of_mem_replicate (List.mem_of_getElem? e1)
      subst this
      cases m1
section
variable {P : Program} {w : World} {K : PySem.W.Frag} {mg : Str → Option Value} {base : Heap}
theorem fn_ok {x qual : Str} {st : Stmt} {f : Addr} {fd : FuncData} {N ps : List Str} {k n : Nat} {body : M Fl} (F : L2.Fun K x qual st f fd) (S : FnScope N ps (defScope st)) (hn : ps.length = n)
    (h : ∀ (cdv : Value) (A : Around) (outer : List Env) (s : Shared) (H : Hp) (E : XK), Room k (A.deeper (envOfC qual (defScope st) s.heap.objs.size f cdv)) →
      DSs (cxOf (L2.CX P w) P w K mg base N qual (defScope st) f cdv A outer s H E) (fun cls d _ H => E cls d H) (defBody st) body) : FnOk P w K mg base (L2.CX P w) (k + 1) f fd ps (SpD K mg n (fnD N.length body)) := by
  refine F.okX S (fun vs H Q E q => by rw [q.1, hn]) fun cdv A outer s H vs Q E hr q => ?_
  obtain ⟨hl, g, h0, ds, hs, hO, rl, p⟩ := q
  refine ⟨_, h cdv A outer s H E hr, g, _, h0, hs, slots0_rep rl, ?_⟩
  show PostS K mg _ _ g H (body (slots0 N.length ds) h0)
  unfold fnD at p
  cases e : body (slots0 N.length ds) h0 with
  | ok fl σ h1 =>
    rw [e] at p
    cases fl with
    | nx => exact fun g' τ' H' a1 a2 a3 => p g' .non H' a1 a3 .non
    | rt d => exact fun g' τ' H' a1 a2 a3 v r => p g' v H' a1 a3 r
    | bk => exact p.elim
    | ct => exact p.elim
  | exc x σ h1 =>
    rw [e] at p
    exact fun g' τ' H' cls dx a1 a2 a3 a4 => p g' H' cls dx a1 a3 a4
  | no => rw [e] at p; exact p
/-- the law: true at every script -/
theorem law_sp {m : FnD} (hm : ∀ ns : List Int, ns.length ≤ 63 → ∃ h', m [.scr (ns.map D.int)] [] = .ret (.bl true) h') {H : Hp} {a : Addr} {ns : List Int} (hl : ns.length ≤ 63) (hq : SqL K H a (ns.map V.int)) (hk : SqL K (fun _ => none) a (ns.map V.int) ∨ (Rd H a (.lst (ns.map V.int)))) :
    SpD K mg 1 m [.ref a] H (fun v _ => v = .bl true) fun _ _ _ => False := by
  let g0 : G := { ρ := [], O := fun _ => False, B := fun _ => False }
  have nw : ∀ b, ¬ g0.W b := fun b z => by
    rcases z with z | z | z
    · cases z
    · exact z
    · exact z
  obtain ⟨h', e⟩ := hm ns hl
  have rl : ∀ ns : List Int, RepL K H g0 (ns.map D.int) (ns.map V.int) := fun ns => by
    induction ns with
    | nil => exact .nil
    | cons i ns ih => exact .cons (.int i) ih
  refine ⟨rfl, g0, [], [.scr (ns.map D.int)], ⟨rfl, List.nodup_nil, fun i c b e1 => by simp at e1, fun b q => (by cases q), fun b q => (by cases q), fun b q => q.elim, fun b q => (nw b q).elim, fun b xs _ => nw b⟩, fun _ z => z, .cons (.scr ?_ (rl ns)) .nil, ?_⟩
  · rcases hk with hk | hk
    · exact .inr hk
    · exact .inl ⟨hk, nw a⟩
  · rw [e]
    intro g' v H' _ _ r
    cases r
    rfl
theorem sql_cases {H : Hp} {a : Addr} {vs : List V} (h : SqL K H a vs) : SqL K (fun _ => none) a vs ∨ Rd H a (.lst vs) := by
  rcases h with h | h
  · exact .inr h
  · exact .inl (.inr h)
end
/-- the law's walk -/
theorem walk {l : PySem.W.OpenLaw} {q : Program} {loose : List Str} {XP : (Str → Option Value) → Heap → Prop} {YP : World → Heap → Prop} {d : DefRec} {K : Params → PySem.W.Frag} {k : Nat} {m : FnD} (hn : l.most = some 63) (hdf : d.params.defaults = []) (hr : Room k callerA)
    (hm : ∀ ns : List Int, ns.length ≤ 63 → ∃ h', m [.scr (ns.map D.int)] [] = .ret (.bl true) h')
    (hY : ∀ (w : World) (h : Heap), YP w h → (K w.params).In h)
    (F : ∀ (w : World) (mg : Str → Option Value) (fa : Addr) (h : Heap), (K w.params).In h → h.Ns mainGlobals mg → mg d.name = some (.ref fa) →
      ∃ fd : FuncData, (∀ (s : Shared) (u : Value), BindsTo s fd ⟨[u], []⟩ [("script", u)]) ∧ ∀ base : Heap, (K w.params).In base → base.Ns mainGlobals mg → FnOk l.prog w (K w.params) mg base (L2.CX l.prog w) k fa fd ["script"] (SpD (K w.params) mg 1 m)) :
    PySem.W.WalkO q loose XP YP l.row.toRowW d [] (fun f vs => PySem.call f vs) := by
  refine Att.attach_call hn hdf fun w s₀ s₁ mg mb fa o pm cd doc a vs ns G Y ho hd hcd hmg hobj hints hlen hg => ?_
  have KX := hY w _ Y
  obtain ⟨fd, hb, hF⟩ := F w mg fa _ KX G.T.g hmg
  exact law_call KX G.T.g G.T.b G.T.builtins G.T.nolimit hg hobj hints (Nat.le_trans hlen (by decide)) hr hF hb (fun H hO hS => law_sp hm hlen hS (sql_cases hS)) fun H e s' z => by
    obtain ⟨_, _, _, _, _, _, _, _, _, _, _, _, z⟩ := z
    exact z
end Bw
namespace Bw
open PySem PySem.Spec PyProof.Rows L2

/-! ### what the top has written -/
structure FG (K : PySem.W.Frag) (mg : Str → Option Value) (x : Str) (st : Stmt) (ps : List Str) : Prop where
  ex : ∃ fa fd, mg x = some (.ref fa) ∧ L2.Fun K x x st fa fd ∧ PySem.W.keepIn K (.ref fa) = true ∧ Binds K fd ps []
structure CG (K : PySem.W.Frag) (mg : Str → Option Value) (c : Str) : Prop where
  ex : ∃ C, mg c = some (.ref C) ∧ Cls K C
structure MG (K : PySem.W.Frag) (mg : Str → Option Value) (c name qual : Str) (st : Stmt) (ps : List Str) : Prop where
  ex : ∃ C fa fd, mg c = some (.ref C) ∧ Cls K C ∧ Meth K C name fa ∧ L2.Fun K name qual st fa fd ∧ Binds K fd ps []
structure KG (K : PySem.W.Frag) (mg : Str → Option Value) (c qual : Str) (st : Stmt) (ps : List Str) : Prop where
  ex : ∃ C fa fd, mg c = some (.ref C) ∧ Mk K C fa ∧ L2.Fun K "__init__" qual st fa fd ∧ Binds K fd ps []
structure AG (K : PySem.W.Frag) (mg : Str → Option Value) (c f : Str) : Prop where
  ex : ∃ C, mg c = some (.ref C) ∧ Cls K C ∧ NoAttr K C f
section
variable (P : Program) (W : World) (K : PySem.W.Frag) (mg : Str → Option Value) (base : Heap)
structure FOk' (k : Nat) (x : Str) (n : Nat) (m : FnD) : Prop where
  ex : ∃ fa fd ps, mg x = some (.ref fa) ∧ PySem.W.keepIn K (.ref fa) = true ∧ Binds K fd ps [] ∧ FnOk P W K mg base (L2.CX P W) k fa fd ps (SpD K mg n m)
structure MOk' (k : Nat) (c name : Str) (n : Nat) (m : FnD) : Prop where
  ex : ∃ C fa fd ps, mg c = some (.ref C) ∧ Cls K C ∧ Meth K C name fa ∧ FnOk P W K mg base (L2.CX P W) k fa fd ps (SpD K mg n m) ∧ Binds K fd ps []
structure KOk' (k : Nat) (c : Str) (n : Nat) (m : FnD) : Prop where
  ex : ∃ C fa fd ps, mg c = some (.ref C) ∧ Mk K C fa ∧ FnOk P W K mg base (L2.CX P W) k fa fd ps (SpD K mg n m) ∧ Binds K fd ps []
end
section
variable {P : Program} {W : World} {K : PySem.W.Frag} {mg : Str → Option Value} {base : Heap} {x qual c name : Str} {st : Stmt} {N ps : List Str} {k n : Nat} {body : M Fl}
/-- a body's rules -/
abbrev BodyOk (P : Program) (W : World) (K : PySem.W.Frag) (mg : Str → Option Value) (base : Heap) (N : List Str) (qual : Str) (st : Stmt) (k : Nat) (body : M Fl) : Prop :=
  ∀ (f : Addr) (cdv : Value) (A : Around) (outer : List Env) (s : Shared) (H : Hp) (E : XK), Room k (A.deeper (envOfC qual (defScope st) s.heap.objs.size f cdv)) →
      DSs (cxOf (L2.CX P W) P W K mg base N qual (defScope st) f cdv A outer s H E) (fun cls d _ H => E cls d H) (defBody st) body
theorem ok_fn (G : FG K mg x st ps) (S : FnScope N ps (defScope st)) (hn : ps.length = n) (h : BodyOk P W K mg base N x st k body) : FOk' P W K mg base (k + 1) x n (fnD N.length body) := by
  obtain ⟨fa, fd, e, F, kp, b⟩ := G.ex
  exact ⟨fa, fd, ps, e, kp, b, fn_ok F S hn (h fa)⟩
theorem ok_mt (G : MG K mg c name qual st ps) (S : FnScope N ps (defScope st)) (hn : ps.length = n) (h : BodyOk P W K mg base N qual st k body) : MOk' P W K mg base (k + 1) c name n (fnD N.length body) := by
  obtain ⟨C, fa, fd, e, cl, me, F, b⟩ := G.ex
  exact ⟨C, fa, fd, ps, e, cl, me, fn_ok F S hn (h fa), b⟩
theorem ok_mk (G : KG K mg c qual st ps) (S : FnScope N ps (defScope st)) (hn : ps.length = n) (h : BodyOk P W K mg base N qual st k body) : KOk' P W K mg base (k + 1) c n (fnD N.length body) := by
  obtain ⟨C, fa, fd, e, mk, F, b⟩ := G.ex
  exact ⟨C, fa, fd, ps, e, mk, fn_ok F S hn (h fa), b⟩
theorem fok_nil {f : Str} : FOk K mg [] f := fun _ h => nomatch h
theorem fok_cons {cs : List Str} {f c : Str} (a : AG K mg c f) (b : FOk K mg cs f) : FOk K mg (c :: cs) f := fun d h => by
  rcases List.mem_cons.mp h with rfl | h
  · exact a.ex
  · exact b d h
end
section
variable {X : Cx} {w : WX} {e o : Expr} {es : List Expr} {ma : M (List D)} {mo : M D} {k n : Nat} {m : FnD} {x c : Str} {p pos apos : Pos}
theorem de_callG (F : FOk' X.prog X.w X.K X.mg X.base k x n m) (hr : Room k X.A) (hg : Gl X x) (tk : Takes X w) (ha : DA X w (e :: es) ma)
    (hdb : (x == ("__debug__" : Str)) = false := by decide) (he : starEach (e :: es) X.env = (false, eval e X.env) :: starEach es X.env := by rfl) (hpl : (backTo pos (starEach es X.env)).any (·.1) = false := by rfl) : DE X w (.Call (.Name x p) (e :: es) [] pos) (calM n m ma) := by
  obtain ⟨fa, fd, ps, e1, kp, b, F⟩ := F.ex
  exact de_call F hr hg e1 kp b tk ha hdb he hpl
theorem alt_nil {name : Str} {n : Nat} : ∀ c m, pick [] c = some m → MOk X name c n m := fun _ _ h => nomatch h
theorem alt_cons {name : Str} {n : Nat} {d : Str} {md : FnD} {alts : List (Str × FnD)} (F : MOk' X.prog X.w X.K X.mg X.base k d name n md) (hr : Room k X.A) (b : ∀ c m, pick alts c = some m → MOk X name c n m) :
    ∀ c m, pick ((d, md) :: alts) c = some m → MOk X name c n m := fun c m h => by
  unfold pick at h
  rw [List.lookup_cons] at h
  by_cases hc : (c == d) = true
  · rw [hc] at h
    cases h
    rw [beq_iff_eq] at hc
    subst hc
    obtain ⟨C, fa, fd, ps, e1, cl, me, F, b⟩ := F.ex
    exact ⟨C, fa, fd, ps, k, e1, cl, me, F, hr, b⟩
  · rw [show (c == d) = false by simpa using hc] at h
    exact b c m h
theorem de_makeG (F : KOk' X.prog X.w X.K X.mg X.base k c n m) (hr : Room (k + 1) X.A) (hg : Gl X c) (tk : Takes X w) (ha : DA X w (e :: es) ma)
    (hdb : (c == ("__debug__" : Str)) = false := by decide) (he : starEach (e :: es) X.env = (false, eval e X.env) :: starEach es X.env := by rfl) (hpl : (backTo pos (starEach es X.env)).any (·.1) = false := by rfl) :
    DE X w (.Call (.Name c p) (e :: es) [] pos) (makM c n m ma) := by
  obtain ⟨C, fa, fd, ps, e1, mk, F, b⟩ := F.ex
  exact de_make mk F hr hg e1 b tk ha hdb he hpl
theorem de_makeG0 (F : KOk' X.prog X.w X.K X.mg X.base k c 1 m) (hr : Room (k + 1) X.A) (hg : Gl X c) (tk : Takes X w)
    (hdb : (c == ("__debug__" : Str)) = false := by decide) : DE X w (.Call (.Name c p) [] [] pos) (makM c 1 m (ret [])) := by
  obtain ⟨C, fa, fd, ps, e1, mk, F, b⟩ := F.ex
  exact de_make0 mk F hr hg e1 b tk hdb
theorem room65 {k : Nat} {A : Around} (r : Room k A) : A.units + 65 < cLine := by have := r.un; omega
theorem room1 {k : Nat} {A : Around} (r : Room k A) : A.units + 1 < cLine := by have := r.un; omega
end
end Bw
namespace Bw
open PySem L2
section
variable {X : Cx} {w : WX} {a b c : Expr} {pos pos' : Pos} {m ma mb mc : M D} {j : Nat}
theorem de_chain {op op' : CmpOp} {f f' : Hd → D → D → Option Bool} (ho : OpR X (compareOp op) (rDb X.K X.mg f)) (ho' : OpR X (compareOp op') (rDb X.K X.mg f')) (ha : DE X w a ma) (hb : DE X w b mb) (hc : DE X w c mc)
    (h1 : lastMarks [op, op'] [b, c] = false := by with_unfolding_all rfl) : DE X w (.Compare a [op, op'] [b, c] pos) (blM (chn f f' ma mb mc)) :=
  PE.imp' (pe_chain ho ho' ha hb hc h1) fun τ H Q h => by
    obtain ⟨g, σ, h0, hs, ss, p⟩ := h
    have p' : Post X.K X.mg (Rep X.K) w Q g H τ (bnd ma (fun x => bnd mb fun y => fun σ h => match f h x y with
        | some true => bnd mc (fun z σ h => opt ((f' h y z).map D.bl) σ h) σ h
        | some false => .ok (.bl false) σ h
        | none => .no) σ h0) := by
      have e : blM (chn f f' ma mb mc) σ h0 = bnd ma (fun x => bnd mb fun y => fun σ h => match f h x y with
          | some true => bnd mc (fun z σ h => opt ((f' h y z).map D.bl) σ h) σ h
          | some false => .ok (.bl false) σ h
          | none => .no) σ h0 := by
        unfold blM chn bnd
        cases ma σ h0 with
        | ok x σ1 h1 =>
          dsimp only
          cases mb σ1 h1 with
          | ok y σ2 h2 =>
            dsimp only
            cases f h2 x y with
            | none => rfl
            | some k => cases k with
              | false => rfl
              | true =>
                dsimp only
                cases mc σ2 h2 with
                | ok z σ3 h3 =>
                  dsimp only
                  cases f' h3 y z <;> rfl
                | exc _ _ _ => rfl
                | no => rfl
          | exc _ _ _ => rfl
          | no => rfl
        | exc _ _ _ => rfl
        | no => rfl
      rw [← e]; exact p
    refine tM.bnd hs ss p' fun x σ1 h1 g1 vx H1 hs1 ss1 f1 rx p1 => ?_
    refine tM.bnd hs1 ss1 p1 fun y σ2 h2 g2 vy H2 hs2 ss2 f2 ry p2 => ?_
    cases e : f h2 x y with
    | none => rw [e] at p2; exact p2.elim
    | some k =>
      rw [e] at p2
      refine ⟨g2, h2, x, y, k, hs2, rx.stays f2.stays, ry, e, fun H' n => ⟨k, rfl, ?_⟩⟩
      cases k with
      | false => rw [if_neg Bool.false_ne_true]; exact p2 g2 _ H' (hs2.new n) (ss2.new n) n.fr (.bl _)
      | true =>
        rw [if_pos rfl]
        refine tM.bnd (hs2.new n) (ss2.new n) (p2.shift n.fr) fun z σ3 h3 g3 vz H3 hs3 ss3 f3 rz p3 => ?_
        cases e' : f' h3 y z with
        | none => rw [e'] at p3; exact p3.elim
        | some k' =>
          rw [e'] at p3
          exact ⟨g3, h3, y, z, k', hs3, (ry.stays n.stays).stays f3.stays, rz, e', fun H' n' => p3 g3 _ H' (hs3.new n') (ss3.new n') n'.fr (.bl _)⟩
theorem de_notN (h : DE X w a m) : DE X w (.Compare a [.IsNot] [.Constant .none j pos'] pos) (blM (notB (isN m))) :=
  PE.imp' (pe_cmp (pc_notN h)) fun τ H Q h => by
    obtain ⟨g, σ, h0, hs, ss, p⟩ := h
    have p' : Post X.K X.mg (Rep X.K) w Q g H τ (bnd m (fun d => ret (.bl (!(match d with | .non => true | _ => false)))) σ h0) := by
      have e : blM (notB (isN m)) σ h0 = bnd m (fun d => ret (.bl (!(match d with | .non => true | _ => false)))) σ h0 := by
        unfold blM notB isN bnd
        cases m σ h0 <;> rfl
      rw [← e]; exact p
    refine tM.bnd hs ss p' fun x σ1 h1 g1 vx H1 hs1 ss1 f1 rx p1 => ?_
    refine p1 g1 _ H1 hs1 ss1 (Fr.refl _ _) ?_
    cases rx <;> exact .bl _

/-! ### {k: v, ..} -/
def prsM : List (M D × M D) → M (List (D × D))
  | [] => ret []
  | (mk, mv) :: r => bnd mk fun k => bnd mv fun v => bnd (prsM r) fun ps => ret ((k, v) :: ps)
def mergeD : List (D × D) → List (D × D) → Option (List (D × D))
  | acc, [] => some acc
  | acc, (k, v) :: r => (dput false acc k v).bind fun acc' => mergeD acc' r
def dspM (rs : List (M D × M D)) : M D := fun σ h => match prsM rs σ h with
  | .ok ps σ' h' => if ps.length ≤ 15 then (match mergeD [] ps with
    | some es => .ok (.dic false es) σ' h'
    | none => .no) else .no
  | _ => .no
inductive RepP (K : PySem.W.Frag) (H : Hp) (g : G) : List (D × D) → List (V × V) → Prop
  | nil : RepP K H g [] []
  | cons {k v : D} {x y : V} {ps : List (D × D)} {vs : List (V × V)} : Rep K H g k x → Rep K H g v y → RepP K H g ps vs → RepP K H g ((k, v) :: ps) ((x, y) :: vs)
def trsOf (K : PySem.W.Frag) (mg : Str → Option Value) (rs : List (M D × M D)) : List (TE × TE) := rs.map fun r => (tE K mg wN r.1, tE K mg wN r.2)
theorem prs_run {K : PySem.W.Frag} {mg : Str → Option Value} : ∀ (rs : List (M D × M D)) {g : G} {σ : List Sl} {τ : L2.St} {h : Hd} {H : Hp} {Q : List (V × V) → Hp → Prop} {ps : List (D × D)} {σ' : List Sl} {h' : Hd}, Heaps K mg g h H → Slots K g σ τ H → prsM rs σ h = .ok ps σ' h' →
    (∀ g' H' vs, Heaps K mg g' h' H' → Slots K g' σ' τ H' → Fr g H g' H' → RepP K H' g' ps vs → Q vs H') → tPairs (trsOf K mg rs) τ H Q
  | [], g, σ, τ, h, H, Q, ps, σ', h', hs, ss, e, k => by
    cases e
    exact k g H [] hs ss (Fr.refl _ _) .nil
  | (mk, mv) :: rs, g, σ, τ, h, H, Q, ps, σ', h', hs, ss, e, k => by
    unfold prsM bnd at e
    cases e1 : mk σ h with
    | no => rw [e1] at e; cases e
    | exc _ _ _ => rw [e1] at e; cases e
    | ok kd σ1 h1 =>
      rw [e1] at e
      dsimp only at e
      show tE K mg wN mk τ H _
      refine tM.first (m := mk) hs ss (fun _ _ _ e2 => by rw [e1] at e2; cases e2) (by rw [e1]; exact fun z => nomatch z) fun a σ1' h1' e2 g1 x H1 hs1 ss1 f1 rx => ?_
      rw [e1] at e2; cases e2
      cases e3 : mv σ1 h1 with
      | no => rw [e3] at e; cases e
      | exc _ _ _ => rw [e3] at e; cases e
      | ok vd σ2 h2 =>
        rw [e3] at e
        dsimp only at e
        refine tM.first (m := mv) hs1 ss1 (fun _ _ _ e2 => by rw [e3] at e2; cases e2) (by rw [e3]; exact fun z => nomatch z) fun a σ1' h1' e2 g2 y H2 hs2 ss2 f2 ry => ?_
        rw [e3] at e2; cases e2
        cases e4 : prsM rs σ2 h2 with
        | no => rw [e4] at e; cases e
        | exc _ _ _ => rw [e4] at e; cases e
        | ok qs σ3 h3 =>
          rw [e4] at e
          cases e
          exact prs_run rs hs2 ss2 e4 fun g3 H3 vs hs3 ss3 f3 rp => k g3 H3 _ hs3 ss3 ((f1.trans f2).trans f3) (.cons ((rx.stays f2.stays).stays f3.stays) (ry.stays f3.stays) rp)
theorem merge_rep {K : PySem.W.Frag} {H : Hp} {g : G} : ∀ {ps : List (D × D)} {vs : List (V × V)} {acc es : List (D × D)} {kvs : List (Key × V)}, RepP K H g ps vs → RepK K H g acc kvs → mergeD acc ps = some es →
    ∃ more : List (Key × V), vs = more.map (fun kv => (kV kv.1, kv.2)) ∧ more.length = ps.length ∧ RepK K H g es (mergeK kvs more)
  | _, _, _, _, _, .nil, ra, e => by cases e; exact ⟨[], rfl, rfl, ra⟩
  | _, _, acc, es, kvs, .cons (k := k) (v := v) (x := x) (y := y) rk rv rp, ra, e => by
    obtain ⟨acc', e1, e2⟩ := Option.bind_eq_some_iff.mp (show (dput false acc k v).bind _ = some es from e)
    obtain ⟨key, e3, rfl⟩ := Option.map_eq_some_iff.mp (show (toKey k).map (fun q => putE (fun z => decide (toKey z = some q)) acc k v) = some acc' from e1)
    have ed := toKey_some e3
    subst ed
    have ex : x = kV key := by
      cases key with
      | inl n => exact rep_int rk
      | inr z => exact rep_str rk
    subst ex
    obtain ⟨more, h1, h2, h3⟩ := merge_rep rp (ra.put rv) e2
    subst h1
    exact ⟨(key, y) :: more, rfl, by rw [List.length_cons, List.length_cons, h2], h3⟩
theorem repP_stays {K : PySem.W.Frag} {H H' : Hp} {g g' : G} (st : Stays g H g' H') : ∀ {ps : List (D × D)} {vs : List (V × V)}, RepP K H g ps vs → RepP K H' g' ps vs
  | _, _, .nil => .nil
  | _, _, .cons a b r => .cons (a.stays st) (b.stays st) (repP_stays st r)
abbrev DP (X : Cx) (pos : Pos) (ks : List (Option Expr)) (vs : List Expr) (rs : List (M D × M D)) : Prop := PPs X pos ks vs (trsOf X.K X.mg rs)
theorem dp_nil : DP X pos [] [] [] := pps_nil
theorem dp_cons {ks : List (Option Expr)} {vs : List Expr} {k v : Expr} {mk mv : M D} {rs : List (M D × M D)} (hk : DE X wN k mk) (hv : DE X wN v mv) (hr : DP X pos ks vs rs) : DP X pos (some k :: ks) (v :: vs) ((mk, mv) :: rs) := pps_cons hk hv hr
theorem df_disp {ks : List (Option Expr)} {vs : List Expr} {rs : List (M D × M D)} (h : DP X pos ks vs rs) (hall : ks.all (·.isSome) = true := by rfl) (hl : ks.length = vs.length := by rfl) (h0 : ks ≠ [] := by exact List.cons_ne_nil _ _) (h15 : ks.length ≤ 15 := by decide) :
    DF X w (.Dict ks vs pos) (dspM rs) := PE.imp' (pe_disp h hall hl h0 h15) fun τ H Q hq p hp => by
  obtain ⟨g, σ, h0, hs, ss, pp⟩ := hq
  unfold dspM at pp
  cases e : prsM rs σ h0 with
  | no => rw [e] at pp; exact pp.elim
  | exc _ _ _ => rw [e] at pp; exact pp.elim
  | ok ps σ1 h1 =>
    rw [e] at pp
    dsimp only at pp
    by_cases hl : ps.length ≤ 15
    · rw [if_pos hl] at pp
      cases em : mergeD [] ps with
      | none => rw [em] at pp; exact pp.elim
      | some es =>
        rw [em] at pp
        refine prs_run rs (hs.hold hp trivial) (ss.hold hp) e fun g' H' vs hs1 ss1 f rp => ?_
        obtain ⟨more, h1, h2, h3⟩ := merge_rep (repP_stays (.back f trivial) rp) .nil em
        subst h1
        refine ⟨held_at f, more, rfl, by rw [h2]; exact hl, ?_⟩
        have key := pp (g'.back g) (rem H' p) p _ (hs.back hs1 f hp trivial) (Slots.back hs1 ss1 f trivial) (f.back hp) rem_same (.dicK h3)
        rw [← upd_rem (held_at f), upd_upd]
        exact key
    · rw [if_neg hl] at pp; exact pp.elim
end
end Bw
namespace Bw
open PySem PySem.Spec PyProof.Rows L2
section
variable {X : Cx} {w : WX} {o a b : Expr} {mo ma : M D} {apos cpos pos : Pos}

/-! ### c.index(x) -/
def rIdxT (K : PySem.W.Frag) : V → List V → Hp → VK → Prop := fun x xs H Q => ∃ (a : Addr) (ys : List V) (y : V) (j : Nat) (z : V), x = V.ref a ∧ xs = [y] ∧ SqT K H a ys ∧ flatV y = true ∧ ys.all flatV = true ∧ ys[j]? = some z ∧ eqV z y = true ∧
  (∀ (m : Nat) (z' : V), m < j → ys[m]? = some z' → eqV z' y = false) ∧ Q (.int (j : Nat)) H
theorem mt_idxT : MtR X "tuple.index" (rIdxT X.K) := by
  intro pins s τ H x xs v us Q I rx rxs ⟨p, ys, y, j, z, e1, e2, hs, fy, fys, hz, hzj, hno, q⟩
  subst e1 e2
  cases rx
  obtain ⟨uy, rfl, ry⟩ := vals1 rxs
  obtain ⟨its, rv, pl, hlen⟩ := I.tuple hs
  obtain ⟨⟨cls, dd, dt, sl⟩, ho, hc, n, hd⟩ := pl
  simp only at hc hd
  subst hc hd
  obtain ⟨u, hu, ru⟩ := rv.get hz
  obtain ⟨hjl, hje⟩ := List.getElem?_eq_some_iff.mp hu
  have hvl := rv.length
  have hj : j < its.toArray.size := by simpa using hjl
  refine call_meets PySem.F.slot_tuple_index ⟨_, ho, rfl⟩ PySem.F.entry_tuple_index (PySem.F.args_tuple_index_2 _ _) (TI.tuple_indexAt p its.toArray n dd sl uy (eqU y) j hj ?_ ?_)
    ⟨ho, fun u' hu' => mem_eqAt ry fy rv fys u' (by simpa using hu'), ⟨.int (j : Nat), H, I.tok _, ⟨_, rfl⟩, q⟩⟩
  · have e3 : its.toArray[j] = u := by simpa using hje
    rw [e3, eqU_of ru (flat_at fys hz)]
    exact hzj
  · intro m hm hmj
    have hml : m < its.length := by simpa using hm
    have hmy : m < ys.length := by omega
    have hy' : ys[m]? = some ys[m] := List.getElem?_eq_getElem hmy
    obtain ⟨u2, hu2, ru2⟩ := rv.get hy'
    obtain ⟨_, hme⟩ := List.getElem?_eq_some_iff.mp hu2
    have e3 : its.toArray[m] = u2 := by simpa using hme
    rw [e3, eqU_of ru2 (flat_at fys hy')]
    exact hno m _ hmj hy'
def plainSeq : D → Option (List D)
  | .lst ds => some ds
  | .kt ds => some ds
  | _ => none
def idxD (c y : D) : Option D := (plainSeq c).bind fun ds => if (flatD y && ds.all flatD) = true then (ds.findIdx? fun d => eqF d y).map fun j => .int (j : Nat) else none
theorem idx_rep {K : PySem.W.Frag} {H : Hp} {g : G} {y : D} {v : V} (r : Rep K H g y v) (f : flatD y = true) : ∀ {ds : List D} {vs : List V} {j : Nat}, RepL K H g ds vs → ds.all flatD = true → ds.findIdx? (fun d => eqF d y) = some j →
    ∃ z, vs[j]? = some z ∧ eqV z v = true ∧ ∀ (m : Nat) (z' : V), m < j → vs[m]? = some z' → eqV z' v = false
  | _, _, j, .nil, _, e => by cases e
  | _, _, j, .cons (d := d) (v := dv) q t, f2, e => by
    rw [List.all_cons, Bool.and_eq_true] at f2
    rw [List.findIdx?_cons] at e
    have eq := eqF_rep q r f2.1 f
    by_cases h : eqF d y = true
    · rw [h, if_pos rfl] at e
      cases e
      exact ⟨dv, rfl, by rw [eq, h], fun m z' hm => absurd hm (Nat.not_lt_zero _)⟩
    · have h' : eqF d y = false := by simpa using h
      rw [h', if_neg Bool.false_ne_true] at e
      obtain ⟨i, e1, rfl⟩ := Option.map_eq_some_iff.mp e
      obtain ⟨z, h1, h2, h3⟩ := idx_rep r f t f2.2 e1
      refine ⟨z, by simpa using h1, h2, fun m z' hm hz => ?_⟩
      cases m with
      | zero => simp at hz; subst hz; rw [eq, h']
      | succ m => exact h3 m z' (by omega) (by simpa using hz)
def isPlain : D → Bool
  | .lst _ => true
  | .kt _ => true
  | _ => false
theorem plain_at {pins : List (Addr × PySem.Obj)} {τ : L2.St} {H : Hp} {s : Shared} {g : G} {d : D} {x : V} {v : Value} (I : L2.Inv X pins τ H s) (r : RepB X.K H g d x) (rx : RelV x v) (e : isPlain d = true) :
    (∃ ds, d = .lst ds ∧ s.TypeIs v "list" ∧ (∀ a, v = .ref a → ∃ ob, s.heap.get? a = some ob ∧ ob.dict = none)) ∨ ∃ ds, d = .kt ds ∧ s.TypeIs v "tuple" ∧ ∀ a, v = .ref a → ∃ ob, s.heap.get? a = some ob ∧ ob.dict = none := by
  cases d with
  | lst ds =>
    refine .inl ⟨ds, rfl, ?_⟩
    obtain ⟨p, vs, rfl, hq, rl⟩ := lst_of (d := .lst ds) rfl r
    cases rx
    obtain ⟨its, rv, ⟨⟨cls, dd, data, sl⟩, n, ho, hc, hdn, hd⟩, hlen⟩ := I.list hq
    simp only at hc hd hdn
    subst hc hdn
    exact ⟨⟨_, ho, rfl⟩, fun a ea => by cases ea; exact ⟨_, ho, rfl⟩⟩
  | kt ds =>
    refine .inr ⟨ds, rfl, ?_⟩
    cases r with
    | val r =>
      cases r with
      | kt hk rl =>
        cases rx
        rcases hk with ⟨ob, hk, hc, hd⟩ | ⟨⟨ob, hk, hc, hd⟩, _⟩
        · obtain ⟨ho, _⟩ := I.hok _ _ hk
          exact ⟨⟨ob, ho, hc⟩, fun a ea => by cases ea; exact ⟨ob, ho, hd⟩⟩
        · exact ⟨⟨ob, I.kIn _ _ hk, hc⟩, fun a ea => by cases ea; exact ⟨ob, I.kIn _ _ hk, hd⟩⟩
    | own _ _ c => cases c
  | _ => cases e
theorem idx_run {pins : List (Addr × PySem.Obj)} {τ : L2.St} {H : Hp} {s : Shared} {g : G} {d y r : D} {x z : V} {v u : Value} {Q : VK} (I : L2.Inv X pins τ H s) (rd : RepB X.K H g d x) (ry : Rep X.K H g y z) (rx : RelV x v) (ru : RelV z u) (e : idxD d y = some r)
    (hk : ∀ v, Rep X.K H g r v → Q v H) : (∀ ds, d = .lst ds → wpAny (model X.prog X.w) X.A (call (.builtin "list.index") [v, u]) (EP X pins τ Q) X.xe s) ∧ ∀ ds, d = .kt ds → wpAny (model X.prog X.w) X.A (call (.builtin "tuple.index") [v, u]) (EP X pins τ Q) X.xe s := by
  obtain ⟨ds, e1, e2⟩ := Option.bind_eq_some_iff.mp e
  split at e2
  · rename_i hf
    rw [Bool.and_eq_true] at hf
    obtain ⟨j, e3, rfl⟩ := Option.map_eq_some_iff.mp e2
    constructor
    · rintro ds' rfl
      cases e1
      obtain ⟨p, vs, rfl, hq, rl⟩ := lst_of (d := .lst ds) rfl rd
      obtain ⟨q, h1, h2, h3⟩ := idx_rep ry hf.1 rl hf.2 e3
      exact mt_index pins s τ H _ [z] _ [u] Q I rx (.cons ru .nil) ⟨p, vs, z, j, q, rfl, rfl, hq, flat_rep ry hf.1, flats_rep rl hf.2, h1, h2, h3, hk _ (.int _)⟩
    · rintro ds' rfl
      cases e1
      cases rd with
      | val rd =>
        cases rd with
        | kt hq rl =>
          obtain ⟨q, h1, h2, h3⟩ := idx_rep ry hf.1 rl hf.2 e3
          exact mt_idxT pins s τ H _ [z] _ [u] Q I rx (.cons ru .nil) ⟨_, _, z, j, q, rfl, rfl, hq.sq, flat_rep ry hf.1, flats_rep rl hf.2, h1, h2, h3, hk _ (.int _)⟩
      | own _ _ c => cases c
  · cases e2
/-- o is a name or not: what it holds is looked up behind the argument too -/
def idxM (m : M D) (ma : M D) : M D := bnd m fun d => fun σ h => if isPlain d = true then bnd ma (fun y σ h => opt (idxD d y) σ h) σ h else .no
theorem de_idx (ho : DE X w o mo) (ha : DE X w a ma) (hbase : attributeBase o "index" X.env (eval o X.env) = eval o X.env := by rfl)
    (hfew : ((backTo cpos (starEach [a] X.env)).all (fun x => !x.1) && (backToKw cpos (keywordEach [] X.env)).all (fun x => x.1.isSome)
      && decide (([a] : List Expr).length + ([] : List Keyword).length + (if ([] : List Keyword).isEmpty then 0 else 1) < 30)) = true := by rfl)
    (hline : (apos.endLine == cpos.line) = true := by rfl) (hst : starEach [a] X.env = (false, eval a X.env) :: starEach [] X.env := by rfl) : DE X w (.Call (.Attribute o "index" apos) [a] [] cpos) (idxM mo ma) := by
  refine ⟨fun pins s τ H Q I hq => ?_⟩
  obtain ⟨g, σ, h0, hs, ss, pp⟩ := hq
  refine wpAny_Call_method_late hbase hfew hline rfl (thn (ho.run pins s τ H _ I (tM.bnd hs ss pp fun d σ1 h1 g1 vx H1 hs1 ss1 f1 rx p1 =>
    (show (∃ (d : D) (g1 : G), Rep X.K H1 g1 d vx ∧ isPlain d = true ∧ tE X.K X.mg w ma τ H1 fun z H2 => ∃ g2 y r, RepB X.K H2 g2 d vx ∧ Rep X.K H2 g2 y z ∧ idxD d y = some r ∧ ∀ v, Rep X.K H2 g2 r v → Q v H2) from ?_))) fun v s1 ⟨vx, H1, I1, r1, d, g1, rd, hpl, q1⟩ => ?_)
  · by_cases hp : isPlain d = true
    · rw [if_pos hp] at p1
      refine ⟨d, g1, rx, hp, ?_⟩
      refine tM.bnd hs1 ss1 p1 fun y σ2 h2 g2 vy H2 hs2 ss2 f2 ry p2 => ?_
      cases e : idxD d y with
      | none => rw [e] at p2; exact p2.elim
      | some r =>
        rw [e] at p2
        exact ⟨g2, y, r, .val (rx.stays f2.stays), ry, e, fun v rv => p2 g2 v H2 hs2 ss2 (Fr.refl _ _) rv⟩
    · rw [if_neg hp] at p1; exact p1.elim
  · have args : ∀ {id : String}, (∀ (s2 : Shared) (u : Value) (z : V) (H2 : Hp), L2.Inv X pins τ H2 s2 → RelV z u → (∃ g2 y r, RepB X.K H2 g2 d vx ∧ Rep X.K H2 g2 y z ∧ idxD d y = some r ∧ ∀ v, Rep X.K H2 g2 r v → Q v H2) → wpAny (model X.prog X.w) X.A (call (.builtin id) [v, u]) (EP X pins τ Q) X.xe s2) →
        wpAny (model X.prog X.w) X.A (callWith cpos (.builtin id) [v] (backTo cpos (starEach [a] X.env)) []) (EP X pins τ Q) X.xe s1 := fun {id} hh => by
      rw [hst]
      exact Calls.callWith_builtin rfl (Calls.evalArgs_plain (Calls.spliced_cons (thn (ha.run pins s1 τ H1 _ I1 q1) fun u s2 ⟨z, H2, I2, rz, q2⟩ => Calls.spliced_nil (hh s2 u z H2 I2 rz q2))))
    rcases plain_at I1 (.val rd) r1 hpl with ⟨ds, ed, h1, h2⟩ | ⟨ds, ed, h1, h2⟩
    · exact ⟨"list", _, PySem.F.plainAttrs_list, PySem.F.slot_list_index, PySem.F.type_list_index, h1, h2, args fun s2 u z H2 I2 rz ⟨g2, y, r, rb, ry, e, kk⟩ => (idx_run I2 rb ry r1 rz e kk).1 ds ed⟩
    · exact ⟨"tuple", _, PySem.F.plainAttrs_tuple, PySem.F.slot_tuple_index, PySem.F.type_tuple_index, h1, h2, args fun s2 u z H2 I2 rz ⟨g2, y, r, rb, ry, e, kk⟩ => (idx_run I2 rb ry r1 rz e kk).2 ds ed⟩
/-! ### wrappers for what the top has written -/
theorem gint {x : Str} {i : Int} (hg : Gl X x) (hm : ∃ t, X.mg x = some (.int i t)) (hd : (x == ("__debug__" : Str)) = false := by decide) : DE X w (.Name x pos) (ret (.int i)) := by
  obtain ⟨t, hm⟩ := hm; exact de_gint hg hm hd
theorem gstr {x : Str} {z : Str} (hg : Gl X x) (hm : ∃ t, X.mg x = some (.str z t)) (hd : (x == ("__debug__" : Str)) = false := by decide) : DE X w (.Name x pos) (ret (.str z)) := by
  obtain ⟨t, hm⟩ := hm; exact de_gstr hg hm hd
theorem gtupl {x : Str} {zs : List Str} (hg : Gl X x) (hm : ∃ a, X.mg x = some (.ref a) ∧ (∃ o, X.K.lookup a = some o ∧ o.cls = .type "tuple" ∧ o.dict = none) ∧ SqT X.K (fun _ => none) a (zs.map V.str)) (hd : (x == ("__debug__" : Str)) = false := by decide) :
    DE X w (.Name x pos) (ret (.kt (zs.map D.str))) := by
  obtain ⟨t, hm, hk, hq⟩ := hm
  refine de_gtup hg hm hk hq (fun H g => ?_) hd
  clear hq
  induction zs with
  | nil => exact .nil
  | cons z zs ih => exact .cons (.str z) ih
theorem swaps {elt : Expr} {gs : List Comprehension} {scope : Scope} {py : Pos} {y : Str} {l : Nat} {env : Env} (hk : env.scope.kind = .function) (hy : env.scope.names.lookup y = some .local) (hl : (py.line == pos.line) = true)
    (ha : (scope.names.any fun (n, k) => n == y && (k == .local || k == .cell)) = false) : swapsWith (.ListComp elt gs scope pos) (some (.Name y py)) l env = pure true := sw_true hk hy hl ha
theorem swapsD {kx elt : Expr} {gs : List Comprehension} {scope : Scope} {py : Pos} {y : Str} {l : Nat} {env : Env} (hk : env.scope.kind = .function) (hy : env.scope.names.lookup y = some .local) (hl : (py.line == pos.line) = true)
    (ha : (scope.names.any fun (n, k) => n == y && (k == .local || k == .cell)) = false) : swapsWith (.DictComp kx elt gs scope pos) (some (.Name y py)) l env = pure true := by
  have k1 : env.kindOf y = some .local := hy
  have k2 : env.blockKind = .function := by unfold Env.blockKind; rw [hk]; rfl
  unfold swapsWith
  simp only [k2, k1, ha, Expr.pos, hl]
  rfl
end
end Bw
/-! ## bagwise_k66_whole_fair_turns: its defs as functions (printed by gen.py from the text) -/
namespace Law
open PySem L2 Bw
def kt_KINDS : List Str := ["belt", "switch", "store", "chute"]
def b_Plant_place : Bw.M Fl := (seqM (ifM (op2c notInD (nm 1) (drf (fldM ["Plant"] "places" (nm 0))))
  no
  (ret .nx))
  (rtM (ixM (fldM ["Plant"] "places" (nm 0)) (nm 1))))
def m_Plant_place : FnD := fnD 2 b_Plant_place
def b_State_empty : Bw.M Fl := (seqM (ifM (op2b neD (ixM (metM [("Plant", m_Plant_place)] "place" 2 (fldM ["State"] "plant" (nm 0)) (cns (nm 1) (ret []))) (ret (.int 0))) (ret (.str "chute")))
  no
  (ret .nx))
  (seqM (setM 3 (vM (slM (ixM (fldM ["State"] "_bags" (nm 0)) (nm 1)) (ret none) (prt (nm 2)))))
  (seqM (stoM (fldM ["State"] "_bags" (nm 0)) (nm 1) (slM (ixM (fldM ["State"] "_bags" (nm 0)) (nm 1)) (prt (nm 2)) (ret none)))
  (rtM (nm 3)))))
def m_State_empty : FnD := fnD 4 b_State_empty
def b_Plant_room : Bw.M Fl := (seqM (setM 2 (vM (metM [("Plant", m_Plant_place)] "place" 2 (nm 0) (cns (nm 1) (ret [])))))
  (rtM (ifM (op2c inD (ixN' 2 (ret (.int 0))) (drf (tupM (cns (ret (.str "store")) (cns (ret (.str "chute")) (ret [])))))) (ixN' 2 (ret (.int 1))) (ret (.int 1)))))
def m_Plant_room : FnD := fnD 3 b_Plant_room
def b_State_bags : Bw.M Fl := (seqM (drpM (metM [("Plant", m_Plant_place)] "place" 2 (fldM ["State"] "plant" (nm 0)) (cns (nm 1) (ret []))))
  (rtM (ixM (fldM ["State"] "_bags" (nm 0)) (nm 1))))
def m_State_bags : FnD := fnD 2 b_State_bags
def b_State_is_full : Bw.M Fl := (rtM (blM (op2b geD (un1 lenD (drf (metM [("State", m_State_bags)] "bags" 2 (nm 0) (cns (nm 1) (ret []))))) (metM [("Plant", m_Plant_room)] "room" 2 (fldM ["State"] "plant" (nm 0)) (cns (nm 1) (ret []))))))
def m_State_is_full : FnD := fnD 2 b_State_is_full
def b_Plant_names : Bw.M Fl := (rtM (un1 sortedD (drf (fldM ["Plant"] "places" (nm 0)))))
def m_Plant_names : FnD := fnD 1 b_Plant_names
def x_State_all_bags_0 : Bw.M Bool := (ret true)
def x_State_all_bags_1 : Bw.M D := (tupM (cns (nm 2) (cns (nm 3) (cns (nm 4) (ret [])))))
def x_State_all_bags_2 : Bw.M Fl := (drpM (mutnM "list" fExtend 1 (cns (lcF (wkM (ixM (fldM ["State"] "_bags" (nm 0)) (nm 2))) [3, 4] (gtup 2 (gcns (gnm 3) (gcns (gnm 4) gnil))) x_State_all_bags_0 x_State_all_bags_1) (ret []))))
def b_State_all_bags : Bw.M Fl := (seqM (setM 1 (oM (lstM (ret []))))
  (seqM (foM (wkM (metM [("Plant", m_Plant_names)] "names" 1 (fldM ["State"] "plant" (nm 0)) (ret []))) (gnm 2) x_State_all_bags_2)
  (rtM (nm 1))))
def m_State_all_bags : FnD := fnD 5 b_State_all_bags
def x_State_where_0 : Bw.M Fl := (ifM (op2b eqD (nm 3) (nm 1))
  (rtM (nm 2))
  (ret .nx))
def b_State_where : Bw.M Fl := (seqM (foM (wkM (metM [("State", m_State_all_bags)] "all_bags" 1 (nm 0) (ret []))) (gtup 3 (gcns (gnm 2) (gcns (gnm 3) (gcns (gnm 4) gnil)))) x_State_where_0)
  (rtM (ret .non)))
def m_State_where : FnD := fnD 5 b_State_where
def b_State_put : Bw.M Fl := (seqM (ifM (orB (asB (metM [("State", m_State_is_full)] "is_full" 2 (nm 0) (cns (nm 1) (ret [])))) (notB (isN (metM [("State", m_State_where)] "where" 2 (nm 0) (cns (nm 2) (ret []))))))
  no
  (ret .nx))
  (stoM (fldM ["State"] "_bags" (nm 0)) (nm 1) (op2 addD (ixM (fldM ["State"] "_bags" (nm 0)) (nm 1)) (tupM (cns (tupM (cns (nm 2) (cns (nm 3) (ret [])))) (ret []))))))
def m_State_put : FnD := fnD 4 b_State_put
def b__law_draw : Bw.M Fl := (seqM (ifM (op2b ltD (ixN' 0 (ret (.int 2))) (nm 1))
  (seqM (setM 2 (vM (ixN' 0 (ret (.int 0)))))
  (seqM (setM 3 (vM (ixN' 0 (ret (.int 1)))))
  (seqM (setM 4 (vM (ret (.int 0))))
  (seqM (ifM (op2b ltD (nm 3) (un1 lenD (pk 2)))
  (setM 4 (vM (ixN' 2 (nm 3))))
  (ret .nx))
  (seqM (ifM (op2b ltD (nm 4) (ret (.int 0)))
  (setM 4 (vM (op2 subD (op2 mulD (negM (ret (.int 2))) (nm 4)) (ret (.int 1)))))
  (ret .nx))
  (seqM (ifM (op2b ltD (nm 4) (op2 powD (ret (.int 10)) (ret (.int 9))))
  (seqM (setM 4 (vM (op2 modD (un1 intD (drf (op2 addD (op2 addD (op2 mulD (nm 4) (ret (.int 48271))) (op2 mulD (nm 3) (ret (.int 69621)))) (ret (.int 12345))))) (ret (.int 2147483647)))))
  (setM 4 (vM (op2 modD (un1 intD (drf (op2 addD (op2 addD (op2 mulD (nm 4) (ret (.int 16807))) (op2 mulD (nm 3) (ret (.int 39373)))) (ret (.int 6789))))) (ret (.int 2147483629))))))
  (ret .nx))
  (seqM (stnM 0 (ret (.int 1)) (op2 addD (nm 3) (ret (.int 1))))
  (stnM 0 (ret (.int 2)) (nm 4)))))))))
  (ret .nx))
  (seqM (setM 5 (vM (op2 modD (un1 intD (drf (ixN' 0 (ret (.int 2))))) (nm 1))))
  (seqM (stnM 0 (ret (.int 2)) (op2 divD (ixN' 0 (ret (.int 2))) (nm 1)))
  (rtM (nm 5)))))
def m__law_draw : FnD := fnD 6 b__law_draw
def b__law_is : Bw.M Fl := (seqM (ifM (isN (nm 1))
  (rtM (blM (isN (nm 0))))
  (ret .nx))
  (seqM (ifM (asB (isiM "bool" (pk 1)))
  (rtM (andV (isiM "bool" (pk 0)) (blM (op2b eqD (nm 0) (nm 1)))))
  (ret .nx))
  (seqM (ifM (asB (isiM "int" (pk 1)))
  (rtM (andV (isiM "int" (pk 0)) (blM (op2b eqD (nm 0) (nm 1)))))
  (ret .nx))
  (seqM (ifM (asB (isiM "str" (pk 1)))
  (rtM (andV (isiM "str" (pk 0)) (blM (op2b eqD (nm 0) (nm 1)))))
  (ret .nx))
  (seqM (ifM (asB (isiM "tuple" (pk 1)))
  (rtM (andV (isiM "tuple" (pk 0)) (blM (op2b eqD (nm 0) (nm 1)))))
  (ret .nx))
  (rtM (andV (isiM "list" (pk 0)) (blM (op2b eqD (nm 0) (nm 1))))))))))
def m__law_is : FnD := fnD 2 b__law_is
def b__law_mod : Bw.M Fl := (rtM (op2 subD (nm 0) (op2 mulD (op2 divD (nm 0) (nm 1)) (nm 1))))
def m__law_mod : FnD := fnD 2 b__law_mod
def x__law_shuffled_0 : Bw.M Fl := (drpM (mutnM "list" fAppend 3 (cns (mutnM "list" fPop 2 (cns (calM 2 m__law_draw (cns (nm 0) (cns (un1 lenD (pk 2)) (ret [])))) (ret []))) (ret []))))
def b__law_shuffled : Bw.M Fl := (seqM (setM 2 (oM (un1 listD (pk 1))))
  (seqM (setM 3 (oM (lstM (ret []))))
  (seqM (foM (rg1 (un1 lenD (pk 1))) (gnm 4) x__law_shuffled_0)
  (rtM (nm 3)))))
def m__law_shuffled : FnD := fnD 5 b__law_shuffled
def b__law_tape : Bw.M Fl := (rtM (newc (lstM (cns (un1 listD (pk 0)) (cns (ret (.int 0)) (cns (ret (.int 0)) (ret [])))))))
def m__law_tape : FnD := fnD 1 b__law_tape
def b_Plant_sources : Bw.M Fl := (rtM (un1 listD (drf (getM (fldM ["Plant"] "_from" (nm 0)) (nm 1) (lstM (ret []))))))
def m_Plant_sources : FnD := fnD 2 b_Plant_sources
def b_Plant_way : Bw.M Fl := (rtM (getM (fldM ["Plant"] "ways" (nm 0)) (nm 1) (tupM (cns (ret (.str "first")) (cns (un1 tupleD (drf (metM [("Plant", m_Plant_sources)] "sources" 2 (nm 0) (cns (nm 1) (ret []))))) (ret []))))))
def m_Plant_way : FnD := fnD 2 b_Plant_way
def x_State_moved_0 : Bw.M Bool := (ret true)
def x_State_moved_1 : Bw.M D := (ixM (ixM (fldM ["State"] "_bags" (nm 0)) (nm 3)) (ret (.int 0)))
def x_State_moved_2 : Bw.M D := (nm 3)
def x_State_moved_3 : Bw.M Fl := (stoM (fldM ["State"] "_bags" (nm 0)) (nm 3) (slM (ixM (fldM ["State"] "_bags" (nm 0)) (nm 3)) (prt (ret (.int 1))) (ret none)))
def x_State_moved_4 : Bw.M Fl := (seqM (stoM (fldM ["State"] "_bags" (nm 0)) (nm 4) (op2 addD (ixM (fldM ["State"] "_bags" (nm 0)) (nm 4)) (tupM (cns (ixN' 2 (nm 3)) (ret [])))))
  (seqM (setM 5 (vM (metM [("Plant", m_Plant_way)] "way" 2 (fldM ["State"] "plant" (nm 0)) (cns (nm 4) (ret [])))))
  (ifM (op2b eqD (ixN' 5 (ret (.int 0))) (ret (.str "turns")))
  (stoM (fldM ["State"] "_turns" (nm 0)) (nm 4) (op2 modD (op2 addD (idxM (ixN' 5 (ret (.int 1))) (nm 3)) (ret (.int 1))) (un1 lenD (drf (ixN' 5 (ret (.int 1)))))))
  (ret .nx))))
def b_State_moved : Bw.M Fl := (seqM (setM 2 (oM (dcF (wkM (nm 1)) [3, 4] (gtup 2 (gcns (gnm 3) (gcns (gnm 4) gnil))) x_State_moved_0 x_State_moved_2 x_State_moved_1)))
  (seqM (foM (wkM (nm 1)) (gtup 2 (gcns (gnm 3) (gcns (gnm 4) gnil))) x_State_moved_3)
  (foM (wkM (nm 1)) (gtup 2 (gcns (gnm 3) (gcns (gnm 4) gnil))) x_State_moved_4)))
def m_State_moved : FnD := fnD 6 b_State_moved
def b_State_turn : Bw.M Fl := (seqM (drpM (metM [("Plant", m_Plant_place)] "place" 2 (fldM ["State"] "plant" (nm 0)) (cns (nm 1) (ret []))))
  (rtM (ixM (fldM ["State"] "_turns" (nm 0)) (nm 1))))
def m_State_turn : FnD := fnD 2 b_State_turn
def b_in_order : Bw.M Fl := (seqM (asgM (metM [("Plant", m_Plant_way)] "way" 2 (fldM ["State"] "plant" (nm 0)) (cns (nm 1) (ret []))) (gtup 2 (gcns (gnm 2) (gcns (gnm 3) gnil))))
  (seqM (ifM (op2b eqD (nm 2) (ret (.str "first")))
  (rtM (un1 listD (pk 3)))
  (ret .nx))
  (seqM (setM 4 (vM (metM [("State", m_State_turn)] "turn" 2 (nm 0) (cns (nm 1) (ret [])))))
  (rtM (op2 addD (un1 listD (drf (slN 3 (prt (nm 4)) (ret none)))) (un1 listD (drf (slN 3 (ret none) (prt (nm 4))))))))))
def m_in_order : FnD := fnD 5 b_in_order
def b_State_shut_places : Bw.M Fl := (rtM (fldM ["State"] "_shut" (nm 0)))
def m_State_shut_places : FnD := fnD 1 b_State_shut_places
def x_Plant_target_0 : Bw.M Fl := (ifM (op2b eqD (nm 4) (nm 2))
  (rtM (nm 5))
  (ret .nx))
def b_Plant_target : Bw.M Fl := (seqM (setM 3 (vM (metM [("Plant", m_Plant_place)] "place" 2 (nm 0) (cns (nm 1) (ret [])))))
  (seqM (ifM (op2b eqD (ixN' 3 (ret (.int 0))) (ret (.str "chute")))
  (rtM (ret .non))
  (ret .nx))
  (seqM (ifM (op2b eqD (ixN' 3 (ret (.int 0))) (ret (.str "belt")))
  (rtM (ixN' 3 (ret (.int 1))))
  (ret .nx))
  (seqM (ifM (op2b eqD (ixN' 3 (ret (.int 0))) (ret (.str "store")))
  (rtM (ixN' 3 (ret (.int 2))))
  (ret .nx))
  (seqM (foM (wkM (ixN' 3 (ret (.int 1)))) (gtup 2 (gcns (gnm 4) (gcns (gnm 5) gnil))) x_Plant_target_0)
  (rtM (ixN' 3 (ret (.int 2)))))))))
def m_Plant_target : FnD := fnD 6 b_Plant_target
def b_wanted : Bw.M Fl := (seqM (setM 2 (vM (metM [("State", m_State_bags)] "bags" 2 (nm 0) (cns (nm 1) (ret [])))))
  (seqM (ifM (op2b eqD (un1 lenD (pk 2)) (ret (.int 0)))
  (rtM (ret .non))
  (ret .nx))
  (rtM (metM [("Plant", m_Plant_target)] "target" 3 (fldM ["State"] "plant" (nm 0)) (cns (nm 1) (cns (ixM (ixN' 2 (ret (.int 0))) (ret (.int 1))) (ret [])))))))
def m_wanted : FnD := fnD 3 b_wanted
def x_wants_0 : Bw.M Fl := (seqM (setM 3 (vM (calM 2 m_wanted (cns (nm 0) (cns (nm 2) (ret []))))))
  (ifM (andB (notB (isN (nm 3))) (andB (op2c notInD (nm 2) (drf (metM [("State", m_State_shut_places)] "shut_places" 1 (nm 0) (ret [])))) (op2c notInD (nm 3) (drf (metM [("State", m_State_shut_places)] "shut_places" 1 (nm 0) (ret []))))))
  (stnM 1 (nm 2) (nm 3))
  (ret .nx)))
def b_wants : Bw.M Fl := (seqM (setM 1 (oM (ret (.dic false []))))
  (seqM (foM (wkM (metM [("Plant", m_Plant_names)] "names" 1 (fldM ["State"] "plant" (nm 0)) (ret []))) (gnm 2) x_wants_0)
  (rtM (nm 1))))
def m_wants : FnD := fnD 4 b_wants
def x_winners_0 : Bw.M Bool := (ret true)
def x_winners_1 : Bw.M D := (ixN' 1 (nm 4))
def x_winners_2 : Bw.M Fl := (ifM (andB (op2c notInD (nm 3) (pk 2)) (op2b eqD (getNM 1 (nm 4) (ret .non)) (nm 3)))
  (stnM 2 (nm 3) (nm 4))
  (ret .nx))
def x_winners_3 : Bw.M Fl := (foM (wkM (calM 2 m_in_order (cns (nm 0) (cns (nm 3) (ret []))))) (gnm 4) x_winners_2)
def b_winners : Bw.M Fl := (seqM (setM 1 (vM (calM 1 m_wants (cns (nm 0) (ret [])))))
  (seqM (setM 2 (oM (ret (.dic false []))))
  (seqM (foM (wkM (srtS (setM' (drf (lcF (wkM (nm 1)) [4] (gnm 4) x_winners_0 x_winners_1))))) (gnm 3) x_winners_3)
  (rtM (nm 2)))))
def m_winners : FnD := fnD 5 b_winners
def x_moves_of_0 : Bw.M Bool := (ret true)
def x_moves_of_1 : Bw.M D := (nm 3)
def x_moves_of_2 : Bw.M D := (ixN' 1 (nm 3))
def x_moves_of_3 : Bw.M Fl := (seqM (setM 6 (vM (ixN' 2 (nm 5))))
  (ifM (andB (asB (metM [("State", m_State_is_full)] "is_full" 2 (nm 0) (cns (nm 6) (ret [])))) (op2c notInD (nm 6) (pk 2)))
  (seqM (drpM (mutnM "dict" fDPop 2 (cns (nm 5) (ret []))))
  (setM 4 (vM (ret (.bl true)))))
  (ret .nx)))
def x_moves_of_4 : Bw.M Fl := (seqM (setM 4 (vM (ret (.bl false))))
  (foM (wkM (un1 sortedD (pk 2))) (gnm 5) x_moves_of_3))
def x_moves_of_5 : Bw.M Bool := (asB (nm 4))
def b_moves_of : Bw.M Fl := (seqM (setM 1 (vM (calM 1 m_winners (cns (nm 0) (ret [])))))
  (seqM (setM 2 (oM (dcF (wkM (nm 1)) [3] (gnm 3) x_moves_of_0 x_moves_of_2 x_moves_of_1)))
  (seqM (setM 4 (vM (ret (.bl true))))
  (seqM (whlM x_moves_of_5 x_moves_of_4 1000)
  (rtM (srtI (pk 2)))))))
def m_moves_of : FnD := fnD 7 b_moves_of
def b_step : Bw.M Fl := (seqM (setM 1 (vM (calM 1 m_moves_of (cns (nm 0) (ret [])))))
  (seqM (drpM (metM [("State", m_State_moved)] "moved" 2 (nm 0) (cns (nm 1) (ret []))))
  (rtM (nm 1))))
def m_step : FnD := fnD 2 b_step
def x_is_name_0 : Bw.M Bool := (ret true)
def x_is_name_1 : Bw.M D := (blM (op2c inD (nm 1) (drf (op2 addD (ret (.str "abcdefghijklmnopqrstuvwxyz")) (ret (.str "0123456789"))))))
def b_is_name : Bw.M Fl := (seqM (ifM (orB (notB (chn leD leD (ret (.int 1)) (un1 lenD (pk 0)) (ret (.int 20)))) (op2c notInD (ixN' 0 (ret (.int 0))) (drf (ret (.str "abcdefghijklmnopqrstuvwxyz")))))
  (rtM (ret (.bl false)))
  (ret .nx))
  (rtM (un1 allD (drf (lcF (wkM (nm 0)) [1] (gnm 1) x_is_name_0 x_is_name_1)))))
def m_is_name : FnD := fnD 2 b_is_name
def x_place_fits_0 : Bw.M Bool := (ret true)
def x_place_fits_1 : Bw.M D := (nm 2)
def x_place_fits_2 : Bw.M Bool := (ret true)
def x_place_fits_3 : Bw.M D := (calM 1 m_is_name (cns (nm 2) (ret [])))
def b_place_fits : Bw.M Fl := (seqM (ifM (orB (op2b eqD (un1 lenD (pk 0)) (ret (.int 0))) (op2c notInD (ixN' 0 (ret (.int 0))) (drf (ret (.kt (kt_KINDS.map D.str))))))
  (rtM (ret (.bl false)))
  (ret .nx))
  (seqM (ifM (op2b eqD (ixN' 0 (ret (.int 0))) (ret (.str "belt")))
  (rtM (blM (op2b eqD (un1 lenD (pk 0)) (ret (.int 2)))))
  (ret .nx))
  (seqM (ifM (op2b eqD (ixN' 0 (ret (.int 0))) (ret (.str "chute")))
  (rtM (andV (blM (op2b eqD (un1 lenD (pk 0)) (ret (.int 2)))) (blM (chn leD leD (ret (.int 1)) (ixN' 0 (ret (.int 1))) (ret (.int 1000))))))
  (ret .nx))
  (seqM (ifM (op2b eqD (ixN' 0 (ret (.int 0))) (ret (.str "store")))
  (rtM (andV (blM (op2b eqD (un1 lenD (pk 0)) (ret (.int 3)))) (blM (chn leD leD (ret (.int 1)) (ixN' 0 (ret (.int 1))) (ret (.int 1000))))))
  (ret .nx))
  (seqM (ifM (op2b neD (un1 lenD (pk 0)) (ret (.int 3)))
  (rtM (ret (.bl false)))
  (ret .nx))
  (seqM (setM 1 (oM (lcF (wkM (ixN' 0 (ret (.int 1)))) [2, 3] (gtup 2 (gcns (gnm 2) (gcns (gnm 3) gnil))) x_place_fits_0 x_place_fits_1)))
  (rtM (andV (blM (op2b eqD (nm 1) (srtS (setM' (pk 1))))) (un1 allD (drf (lcF (wkM (nm 1)) [2] (gnm 2) x_place_fits_2 x_place_fits_3)))))))))))
def m_place_fits : FnD := fnD 4 b_place_fits
def x_targets_of_0 : Bw.M Bool := (ret true)
def x_targets_of_1 : Bw.M D := (nm 2)
def b_targets_of : Bw.M Fl := (seqM (ifM (op2b eqD (ixN' 0 (ret (.int 0))) (ret (.str "belt")))
  (rtM (lstM (cns (ixN' 0 (ret (.int 1))) (ret []))))
  (ret .nx))
  (seqM (ifM (op2b eqD (ixN' 0 (ret (.int 0))) (ret (.str "store")))
  (rtM (lstM (cns (ixN' 0 (ret (.int 2))) (ret []))))
  (ret .nx))
  (seqM (ifM (op2b eqD (ixN' 0 (ret (.int 0))) (ret (.str "switch")))
  (rtM (op2 addD (lcF (wkM (ixN' 0 (ret (.int 1)))) [1, 2] (gtup 2 (gcns (gnm 1) (gcns (gnm 2) gnil))) x_targets_of_0 x_targets_of_1) (lstM (cns (ixN' 0 (ret (.int 2))) (ret [])))))
  (ret .nx))
  (rtM (lstM (ret []))))))
def m_targets_of : FnD := fnD 3 b_targets_of
def b_way_fits : Bw.M Fl := (rtM (andV (blM (op2b eqD (un1 lenD (pk 0)) (ret (.int 2)))) (andV (blM (op2c inD (ixN' 0 (ret (.int 0))) (drf (tupM (cns (ret (.str "first")) (cns (ret (.str "turns")) (ret []))))))) (blM (op2b eqD (un1 sortedD (drf (ixN' 0 (ret (.int 1))))) (nm 1))))))
def m_way_fits : FnD := fnD 2 b_way_fits
def x_Plant__check_0 : Bw.M Bool := (ret true)
def x_Plant__check_1 : Bw.M D := (andV (blM (op2c inD (nm 2) (drf (fldM ["Plant"] "places" (nm 0))))) (blM (op2b neD (nm 2) (nm 1))))
def x_Plant__check_2 : Bw.M Fl := (seqM (ifM (orB (notB (asB (calM 1 m_is_name (cns (nm 1) (ret []))))) (notB (asB (calM 1 m_place_fits (cns (ixM (fldM ["Plant"] "places" (nm 0)) (nm 1)) (ret []))))))
  no
  (ret .nx))
  (ifM (notB (asB (un1 allD (drf (lcF (wkM (calM 1 m_targets_of (cns (ixM (fldM ["Plant"] "places" (nm 0)) (nm 1)) (ret [])))) [2] (gnm 2) x_Plant__check_0 x_Plant__check_1)))))
  no
  (ret .nx)))
def x_Plant__check_3 : Bw.M Bool := (ret true)
def x_Plant__check_4 : Bw.M D := (newc (lstM (ret [])))
def x_Plant__check_5 : Bw.M D := (nm 1)
def x_Plant__check_6 : Bw.M Fl := (drpM (mutoM "list" fAppend (ixM (fldM ["Plant"] "_from" (nm 0)) (nm 2)) (cns (nm 1) (ret []))))
def x_Plant__check_7 : Bw.M Fl := (foM (wkM (srtS (setM' (drf (calM 1 m_targets_of (cns (ixM (fldM ["Plant"] "places" (nm 0)) (nm 1)) (ret []))))))) (gnm 2) x_Plant__check_6)
def x_Plant__check_8 : Bw.M Fl := (ifM (orB (op2c notInD (nm 1) (drf (fldM ["Plant"] "places" (nm 0)))) (notB (asB (calM 2 m_way_fits (cns (ixM (fldM ["Plant"] "ways" (nm 0)) (nm 1)) (cns (metM [("Plant", m_Plant_sources)] "sources" 2 (nm 0) (cns (nm 1) (ret []))) (ret [])))))))
  no
  (ret .nx))
def b_Plant__check : Bw.M Fl := (seqM (ifM (op2b gtD (un1 lenD (drf (fldM ["Plant"] "places" (nm 0)))) (ret (.int 300)))
  no
  (ret .nx))
  (seqM (foM (wkM (un1 sortedD (drf (fldM ["Plant"] "places" (nm 0))))) (gnm 1) x_Plant__check_2)
  (seqM (stfM ["Plant"] "_from" (nm 0) (dcF (wkM (fldM ["Plant"] "places" (nm 0))) [1] (gnm 1) x_Plant__check_3 x_Plant__check_5 x_Plant__check_4))
  (seqM (foM (wkM (un1 sortedD (drf (fldM ["Plant"] "places" (nm 0))))) (gnm 1) x_Plant__check_7)
  (foM (wkM (un1 sortedD (drf (fldM ["Plant"] "ways" (nm 0))))) (gnm 1) x_Plant__check_8)))))
def m_Plant__check : FnD := fnD 3 b_Plant__check
def b_Plant___init__ : Bw.M Fl := (seqM (stfM ["Plant"] "places" (nm 0) (un1 dictD (pk 1)))
  (seqM (stfM ["Plant"] "ways" (nm 0) (un1 dictD (pk 2)))
  (drpM (metM [("Plant", m_Plant__check)] "_check" 1 (nm 0) (ret [])))))
def m_Plant___init__ : FnD := fnD 3 b_Plant___init__
def x_State___init___0 : Bw.M Bool := (ret true)
def x_State___init___1 : Bw.M D := (tupM (ret []))
def x_State___init___2 : Bw.M D := (nm 2)
def x_State___init___3 : Bw.M Bool := (ret true)
def x_State___init___4 : Bw.M D := (ret (.int 0))
def x_State___init___5 : Bw.M D := (nm 2)
def b_State___init__ : Bw.M Fl := (seqM (stfM ["State"] "plant" (nm 0) (nm 1))
  (seqM (stfM ["State"] "_bags" (nm 0) (newc (dcF (wkM (fldM ["Plant"] "places" (nm 1))) [2] (gnm 2) x_State___init___0 x_State___init___2 x_State___init___1)))
  (seqM (stfM ["State"] "_turns" (nm 0) (newc (dcF (wkM (fldM ["Plant"] "places" (nm 1))) [2] (gnm 2) x_State___init___3 x_State___init___5 x_State___init___4)))
  (stfM ["State"] "_shut" (nm 0) (tupM (ret []))))))
def m_State___init__ : FnD := fnD 3 b_State___init__
def x_law_0 : Bw.M Fl := (seqM (setM 6 (vM (op2 addD (ret (.str "s")) (un1 strD (pk 5)))))
  (seqM (drpM (mutnM "list" fAppend 4 (cns (nm 6) (ret []))))
  (stnM 3 (nm 6) (ifM (op2b eqD (calM 2 m__law_draw (cns (nm 1) (cns (ret (.int 2)) (ret [])))) (ret (.int 0))) (tupM (cns (ret (.str "belt")) (cns (ret (.str "j")) (ret [])))) (tupM (cns (ret (.str "store")) (cns (ret (.int 2)) (cns (ret (.str "j")) (ret [])))))))))
def x_law_1 : Bw.M Fl := (ifM (notB (asB (metM [("State", m_State_is_full)] "is_full" 2 (nm 9) (cns (nm 6) (ret [])))))
  (seqM (drpM (metM [("State", m_State_put)] "put" 4 (nm 9) (cns (nm 6) (cns (op2 addD (ret (.str "b")) (un1 strD (pk 11))) (cns (ret (.str "x")) (ret []))))))
  (setM 11 (vM (op2 addD (nm 11) (ret (.int 1))))))
  (ret .nx))
def x_law_2 : Bw.M Bool := (op2b eqD (nm 14) (ret (.str "j")))
def x_law_3 : Bw.M D := (nm 13)
def x_law_4 : Bw.M Fl := (seqM (foM (wkM (nm 4)) (gnm 6) x_law_1)
  (seqM (drpM (metM [("State", m_State_empty)] "empty" 3 (nm 9) (cns (ret (.str "out")) (cns (ret (.int 5)) (ret [])))))
  (setM 10 (vM (op2 addD (nm 10) (lcF (wkM (calM 1 m_step (cns (nm 9) (ret [])))) [13, 14] (gtup 2 (gcns (gnm 13) (gcns (gnm 14) gnil))) x_law_2 x_law_3))))))
def x_law_5 : Bw.M Bool := (ret true)
def x_law_6 : Bw.M D := (ixN' 7 (ret (.int 0)))
def x_law_7 : Bw.M Bool := (ret true)
def x_law_8 : Bw.M D := (ixN' 7 (calM 2 m__law_mod (cns (nm 5) (cns (nm 2) (ret [])))))
def b_law : Bw.M Fl := (seqM (setM 1 (vM (calM 1 m__law_tape (cns (nm 0) (ret [])))))
  (seqM (setM 2 (vM (op2 addD (ret (.int 2)) (calM 2 m__law_draw (cns (nm 1) (cns (ret (.int 3)) (ret [])))))))
  (seqM (setM 3 (oM (dspM (((ret (.str "j")), (tupM (cns (ret (.str "belt")) (cns (ret (.str "out")) (ret []))))) :: (((ret (.str "out")), (tupM (cns (ret (.str "chute")) (cns (ret (.int 5)) (ret []))))) :: [])))))
  (seqM (setM 4 (oM (lstM (ret []))))
  (seqM (foM (rg1 (nm 2)) (gnm 5) x_law_0)
  (seqM (setM 7 (vM (un1 tupleD (drf (calM 2 m__law_shuffled (cns (nm 1) (cns (nm 4) (ret []))))))))
  (seqM (setM 8 (vM (ixM (lstM (cns (ret (.str "turns")) (cns (ret (.str "first")) (ret [])))) (calM 2 m__law_draw (cns (nm 1) (cns (ret (.int 2)) (ret [])))))))
  (seqM (setM 9 (vM (makM "State" 2 m_State___init__ (cns (makM "Plant" 3 m_Plant___init__ (cns (nm 3) (cns (dspM (((ret (.str "j")), (tupM (cns (nm 8) (cns (nm 7) (ret []))))) :: [])) (ret [])))) (ret [])))))
  (seqM (parM 10 11 (lstM (ret [])) (ret (.int 0)))
  (seqM (foM (rg1 (op2 mulD (ret (.int 3)) (nm 2))) (gnm 12) x_law_4)
  (seqM (ifM (op2b eqD (nm 8) (ret (.str "first")))
  (rtM (calM 2 m__law_is (cns (nm 10) (cns (lcF (rg1 (op2 mulD (ret (.int 3)) (nm 2))) [12] (gnm 12) x_law_5 x_law_6) (ret [])))))
  (ret .nx))
  (rtM (calM 2 m__law_is (cns (nm 10) (cns (lcF (rg1 (op2 mulD (ret (.int 3)) (nm 2))) [5] (gnm 5) x_law_7 x_law_8) (ret []))))))))))))))))
def m_law : FnD := fnD 15 b_law
end Law
/-! ## bagwise_k66_whole_fair_turns: the functions and the walk (printed by gen.py from the law's text) -/
namespace Law
open PySem PySem.Spec PyProof.Rows L2 Bw
def top (i : Nat) : Stmt := PySem.Challenge.pw_bagwise_k66_whole_fair_turns.main.body.getD i (.Pass ⟨0, 0, 0, 0⟩)
abbrev s_Plant_place : Stmt := inClass (top 21) 3
abbrev N_Plant_place : List Str := ["self", "name"]
abbrev s_State_empty : Stmt := inClass (top 26) 15
abbrev N_State_empty : List Str := ["self", "name", "many", "gone"]
abbrev s_Plant_room : Stmt := inClass (top 21) 8
abbrev N_Plant_room : List Str := ["self", "name", "place"]
abbrev s_State_bags : Stmt := inClass (top 26) 7
abbrev N_State_bags : List Str := ["self", "name"]
abbrev s_State_is_full : Stmt := inClass (top 26) 10
abbrev N_State_is_full : List Str := ["self", "name"]
abbrev s_Plant_names : Stmt := inClass (top 21) 2
abbrev N_Plant_names : List Str := ["self"]
abbrev s_State_all_bags : Stmt := inClass (top 26) 11
abbrev N_State_all_bags : List Str := ["self", "found", "name", "bag", "goal"]
abbrev s_State_where : Stmt := inClass (top 26) 12
abbrev N_State_where : List Str := ["self", "bag", "name", "one", "goal"]
abbrev s_State_put : Stmt := inClass (top 26) 13
abbrev N_State_put : List Str := ["self", "name", "bag", "goal"]
abbrev s__law_draw : Stmt := top 28
abbrev N__law_draw : List Str := ["tape", "many", "cells", "k", "cell", "digit"]
abbrev s__law_is : Stmt := top 30
abbrev N__law_is : List Str := ["told", "due"]
abbrev s__law_mod : Stmt := top 31
abbrev N__law_mod : List Str := ["a", "n"]
abbrev s__law_shuffled : Stmt := top 32
abbrev N__law_shuffled : List Str := ["tape", "row", "rest", "found", "k"]
abbrev s__law_tape : Stmt := top 29
abbrev N__law_tape : List Str := ["script"]
abbrev s_Plant_sources : Stmt := inClass (top 21) 4
abbrev N_Plant_sources : List Str := ["self", "name"]
abbrev s_Plant_way : Stmt := inClass (top 21) 9
abbrev N_Plant_way : List Str := ["self", "name"]
abbrev s_State_moved : Stmt := inClass (top 26) 17
abbrev N_State_moved : List Str := ["self", "moves", "going", "start", "end", "way"]
abbrev s_State_turn : Stmt := inClass (top 26) 8
abbrev N_State_turn : List Str := ["self", "name"]
abbrev s_in_order : Stmt := top 4
abbrev N_in_order : List Str := ["state", "name", "kind", "sources", "turn"]
abbrev s_State_shut_places : Stmt := inClass (top 26) 3
abbrev N_State_shut_places : List Str := ["self"]
abbrev s_Plant_target : Stmt := inClass (top 21) 10
abbrev N_Plant_target : List Str := ["self", "name", "goal", "place", "one", "target"]
abbrev s_wanted : Stmt := top 2
abbrev N_wanted : List Str := ["state", "name", "bags"]
abbrev s_wants : Stmt := top 3
abbrev N_wants : List Str := ["state", "found", "name", "target"]
abbrev s_winners : Stmt := top 5
abbrev N_winners : List Str := ["state", "asked", "found", "name", "source"]
abbrev s_moves_of : Stmt := top 6
abbrev N_moves_of : List Str := ["state", "chosen", "going", "name", "changed", "source", "target"]
abbrev s_step : Stmt := top 7
abbrev N_step : List Str := ["state", "moves"]
abbrev s_is_name : Stmt := top 16
abbrev N_is_name : List Str := ["text", "sign"]
abbrev s_place_fits : Stmt := top 23
abbrev N_place_fits : List Str := ["place", "goals", "goal", "target"]
abbrev s_targets_of : Stmt := top 22
abbrev N_targets_of : List Str := ["place", "goal", "target"]
abbrev s_way_fits : Stmt := top 24
abbrev N_way_fits : List Str := ["way", "sources"]
abbrev s_Plant__check : Stmt := inClass (top 21) 1
abbrev N_Plant__check : List Str := ["self", "name", "target"]
abbrev s_Plant___init__ : Stmt := inClass (top 21) 0
abbrev N_Plant___init__ : List Str := ["self", "places", "ways"]
abbrev s_State___init__ : Stmt := inClass (top 26) 0
abbrev N_State___init__ : List Str := ["self", "plant", "name"]
abbrev s_law : Stmt := top 33
abbrev N_law : List Str := ["script", "tape", "many", "places", "names", "k", "name", "order", "kind", "state", "went", "number", "turn", "start", "end"]
structure TX (K : PySem.W.Frag) (mg : Str → Option Value) : Prop where
  n_all : mg "all" = none
  n_bool : mg "bool" = none
  n_dict : mg "dict" = none
  n_int : mg "int" = none
  n_isinstance : mg "isinstance" = none
  n_len : mg "len" = none
  n_list : mg "list" = none
  n_range : mg "range" = none
  n_set : mg "set" = none
  n_sorted : mg "sorted" = none
  n_str : mg "str" = none
  n_tuple : mg "tuple" = none
  g_KINDS : ∃ a, mg "KINDS" = some (.ref a) ∧ (∃ o, K.lookup a = some o ∧ o.cls = .type "tuple" ∧ o.dict = none) ∧ SqT K (fun _ => none) a (kt_KINDS.map V.str)
  g_LETTERS : ∃ t, mg "LETTERS" = some (.str "abcdefghijklmnopqrstuvwxyz" t)
  g_NAME_MOST : ∃ t, mg "NAME_MOST" = some (.int 20 t)
  g_PLACES_MOST : ∃ t, mg "PLACES_MOST" = some (.int 300 t)
  g_ROOM_MOST : ∃ t, mg "ROOM_MOST" = some (.int 1000 t)
  a_Plant__from : AG K mg "Plant" "_from"
  a_Plant_places : AG K mg "Plant" "places"
  a_Plant_ways : AG K mg "Plant" "ways"
  a_State__bags : AG K mg "State" "_bags"
  a_State__shut : AG K mg "State" "_shut"
  a_State__turns : AG K mg "State" "_turns"
  a_State_plant : AG K mg "State" "plant"
  f_Plant_place : MG K mg "Plant" "place" "Plant.place" s_Plant_place ["self", "name"]
  f_State_empty : MG K mg "State" "empty" "State.empty" s_State_empty ["self", "name", "many"]
  f_Plant_room : MG K mg "Plant" "room" "Plant.room" s_Plant_room ["self", "name"]
  f_State_bags : MG K mg "State" "bags" "State.bags" s_State_bags ["self", "name"]
  f_State_is_full : MG K mg "State" "is_full" "State.is_full" s_State_is_full ["self", "name"]
  f_Plant_names : MG K mg "Plant" "names" "Plant.names" s_Plant_names ["self"]
  f_State_all_bags : MG K mg "State" "all_bags" "State.all_bags" s_State_all_bags ["self"]
  f_State_where : MG K mg "State" "where" "State.where" s_State_where ["self", "bag"]
  f_State_put : MG K mg "State" "put" "State.put" s_State_put ["self", "name", "bag", "goal"]
  f__law_draw : FG K mg "_law_draw" s__law_draw ["tape", "many"]
  f__law_is : FG K mg "_law_is" s__law_is ["told", "due"]
  f__law_mod : FG K mg "_law_mod" s__law_mod ["a", "n"]
  f__law_shuffled : FG K mg "_law_shuffled" s__law_shuffled ["tape", "row"]
  f__law_tape : FG K mg "_law_tape" s__law_tape ["script"]
  f_Plant_sources : MG K mg "Plant" "sources" "Plant.sources" s_Plant_sources ["self", "name"]
  f_Plant_way : MG K mg "Plant" "way" "Plant.way" s_Plant_way ["self", "name"]
  f_State_moved : MG K mg "State" "moved" "State.moved" s_State_moved ["self", "moves"]
  f_State_turn : MG K mg "State" "turn" "State.turn" s_State_turn ["self", "name"]
  f_in_order : FG K mg "in_order" s_in_order ["state", "name"]
  f_State_shut_places : MG K mg "State" "shut_places" "State.shut_places" s_State_shut_places ["self"]
  f_Plant_target : MG K mg "Plant" "target" "Plant.target" s_Plant_target ["self", "name", "goal"]
  f_wanted : FG K mg "wanted" s_wanted ["state", "name"]
  f_wants : FG K mg "wants" s_wants ["state"]
  f_winners : FG K mg "winners" s_winners ["state"]
  f_moves_of : FG K mg "moves_of" s_moves_of ["state"]
  f_step : FG K mg "step" s_step ["state"]
  f_is_name : FG K mg "is_name" s_is_name ["text"]
  f_place_fits : FG K mg "place_fits" s_place_fits ["place"]
  f_targets_of : FG K mg "targets_of" s_targets_of ["place"]
  f_way_fits : FG K mg "way_fits" s_way_fits ["way", "sources"]
  f_Plant__check : MG K mg "Plant" "_check" "Plant._check" s_Plant__check ["self"]
  f_Plant___init__ : KG K mg "Plant" "Plant.__init__" s_Plant___init__ ["self", "places", "ways"]
  f_State___init__ : KG K mg "State" "State.__init__" s_State___init__ ["self", "plant"]
section
variable {P : Program} {W : World} {K : PySem.W.Frag} {mg : Str → Option Value} {base : Heap}
theorem sc_Plant_place : FnScope N_Plant_place ["self", "name"] (defScope s_Plant_place) := C8.fnScope_by (by decide +kernel)
theorem bo_Plant_place (T : TX K mg) : BodyOk P W K mg base N_Plant_place "Plant.place" s_Plant_place 0 b_Plant_place := fun f cdv A outer s H E hr => by
  have hu5 := room65 hr
  have hu4 := hr.units
  have hu1 := room1 hr
  have nd : N_Plant_place.Nodup := sc_Plant_place.nd
  have tk := takes_of (X := cxOf (L2.CX P W) P W K mg base N_Plant_place "Plant.place" (defScope s_Plant_place) f cdv A outer s H E) rfl rfl rfl rfl
  have hp : PassesOwn (model P W) _ _ _ := passes_of (X := cxOf (L2.CX P W) P W K mg base N_Plant_place "Plant.place" (defScope s_Plant_place) f cdv A outer s H E) rfl
  exact (dss_cons (ds_if (dt_in (op_notInD' hu5) (de_nm 1) (db_of (de_fld (fok_cons T.a_Plant_places fok_nil) (de_nm 0) rfl)) (by with_unfolding_all rfl))
  (dss_one ds_never)
  dss_nil)
  (dss_one (ds_ret (de_ix hu4 (de_fld (fok_cons T.a_Plant_places fok_nil) (de_nm 0) rfl) (de_nm 1) (fun _ _ => rfl)))))
theorem ok_Plant_place (T : TX K mg) : MOk' P W K mg base 1 "Plant" "place" 2 m_Plant_place := ok_mt T.f_Plant_place sc_Plant_place rfl (bo_Plant_place T)
theorem sc_State_empty : FnScope N_State_empty ["self", "name", "many"] (defScope s_State_empty) := C8.fnScope_by (by decide +kernel)
theorem bo_State_empty (T : TX K mg) : BodyOk P W K mg base N_State_empty "State.empty" s_State_empty 1 b_State_empty := fun f cdv A outer s H E hr => by
  have hu5 := room65 hr
  have hu4 := hr.units
  have hu1 := room1 hr
  have nd : N_State_empty.Nodup := sc_State_empty.nd
  have tk := takes_of (X := cxOf (L2.CX P W) P W K mg base N_State_empty "State.empty" (defScope s_State_empty) f cdv A outer s H E) rfl rfl rfl rfl
  have hp : PassesOwn (model P W) _ _ _ := passes_of (X := cxOf (L2.CX P W) P W K mg base N_State_empty "State.empty" (defScope s_State_empty) f cdv A outer s H E) rfl
  exact (dss_cons (ds_if (dt_cmp (op_neD' hu4) (de_ix hu4 (de_meth (alt_cons (ok_Plant_place T) (hr.mono (by decide)) alt_nil) tk (de_fld (fok_cons T.a_State_plant fok_nil) (de_nm 0) rfl) (da_cons (de_nm 1) da_nil)) de_int (fun _ _ => rfl)) de_str (by with_unfolding_all rfl))
  (dss_one ds_never)
  dss_nil)
  (dss_cons (ds_set (i := 3) nd (dv_e (de_sl (de_ix hu4 (de_fld (fok_cons T.a_State__bags fok_nil) (de_nm 0) rfl) (de_nm 1) (fun _ _ => rfl)) do_none (do_some (de_nm 2)))))
  (dss_cons (ds_sto hu4 (de_fld (fok_cons T.a_State__bags fok_nil) (de_nm 0) rfl) (de_nm 1) (de_sl (de_ix hu4 (de_fld (fok_cons T.a_State__bags fok_nil) (de_nm 0) rfl) (de_nm 1) (fun _ _ => rfl)) (do_some (de_nm 2)) do_none))
  (dss_one (ds_ret (de_nm 3))))))
theorem ok_State_empty (T : TX K mg) : MOk' P W K mg base 2 "State" "empty" 3 m_State_empty := ok_mt T.f_State_empty sc_State_empty rfl (bo_State_empty T)
theorem sc_Plant_room : FnScope N_Plant_room ["self", "name"] (defScope s_Plant_room) := C8.fnScope_by (by decide +kernel)
theorem bo_Plant_room (T : TX K mg) : BodyOk P W K mg base N_Plant_room "Plant.room" s_Plant_room 1 b_Plant_room := fun f cdv A outer s H E hr => by
  have hu5 := room65 hr
  have hu4 := hr.units
  have hu1 := room1 hr
  have nd : N_Plant_room.Nodup := sc_Plant_room.nd
  have tk := takes_of (X := cxOf (L2.CX P W) P W K mg base N_Plant_room "Plant.room" (defScope s_Plant_room) f cdv A outer s H E) rfl rfl rfl rfl
  have hp : PassesOwn (model P W) _ _ _ := passes_of (X := cxOf (L2.CX P W) P W K mg base N_Plant_room "Plant.room" (defScope s_Plant_room) f cdv A outer s H E) rfl
  exact (dss_cons (ds_set (i := 2) nd (dv_e (de_meth (alt_cons (ok_Plant_place T) (hr.mono (by decide)) alt_nil) tk (de_nm 0) (da_cons (de_nm 1) da_nil))))
  (dss_one (ds_ret (de_if (dt_in (op_inD' hu5) (de_ixn (i := 2) hu4 de_int (fun _ _ => rfl)) (db_of (de_tup (da_cons de_str (da_cons de_str da_nil)))) (by with_unfolding_all rfl)) (de_ixn (i := 2) hu4 de_int (fun _ _ => rfl)) de_int))))
theorem ok_Plant_room (T : TX K mg) : MOk' P W K mg base 2 "Plant" "room" 2 m_Plant_room := ok_mt T.f_Plant_room sc_Plant_room rfl (bo_Plant_room T)
theorem sc_State_bags : FnScope N_State_bags ["self", "name"] (defScope s_State_bags) := C8.fnScope_by (by decide +kernel)
theorem bo_State_bags (T : TX K mg) : BodyOk P W K mg base N_State_bags "State.bags" s_State_bags 1 b_State_bags := fun f cdv A outer s H E hr => by
  have hu5 := room65 hr
  have hu4 := hr.units
  have hu1 := room1 hr
  have nd : N_State_bags.Nodup := sc_State_bags.nd
  have tk := takes_of (X := cxOf (L2.CX P W) P W K mg base N_State_bags "State.bags" (defScope s_State_bags) f cdv A outer s H E) rfl rfl rfl rfl
  have hp : PassesOwn (model P W) _ _ _ := passes_of (X := cxOf (L2.CX P W) P W K mg base N_State_bags "State.bags" (defScope s_State_bags) f cdv A outer s H E) rfl
  exact (dss_cons (ds_expr (de_meth (alt_cons (ok_Plant_place T) (hr.mono (by decide)) alt_nil) tk (de_fld (fok_cons T.a_State_plant fok_nil) (de_nm 0) rfl) (da_cons (de_nm 1) da_nil)))
  (dss_one (ds_ret (de_ix hu4 (de_fld (fok_cons T.a_State__bags fok_nil) (de_nm 0) rfl) (de_nm 1) (fun _ _ => rfl)))))
theorem ok_State_bags (T : TX K mg) : MOk' P W K mg base 2 "State" "bags" 2 m_State_bags := ok_mt T.f_State_bags sc_State_bags rfl (bo_State_bags T)
theorem sc_State_is_full : FnScope N_State_is_full ["self", "name"] (defScope s_State_is_full) := C8.fnScope_by (by decide +kernel)
theorem bo_State_is_full (T : TX K mg) : BodyOk P W K mg base N_State_is_full "State.is_full" s_State_is_full 2 b_State_is_full := fun f cdv A outer s H E hr => by
  have hu5 := room65 hr
  have hu4 := hr.units
  have hu1 := room1 hr
  have nd : N_State_is_full.Nodup := sc_State_is_full.nd
  have tk := takes_of (X := cxOf (L2.CX P W) P W K mg base N_State_is_full "State.is_full" (defScope s_State_is_full) f cdv A outer s H E) rfl rfl rfl rfl
  have hp : PassesOwn (model P W) _ _ _ := passes_of (X := cxOf (L2.CX P W) P W K mg base N_State_is_full "State.is_full" (defScope s_State_is_full) f cdv A outer s H E) rfl
  exact (dss_one (ds_ret (de_cmp (op_geD' hu4) (de_call1 call_lenB rfl T.n_len rfl (db_of (de_meth (alt_cons (ok_State_bags T) (hr.mono (by decide)) alt_nil) tk (de_nm 0) (da_cons (de_nm 1) da_nil)))) (de_meth (alt_cons (ok_Plant_room T) (hr.mono (by decide)) alt_nil) tk (de_fld (fok_cons T.a_State_plant fok_nil) (de_nm 0) rfl) (da_cons (de_nm 1) da_nil)) (by with_unfolding_all rfl))))
theorem ok_State_is_full (T : TX K mg) : MOk' P W K mg base 3 "State" "is_full" 2 m_State_is_full := ok_mt T.f_State_is_full sc_State_is_full rfl (bo_State_is_full T)
theorem sc_Plant_names : FnScope N_Plant_names ["self"] (defScope s_Plant_names) := C8.fnScope_by (by decide +kernel)
theorem bo_Plant_names (T : TX K mg) : BodyOk P W K mg base N_Plant_names "Plant.names" s_Plant_names 0 b_Plant_names := fun f cdv A outer s H E hr => by
  have hu5 := room65 hr
  have hu4 := hr.units
  have hu1 := room1 hr
  have nd : N_Plant_names.Nodup := sc_Plant_names.nd
  have tk := takes_of (X := cxOf (L2.CX P W) P W K mg base N_Plant_names "Plant.names" (defScope s_Plant_names) f cdv A outer s H E) rfl rfl rfl rfl
  have hp : PassesOwn (model P W) _ _ _ := passes_of (X := cxOf (L2.CX P W) P W K mg base N_Plant_names "Plant.names" (defScope s_Plant_names) f cdv A outer s H E) rfl
  exact (dss_one (ds_ret (de_frozen (df_call1 (call_sortedB hu4 rfl) rfl T.n_sorted rfl (db_of (de_fld (fok_cons T.a_Plant_places fok_nil) (de_nm 0) rfl))))))
theorem ok_Plant_names (T : TX K mg) : MOk' P W K mg base 1 "Plant" "names" 1 m_Plant_names := ok_mt T.f_Plant_names sc_Plant_names rfl (bo_Plant_names T)
theorem sc_State_all_bags : FnScope N_State_all_bags ["self"] (defScope s_State_all_bags) := C8.fnScope_by (by decide +kernel)
theorem bo_State_all_bags (T : TX K mg) : BodyOk P W K mg base N_State_all_bags "State.all_bags" s_State_all_bags 1 b_State_all_bags := fun f cdv A outer s H E hr => by
  have hu5 := room65 hr
  have hu4 := hr.units
  have hu1 := room1 hr
  have nd : N_State_all_bags.Nodup := sc_State_all_bags.nd
  have tk := takes_of (X := cxOf (L2.CX P W) P W K mg base N_State_all_bags "State.all_bags" (defScope s_State_all_bags) f cdv A outer s H E) rfl rfl rfl rfl
  have hp : PassesOwn (model P W) _ _ _ := passes_of (X := cxOf (L2.CX P W) P W K mg base N_State_all_bags "State.all_bags" (defScope s_State_all_bags) f cdv A outer s H E) rfl
  exact (dss_cons (ds_set (i := 1) nd (dv_f (df_lst da_nil)))
  (dss_cons (ds_for (js := [2]) hp rfl (di_any (de_meth0 (alt_cons (ok_Plant_names T) (hr.mono (by decide)) alt_nil) tk (de_fld (fok_cons T.a_State_plant fok_nil) (de_nm 0) rfl))) (dg_nm 2 nd (by decide))
  (dss_one (ds_expr (de_mutn (i := 1) PySem.F.plainAttrs_list PySem.F.slot_list_extend PySem.F.type_list_extend mt_extendC (da_cons (de_frozen (df_lc rfl nd (di_any (de_ix hu4 (de_fld (fok_cons T.a_State__bags fok_nil) (de_nm 0) rfl) (de_nm 2) (fun _ _ => rfl))) (blkOk_by (N := N_State_all_bags) (sc := defScope s_State_all_bags) (own := [("bag", 3), ("goal", 4)]) (by decide +kernel)) (js := [3, 4]) (by decide) (fun _ _ _ _ _ => (dg_tup rfl (dgs_cons (dg_nm 3 nd (by decide)) (dgs_cons (dg_nm 4 nd (by decide)) dgs_nil)))) (fun _ _ _ _ _ => dts_nil) (fun _ _ _ _ _ => (de_tup (da_cons (de_nm 2) (da_cons (de_nm 3) (da_cons (de_nm 4) da_nil))))))) da_nil)))))
  (dss_one (ds_ret (de_nm 1)))))
theorem ok_State_all_bags (T : TX K mg) : MOk' P W K mg base 2 "State" "all_bags" 1 m_State_all_bags := ok_mt T.f_State_all_bags sc_State_all_bags rfl (bo_State_all_bags T)
theorem sc_State_where : FnScope N_State_where ["self", "bag"] (defScope s_State_where) := C8.fnScope_by (by decide +kernel)
theorem bo_State_where (T : TX K mg) : BodyOk P W K mg base N_State_where "State.where" s_State_where 2 b_State_where := fun f cdv A outer s H E hr => by
  have hu5 := room65 hr
  have hu4 := hr.units
  have hu1 := room1 hr
  have nd : N_State_where.Nodup := sc_State_where.nd
  have tk := takes_of (X := cxOf (L2.CX P W) P W K mg base N_State_where "State.where" (defScope s_State_where) f cdv A outer s H E) rfl rfl rfl rfl
  have hp : PassesOwn (model P W) _ _ _ := passes_of (X := cxOf (L2.CX P W) P W K mg base N_State_where "State.where" (defScope s_State_where) f cdv A outer s H E) rfl
  exact (dss_cons (ds_for (js := [2, 3, 4]) hp rfl (di_any (de_meth0 (alt_cons (ok_State_all_bags T) (hr.mono (by decide)) alt_nil) tk (de_nm 0))) (dg_tup rfl (dgs_cons (dg_nm 2 nd (by decide)) (dgs_cons (dg_nm 3 nd (by decide)) (dgs_cons (dg_nm 4 nd (by decide)) dgs_nil))))
  (dss_one (ds_if (dt_cmp (op_eqD' hu4) (de_nm 3) (de_nm 1) (by with_unfolding_all rfl))
  (dss_one (ds_ret (de_nm 2)))
  dss_nil)))
  (dss_one (ds_ret de_non)))
theorem ok_State_where (T : TX K mg) : MOk' P W K mg base 3 "State" "where" 2 m_State_where := ok_mt T.f_State_where sc_State_where rfl (bo_State_where T)
theorem sc_State_put : FnScope N_State_put ["self", "name", "bag", "goal"] (defScope s_State_put) := C8.fnScope_by (by decide +kernel)
theorem bo_State_put (T : TX K mg) : BodyOk P W K mg base N_State_put "State.put" s_State_put 3 b_State_put := fun f cdv A outer s H E hr => by
  have hu5 := room65 hr
  have hu4 := hr.units
  have hu1 := room1 hr
  have nd : N_State_put.Nodup := sc_State_put.nd
  have tk := takes_of (X := cxOf (L2.CX P W) P W K mg base N_State_put "State.put" (defScope s_State_put) f cdv A outer s H E) rfl rfl rfl rfl
  have hp : PassesOwn (model P W) _ _ _ := passes_of (X := cxOf (L2.CX P W) P W K mg base N_State_put "State.put" (defScope s_State_put) f cdv A outer s H E) rfl
  exact (dss_cons (ds_if (PW.pt (dw_or (dt_val (de_meth (alt_cons (ok_State_is_full T) (hr.mono (by decide)) alt_nil) tk (de_nm 0) (da_cons (de_nm 1) da_nil))) (dw_or1 (dt_notN (de_meth (alt_cons (ok_State_where T) (hr.mono (by decide)) alt_nil) tk (de_nm 0) (da_cons (de_nm 2) da_nil))))))
  (dss_one ds_never)
  dss_nil)
  (dss_one (ds_sto hu4 (de_fld (fok_cons T.a_State__bags fok_nil) (de_nm 0) rfl) (de_nm 1) (de_op op_addD (de_ix hu4 (de_fld (fok_cons T.a_State__bags fok_nil) (de_nm 0) rfl) (de_nm 1) (fun _ _ => rfl)) (de_tup (da_cons (de_tup (da_cons (de_nm 2) (da_cons (de_nm 3) da_nil))) da_nil))))))
theorem ok_State_put (T : TX K mg) : MOk' P W K mg base 4 "State" "put" 4 m_State_put := ok_mt T.f_State_put sc_State_put rfl (bo_State_put T)
theorem sc__law_draw : FnScope N__law_draw ["tape", "many"] (defScope s__law_draw) := C8.fnScope_by (by decide +kernel)
theorem bo__law_draw (T : TX K mg) : BodyOk P W K mg base N__law_draw "_law_draw" s__law_draw 0 b__law_draw := fun f cdv A outer s H E hr => by
  have hu5 := room65 hr
  have hu4 := hr.units
  have hu1 := room1 hr
  have nd : N__law_draw.Nodup := sc__law_draw.nd
  have tk := takes_of (X := cxOf (L2.CX P W) P W K mg base N__law_draw "_law_draw" (defScope s__law_draw) f cdv A outer s H E) rfl rfl rfl rfl
  have hp : PassesOwn (model P W) _ _ _ := passes_of (X := cxOf (L2.CX P W) P W K mg base N__law_draw "_law_draw" (defScope s__law_draw) f cdv A outer s H E) rfl
  exact (dss_cons (ds_if (dt_cmp (op_ltD' hu4) (de_ixn (i := 0) hu4 de_int (fun _ _ => rfl)) (de_nm 1) (by with_unfolding_all rfl))
  (dss_cons (ds_set (i := 2) nd (dv_e (de_ixn (i := 0) hu4 de_int (fun _ _ => rfl))))
  (dss_cons (ds_set (i := 3) nd (dv_e (de_ixn (i := 0) hu4 de_int (fun _ _ => rfl))))
  (dss_cons (ds_set (i := 4) nd (dv_e de_int))
  (dss_cons (ds_if (dt_cmp (op_ltD' hu4) (de_nm 3) (de_call1 call_lenB rfl T.n_len rfl (db_nm 2)) (by with_unfolding_all rfl))
  (dss_one (ds_set (i := 4) nd (dv_e (de_ixn (i := 2) hu4 (de_nm 3) (fun _ _ => rfl)))))
  dss_nil)
  (dss_cons (ds_if (dt_cmp (op_ltD' hu4) (de_nm 4) de_int (by with_unfolding_all rfl))
  (dss_one (ds_set (i := 4) nd (dv_e (de_op op_subD (de_op op_mulD (de_neg de_int) (de_nm 4)) de_int))))
  dss_nil)
  (dss_cons (ds_if (dt_cmp (op_ltD' hu4) (de_nm 4) (de_op op_powD de_int de_int) (by with_unfolding_all rfl))
  (dss_cons (ds_set (i := 4) nd (dv_e (de_op op_modD (de_callT1 call_intB rfl T.n_int rfl (db_of (de_op op_addD (de_op op_addD (de_op op_mulD (de_nm 4) de_int) (de_op op_mulD (de_nm 3) de_int)) de_int))) de_int)))
  (dss_one (ds_set (i := 4) nd (dv_e (de_op op_modD (de_callT1 call_intB rfl T.n_int rfl (db_of (de_op op_addD (de_op op_addD (de_op op_mulD (de_nm 4) de_int) (de_op op_mulD (de_nm 3) de_int)) de_int))) de_int)))))
  dss_nil)
  (dss_cons (ds_stn (i := 0) hu4 de_int (de_op op_addD (de_nm 3) de_int))
  (dss_one (ds_stn (i := 0) hu4 de_int (de_nm 4))))))))))
  dss_nil)
  (dss_cons (ds_set (i := 5) nd (dv_e (de_op op_modD (de_callT1 call_intB rfl T.n_int rfl (db_of (de_ixn (i := 0) hu4 de_int (fun _ _ => rfl)))) (de_nm 1))))
  (dss_cons (ds_stn (i := 0) hu4 de_int (de_op op_divD (de_ixn (i := 0) hu4 de_int (fun _ _ => rfl)) (de_nm 1)))
  (dss_one (ds_ret (de_nm 5))))))
theorem ok__law_draw (T : TX K mg) : FOk' P W K mg base 1 "_law_draw" 2 m__law_draw := ok_fn T.f__law_draw sc__law_draw rfl (bo__law_draw T)
theorem sc__law_is : FnScope N__law_is ["told", "due"] (defScope s__law_is) := C8.fnScope_by (by decide +kernel)
theorem bo__law_is (T : TX K mg) : BodyOk P W K mg base N__law_is "_law_is" s__law_is 0 b__law_is := fun f cdv A outer s H E hr => by
  have hu5 := room65 hr
  have hu4 := hr.units
  have hu1 := room1 hr
  have nd : N__law_is.Nodup := sc__law_is.nd
  have tk := takes_of (X := cxOf (L2.CX P W) P W K mg base N__law_is "_law_is" (defScope s__law_is) f cdv A outer s H E) rfl rfl rfl rfl
  have hp : PassesOwn (model P W) _ _ _ := passes_of (X := cxOf (L2.CX P W) P W K mg base N__law_is "_law_is" (defScope s__law_is) f cdv A outer s H E) rfl
  exact (dss_cons (ds_if (dt_isN (de_nm 1))
  (dss_one (ds_ret (de_isN (de_nm 0))))
  dss_nil)
  (dss_cons (ds_if (dt_val (de_isi rfl T.n_isinstance rfl T.n_bool rfl (db_nm 1)))
  (dss_one (ds_ret (de_and (de_isi rfl T.n_isinstance rfl T.n_bool rfl (db_nm 0)) (de_one (de_cmp (op_eqD' hu4) (de_nm 0) (de_nm 1) (by with_unfolding_all rfl))))))
  dss_nil)
  (dss_cons (ds_if (dt_val (de_isi rfl T.n_isinstance rfl T.n_int rfl (db_nm 1)))
  (dss_one (ds_ret (de_and (de_isi rfl T.n_isinstance rfl T.n_int rfl (db_nm 0)) (de_one (de_cmp (op_eqD' hu4) (de_nm 0) (de_nm 1) (by with_unfolding_all rfl))))))
  dss_nil)
  (dss_cons (ds_if (dt_val (de_isi rfl T.n_isinstance rfl T.n_str rfl (db_nm 1)))
  (dss_one (ds_ret (de_and (de_isi rfl T.n_isinstance rfl T.n_str rfl (db_nm 0)) (de_one (de_cmp (op_eqD' hu4) (de_nm 0) (de_nm 1) (by with_unfolding_all rfl))))))
  dss_nil)
  (dss_cons (ds_if (dt_val (de_isi rfl T.n_isinstance rfl T.n_tuple rfl (db_nm 1)))
  (dss_one (ds_ret (de_and (de_isi rfl T.n_isinstance rfl T.n_tuple rfl (db_nm 0)) (de_one (de_cmp (op_eqD' hu4) (de_nm 0) (de_nm 1) (by with_unfolding_all rfl))))))
  dss_nil)
  (dss_one (ds_ret (de_and (de_isi rfl T.n_isinstance rfl T.n_list rfl (db_nm 0)) (de_one (de_cmp (op_eqD' hu4) (de_nm 0) (de_nm 1) (by with_unfolding_all rfl)))))))))))
theorem ok__law_is (T : TX K mg) : FOk' P W K mg base 1 "_law_is" 2 m__law_is := ok_fn T.f__law_is sc__law_is rfl (bo__law_is T)
theorem sc__law_mod : FnScope N__law_mod ["a", "n"] (defScope s__law_mod) := C8.fnScope_by (by decide +kernel)
theorem bo__law_mod (T : TX K mg) : BodyOk P W K mg base N__law_mod "_law_mod" s__law_mod 0 b__law_mod := fun f cdv A outer s H E hr => by
  have hu5 := room65 hr
  have hu4 := hr.units
  have hu1 := room1 hr
  have nd : N__law_mod.Nodup := sc__law_mod.nd
  have tk := takes_of (X := cxOf (L2.CX P W) P W K mg base N__law_mod "_law_mod" (defScope s__law_mod) f cdv A outer s H E) rfl rfl rfl rfl
  have hp : PassesOwn (model P W) _ _ _ := passes_of (X := cxOf (L2.CX P W) P W K mg base N__law_mod "_law_mod" (defScope s__law_mod) f cdv A outer s H E) rfl
  exact (dss_one (ds_ret (de_op op_subD (de_nm 0) (de_op op_mulD (de_op op_divD (de_nm 0) (de_nm 1)) (de_nm 1)))))
theorem ok__law_mod (T : TX K mg) : FOk' P W K mg base 1 "_law_mod" 2 m__law_mod := ok_fn T.f__law_mod sc__law_mod rfl (bo__law_mod T)
theorem sc__law_shuffled : FnScope N__law_shuffled ["tape", "row"] (defScope s__law_shuffled) := C8.fnScope_by (by decide +kernel)
theorem bo__law_shuffled (T : TX K mg) : BodyOk P W K mg base N__law_shuffled "_law_shuffled" s__law_shuffled 1 b__law_shuffled := fun f cdv A outer s H E hr => by
  have hu5 := room65 hr
  have hu4 := hr.units
  have hu1 := room1 hr
  have nd : N__law_shuffled.Nodup := sc__law_shuffled.nd
  have tk := takes_of (X := cxOf (L2.CX P W) P W K mg base N__law_shuffled "_law_shuffled" (defScope s__law_shuffled) f cdv A outer s H E) rfl rfl rfl rfl
  have hp : PassesOwn (model P W) _ _ _ := passes_of (X := cxOf (L2.CX P W) P W K mg base N__law_shuffled "_law_shuffled" (defScope s__law_shuffled) f cdv A outer s H E) rfl
  exact (dss_cons (ds_set (i := 2) nd (dv_f (df_callT1 call_listB rfl T.n_list rfl (db_nm 1))))
  (dss_cons (ds_set (i := 3) nd (dv_f (df_lst da_nil)))
  (dss_cons (ds_for (js := [4]) hp rfl (di_range1 rfl T.n_range (de_call1 call_lenB rfl T.n_len rfl (db_nm 1))) (dg_nm 4 nd (by decide))
  (dss_one (ds_expr (de_mutn (i := 3) PySem.F.plainAttrs_list PySem.F.slot_list_append PySem.F.type_list_append mt_appendC (da_cons (de_mutn (i := 2) PySem.F.plainAttrs_list PySem.F.slot_list_pop PySem.F.type_list_pop mt_popC (da_cons (de_callG (ok__law_draw T) (hr.mono (by decide)) rfl tk (da_cons (de_nm 0) (da_cons (de_call1 call_lenB rfl T.n_len rfl (db_nm 2)) da_nil))) da_nil)) da_nil)))))
  (dss_one (ds_ret (de_nm 3))))))
theorem ok__law_shuffled (T : TX K mg) : FOk' P W K mg base 2 "_law_shuffled" 2 m__law_shuffled := ok_fn T.f__law_shuffled sc__law_shuffled rfl (bo__law_shuffled T)
theorem sc__law_tape : FnScope N__law_tape ["script"] (defScope s__law_tape) := C8.fnScope_by (by decide +kernel)
theorem bo__law_tape (T : TX K mg) : BodyOk P W K mg base N__law_tape "_law_tape" s__law_tape 0 b__law_tape := fun f cdv A outer s H E hr => by
  have hu5 := room65 hr
  have hu4 := hr.units
  have hu1 := room1 hr
  have nd : N__law_tape.Nodup := sc__law_tape.nd
  have tk := takes_of (X := cxOf (L2.CX P W) P W K mg base N__law_tape "_law_tape" (defScope s__law_tape) f cdv A outer s H E) rfl rfl rfl rfl
  have hp : PassesOwn (model P W) _ _ _ := passes_of (X := cxOf (L2.CX P W) P W K mg base N__law_tape "_law_tape" (defScope s__law_tape) f cdv A outer s H E) rfl
  exact (dss_one (ds_ret (de_cell (df_lst (da_cons (de_frozen (df_callT1 call_listB rfl T.n_list rfl (db_nm 0))) (da_cons de_int (da_cons de_int da_nil)))))))
theorem ok__law_tape (T : TX K mg) : FOk' P W K mg base 1 "_law_tape" 1 m__law_tape := ok_fn T.f__law_tape sc__law_tape rfl (bo__law_tape T)
theorem sc_Plant_sources : FnScope N_Plant_sources ["self", "name"] (defScope s_Plant_sources) := C8.fnScope_by (by decide +kernel)
theorem bo_Plant_sources (T : TX K mg) : BodyOk P W K mg base N_Plant_sources "Plant.sources" s_Plant_sources 0 b_Plant_sources := fun f cdv A outer s H E hr => by
  have hu5 := room65 hr
  have hu4 := hr.units
  have hu1 := room1 hr
  have nd : N_Plant_sources.Nodup := sc_Plant_sources.nd
  have tk := takes_of (X := cxOf (L2.CX P W) P W K mg base N_Plant_sources "Plant.sources" (defScope s_Plant_sources) f cdv A outer s H E) rfl rfl rfl rfl
  have hp : PassesOwn (model P W) _ _ _ := passes_of (X := cxOf (L2.CX P W) P W K mg base N_Plant_sources "Plant.sources" (defScope s_Plant_sources) f cdv A outer s H E) rfl
  exact (dss_one (ds_ret (de_frozen (df_callT1 call_listB rfl T.n_list rfl (db_of (de_get2 hu1 (de_fld (fok_cons T.a_Plant__from fok_nil) (de_nm 0) rfl) (de_nm 1) (de_frozen (df_lst da_nil)) ⟨rfl, rfl, rfl, rfl⟩))))))
theorem ok_Plant_sources (T : TX K mg) : MOk' P W K mg base 1 "Plant" "sources" 2 m_Plant_sources := ok_mt T.f_Plant_sources sc_Plant_sources rfl (bo_Plant_sources T)
theorem sc_Plant_way : FnScope N_Plant_way ["self", "name"] (defScope s_Plant_way) := C8.fnScope_by (by decide +kernel)
theorem bo_Plant_way (T : TX K mg) : BodyOk P W K mg base N_Plant_way "Plant.way" s_Plant_way 1 b_Plant_way := fun f cdv A outer s H E hr => by
  have hu5 := room65 hr
  have hu4 := hr.units
  have hu1 := room1 hr
  have nd : N_Plant_way.Nodup := sc_Plant_way.nd
  have tk := takes_of (X := cxOf (L2.CX P W) P W K mg base N_Plant_way "Plant.way" (defScope s_Plant_way) f cdv A outer s H E) rfl rfl rfl rfl
  have hp : PassesOwn (model P W) _ _ _ := passes_of (X := cxOf (L2.CX P W) P W K mg base N_Plant_way "Plant.way" (defScope s_Plant_way) f cdv A outer s H E) rfl
  exact (dss_one (ds_ret (de_get2 hu1 (de_fld (fok_cons T.a_Plant_ways fok_nil) (de_nm 0) rfl) (de_nm 1) (de_tup (da_cons de_str (da_cons (de_callT1 call_tupleB rfl T.n_tuple rfl (db_of (de_meth (alt_cons (ok_Plant_sources T) (hr.mono (by decide)) alt_nil) tk (de_nm 0) (da_cons (de_nm 1) da_nil)))) da_nil))) ⟨rfl, rfl, rfl, rfl⟩)))
theorem ok_Plant_way (T : TX K mg) : MOk' P W K mg base 2 "Plant" "way" 2 m_Plant_way := ok_mt T.f_Plant_way sc_Plant_way rfl (bo_Plant_way T)
theorem sc_State_moved : FnScope N_State_moved ["self", "moves"] (defScope s_State_moved) := C8.fnScope_by (by decide +kernel)
theorem bo_State_moved (T : TX K mg) : BodyOk P W K mg base N_State_moved "State.moved" s_State_moved 2 b_State_moved := fun f cdv A outer s H E hr => by
  have hu5 := room65 hr
  have hu4 := hr.units
  have hu1 := room1 hr
  have nd : N_State_moved.Nodup := sc_State_moved.nd
  have tk := takes_of (X := cxOf (L2.CX P W) P W K mg base N_State_moved "State.moved" (defScope s_State_moved) f cdv A outer s H E) rfl rfl rfl rfl
  have hp : PassesOwn (model P W) _ _ _ := passes_of (X := cxOf (L2.CX P W) P W K mg base N_State_moved "State.moved" (defScope s_State_moved) f cdv A outer s H E) rfl
  exact (dss_cons (ds_setDc (i := 2) rfl nd (di_any (de_nm 1)) (blkOk_by (N := N_State_moved) (sc := defScope s_State_moved) (own := [("start", 3), ("end", 4)]) (by decide +kernel)) (js := [3, 4]) (by decide) (fun _ _ _ _ _ => (dg_tup rfl (dgs_cons (dg_nm 3 nd (by decide)) (dgs_cons (dg_nm 4 nd (by decide)) dgs_nil)))) (fun _ _ _ _ _ => dts_nil) (fun _ _ _ _ _ => (de_nm 3)) (fun _ _ _ _ _ => (de_ix hu4 (de_ix hu4 (de_fld (fok_cons T.a_State__bags fok_nil) (de_nm 0) rfl) (de_nm 3) (fun _ _ => rfl)) de_int (fun _ _ => rfl))) (swapsD rfl rfl rfl (by decide +kernel)))
  (dss_cons (ds_for (js := [3, 4]) hp rfl (di_any (de_nm 1)) (dg_tup rfl (dgs_cons (dg_nm 3 nd (by decide)) (dgs_cons (dg_nm 4 nd (by decide)) dgs_nil)))
  (dss_one (ds_sto hu4 (de_fld (fok_cons T.a_State__bags fok_nil) (de_nm 0) rfl) (de_nm 3) (de_sl (de_ix hu4 (de_fld (fok_cons T.a_State__bags fok_nil) (de_nm 0) rfl) (de_nm 3) (fun _ _ => rfl)) (do_some de_int) do_none))))
  (dss_one (ds_for (js := [3, 4]) hp rfl (di_any (de_nm 1)) (dg_tup rfl (dgs_cons (dg_nm 3 nd (by decide)) (dgs_cons (dg_nm 4 nd (by decide)) dgs_nil)))
  (dss_cons (ds_sto hu4 (de_fld (fok_cons T.a_State__bags fok_nil) (de_nm 0) rfl) (de_nm 4) (de_op op_addD (de_ix hu4 (de_fld (fok_cons T.a_State__bags fok_nil) (de_nm 0) rfl) (de_nm 4) (fun _ _ => rfl)) (de_tup (da_cons (de_ixn (i := 2) hu4 (de_nm 3) (fun _ _ => rfl)) da_nil))))
  (dss_cons (ds_set (i := 5) nd (dv_e (de_meth (alt_cons (ok_Plant_way T) (hr.mono (by decide)) alt_nil) tk (de_fld (fok_cons T.a_State_plant fok_nil) (de_nm 0) rfl) (da_cons (de_nm 4) da_nil))))
  (dss_one (ds_if (dt_cmp (op_eqD' hu4) (de_ixn (i := 5) hu4 de_int (fun _ _ => rfl)) de_str (by with_unfolding_all rfl))
  (dss_one (ds_sto hu4 (de_fld (fok_cons T.a_State__turns fok_nil) (de_nm 0) rfl) (de_nm 4) (de_op op_modD (de_op op_addD (de_idx (de_ixn (i := 5) hu4 de_int (fun _ _ => rfl)) (de_nm 3)) de_int) (de_call1 call_lenB rfl T.n_len rfl (db_of (de_ixn (i := 5) hu4 de_int (fun _ _ => rfl)))))))
  dss_nil))))))))
theorem ok_State_moved (T : TX K mg) : MOk' P W K mg base 3 "State" "moved" 2 m_State_moved := ok_mt T.f_State_moved sc_State_moved rfl (bo_State_moved T)
theorem sc_State_turn : FnScope N_State_turn ["self", "name"] (defScope s_State_turn) := C8.fnScope_by (by decide +kernel)
theorem bo_State_turn (T : TX K mg) : BodyOk P W K mg base N_State_turn "State.turn" s_State_turn 1 b_State_turn := fun f cdv A outer s H E hr => by
  have hu5 := room65 hr
  have hu4 := hr.units
  have hu1 := room1 hr
  have nd : N_State_turn.Nodup := sc_State_turn.nd
  have tk := takes_of (X := cxOf (L2.CX P W) P W K mg base N_State_turn "State.turn" (defScope s_State_turn) f cdv A outer s H E) rfl rfl rfl rfl
  have hp : PassesOwn (model P W) _ _ _ := passes_of (X := cxOf (L2.CX P W) P W K mg base N_State_turn "State.turn" (defScope s_State_turn) f cdv A outer s H E) rfl
  exact (dss_cons (ds_expr (de_meth (alt_cons (ok_Plant_place T) (hr.mono (by decide)) alt_nil) tk (de_fld (fok_cons T.a_State_plant fok_nil) (de_nm 0) rfl) (da_cons (de_nm 1) da_nil)))
  (dss_one (ds_ret (de_ix hu4 (de_fld (fok_cons T.a_State__turns fok_nil) (de_nm 0) rfl) (de_nm 1) (fun _ _ => rfl)))))
theorem ok_State_turn (T : TX K mg) : MOk' P W K mg base 2 "State" "turn" 2 m_State_turn := ok_mt T.f_State_turn sc_State_turn rfl (bo_State_turn T)
theorem sc_in_order : FnScope N_in_order ["state", "name"] (defScope s_in_order) := C8.fnScope_by (by decide +kernel)
theorem bo_in_order (T : TX K mg) : BodyOk P W K mg base N_in_order "in_order" s_in_order 2 b_in_order := fun f cdv A outer s H E hr => by
  have hu5 := room65 hr
  have hu4 := hr.units
  have hu1 := room1 hr
  have nd : N_in_order.Nodup := sc_in_order.nd
  have tk := takes_of (X := cxOf (L2.CX P W) P W K mg base N_in_order "in_order" (defScope s_in_order) f cdv A outer s H E) rfl rfl rfl rfl
  have hp : PassesOwn (model P W) _ _ _ := passes_of (X := cxOf (L2.CX P W) P W K mg base N_in_order "in_order" (defScope s_in_order) f cdv A outer s H E) rfl
  exact (dss_cons (ds_asg (js := [2, 3]) (de_meth (alt_cons (ok_Plant_way T) (hr.mono (by decide)) alt_nil) tk (de_fld (fok_cons T.a_State_plant fok_nil) (de_nm 0) rfl) (da_cons (de_nm 1) da_nil)) (dg_tup rfl (dgs_cons (dg_nm 2 nd (by decide)) (dgs_cons (dg_nm 3 nd (by decide)) dgs_nil))))
  (dss_cons (ds_if (dt_cmp (op_eqD' hu4) (de_nm 2) de_str (by with_unfolding_all rfl))
  (dss_one (ds_ret (de_frozen (df_callT1 call_listB rfl T.n_list rfl (db_nm 3)))))
  dss_nil)
  (dss_cons (ds_set (i := 4) nd (dv_e (de_meth (alt_cons (ok_State_turn T) (hr.mono (by decide)) alt_nil) tk (de_nm 0) (da_cons (de_nm 1) da_nil))))
  (dss_one (ds_ret (de_op op_addD (de_frozen (df_callT1 call_listB rfl T.n_list rfl (db_of (de_sln (i := 3) (do_some (de_nm 4)) do_none)))) (de_frozen (df_callT1 call_listB rfl T.n_list rfl (db_of (de_sln (i := 3) do_none (do_some (de_nm 4))))))))))))
theorem ok_in_order (T : TX K mg) : FOk' P W K mg base 3 "in_order" 2 m_in_order := ok_fn T.f_in_order sc_in_order rfl (bo_in_order T)
theorem sc_State_shut_places : FnScope N_State_shut_places ["self"] (defScope s_State_shut_places) := C8.fnScope_by (by decide +kernel)
theorem bo_State_shut_places (T : TX K mg) : BodyOk P W K mg base N_State_shut_places "State.shut_places" s_State_shut_places 0 b_State_shut_places := fun f cdv A outer s H E hr => by
  have hu5 := room65 hr
  have hu4 := hr.units
  have hu1 := room1 hr
  have nd : N_State_shut_places.Nodup := sc_State_shut_places.nd
  have tk := takes_of (X := cxOf (L2.CX P W) P W K mg base N_State_shut_places "State.shut_places" (defScope s_State_shut_places) f cdv A outer s H E) rfl rfl rfl rfl
  have hp : PassesOwn (model P W) _ _ _ := passes_of (X := cxOf (L2.CX P W) P W K mg base N_State_shut_places "State.shut_places" (defScope s_State_shut_places) f cdv A outer s H E) rfl
  exact (dss_one (ds_ret (de_fld (fok_cons T.a_State__shut fok_nil) (de_nm 0) rfl)))
theorem ok_State_shut_places (T : TX K mg) : MOk' P W K mg base 1 "State" "shut_places" 1 m_State_shut_places := ok_mt T.f_State_shut_places sc_State_shut_places rfl (bo_State_shut_places T)
theorem sc_Plant_target : FnScope N_Plant_target ["self", "name", "goal"] (defScope s_Plant_target) := C8.fnScope_by (by decide +kernel)
theorem bo_Plant_target (T : TX K mg) : BodyOk P W K mg base N_Plant_target "Plant.target" s_Plant_target 1 b_Plant_target := fun f cdv A outer s H E hr => by
  have hu5 := room65 hr
  have hu4 := hr.units
  have hu1 := room1 hr
  have nd : N_Plant_target.Nodup := sc_Plant_target.nd
  have tk := takes_of (X := cxOf (L2.CX P W) P W K mg base N_Plant_target "Plant.target" (defScope s_Plant_target) f cdv A outer s H E) rfl rfl rfl rfl
  have hp : PassesOwn (model P W) _ _ _ := passes_of (X := cxOf (L2.CX P W) P W K mg base N_Plant_target "Plant.target" (defScope s_Plant_target) f cdv A outer s H E) rfl
  exact (dss_cons (ds_set (i := 3) nd (dv_e (de_meth (alt_cons (ok_Plant_place T) (hr.mono (by decide)) alt_nil) tk (de_nm 0) (da_cons (de_nm 1) da_nil))))
  (dss_cons (ds_if (dt_cmp (op_eqD' hu4) (de_ixn (i := 3) hu4 de_int (fun _ _ => rfl)) de_str (by with_unfolding_all rfl))
  (dss_one (ds_ret de_non))
  dss_nil)
  (dss_cons (ds_if (dt_cmp (op_eqD' hu4) (de_ixn (i := 3) hu4 de_int (fun _ _ => rfl)) de_str (by with_unfolding_all rfl))
  (dss_one (ds_ret (de_ixn (i := 3) hu4 de_int (fun _ _ => rfl))))
  dss_nil)
  (dss_cons (ds_if (dt_cmp (op_eqD' hu4) (de_ixn (i := 3) hu4 de_int (fun _ _ => rfl)) de_str (by with_unfolding_all rfl))
  (dss_one (ds_ret (de_ixn (i := 3) hu4 de_int (fun _ _ => rfl))))
  dss_nil)
  (dss_cons (ds_for (js := [4, 5]) hp rfl (di_any (de_ixn (i := 3) hu4 de_int (fun _ _ => rfl))) (dg_tup rfl (dgs_cons (dg_nm 4 nd (by decide)) (dgs_cons (dg_nm 5 nd (by decide)) dgs_nil)))
  (dss_one (ds_if (dt_cmp (op_eqD' hu4) (de_nm 4) (de_nm 2) (by with_unfolding_all rfl))
  (dss_one (ds_ret (de_nm 5)))
  dss_nil)))
  (dss_one (ds_ret (de_ixn (i := 3) hu4 de_int (fun _ _ => rfl)))))))))
theorem ok_Plant_target (T : TX K mg) : MOk' P W K mg base 2 "Plant" "target" 3 m_Plant_target := ok_mt T.f_Plant_target sc_Plant_target rfl (bo_Plant_target T)
theorem sc_wanted : FnScope N_wanted ["state", "name"] (defScope s_wanted) := C8.fnScope_by (by decide +kernel)
theorem bo_wanted (T : TX K mg) : BodyOk P W K mg base N_wanted "wanted" s_wanted 2 b_wanted := fun f cdv A outer s H E hr => by
  have hu5 := room65 hr
  have hu4 := hr.units
  have hu1 := room1 hr
  have nd : N_wanted.Nodup := sc_wanted.nd
  have tk := takes_of (X := cxOf (L2.CX P W) P W K mg base N_wanted "wanted" (defScope s_wanted) f cdv A outer s H E) rfl rfl rfl rfl
  have hp : PassesOwn (model P W) _ _ _ := passes_of (X := cxOf (L2.CX P W) P W K mg base N_wanted "wanted" (defScope s_wanted) f cdv A outer s H E) rfl
  exact (dss_cons (ds_set (i := 2) nd (dv_e (de_meth (alt_cons (ok_State_bags T) (hr.mono (by decide)) alt_nil) tk (de_nm 0) (da_cons (de_nm 1) da_nil))))
  (dss_cons (ds_if (dt_cmp (op_eqD' hu4) (de_call1 call_lenB rfl T.n_len rfl (db_nm 2)) de_int (by with_unfolding_all rfl))
  (dss_one (ds_ret de_non))
  dss_nil)
  (dss_one (ds_ret (de_meth (alt_cons (ok_Plant_target T) (hr.mono (by decide)) alt_nil) tk (de_fld (fok_cons T.a_State_plant fok_nil) (de_nm 0) rfl) (da_cons (de_nm 1) (da_cons (de_ix hu4 (de_ixn (i := 2) hu4 de_int (fun _ _ => rfl)) de_int (fun _ _ => rfl)) da_nil)))))))
theorem ok_wanted (T : TX K mg) : FOk' P W K mg base 3 "wanted" 2 m_wanted := ok_fn T.f_wanted sc_wanted rfl (bo_wanted T)
theorem sc_wants : FnScope N_wants ["state"] (defScope s_wants) := C8.fnScope_by (by decide +kernel)
theorem bo_wants (T : TX K mg) : BodyOk P W K mg base N_wants "wants" s_wants 3 b_wants := fun f cdv A outer s H E hr => by
  have hu5 := room65 hr
  have hu4 := hr.units
  have hu1 := room1 hr
  have nd : N_wants.Nodup := sc_wants.nd
  have tk := takes_of (X := cxOf (L2.CX P W) P W K mg base N_wants "wants" (defScope s_wants) f cdv A outer s H E) rfl rfl rfl rfl
  have hp : PassesOwn (model P W) _ _ _ := passes_of (X := cxOf (L2.CX P W) P W K mg base N_wants "wants" (defScope s_wants) f cdv A outer s H E) rfl
  exact (dss_cons (ds_set (i := 1) nd (dv_f df_dicK))
  (dss_cons (ds_for (js := [2]) hp rfl (di_any (de_meth0 (alt_cons (ok_Plant_names T) (hr.mono (by decide)) alt_nil) tk (de_fld (fok_cons T.a_State_plant fok_nil) (de_nm 0) rfl))) (dg_nm 2 nd (by decide))
  (dss_cons (ds_set (i := 3) nd (dv_e (de_callG (ok_wanted T) (hr.mono (by decide)) rfl tk (da_cons (de_nm 0) (da_cons (de_nm 2) da_nil)))))
  (dss_one (ds_if (PW.pt (dw_and (dt_notN (de_nm 3)) (dw_and (dt_in (op_notInD' hu5) (de_nm 2) (db_of (de_meth0 (alt_cons (ok_State_shut_places T) (hr.mono (by decide)) alt_nil) tk (de_nm 0))) (by with_unfolding_all rfl)) (dw_and1 (dt_in (op_notInD' hu5) (de_nm 3) (db_of (de_meth0 (alt_cons (ok_State_shut_places T) (hr.mono (by decide)) alt_nil) tk (de_nm 0))) (by with_unfolding_all rfl))))))
  (dss_one (ds_stn (i := 1) hu4 (de_nm 2) (de_nm 3)))
  dss_nil))))
  (dss_one (ds_ret (de_nm 1)))))
theorem ok_wants (T : TX K mg) : FOk' P W K mg base 4 "wants" 1 m_wants := ok_fn T.f_wants sc_wants rfl (bo_wants T)
theorem sc_winners : FnScope N_winners ["state"] (defScope s_winners) := C8.fnScope_by (by decide +kernel)
theorem bo_winners (T : TX K mg) : BodyOk P W K mg base N_winners "winners" s_winners 4 b_winners := fun f cdv A outer s H E hr => by
  have hu5 := room65 hr
  have hu4 := hr.units
  have hu1 := room1 hr
  have nd : N_winners.Nodup := sc_winners.nd
  have tk := takes_of (X := cxOf (L2.CX P W) P W K mg base N_winners "winners" (defScope s_winners) f cdv A outer s H E) rfl rfl rfl rfl
  have hp : PassesOwn (model P W) _ _ _ := passes_of (X := cxOf (L2.CX P W) P W K mg base N_winners "winners" (defScope s_winners) f cdv A outer s H E) rfl
  exact (dss_cons (ds_set (i := 1) nd (dv_e (de_callG (ok_wants T) (hr.mono (by decide)) rfl tk (da_cons (de_nm 0) da_nil))))
  (dss_cons (ds_set (i := 2) nd (dv_f df_dicK))
  (dss_cons (ds_for (js := [3]) hp rfl (di_any (de_frozen (df_sortset hu4 rfl rfl T.n_sorted rfl T.n_set (db_of (de_frozen (df_lc rfl nd (di_any (de_nm 1)) (blkOk_by (N := N_winners) (sc := defScope s_winners) (own := [("source", 4)]) (by decide +kernel)) (js := [4]) (by decide) (fun _ _ _ _ _ => (dg_nm 4 nd (by decide))) (fun _ _ _ _ _ => dts_nil) (fun _ _ _ _ _ => (de_ixn (i := 1) hu4 (de_nm 4) (fun _ _ => rfl))))))))) (dg_nm 3 nd (by decide))
  (dss_one (ds_for (js := [4]) hp rfl (di_any (de_callG (ok_in_order T) (hr.mono (by decide)) rfl tk (da_cons (de_nm 0) (da_cons (de_nm 3) da_nil)))) (dg_nm 4 nd (by decide))
  (dss_one (ds_if (PW.pt (dw_and (dt_in (op_notInD' hu5) (de_nm 3) (db_nm 2) (by with_unfolding_all rfl)) (dw_and1 (dt_cmp (op_eqD' hu4) (de_getn1 (i := 1) hu1 (de_nm 4) ⟨rfl, rfl, rfl, rfl⟩) (de_nm 3) (by with_unfolding_all rfl)))))
  (dss_one (ds_stn (i := 2) hu4 (de_nm 3) (de_nm 4)))
  dss_nil)))))
  (dss_one (ds_ret (de_nm 2))))))
theorem ok_winners (T : TX K mg) : FOk' P W K mg base 5 "winners" 1 m_winners := ok_fn T.f_winners sc_winners rfl (bo_winners T)
theorem sc_moves_of : FnScope N_moves_of ["state"] (defScope s_moves_of) := C8.fnScope_by (by decide +kernel)
theorem bo_moves_of (T : TX K mg) : BodyOk P W K mg base N_moves_of "moves_of" s_moves_of 5 b_moves_of := fun f cdv A outer s H E hr => by
  have hu5 := room65 hr
  have hu4 := hr.units
  have hu1 := room1 hr
  have nd : N_moves_of.Nodup := sc_moves_of.nd
  have tk := takes_of (X := cxOf (L2.CX P W) P W K mg base N_moves_of "moves_of" (defScope s_moves_of) f cdv A outer s H E) rfl rfl rfl rfl
  have hp : PassesOwn (model P W) _ _ _ := passes_of (X := cxOf (L2.CX P W) P W K mg base N_moves_of "moves_of" (defScope s_moves_of) f cdv A outer s H E) rfl
  exact (dss_cons (ds_set (i := 1) nd (dv_e (de_callG (ok_winners T) (hr.mono (by decide)) rfl tk (da_cons (de_nm 0) da_nil))))
  (dss_cons (ds_setDc (i := 2) rfl nd (di_any (de_nm 1)) (blkOk_by (N := N_moves_of) (sc := defScope s_moves_of) (own := [("name", 3)]) (by decide +kernel)) (js := [3]) (by decide) (fun _ _ _ _ _ => (dg_nm 3 nd (by decide))) (fun _ _ _ _ _ => dts_nil) (fun _ _ _ _ _ => (de_ixn (i := 1) hu4 (de_nm 3) (fun _ _ => rfl))) (fun _ _ _ _ _ => (de_nm 3)) (swapsD rfl rfl rfl (by decide +kernel)))
  (dss_cons (ds_set (i := 4) nd (dv_e de_bl))
  (dss_cons (ds_while (n := 1000) hp (dt_val (de_nm 4)) (dss_cons (ds_set (i := 4) nd (dv_e de_bl))
  (dss_one (ds_for (js := [5]) hp rfl (di_any (de_frozen (df_call1 (call_sortedB hu4 rfl) rfl T.n_sorted rfl (db_nm 2)))) (dg_nm 5 nd (by decide))
  (dss_cons (ds_set (i := 6) nd (dv_e (de_ixn (i := 2) hu4 (de_nm 5) (fun _ _ => rfl))))
  (dss_one (ds_if (PW.pt (dw_and (dt_val (de_meth (alt_cons (ok_State_is_full T) (hr.mono (by decide)) alt_nil) tk (de_nm 0) (da_cons (de_nm 6) da_nil))) (dw_and1 (dt_in (op_notInD' hu5) (de_nm 6) (db_nm 2) (by with_unfolding_all rfl)))))
  (dss_cons (ds_expr (de_mutn (i := 2) PySem.F.plainAttrs_dict PySem.F.slot_dict_pop PySem.F.type_dict_pop mt_dpopC (da_cons (de_nm 5) da_nil)))
  (dss_one (ds_set (i := 4) nd (dv_e de_bl))))
  dss_nil)))))))
  (dss_one (ds_ret (de_frozen (df_sortitems hu4 rfl rfl T.n_sorted (db_nm 2)))))))))
theorem ok_moves_of (T : TX K mg) : FOk' P W K mg base 6 "moves_of" 1 m_moves_of := ok_fn T.f_moves_of sc_moves_of rfl (bo_moves_of T)
theorem sc_step : FnScope N_step ["state"] (defScope s_step) := C8.fnScope_by (by decide +kernel)
theorem bo_step (T : TX K mg) : BodyOk P W K mg base N_step "step" s_step 6 b_step := fun f cdv A outer s H E hr => by
  have hu5 := room65 hr
  have hu4 := hr.units
  have hu1 := room1 hr
  have nd : N_step.Nodup := sc_step.nd
  have tk := takes_of (X := cxOf (L2.CX P W) P W K mg base N_step "step" (defScope s_step) f cdv A outer s H E) rfl rfl rfl rfl
  have hp : PassesOwn (model P W) _ _ _ := passes_of (X := cxOf (L2.CX P W) P W K mg base N_step "step" (defScope s_step) f cdv A outer s H E) rfl
  exact (dss_cons (ds_set (i := 1) nd (dv_e (de_callG (ok_moves_of T) (hr.mono (by decide)) rfl tk (da_cons (de_nm 0) da_nil))))
  (dss_cons (ds_expr (de_meth (alt_cons (ok_State_moved T) (hr.mono (by decide)) alt_nil) tk (de_nm 0) (da_cons (de_nm 1) da_nil)))
  (dss_one (ds_ret (de_nm 1)))))
theorem ok_step (T : TX K mg) : FOk' P W K mg base 7 "step" 1 m_step := ok_fn T.f_step sc_step rfl (bo_step T)
theorem sc_is_name : FnScope N_is_name ["text"] (defScope s_is_name) := C8.fnScope_by (by decide +kernel)
theorem bo_is_name (T : TX K mg) : BodyOk P W K mg base N_is_name "is_name" s_is_name 0 b_is_name := fun f cdv A outer s H E hr => by
  have hu5 := room65 hr
  have hu4 := hr.units
  have hu1 := room1 hr
  have nd : N_is_name.Nodup := sc_is_name.nd
  have tk := takes_of (X := cxOf (L2.CX P W) P W K mg base N_is_name "is_name" (defScope s_is_name) f cdv A outer s H E) rfl rfl rfl rfl
  have hp : PassesOwn (model P W) _ _ _ := passes_of (X := cxOf (L2.CX P W) P W K mg base N_is_name "is_name" (defScope s_is_name) f cdv A outer s H E) rfl
  exact (dss_cons (ds_if (PW.pt (dw_or (dt_not (dt_chain (op_leD' hu4) (op_leD' hu4) de_int (de_call1 call_lenB rfl T.n_len rfl (db_nm 0)) (gint rfl T.g_NAME_MOST) (by with_unfolding_all rfl))) (dw_or1 (dt_in (op_notInD' hu5) (de_ixn (i := 0) hu4 de_int (fun _ _ => rfl)) (db_of (gstr rfl T.g_LETTERS)) (by with_unfolding_all rfl)))))
  (dss_one (ds_ret de_bl))
  dss_nil)
  (dss_one (ds_ret (de_call1 (call_allB rfl) rfl T.n_all rfl (db_of (de_frozen (df_lc rfl nd (di_any (de_nm 0)) (blkOk_by (N := N_is_name) (sc := defScope s_is_name) (own := [("sign", 1)]) (by decide +kernel)) (js := [1]) (by decide) (fun _ _ _ _ _ => (dg_nm 1 nd (by decide))) (fun _ _ _ _ _ => dts_nil) (fun _ _ _ _ _ => (de_in (op_inD' hu5) (de_nm 1) (db_of (de_op op_addD (gstr rfl T.g_LETTERS) de_str)) (by with_unfolding_all rfl))))))))))
theorem ok_is_name (T : TX K mg) : FOk' P W K mg base 1 "is_name" 1 m_is_name := ok_fn T.f_is_name sc_is_name rfl (bo_is_name T)
theorem sc_place_fits : FnScope N_place_fits ["place"] (defScope s_place_fits) := C8.fnScope_by (by decide +kernel)
theorem bo_place_fits (T : TX K mg) : BodyOk P W K mg base N_place_fits "place_fits" s_place_fits 1 b_place_fits := fun f cdv A outer s H E hr => by
  have hu5 := room65 hr
  have hu4 := hr.units
  have hu1 := room1 hr
  have nd : N_place_fits.Nodup := sc_place_fits.nd
  have tk := takes_of (X := cxOf (L2.CX P W) P W K mg base N_place_fits "place_fits" (defScope s_place_fits) f cdv A outer s H E) rfl rfl rfl rfl
  have hp : PassesOwn (model P W) _ _ _ := passes_of (X := cxOf (L2.CX P W) P W K mg base N_place_fits "place_fits" (defScope s_place_fits) f cdv A outer s H E) rfl
  exact (dss_cons (ds_if (PW.pt (dw_or (dt_cmp (op_eqD' hu4) (de_call1 call_lenB rfl T.n_len rfl (db_nm 0)) de_int (by with_unfolding_all rfl)) (dw_or1 (dt_in (op_notInD' hu5) (de_ixn (i := 0) hu4 de_int (fun _ _ => rfl)) (db_of (gtupl rfl T.g_KINDS)) (by with_unfolding_all rfl)))))
  (dss_one (ds_ret de_bl))
  dss_nil)
  (dss_cons (ds_if (dt_cmp (op_eqD' hu4) (de_ixn (i := 0) hu4 de_int (fun _ _ => rfl)) de_str (by with_unfolding_all rfl))
  (dss_one (ds_ret (de_cmp (op_eqD' hu4) (de_call1 call_lenB rfl T.n_len rfl (db_nm 0)) de_int (by with_unfolding_all rfl))))
  dss_nil)
  (dss_cons (ds_if (dt_cmp (op_eqD' hu4) (de_ixn (i := 0) hu4 de_int (fun _ _ => rfl)) de_str (by with_unfolding_all rfl))
  (dss_one (ds_ret (de_and (de_cmp (op_eqD' hu4) (de_call1 call_lenB rfl T.n_len rfl (db_nm 0)) de_int (by with_unfolding_all rfl)) (de_one (de_chain (op_leD' hu4) (op_leD' hu4) de_int (de_ixn (i := 0) hu4 de_int (fun _ _ => rfl)) (gint rfl T.g_ROOM_MOST) (by with_unfolding_all rfl))))))
  dss_nil)
  (dss_cons (ds_if (dt_cmp (op_eqD' hu4) (de_ixn (i := 0) hu4 de_int (fun _ _ => rfl)) de_str (by with_unfolding_all rfl))
  (dss_one (ds_ret (de_and (de_cmp (op_eqD' hu4) (de_call1 call_lenB rfl T.n_len rfl (db_nm 0)) de_int (by with_unfolding_all rfl)) (de_one (de_chain (op_leD' hu4) (op_leD' hu4) de_int (de_ixn (i := 0) hu4 de_int (fun _ _ => rfl)) (gint rfl T.g_ROOM_MOST) (by with_unfolding_all rfl))))))
  dss_nil)
  (dss_cons (ds_if (dt_cmp (op_neD' hu4) (de_call1 call_lenB rfl T.n_len rfl (db_nm 0)) de_int (by with_unfolding_all rfl))
  (dss_one (ds_ret de_bl))
  dss_nil)
  (dss_cons (ds_setLc (i := 1) rfl nd (di_any (de_ixn (i := 0) hu4 de_int (fun _ _ => rfl))) (blkOk_by (N := N_place_fits) (sc := defScope s_place_fits) (own := [("goal", 2), ("target", 3)]) (by decide +kernel)) (js := [2, 3]) (by decide) (fun _ _ _ _ _ => (dg_tup rfl (dgs_cons (dg_nm 2 nd (by decide)) (dgs_cons (dg_nm 3 nd (by decide)) dgs_nil)))) (fun _ _ _ _ _ => dts_nil) (fun _ _ _ _ _ => (de_nm 2)) (swaps rfl rfl rfl (by decide +kernel)))
  (dss_one (ds_ret (de_and (de_cmp (op_eqD' hu4) (de_nm 1) (de_frozen (df_sortset hu4 rfl rfl T.n_sorted rfl T.n_set (db_nm 1))) (by with_unfolding_all rfl)) (de_one (de_call1 (call_allB rfl) rfl T.n_all rfl (db_of (de_frozen (df_lc rfl nd (di_any (de_nm 1)) (blkOk_by (N := N_place_fits) (sc := defScope s_place_fits) (own := [("goal", 2)]) (by decide +kernel)) (js := [2]) (by decide) (fun _ _ _ _ _ => (dg_nm 2 nd (by decide))) (fun _ _ _ _ _ => dts_nil) (fun _ _ _ _ _ => (de_callG (ok_is_name T) (hr.mono (by decide)) rfl takes0 (da_cons (de_nm 2) da_nil)))))))))))))))))
theorem ok_place_fits (T : TX K mg) : FOk' P W K mg base 2 "place_fits" 1 m_place_fits := ok_fn T.f_place_fits sc_place_fits rfl (bo_place_fits T)
theorem sc_targets_of : FnScope N_targets_of ["place"] (defScope s_targets_of) := C8.fnScope_by (by decide +kernel)
theorem bo_targets_of (T : TX K mg) : BodyOk P W K mg base N_targets_of "targets_of" s_targets_of 0 b_targets_of := fun f cdv A outer s H E hr => by
  have hu5 := room65 hr
  have hu4 := hr.units
  have hu1 := room1 hr
  have nd : N_targets_of.Nodup := sc_targets_of.nd
  have tk := takes_of (X := cxOf (L2.CX P W) P W K mg base N_targets_of "targets_of" (defScope s_targets_of) f cdv A outer s H E) rfl rfl rfl rfl
  have hp : PassesOwn (model P W) _ _ _ := passes_of (X := cxOf (L2.CX P W) P W K mg base N_targets_of "targets_of" (defScope s_targets_of) f cdv A outer s H E) rfl
  exact (dss_cons (ds_if (dt_cmp (op_eqD' hu4) (de_ixn (i := 0) hu4 de_int (fun _ _ => rfl)) de_str (by with_unfolding_all rfl))
  (dss_one (ds_ret (de_frozen (df_lst (da_cons (de_ixn (i := 0) hu4 de_int (fun _ _ => rfl)) da_nil)))))
  dss_nil)
  (dss_cons (ds_if (dt_cmp (op_eqD' hu4) (de_ixn (i := 0) hu4 de_int (fun _ _ => rfl)) de_str (by with_unfolding_all rfl))
  (dss_one (ds_ret (de_frozen (df_lst (da_cons (de_ixn (i := 0) hu4 de_int (fun _ _ => rfl)) da_nil)))))
  dss_nil)
  (dss_cons (ds_if (dt_cmp (op_eqD' hu4) (de_ixn (i := 0) hu4 de_int (fun _ _ => rfl)) de_str (by with_unfolding_all rfl))
  (dss_one (ds_ret (de_op op_addD (de_frozen (df_lc rfl nd (di_any (de_ixn (i := 0) hu4 de_int (fun _ _ => rfl))) (blkOk_by (N := N_targets_of) (sc := defScope s_targets_of) (own := [("goal", 1), ("target", 2)]) (by decide +kernel)) (js := [1, 2]) (by decide) (fun _ _ _ _ _ => (dg_tup rfl (dgs_cons (dg_nm 1 nd (by decide)) (dgs_cons (dg_nm 2 nd (by decide)) dgs_nil)))) (fun _ _ _ _ _ => dts_nil) (fun _ _ _ _ _ => (de_nm 2)))) (de_frozen (df_lst (da_cons (de_ixn (i := 0) hu4 de_int (fun _ _ => rfl)) da_nil))))))
  dss_nil)
  (dss_one (ds_ret (de_frozen (df_lst da_nil)))))))
theorem ok_targets_of (T : TX K mg) : FOk' P W K mg base 1 "targets_of" 1 m_targets_of := ok_fn T.f_targets_of sc_targets_of rfl (bo_targets_of T)
theorem sc_way_fits : FnScope N_way_fits ["way", "sources"] (defScope s_way_fits) := C8.fnScope_by (by decide +kernel)
theorem bo_way_fits (T : TX K mg) : BodyOk P W K mg base N_way_fits "way_fits" s_way_fits 0 b_way_fits := fun f cdv A outer s H E hr => by
  have hu5 := room65 hr
  have hu4 := hr.units
  have hu1 := room1 hr
  have nd : N_way_fits.Nodup := sc_way_fits.nd
  have tk := takes_of (X := cxOf (L2.CX P W) P W K mg base N_way_fits "way_fits" (defScope s_way_fits) f cdv A outer s H E) rfl rfl rfl rfl
  have hp : PassesOwn (model P W) _ _ _ := passes_of (X := cxOf (L2.CX P W) P W K mg base N_way_fits "way_fits" (defScope s_way_fits) f cdv A outer s H E) rfl
  exact (dss_one (ds_ret (de_and (de_cmp (op_eqD' hu4) (de_call1 call_lenB rfl T.n_len rfl (db_nm 0)) de_int (by with_unfolding_all rfl)) (de_and (de_in (op_inD' hu5) (de_ixn (i := 0) hu4 de_int (fun _ _ => rfl)) (db_of (de_tup (da_cons de_str (da_cons de_str da_nil)))) (by with_unfolding_all rfl)) (de_one (de_cmp (op_eqD' hu4) (de_frozen (df_call1 (call_sortedB hu4 rfl) rfl T.n_sorted rfl (db_of (de_ixn (i := 0) hu4 de_int (fun _ _ => rfl))))) (de_nm 1) (by with_unfolding_all rfl)))))))
theorem ok_way_fits (T : TX K mg) : FOk' P W K mg base 1 "way_fits" 2 m_way_fits := ok_fn T.f_way_fits sc_way_fits rfl (bo_way_fits T)
theorem sc_Plant__check : FnScope N_Plant__check ["self"] (defScope s_Plant__check) := C8.fnScope_by (by decide +kernel)
theorem bo_Plant__check (T : TX K mg) : BodyOk P W K mg base N_Plant__check "Plant._check" s_Plant__check 2 b_Plant__check := fun f cdv A outer s H E hr => by
  have hu5 := room65 hr
  have hu4 := hr.units
  have hu1 := room1 hr
  have nd : N_Plant__check.Nodup := sc_Plant__check.nd
  have tk := takes_of (X := cxOf (L2.CX P W) P W K mg base N_Plant__check "Plant._check" (defScope s_Plant__check) f cdv A outer s H E) rfl rfl rfl rfl
  have hp : PassesOwn (model P W) _ _ _ := passes_of (X := cxOf (L2.CX P W) P W K mg base N_Plant__check "Plant._check" (defScope s_Plant__check) f cdv A outer s H E) rfl
  exact (dss_cons (ds_if (dt_cmp (op_gtD' hu4) (de_call1 call_lenB rfl T.n_len rfl (db_of (de_fld (fok_cons T.a_Plant_places fok_nil) (de_nm 0) rfl))) (gint rfl T.g_PLACES_MOST) (by with_unfolding_all rfl))
  (dss_one ds_never)
  dss_nil)
  (dss_cons (ds_for (js := [1]) hp rfl (di_any (de_frozen (df_call1 (call_sortedB hu4 rfl) rfl T.n_sorted rfl (db_of (de_fld (fok_cons T.a_Plant_places fok_nil) (de_nm 0) rfl))))) (dg_nm 1 nd (by decide))
  (dss_cons (ds_if (PW.pt (dw_or (dt_not (dt_val (de_callG (ok_is_name T) (hr.mono (by decide)) rfl tk (da_cons (de_nm 1) da_nil)))) (dw_or1 (dt_not (dt_val (de_callG (ok_place_fits T) (hr.mono (by decide)) rfl tk (da_cons (de_ix hu4 (de_fld (fok_cons T.a_Plant_places fok_nil) (de_nm 0) rfl) (de_nm 1) (fun _ _ => rfl)) da_nil)))))))
  (dss_one ds_never)
  dss_nil)
  (dss_one (ds_if (dt_not (dt_val (de_call1 (call_allB rfl) rfl T.n_all rfl (db_of (de_frozen (df_lc rfl nd (di_any (de_callG (ok_targets_of T) (hr.mono (by decide)) rfl tk (da_cons (de_ix hu4 (de_fld (fok_cons T.a_Plant_places fok_nil) (de_nm 0) rfl) (de_nm 1) (fun _ _ => rfl)) da_nil))) (blkOk_by (N := N_Plant__check) (sc := defScope s_Plant__check) (own := [("target", 2)]) (by decide +kernel)) (js := [2]) (by decide) (fun _ _ _ _ _ => (dg_nm 2 nd (by decide))) (fun _ _ _ _ _ => dts_nil) (fun _ _ _ _ _ => (de_and (de_in (op_inD' hu5) (de_nm 2) (db_of (de_fld (fok_cons T.a_Plant_places fok_nil) (de_nm 0) rfl)) (by with_unfolding_all rfl)) (de_one (de_cmp (op_neD' hu4) (de_nm 2) (de_nm 1) (by with_unfolding_all rfl)))))))))))
  (dss_one ds_never)
  dss_nil))))
  (dss_cons (ds_fld (fok_cons T.a_Plant__from fok_nil) (de_nm 0) (de_frozen (df_dc rfl nd (di_any (de_fld (fok_cons T.a_Plant_places fok_nil) (de_nm 0) rfl)) (blkOk_by (N := N_Plant__check) (sc := defScope s_Plant__check) (own := [("name", 1)]) (by decide +kernel)) (js := [1]) (by decide) (fun _ _ _ _ _ => (dg_nm 1 nd (by decide))) (fun _ _ _ _ _ => dts_nil) (fun _ _ _ _ _ => (de_nm 1)) (fun _ _ _ _ _ => (de_cell (df_lst da_nil))))) rfl)
  (dss_cons (ds_for (js := [1]) hp rfl (di_any (de_frozen (df_call1 (call_sortedB hu4 rfl) rfl T.n_sorted rfl (db_of (de_fld (fok_cons T.a_Plant_places fok_nil) (de_nm 0) rfl))))) (dg_nm 1 nd (by decide))
  (dss_one (ds_for (js := [2]) hp rfl (di_any (de_frozen (df_sortset hu4 rfl rfl T.n_sorted rfl T.n_set (db_of (de_callG (ok_targets_of T) (hr.mono (by decide)) rfl tk (da_cons (de_ix hu4 (de_fld (fok_cons T.a_Plant_places fok_nil) (de_nm 0) rfl) (de_nm 1) (fun _ _ => rfl)) da_nil)))))) (dg_nm 2 nd (by decide))
  (dss_one (ds_expr (de_muto PySem.F.plainAttrs_list PySem.F.slot_list_append PySem.F.type_list_append mt_appendC (de_ix hu4 (de_fld (fok_cons T.a_Plant__from fok_nil) (de_nm 0) rfl) (de_nm 2) (fun _ _ => rfl)) (da_cons (de_nm 1) da_nil)))))))
  (dss_one (ds_for (js := [1]) hp rfl (di_any (de_frozen (df_call1 (call_sortedB hu4 rfl) rfl T.n_sorted rfl (db_of (de_fld (fok_cons T.a_Plant_ways fok_nil) (de_nm 0) rfl))))) (dg_nm 1 nd (by decide))
  (dss_one (ds_if (PW.pt (dw_or (dt_in (op_notInD' hu5) (de_nm 1) (db_of (de_fld (fok_cons T.a_Plant_places fok_nil) (de_nm 0) rfl)) (by with_unfolding_all rfl)) (dw_or1 (dt_not (dt_val (de_callG (ok_way_fits T) (hr.mono (by decide)) rfl tk (da_cons (de_ix hu4 (de_fld (fok_cons T.a_Plant_ways fok_nil) (de_nm 0) rfl) (de_nm 1) (fun _ _ => rfl)) (da_cons (de_meth (alt_cons (ok_Plant_sources T) (hr.mono (by decide)) alt_nil) tk (de_nm 0) (da_cons (de_nm 1) da_nil)) da_nil))))))))
  (dss_one ds_never)
  dss_nil))))))))
theorem ok_Plant__check (T : TX K mg) : MOk' P W K mg base 3 "Plant" "_check" 1 m_Plant__check := ok_mt T.f_Plant__check sc_Plant__check rfl (bo_Plant__check T)
theorem sc_Plant___init__ : FnScope N_Plant___init__ ["self", "places", "ways"] (defScope s_Plant___init__) := C8.fnScope_by (by decide +kernel)
theorem bo_Plant___init__ (T : TX K mg) : BodyOk P W K mg base N_Plant___init__ "Plant.__init__" s_Plant___init__ 3 b_Plant___init__ := fun f cdv A outer s H E hr => by
  have hu5 := room65 hr
  have hu4 := hr.units
  have hu1 := room1 hr
  have nd : N_Plant___init__.Nodup := sc_Plant___init__.nd
  have tk := takes_of (X := cxOf (L2.CX P W) P W K mg base N_Plant___init__ "Plant.__init__" (defScope s_Plant___init__) f cdv A outer s H E) rfl rfl rfl rfl
  have hp : PassesOwn (model P W) _ _ _ := passes_of (X := cxOf (L2.CX P W) P W K mg base N_Plant___init__ "Plant.__init__" (defScope s_Plant___init__) f cdv A outer s H E) rfl
  exact (dss_cons (ds_fld (fok_cons T.a_Plant_places fok_nil) (de_nm 0) (de_frozen (df_callT1 call_dictB rfl T.n_dict rfl (db_nm 1))) rfl)
  (dss_cons (ds_fld (fok_cons T.a_Plant_ways fok_nil) (de_nm 0) (de_frozen (df_callT1 call_dictB rfl T.n_dict rfl (db_nm 2))) rfl)
  (dss_one (ds_expr (de_meth0 (alt_cons (ok_Plant__check T) (hr.mono (by decide)) alt_nil) tk (de_nm 0))))))
theorem ok_Plant___init__ (T : TX K mg) : KOk' P W K mg base 4 "Plant" 3 m_Plant___init__ := ok_mk T.f_Plant___init__ sc_Plant___init__ rfl (bo_Plant___init__ T)
theorem sc_State___init__ : FnScope N_State___init__ ["self", "plant"] (defScope s_State___init__) := C8.fnScope_by (by decide +kernel)
theorem bo_State___init__ (T : TX K mg) : BodyOk P W K mg base N_State___init__ "State.__init__" s_State___init__ 0 b_State___init__ := fun f cdv A outer s H E hr => by
  have hu5 := room65 hr
  have hu4 := hr.units
  have hu1 := room1 hr
  have nd : N_State___init__.Nodup := sc_State___init__.nd
  have tk := takes_of (X := cxOf (L2.CX P W) P W K mg base N_State___init__ "State.__init__" (defScope s_State___init__) f cdv A outer s H E) rfl rfl rfl rfl
  have hp : PassesOwn (model P W) _ _ _ := passes_of (X := cxOf (L2.CX P W) P W K mg base N_State___init__ "State.__init__" (defScope s_State___init__) f cdv A outer s H E) rfl
  exact (dss_cons (ds_fld (fok_cons T.a_State_plant fok_nil) (de_nm 0) (de_nm 1) rfl)
  (dss_cons (ds_fld (fok_cons T.a_State__bags fok_nil) (de_nm 0) (de_cell (df_dc rfl nd (di_any (de_fld (fok_cons T.a_Plant_places fok_nil) (de_nm 1) rfl)) (blkOk_by (N := N_State___init__) (sc := defScope s_State___init__) (own := [("name", 2)]) (by decide +kernel)) (js := [2]) (by decide) (fun _ _ _ _ _ => (dg_nm 2 nd (by decide))) (fun _ _ _ _ _ => dts_nil) (fun _ _ _ _ _ => (de_nm 2)) (fun _ _ _ _ _ => (de_tup da_nil)))) rfl)
  (dss_cons (ds_fld (fok_cons T.a_State__turns fok_nil) (de_nm 0) (de_cell (df_dc rfl nd (di_any (de_fld (fok_cons T.a_Plant_places fok_nil) (de_nm 1) rfl)) (blkOk_by (N := N_State___init__) (sc := defScope s_State___init__) (own := [("name", 2)]) (by decide +kernel)) (js := [2]) (by decide) (fun _ _ _ _ _ => (dg_nm 2 nd (by decide))) (fun _ _ _ _ _ => dts_nil) (fun _ _ _ _ _ => (de_nm 2)) (fun _ _ _ _ _ => de_int))) rfl)
  (dss_one (ds_fld (fok_cons T.a_State__shut fok_nil) (de_nm 0) (de_tup da_nil) rfl)))))
theorem ok_State___init__ (T : TX K mg) : KOk' P W K mg base 1 "State" 2 m_State___init__ := ok_mk T.f_State___init__ sc_State___init__ rfl (bo_State___init__ T)
theorem sc_law : FnScope N_law ["script"] (defScope s_law) := C8.fnScope_by (by decide +kernel)
theorem bo_law (T : TX K mg) : BodyOk P W K mg base N_law "law" s_law 7 b_law := fun f cdv A outer s H E hr => by
  have hu5 := room65 hr
  have hu4 := hr.units
  have hu1 := room1 hr
  have nd : N_law.Nodup := sc_law.nd
  have tk := takes_of (X := cxOf (L2.CX P W) P W K mg base N_law "law" (defScope s_law) f cdv A outer s H E) rfl rfl rfl rfl
  have hp : PassesOwn (model P W) _ _ _ := passes_of (X := cxOf (L2.CX P W) P W K mg base N_law "law" (defScope s_law) f cdv A outer s H E) rfl
  exact (dss_cons (ds_set (i := 1) nd (dv_e (de_callG (ok__law_tape T) (hr.mono (by decide)) rfl tk (da_cons (de_nm 0) da_nil))))
  (dss_cons (ds_set (i := 2) nd (dv_e (de_op op_addD de_int (de_callG (ok__law_draw T) (hr.mono (by decide)) rfl tk (da_cons (de_nm 1) (da_cons de_int da_nil))))))
  (dss_cons (ds_set (i := 3) nd (dv_f (df_disp (dp_cons de_str (de_tup (da_cons de_str (da_cons de_str da_nil))) (dp_cons de_str (de_tup (da_cons de_str (da_cons de_int da_nil))) dp_nil)))))
  (dss_cons (ds_set (i := 4) nd (dv_f (df_lst da_nil)))
  (dss_cons (ds_for (js := [5]) hp rfl (di_range1 rfl T.n_range (de_nm 2)) (dg_nm 5 nd (by decide))
  (dss_cons (ds_set (i := 6) nd (dv_e (de_op op_addD de_str (de_callT1 call_strB rfl T.n_str rfl (db_nm 5)))))
  (dss_cons (ds_expr (de_mutn (i := 4) PySem.F.plainAttrs_list PySem.F.slot_list_append PySem.F.type_list_append mt_appendC (da_cons (de_nm 6) da_nil)))
  (dss_one (ds_stn (i := 3) hu4 (de_nm 6) (de_if (dt_cmp (op_eqD' hu4) (de_callG (ok__law_draw T) (hr.mono (by decide)) rfl tk (da_cons (de_nm 1) (da_cons de_int da_nil))) de_int (by with_unfolding_all rfl)) (de_tup (da_cons de_str (da_cons de_str da_nil))) (de_tup (da_cons de_str (da_cons de_int (da_cons de_str da_nil))))))))))
  (dss_cons (ds_set (i := 7) nd (dv_e (de_callT1 call_tupleB rfl T.n_tuple rfl (db_of (de_callG (ok__law_shuffled T) (hr.mono (by decide)) rfl tk (da_cons (de_nm 1) (da_cons (de_nm 4) da_nil)))))))
  (dss_cons (ds_set (i := 8) nd (dv_e (de_ix hu4 (de_frozen (df_lst (da_cons de_str (da_cons de_str da_nil)))) (de_callG (ok__law_draw T) (hr.mono (by decide)) rfl tk (da_cons (de_nm 1) (da_cons de_int da_nil))) (fun _ _ => rfl))))
  (dss_cons (ds_set (i := 9) nd (dv_e (de_makeG (ok_State___init__ T) (hr.mono (by decide)) rfl tk (da_cons (de_makeG (ok_Plant___init__ T) (hr.mono (by decide)) rfl tk (da_cons (de_nm 3) (da_cons (de_frozen (df_disp (dp_cons de_str (de_tup (da_cons (de_nm 8) (da_cons (de_nm 7) da_nil))) dp_nil))) da_nil))) da_nil))))
  (dss_cons (ds_par (i := 10) (j := 11) rfl nd (de_frozen (df_lst da_nil)) de_int (by decide) rfl)
  (dss_cons (ds_for (js := [12]) hp rfl (di_range1 rfl T.n_range (de_op op_mulD de_int (de_nm 2))) (dg_nm 12 nd (by decide))
  (dss_cons (ds_for (js := [6]) hp rfl (di_any (de_nm 4)) (dg_nm 6 nd (by decide))
  (dss_one (ds_if (dt_not (dt_val (de_meth (alt_cons (ok_State_is_full T) (hr.mono (by decide)) alt_nil) tk (de_nm 9) (da_cons (de_nm 6) da_nil))))
  (dss_cons (ds_expr (de_meth (alt_cons (ok_State_put T) (hr.mono (by decide)) alt_nil) tk (de_nm 9) (da_cons (de_nm 6) (da_cons (de_op op_addD de_str (de_callT1 call_strB rfl T.n_str rfl (db_nm 11))) (da_cons de_str da_nil)))))
  (dss_one (ds_set (i := 11) nd (dv_e (de_op op_addD (de_nm 11) de_int)))))
  dss_nil)))
  (dss_cons (ds_expr (de_meth (alt_cons (ok_State_empty T) (hr.mono (by decide)) alt_nil) tk (de_nm 9) (da_cons de_str (da_cons de_int da_nil))))
  (dss_one (ds_set (i := 10) nd (dv_e (de_op op_addD (de_nm 10) (de_frozen (df_lc rfl nd (di_any (de_callG (ok_step T) (hr.mono (by decide)) rfl tk (da_cons (de_nm 9) da_nil))) (blkOk_by (N := N_law) (sc := defScope s_law) (own := [("start", 13), ("end", 14)]) (by decide +kernel)) (js := [13, 14]) (by decide) (fun _ _ _ _ _ => (dg_tup rfl (dgs_cons (dg_nm 13 nd (by decide)) (dgs_cons (dg_nm 14 nd (by decide)) dgs_nil)))) (fun _ _ _ _ _ => (dts_one (dt_cmp (op_eqD' hu4) (de_nm 14) de_str (by with_unfolding_all rfl)))) (fun _ _ _ _ _ => (de_nm 13)))))))))))
  (dss_cons (ds_if (dt_cmp (op_eqD' hu4) (de_nm 8) de_str (by with_unfolding_all rfl))
  (dss_one (ds_ret (de_callG (ok__law_is T) (hr.mono (by decide)) rfl tk (da_cons (de_nm 10) (da_cons (de_frozen (df_lc rfl nd (di_range1 rfl T.n_range (de_op op_mulD de_int (de_nm 2))) (blkOk_by (N := N_law) (sc := defScope s_law) (own := [("turn", 12)]) (by decide +kernel)) (js := [12]) (by decide) (fun _ _ _ _ _ => (dg_nm 12 nd (by decide))) (fun _ _ _ _ _ => dts_nil) (fun _ _ _ _ _ => (de_ixn (i := 7) hu4 de_int (fun _ _ => rfl))))) da_nil)))))
  dss_nil)
  (dss_one (ds_ret (de_callG (ok__law_is T) (hr.mono (by decide)) rfl tk (da_cons (de_nm 10) (da_cons (de_frozen (df_lc rfl nd (di_range1 rfl T.n_range (de_op op_mulD de_int (de_nm 2))) (blkOk_by (N := N_law) (sc := defScope s_law) (own := [("k", 5)]) (by decide +kernel)) (js := [5]) (by decide) (fun _ _ _ _ _ => (dg_nm 5 nd (by decide))) (fun _ _ _ _ _ => dts_nil) (fun _ _ _ _ _ => (de_ixn (i := 7) hu4 (de_callG (ok__law_mod T) (hr.mono (by decide)) rfl takes0 (da_cons (de_nm 5) (da_cons (de_nm 2) da_nil))) (fun _ _ => rfl))))) da_nil))))))))))))))))
end
theorem all_mk {l : PySem.W.OpenLaw} {w : World} {K : PySem.W.Frag} {h : Heap} {mg : Str → Option Value} {fa C_Plant C_State f_Plant_place f_State_empty f_Plant_room f_State_bags f_State_is_full f_Plant_names f_State_all_bags f_State_where f_State_put f__law_draw f__law_is f__law_mod f__law_shuffled f__law_tape f_Plant_sources f_Plant_way f_State_moved f_State_turn f_in_order f_State_shut_places f_Plant_target f_wanted f_wants f_winners f_moves_of f_step f_is_name f_place_fits f_targets_of f_way_fits f_Plant__check f_Plant___init__ f_State___init__ f_law t_KINDS : Addr} (X : K.In h) (G : h.Ns mainGlobals mg) (hfa : mg "law" = some (.ref fa))
    {od_Plant_place an_Plant_place od_State_empty an_State_empty od_Plant_room an_Plant_room od_State_bags an_State_bags od_State_is_full an_State_is_full od_Plant_names an_Plant_names od_State_all_bags an_State_all_bags od_State_where an_State_where od_State_put an_State_put od__law_draw an__law_draw od__law_is an__law_is od__law_mod an__law_mod od__law_shuffled an__law_shuffled od__law_tape an__law_tape od_Plant_sources an_Plant_sources od_Plant_way an_Plant_way od_State_moved an_State_moved od_State_turn an_State_turn od_in_order an_in_order od_State_shut_places an_State_shut_places od_Plant_target an_Plant_target od_wanted an_wanted od_wants an_wants od_winners an_winners od_moves_of an_moves_of od_step an_step od_is_name an_is_name od_place_fits an_place_fits od_targets_of an_targets_of od_way_fits an_way_fits od_Plant__check an_Plant__check od_Plant___init__ an_Plant___init__ od_State___init__ an_State___init__ od_law an_law : Option Addr} {sl_Plant_place sl_State_empty sl_Plant_room sl_State_bags sl_State_is_full sl_Plant_names sl_State_all_bags sl_State_where sl_State_put sl__law_draw sl__law_is sl__law_mod sl__law_shuffled sl__law_tape sl_Plant_sources sl_Plant_way sl_State_moved sl_State_turn sl_in_order sl_State_shut_places sl_Plant_target sl_wanted sl_wants sl_winners sl_moves_of sl_step sl_is_name sl_place_fits sl_targets_of sl_way_fits sl_Plant__check sl_Plant___init__ sl_State___init__ sl_law ts_KINDS : Array (Option Value)} {oc_Plant_place kV_Plant_place dc_Plant_place pm_Plant_place cd_Plant_place ct_Plant_place oc_State_empty kV_State_empty dc_State_empty pm_State_empty cd_State_empty ct_State_empty oc_Plant_room kV_Plant_room dc_Plant_room pm_Plant_room cd_Plant_room ct_Plant_room oc_State_bags kV_State_bags dc_State_bags pm_State_bags cd_State_bags ct_State_bags oc_State_is_full kV_State_is_full dc_State_is_full pm_State_is_full cd_State_is_full ct_State_is_full oc_Plant_names kV_Plant_names dc_Plant_names pm_Plant_names cd_Plant_names ct_Plant_names oc_State_all_bags kV_State_all_bags dc_State_all_bags pm_State_all_bags cd_State_all_bags ct_State_all_bags oc_State_where kV_State_where dc_State_where pm_State_where cd_State_where ct_State_where oc_State_put kV_State_put dc_State_put pm_State_put cd_State_put ct_State_put oc__law_draw kV__law_draw dc__law_draw pm__law_draw cd__law_draw ct__law_draw oc__law_is kV__law_is dc__law_is pm__law_is cd__law_is ct__law_is oc__law_mod kV__law_mod dc__law_mod pm__law_mod cd__law_mod ct__law_mod oc__law_shuffled kV__law_shuffled dc__law_shuffled pm__law_shuffled cd__law_shuffled ct__law_shuffled oc__law_tape kV__law_tape dc__law_tape pm__law_tape cd__law_tape ct__law_tape oc_Plant_sources kV_Plant_sources dc_Plant_sources pm_Plant_sources cd_Plant_sources ct_Plant_sources oc_Plant_way kV_Plant_way dc_Plant_way pm_Plant_way cd_Plant_way ct_Plant_way oc_State_moved kV_State_moved dc_State_moved pm_State_moved cd_State_moved ct_State_moved oc_State_turn kV_State_turn dc_State_turn pm_State_turn cd_State_turn ct_State_turn oc_in_order kV_in_order dc_in_order pm_in_order cd_in_order ct_in_order oc_State_shut_places kV_State_shut_places dc_State_shut_places pm_State_shut_places cd_State_shut_places ct_State_shut_places oc_Plant_target kV_Plant_target dc_Plant_target pm_Plant_target cd_Plant_target ct_Plant_target oc_wanted kV_wanted dc_wanted pm_wanted cd_wanted ct_wanted oc_wants kV_wants dc_wants pm_wants cd_wants ct_wants oc_winners kV_winners dc_winners pm_winners cd_winners ct_winners oc_moves_of kV_moves_of dc_moves_of pm_moves_of cd_moves_of ct_moves_of oc_step kV_step dc_step pm_step cd_step ct_step oc_is_name kV_is_name dc_is_name pm_is_name cd_is_name ct_is_name oc_place_fits kV_place_fits dc_place_fits pm_place_fits cd_place_fits ct_place_fits oc_targets_of kV_targets_of dc_targets_of pm_targets_of cd_targets_of ct_targets_of oc_way_fits kV_way_fits dc_way_fits pm_way_fits cd_way_fits ct_way_fits oc_Plant__check kV_Plant__check dc_Plant__check pm_Plant__check cd_Plant__check ct_Plant__check oc_Plant___init__ kV_Plant___init__ dc_Plant___init__ pm_Plant___init__ cd_Plant___init__ ct_Plant___init__ oc_State___init__ kV_State___init__ dc_State___init__ pm_State___init__ cd_State___init__ ct_State___init__ oc_law kV_law dc_law pm_law cd_law ct_law : Value} {k_KINDS_0 k_KINDS_1 k_KINDS_2 k_KINDS_3 k_LETTERS k_NAME_MOST k_PLACES_MOST k_ROOM_MOST : Tok} {tn_KINDS : Nat}
    (n_all : PySem.W.nsIn K mainGlobals "all" = some none)
    (n_bool : PySem.W.nsIn K mainGlobals "bool" = some none)
    (n_dict : PySem.W.nsIn K mainGlobals "dict" = some none)
    (n_int : PySem.W.nsIn K mainGlobals "int" = some none)
    (n_isinstance : PySem.W.nsIn K mainGlobals "isinstance" = some none)
    (n_len : PySem.W.nsIn K mainGlobals "len" = some none)
    (n_list : PySem.W.nsIn K mainGlobals "list" = some none)
    (n_range : PySem.W.nsIn K mainGlobals "range" = some none)
    (n_set : PySem.W.nsIn K mainGlobals "set" = some none)
    (n_sorted : PySem.W.nsIn K mainGlobals "sorted" = some none)
    (n_str : PySem.W.nsIn K mainGlobals "str" = some none)
    (n_tuple : PySem.W.nsIn K mainGlobals "tuple" = some none)
    (g_KINDS : PySem.W.nsIn K mainGlobals "KINDS" = some (some (.ref t_KINDS)))
    (gl_KINDS : K.lookup t_KINDS = some ⟨.type "tuple", none, .seq #[.str "belt" k_KINDS_0, .str "switch" k_KINDS_1, .str "store" k_KINDS_2, .str "chute" k_KINDS_3] tn_KINDS, ts_KINDS⟩)
    (g_LETTERS : PySem.W.nsIn K mainGlobals "LETTERS" = some (some (.str "abcdefghijklmnopqrstuvwxyz" k_LETTERS)))
    (g_NAME_MOST : PySem.W.nsIn K mainGlobals "NAME_MOST" = some (some (.int 20 k_NAME_MOST)))
    (g_PLACES_MOST : PySem.W.nsIn K mainGlobals "PLACES_MOST" = some (some (.int 300 k_PLACES_MOST)))
    (g_ROOM_MOST : PySem.W.nsIn K mainGlobals "ROOM_MOST" = some (some (.int 1000 k_ROOM_MOST)))
    (c_Plant : PySem.W.nsIn K mainGlobals "Plant" = some (some (.ref C_Plant)))
    (pg_Plant : PySem.W.plainGet K C_Plant Str.empty = true)
    (hd_Plant : PySem.W.hasDictIn K C_Plant = true)
    (po_Plant : PySem.W.plainOver K C_Plant = true)
    (sa_Plant : PySem.W.findIn K (.ref C_Plant) "__setattr__" = some (some (.builtin "object.__setattr__")))
    (c_State : PySem.W.nsIn K mainGlobals "State" = some (some (.ref C_State)))
    (pg_State : PySem.W.plainGet K C_State Str.empty = true)
    (hd_State : PySem.W.hasDictIn K C_State = true)
    (po_State : PySem.W.plainOver K C_State = true)
    (sa_State : PySem.W.findIn K (.ref C_State) "__setattr__" = some (some (.builtin "object.__setattr__")))
    (na_Plant__from : PySem.W.findIn K (.ref C_Plant) "_from" = some none)
    (na_Plant_places : PySem.W.findIn K (.ref C_Plant) "places" = some none)
    (na_Plant_ways : PySem.W.findIn K (.ref C_Plant) "ways" = some none)
    (na_State__bags : PySem.W.findIn K (.ref C_State) "_bags" = some none)
    (na_State__shut : PySem.W.findIn K (.ref C_State) "_shut" = some none)
    (na_State__turns : PySem.W.findIn K (.ref C_State) "_turns" = some none)
    (na_State_plant : PySem.W.findIn K (.ref C_State) "plant" = some none)
    (a_Plant_place : PySem.W.findIn K (.ref C_Plant) "place" = some (some (.ref f_Plant_place)))
    (i_Plant_place : PySem.W.isFn K (.ref f_Plant_place) = true)
    (l_Plant_place : K.lookup f_Plant_place = some ⟨oc_Plant_place, od_Plant_place, .func (PySem.W.fnOf "place" "Plant.place" (defArgs s_Plant_place) (defBody s_Plant_place) (defScope s_Plant_place) .none kV_Plant_place dc_Plant_place pm_Plant_place an_Plant_place cd_Plant_place ct_Plant_place), sl_Plant_place⟩)
    (o_Plant_place : PySem.W.codeIn K cd_Plant_place "Plant.place" = true)
    (k_Plant_place : PySem.W.keepIn K (.ref f_Plant_place) = true)
    (a_State_empty : PySem.W.findIn K (.ref C_State) "empty" = some (some (.ref f_State_empty)))
    (i_State_empty : PySem.W.isFn K (.ref f_State_empty) = true)
    (l_State_empty : K.lookup f_State_empty = some ⟨oc_State_empty, od_State_empty, .func (PySem.W.fnOf "empty" "State.empty" (defArgs s_State_empty) (defBody s_State_empty) (defScope s_State_empty) .none kV_State_empty dc_State_empty pm_State_empty an_State_empty cd_State_empty ct_State_empty), sl_State_empty⟩)
    (o_State_empty : PySem.W.codeIn K cd_State_empty "State.empty" = true)
    (k_State_empty : PySem.W.keepIn K (.ref f_State_empty) = true)
    (a_Plant_room : PySem.W.findIn K (.ref C_Plant) "room" = some (some (.ref f_Plant_room)))
    (i_Plant_room : PySem.W.isFn K (.ref f_Plant_room) = true)
    (l_Plant_room : K.lookup f_Plant_room = some ⟨oc_Plant_room, od_Plant_room, .func (PySem.W.fnOf "room" "Plant.room" (defArgs s_Plant_room) (defBody s_Plant_room) (defScope s_Plant_room) .none kV_Plant_room dc_Plant_room pm_Plant_room an_Plant_room cd_Plant_room ct_Plant_room), sl_Plant_room⟩)
    (o_Plant_room : PySem.W.codeIn K cd_Plant_room "Plant.room" = true)
    (k_Plant_room : PySem.W.keepIn K (.ref f_Plant_room) = true)
    (a_State_bags : PySem.W.findIn K (.ref C_State) "bags" = some (some (.ref f_State_bags)))
    (i_State_bags : PySem.W.isFn K (.ref f_State_bags) = true)
    (l_State_bags : K.lookup f_State_bags = some ⟨oc_State_bags, od_State_bags, .func (PySem.W.fnOf "bags" "State.bags" (defArgs s_State_bags) (defBody s_State_bags) (defScope s_State_bags) .none kV_State_bags dc_State_bags pm_State_bags an_State_bags cd_State_bags ct_State_bags), sl_State_bags⟩)
    (o_State_bags : PySem.W.codeIn K cd_State_bags "State.bags" = true)
    (k_State_bags : PySem.W.keepIn K (.ref f_State_bags) = true)
    (a_State_is_full : PySem.W.findIn K (.ref C_State) "is_full" = some (some (.ref f_State_is_full)))
    (i_State_is_full : PySem.W.isFn K (.ref f_State_is_full) = true)
    (l_State_is_full : K.lookup f_State_is_full = some ⟨oc_State_is_full, od_State_is_full, .func (PySem.W.fnOf "is_full" "State.is_full" (defArgs s_State_is_full) (defBody s_State_is_full) (defScope s_State_is_full) .none kV_State_is_full dc_State_is_full pm_State_is_full an_State_is_full cd_State_is_full ct_State_is_full), sl_State_is_full⟩)
    (o_State_is_full : PySem.W.codeIn K cd_State_is_full "State.is_full" = true)
    (k_State_is_full : PySem.W.keepIn K (.ref f_State_is_full) = true)
    (a_Plant_names : PySem.W.findIn K (.ref C_Plant) "names" = some (some (.ref f_Plant_names)))
    (i_Plant_names : PySem.W.isFn K (.ref f_Plant_names) = true)
    (l_Plant_names : K.lookup f_Plant_names = some ⟨oc_Plant_names, od_Plant_names, .func (PySem.W.fnOf "names" "Plant.names" (defArgs s_Plant_names) (defBody s_Plant_names) (defScope s_Plant_names) .none kV_Plant_names dc_Plant_names pm_Plant_names an_Plant_names cd_Plant_names ct_Plant_names), sl_Plant_names⟩)
    (o_Plant_names : PySem.W.codeIn K cd_Plant_names "Plant.names" = true)
    (k_Plant_names : PySem.W.keepIn K (.ref f_Plant_names) = true)
    (a_State_all_bags : PySem.W.findIn K (.ref C_State) "all_bags" = some (some (.ref f_State_all_bags)))
    (i_State_all_bags : PySem.W.isFn K (.ref f_State_all_bags) = true)
    (l_State_all_bags : K.lookup f_State_all_bags = some ⟨oc_State_all_bags, od_State_all_bags, .func (PySem.W.fnOf "all_bags" "State.all_bags" (defArgs s_State_all_bags) (defBody s_State_all_bags) (defScope s_State_all_bags) .none kV_State_all_bags dc_State_all_bags pm_State_all_bags an_State_all_bags cd_State_all_bags ct_State_all_bags), sl_State_all_bags⟩)
    (o_State_all_bags : PySem.W.codeIn K cd_State_all_bags "State.all_bags" = true)
    (k_State_all_bags : PySem.W.keepIn K (.ref f_State_all_bags) = true)
    (a_State_where : PySem.W.findIn K (.ref C_State) "where" = some (some (.ref f_State_where)))
    (i_State_where : PySem.W.isFn K (.ref f_State_where) = true)
    (l_State_where : K.lookup f_State_where = some ⟨oc_State_where, od_State_where, .func (PySem.W.fnOf "where" "State.where" (defArgs s_State_where) (defBody s_State_where) (defScope s_State_where) .none kV_State_where dc_State_where pm_State_where an_State_where cd_State_where ct_State_where), sl_State_where⟩)
    (o_State_where : PySem.W.codeIn K cd_State_where "State.where" = true)
    (k_State_where : PySem.W.keepIn K (.ref f_State_where) = true)
    (a_State_put : PySem.W.findIn K (.ref C_State) "put" = some (some (.ref f_State_put)))
    (i_State_put : PySem.W.isFn K (.ref f_State_put) = true)
    (l_State_put : K.lookup f_State_put = some ⟨oc_State_put, od_State_put, .func (PySem.W.fnOf "put" "State.put" (defArgs s_State_put) (defBody s_State_put) (defScope s_State_put) .none kV_State_put dc_State_put pm_State_put an_State_put cd_State_put ct_State_put), sl_State_put⟩)
    (o_State_put : PySem.W.codeIn K cd_State_put "State.put" = true)
    (k_State_put : PySem.W.keepIn K (.ref f_State_put) = true)
    (a__law_draw : PySem.W.nsIn K mainGlobals "_law_draw" = some (some (.ref f__law_draw)))
    (l__law_draw : K.lookup f__law_draw = some ⟨oc__law_draw, od__law_draw, .func (PySem.W.fnOf "_law_draw" "_law_draw" (defArgs s__law_draw) (defBody s__law_draw) (defScope s__law_draw) .none kV__law_draw dc__law_draw pm__law_draw an__law_draw cd__law_draw ct__law_draw), sl__law_draw⟩)
    (o__law_draw : PySem.W.codeIn K cd__law_draw "_law_draw" = true)
    (k__law_draw : PySem.W.keepIn K (.ref f__law_draw) = true)
    (a__law_is : PySem.W.nsIn K mainGlobals "_law_is" = some (some (.ref f__law_is)))
    (l__law_is : K.lookup f__law_is = some ⟨oc__law_is, od__law_is, .func (PySem.W.fnOf "_law_is" "_law_is" (defArgs s__law_is) (defBody s__law_is) (defScope s__law_is) .none kV__law_is dc__law_is pm__law_is an__law_is cd__law_is ct__law_is), sl__law_is⟩)
    (o__law_is : PySem.W.codeIn K cd__law_is "_law_is" = true)
    (k__law_is : PySem.W.keepIn K (.ref f__law_is) = true)
    (a__law_mod : PySem.W.nsIn K mainGlobals "_law_mod" = some (some (.ref f__law_mod)))
    (l__law_mod : K.lookup f__law_mod = some ⟨oc__law_mod, od__law_mod, .func (PySem.W.fnOf "_law_mod" "_law_mod" (defArgs s__law_mod) (defBody s__law_mod) (defScope s__law_mod) .none kV__law_mod dc__law_mod pm__law_mod an__law_mod cd__law_mod ct__law_mod), sl__law_mod⟩)
    (o__law_mod : PySem.W.codeIn K cd__law_mod "_law_mod" = true)
    (k__law_mod : PySem.W.keepIn K (.ref f__law_mod) = true)
    (a__law_shuffled : PySem.W.nsIn K mainGlobals "_law_shuffled" = some (some (.ref f__law_shuffled)))
    (l__law_shuffled : K.lookup f__law_shuffled = some ⟨oc__law_shuffled, od__law_shuffled, .func (PySem.W.fnOf "_law_shuffled" "_law_shuffled" (defArgs s__law_shuffled) (defBody s__law_shuffled) (defScope s__law_shuffled) .none kV__law_shuffled dc__law_shuffled pm__law_shuffled an__law_shuffled cd__law_shuffled ct__law_shuffled), sl__law_shuffled⟩)
    (o__law_shuffled : PySem.W.codeIn K cd__law_shuffled "_law_shuffled" = true)
    (k__law_shuffled : PySem.W.keepIn K (.ref f__law_shuffled) = true)
    (a__law_tape : PySem.W.nsIn K mainGlobals "_law_tape" = some (some (.ref f__law_tape)))
    (l__law_tape : K.lookup f__law_tape = some ⟨oc__law_tape, od__law_tape, .func (PySem.W.fnOf "_law_tape" "_law_tape" (defArgs s__law_tape) (defBody s__law_tape) (defScope s__law_tape) .none kV__law_tape dc__law_tape pm__law_tape an__law_tape cd__law_tape ct__law_tape), sl__law_tape⟩)
    (o__law_tape : PySem.W.codeIn K cd__law_tape "_law_tape" = true)
    (k__law_tape : PySem.W.keepIn K (.ref f__law_tape) = true)
    (a_Plant_sources : PySem.W.findIn K (.ref C_Plant) "sources" = some (some (.ref f_Plant_sources)))
    (i_Plant_sources : PySem.W.isFn K (.ref f_Plant_sources) = true)
    (l_Plant_sources : K.lookup f_Plant_sources = some ⟨oc_Plant_sources, od_Plant_sources, .func (PySem.W.fnOf "sources" "Plant.sources" (defArgs s_Plant_sources) (defBody s_Plant_sources) (defScope s_Plant_sources) .none kV_Plant_sources dc_Plant_sources pm_Plant_sources an_Plant_sources cd_Plant_sources ct_Plant_sources), sl_Plant_sources⟩)
    (o_Plant_sources : PySem.W.codeIn K cd_Plant_sources "Plant.sources" = true)
    (k_Plant_sources : PySem.W.keepIn K (.ref f_Plant_sources) = true)
    (a_Plant_way : PySem.W.findIn K (.ref C_Plant) "way" = some (some (.ref f_Plant_way)))
    (i_Plant_way : PySem.W.isFn K (.ref f_Plant_way) = true)
    (l_Plant_way : K.lookup f_Plant_way = some ⟨oc_Plant_way, od_Plant_way, .func (PySem.W.fnOf "way" "Plant.way" (defArgs s_Plant_way) (defBody s_Plant_way) (defScope s_Plant_way) .none kV_Plant_way dc_Plant_way pm_Plant_way an_Plant_way cd_Plant_way ct_Plant_way), sl_Plant_way⟩)
    (o_Plant_way : PySem.W.codeIn K cd_Plant_way "Plant.way" = true)
    (k_Plant_way : PySem.W.keepIn K (.ref f_Plant_way) = true)
    (a_State_moved : PySem.W.findIn K (.ref C_State) "moved" = some (some (.ref f_State_moved)))
    (i_State_moved : PySem.W.isFn K (.ref f_State_moved) = true)
    (l_State_moved : K.lookup f_State_moved = some ⟨oc_State_moved, od_State_moved, .func (PySem.W.fnOf "moved" "State.moved" (defArgs s_State_moved) (defBody s_State_moved) (defScope s_State_moved) .none kV_State_moved dc_State_moved pm_State_moved an_State_moved cd_State_moved ct_State_moved), sl_State_moved⟩)
    (o_State_moved : PySem.W.codeIn K cd_State_moved "State.moved" = true)
    (k_State_moved : PySem.W.keepIn K (.ref f_State_moved) = true)
    (a_State_turn : PySem.W.findIn K (.ref C_State) "turn" = some (some (.ref f_State_turn)))
    (i_State_turn : PySem.W.isFn K (.ref f_State_turn) = true)
    (l_State_turn : K.lookup f_State_turn = some ⟨oc_State_turn, od_State_turn, .func (PySem.W.fnOf "turn" "State.turn" (defArgs s_State_turn) (defBody s_State_turn) (defScope s_State_turn) .none kV_State_turn dc_State_turn pm_State_turn an_State_turn cd_State_turn ct_State_turn), sl_State_turn⟩)
    (o_State_turn : PySem.W.codeIn K cd_State_turn "State.turn" = true)
    (k_State_turn : PySem.W.keepIn K (.ref f_State_turn) = true)
    (a_in_order : PySem.W.nsIn K mainGlobals "in_order" = some (some (.ref f_in_order)))
    (l_in_order : K.lookup f_in_order = some ⟨oc_in_order, od_in_order, .func (PySem.W.fnOf "in_order" "in_order" (defArgs s_in_order) (defBody s_in_order) (defScope s_in_order) .none kV_in_order dc_in_order pm_in_order an_in_order cd_in_order ct_in_order), sl_in_order⟩)
    (o_in_order : PySem.W.codeIn K cd_in_order "in_order" = true)
    (k_in_order : PySem.W.keepIn K (.ref f_in_order) = true)
    (a_State_shut_places : PySem.W.findIn K (.ref C_State) "shut_places" = some (some (.ref f_State_shut_places)))
    (i_State_shut_places : PySem.W.isFn K (.ref f_State_shut_places) = true)
    (l_State_shut_places : K.lookup f_State_shut_places = some ⟨oc_State_shut_places, od_State_shut_places, .func (PySem.W.fnOf "shut_places" "State.shut_places" (defArgs s_State_shut_places) (defBody s_State_shut_places) (defScope s_State_shut_places) .none kV_State_shut_places dc_State_shut_places pm_State_shut_places an_State_shut_places cd_State_shut_places ct_State_shut_places), sl_State_shut_places⟩)
    (o_State_shut_places : PySem.W.codeIn K cd_State_shut_places "State.shut_places" = true)
    (k_State_shut_places : PySem.W.keepIn K (.ref f_State_shut_places) = true)
    (a_Plant_target : PySem.W.findIn K (.ref C_Plant) "target" = some (some (.ref f_Plant_target)))
    (i_Plant_target : PySem.W.isFn K (.ref f_Plant_target) = true)
    (l_Plant_target : K.lookup f_Plant_target = some ⟨oc_Plant_target, od_Plant_target, .func (PySem.W.fnOf "target" "Plant.target" (defArgs s_Plant_target) (defBody s_Plant_target) (defScope s_Plant_target) .none kV_Plant_target dc_Plant_target pm_Plant_target an_Plant_target cd_Plant_target ct_Plant_target), sl_Plant_target⟩)
    (o_Plant_target : PySem.W.codeIn K cd_Plant_target "Plant.target" = true)
    (k_Plant_target : PySem.W.keepIn K (.ref f_Plant_target) = true)
    (a_wanted : PySem.W.nsIn K mainGlobals "wanted" = some (some (.ref f_wanted)))
    (l_wanted : K.lookup f_wanted = some ⟨oc_wanted, od_wanted, .func (PySem.W.fnOf "wanted" "wanted" (defArgs s_wanted) (defBody s_wanted) (defScope s_wanted) .none kV_wanted dc_wanted pm_wanted an_wanted cd_wanted ct_wanted), sl_wanted⟩)
    (o_wanted : PySem.W.codeIn K cd_wanted "wanted" = true)
    (k_wanted : PySem.W.keepIn K (.ref f_wanted) = true)
    (a_wants : PySem.W.nsIn K mainGlobals "wants" = some (some (.ref f_wants)))
    (l_wants : K.lookup f_wants = some ⟨oc_wants, od_wants, .func (PySem.W.fnOf "wants" "wants" (defArgs s_wants) (defBody s_wants) (defScope s_wants) .none kV_wants dc_wants pm_wants an_wants cd_wants ct_wants), sl_wants⟩)
    (o_wants : PySem.W.codeIn K cd_wants "wants" = true)
    (k_wants : PySem.W.keepIn K (.ref f_wants) = true)
    (a_winners : PySem.W.nsIn K mainGlobals "winners" = some (some (.ref f_winners)))
    (l_winners : K.lookup f_winners = some ⟨oc_winners, od_winners, .func (PySem.W.fnOf "winners" "winners" (defArgs s_winners) (defBody s_winners) (defScope s_winners) .none kV_winners dc_winners pm_winners an_winners cd_winners ct_winners), sl_winners⟩)
    (o_winners : PySem.W.codeIn K cd_winners "winners" = true)
    (k_winners : PySem.W.keepIn K (.ref f_winners) = true)
    (a_moves_of : PySem.W.nsIn K mainGlobals "moves_of" = some (some (.ref f_moves_of)))
    (l_moves_of : K.lookup f_moves_of = some ⟨oc_moves_of, od_moves_of, .func (PySem.W.fnOf "moves_of" "moves_of" (defArgs s_moves_of) (defBody s_moves_of) (defScope s_moves_of) .none kV_moves_of dc_moves_of pm_moves_of an_moves_of cd_moves_of ct_moves_of), sl_moves_of⟩)
    (o_moves_of : PySem.W.codeIn K cd_moves_of "moves_of" = true)
    (k_moves_of : PySem.W.keepIn K (.ref f_moves_of) = true)
    (a_step : PySem.W.nsIn K mainGlobals "step" = some (some (.ref f_step)))
    (l_step : K.lookup f_step = some ⟨oc_step, od_step, .func (PySem.W.fnOf "step" "step" (defArgs s_step) (defBody s_step) (defScope s_step) .none kV_step dc_step pm_step an_step cd_step ct_step), sl_step⟩)
    (o_step : PySem.W.codeIn K cd_step "step" = true)
    (k_step : PySem.W.keepIn K (.ref f_step) = true)
    (a_is_name : PySem.W.nsIn K mainGlobals "is_name" = some (some (.ref f_is_name)))
    (l_is_name : K.lookup f_is_name = some ⟨oc_is_name, od_is_name, .func (PySem.W.fnOf "is_name" "is_name" (defArgs s_is_name) (defBody s_is_name) (defScope s_is_name) .none kV_is_name dc_is_name pm_is_name an_is_name cd_is_name ct_is_name), sl_is_name⟩)
    (o_is_name : PySem.W.codeIn K cd_is_name "is_name" = true)
    (k_is_name : PySem.W.keepIn K (.ref f_is_name) = true)
    (a_place_fits : PySem.W.nsIn K mainGlobals "place_fits" = some (some (.ref f_place_fits)))
    (l_place_fits : K.lookup f_place_fits = some ⟨oc_place_fits, od_place_fits, .func (PySem.W.fnOf "place_fits" "place_fits" (defArgs s_place_fits) (defBody s_place_fits) (defScope s_place_fits) .none kV_place_fits dc_place_fits pm_place_fits an_place_fits cd_place_fits ct_place_fits), sl_place_fits⟩)
    (o_place_fits : PySem.W.codeIn K cd_place_fits "place_fits" = true)
    (k_place_fits : PySem.W.keepIn K (.ref f_place_fits) = true)
    (a_targets_of : PySem.W.nsIn K mainGlobals "targets_of" = some (some (.ref f_targets_of)))
    (l_targets_of : K.lookup f_targets_of = some ⟨oc_targets_of, od_targets_of, .func (PySem.W.fnOf "targets_of" "targets_of" (defArgs s_targets_of) (defBody s_targets_of) (defScope s_targets_of) .none kV_targets_of dc_targets_of pm_targets_of an_targets_of cd_targets_of ct_targets_of), sl_targets_of⟩)
    (o_targets_of : PySem.W.codeIn K cd_targets_of "targets_of" = true)
    (k_targets_of : PySem.W.keepIn K (.ref f_targets_of) = true)
    (a_way_fits : PySem.W.nsIn K mainGlobals "way_fits" = some (some (.ref f_way_fits)))
    (l_way_fits : K.lookup f_way_fits = some ⟨oc_way_fits, od_way_fits, .func (PySem.W.fnOf "way_fits" "way_fits" (defArgs s_way_fits) (defBody s_way_fits) (defScope s_way_fits) .none kV_way_fits dc_way_fits pm_way_fits an_way_fits cd_way_fits ct_way_fits), sl_way_fits⟩)
    (o_way_fits : PySem.W.codeIn K cd_way_fits "way_fits" = true)
    (k_way_fits : PySem.W.keepIn K (.ref f_way_fits) = true)
    (a_Plant__check : PySem.W.findIn K (.ref C_Plant) "_check" = some (some (.ref f_Plant__check)))
    (i_Plant__check : PySem.W.isFn K (.ref f_Plant__check) = true)
    (l_Plant__check : K.lookup f_Plant__check = some ⟨oc_Plant__check, od_Plant__check, .func (PySem.W.fnOf "_check" "Plant._check" (defArgs s_Plant__check) (defBody s_Plant__check) (defScope s_Plant__check) .none kV_Plant__check dc_Plant__check pm_Plant__check an_Plant__check cd_Plant__check ct_Plant__check), sl_Plant__check⟩)
    (o_Plant__check : PySem.W.codeIn K cd_Plant__check "Plant._check" = true)
    (k_Plant__check : PySem.W.keepIn K (.ref f_Plant__check) = true)
    (a_Plant___init__ : PySem.W.findIn K (.ref C_Plant) "__init__" = some (some (.ref f_Plant___init__)))
    (i_Plant___init__ : PySem.W.isFn K (.ref f_Plant___init__) = true)
    (mk_Plant___init__ : PySem.W.makesIn K C_Plant = true)
    (kc_Plant___init__ : PySem.W.keepIn K (.ref C_Plant) = true)
    (l_Plant___init__ : K.lookup f_Plant___init__ = some ⟨oc_Plant___init__, od_Plant___init__, .func (PySem.W.fnOf "__init__" "Plant.__init__" (defArgs s_Plant___init__) (defBody s_Plant___init__) (defScope s_Plant___init__) .none kV_Plant___init__ dc_Plant___init__ pm_Plant___init__ an_Plant___init__ cd_Plant___init__ ct_Plant___init__), sl_Plant___init__⟩)
    (o_Plant___init__ : PySem.W.codeIn K cd_Plant___init__ "Plant.__init__" = true)
    (k_Plant___init__ : PySem.W.keepIn K (.ref f_Plant___init__) = true)
    (a_State___init__ : PySem.W.findIn K (.ref C_State) "__init__" = some (some (.ref f_State___init__)))
    (i_State___init__ : PySem.W.isFn K (.ref f_State___init__) = true)
    (mk_State___init__ : PySem.W.makesIn K C_State = true)
    (kc_State___init__ : PySem.W.keepIn K (.ref C_State) = true)
    (l_State___init__ : K.lookup f_State___init__ = some ⟨oc_State___init__, od_State___init__, .func (PySem.W.fnOf "__init__" "State.__init__" (defArgs s_State___init__) (defBody s_State___init__) (defScope s_State___init__) .none kV_State___init__ dc_State___init__ pm_State___init__ an_State___init__ cd_State___init__ ct_State___init__), sl_State___init__⟩)
    (o_State___init__ : PySem.W.codeIn K cd_State___init__ "State.__init__" = true)
    (k_State___init__ : PySem.W.keepIn K (.ref f_State___init__) = true)
    (a_law : PySem.W.nsIn K mainGlobals "law" = some (some (.ref f_law)))
    (l_law : K.lookup f_law = some ⟨oc_law, od_law, .func (PySem.W.fnOf "law" "law" (defArgs s_law) (defBody s_law) (defScope s_law) .none kV_law dc_law pm_law an_law cd_law ct_law), sl_law⟩)
    (o_law : PySem.W.codeIn K cd_law "law" = true)
    (k_law : PySem.W.keepIn K (.ref f_law) = true)
    : ∃ fd : FuncData, (∀ (s : Shared) (v : Value), BindsTo s fd ⟨[v], []⟩ [("script", v)]) ∧ ∀ base : Heap, K.In base → base.Ns mainGlobals mg → FnOk l.prog w K mg base (L2.CX l.prog w) 8 fa fd ["script"] (SpD K mg 1 m_law) := by
  have e := hfa.symm.trans (PySem.W.mg_of X G a_law)
  cases e
  have F_Plant_place := fun_mk (st := s_Plant_place) l_Plant_place o_Plant_place k_Plant_place
  have B_Plant_place := F_Plant_place.binds (ps := ["self", "name"]) fun _ _ _ _ _ _ us hl => match us, hl with | [_, _], _ => rfl
  have F_State_empty := fun_mk (st := s_State_empty) l_State_empty o_State_empty k_State_empty
  have B_State_empty := F_State_empty.binds (ps := ["self", "name", "many"]) fun _ _ _ _ _ _ us hl => match us, hl with | [_, _, _], _ => rfl
  have F_Plant_room := fun_mk (st := s_Plant_room) l_Plant_room o_Plant_room k_Plant_room
  have B_Plant_room := F_Plant_room.binds (ps := ["self", "name"]) fun _ _ _ _ _ _ us hl => match us, hl with | [_, _], _ => rfl
  have F_State_bags := fun_mk (st := s_State_bags) l_State_bags o_State_bags k_State_bags
  have B_State_bags := F_State_bags.binds (ps := ["self", "name"]) fun _ _ _ _ _ _ us hl => match us, hl with | [_, _], _ => rfl
  have F_State_is_full := fun_mk (st := s_State_is_full) l_State_is_full o_State_is_full k_State_is_full
  have B_State_is_full := F_State_is_full.binds (ps := ["self", "name"]) fun _ _ _ _ _ _ us hl => match us, hl with | [_, _], _ => rfl
  have F_Plant_names := fun_mk (st := s_Plant_names) l_Plant_names o_Plant_names k_Plant_names
  have B_Plant_names := F_Plant_names.binds (ps := ["self"]) fun _ _ _ _ _ _ us hl => match us, hl with | [_], _ => rfl
  have F_State_all_bags := fun_mk (st := s_State_all_bags) l_State_all_bags o_State_all_bags k_State_all_bags
  have B_State_all_bags := F_State_all_bags.binds (ps := ["self"]) fun _ _ _ _ _ _ us hl => match us, hl with | [_], _ => rfl
  have F_State_where := fun_mk (st := s_State_where) l_State_where o_State_where k_State_where
  have B_State_where := F_State_where.binds (ps := ["self", "bag"]) fun _ _ _ _ _ _ us hl => match us, hl with | [_, _], _ => rfl
  have F_State_put := fun_mk (st := s_State_put) l_State_put o_State_put k_State_put
  have B_State_put := F_State_put.binds (ps := ["self", "name", "bag", "goal"]) fun _ _ _ _ _ _ us hl => match us, hl with | [_, _, _, _], _ => rfl
  have F__law_draw := fun_mk (st := s__law_draw) l__law_draw o__law_draw k__law_draw
  have B__law_draw := F__law_draw.binds (ps := ["tape", "many"]) fun _ _ _ _ _ _ us hl => match us, hl with | [_, _], _ => rfl
  have F__law_is := fun_mk (st := s__law_is) l__law_is o__law_is k__law_is
  have B__law_is := F__law_is.binds (ps := ["told", "due"]) fun _ _ _ _ _ _ us hl => match us, hl with | [_, _], _ => rfl
  have F__law_mod := fun_mk (st := s__law_mod) l__law_mod o__law_mod k__law_mod
  have B__law_mod := F__law_mod.binds (ps := ["a", "n"]) fun _ _ _ _ _ _ us hl => match us, hl with | [_, _], _ => rfl
  have F__law_shuffled := fun_mk (st := s__law_shuffled) l__law_shuffled o__law_shuffled k__law_shuffled
  have B__law_shuffled := F__law_shuffled.binds (ps := ["tape", "row"]) fun _ _ _ _ _ _ us hl => match us, hl with | [_, _], _ => rfl
  have F__law_tape := fun_mk (st := s__law_tape) l__law_tape o__law_tape k__law_tape
  have B__law_tape := F__law_tape.binds (ps := ["script"]) fun _ _ _ _ _ _ us hl => match us, hl with | [_], _ => rfl
  have F_Plant_sources := fun_mk (st := s_Plant_sources) l_Plant_sources o_Plant_sources k_Plant_sources
  have B_Plant_sources := F_Plant_sources.binds (ps := ["self", "name"]) fun _ _ _ _ _ _ us hl => match us, hl with | [_, _], _ => rfl
  have F_Plant_way := fun_mk (st := s_Plant_way) l_Plant_way o_Plant_way k_Plant_way
  have B_Plant_way := F_Plant_way.binds (ps := ["self", "name"]) fun _ _ _ _ _ _ us hl => match us, hl with | [_, _], _ => rfl
  have F_State_moved := fun_mk (st := s_State_moved) l_State_moved o_State_moved k_State_moved
  have B_State_moved := F_State_moved.binds (ps := ["self", "moves"]) fun _ _ _ _ _ _ us hl => match us, hl with | [_, _], _ => rfl
  have F_State_turn := fun_mk (st := s_State_turn) l_State_turn o_State_turn k_State_turn
  have B_State_turn := F_State_turn.binds (ps := ["self", "name"]) fun _ _ _ _ _ _ us hl => match us, hl with | [_, _], _ => rfl
  have F_in_order := fun_mk (st := s_in_order) l_in_order o_in_order k_in_order
  have B_in_order := F_in_order.binds (ps := ["state", "name"]) fun _ _ _ _ _ _ us hl => match us, hl with | [_, _], _ => rfl
  have F_State_shut_places := fun_mk (st := s_State_shut_places) l_State_shut_places o_State_shut_places k_State_shut_places
  have B_State_shut_places := F_State_shut_places.binds (ps := ["self"]) fun _ _ _ _ _ _ us hl => match us, hl with | [_], _ => rfl
  have F_Plant_target := fun_mk (st := s_Plant_target) l_Plant_target o_Plant_target k_Plant_target
  have B_Plant_target := F_Plant_target.binds (ps := ["self", "name", "goal"]) fun _ _ _ _ _ _ us hl => match us, hl with | [_, _, _], _ => rfl
  have F_wanted := fun_mk (st := s_wanted) l_wanted o_wanted k_wanted
  have B_wanted := F_wanted.binds (ps := ["state", "name"]) fun _ _ _ _ _ _ us hl => match us, hl with | [_, _], _ => rfl
  have F_wants := fun_mk (st := s_wants) l_wants o_wants k_wants
  have B_wants := F_wants.binds (ps := ["state"]) fun _ _ _ _ _ _ us hl => match us, hl with | [_], _ => rfl
  have F_winners := fun_mk (st := s_winners) l_winners o_winners k_winners
  have B_winners := F_winners.binds (ps := ["state"]) fun _ _ _ _ _ _ us hl => match us, hl with | [_], _ => rfl
  have F_moves_of := fun_mk (st := s_moves_of) l_moves_of o_moves_of k_moves_of
  have B_moves_of := F_moves_of.binds (ps := ["state"]) fun _ _ _ _ _ _ us hl => match us, hl with | [_], _ => rfl
  have F_step := fun_mk (st := s_step) l_step o_step k_step
  have B_step := F_step.binds (ps := ["state"]) fun _ _ _ _ _ _ us hl => match us, hl with | [_], _ => rfl
  have F_is_name := fun_mk (st := s_is_name) l_is_name o_is_name k_is_name
  have B_is_name := F_is_name.binds (ps := ["text"]) fun _ _ _ _ _ _ us hl => match us, hl with | [_], _ => rfl
  have F_place_fits := fun_mk (st := s_place_fits) l_place_fits o_place_fits k_place_fits
  have B_place_fits := F_place_fits.binds (ps := ["place"]) fun _ _ _ _ _ _ us hl => match us, hl with | [_], _ => rfl
  have F_targets_of := fun_mk (st := s_targets_of) l_targets_of o_targets_of k_targets_of
  have B_targets_of := F_targets_of.binds (ps := ["place"]) fun _ _ _ _ _ _ us hl => match us, hl with | [_], _ => rfl
  have F_way_fits := fun_mk (st := s_way_fits) l_way_fits o_way_fits k_way_fits
  have B_way_fits := F_way_fits.binds (ps := ["way", "sources"]) fun _ _ _ _ _ _ us hl => match us, hl with | [_, _], _ => rfl
  have F_Plant__check := fun_mk (st := s_Plant__check) l_Plant__check o_Plant__check k_Plant__check
  have B_Plant__check := F_Plant__check.binds (ps := ["self"]) fun _ _ _ _ _ _ us hl => match us, hl with | [_], _ => rfl
  have F_Plant___init__ := fun_mk (st := s_Plant___init__) l_Plant___init__ o_Plant___init__ k_Plant___init__
  have B_Plant___init__ := F_Plant___init__.binds (ps := ["self", "places", "ways"]) fun _ _ _ _ _ _ us hl => match us, hl with | [_, _, _], _ => rfl
  have F_State___init__ := fun_mk (st := s_State___init__) l_State___init__ o_State___init__ k_State___init__
  have B_State___init__ := F_State___init__.binds (ps := ["self", "plant"]) fun _ _ _ _ _ _ us hl => match us, hl with | [_, _], _ => rfl
  have F_law := fun_mk (st := s_law) l_law o_law k_law
  have B_law := F_law.binds (ps := ["script"]) fun _ _ _ _ _ _ us hl => match us, hl with | [_], _ => rfl
  have T : TX K mg := {
    n_all := PySem.W.mg_none_of X G n_all
    n_bool := PySem.W.mg_none_of X G n_bool
    n_dict := PySem.W.mg_none_of X G n_dict
    n_int := PySem.W.mg_none_of X G n_int
    n_isinstance := PySem.W.mg_none_of X G n_isinstance
    n_len := PySem.W.mg_none_of X G n_len
    n_list := PySem.W.mg_none_of X G n_list
    n_range := PySem.W.mg_none_of X G n_range
    n_set := PySem.W.mg_none_of X G n_set
    n_sorted := PySem.W.mg_none_of X G n_sorted
    n_str := PySem.W.mg_none_of X G n_str
    n_tuple := PySem.W.mg_none_of X G n_tuple
    g_KINDS := ⟨_, PySem.W.mg_of X G g_KINDS, ⟨_, gl_KINDS, rfl, rfl⟩, .inr ⟨_, _, _, gl_KINDS, rfl, rfl, (by show 4 ≤ sizeLine; decide), .cons ⟨_, rfl⟩ (.cons ⟨_, rfl⟩ (.cons ⟨_, rfl⟩ (.cons ⟨_, rfl⟩ (.nil))))⟩⟩
    g_LETTERS := ⟨_, PySem.W.mg_of X G g_LETTERS⟩
    g_NAME_MOST := ⟨_, PySem.W.mg_of X G g_NAME_MOST⟩
    g_PLACES_MOST := ⟨_, PySem.W.mg_of X G g_PLACES_MOST⟩
    g_ROOM_MOST := ⟨_, PySem.W.mg_of X G g_ROOM_MOST⟩
    a_Plant__from := ⟨_, PySem.W.mg_of X G c_Plant, ⟨pg_Plant, hd_Plant, po_Plant, sa_Plant⟩, na_Plant__from⟩
    a_Plant_places := ⟨_, PySem.W.mg_of X G c_Plant, ⟨pg_Plant, hd_Plant, po_Plant, sa_Plant⟩, na_Plant_places⟩
    a_Plant_ways := ⟨_, PySem.W.mg_of X G c_Plant, ⟨pg_Plant, hd_Plant, po_Plant, sa_Plant⟩, na_Plant_ways⟩
    a_State__bags := ⟨_, PySem.W.mg_of X G c_State, ⟨pg_State, hd_State, po_State, sa_State⟩, na_State__bags⟩
    a_State__shut := ⟨_, PySem.W.mg_of X G c_State, ⟨pg_State, hd_State, po_State, sa_State⟩, na_State__shut⟩
    a_State__turns := ⟨_, PySem.W.mg_of X G c_State, ⟨pg_State, hd_State, po_State, sa_State⟩, na_State__turns⟩
    a_State_plant := ⟨_, PySem.W.mg_of X G c_State, ⟨pg_State, hd_State, po_State, sa_State⟩, na_State_plant⟩
    f_Plant_place := ⟨_, _, _, PySem.W.mg_of X G c_Plant, ⟨pg_Plant, hd_Plant, po_Plant, sa_Plant⟩, ⟨a_Plant_place, i_Plant_place, k_Plant_place⟩, F_Plant_place, B_Plant_place⟩
    f_State_empty := ⟨_, _, _, PySem.W.mg_of X G c_State, ⟨pg_State, hd_State, po_State, sa_State⟩, ⟨a_State_empty, i_State_empty, k_State_empty⟩, F_State_empty, B_State_empty⟩
    f_Plant_room := ⟨_, _, _, PySem.W.mg_of X G c_Plant, ⟨pg_Plant, hd_Plant, po_Plant, sa_Plant⟩, ⟨a_Plant_room, i_Plant_room, k_Plant_room⟩, F_Plant_room, B_Plant_room⟩
    f_State_bags := ⟨_, _, _, PySem.W.mg_of X G c_State, ⟨pg_State, hd_State, po_State, sa_State⟩, ⟨a_State_bags, i_State_bags, k_State_bags⟩, F_State_bags, B_State_bags⟩
    f_State_is_full := ⟨_, _, _, PySem.W.mg_of X G c_State, ⟨pg_State, hd_State, po_State, sa_State⟩, ⟨a_State_is_full, i_State_is_full, k_State_is_full⟩, F_State_is_full, B_State_is_full⟩
    f_Plant_names := ⟨_, _, _, PySem.W.mg_of X G c_Plant, ⟨pg_Plant, hd_Plant, po_Plant, sa_Plant⟩, ⟨a_Plant_names, i_Plant_names, k_Plant_names⟩, F_Plant_names, B_Plant_names⟩
    f_State_all_bags := ⟨_, _, _, PySem.W.mg_of X G c_State, ⟨pg_State, hd_State, po_State, sa_State⟩, ⟨a_State_all_bags, i_State_all_bags, k_State_all_bags⟩, F_State_all_bags, B_State_all_bags⟩
    f_State_where := ⟨_, _, _, PySem.W.mg_of X G c_State, ⟨pg_State, hd_State, po_State, sa_State⟩, ⟨a_State_where, i_State_where, k_State_where⟩, F_State_where, B_State_where⟩
    f_State_put := ⟨_, _, _, PySem.W.mg_of X G c_State, ⟨pg_State, hd_State, po_State, sa_State⟩, ⟨a_State_put, i_State_put, k_State_put⟩, F_State_put, B_State_put⟩
    f__law_draw := ⟨_, _, PySem.W.mg_of X G a__law_draw, F__law_draw, k__law_draw, B__law_draw⟩
    f__law_is := ⟨_, _, PySem.W.mg_of X G a__law_is, F__law_is, k__law_is, B__law_is⟩
    f__law_mod := ⟨_, _, PySem.W.mg_of X G a__law_mod, F__law_mod, k__law_mod, B__law_mod⟩
    f__law_shuffled := ⟨_, _, PySem.W.mg_of X G a__law_shuffled, F__law_shuffled, k__law_shuffled, B__law_shuffled⟩
    f__law_tape := ⟨_, _, PySem.W.mg_of X G a__law_tape, F__law_tape, k__law_tape, B__law_tape⟩
    f_Plant_sources := ⟨_, _, _, PySem.W.mg_of X G c_Plant, ⟨pg_Plant, hd_Plant, po_Plant, sa_Plant⟩, ⟨a_Plant_sources, i_Plant_sources, k_Plant_sources⟩, F_Plant_sources, B_Plant_sources⟩
    f_Plant_way := ⟨_, _, _, PySem.W.mg_of X G c_Plant, ⟨pg_Plant, hd_Plant, po_Plant, sa_Plant⟩, ⟨a_Plant_way, i_Plant_way, k_Plant_way⟩, F_Plant_way, B_Plant_way⟩
    f_State_moved := ⟨_, _, _, PySem.W.mg_of X G c_State, ⟨pg_State, hd_State, po_State, sa_State⟩, ⟨a_State_moved, i_State_moved, k_State_moved⟩, F_State_moved, B_State_moved⟩
    f_State_turn := ⟨_, _, _, PySem.W.mg_of X G c_State, ⟨pg_State, hd_State, po_State, sa_State⟩, ⟨a_State_turn, i_State_turn, k_State_turn⟩, F_State_turn, B_State_turn⟩
    f_in_order := ⟨_, _, PySem.W.mg_of X G a_in_order, F_in_order, k_in_order, B_in_order⟩
    f_State_shut_places := ⟨_, _, _, PySem.W.mg_of X G c_State, ⟨pg_State, hd_State, po_State, sa_State⟩, ⟨a_State_shut_places, i_State_shut_places, k_State_shut_places⟩, F_State_shut_places, B_State_shut_places⟩
    f_Plant_target := ⟨_, _, _, PySem.W.mg_of X G c_Plant, ⟨pg_Plant, hd_Plant, po_Plant, sa_Plant⟩, ⟨a_Plant_target, i_Plant_target, k_Plant_target⟩, F_Plant_target, B_Plant_target⟩
    f_wanted := ⟨_, _, PySem.W.mg_of X G a_wanted, F_wanted, k_wanted, B_wanted⟩
    f_wants := ⟨_, _, PySem.W.mg_of X G a_wants, F_wants, k_wants, B_wants⟩
    f_winners := ⟨_, _, PySem.W.mg_of X G a_winners, F_winners, k_winners, B_winners⟩
    f_moves_of := ⟨_, _, PySem.W.mg_of X G a_moves_of, F_moves_of, k_moves_of, B_moves_of⟩
    f_step := ⟨_, _, PySem.W.mg_of X G a_step, F_step, k_step, B_step⟩
    f_is_name := ⟨_, _, PySem.W.mg_of X G a_is_name, F_is_name, k_is_name, B_is_name⟩
    f_place_fits := ⟨_, _, PySem.W.mg_of X G a_place_fits, F_place_fits, k_place_fits, B_place_fits⟩
    f_targets_of := ⟨_, _, PySem.W.mg_of X G a_targets_of, F_targets_of, k_targets_of, B_targets_of⟩
    f_way_fits := ⟨_, _, PySem.W.mg_of X G a_way_fits, F_way_fits, k_way_fits, B_way_fits⟩
    f_Plant__check := ⟨_, _, _, PySem.W.mg_of X G c_Plant, ⟨pg_Plant, hd_Plant, po_Plant, sa_Plant⟩, ⟨a_Plant__check, i_Plant__check, k_Plant__check⟩, F_Plant__check, B_Plant__check⟩
    f_Plant___init__ := ⟨_, _, _, PySem.W.mg_of X G c_Plant, ⟨mk_Plant___init__, a_Plant___init__, i_Plant___init__, kc_Plant___init__⟩, F_Plant___init__, B_Plant___init__⟩
    f_State___init__ := ⟨_, _, _, PySem.W.mg_of X G c_State, ⟨mk_State___init__, a_State___init__, i_State___init__, kc_State___init__⟩, F_State___init__, B_State___init__⟩ }
  exact ⟨PySem.W.fnOf "law" "law" (defArgs s_law) (defBody s_law) (defScope s_law) .none kV_law dc_law pm_law an_law cd_law ct_law, fun s v => .of_eq rfl, fun base _ _ => fn_ok F_law sc_law rfl (bo_law T _)⟩
end Law
namespace Law
open L2 Bw
open PySem (Str)
theorem in_dic (x : D) (t : Bool) (es : List (D × D)) : inD x (.dic t es) = (dget t es x).map (·.isSome) := rfl

/-! ### places -/
inductive Pl where
  | belt (t : Str) | store (n : Int) (t : Str) | switch (rows : List (Str × Str)) (t : Str) | chute (n : Int)
def Pl.d : Pl → D
  | .belt t => .tup [.str "belt", .str t]
  | .store n t => .tup [.str "store", .int n, .str t]
  | .switch rows t => .tup [.str "switch", .tup (rows.map fun r => .tup [.str r.1, .str r.2]), .str t]
  | .chute n => .tup [.str "chute", .int n]
/-- a dict by texts -/
def dicS {α : Type} (f : α → D) (l : List (Str × α)) : List (D × D) := l.map fun e => (.str e.1, f e.2)
theorem getK_dicS {α : Type} (f : α → D) (n : Str) : ∀ l : List (Str × α), getK (dicS f l) (.inr n) = (l.lookup n).map f
  | [] => rfl
  | (m, a) :: l => by
    have ih := getK_dicS f n l
    unfold getK dicS at *
    rw [List.map_cons, List.find?_cons, List.lookup_cons]
    by_cases h : n = m
    · subst h
      simp [toKey]
    · have h1 : (n == m) = false := by simpa using h
      have h2 : decide (toKey (D.str m) = some (Sum.inr n)) = false := by
        apply decide_eq_false
        intro z
        have z : some (Sum.inr m : L2.Key) = some (Sum.inr n) := z
        exact h (Sum.inr.inj (Option.some.inj z)).symm
      rw [h1]
      simp only [h2]
      exact ih
def names {α : Type} (l : List (Str × α)) : List Str := l.map (·.1)

structure Way where
  turns : Bool
  ord : List Str
def Way.d (w : Way) : D := .tup [.str (if w.turns = true then "turns" else "first"), .kt (w.ord.map D.str)]
/-! ### the plant and the state as they stand in the heap -/
structure PlantAt (h : Hd) (p : Nat) (P : List (Str × Pl)) (W : List (Str × Way)) (F : List (Str × Nat)) (Fr : Str → List Str) : Prop where
  at_ : h[p]? = some ⟨false, .ins "Plant" [("places", .dic false (dicS Pl.d P)), ("ways", .dic false (dicS Way.d W)), ("_from", .dic false (dicS D.ref F))]⟩
  src : ∀ n i, F.lookup n = some i → h[i]? = some ⟨false, .con (.lst ((Fr n).map D.str))⟩
abbrev Bag := Str × Str
def bagD (b : Bag) : D := .tup [.str b.1, .str b.2]
def bagsD (l : List Bag) : D := .tup (l.map bagD)
structure StateAt (h : Hd) (s p b t : Nat) (B : List (Str × List Bag)) (T : List (Str × Nat)) (sh : List Str) : Prop where
  at_ : h[s]? = some ⟨false, .ins "State" [("plant", .ref p), ("_bags", .ref b), ("_turns", .ref t), ("_shut", .tup (sh.map D.str))]⟩
  bags : h[b]? = some ⟨false, .con (.dic false (dicS bagsD B))⟩
  turns : h[t]? = some ⟨false, .con (.dic false (dicS (fun k : Nat => D.int k) T))⟩
  ne : b ≠ t
theorem cP : (["Plant"] : List Str).contains "Plant" = true := rfl
theorem cS : (["State"] : List Str).contains "State" = true := rfl
theorem f1 (a b c : D) : List.lookup ("places" : Str) [("places", a), ("ways", b), ("_from", c)] = some a := rfl
theorem f2 (a b c : D) : List.lookup ("ways" : Str) [("places", a), ("ways", b), ("_from", c)] = some b := rfl
theorem f3 (a b c : D) : List.lookup ("_from" : Str) [("places", a), ("ways", b), ("_from", c)] = some c := rfl
theorem g1 (a b c d : D) : List.lookup ("plant" : Str) [("plant", a), ("_bags", b), ("_turns", c), ("_shut", d)] = some a := rfl
theorem g2 (a b c d : D) : List.lookup ("_bags" : Str) [("plant", a), ("_bags", b), ("_turns", c), ("_shut", d)] = some b := rfl
theorem g3 (a b c d : D) : List.lookup ("_turns" : Str) [("plant", a), ("_bags", b), ("_turns", c), ("_shut", d)] = some c := rfl
theorem g4 (a b c d : D) : List.lookup ("_shut" : Str) [("plant", a), ("_bags", b), ("_turns", c), ("_shut", d)] = some d := rfl
theorem nf (m : Str) (h : (m == ("places" : Str)) = false) (h2 : (m == ("ways" : Str)) = false) (h3 : (m == ("_from" : Str)) = false) (a b c : D) : List.lookup m [(("places" : Str), a), ("ways", b), ("_from", c)] = none := by
  rw [List.lookup_cons, h, List.lookup_cons, h2, List.lookup_cons, h3]; rfl
section
variable {h : Hd} {p s b t : Nat} {P : List (Str × Pl)} {W : List (Str × Way)} {F : List (Str × Nat)} {Fr : Str → List Str} {B : List (Str × List Bag)} {T : List (Str × Nat)} {sh : List Str} {n : Str} {pl : Pl}
theorem place_run (hp : PlantAt h p P W F Fr) (hg : P.lookup n = some pl) : m_Plant_place [.ref p, .str n] h = .ret pl.d h := by
  simp (config := { decide := true }) [Bw.fnD, Bw.slots0, Bw.seqM, Bw.ifM, Bw.op2b, Bw.op2, Bw.op2c, Bw.bnd, Bw.ret, Bw.ixN', Bw.has, Bw.peek, Bw.deref, Bw.nm, Bw.setM, Bw.vM, Bw.oM, Bw.un1, Bw.drf, Bw.pk, Bw.opt, Bw.stnM, Bw.stN, Bw.stC, Bw.rtM, Bw.fldM, Bw.fldD, Bw.insOf, Bw.notB, in_dic, Bw.notInD, Bw.dget, Bw.toKey, Bw.ixC, Bw.ixM, Bw.calM, Bw.cal, Bw.metM, Bw.pick, Bw.cns, Bw.drpM, Bw.isN, Bw.andB, Bw.orB, Bw.asB, Bw.blM, m_Plant_place, b_Plant_place, hp.at_, f1, getK_dicS, hg, cP]
theorem bags_run (hp : PlantAt h p P W F Fr) (hs : StateAt h s p b t B T sh) (hg : P.lookup n = some pl) {l : List Bag} (hb : B.lookup n = some l) : m_State_bags [.ref s, .str n] h = .ret (bagsD l) h := by
  have a1 := place_run hp hg
  have e1 : (["State"] : List Str).contains "State" = true := rfl
  have e2 : List.lookup ("Plant" : Str) [(("Plant" : Str), m_Plant_place)] = some m_Plant_place := rfl
  have e3 := nf "place" rfl rfl rfl
  simp (config := { decide := true }) [Bw.fnD, Bw.slots0, Bw.seqM, Bw.ifM, Bw.op2b, Bw.op2, Bw.op2c, Bw.bnd, Bw.ret, Bw.ixN', Bw.has, Bw.peek, Bw.deref, Bw.nm, Bw.setM, Bw.vM, Bw.oM, Bw.un1, Bw.drf, Bw.pk, Bw.opt, Bw.stnM, Bw.stN, Bw.stC, Bw.rtM, Bw.fldM, Bw.fldD, Bw.insOf, Bw.notB, in_dic, Bw.notInD, Bw.dget, Bw.toKey, Bw.ixC, Bw.ixM, Bw.calM, Bw.cal, Bw.metM, Bw.pick, Bw.cns, Bw.drpM, Bw.isN, Bw.andB, Bw.orB, Bw.asB, Bw.blM, m_State_bags, b_State_bags, hs.at_, hp.at_, hs.bags, g1, g2, getK_dicS, hb, cP, cS, a1, e2, e3]

theorem bg2 : (2 : Nat) ≤ big := by decide
theorem bg1 : (1 : Nat) ≤ big := by decide
theorem eq_str (h : Hd) (a c : Str) : eqD h (.str a) (.str c) = some (a == c) := rfl
theorem eq_int (h : Hd) (a c : Int) : eqD h (.int a) (.int c) = some (a == c) := rfl
theorem ge_int (h : Hd) (a c : Int) : geD h (.int a) (.int c) = some (decide (c ≤ a)) := rfl
def Pl.room : Pl → Int
  | .belt _ => 1
  | .store n _ => n
  | .switch _ _ => 1
  | .chute n => n
theorem k1 : (("belt" : Str) == ("store" : Str)) = false := rfl
theorem k2 : (("belt" : Str) == ("chute" : Str)) = false := rfl
theorem k3 : (("store" : Str) == ("chute" : Str)) = false := rfl
theorem k4 : (("store" : Str) == ("belt" : Str)) = false := rfl
theorem k5 : (("switch" : Str) == ("chute" : Str)) = false := rfl
theorem k6 : (("switch" : Str) == ("belt" : Str)) = false := rfl
theorem k7 : (("switch" : Str) == ("store" : Str)) = false := rfl
theorem k8 : (("chute" : Str) == ("store" : Str)) = false := rfl
theorem ixN_nat {n i : Nat} (h : i < n) : ixN n (i : Int) = some i := by
  unfold ixN
  rw [if_pos (Int.natCast_nonneg i), if_pos (by omega), Int.toNat_natCast]
theorem atN {α : Type} {xs : List α} {i : Nat} {x : α} (h : xs[i]? = some x) : atI xs (i : Int) = some x := by
  unfold atI
  rw [ixN_nat (List.getElem?_eq_some_iff.mp h).1]
  exact h
theorem at0 {α : Type} (a : α) (l : List α) : atI (a :: l) 0 = some a := atN (i := 0) rfl
theorem at1 {α : Type} (a c : α) (l : List α) : atI (a :: c :: l) 1 = some c := atN (i := 1) rfl
theorem at2 {α : Type} (a c d : α) (l : List α) : atI (a :: c :: d :: l) 2 = some d := atN (i := 2) rfl
theorem lk {m : Str} {f : FnD} {l : List (Str × FnD)} : List.lookup m ((m, f) :: l) = some f := by rw [List.lookup_cons]; simp
theorem in2 (x a c : Str) : inD (.str x) (.tup [.str a, .str c]) = some (a == x || (c == x || false)) := rfl
theorem room_run (hp : PlantAt h p P W F Fr) (hg : P.lookup n = some pl) : m_Plant_room [.ref p, .str n] h = .ret (.int pl.room) h := by
  have a1 := place_run hp hg
  have e3 := nf "place" rfl rfl rfl
  cases pl <;> simp (config := { decide := true }) [Bw.fnD, Bw.slots0, Bw.seqM, Bw.ifM, Bw.op2b, Bw.op2, Bw.op2c, Bw.bnd, Bw.ret, Bw.ixN', Bw.has, Bw.peek, Bw.deref, Bw.nm, Bw.setM, Bw.vM, Bw.oM, Bw.un1, Bw.drf, Bw.pk, Bw.opt, Bw.stnM, Bw.stN, Bw.stC, Bw.rtM, Bw.fldM, Bw.fldD, Bw.insOf, Bw.notB, in_dic, Bw.notInD, Bw.dget, Bw.toKey, Bw.ixC, Bw.ixM, Bw.calM, Bw.cal, Bw.metM, Bw.pick, Bw.cns, Bw.drpM, Bw.isN, Bw.andB, Bw.orB, Bw.asB, Bw.blM, m_Plant_room, b_Plant_room, hp.at_, cP, a1, lk, e3, Pl.d, Pl.room, at0, at1, tupM, in2, bg2, k1, k2, k3, k4, k5, k6, k7, k8]
  all_goals trace_state
theorem len_tup (l : List D) : lenD (.tup l) = some (.int l.length) := rfl
theorem len_lst (l : List D) : lenD (.lst l) = some (.int l.length) := rfl
theorem len_kt (l : List D) : lenD (.kt l) = some (.int l.length) := rfl
theorem full_run (hp : PlantAt h p P W F Fr) (hs : StateAt h s p b t B T sh) (hg : P.lookup n = some pl) {l : List Bag} (hb : B.lookup n = some l) : m_State_is_full [.ref s, .str n] h = .ret (.bl (decide (pl.room ≤ l.length))) h := by
  have a1 := room_run hp hg
  have a2 := bags_run hp hs hg hb
  have e3 := nf "room" rfl rfl rfl
  have e4 : ∀ a b c d : D, List.lookup ("bags" : Str) [(("plant" : Str), a), ("_bags", b), ("_turns", c), ("_shut", d)] = none := fun _ _ _ _ => rfl
  simp (config := { decide := true }) [Bw.fnD, Bw.slots0, Bw.seqM, Bw.ifM, Bw.op2b, Bw.op2, Bw.op2c, Bw.bnd, Bw.ret, Bw.ixN', Bw.has, Bw.peek, Bw.deref, Bw.nm, Bw.setM, Bw.vM, Bw.oM, Bw.un1, Bw.drf, Bw.pk, Bw.opt, Bw.stnM, Bw.stN, Bw.stC, Bw.rtM, Bw.fldM, Bw.fldD, Bw.insOf, Bw.notB, in_dic, Bw.notInD, Bw.dget, Bw.toKey, Bw.ixC, Bw.ixM, Bw.calM, Bw.cal, Bw.metM, Bw.pick, Bw.cns, Bw.drpM, Bw.isN, Bw.andB, Bw.orB, Bw.asB, Bw.blM, m_State_is_full, b_State_is_full, hp.at_, hs.at_, cP, cS, a1, a2, lk, e3, e4, g1, len_tup, bagsD, ge_int]
theorem turn_run (hp : PlantAt h p P W F Fr) (hs : StateAt h s p b t B T sh) (hg : P.lookup n = some pl) {k : Nat} (hb : T.lookup n = some k) : m_State_turn [.ref s, .str n] h = .ret (.int k) h := by
  have a1 := place_run hp hg
  have e3 := nf "place" rfl rfl rfl
  simp (config := { decide := true }) [Bw.fnD, Bw.slots0, Bw.seqM, Bw.ifM, Bw.op2b, Bw.op2, Bw.op2c, Bw.bnd, Bw.ret, Bw.ixN', Bw.has, Bw.peek, Bw.deref, Bw.nm, Bw.setM, Bw.vM, Bw.oM, Bw.un1, Bw.drf, Bw.pk, Bw.opt, Bw.stnM, Bw.stN, Bw.stC, Bw.rtM, Bw.fldM, Bw.fldD, Bw.insOf, Bw.notB, in_dic, Bw.notInD, Bw.dget, Bw.toKey, Bw.ixC, Bw.ixM, Bw.calM, Bw.cal, Bw.metM, Bw.pick, Bw.cns, Bw.drpM, Bw.isN, Bw.andB, Bw.orB, Bw.asB, Bw.blM, m_State_turn, b_State_turn, hs.at_, hp.at_, hs.turns, g1, g3, getK_dicS, hb, cP, cS, a1, lk, e3]
theorem shut_run (hs : StateAt h s p b t B T sh) : m_State_shut_places [.ref s] h = .ret (.tup (sh.map D.str)) h := by
  simp (config := { decide := true }) [Bw.fnD, Bw.slots0, Bw.seqM, Bw.ifM, Bw.op2b, Bw.op2, Bw.op2c, Bw.bnd, Bw.ret, Bw.ixN', Bw.has, Bw.peek, Bw.deref, Bw.nm, Bw.setM, Bw.vM, Bw.oM, Bw.un1, Bw.drf, Bw.pk, Bw.opt, Bw.stnM, Bw.stN, Bw.stC, Bw.rtM, Bw.fldM, Bw.fldD, Bw.insOf, Bw.notB, in_dic, Bw.notInD, Bw.dget, Bw.toKey, Bw.ixC, Bw.ixM, Bw.calM, Bw.cal, Bw.metM, Bw.pick, Bw.cns, Bw.drpM, Bw.isN, Bw.andB, Bw.orB, Bw.asB, Bw.blM, m_State_shut_places, b_State_shut_places, hs.at_, g4, cS]
theorem src_run (hp : PlantAt h p P W F Fr) {i : Nat} (hf : F.lookup n = some i) : m_Plant_sources [.ref p, .str n] h = .ret (.lst ((Fr n).map D.str)) h := by
  have a1 := hp.src n i hf
  simp (config := { decide := true }) [Bw.fnD, Bw.slots0, Bw.seqM, Bw.ifM, Bw.op2b, Bw.op2, Bw.op2c, Bw.bnd, Bw.ret, Bw.ixN', Bw.has, Bw.peek, Bw.deref, Bw.nm, Bw.setM, Bw.vM, Bw.oM, Bw.un1, Bw.drf, Bw.pk, Bw.opt, Bw.stnM, Bw.stN, Bw.stC, Bw.rtM, Bw.fldM, Bw.fldD, Bw.insOf, Bw.notB, in_dic, Bw.notInD, Bw.dget, Bw.toKey, Bw.ixC, Bw.ixM, Bw.calM, Bw.cal, Bw.metM, Bw.pick, Bw.cns, Bw.drpM, Bw.isN, Bw.andB, Bw.orB, Bw.asB, Bw.blM, m_Plant_sources, b_Plant_sources, hp.at_, f3, cP, getM, isDic, getC, getK_dicS, hf, lstM, big, a1, listD, itemsD]
def Pl.target (g : Str) : Pl → Option Str
  | .chute _ => none
  | .belt t => some t
  | .store _ t => some t
  | .switch rows t => some ((rows.lookup g).getD t)
def optS : Option Str → D
  | some x => .str x
  | none => .non
def rowD (r : Str × Str) : D := .tup [.str r.1, .str r.2]
theorem target_loop (a b c d : Sl) {g : Str} : ∀ (rows : List (Str × Str)) (s4 s5 : Sl), ∃ σ', Bw.forM (Bw.gtup 2 (gcns (gnm 4) (gcns (gnm 5) gnil))) x_Plant_target_0 (rows.map rowD) [a, b, .v (.str g), d, s4, s5] h =
    .ok (match rows.lookup g with | some t => .rt (.str t) | none => .nx) σ' h ∧ σ'[3]? = some d
  | [], s4, s5 => ⟨[a, b, .v (.str g), d, s4, s5], rfl, rfl⟩
  | (x, y) :: rows, s4, s5 => by
    rw [List.map_cons, Bw.forM]
    by_cases hx : g = x
    · subst hx
      refine ⟨[a, b, .v (.str g), d, .v (.str g), .v (.str y)], ?_, rfl⟩
      simp (config := { decide := true }) [Bw.fnD, Bw.slots0, Bw.seqM, Bw.ifM, Bw.op2b, Bw.op2, Bw.op2c, Bw.bnd, Bw.ret, Bw.ixN', Bw.has, Bw.peek, Bw.deref, Bw.nm, Bw.setM, Bw.vM, Bw.oM, Bw.un1, Bw.drf, Bw.pk, Bw.opt, Bw.stnM, Bw.stN, Bw.stC, Bw.rtM, Bw.fldM, Bw.fldD, Bw.insOf, Bw.notB, in_dic, Bw.notInD, Bw.dget, Bw.toKey, Bw.ixC, Bw.ixM, Bw.calM, Bw.cal, Bw.metM, Bw.pick, Bw.cns, Bw.drpM, Bw.isN, Bw.andB, Bw.orB, Bw.asB, Bw.blM, Bw.gtup, rowD, gcns, gnm, gnil, eq_str, x_Plant_target_0]
    · obtain ⟨σ', e, e2⟩ := target_loop a b c d (g := g) rows (.v (.str x)) (.v (.str y))
      refine ⟨σ', ?_, e2⟩
      have h1 : (x == g) = false := by simpa using fun z : x = g => hx z.symm
      have h2 : (g == x) = false := by simpa using hx
      rw [List.lookup_cons, h2]
      rw [← e]
      simp (config := { decide := true }) [Bw.fnD, Bw.slots0, Bw.seqM, Bw.ifM, Bw.op2b, Bw.op2, Bw.op2c, Bw.bnd, Bw.ret, Bw.ixN', Bw.has, Bw.peek, Bw.deref, Bw.nm, Bw.setM, Bw.vM, Bw.oM, Bw.un1, Bw.drf, Bw.pk, Bw.opt, Bw.stnM, Bw.stN, Bw.stC, Bw.rtM, Bw.fldM, Bw.fldD, Bw.insOf, Bw.notB, in_dic, Bw.notInD, Bw.dget, Bw.toKey, Bw.ixC, Bw.ixM, Bw.calM, Bw.cal, Bw.metM, Bw.pick, Bw.cns, Bw.drpM, Bw.isN, Bw.andB, Bw.orB, Bw.asB, Bw.blM, Bw.gtup, rowD, gcns, gnm, gnil, eq_str, h1, x_Plant_target_0]
theorem target_run (hp : PlantAt h p P W F Fr) (hg : P.lookup n = some pl) (g : Str) : m_Plant_target [.ref p, .str n, .str g] h = .ret (optS (pl.target g)) h := by
  have a1 := place_run hp hg
  have e3 := nf "place" rfl rfl rfl
  cases pl with
  | belt t => simp (config := { decide := true }) [Bw.fnD, Bw.slots0, Bw.seqM, Bw.ifM, Bw.op2b, Bw.op2, Bw.op2c, Bw.bnd, Bw.ret, Bw.ixN', Bw.has, Bw.peek, Bw.deref, Bw.nm, Bw.setM, Bw.vM, Bw.oM, Bw.un1, Bw.drf, Bw.pk, Bw.opt, Bw.stnM, Bw.stN, Bw.stC, Bw.rtM, Bw.fldM, Bw.fldD, Bw.insOf, Bw.notB, in_dic, Bw.notInD, Bw.dget, Bw.toKey, Bw.ixC, Bw.ixM, Bw.calM, Bw.cal, Bw.metM, Bw.pick, Bw.cns, Bw.drpM, Bw.isN, Bw.andB, Bw.orB, Bw.asB, Bw.blM, m_Plant_target, b_Plant_target, hp.at_, cP, a1, lk, e3, Pl.d, Pl.target, optS, at0, at1, eq_str]
  | store n t => simp (config := { decide := true }) [Bw.fnD, Bw.slots0, Bw.seqM, Bw.ifM, Bw.op2b, Bw.op2, Bw.op2c, Bw.bnd, Bw.ret, Bw.ixN', Bw.has, Bw.peek, Bw.deref, Bw.nm, Bw.setM, Bw.vM, Bw.oM, Bw.un1, Bw.drf, Bw.pk, Bw.opt, Bw.stnM, Bw.stN, Bw.stC, Bw.rtM, Bw.fldM, Bw.fldD, Bw.insOf, Bw.notB, in_dic, Bw.notInD, Bw.dget, Bw.toKey, Bw.ixC, Bw.ixM, Bw.calM, Bw.cal, Bw.metM, Bw.pick, Bw.cns, Bw.drpM, Bw.isN, Bw.andB, Bw.orB, Bw.asB, Bw.blM, m_Plant_target, b_Plant_target, hp.at_, cP, a1, lk, e3, Pl.d, Pl.target, optS, at0, at2, eq_str]
  | chute n => simp (config := { decide := true }) [Bw.fnD, Bw.slots0, Bw.seqM, Bw.ifM, Bw.op2b, Bw.op2, Bw.op2c, Bw.bnd, Bw.ret, Bw.ixN', Bw.has, Bw.peek, Bw.deref, Bw.nm, Bw.setM, Bw.vM, Bw.oM, Bw.un1, Bw.drf, Bw.pk, Bw.opt, Bw.stnM, Bw.stN, Bw.stC, Bw.rtM, Bw.fldM, Bw.fldD, Bw.insOf, Bw.notB, in_dic, Bw.notInD, Bw.dget, Bw.toKey, Bw.ixC, Bw.ixM, Bw.calM, Bw.cal, Bw.metM, Bw.pick, Bw.cns, Bw.drpM, Bw.isN, Bw.andB, Bw.orB, Bw.asB, Bw.blM, m_Plant_target, b_Plant_target, hp.at_, cP, a1, lk, e3, Pl.d, Pl.target, optS, at0, eq_str]
  | switch rows t =>
    obtain ⟨σ', e, e2⟩ := target_loop (h := h) (.v (.ref p)) (.v (.str n)) (.un) (.v (Pl.switch rows t).d) (g := g) rows .un .un
    have e4 : rows.map (fun r => D.tup [.str r.1, .str r.2]) = rows.map rowD := rfl
    simp (config := { decide := true }) [Bw.fnD, Bw.slots0, Bw.seqM, Bw.ifM, Bw.op2b, Bw.op2, Bw.op2c, Bw.bnd, Bw.ret, Bw.ixN', Bw.has, Bw.peek, Bw.deref, Bw.nm, Bw.setM, Bw.vM, Bw.oM, Bw.un1, Bw.drf, Bw.pk, Bw.opt, Bw.stnM, Bw.stN, Bw.stC, Bw.rtM, Bw.fldM, Bw.fldD, Bw.insOf, Bw.notB, in_dic, Bw.notInD, Bw.dget, Bw.toKey, Bw.ixC, Bw.ixM, Bw.calM, Bw.cal, Bw.metM, Bw.pick, Bw.cns, Bw.drpM, Bw.isN, Bw.andB, Bw.orB, Bw.asB, Bw.blM, m_Plant_target, b_Plant_target, hp.at_, cP, a1, lk, e3, Pl.d, Pl.target, optS, at0, at1, eq_str, foM, wkM, walkD, e4]
    simp only [Pl.d, e4] at e e2
    rw [e]
    cases rows.lookup g with
    | some y => rfl
    | none => simp (config := { decide := true }) [Bw.fnD, Bw.slots0, Bw.seqM, Bw.ifM, Bw.op2b, Bw.op2, Bw.op2c, Bw.bnd, Bw.ret, Bw.ixN', Bw.has, Bw.peek, Bw.deref, Bw.nm, Bw.setM, Bw.vM, Bw.oM, Bw.un1, Bw.drf, Bw.pk, Bw.opt, Bw.stnM, Bw.stN, Bw.stC, Bw.rtM, Bw.fldM, Bw.fldD, Bw.insOf, Bw.notB, in_dic, Bw.notInD, Bw.dget, Bw.toKey, Bw.ixC, Bw.ixM, Bw.calM, Bw.cal, Bw.metM, Bw.pick, Bw.cns, Bw.drpM, Bw.isN, Bw.andB, Bw.orB, Bw.asB, Bw.blM, e2, at2]
/-! ### the order of names -/
def sortS (l : List Str) : List Str := isort leS l
theorem isort_map {α β : Type} {f : α → β} {le : β → β → Bool} {le' : α → α → Bool} (he : ∀ a c, le (f a) (f c) = le' a c) : ∀ l : List α, isort le (l.map f) = (isort le' l).map f
  | [] => rfl
  | a :: l => by
    have ins : ∀ l : List α, insL le (f a) (l.map f) = (insL le' a l).map f := by
      intro l
      induction l with
      | nil => rfl
      | cons c l ih =>
        show (if le (f a) (f c) = true then f a :: f c :: l.map f else f c :: insL le (f a) (l.map f)) = ((if le' a c = true then a :: c :: l else c :: insL le' a l)).map f
        rw [he]
        by_cases hc : le' a c = true
        · rw [if_pos hc, if_pos hc]; rfl
        · rw [if_neg hc, if_neg hc, ih]; rfl
    show insL le (f a) (isort le (l.map f)) = _
    rw [isort_map he l, ins]
    rfl
theorem sortD_strs (l : List Str) (hl : l.length ≤ big) : sortD (l.map D.str) = some ((sortS l).map D.str) := by
  have e : toPys (l.map D.str) = some (l.map PySem.PyData.str) := by
    clear hl
    induction l with
    | nil => rfl
    | cons a l ih => rw [List.map_cons, toPys, ih]; rfl
  unfold sortD
  rw [e]
  dsimp only
  rw [if_pos]
  · congr 1
    exact isort_map (fun a c => le_str a c) l
  · simp only [Bool.and_eq_true, Bool.or_eq_true, List.all_eq_true, decide_eq_true_eq, alikeB, List.length_map]
    refine ⟨⟨⟨fun x hx y hy => ?_, .inr fun x hx => ?_⟩, fun x hx => ?_⟩, hl⟩
    · obtain ⟨a, _, rfl⟩ := List.mem_map.mp hx
      obtain ⟨c, _, rfl⟩ := List.mem_map.mp hy
      rfl
    · obtain ⟨a, _, rfl⟩ := List.mem_map.mp hx
      rfl
    · obtain ⟨a, _, rfl⟩ := List.mem_map.mp hx
      show (PySem.PyData.str a).depth ≤ 60
      simp [PySem.PyData.depth]
theorem keys_dicS {α : Type} (f : α → D) (l : List (Str × α)) : (dicS f l).map (·.1) = (names l).map D.str := by
  unfold dicS names
  rw [List.map_map, List.map_map]
  rfl
theorem sorted_dic {α : Type} (f : α → D) (l : List (Str × α)) (hl : l.length ≤ big) : sortedD (.dic false (dicS f l)) = some (.lst ((sortS (names l)).map D.str)) := by
  show (sortD ((dicS f l).map (·.1))).map D.lst = _
  rw [keys_dicS, sortD_strs _ (by unfold names; rw [List.length_map]; exact hl)]
  rfl
theorem names_run (hp : PlantAt h p P W F Fr) (hl : P.length ≤ big) : m_Plant_names [.ref p] h = .ret (.lst ((sortS (names P)).map D.str)) h := by
  simp (config := { decide := true }) [Bw.fnD, Bw.slots0, Bw.seqM, Bw.ifM, Bw.op2b, Bw.op2, Bw.op2c, Bw.bnd, Bw.ret, Bw.ixN', Bw.has, Bw.peek, Bw.deref, Bw.nm, Bw.setM, Bw.vM, Bw.oM, Bw.un1, Bw.drf, Bw.pk, Bw.opt, Bw.stnM, Bw.stN, Bw.stC, Bw.rtM, Bw.fldM, Bw.fldD, Bw.insOf, Bw.notB, in_dic, Bw.notInD, Bw.dget, Bw.toKey, Bw.ixC, Bw.ixM, Bw.calM, Bw.cal, Bw.metM, Bw.pick, Bw.cns, Bw.drpM, Bw.isN, Bw.andB, Bw.orB, Bw.asB, Bw.blM, m_Plant_names, b_Plant_names, hp.at_, f1, cP, sorted_dic Pl.d P hl]
theorem chutes_no : True := trivial
def askP (pl : Pl) : List Bag → Option Str
  | [] => none
  | x :: _ => pl.target x.2
theorem wanted_run (hp : PlantAt h p P W F Fr) (hs : StateAt h s p b t B T sh) (hg : P.lookup n = some pl) {l : List Bag} (hb : B.lookup n = some l) :
    m_wanted [.ref s, .str n] h = .ret (optS (askP pl l)) h := by
  have a2 := bags_run hp hs hg hb
  have a3 := target_run (n := n) hp hg
  have e3 := nf "target" rfl rfl rfl
  have e4 : ∀ a b c d : D, List.lookup ("bags" : Str) [(("plant" : Str), a), ("_bags", b), ("_turns", c), ("_shut", d)] = none := fun _ _ _ _ => rfl
  cases l with
  | nil => simp (config := { decide := true }) [Bw.fnD, Bw.slots0, Bw.seqM, Bw.ifM, Bw.op2b, Bw.op2, Bw.op2c, Bw.bnd, Bw.ret, Bw.ixN', Bw.has, Bw.peek, Bw.deref, Bw.nm, Bw.setM, Bw.vM, Bw.oM, Bw.un1, Bw.drf, Bw.pk, Bw.opt, Bw.stnM, Bw.stN, Bw.stC, Bw.rtM, Bw.fldM, Bw.fldD, Bw.insOf, Bw.notB, in_dic, Bw.notInD, Bw.dget, Bw.toKey, Bw.ixC, Bw.ixM, Bw.calM, Bw.cal, Bw.metM, Bw.pick, Bw.cns, Bw.drpM, Bw.isN, Bw.andB, Bw.orB, Bw.asB, Bw.blM, m_wanted, b_wanted, hp.at_, hs.at_, cP, cS, a2, lk, e3, e4, g1, len_tup, bagsD, eq_int, askP, optS]
  | cons x l =>
    have e5 : ((l.length : Int) + 1 == 0) = false := by
      rw [beq_eq_false_iff_ne]; omega
    simp (config := { decide := true }) [Bw.fnD, Bw.slots0, Bw.seqM, Bw.ifM, Bw.op2b, Bw.op2, Bw.op2c, Bw.bnd, Bw.ret, Bw.ixN', Bw.has, Bw.peek, Bw.deref, Bw.nm, Bw.setM, Bw.vM, Bw.oM, Bw.un1, Bw.drf, Bw.pk, Bw.opt, Bw.stnM, Bw.stN, Bw.stC, Bw.rtM, Bw.fldM, Bw.fldD, Bw.insOf, Bw.notB, in_dic, Bw.notInD, Bw.dget, Bw.toKey, Bw.ixC, Bw.ixM, Bw.calM, Bw.cal, Bw.metM, Bw.pick, Bw.cns, Bw.drpM, Bw.isN, Bw.andB, Bw.orB, Bw.asB, Bw.blM, m_wanted, b_wanted, hp.at_, hs.at_, cP, cS, a2, a3, lk, e3, e4, g1, len_tup, bagsD, eq_int, e5, at0, at1, bagD, askP]
theorem in_tup (x : Str) (l : List Str) : inD (.str x) (.tup (l.map D.str)) = some (l.any fun y => y == x) := by
  have e1 : (l.map D.str).all flatD = true := by
    rw [List.all_map]; exact List.all_eq_true.mpr fun _ _ => rfl
  have e2 : ((l.map D.str).any fun y => eqF y (.str x)) = l.any fun y => y == x := by
    rw [List.any_map]; rfl
  show (if (flatD (.str x) && (l.map D.str).all flatD) = true then some ((l.map D.str).any fun y => eqF y (.str x)) else none) = _
  rw [e1, e2]
  rfl
def putS {α : Type} (l : List (Str × α)) (n : Str) (a : α) : List (Str × α) := if (l.lookup n).isSome = true then l.map (fun e => if e.1 == n then (e.1, a) else e) else l ++ [(n, a)]
theorem dput_dicS {α : Type} (f : α → D) (l : List (Str × α)) (n : Str) (a : α) : dput false (dicS f l) (.str n) (f a) = some (dicS f (putS l n a)) := by
  show some (putE (fun x => decide (toKey x = some (Sum.inr n))) (dicS f l) (.str n) (f a)) = _
  congr 1
  have ek : ∀ m : Str, decide (toKey (D.str m) = some (Sum.inr n)) = (m == n) := fun m => by
    by_cases hm : m = n
    · subst hm
      rw [decide_eq_true (show toKey (D.str m) = some (Sum.inr m) from rfl)]
      simp
    · have h1 : (m == n) = false := by simpa using hm
      rw [h1]
      apply decide_eq_false
      intro z
      exact hm (Sum.inr.inj (Option.some.inj (show some (Sum.inr m : L2.Key) = some (Sum.inr n) from z)))
  have ea : ((dicS f l).any fun e => decide (toKey e.1 = some (Sum.inr n))) = (l.lookup n).isSome := by
    induction l with
    | nil => rfl
    | cons e l ih =>
      obtain ⟨m, c⟩ := e
      unfold dicS at *
      rw [List.map_cons, List.any_cons, List.lookup_cons, ih, ek]
      by_cases hm : m = n
      · subst hm; simp
      · have h1 : (m == n) = false := by simpa using hm
        have h2 : (n == m) = false := by simpa using fun z : n = m => hm z.symm
        rw [h1, h2]; rfl
  unfold putE putS
  rw [ea]
  split
  · unfold dicS
    rw [List.map_map, List.map_map]
    refine List.map_congr_left fun e _ => ?_
    obtain ⟨m, c⟩ := e
    show (if decide (toKey (D.str m) = some (Sum.inr n)) = true then _ else _) = _
    rw [ek]
    by_cases hm : m = n
    · subst hm; simp
    · simp [hm]
  · unfold dicS
    rw [List.map_append]
    rfl
theorem putS_new {α : Type} {l : List (Str × α)} {n : Str} (a : α) (hn : l.lookup n = none) : putS l n a = l ++ [(n, a)] := by
  unfold putS
  rw [hn]; rfl
theorem len_dicS {α : Type} (f : α → D) (l : List (Str × α)) : (dicS f l).length = l.length := List.length_map _
/-- what a place asks for: the place ahead, both open -/
def wantP (P : List (Str × Pl)) (B : List (Str × List Bag)) (sh : List Str) (n : Str) : Option Str := match P.lookup n, B.lookup n with
  | some pl, some l => (askP pl l).filter fun t => !(sh.any fun y => y == n) && !(sh.any fun y => y == t)
  | _, _ => none
def wantsP (P : List (Str × Pl)) (B : List (Str × List Bag)) (sh : List Str) (ns : List Str) : List (Str × Str) := ns.filterMap fun n => (wantP P B sh n).map fun t => (n, t)
theorem wants_loop (hp : PlantAt h p P W F Fr) (hs : StateAt h s p b t B T sh) : ∀ (ns : List Str) (acc : List (Str × Str)) (s2 s3 : Sl), (∀ n ∈ ns, ∃ pl l, P.lookup n = some pl ∧ B.lookup n = some l) → ns.Nodup → (∀ n ∈ ns, acc.lookup n = none) → acc.length + ns.length < big →
    ∃ s2' s3', Bw.forM (gnm 2) x_wants_0 (ns.map D.str) [.v (.ref s), .own (.dic false (dicS D.str acc)), s2, s3] h = .ok .nx [.v (.ref s), .own (.dic false (dicS D.str (acc ++ wantsP P B sh ns))), s2', s3'] h
  | [], acc, s2, s3, _, _, _, _ => ⟨s2, s3, by unfold wantsP; rw [List.filterMap_nil, List.append_nil]; rfl⟩
  | n :: ns, acc, s2, s3, hd, hn, ha, hl => by
    obtain ⟨pl, l, hg, hb⟩ := hd n List.mem_cons_self
    obtain ⟨hn1, hn2⟩ := List.nodup_cons.mp hn
    rw [List.length_cons] at hl
    have a1 := wanted_run hp hs hg hb
    have a2 := shut_run hs
    have e4 : ∀ a b c d : D, List.lookup ("shut_places" : Str) [(("plant" : Str), a), ("_bags", b), ("_turns", c), ("_shut", d)] = none := fun _ _ _ _ => rfl
    rw [List.map_cons, Bw.forM]
    have e6 : ∀ w : Option Str, wantP P B sh n = w → wantsP P B sh (n :: ns) = (w.map fun t => (n, t)).toList ++ wantsP P B sh ns := fun w hw => by
      unfold wantsP
      rw [List.filterMap_cons, hw]
      cases w <;> rfl
    have wp : wantP P B sh n = (askP pl l).filter fun t => !(sh.any fun y => y == n) && !(sh.any fun y => y == t) := by
      unfold wantP
      rw [hg, hb]
    cases hw : askP pl l with
    | none =>
      rw [hw] at a1 wp
      obtain ⟨s2', s3', e⟩ := wants_loop hp hs ns acc (.v (.str n)) (.v .non) (fun m hm => hd m (List.mem_cons_of_mem _ hm)) hn2 (fun m hm => ha m (List.mem_cons_of_mem _ hm)) (by omega)
      refine ⟨s2', s3', ?_⟩
      rw [e6 _ wp]
      show _ = R.ok Fl.nx [_, .own (.dic false (dicS D.str (acc ++ wantsP P B sh ns))), _, _] h
      rw [← e]
      simp (config := { decide := true }) [Bw.fnD, Bw.slots0, Bw.seqM, Bw.ifM, Bw.op2b, Bw.op2, Bw.op2c, Bw.bnd, Bw.ret, Bw.ixN', Bw.has, Bw.peek, Bw.deref, Bw.nm, Bw.setM, Bw.vM, Bw.oM, Bw.un1, Bw.drf, Bw.pk, Bw.opt, Bw.stnM, Bw.stN, Bw.stC, Bw.rtM, Bw.fldM, Bw.fldD, Bw.insOf, Bw.notB, in_dic, Bw.notInD, Bw.dget, Bw.toKey, Bw.ixC, Bw.ixM, Bw.calM, Bw.cal, Bw.metM, Bw.pick, Bw.cns, Bw.drpM, Bw.isN, Bw.andB, Bw.orB, Bw.asB, Bw.blM, x_wants_0, gnm, a1, lk, cS, cP, hs.at_, optS]
    | some tg =>
      rw [hw] at a1 wp
      have i1 := in_tup n sh
      have i2 := in_tup tg sh
      by_cases h1 : ((!(sh.any fun y => y == n)) && !(sh.any fun y => y == tg)) = true
      · have wp2 : wantP P B sh n = some tg := by rw [wp]; simp only [Option.filter, h1]; rfl
        rw [Bool.and_eq_true, Bool.not_eq_true', Bool.not_eq_true'] at h1
        rw [h1.1] at i1
        rw [h1.2] at i2
        have hln := ha n List.mem_cons_self
        obtain ⟨s2', s3', e⟩ := wants_loop hp hs ns (acc ++ [(n, tg)]) (.v (.str n)) (.v (.str tg)) (fun m hm => hd m (List.mem_cons_of_mem _ hm)) hn2 (fun m hm => by
          rw [List.lookup_append, ha m (List.mem_cons_of_mem _ hm)]
          have : (m == n) = false := by
            rw [beq_eq_false_iff_ne]; rintro rfl; exact hn1 hm
          rw [List.lookup_cons, this]; rfl) (by rw [List.length_append, List.length_singleton]; omega)
        refine ⟨s2', s3', ?_⟩
        rw [e6 _ wp2]
        rw [List.append_assoc] at e
        show _ = R.ok Fl.nx [_, .own (.dic false (dicS D.str (acc ++ ([(n, tg)] ++ wantsP P B sh ns)))), _, _] h
        rw [← e]
        have d1 := dput_dicS D.str acc n tg
        rw [putS_new tg hln] at d1
        have d2 : (dicS D.str acc).length < big := by rw [len_dicS]; omega
        simp (config := { decide := true }) [Bw.fnD, Bw.slots0, Bw.seqM, Bw.ifM, Bw.op2b, Bw.op2, Bw.op2c, Bw.bnd, Bw.ret, Bw.ixN', Bw.has, Bw.peek, Bw.deref, Bw.nm, Bw.setM, Bw.vM, Bw.oM, Bw.un1, Bw.drf, Bw.pk, Bw.opt, Bw.stnM, Bw.stN, Bw.stC, Bw.rtM, Bw.fldM, Bw.fldD, Bw.insOf, Bw.notB, in_dic, Bw.notInD, Bw.dget, Bw.toKey, Bw.ixC, Bw.ixM, Bw.calM, Bw.cal, Bw.metM, Bw.pick, Bw.cns, Bw.drpM, Bw.isN, Bw.andB, Bw.orB, Bw.asB, Bw.blM, x_wants_0, gnm, a1, a2, lk, cS, cP, hs.at_, e4, i1, i2, optS, putC, d1, d2]
      · have wp2 : wantP P B sh n = none := by rw [wp]; simp only [Option.filter, h1]; rfl
        obtain ⟨s2', s3', e⟩ := wants_loop hp hs ns acc (.v (.str n)) (.v (.str tg)) (fun m hm => hd m (List.mem_cons_of_mem _ hm)) hn2 (fun m hm => ha m (List.mem_cons_of_mem _ hm)) (by omega)
        refine ⟨s2', s3', ?_⟩
        rw [e6 _ wp2]
        show _ = R.ok Fl.nx [_, .own (.dic false (dicS D.str (acc ++ wantsP P B sh ns))), _, _] h
        rw [← e]
        cases h2 : (sh.any fun y => y == n) with
        | true =>
          rw [h2] at i1
          simp (config := { decide := true }) [Bw.fnD, Bw.slots0, Bw.seqM, Bw.ifM, Bw.op2b, Bw.op2, Bw.op2c, Bw.bnd, Bw.ret, Bw.ixN', Bw.has, Bw.peek, Bw.deref, Bw.nm, Bw.setM, Bw.vM, Bw.oM, Bw.un1, Bw.drf, Bw.pk, Bw.opt, Bw.stnM, Bw.stN, Bw.stC, Bw.rtM, Bw.fldM, Bw.fldD, Bw.insOf, Bw.notB, in_dic, Bw.notInD, Bw.dget, Bw.toKey, Bw.ixC, Bw.ixM, Bw.calM, Bw.cal, Bw.metM, Bw.pick, Bw.cns, Bw.drpM, Bw.isN, Bw.andB, Bw.orB, Bw.asB, Bw.blM, x_wants_0, gnm, a1, a2, lk, cS, cP, hs.at_, e4, i1, optS]
        | false =>
          rw [h2] at i1 h1
          cases h3 : (sh.any fun y => y == tg) with
          | true =>
            rw [h3] at i2
            simp (config := { decide := true }) [Bw.fnD, Bw.slots0, Bw.seqM, Bw.ifM, Bw.op2b, Bw.op2, Bw.op2c, Bw.bnd, Bw.ret, Bw.ixN', Bw.has, Bw.peek, Bw.deref, Bw.nm, Bw.setM, Bw.vM, Bw.oM, Bw.un1, Bw.drf, Bw.pk, Bw.opt, Bw.stnM, Bw.stN, Bw.stC, Bw.rtM, Bw.fldM, Bw.fldD, Bw.insOf, Bw.notB, in_dic, Bw.notInD, Bw.dget, Bw.toKey, Bw.ixC, Bw.ixM, Bw.calM, Bw.cal, Bw.metM, Bw.pick, Bw.cns, Bw.drpM, Bw.isN, Bw.andB, Bw.orB, Bw.asB, Bw.blM, x_wants_0, gnm, a1, a2, lk, cS, cP, hs.at_, e4, i1, i2, optS]
          | false => rw [h3] at h1; exact absurd rfl h1
theorem wants_run (hp : PlantAt h p P W F Fr) (hs : StateAt h s p b t B T sh) (hd : ∀ n ∈ names P, ∃ pl l, P.lookup n = some pl ∧ B.lookup n = some l) (hn : (names P).Nodup) (hl : P.length < big) :
    m_wants [.ref s] h = .ret (.dic false (dicS D.str (wantsP P B sh (sortS (names P))))) h := by
  have a1 := names_run hp (Nat.le_of_lt hl)
  have pm : (sortS (names P)).Perm (names P) := by
    unfold sortS
    rw [isort_eq leS_tr leS_to]
    exact List.mergeSort_perm _ _
  have e3 := nf "names" rfl rfl rfl
  obtain ⟨s2, s3, e⟩ := wants_loop hp hs (sortS (names P)) [] .un .un (fun n hm => hd n (pm.mem_iff.mp hm)) (pm.nodup_iff.mpr hn) (fun _ _ => rfl) (by
    rw [pm.length_eq]
    show 0 + (P.map (·.1)).length < big
    rw [List.length_map]; omega)
  have e2 : (dicS D.str ([] : List (Str × Str))) = [] := rfl
  rw [e2, List.nil_append] at e
  simp (config := { decide := true }) [Bw.fnD, Bw.slots0, Bw.seqM, Bw.ifM, Bw.op2b, Bw.op2, Bw.op2c, Bw.bnd, Bw.ret, Bw.ixN', Bw.has, Bw.peek, Bw.deref, Bw.nm, Bw.setM, Bw.vM, Bw.oM, Bw.un1, Bw.drf, Bw.pk, Bw.opt, Bw.stnM, Bw.stN, Bw.stC, Bw.rtM, Bw.fldM, Bw.fldD, Bw.insOf, Bw.notB, in_dic, Bw.notInD, Bw.dget, Bw.toKey, Bw.ixC, Bw.ixM, Bw.calM, Bw.cal, Bw.metM, Bw.pick, Bw.cns, Bw.drpM, Bw.isN, Bw.andB, Bw.orB, Bw.asB, Bw.blM, m_wants, b_wants, a1, lk, cS, cP, hs.at_, hp.at_, e3, g1, foM, wkM, walkD, e]
def wayP (W : List (Str × Way)) (Fr : Str → List Str) (n : Str) : Way := (W.lookup n).getD ⟨false, Fr n⟩
theorem way_run (hp : PlantAt h p P W F Fr) {i : Nat} (hf : F.lookup n = some i) : m_Plant_way [.ref p, .str n] h = .ret (wayP W Fr n).d h := by
  have a1 := src_run hp hf
  have e3 := nf "sources" rfl rfl rfl
  have e4 : tupleD (.lst ((Fr n).map D.str)) = some (.kt ((Fr n).map D.str)) := rfl
  unfold wayP
  cases hw : W.lookup n with
  | none => simp (config := { decide := true }) [Bw.fnD, Bw.slots0, Bw.seqM, Bw.ifM, Bw.op2b, Bw.op2, Bw.op2c, Bw.bnd, Bw.ret, Bw.ixN', Bw.has, Bw.peek, Bw.deref, Bw.nm, Bw.setM, Bw.vM, Bw.oM, Bw.un1, Bw.drf, Bw.pk, Bw.opt, Bw.stnM, Bw.stN, Bw.stC, Bw.rtM, Bw.fldM, Bw.fldD, Bw.insOf, Bw.notB, in_dic, Bw.notInD, Bw.dget, Bw.toKey, Bw.ixC, Bw.ixM, Bw.calM, Bw.cal, Bw.metM, Bw.pick, Bw.cns, Bw.drpM, Bw.isN, Bw.andB, Bw.orB, Bw.asB, Bw.blM, m_Plant_way, b_Plant_way, hp.at_, f2, cP, getM, isDic, getC, getK_dicS, hw, a1, lk, e3, tupM, bg2, e4, Way.d]
  | some w => simp (config := { decide := true }) [Bw.fnD, Bw.slots0, Bw.seqM, Bw.ifM, Bw.op2b, Bw.op2, Bw.op2c, Bw.bnd, Bw.ret, Bw.ixN', Bw.has, Bw.peek, Bw.deref, Bw.nm, Bw.setM, Bw.vM, Bw.oM, Bw.un1, Bw.drf, Bw.pk, Bw.opt, Bw.stnM, Bw.stN, Bw.stC, Bw.rtM, Bw.fldM, Bw.fldD, Bw.insOf, Bw.notB, in_dic, Bw.notInD, Bw.dget, Bw.toKey, Bw.ixC, Bw.ixM, Bw.calM, Bw.cal, Bw.metM, Bw.pick, Bw.cns, Bw.drpM, Bw.isN, Bw.andB, Bw.orB, Bw.asB, Bw.blM, m_Plant_way, b_Plant_way, hp.at_, f2, cP, getM, isDic, getC, getK_dicS, hw, a1, lk, e3, tupM, bg2, e4]
def rot (l : List Str) (k : Nat) : List Str := l.drop k ++ l.take k
theorem sl_kt (h : Hd) (l : List Str) (lo hi : Option Int) : ∃ x, slC (.kt (l.map D.str)) lo hi = some x ∧ listD x = some (.lst (cutL (l.map D.str) lo hi)) ∧ deref h x = x := by
  by_cases hc : HT.sIx (l.map D.str).length 0 lo = 0 ∧ HT.sIx (l.map D.str).length (l.map D.str).length hi = (l.map D.str).length
  · refine ⟨.kt (l.map D.str), if_pos hc, ?_, rfl⟩
    unfold cutL
    rw [hc.1, hc.2, List.drop_zero, Nat.sub_zero, List.take_length]
    rfl
  · exact ⟨.tup (cutL (l.map D.str) lo hi), if_neg hc, rfl, rfl⟩
theorem cut_lo (l : List Str) {k : Nat} (hk : k ≤ l.length) : cutL (l.map D.str) (some (k : Int)) none = (l.drop k).map D.str := by
  unfold cutL
  rw [HT.sIx_nat, List.length_map, Nat.min_eq_left hk]
  show ((l.map D.str).drop k).take (l.length - k) = _
  rw [List.take_of_length_le (by rw [List.length_drop, List.length_map]; exact Nat.le_refl _), List.map_drop]
theorem cut_hi (l : List Str) {k : Nat} (hk : k ≤ l.length) : cutL (l.map D.str) none (some (k : Int)) = (l.take k).map D.str := by
  unfold cutL
  rw [HT.sIx_nat, List.length_map, Nat.min_eq_left hk]
  show ((l.map D.str).drop 0).take (k - 0) = _
  rw [List.drop_zero, Nat.sub_zero, List.map_take]
theorem add_lst (h : Hd) (a b : List D) (hl : a.length + b.length ≤ big) : addD h (.lst a) (.lst b) = some (.lst (a ++ b)) := if_pos hl
theorem in_order_run (hp : PlantAt h p P W F Fr) (hs : StateAt h s p b t B T sh) (hg : P.lookup n = some pl) {i k : Nat} (hf : F.lookup n = some i) (hk : T.lookup n = some k) (hkl : k ≤ (wayP W Fr n).ord.length) (hbg : (wayP W Fr n).ord.length ≤ big) :
    m_in_order [.ref s, .str n] h = .ret (.lst ((if (wayP W Fr n).turns = true then rot (wayP W Fr n).ord k else (wayP W Fr n).ord).map D.str)) h := by
  have a1 := way_run hp hf
  have a2 := turn_run hp hs hg hk
  have e3 := nf "way" rfl rfl rfl
  have e4 : ∀ a b c d : D, List.lookup ("turn" : Str) [(("plant" : Str), a), ("_bags", b), ("_turns", c), ("_shut", d)] = none := fun _ _ _ _ => rfl
  cases hw : (wayP W Fr n).turns with
  | false => simp (config := { decide := true }) [Bw.fnD, Bw.slots0, Bw.seqM, Bw.ifM, Bw.op2b, Bw.op2, Bw.op2c, Bw.bnd, Bw.ret, Bw.ixN', Bw.has, Bw.peek, Bw.deref, Bw.nm, Bw.setM, Bw.vM, Bw.oM, Bw.un1, Bw.drf, Bw.pk, Bw.opt, Bw.stnM, Bw.stN, Bw.stC, Bw.rtM, Bw.fldM, Bw.fldD, Bw.insOf, Bw.notB, in_dic, Bw.notInD, Bw.dget, Bw.toKey, Bw.ixC, Bw.ixM, Bw.calM, Bw.cal, Bw.metM, Bw.pick, Bw.cns, Bw.drpM, Bw.isN, Bw.andB, Bw.orB, Bw.asB, Bw.blM, m_in_order, b_in_order, hp.at_, hs.at_, cP, cS, a1, a2, lk, e3, e4, g1, asgM, Bw.gtup, gcns, gnm, gnil, Way.d, hw, eq_str, listD, itemsD]
  | true =>
    obtain ⟨x, x1, x2, x3⟩ := sl_kt h (wayP W Fr n).ord (some (k : Int)) none
    obtain ⟨y, y1, y2, y3⟩ := sl_kt h (wayP W Fr n).ord none (some (k : Int))
    rw [cut_lo _ hkl] at x2
    rw [cut_hi _ hkl] at y2
    have z1 := add_lst h (((wayP W Fr n).ord.map D.str).drop k) (((wayP W Fr n).ord.map D.str).take k) (by rw [List.length_drop, List.length_take, List.length_map]; omega)
    unfold deref at x3 y3
    rw [show rot (wayP W Fr n).ord k = (wayP W Fr n).ord.drop k ++ (wayP W Fr n).ord.take k from rfl]
    simp (config := { decide := true }) [Bw.fnD, Bw.slots0, Bw.seqM, Bw.ifM, Bw.op2b, Bw.op2, Bw.op2c, Bw.bnd, Bw.ret, Bw.ixN', Bw.has, Bw.peek, Bw.deref, Bw.nm, Bw.setM, Bw.vM, Bw.oM, Bw.un1, Bw.drf, Bw.pk, Bw.opt, Bw.stnM, Bw.stN, Bw.stC, Bw.rtM, Bw.fldM, Bw.fldD, Bw.insOf, Bw.notB, in_dic, Bw.notInD, Bw.dget, Bw.toKey, Bw.ixC, Bw.ixM, Bw.calM, Bw.cal, Bw.metM, Bw.pick, Bw.cns, Bw.drpM, Bw.isN, Bw.andB, Bw.orB, Bw.asB, Bw.blM, m_in_order, b_in_order, hp.at_, hs.at_, cP, cS, a1, a2, lk, e3, e4, g1, asgM, Bw.gtup, gcns, gnm, gnil, Way.d, hw, eq_str, slN, prt, x1, x2, x3, y1, y2, y3, z1]
end
end Law
namespace Law
open L2 Bw
open PySem (Str)
/-! ### comprehensions that only look -/
theorem lcM_run {σ : List Sl} {h : Hd} {vs : List Nat} {t : Tg D} {c : Bw.M Bool} {e : Bw.M D} (p : D → Bool) (f : D → D) : ∀ (ds acc : List D),
    (∀ d ∈ ds, ∃ σ1, t d σ = some σ1 ∧ c σ1 h = .ok (p d) σ1 h ∧ (p d = true → e σ1 h = .ok (f d) σ1 h) ∧ wipeS σ1 vs = σ) → acc.length + ds.length ≤ big → lcM vs t c e acc ds σ h = .ok (acc ++ (ds.filter p).map f) σ h
  | [], acc, _, _ => by rw [List.filter_nil, List.map_nil, List.append_nil]; rfl
  | d :: ds, acc, hd, hl => by
    obtain ⟨σ1, e1, e2, e3, e4⟩ := hd d List.mem_cons_self
    rw [List.length_cons] at hl
    unfold lcM
    rw [e1]
    dsimp only
    rw [e2]
    cases hp : p d with
    | true =>
      dsimp only
      rw [e3 hp]
      dsimp only
      rw [if_pos (by omega), e4, lcM_run p f ds (acc ++ [f d]) (fun x hx => hd x (List.mem_cons_of_mem _ hx)) (by rw [List.length_append, List.length_singleton]; omega), List.filter_cons, if_pos hp, List.map_cons, List.append_assoc]
      rfl
    | false =>
      dsimp only
      rw [e4, lcM_run p f ds acc (fun x hx => hd x (List.mem_cons_of_mem _ hx)) (by omega), List.filter_cons, hp, if_neg Bool.false_ne_true]
theorem dcM_run {α : Type} {g : α → D} {σ : List Sl} {h : Hd} {vs : List Nat} {t : Tg D} {c : Bw.M Bool} {k e : Bw.M D} {β : Type} (kk : β → Str) (f : β → α) (q : β → D) : ∀ (ds : List β) (acc : List (Str × α)),
    (∀ d ∈ ds, ∃ σ1, t (q d) σ = some σ1 ∧ c σ1 h = .ok true σ1 h ∧ k σ1 h = .ok (.str (kk d)) σ1 h ∧ e σ1 h = .ok (g (f d)) σ1 h ∧ wipeS σ1 vs = σ) → acc.length + ds.length ≤ big →
    dcM vs t c k e (dicS g acc) (ds.map q) σ h = .ok (dicS g (ds.foldl (fun a d => putS a (kk d) (f d)) acc)) σ h
  | [], acc, _, _ => rfl
  | d :: ds, acc, hd, hl => by
    obtain ⟨σ1, e1, e2, e3, e4, e5⟩ := hd d List.mem_cons_self
    rw [List.length_cons] at hl
    rw [List.map_cons]
    unfold dcM
    rw [e1]
    dsimp only
    rw [e2]
    dsimp only
    rw [e3]
    dsimp only
    rw [e4]
    dsimp only
    have hp : (putS acc (kk d) (f d)).length ≤ acc.length + 1 := by
      unfold putS
      split
      · rw [List.length_map]; omega
      · rw [List.length_append]; exact Nat.le_refl _
    rw [if_pos (by rw [len_dicS]; omega), dput_dicS, e5]
    dsimp only
    rw [dcM_run kk f q ds (putS acc (kk d) (f d)) (fun x hx => hd x (List.mem_cons_of_mem _ hx)) (by omega)]
    rfl
theorem fold_putS {α β : Type} (kk : β → Str) (f : β → α) : ∀ (ds : List β) (acc : List (Str × α)), (ds.map kk).Nodup → (∀ d ∈ ds, acc.lookup (kk d) = none) → ds.foldl (fun a d => putS a (kk d) (f d)) acc = acc ++ ds.map fun d => (kk d, f d)
  | [], acc, _, _ => by simp
  | d :: ds, acc, hn, ha => by
    obtain ⟨h1, h2⟩ := List.nodup_cons.mp hn
    show ds.foldl _ (putS acc (kk d) (f d)) = _
    rw [putS_new _ (ha d List.mem_cons_self), fold_putS kk f ds _ h2 fun x hx => ?_, List.append_assoc]
    · rfl
    · rw [List.lookup_append, ha x (List.mem_cons_of_mem _ hx)]
      have : (kk x == kk d) = false := by
        rw [beq_eq_false_iff_ne]
        intro z
        exact h1 (z ▸ List.mem_map.mpr ⟨x, hx, rfl⟩)
      rw [List.lookup_cons, this]; rfl
/-! ### a set of texts, in order -/
def onceS (l : List Str) : List Str := l.foldl (fun acc x => if acc.any (fun y => decide (y = x)) = true then acc else acc ++ [x]) []
theorem setK_strs (l : List Str) (hl : l.length + 1 < 4096) : setK (.lst (l.map D.str)) = some ((onceS l).map Sum.inr) := by
  have e1 : toKeyL (l.map D.str) = some (l.map Sum.inr) := by
    clear hl
    induction l with
    | nil => rfl
    | cons x l ih => rw [List.map_cons, toKeyL, ih]; rfl
  have e2 : onceK (l.map Sum.inr) = (onceS l).map Sum.inr := by
    have go : ∀ (l acc : List Str), (l.map (Sum.inr : Str → L2.Key)).foldl insK (acc.map Sum.inr) = (l.foldl (fun acc x => if acc.any (fun y => decide (y = x)) = true then acc else acc ++ [x]) acc).map Sum.inr := by
      intro l
      induction l with
      | nil => intro acc; rfl
      | cons x l ih =>
        intro acc
        rw [List.map_cons, List.foldl_cons, List.foldl_cons, ← ih]
        congr 1
        unfold insK hasK
        rw [List.any_map]
        have : ((fun j => decide (j = Sum.inr x)) ∘ (Sum.inr : Str → L2.Key)) = fun y => decide (y = x) := by
          funext y
          show decide ((Sum.inr y : L2.Key) = Sum.inr x) = _
          exact L2.key_rr y x
        rw [this]
        split
        · rfl
        · rw [List.map_append]; rfl
    exact go l []
  show (toKeyL (l.map D.str)).bind _ = _
  rw [e1]
  show (if (l.map Sum.inr).length + 1 < 4096 then some (onceK (l.map Sum.inr)) else none) = _
  rw [List.length_map, if_pos hl, e2]
theorem sort_once (l : List Str) (hl : (onceS l).length ≤ big) : sortD (((onceS l).map (Sum.inr : Str → L2.Key)).map kD) = some ((sortS (onceS l)).map D.str) := by
  rw [List.map_map]
  exact sortD_strs (onceS l) hl
end Law
namespace Law
open L2 Bw
open PySem (Str)
structure Wf (P : List (Str × Pl)) (W : List (Str × Way)) (F : List (Str × Nat)) (Fr : Str → List Str) (B : List (Str × List Bag)) (T : List (Str × Nat)) : Prop where
  nd : (names P).Nodup
  small : P.length ≤ 300
  bag : ∀ n pl, P.lookup n = some pl → ∃ l, B.lookup n = some l
  src : ∀ n pl, P.lookup n = some pl → ∃ i, F.lookup n = some i
  turn : ∀ n pl, P.lookup n = some pl → ∃ k, T.lookup n = some k ∧ k ≤ (wayP W Fr n).ord.length
  ord : ∀ n, (wayP W Fr n).ord.length ≤ 300
  tgt : ∀ n pl g t, P.lookup n = some pl → pl.target g = some t → ∃ pl', P.lookup t = some pl'
theorem lookup_mem {α : Type} {n : Str} : ∀ {l : List (Str × α)}, n ∈ names l → ∃ a, l.lookup n = some a
  | (m, a) :: l, hm => by
    rw [List.lookup_cons]
    by_cases h : n = m
    · subst h; exact ⟨a, by simp⟩
    · have h1 : (n == m) = false := by simpa using h
      rw [h1]
      refine lookup_mem (l := l) ?_
      unfold names at hm ⊢
      rw [List.map_cons] at hm
      exact (List.mem_cons.mp hm).resolve_left h
theorem mem_lookup {α : Type} {n : Str} {a : α} : ∀ {l : List (Str × α)}, l.lookup n = some a → (n, a) ∈ l
  | (m, c) :: l, e => by
    rw [List.lookup_cons] at e
    by_cases h : n = m
    · subst h
      simp at e
      subst e
      exact List.mem_cons_self
    · have h1 : (n == m) = false := by simpa using h
      rw [h1] at e
      exact List.mem_cons_of_mem _ (mem_lookup e)
section
variable {h : Hd} {p s b t : Nat} {P : List (Str × Pl)} {W : List (Str × Way)} {F : List (Str × Nat)} {Fr : Str → List Str} {B : List (Str × List Bag)} {T : List (Str × Nat)} {sh : List Str} {n : Str} {pl : Pl}
/-- who gets a place: the first in its order that asks for it -/
def firstS (A : List (Str × Str)) (nm : Str) (src : List Str) : Option Str := src.find? fun s => A.lookup s == some nm
def addW (A : List (Str × Str)) (acc : List (Str × Str)) (nm : Str) (src : List Str) : List (Str × Str) := match acc.lookup nm with
  | some _ => acc
  | none => match firstS A nm src with
    | some s => acc ++ [(nm, s)]
    | none => acc
theorem get_dic (d : Option D) : True := trivial
theorem win_in {A : List (Str × Str)} {nm : Str} {a b2 : Sl} : ∀ (src : List Str) (acc : List (Str × Str)) (s4 : Sl), acc.length + src.length < big → ∃ s4', Bw.forM (gnm 4) x_winners_2 (src.map D.str) [a, .v (.dic false (dicS D.str A)), .own (.dic false (dicS D.str acc)), .v (.str nm), s4] h =
    .ok .nx [a, .v (.dic false (dicS D.str A)), .own (.dic false (dicS D.str (addW A acc nm src))), .v (.str nm), s4'] h
  | [], acc, s4, _ => ⟨s4, by
    have : addW A acc nm [] = acc := by unfold addW firstS; rw [List.find?_nil]; cases acc.lookup nm <;> rfl
    rw [this]; rfl⟩
  | x :: src, acc, s4, hl => by
    rw [List.length_cons] at hl
    have d2 : (dicS D.str acc).length < big := by rw [len_dicS]; omega
    rw [List.map_cons, Bw.forM]
    cases hn : acc.lookup nm with
    | some y =>
      obtain ⟨s4', e⟩ := win_in (a := a) (b2 := b2) (A := A) (nm := nm) src acc (.v (.str x)) (by omega)
      refine ⟨s4', ?_⟩
      have e1 : addW A acc nm (x :: src) = addW A acc nm src := by unfold addW; rw [hn]
      rw [e1, ← e]
      simp (config := { decide := true }) [Bw.fnD, Bw.slots0, Bw.seqM, Bw.ifM, Bw.op2b, Bw.op2, Bw.op2c, Bw.bnd, Bw.ret, Bw.ixN', Bw.has, Bw.peek, Bw.deref, Bw.nm, Bw.setM, Bw.vM, Bw.oM, Bw.un1, Bw.drf, Bw.pk, Bw.opt, Bw.stnM, Bw.stN, Bw.stC, Bw.rtM, Bw.fldM, Bw.fldD, Bw.insOf, Bw.notB, in_dic, Bw.notInD, Bw.dget, Bw.toKey, Bw.ixC, Bw.ixM, Bw.calM, Bw.cal, Bw.metM, Bw.pick, Bw.cns, Bw.drpM, Bw.isN, Bw.andB, Bw.orB, Bw.asB, Bw.blM, x_winners_2, gnm, getK_dicS, hn]
    | none =>
      by_cases hx : A.lookup x = some nm
      · have e1 : addW A acc nm (x :: src) = acc ++ [(nm, x)] := by
          unfold addW firstS
          rw [hn, List.find?_cons, hx]
          simp
        have e2 : addW A (acc ++ [(nm, x)]) nm src = acc ++ [(nm, x)] := by
          unfold addW
          rw [List.lookup_append, hn]
          simp
        have d1 := dput_dicS D.str acc nm x
        rw [putS_new x hn] at d1
        obtain ⟨s4', e⟩ := win_in (a := a) (b2 := b2) (A := A) (nm := nm) src (acc ++ [(nm, x)]) (.v (.str x)) (by rw [List.length_append, List.length_singleton]; omega)
        refine ⟨s4', ?_⟩
        rw [e1]
        rw [e2] at e
        rw [← e]
        simp (config := { decide := true }) [Bw.fnD, Bw.slots0, Bw.seqM, Bw.ifM, Bw.op2b, Bw.op2, Bw.op2c, Bw.bnd, Bw.ret, Bw.ixN', Bw.has, Bw.peek, Bw.deref, Bw.nm, Bw.setM, Bw.vM, Bw.oM, Bw.un1, Bw.drf, Bw.pk, Bw.opt, Bw.stnM, Bw.stN, Bw.stC, Bw.rtM, Bw.fldM, Bw.fldD, Bw.insOf, Bw.notB, in_dic, Bw.notInD, Bw.dget, Bw.toKey, Bw.ixC, Bw.ixM, Bw.calM, Bw.cal, Bw.metM, Bw.pick, Bw.cns, Bw.drpM, Bw.isN, Bw.andB, Bw.orB, Bw.asB, Bw.blM, x_winners_2, gnm, getK_dicS, hn, getNM, isDic, getC, hx, eq_str, putC, d1, d2]
      · obtain ⟨s4', e⟩ := win_in (a := a) (b2 := b2) (A := A) (nm := nm) src acc (.v (.str x)) (by omega)
        refine ⟨s4', ?_⟩
        have h1 : (A.lookup x == some nm) = false := by simpa using hx
        have e1 : addW A acc nm (x :: src) = addW A acc nm src := by
          unfold addW firstS
          rw [hn, List.find?_cons, h1]
        rw [e1, ← e]
        cases hy : A.lookup x with
        | none =>
          have q : eqD h .non (.str nm) = some false := rfl
          simp (config := { decide := true }) [Bw.fnD, Bw.slots0, Bw.seqM, Bw.ifM, Bw.op2b, Bw.op2, Bw.op2c, Bw.bnd, Bw.ret, Bw.ixN', Bw.has, Bw.peek, Bw.deref, Bw.nm, Bw.setM, Bw.vM, Bw.oM, Bw.un1, Bw.drf, Bw.pk, Bw.opt, Bw.stnM, Bw.stN, Bw.stC, Bw.rtM, Bw.fldM, Bw.fldD, Bw.insOf, Bw.notB, in_dic, Bw.notInD, Bw.dget, Bw.toKey, Bw.ixC, Bw.ixM, Bw.calM, Bw.cal, Bw.metM, Bw.pick, Bw.cns, Bw.drpM, Bw.isN, Bw.andB, Bw.orB, Bw.asB, Bw.blM, x_winners_2, gnm, getK_dicS, hn, getNM, isDic, getC, hy, q]
        | some y =>
          have hne : (y == nm) = false := by
            rw [beq_eq_false_iff_ne]; rintro rfl; exact hx hy
          simp (config := { decide := true }) [Bw.fnD, Bw.slots0, Bw.seqM, Bw.ifM, Bw.op2b, Bw.op2, Bw.op2c, Bw.bnd, Bw.ret, Bw.ixN', Bw.has, Bw.peek, Bw.deref, Bw.nm, Bw.setM, Bw.vM, Bw.oM, Bw.un1, Bw.drf, Bw.pk, Bw.opt, Bw.stnM, Bw.stN, Bw.stC, Bw.rtM, Bw.fldM, Bw.fldD, Bw.insOf, Bw.notB, in_dic, Bw.notInD, Bw.dget, Bw.toKey, Bw.ixC, Bw.ixM, Bw.calM, Bw.cal, Bw.metM, Bw.pick, Bw.cns, Bw.drpM, Bw.isN, Bw.andB, Bw.orB, Bw.asB, Bw.blM, x_winners_2, gnm, getK_dicS, hn, getNM, isDic, getC, hy, eq_str, hne]
end
end Law
namespace Law
open L2 Bw
open PySem (Str)
section
variable {h : Hd} {p s b t : Nat} {P : List (Str × Pl)} {W : List (Str × Way)} {F : List (Str × Nat)} {Fr : Str → List Str} {B : List (Str × List Bag)} {T : List (Str × Nat)} {sh : List Str} {n : Str} {pl : Pl}
/-- the order in which a place is given -/
def orderP (W : List (Str × Way)) (Fr : Str → List Str) (T : List (Str × Nat)) (n : Str) : List Str := if (wayP W Fr n).turns = true then rot (wayP W Fr n).ord ((T.lookup n).getD 0) else (wayP W Fr n).ord
theorem order_run (wf : Wf P W F Fr B T) (hp : PlantAt h p P W F Fr) (hs : StateAt h s p b t B T sh) (hg : P.lookup n = some pl) : m_in_order [.ref s, .str n] h = .ret (.lst ((orderP W Fr T n).map D.str)) h := by
  obtain ⟨i, hf⟩ := wf.src n pl hg
  obtain ⟨k, hk, hkl⟩ := wf.turn n pl hg
  have a := in_order_run hp hs hg hf hk hkl (Nat.le_trans (wf.ord n) (by decide))
  unfold orderP
  rw [hk]
  exact a
theorem order_len (wf : Wf P W F Fr B T) (n : Str) : (orderP W Fr T n).length ≤ 300 := by
  have := wf.ord n
  unfold orderP rot
  split
  · rw [List.length_append, List.length_drop, List.length_take]; omega
  · exact this
theorem win_out (wf : Wf P W F Fr B T) (hp : PlantAt h p P W F Fr) (hs : StateAt h s p b t B T sh) {A : List (Str × Str)} : ∀ (ns : List Str) (acc : List (Str × Str)) (s3 s4 : Sl), (∀ m ∈ ns, ∃ pl, P.lookup m = some pl) → acc.length + ns.length + 300 < big →
    ∃ s3' s4', Bw.forM (gnm 3) x_winners_3 (ns.map D.str) [.v (.ref s), .v (.dic false (dicS D.str A)), .own (.dic false (dicS D.str acc)), s3, s4] h =
      .ok .nx [.v (.ref s), .v (.dic false (dicS D.str A)), .own (.dic false (dicS D.str (ns.foldl (fun a m => addW A a m (orderP W Fr T m)) acc))), s3', s4'] h
  | [], acc, s3, s4, _, _ => ⟨s3, s4, rfl⟩
  | m :: ns, acc, s3, s4, hd, hl => by
    rw [List.length_cons] at hl
    obtain ⟨pl, hg⟩ := hd m List.mem_cons_self
    have a1 := order_run wf hp hs hg
    have ol := order_len wf m
    have al : (addW A acc m (orderP W Fr T m)).length ≤ acc.length + 1 := by
      unfold addW
      split
      · omega
      · split
        · rw [List.length_append]; exact Nat.le_refl _
        · omega
    obtain ⟨s4', e⟩ := win_in (h := h) (a := .v (.ref s)) (b2 := s3) (A := A) (nm := m) (orderP W Fr T m) acc s4 (by omega)
    obtain ⟨s3'', s4'', e2⟩ := win_out wf hp hs (A := A) ns (addW A acc m (orderP W Fr T m)) (.v (.str m)) s4' (fun x hx => hd x (List.mem_cons_of_mem _ hx)) (by omega)
    refine ⟨s3'', s4'', ?_⟩
    rw [List.map_cons, Bw.forM, List.foldl_cons, ← e2]
    simp (config := { decide := true }) [Bw.fnD, Bw.slots0, Bw.seqM, Bw.ifM, Bw.op2b, Bw.op2, Bw.op2c, Bw.bnd, Bw.ret, Bw.ixN', Bw.has, Bw.peek, Bw.deref, Bw.nm, Bw.setM, Bw.vM, Bw.oM, Bw.un1, Bw.drf, Bw.pk, Bw.opt, Bw.stnM, Bw.stN, Bw.stC, Bw.rtM, Bw.fldM, Bw.fldD, Bw.insOf, Bw.notB, in_dic, Bw.notInD, Bw.dget, Bw.toKey, Bw.ixC, Bw.ixM, Bw.calM, Bw.cal, Bw.metM, Bw.pick, Bw.cns, Bw.drpM, Bw.isN, Bw.andB, Bw.orB, Bw.asB, Bw.blM, x_winners_3, gnm, foM, wkM, walkD, a1, e]
/-- who moves where: the places that are asked for, in order -/
def winP (W : List (Str × Way)) (Fr : Str → List Str) (T : List (Str × Nat)) (A : List (Str × Str)) : List (Str × Str) := (sortS (onceS (A.map (·.2)))).foldl (fun a m => addW A a m (orderP W Fr T m)) []
theorem sort_perm (l : List Str) : (sortS l).Perm l := by
  unfold sortS
  rw [isort_eq leS_tr leS_to]
  exact List.mergeSort_perm _ _
theorem once_mem {x : Str} {l : List Str} (hx : x ∈ onceS l) : x ∈ l := by
  have go : ∀ (l acc : List Str), x ∈ l.foldl (fun acc x => if acc.any (fun y => decide (y = x)) = true then acc else acc ++ [x]) acc → x ∈ acc ∨ x ∈ l := by
    intro l
    induction l with
    | nil => intro acc h; exact .inl h
    | cons y l ih =>
      intro acc h
      rcases ih _ h with h | h
      · dsimp only at h
        split at h
        · exact .inl h
        · rcases List.mem_append.mp h with h | h
          · exact .inl h
          · rw [List.mem_singleton.mp h]; exact .inr List.mem_cons_self
      · exact .inr (List.mem_cons_of_mem _ h)
  exact (go l [] hx).resolve_left (by simp)
theorem once_len (l : List Str) : (onceS l).length ≤ l.length := by
  have go : ∀ (l acc : List Str), (l.foldl (fun acc x => if acc.any (fun y => decide (y = x)) = true then acc else acc ++ [x]) acc).length ≤ acc.length + l.length := by
    intro l
    induction l with
    | nil => intro acc; exact Nat.le_refl _
    | cons y l ih =>
      intro acc
      refine Nat.le_trans (ih _) ?_
      rw [List.length_cons]
      dsimp only
      split
      · omega
      · rw [List.length_append, List.length_singleton]; omega
  have := go l []
  rw [List.length_nil, Nat.zero_add] at this
  exact this
theorem wants_names (ns : List Str) : (wantsP P B sh ns).map (·.1) = ns.filter fun n => (wantP P B sh n).isSome := by
  unfold wantsP
  induction ns with
  | nil => rfl
  | cons n ns ih =>
    rw [List.filterMap_cons, List.filter_cons]
    cases wantP P B sh n with
    | none => exact ih
    | some t => show n :: _ = n :: _; rw [← ih]
theorem lookup_nodup {α : Type} : ∀ {l : List (Str × α)}, (l.map (·.1)).Nodup → ∀ {e : Str × α}, e ∈ l → l.lookup e.1 = some e.2
  | (m, a) :: l, hn, e, he => by
    rw [List.map_cons, List.nodup_cons] at hn
    rw [List.lookup_cons]
    rcases List.mem_cons.mp he with rfl | he
    · simp
    · have : (e.1 == m) = false := by
        rw [beq_eq_false_iff_ne]
        intro z
        exact hn.1 (List.mem_map.mpr ⟨e, he, z⟩)
      rw [this]
      exact lookup_nodup hn.2 he
theorem winners_run (wf : Wf P W F Fr B T) (hp : PlantAt h p P W F Fr) (hs : StateAt h s p b t B T sh) : m_winners [.ref s] h = .ret (.dic false (dicS D.str (winP W Fr T (wantsP P B sh (sortS (names P)))))) h := by
  have a1 := wants_run hp hs (fun n hn => by
    obtain ⟨pl, hg⟩ := lookup_mem hn
    obtain ⟨l, hb⟩ := wf.bag n pl hg
    exact ⟨pl, l, hg, hb⟩) wf.nd (Nat.lt_of_le_of_lt wf.small (by decide))
  generalize hA : wantsP P B sh (sortS (names P)) = A at a1 ⊢
  have hnd : (A.map (·.1)).Nodup := by
    rw [← hA, wants_names]
    exact ((sort_perm _).nodup_iff.mpr wf.nd).filter _
  have hlen : A.length ≤ 300 := by
    rw [← List.length_map (·.1), ← hA, wants_names]
    refine Nat.le_trans (List.length_filter_le _ _) ?_
    rw [(sort_perm _).length_eq]
    show (P.map (·.1)).length ≤ 300
    rw [List.length_map]; exact wf.small
  have htg : ∀ x ∈ A.map (·.2), ∃ pl, P.lookup x = some pl := by
    intro x hx
    obtain ⟨e, he, rfl⟩ := List.mem_map.mp hx
    rw [← hA] at he
    obtain ⟨n, hn, hw⟩ := List.mem_filterMap.mp he
    obtain ⟨tg, hw2, rfl⟩ := Option.map_eq_some_iff.mp hw
    clear hw
    unfold wantP at hw2
    split at hw2
    · rename_i pl l hg hb
      have := Option.filter_eq_some_iff.mp hw2
      cases l with
      | nil => cases this.1
      | cons x l => exact wf.tgt n pl x.2 tg hg this.1
    · cases hw2
  have c1 := lcM_run (σ := [.v (.ref s), .v (.dic false (dicS D.str A)), .own (.dic false []), .un, .un]) (h := h) (vs := [4]) (t := gnm 4) (c := x_winners_0) (e := x_winners_1) (fun _ => true) (fun d => match d with | .str n => .str ((A.lookup n).getD n) | d => d) ((dicS D.str A).map (·.1)) [] (fun d hd => by
    rw [keys_dicS] at hd
    obtain ⟨n, hn, rfl⟩ := List.mem_map.mp hd
    obtain ⟨x, hx⟩ := lookup_mem hn
    refine ⟨_, rfl, rfl, fun _ => ?_, rfl⟩
    show x_winners_1 _ h = R.ok (.str ((A.lookup n).getD n)) _ h
    rw [hx]
    simp (config := { decide := true }) [Bw.fnD, Bw.slots0, Bw.seqM, Bw.ifM, Bw.op2b, Bw.op2, Bw.op2c, Bw.bnd, Bw.ret, Bw.ixN', Bw.has, Bw.peek, Bw.deref, Bw.nm, Bw.setM, Bw.vM, Bw.oM, Bw.un1, Bw.drf, Bw.pk, Bw.opt, Bw.stnM, Bw.stN, Bw.stC, Bw.rtM, Bw.fldM, Bw.fldD, Bw.insOf, Bw.notB, in_dic, Bw.notInD, Bw.dget, Bw.toKey, Bw.ixC, Bw.ixM, Bw.calM, Bw.cal, Bw.metM, Bw.pick, Bw.cns, Bw.drpM, Bw.isN, Bw.andB, Bw.orB, Bw.asB, Bw.blM, x_winners_1, getK_dicS, hx]) (by rw [List.length_map, len_dicS, List.length_nil, Nat.zero_add]; exact Nat.le_trans hlen (by decide))
  rw [List.nil_append, List.filter_eq_self.mpr (fun _ _ => rfl)] at c1
  have c2 : ((dicS D.str A).map (·.1)).map (fun d => match d with | .str n => D.str ((A.lookup n).getD n) | d => d) = (A.map (·.2)).map D.str := by
    unfold dicS
    rw [List.map_map, List.map_map, List.map_map]
    refine List.map_congr_left fun e he => ?_
    show D.str ((A.lookup e.1).getD e.1) = D.str e.2
    rw [lookup_nodup hnd he]
    rfl
  rw [c2] at c1
  have s1 := setK_strs (A.map (·.2)) (by rw [List.length_map]; omega)
  have ol := once_len (A.map (·.2))
  rw [List.length_map] at ol
  have s2 := sort_once (A.map (·.2)) (Nat.le_trans ol (Nat.le_trans hlen (by decide)))
  obtain ⟨s3, s4, e⟩ := win_out wf hp hs (A := A) (sortS (onceS (A.map (·.2)))) [] .un .un (fun m hm => htg m (once_mem ((sort_perm _).mem_iff.mp hm))) (by
    rw [(sort_perm _).length_eq, List.length_nil]
    have : (1000 : Nat) < big := by decide
    omega)
  have e2 : dicS D.str ([] : List (Str × Str)) = [] := rfl
  rw [e2] at e
  have kk : dicS D.str A = dicS D.str A := rfl
  unfold winP
  generalize A.map (·.2) = vs at *
  generalize (onceS vs).map (Sum.inr : Str → L2.Key) = ks at *
  generalize vs.map D.str = dvs at *
  simp (config := { decide := true }) [Bw.fnD, Bw.slots0, Bw.seqM, Bw.ifM, Bw.op2b, Bw.op2, Bw.op2c, Bw.bnd, Bw.ret, Bw.ixN', Bw.has, Bw.peek, Bw.deref, Bw.nm, Bw.setM, Bw.vM, Bw.oM, Bw.un1, Bw.drf, Bw.pk, Bw.opt, Bw.stnM, Bw.stN, Bw.stC, Bw.rtM, Bw.fldM, Bw.fldD, Bw.insOf, Bw.notB, in_dic, Bw.notInD, Bw.dget, Bw.toKey, Bw.ixC, Bw.ixM, Bw.calM, Bw.cal, Bw.metM, Bw.pick, Bw.cns, Bw.drpM, Bw.isN, Bw.andB, Bw.orB, Bw.asB, Bw.blM, m_winners, b_winners, a1, foM, wkM, walkD, srtS, setM', lcF, wipeS, bringS, c1, s1, s2, e]
end
end Law
namespace Law
open L2 Bw
open PySem (Str)
/-! ### sorted pairs of texts; a key taken off -/
def leP (e f : Str × Str) : Bool := if (e.1 == f.1) = true then leS e.2 f.2 else leS e.1 f.1
def pairD (e : Str × Str) : D := .tup [.str e.1, .str e.2]
theorem le_pair (e f : Str × Str) : PySem.W.dataLe false enc (pairD e) (pairD f) = leP e f := by
  have h := PySem.W.dataLt_pair (x := .str f.1) (y := .str f.2) (x' := .str e.1) (y' := .str e.2) rfl rfl
  have l1 := le_str e.1 f.1
  have l2 := le_str e.2 f.2
  rw [PySem.W.dataLe_eq] at l1 l2 ⊢
  simp only [cond_false] at l1 l2 ⊢
  have e1 : enc (pairD e) = .tuple [.str e.1, .str e.2] := rfl
  have e2 : enc (pairD f) = .tuple [.str f.1, .str f.2] := rfl
  rw [e1, e2, h]
  unfold leP
  have q1 : PySem.PyData.eqv (.str f.1) (.str e.1) = (f.1 == e.1) := by simp [PySem.PyData.eqv]
  have q2 : PySem.PyData.eqv (.str f.2) (.str e.2) = (f.2 == e.2) := by simp [PySem.PyData.eqv]
  rw [q1, q2]
  have c1 : enc (.str e.1) = .str e.1 := rfl
  have c2 : enc (.str f.1) = .str f.1 := rfl
  have c3 : enc (.str e.2) = .str e.2 := rfl
  have c4 : enc (.str f.2) = .str f.2 := rfl
  rw [c1, c2] at l1
  rw [c3, c4] at l2
  by_cases h1 : f.1 = e.1
  · have b1 : (f.1 == e.1) = true := by simpa using h1
    have b2 : (e.1 == f.1) = true := by simpa using h1.symm
    rw [b1, b2, if_pos rfl, if_pos rfl]
    by_cases h2 : f.2 = e.2
    · have b3 : (f.2 == e.2) = true := by simpa using h2
      rw [b3, if_pos rfl, h2]
      have := leS_to e.2 e.2
      rw [Bool.or_self] at this
      rw [this]; rfl
    · have b3 : (f.2 == e.2) = false := by simpa using h2
      rw [b3, if_neg Bool.false_ne_true, l2]
  · have b1 : (f.1 == e.1) = false := by simpa using h1
    have b2 : (e.1 == f.1) = false := by simpa using fun z : e.1 = f.1 => h1 z.symm
    rw [b1, b2, if_neg Bool.false_ne_true, if_neg Bool.false_ne_true, l1]
def sortP (l : List (Str × Str)) : List (Str × Str) := isort leP l
theorem sortD_pairs (l : List (Str × Str)) (hl : l.length ≤ big) : sortD (itmD (dicS D.str l)) = some ((sortP l).map pairD) := by
  have e0 : itmD (dicS D.str l) = l.map pairD := by
    unfold itmD dicS
    rw [List.map_map]; rfl
  rw [e0]
  have e : toPys (l.map pairD) = some (l.map fun e => PySem.PyData.tuple [.str e.1, .str e.2]) := by
    clear hl e0
    induction l with
    | nil => rfl
    | cons a l ih => rw [List.map_cons, toPys, ih]; rfl
  unfold sortD
  rw [e]
  dsimp only
  rw [if_pos]
  · congr 1
    exact isort_map (fun a c => le_pair a c) l
  · simp only [Bool.and_eq_true, Bool.or_eq_true, List.all_eq_true, decide_eq_true_eq, alikeB, List.length_map]
    refine ⟨⟨⟨fun x hx y hy => ?_, .inl fun x hx => ?_⟩, fun x hx => ?_⟩, hl⟩
    · obtain ⟨a, _, rfl⟩ := List.mem_map.mp hx
      obtain ⟨c, _, rfl⟩ := List.mem_map.mp hy
      rfl
    · obtain ⟨a, _, rfl⟩ := List.mem_map.mp hx
      rfl
    · obtain ⟨a, _, rfl⟩ := List.mem_map.mp hx
      simp [PySem.PyData.depth, PySem.PyData.depthAll]
def delS {α : Type} (l : List (Str × α)) (n : Str) : List (Str × α) := l.filter fun e => !(e.1 == n)
theorem ddel_dicS {α : Type} (f : α → D) (l : List (Str × α)) (n : Str) : ddel (dicS f l) (.str n) = some (dicS f (delS l n)) := by
  show some ((dicS f l).filter fun e => decide (toKey e.1 ≠ some (Sum.inr n))) = _
  congr 1
  unfold dicS delS
  rw [List.filter_map]
  congr 1
  refine List.filter_congr fun e _ => ?_
  show decide (toKey (D.str e.1) ≠ some (Sum.inr n)) = _
  by_cases h : e.1 = n
  · rw [h]
    have : toKey (D.str n) = some (Sum.inr n) := rfl
    simp [this]
  · have h1 : (e.1 == n) = false := by simpa using h
    rw [h1]
    exact decide_eq_true fun z => h (Sum.inr.inj (Option.some.inj (show some (Sum.inr e.1 : L2.Key) = some (Sum.inr n) from z)))
end Law
namespace Law
open L2 Bw
open PySem (Str)
section
variable {h : Hd} {p s b t : Nat} {P : List (Str × Pl)} {W : List (Str × Way)} {F : List (Str × Nat)} {Fr : Str → List Str} {B : List (Str × List Bag)} {T : List (Str × Nat)} {sh : List Str} {n : Str} {pl : Pl}
def fullP (P : List (Str × Pl)) (B : List (Str × List Bag)) (n : Str) : Bool := match P.lookup n, B.lookup n with
  | some pl, some l => decide (pl.room ≤ l.length)
  | _, _ => false
def passP (full : Str → Bool) : List Str → List (Str × Str) → Bool → List (Str × Str) × Bool
  | [], G, c => (G, c)
  | x :: xs, G, c => match G.lookup x with
    | some y => if (full y && (G.lookup y).isNone) = true then passP full xs (delS G x) true else passP full xs G c
    | none => passP full xs G c
theorem lookup_del {α : Type} {m n : Str} (l : List (Str × α)) (hm : m ≠ n) : (delS l n).lookup m = l.lookup m := by
  unfold delS
  induction l with
  | nil => rfl
  | cons e l ih =>
    rw [List.filter_cons, List.lookup_cons]
    by_cases h : e.1 = n
    · have h1 : (e.1 == n) = true := by simpa using h
      have h2 : (m == e.1) = false := by rw [h]; simpa using hm
      rw [h1, h2]
      exact ih
    · have h1 : (e.1 == n) = false := by simpa using h
      rw [h1]
      show List.lookup m (e :: _) = _
      rw [List.lookup_cons, ih]
theorem pass_run (wf : Wf P W F Fr B T) (hp : PlantAt h p P W F Fr) (hs : StateAt h s p b t B T sh) {a1 a3 : Sl} : ∀ (xs : List Str) (G : List (Str × Str)) (c : Bool) (s5 s6 : Sl), xs.Nodup → (∀ x ∈ xs, ∃ y, G.lookup x = some y) → (∀ e ∈ G, ∃ pl, P.lookup e.2 = some pl) →
    ∃ s5' s6', Bw.forM (gnm 5) x_moves_of_3 (xs.map D.str) [.v (.ref s), a1, .own (.dic false (dicS D.str G)), a3, .v (.bl c), s5, s6] h =
      .ok .nx [.v (.ref s), a1, .own (.dic false (dicS D.str (passP (fullP P B) xs G c).1)), a3, .v (.bl (passP (fullP P B) xs G c).2), s5', s6'] h
  | [], G, c, s5, s6, _, _, _ => ⟨s5, s6, rfl⟩
  | x :: xs, G, c, s5, s6, hn, hx, hG => by
    obtain ⟨hn1, hn2⟩ := List.nodup_cons.mp hn
    obtain ⟨y, hy⟩ := hx x List.mem_cons_self
    obtain ⟨pl, hg⟩ := hG _ (mem_lookup hy)
    obtain ⟨l, hb⟩ := wf.bag y pl hg
    have f1 := full_run hp hs hg hb
    have f2 : fullP P B y = decide (pl.room ≤ l.length) := by unfold fullP; rw [hg, hb]
    rw [← f2] at f1
    have e4 : ∀ a b c d : D, List.lookup ("is_full" : Str) [(("plant" : Str), a), ("_bags", b), ("_turns", c), ("_shut", d)] = none := fun _ _ _ _ => rfl
    rw [List.map_cons, Bw.forM]
    by_cases hc : (fullP P B y && (G.lookup y).isNone) = true
    · have e1 : passP (fullP P B) (x :: xs) G c = passP (fullP P B) xs (delS G x) true := by
        rw [passP, hy]
        exact if_pos hc
      obtain ⟨s5', s6', e⟩ := pass_run wf hp hs (a1 := a1) (a3 := a3) xs (delS G x) true (.v (.str x)) (.v (.str y)) hn2 (fun z hz => by
        obtain ⟨w, hw⟩ := hx z (List.mem_cons_of_mem _ hz)
        exact ⟨w, by rw [lookup_del G (by rintro rfl; exact hn1 hz)]; exact hw⟩) (fun e he => hG e (List.mem_filter.mp he).1)
      refine ⟨s5', s6', ?_⟩
      rw [e1, ← e]
      rw [Bool.and_eq_true] at hc
      have d1 := ddel_dicS D.str G x
      have h2 : G.lookup y = none := by simpa using hc.2
      rw [hc.1] at f1
      simp (config := { decide := true }) [Bw.fnD, Bw.slots0, Bw.seqM, Bw.ifM, Bw.op2b, Bw.op2, Bw.op2c, Bw.bnd, Bw.ret, Bw.ixN', Bw.has, Bw.peek, Bw.deref, Bw.nm, Bw.setM, Bw.vM, Bw.oM, Bw.un1, Bw.drf, Bw.pk, Bw.opt, Bw.stnM, Bw.stN, Bw.stC, Bw.rtM, Bw.fldM, Bw.fldD, Bw.insOf, Bw.notB, in_dic, Bw.notInD, Bw.dget, Bw.toKey, Bw.ixC, Bw.ixM, Bw.calM, Bw.cal, Bw.metM, Bw.pick, Bw.cns, Bw.drpM, Bw.isN, Bw.andB, Bw.orB, Bw.asB, Bw.blM, x_moves_of_3, gnm, f1, lk, cS, cP, hs.at_, e4, getK_dicS, hy, h2, mutnM, tyN, isTy, mutN, fDPop, d1]
    · have e1 : passP (fullP P B) (x :: xs) G c = passP (fullP P B) xs G c := by
        rw [passP, hy]
        exact if_neg hc
      obtain ⟨s5', s6', e⟩ := pass_run wf hp hs (a1 := a1) (a3 := a3) xs G c (.v (.str x)) (.v (.str y)) hn2 (fun z hz => hx z (List.mem_cons_of_mem _ hz)) hG
      refine ⟨s5', s6', ?_⟩
      rw [e1, ← e]
      cases hf : fullP P B y with
      | false =>
        rw [hf] at f1
        simp (config := { decide := true }) [Bw.fnD, Bw.slots0, Bw.seqM, Bw.ifM, Bw.op2b, Bw.op2, Bw.op2c, Bw.bnd, Bw.ret, Bw.ixN', Bw.has, Bw.peek, Bw.deref, Bw.nm, Bw.setM, Bw.vM, Bw.oM, Bw.un1, Bw.drf, Bw.pk, Bw.opt, Bw.stnM, Bw.stN, Bw.stC, Bw.rtM, Bw.fldM, Bw.fldD, Bw.insOf, Bw.notB, in_dic, Bw.notInD, Bw.dget, Bw.toKey, Bw.ixC, Bw.ixM, Bw.calM, Bw.cal, Bw.metM, Bw.pick, Bw.cns, Bw.drpM, Bw.isN, Bw.andB, Bw.orB, Bw.asB, Bw.blM, x_moves_of_3, gnm, f1, lk, cS, cP, hs.at_, e4, getK_dicS, hy]
      | true =>
        rw [hf] at f1 hc
        cases h2 : G.lookup y with
        | none => rw [h2] at hc; exact absurd rfl hc
        | some z => simp (config := { decide := true }) [Bw.fnD, Bw.slots0, Bw.seqM, Bw.ifM, Bw.op2b, Bw.op2, Bw.op2c, Bw.bnd, Bw.ret, Bw.ixN', Bw.has, Bw.peek, Bw.deref, Bw.nm, Bw.setM, Bw.vM, Bw.oM, Bw.un1, Bw.drf, Bw.pk, Bw.opt, Bw.stnM, Bw.stN, Bw.stC, Bw.rtM, Bw.fldM, Bw.fldD, Bw.insOf, Bw.notB, in_dic, Bw.notInD, Bw.dget, Bw.toKey, Bw.ixC, Bw.ixM, Bw.calM, Bw.cal, Bw.metM, Bw.pick, Bw.cns, Bw.drpM, Bw.isN, Bw.andB, Bw.orB, Bw.asB, Bw.blM, x_moves_of_3, gnm, f1, lk, cS, cP, hs.at_, e4, getK_dicS, hy, h2]
end
end Law
namespace Law
open L2 Bw
open PySem (Str)
section
variable {h : Hd} {p s b t : Nat} {P : List (Str × Pl)} {W : List (Str × Way)} {F : List (Str × Nat)} {Fr : Str → List Str} {B : List (Str × List Bag)} {T : List (Str × Nat)} {sh : List Str} {n : Str} {pl : Pl}
def cleanP (full : Str → Bool) : Nat → List (Str × Str) → List (Str × Str)
  | 0, G => G
  | k + 1, G => if (passP full (sortS (names G)) G false).2 = true then cleanP full k (passP full (sortS (names G)) G false).1 else (passP full (sortS (names G)) G false).1
theorem del_len {G : List (Str × Str)} {x y : Str} (hx : G.lookup x = some y) : (delS G x).length < G.length := by
  unfold delS
  rcases Nat.lt_or_ge (G.filter fun e => !(e.1 == x)).length G.length with z | z
  · exact z
  · exfalso
    have e := (List.filter_sublist (p := fun e : Str × Str => !(e.1 == x)) (l := G)).eq_of_length (Nat.le_antisymm (List.length_filter_le _ _) z)
    have hm := mem_lookup hx
    rw [← e] at hm
    have := (List.mem_filter.mp hm).2
    simp at this
theorem pass_len {full : Str → Bool} : ∀ (xs : List Str) (G : List (Str × Str)) (c : Bool), (passP full xs G c).1.length ≤ G.length ∧ ((passP full xs G c).2 = true → c = true ∨ (passP full xs G c).1.length < G.length)
  | [], G, c => ⟨Nat.le_refl _, fun z => .inl z⟩
  | x :: xs, G, c => by
    unfold passP
    cases hx : G.lookup x with
    | none => exact pass_len xs G c
    | some y =>
      dsimp only
      split
      · have h1 := del_len hx
        have h2 := pass_len (full := full) xs (delS G x) true
        exact ⟨by omega, fun _ => .inr (by omega)⟩
      · exact pass_len xs G c
theorem pass_sub {full : Str → Bool} : ∀ (xs : List Str) (G : List (Str × Str)) (c : Bool), (passP full xs G c).1.Sublist G
  | [], G, c => List.Sublist.refl _
  | x :: xs, G, c => by
    unfold passP
    cases hx : G.lookup x with
    | none => exact pass_sub xs G c
    | some y =>
      dsimp only
      split
      · exact (pass_sub xs (delS G x) true).trans List.filter_sublist
      · exact pass_sub xs G c
theorem clean_len {full : Str → Bool} : ∀ (j : Nat) (G : List (Str × Str)), (cleanP full j G).length ≤ G.length
  | 0, _ => Nat.le_refl _
  | j + 1, G => by
    have h := (pass_len (full := full) (sortS (names G)) G false).1
    unfold cleanP
    split
    · exact Nat.le_trans (clean_len j _) h
    · exact h
theorem clean_run (wf : Wf P W F Fr B T) (hp : PlantAt h p P W F Fr) (hs : StateAt h s p b t B T sh) {a1 a3 : Sl} : ∀ (j k : Nat) (G : List (Str × Str)) (s5 s6 : Sl), G.length < j → j + 1 ≤ k → G.length ≤ big → (names G).Nodup → (∀ e ∈ G, ∃ pl, P.lookup e.2 = some pl) →
    ∃ s4 s5' s6', whlM x_moves_of_5 x_moves_of_4 k [.v (.ref s), a1, .own (.dic false (dicS D.str G)), a3, .v (.bl true), s5, s6] h = .ok .nx [.v (.ref s), a1, .own (.dic false (dicS D.str (cleanP (fullP P B) j G))), a3, s4, s5', s6'] h
  | 0, _, G, _, _, hj, _, _, _, _ => by omega
  | j + 1, 0, G, _, _, _, hk, _, _, _ => by omega
  | j + 1, k + 1, G, s5, s6, hj, hk, hbg, hnd, hG => by
    have sp := sort_perm (names G)
    obtain ⟨s5', s6', e⟩ := pass_run wf hp hs (a1 := a1) (a3 := a3) (sortS (names G)) G false s5 s6 (sp.nodup_iff.mpr hnd) (fun x hx => lookup_mem (sp.mem_iff.mp hx)) hG
    have sd := sorted_dic D.str G hbg
    have pl := pass_len (full := fullP P B) (sortS (names G)) G false
    have ps := pass_sub (full := fullP P B) (sortS (names G)) G false
    have body : x_moves_of_4 [.v (.ref s), a1, .own (.dic false (dicS D.str G)), a3, .v (.bl true), s5, s6] h =
        .ok .nx [.v (.ref s), a1, .own (.dic false (dicS D.str (passP (fullP P B) (sortS (names G)) G false).1)), a3, .v (.bl (passP (fullP P B) (sortS (names G)) G false).2), s5', s6'] h := by
      simp (config := { decide := true }) [Bw.fnD, Bw.slots0, Bw.seqM, Bw.ifM, Bw.op2b, Bw.op2, Bw.op2c, Bw.bnd, Bw.ret, Bw.ixN', Bw.has, Bw.peek, Bw.deref, Bw.nm, Bw.setM, Bw.vM, Bw.oM, Bw.un1, Bw.drf, Bw.pk, Bw.opt, Bw.stnM, Bw.stN, Bw.stC, Bw.rtM, Bw.fldM, Bw.fldD, Bw.insOf, Bw.notB, in_dic, Bw.notInD, Bw.dget, Bw.toKey, Bw.ixC, Bw.ixM, Bw.calM, Bw.cal, Bw.metM, Bw.pick, Bw.cns, Bw.drpM, Bw.isN, Bw.andB, Bw.orB, Bw.asB, Bw.blM, x_moves_of_4, foM, wkM, walkD, sd, e]
    unfold cleanP
    cases hr : (passP (fullP P B) (sortS (names G)) G false).2 with
    | false =>
      obtain ⟨k, rfl⟩ : ∃ k', k = k' + 1 := ⟨k - 1, by omega⟩
      rw [hr] at body
      refine ⟨.v (.bl false), s5', s6', ?_⟩
      rw [if_neg Bool.false_ne_true]
      simp (config := { decide := true }) [Bw.fnD, Bw.slots0, Bw.seqM, Bw.ifM, Bw.op2b, Bw.op2, Bw.op2c, Bw.bnd, Bw.ret, Bw.ixN', Bw.has, Bw.peek, Bw.deref, Bw.nm, Bw.setM, Bw.vM, Bw.oM, Bw.un1, Bw.drf, Bw.pk, Bw.opt, Bw.stnM, Bw.stN, Bw.stC, Bw.rtM, Bw.fldM, Bw.fldD, Bw.insOf, Bw.notB, in_dic, Bw.notInD, Bw.dget, Bw.toKey, Bw.ixC, Bw.ixM, Bw.calM, Bw.cal, Bw.metM, Bw.pick, Bw.cns, Bw.drpM, Bw.isN, Bw.andB, Bw.orB, Bw.asB, Bw.blM, whlM, body, x_moves_of_5]
    | true =>
      rw [hr] at body pl
      have hlt := (pl.2 rfl).resolve_left Bool.false_ne_true
      obtain ⟨s4, q5, q6, e2⟩ := clean_run wf hp hs (a1 := a1) (a3 := a3) j k (passP (fullP P B) (sortS (names G)) G false).1 s5' s6' (by omega) (by omega) (by omega) (hnd.sublist (ps.map _)) (fun e he => hG e (ps.subset he))
      refine ⟨s4, q5, q6, ?_⟩
      rw [if_pos rfl, ← e2]
      rw [whlM]
      simp (config := { decide := true }) [Bw.fnD, Bw.slots0, Bw.seqM, Bw.ifM, Bw.op2b, Bw.op2, Bw.op2c, Bw.bnd, Bw.ret, Bw.ixN', Bw.has, Bw.peek, Bw.deref, Bw.nm, Bw.setM, Bw.vM, Bw.oM, Bw.un1, Bw.drf, Bw.pk, Bw.opt, Bw.stnM, Bw.stN, Bw.stC, Bw.rtM, Bw.fldM, Bw.fldD, Bw.insOf, Bw.notB, in_dic, Bw.notInD, Bw.dget, Bw.toKey, Bw.ixC, Bw.ixM, Bw.calM, Bw.cal, Bw.metM, Bw.pick, Bw.cns, Bw.drpM, Bw.isN, Bw.andB, Bw.orB, Bw.asB, Bw.blM, body, x_moves_of_5]
end
end Law
namespace Law
open L2 Bw
open PySem (Str)
section
variable {h : Hd} {p s b t : Nat} {P : List (Str × Pl)} {W : List (Str × Way)} {F : List (Str × Nat)} {Fr : Str → List Str} {B : List (Str × List Bag)} {T : List (Str × Nat)} {sh : List Str} {n : Str} {pl : Pl}
theorem lookup_none {α : Type} {m : Str} : ∀ {l : List (Str × α)}, l.lookup m = none → m ∉ names l
  | [], _, hm => by cases hm
  | (k, a) :: l, e, hm => by
    rw [List.lookup_cons] at e
    by_cases h : m = k
    · subst h; simp at e
    · have h1 : (m == k) = false := by simpa using h
      rw [h1] at e
      exact lookup_none e ((List.mem_cons.mp hm).resolve_left h)
structure WinOk (A : List (Str × Str)) (ns : List Str) (ord : Str → List Str) (C : List (Str × Str)) : Prop where
  nd : (names C).Nodup
  el : ∀ e ∈ C, e.1 ∈ ns ∧ A.lookup e.2 = some e.1 ∧ e.2 ∈ ord e.1
theorem win_fold {A : List (Str × Str)} {ord : Str → List Str} {all : List Str} : ∀ (ns : List Str) (acc : List (Str × Str)), (∀ m ∈ ns, m ∈ all) → WinOk A all ord acc → WinOk A all ord (ns.foldl (fun a m => addW A a m (ord m)) acc)
  | [], acc, _, w => w
  | m :: ns, acc, hm, w => by
    refine win_fold ns _ (fun x hx => hm x (List.mem_cons_of_mem _ hx)) ?_
    show WinOk A all ord (addW A acc m (ord m))
    unfold addW
    cases hl : acc.lookup m with
    | some y => exact w
    | none =>
      cases hf : firstS A m (ord m) with
      | none => exact w
      | some x =>
        have hx := List.find?_some hf
        have hin := List.mem_of_find?_eq_some hf
        refine ⟨?_, fun e he => ?_⟩
        · unfold names
          rw [List.map_append, List.nodup_append]
          refine ⟨w.nd, by simp, fun a ha c hc => ?_⟩
          rintro rfl
          rw [List.map_cons, List.map_nil, List.mem_singleton] at hc
          subst hc
          exact lookup_none hl ha
        · rcases List.mem_append.mp he with he | he
          · exact w.el e he
          · rw [List.mem_singleton.mp he]
            exact ⟨hm m List.mem_cons_self, by simpa using hx, hin⟩
def swapP (e : Str × Str) : Str × Str := (e.2, e.1)
/-- the moves: who moves where, in order -/
def movesP (P : List (Str × Pl)) (W : List (Str × Way)) (Fr : Str → List Str) (B : List (Str × List Bag)) (T : List (Str × Nat)) (sh : List Str) : List (Str × Str) :=
  let C := winP W Fr T (wantsP P B sh (sortS (names P)))
  sortP (cleanP (fullP P B) 400 (C.map swapP))
theorem wants_tgt (wf : Wf P W F Fr B T) : ∀ x ∈ (wantsP P B sh (sortS (names P))).map (·.2), ∃ pl, P.lookup x = some pl := by
  intro x hx
  obtain ⟨e, he, rfl⟩ := List.mem_map.mp hx
  obtain ⟨n, hn, hw⟩ := List.mem_filterMap.mp he
  obtain ⟨tg, hw2, rfl⟩ := Option.map_eq_some_iff.mp hw
  clear hw
  unfold wantP at hw2
  split at hw2
  · rename_i pl l hg hb
    have := Option.filter_eq_some_iff.mp hw2
    cases l with
    | nil => cases this.1
    | cons x l => exact wf.tgt n pl x.2 tg hg this.1
  · cases hw2
theorem wants_len (wf : Wf P W F Fr B T) : (wantsP P B sh (sortS (names P))).length ≤ 300 := by
  rw [← List.length_map (·.1), wants_names]
  refine Nat.le_trans (List.length_filter_le _ _) ?_
  rw [(sort_perm _).length_eq]
  show (P.map (·.1)).length ≤ 300
  rw [List.length_map]; exact wf.small
theorem nodup_len : ∀ {l m : List Str}, l.Nodup → (∀ x ∈ l, x ∈ m) → l.length ≤ m.length
  | [], _, _, _ => Nat.zero_le _
  | x :: l, m, hn, hs => by
    obtain ⟨h1, h2⟩ := List.nodup_cons.mp hn
    have hx := hs x List.mem_cons_self
    have h := nodup_len (l := l) (m := m.erase x) h2 fun y hy => (List.mem_erase_of_ne (by rintro rfl; exact h1 hy)).mpr (hs y (List.mem_cons_of_mem _ hy))
    rw [List.length_erase_of_mem hx] at h
    have := List.length_pos_of_mem hx
    rw [List.length_cons]
    omega
theorem win_ok (wf : Wf P W F Fr B T) : WinOk (wantsP P B sh (sortS (names P))) ((wantsP P B sh (sortS (names P))).map (·.2)) (orderP W Fr T) (winP W Fr T (wantsP P B sh (sortS (names P)))) :=
  win_fold _ [] (fun m hm => once_mem ((sort_perm _).mem_iff.mp hm)) ⟨List.nodup_nil, fun _ h => nomatch h⟩
theorem moves_of_run (wf : Wf P W F Fr B T) (hp : PlantAt h p P W F Fr) (hs : StateAt h s p b t B T sh) : m_moves_of [.ref s] h = .ret (.lst ((movesP P W Fr B T sh).map pairD)) h := by
  have a1 := winners_run wf hp hs
  have ok := win_ok (sh := sh) wf
  have hA := wants_tgt (sh := sh) wf
  have hl := wants_len (sh := sh) wf
  unfold movesP
  dsimp only
  generalize winP W Fr T (wantsP P B sh (sortS (names P))) = C at *
  generalize wantsP P B sh (sortS (names P)) = A at *
  have cl : C.length ≤ 300 := by
    have := nodup_len ok.nd (m := A.map (·.2)) fun x hx => by
      obtain ⟨e, he, rfl⟩ := List.mem_map.mp hx
      exact (ok.el e he).1
    unfold names at this
    rw [List.length_map, List.length_map] at this
    omega
  have snd : (C.map (·.2)).Nodup := by
    refine List.Pairwise.map _ (fun (a c : Str × Str) (hac : a ≠ c ∧ a ∈ C ∧ c ∈ C) z => ?_) ?_ (R := fun a c => a ≠ c ∧ a ∈ C ∧ c ∈ C)
    · have h1 := (ok.el a hac.2.1).2.1
      have h2 := (ok.el c hac.2.2).2.1
      rw [z] at h1
      rw [h1] at h2
      exact hac.1 (Prod.ext (Option.some.inj h2) z)
    · have cn : C.Nodup := List.Pairwise.imp (fun {a c} (z : a.1 ≠ c.1) q => z (congrArg _ q)) (List.pairwise_map.mp ok.nd)
      exact List.Pairwise.imp_of_mem (fun ha hc hne => ⟨hne, ha, hc⟩) cn
  have gn : (names (C.map swapP)).Nodup := by
    unfold names
    rw [List.map_map]
    exact snd
  have c1 := dcM_run (g := D.str) (σ := [.v (.ref s), .v (.dic false (dicS D.str C)), .un, .un, .un, .un, .un]) (h := h) (vs := [3]) (t := gnm 3) (c := x_moves_of_0) (k := x_moves_of_2) (e := x_moves_of_1) (fun e : Str × Str => e.2) (fun e => e.1) (fun e => D.str e.1) C [] (fun e he => by
    have hx := lookup_nodup ok.nd he
    refine ⟨_, rfl, rfl, ?_, rfl, rfl⟩
    simp (config := { decide := true }) [Bw.fnD, Bw.slots0, Bw.seqM, Bw.ifM, Bw.op2b, Bw.op2, Bw.op2c, Bw.bnd, Bw.ret, Bw.ixN', Bw.has, Bw.peek, Bw.deref, Bw.nm, Bw.setM, Bw.vM, Bw.oM, Bw.un1, Bw.drf, Bw.pk, Bw.opt, Bw.stnM, Bw.stN, Bw.stC, Bw.rtM, Bw.fldM, Bw.fldD, Bw.insOf, Bw.notB, in_dic, Bw.notInD, Bw.dget, Bw.toKey, Bw.ixC, Bw.ixM, Bw.calM, Bw.cal, Bw.metM, Bw.pick, Bw.cns, Bw.drpM, Bw.isN, Bw.andB, Bw.orB, Bw.asB, Bw.blM, x_moves_of_2, getK_dicS, hx]) (by rw [List.length_nil, Nat.zero_add]; exact Nat.le_trans cl (by decide))
  rw [fold_putS _ _ _ _ snd (fun _ _ => rfl), List.nil_append] at c1
  have e2 : dicS D.str ([] : List (Str × Str)) = [] := rfl
  rw [e2] at c1
  have e3 : (dicS D.str C).map (·.1) = C.map fun e => D.str e.1 := by unfold dicS; rw [List.map_map]; rfl
  have e4 : (C.map fun d => (d.2, d.1)) = C.map swapP := rfl
  rw [e4] at c1
  obtain ⟨s4, s5, s6, w1⟩ := clean_run wf hp hs (a1 := .v (.dic false (dicS D.str C))) (a3 := .un) 400 1000 (C.map swapP) .un .un (by rw [List.length_map]; omega) (by omega) (by rw [List.length_map]; exact Nat.le_trans cl (by decide)) gn (fun e he => by
    obtain ⟨e', he', rfl⟩ := List.mem_map.mp he
    exact hA _ (ok.el e' he').1)
  have sub : (cleanP (fullP P B) 400 (C.map swapP)).length ≤ big := by
    refine Nat.le_trans (clean_len _ _) ?_
    rw [List.length_map]
    exact Nat.le_trans cl (by decide)
  have s1 := sortD_pairs _ sub
  generalize cleanP (fullP P B) 400 (C.map swapP) = G at *
  generalize hq : (C.map fun e => D.str e.1) = kk at *
  simp (config := { decide := true }) [Bw.fnD, Bw.slots0, Bw.seqM, Bw.ifM, Bw.op2b, Bw.op2, Bw.op2c, Bw.bnd, Bw.ret, Bw.ixN', Bw.has, Bw.peek, Bw.deref, Bw.nm, Bw.setM, Bw.vM, Bw.oM, Bw.un1, Bw.drf, Bw.pk, Bw.opt, Bw.stnM, Bw.stN, Bw.stC, Bw.rtM, Bw.fldM, Bw.fldD, Bw.insOf, Bw.notB, in_dic, Bw.notInD, Bw.dget, Bw.toKey, Bw.ixC, Bw.ixM, Bw.calM, Bw.cal, Bw.metM, Bw.pick, Bw.cns, Bw.drpM, Bw.isN, Bw.andB, Bw.orB, Bw.asB, Bw.blM, m_moves_of, b_moves_of, a1, dcF, wkM, walkD, e3, wipeS, bringS, c1, w1, srtI, s1]
end
end Law
namespace Law
open L2 Bw
open PySem (Str)
section
variable {h : Hd} {p s b t : Nat} {P : List (Str × Pl)} {W : List (Str × Way)} {F : List (Str × Nat)} {Fr : Str → List Str} {B : List (Str × List Bag)} {T : List (Str × Nat)} {sh : List Str} {n : Str} {pl : Pl}
/-! ### the heap written -/
def bagsC (B : List (Str × List Bag)) : Cell := ⟨false, .con (.dic false (dicS bagsD B))⟩
def turnsC (T : List (Str × Nat)) : Cell := ⟨false, .con (.dic false (dicS (fun k : Nat => D.int k) T))⟩
theorem set_ne {h : Hd} {i j : Nat} {c : Cell} (hne : i ≠ j) : (h.set i c)[j]? = h[j]? := List.getElem?_set_ne hne
theorem set_eq {h : Hd} {i : Nat} {c d : Cell} (hi : h[i]? = some d) : (h.set i c)[i]? = some c := by
  rw [List.getElem?_set_self (List.getElem?_eq_some_iff.mp hi).1]
theorem ne_cell {h : Hd} {i j : Nat} {c d : Cell} (hi : h[i]? = some c) (hj : h[j]? = some d) (hne : c ≠ d) : i ≠ j := by
  rintro rfl
  rw [hi] at hj
  exact hne (Option.some.inj hj)
theorem PlantAt.setC (hp : PlantAt h p P W F Fr) {i : Nat} {es : List (D × D)} (hi : h[i]? = some ⟨false, .con (.dic false es)⟩) (c : Cell) : PlantAt (h.set i c) p P W F Fr where
  at_ := by rw [set_ne (ne_cell hi hp.at_ (by simp))]; exact hp.at_
  src := fun n j e => by rw [set_ne (ne_cell hi (hp.src n j e) (by simp))]; exact hp.src n j e
theorem StateAt.setB (hs : StateAt h s p b t B T sh) (B' : List (Str × List Bag)) : StateAt (h.set b (bagsC B')) s p b t B' T sh where
  at_ := by rw [set_ne (ne_cell hs.bags hs.at_ (by simp))]; exact hs.at_
  bags := set_eq hs.bags
  turns := by rw [set_ne hs.ne]; exact hs.turns
  ne := hs.ne
theorem StateAt.setT (hs : StateAt h s p b t B T sh) (T' : List (Str × Nat)) : StateAt (h.set t (turnsC T')) s p b t B T' sh where
  at_ := by rw [set_ne (ne_cell hs.turns hs.at_ (by simp))]; exact hs.at_
  bags := by rw [set_ne hs.ne.symm]; exact hs.bags
  turns := set_eq hs.turns
  ne := hs.ne
end
end Law
namespace Law
open L2 Bw
open PySem (Str)
section
variable {h : Hd} {p s b t : Nat} {P : List (Str × Pl)} {W : List (Str × Way)} {F : List (Str × Nat)} {Fr : Str → List Str} {B : List (Str × List Bag)} {T : List (Str × Nat)} {sh : List Str} {n : Str} {pl : Pl}
theorem set_same {h : Hd} {i : Nat} {c : Cell} (hi : h[i]? = some c) : h.set i c = h := by
  apply List.ext_getElem?
  intro j
  by_cases hj : i = j
  · subst hj; rw [set_eq hi, hi]
  · rw [set_ne hj]
theorem cut1 (l : List Bag) : cutL (l.map bagD) (some 1) none = (l.drop 1).map bagD := by
  unfold cutL
  have e : HT.sIx (l.map bagD).length 0 (some 1) = min 1 (l.map bagD).length := HT.sIx_nat (l.map bagD).length 0 1
  rw [e, List.length_map]
  show ((l.map bagD).drop (min 1 l.length)).take (l.length - min 1 l.length) = _
  rw [List.take_of_length_le (by rw [List.length_drop, List.length_map]; exact Nat.le_refl _)]
  cases l with
  | nil => rfl
  | cons x l => rw [List.length_cons, Nat.min_eq_left (by omega), List.map_drop]
theorem putS_len {α : Type} (l : List (Str × α)) (n : Str) (a : α) (hn : ∃ c, l.lookup n = some c) : (putS l n a).length = l.length := by
  obtain ⟨c, hc⟩ := hn
  unfold putS
  rw [hc]
  exact List.length_map _
theorem lookup_upd {α : Type} (n m : Str) (a : α) : ∀ l : List (Str × α), (l.map fun e => if (e.1 == n) = true then (e.1, a) else e).lookup m = if m = n then (l.lookup n).map (fun _ => a) else l.lookup m
  | [] => by simp
  | (k, c) :: l => by
    have ih := lookup_upd n m a l
    rw [List.map_cons]
    by_cases hk : k = n
    · subst hk
      simp only [beq_self_eq_true, if_true]
      rw [List.lookup_cons, List.lookup_cons, List.lookup_cons, ih]
      by_cases hm : m = k
      · subst hm; simp
      · have h1 : (m == k) = false := by simpa using hm
        rw [h1, if_neg hm, if_neg hm]
    · have h1 : (k == n) = false := by simpa using hk
      have h2 : (n == k) = false := by simpa using fun z : n = k => hk z.symm
      rw [h1, if_neg Bool.false_ne_true, List.lookup_cons, List.lookup_cons, List.lookup_cons, ih, h2]
      by_cases hm : m = k
      · subst hm
        have h3 : (m == m) = true := by simp
        rw [h3, if_neg hk, if_neg hk]
      · have h1 : (m == k) = false := by simpa using hm
        rw [h1]
theorem putS_lookup {α : Type} (l : List (Str × α)) (n m : Str) (a : α) : (putS l n a).lookup m = if m = n then some a else l.lookup m := by
  unfold putS
  cases hc : l.lookup n with
  | some c =>
    rw [if_pos (by simp), lookup_upd, hc]
    rfl
  | none =>
    rw [if_neg (by simp), List.lookup_append]
    by_cases hm : m = n
    · subst hm
      rw [hc, if_pos rfl]
      simp
    · have h1 : (m == n) = false := by simpa using hm
      rw [if_neg hm, List.lookup_cons, h1]
      cases l.lookup m <;> rfl
def outB (B : List (Str × List Bag)) (e : Str × Str) : List (Str × List Bag) := putS B e.1 ((B.lookup e.1).getD []).tail
theorem sl_bags (l : List Bag) : slC (.tup (l.map bagD)) (some 1) none = some (.tup (l.tail.map bagD)) := by
  show some (D.tup (cutL (l.map bagD) (some 1) none)) = _
  rw [cut1, List.drop_one]
theorem moved1 {sg s5 : Sl} {mvs : Sl} : ∀ (mv : List (Str × Str)) (B : List (Str × List Bag)) (h : Hd) (s3 s4 : Sl), StateAt h s p b t B T sh → (∀ e ∈ mv, ∃ l, B.lookup e.1 = some l) → B.length < big →
    ∃ s3' s4', Bw.forM (Bw.gtup 2 (gcns (gnm 3) (gcns (gnm 4) gnil))) x_State_moved_3 (mv.map pairD) [.v (.ref s), mvs, sg, s3, s4, s5] h = .ok .nx [.v (.ref s), mvs, sg, s3', s4', s5] (h.set b (bagsC (mv.foldl outB B)))
  | [], B, h, s3, s4, hs, _, _ => ⟨s3, s4, by
    have same : h.set b (bagsC B) = h := set_same hs.bags
    rw [List.foldl_nil, same]; rfl⟩
  | (x, y) :: mv, B, h, s3, s4, hs, hm, hl => by
    obtain ⟨l, hb⟩ := hm (x, y) List.mem_cons_self
    have hb : B.lookup x = some l := hb
    have e1 : outB B (x, y) = putS B x l.tail := by
      unfold outB
      rw [show B.lookup (x, y).1 = some l from hb]; rfl
    have hs2 := hs.setB (putS B x l.tail)
    obtain ⟨s3', s4', e⟩ := moved1 (sg := sg) (s5 := s5) (mvs := mvs) mv (putS B x l.tail) (h.set b (bagsC (putS B x l.tail))) (.v (.str x)) (.v (.str y)) hs2 (fun e he => by
      obtain ⟨l', hb'⟩ := hm e (List.mem_cons_of_mem _ he)
      rw [putS_lookup]
      split
      · exact ⟨_, rfl⟩
      · exact ⟨l', hb'⟩) (by rw [putS_len _ _ _ ⟨l, hb⟩]; exact hl)
    refine ⟨s3', s4', ?_⟩
    rw [List.foldl_cons, e1, List.map_cons, Bw.forM]
    rw [List.set_set] at e
    rw [← e]
    have d1 := dput_dicS bagsD B x l.tail
    have d2 : (dicS bagsD B).length < big := by rw [len_dicS]; exact hl
    have d3 : slC (bagsD l) (some 1) none = some (bagsD l.tail) := sl_bags l
    have d4 : deref h (bagsD l) = bagsD l := rfl
    have d5 := hs.bags
    unfold deref at d4
    simp (config := { decide := true }) [Bw.fnD, Bw.slots0, Bw.seqM, Bw.ifM, Bw.op2b, Bw.op2, Bw.op2c, Bw.bnd, Bw.ret, Bw.ixN', Bw.has, Bw.peek, Bw.deref, Bw.nm, Bw.setM, Bw.vM, Bw.oM, Bw.un1, Bw.drf, Bw.pk, Bw.opt, Bw.stnM, Bw.stN, Bw.stC, Bw.rtM, Bw.fldM, Bw.fldD, Bw.insOf, Bw.notB, in_dic, Bw.notInD, Bw.dget, Bw.toKey, Bw.ixC, Bw.ixM, Bw.calM, Bw.cal, Bw.metM, Bw.pick, Bw.cns, Bw.drpM, Bw.isN, Bw.andB, Bw.orB, Bw.asB, Bw.blM, x_State_moved_3, Bw.gtup, pairD, gcns, gnm, gnil, hs.at_, d5, g2, g1, cS, getK_dicS, hb, stoM, putC, d1, d2, slM, prt, d3, d4, bagsC]
end
end Law
namespace Law
open L2 Bw
open PySem (Str)
section
variable {h : Hd} {p s b t : Nat} {P : List (Str × Pl)} {W : List (Str × Way)} {F : List (Str × Nat)} {Fr : Str → List Str} {B : List (Str × List Bag)} {T : List (Str × Nat)} {sh : List Str} {n : Str} {pl : Pl}
/-- a bag comes in; the turn goes on -/
def inB (going : List (Str × Bag)) (B : List (Str × List Bag)) (e : Str × Str) : List (Str × List Bag) := putS B e.2 ((B.lookup e.2).getD [] ++ [(going.lookup e.1).getD ("", "")])
def inT (W : List (Str × Way)) (Fr : Str → List Str) (T : List (Str × Nat)) (e : Str × Str) : List (Str × Nat) := if (wayP W Fr e.2).turns = true then putS T e.2 (((wayP W Fr e.2).ord.idxOf e.1 + 1) % (wayP W Fr e.2).ord.length) else T
theorem idx_kt (l : List Str) (x : Str) (hx : x ∈ l) : idxD (.kt (l.map D.str)) (.str x) = some (.int (l.idxOf x : Nat)) := by
  have e1 : (l.map D.str).all flatD = true := by
    rw [List.all_map]; exact List.all_eq_true.mpr fun _ _ => rfl
  have e2 : (l.map D.str).findIdx? (fun d => eqF d (.str x)) = some (l.idxOf x) := by
    rw [List.findIdx?_map]
    have : (fun d => eqF d (.str x)) ∘ D.str = fun y => y == x := rfl
    rw [this]
    exact List.findIdx?_eq_some_iff_findIdx_eq.mpr ⟨List.idxOf_lt_length_of_mem hx, rfl⟩
  show (if (flatD (.str x) && (l.map D.str).all flatD) = true then ((l.map D.str).findIdx? fun d => eqF d (.str x)).map (fun j : Nat => D.int j) else none) = _
  rw [e1, e2]
  rfl
theorem tup_app (h : Hd) (l : List Bag) (x : Bag) (hl : l.length + 1 ≤ big) : addD h (bagsD l) (.tup [bagD x]) = some (bagsD (l ++ [x])) := by
  show (if (l.map bagD).length + 1 ≤ big then some (D.tup (l.map bagD ++ [bagD x])) else none) = _
  rw [List.length_map, if_pos hl]
  unfold bagsD
  rw [List.map_append]
  rfl
theorem moved2_step (hp : PlantAt h p P W F Fr) (hs : StateAt h s p b t B T sh) {mvs : Sl} {going : List (Str × Bag)} {x y : Str} {l : List Bag} {g : Bag} {k i : Nat} {s5 : Sl} (hb : B.lookup y = some l) (hg : going.lookup x = some g) (hk : T.lookup y = some k) (hf : F.lookup y = some i) (hl : l.length + 1 ≤ big) (hB : B.length < big) (hT : T.length < big)
    (hin : (wayP W Fr y).turns = true → x ∈ (wayP W Fr y).ord) :
    ∃ h' s5', x_State_moved_4 [.v (.ref s), mvs, .own (.dic false (dicS bagD going)), .v (.str x), .v (.str y), s5] h = .ok .nx [.v (.ref s), mvs, .own (.dic false (dicS bagD going)), .v (.str x), .v (.str y), s5'] h' ∧
      h' = (h.set b (bagsC (inB going B (x, y)))).set t (turnsC (inT W Fr T (x, y))) := by
  have e1 : inB going B (x, y) = putS B y (l ++ [g]) := by
    unfold inB
    rw [show B.lookup (x, y).2 = some l from hb, show going.lookup (x, y).1 = some g from hg]
    rfl
  have d1 := dput_dicS bagsD B y (l ++ [g])
  have d2 : (dicS bagsD B).length < big := by rw [len_dicS]; exact hB
  have d3 := tup_app h l g hl
  have d5 := hs.bags
  have hp2 := hp.setC hs.bags (bagsC (putS B y (l ++ [g])))
  have hs2 := hs.setB (putS B y (l ++ [g]))
  have w1 := way_run hp2 hf
  have e3 := nf "way" rfl rfl rfl
  rw [e1]
  have q1 : h.set b (bagsC (putS B y (l ++ [g]))) = h.set b ⟨false, .con (.dic false (dicS bagsD (putS B y (l ++ [g]))))⟩ := rfl
  rw [q1] at hp2 hs2 w1
  have q2 := hp2.at_
  have q3 := hs2.at_
  have q4 := hs2.turns
  cases hw : (wayP W Fr y).turns with
  | false =>
    have e2 : inT W Fr T (x, y) = T := by
      unfold inT
      rw [show (wayP W Fr (x, y).2).turns = false from hw, if_neg Bool.false_ne_true]
    have e4 : turnsC T = ⟨false, .con (.dic false (dicS (fun k : Nat => D.int k) T))⟩ := rfl
    refine ⟨_, .v (wayP W Fr y).d, ?_, rfl⟩
    rw [e2, e4, q1, set_same q4]
    have e5 : (wayP W Fr y).d = .tup [.str "first", .kt ((wayP W Fr y).ord.map D.str)] := by unfold Way.d; rw [hw]; rfl
    rw [e5] at w1 ⊢
    simp (config := { decide := true }) [Bw.fnD, Bw.slots0, Bw.seqM, Bw.ifM, Bw.op2b, Bw.op2, Bw.op2c, Bw.bnd, Bw.ret, Bw.ixN', Bw.has, Bw.peek, Bw.deref, Bw.nm, Bw.setM, Bw.vM, Bw.oM, Bw.un1, Bw.drf, Bw.pk, Bw.opt, Bw.stnM, Bw.stN, Bw.stC, Bw.rtM, Bw.fldM, Bw.fldD, Bw.insOf, Bw.notB, in_dic, Bw.notInD, Bw.dget, Bw.toKey, Bw.ixC, Bw.ixM, Bw.calM, Bw.cal, Bw.metM, Bw.pick, Bw.cns, Bw.drpM, Bw.isN, Bw.andB, Bw.orB, Bw.asB, Bw.blM, x_State_moved_4, hs.at_, d5, g2, g1, cS, cP, getK_dicS, hb, hg, stoM, putC, d1, d2, d3, tupM, bg1, lk, q2, q3, w1, e3, at0, eq_str, bagsC]
  | true =>
    have hx := hin hw
    have hpos : 0 < (wayP W Fr y).ord.length := List.length_pos_of_mem hx
    have e2 : inT W Fr T (x, y) = putS T y (((wayP W Fr y).ord.idxOf x + 1) % (wayP W Fr y).ord.length) := by
      unfold inT
      rw [show (wayP W Fr (x, y).2).turns = true from hw, if_pos rfl]
    have i1 := idx_kt (wayP W Fr y).ord x hx
    generalize (wayP W Fr y).ord.idxOf x = j at *
    have m1 : ∀ h : Hd, modD h (.int ((j : Int) + 1)) (.int ((wayP W Fr y).ord.length : Nat)) = some (.int (((j + 1) % (wayP W Fr y).ord.length : Nat) : Int)) := fun h => by
      show (if (0 : Int) < ((wayP W Fr y).ord.length : Nat) then some (D.int (((j : Int) + 1) % ((wayP W Fr y).ord.length : Nat))) else none) = _
      rw [if_pos (by omega)]
      congr 2
    have m2 : ∀ (h : Hd) (a c : Int), addD h (.int a) (.int c) = some (.int (a + c)) := fun _ _ _ => rfl
    have t1 := dput_dicS (fun k : Nat => D.int k) T y ((j + 1) % (wayP W Fr y).ord.length)
    have t2 : (dicS (fun k : Nat => D.int k) T).length < big := by rw [len_dicS]; exact hT
    refine ⟨_, .v (wayP W Fr y).d, ?_, rfl⟩
    rw [e2, q1]
    have e5 : (wayP W Fr y).d = .tup [.str "turns", .kt ((wayP W Fr y).ord.map D.str)] := by unfold Way.d; rw [hw]; rfl
    rw [e5] at w1 ⊢
    have l1 : lenD (.kt ((wayP W Fr y).ord.map D.str)) = some (.int ((wayP W Fr y).ord.length : Nat)) := by rw [len_kt, List.length_map]
    generalize (wayP W Fr y).ord.map D.str = od at *
    generalize (j + 1) % (wayP W Fr y).ord.length = jj at *
    simp (config := { decide := true }) [Bw.fnD, Bw.slots0, Bw.seqM, Bw.ifM, Bw.op2b, Bw.op2, Bw.op2c, Bw.bnd, Bw.ret, Bw.ixN', Bw.has, Bw.peek, Bw.deref, Bw.nm, Bw.setM, Bw.vM, Bw.oM, Bw.un1, Bw.drf, Bw.pk, Bw.opt, Bw.stnM, Bw.stN, Bw.stC, Bw.rtM, Bw.fldM, Bw.fldD, Bw.insOf, Bw.notB, in_dic, Bw.notInD, Bw.dget, Bw.toKey, Bw.ixC, Bw.ixM, Bw.calM, Bw.cal, Bw.metM, Bw.pick, Bw.cns, Bw.drpM, Bw.isN, Bw.andB, Bw.orB, Bw.asB, Bw.blM, x_State_moved_4, hs.at_, d5, g2, g1, g3, cS, cP, getK_dicS, hb, hg, stoM, putC, d1, d2, d3, tupM, bg1, lk, q2, q3, q4, w1, e3, at0, at1, eq_str, idxM, isPlain, i1, m1, m2, l1, t1, t2, turnsC]
end
end Law
namespace Law
open L2 Bw
open PySem (Str)
section
variable {h : Hd} {p s b t : Nat} {P : List (Str × Pl)} {W : List (Str × Way)} {F : List (Str × Nat)} {Fr : Str → List Str} {B : List (Str × List Bag)} {T : List (Str × Nat)} {sh : List Str} {n : Str} {pl : Pl}
theorem set4 (h : Hd) {b t : Nat} (hne : b ≠ t) (c c' d d' : Cell) : (((h.set b c).set t d).set b c').set t d' = (h.set b c').set t d' := by
  rw [List.set_comm _ _ (Ne.symm hne), List.set_set, List.set_set]
structure CanMove (W : List (Str × Way)) (F : List (Str × Nat)) (Fr : Str → List Str) (going : List (Str × Bag)) (B : List (Str × List Bag)) (T : List (Str × Nat)) (mv : List (Str × Str)) : Prop where
  el : ∀ e ∈ mv, (∃ l, B.lookup e.2 = some l) ∧ (∃ g, going.lookup e.1 = some g) ∧ (∃ k, T.lookup e.2 = some k) ∧ (∃ i, F.lookup e.2 = some i) ∧ ((wayP W Fr e.2).turns = true → e.1 ∈ (wayP W Fr e.2).ord)
  small : ∀ n l, B.lookup n = some l → l.length + mv.length ≤ big
theorem moved2 {mvs : Sl} {going : List (Str × Bag)} : ∀ (mv : List (Str × Str)) (B : List (Str × List Bag)) (T : List (Str × Nat)) (h : Hd) (s3 s4 s5 : Sl), PlantAt h p P W F Fr → StateAt h s p b t B T sh → CanMove W F Fr going B T mv → B.length < big → T.length < big →
    ∃ s3' s4' s5', Bw.forM (Bw.gtup 2 (gcns (gnm 3) (gcns (gnm 4) gnil))) x_State_moved_4 (mv.map pairD) [.v (.ref s), mvs, .own (.dic false (dicS bagD going)), s3, s4, s5] h =
      .ok .nx [.v (.ref s), mvs, .own (.dic false (dicS bagD going)), s3', s4', s5'] ((h.set b (bagsC (mv.foldl (inB going) B))).set t (turnsC (mv.foldl (inT W Fr) T)))
  | [], B, T, h, s3, s4, s5, hp, hs, _, _, _ => ⟨s3, s4, s5, by
    have same : h.set b (bagsC B) = h := set_same hs.bags
    have same2 : h.set t (turnsC T) = h := set_same hs.turns
    rw [List.foldl_nil, List.foldl_nil, same, same2]; rfl⟩
  | (x, y) :: mv, B, T, h, s3, s4, s5, hp, hs, cm, hB, hT => by
    obtain ⟨⟨l, hb⟩, ⟨g, hg⟩, ⟨k, hk⟩, ⟨i, hf⟩, hin⟩ := cm.el (x, y) List.mem_cons_self
    have hl := cm.small y l hb
    rw [List.length_cons] at hl
    obtain ⟨h', s5', e, eh⟩ := moved2_step (mvs := mvs) (s5 := s5) hp hs hb hg hk hf (by omega) hB hT hin
    have hp1 := hp.setC hs.bags (bagsC (inB going B (x, y)))
    have hs1 := hs.setB (inB going B (x, y))
    have hp2 := hp1.setC hs1.turns (turnsC (inT W Fr T (x, y)))
    have hs2 := hs1.setT (inT W Fr T (x, y))
    rw [← eh] at hp2 hs2
    have lB : (inB going B (x, y)).length = B.length := putS_len _ _ _ ⟨l, hb⟩
    have lT : (inT W Fr T (x, y)).length = T.length := by
      unfold inT
      split
      · exact putS_len _ _ _ ⟨k, hk⟩
      · rfl
    have cm2 : CanMove W F Fr going (inB going B (x, y)) (inT W Fr T (x, y)) mv := by
      refine ⟨fun e he => ?_, fun n l' hn => ?_⟩
      · obtain ⟨⟨l', hb'⟩, c2, ⟨k', hk'⟩, c4, c5⟩ := cm.el e (List.mem_cons_of_mem _ he)
        refine ⟨?_, c2, ?_, c4, c5⟩
        · unfold inB
          rw [putS_lookup]
          split
          · exact ⟨_, rfl⟩
          · exact ⟨l', hb'⟩
        · unfold inT
          split
          · rw [putS_lookup]
            split
            · exact ⟨_, rfl⟩
            · exact ⟨k', hk'⟩
          · exact ⟨k', hk'⟩
      · unfold inB at hn
        rw [putS_lookup] at hn
        split at hn
        · cases hn
          rw [show B.lookup (x, y).2 = some l from hb, List.length_append]
          show l.length + 1 + mv.length ≤ big
          omega
        · have := cm.small n l' hn
          rw [List.length_cons] at this
          omega
    obtain ⟨q3, q4, q5, e2⟩ := moved2 (mvs := mvs) (going := going) mv (inB going B (x, y)) (inT W Fr T (x, y)) h' (.v (.str x)) (.v (.str y)) s5' hp2 hs2 cm2 (by rw [lB]; exact hB) (by rw [lT]; exact hT)
    refine ⟨q3, q4, q5, ?_⟩
    rw [List.foldl_cons, List.foldl_cons, List.map_cons, Bw.forM]
    rw [eh, set4 h hs.ne] at e2
    rw [← e2]
    have tg : Bw.gtup 2 (gcns (gnm 3) (gcns (gnm 4) gnil)) (pairD (x, y)) [.v (.ref s), mvs, .own (.dic false (dicS bagD going)), s3, s4, s5] = some [.v (.ref s), mvs, .own (.dic false (dicS bagD going)), .v (.str x), .v (.str y), s5] := rfl
    have e := e
    dsimp only at e ⊢
    rw [tg]
    dsimp only
    rw [e, eh]
end
end Law
namespace Law
open L2 Bw
open PySem (Str)
section
variable {h : Hd} {p s b t : Nat} {P : List (Str × Pl)} {W : List (Str × Way)} {F : List (Str × Nat)} {Fr : Str → List Str} {B : List (Str × List Bag)} {T : List (Str × Nat)} {sh : List Str} {n : Str} {pl : Pl}
def headB (B : List (Str × List Bag)) (n : Str) : Bag := ((B.lookup n).getD []).headD ("", "")
/-- the bags that go -/
def goingP (B : List (Str × List Bag)) (mv : List (Str × Str)) : List (Str × Bag) := mv.map fun e => (e.1, headB B e.1)
def movedB (B : List (Str × List Bag)) (mv : List (Str × Str)) : List (Str × List Bag) := mv.foldl (inB (goingP B mv)) (mv.foldl outB B)
def movedT (W : List (Str × Way)) (Fr : Str → List Str) (T : List (Str × Nat)) (mv : List (Str × Str)) : List (Str × Nat) := mv.foldl (inT W Fr) T
theorem out_len : ∀ (mv : List (Str × Str)) (B : List (Str × List Bag)), (∀ e ∈ mv, ∃ l, B.lookup e.1 = some l) → (mv.foldl outB B).length = B.length
  | [], _, _ => rfl
  | e :: mv, B, hm => by
    obtain ⟨l, hl⟩ := hm e List.mem_cons_self
    have h1 : (outB B e).length = B.length := putS_len _ _ _ ⟨l, hl⟩
    rw [List.foldl_cons, out_len mv _ fun x hx => ?_, h1]
    obtain ⟨l', hl'⟩ := hm x (List.mem_cons_of_mem _ hx)
    unfold outB
    rw [putS_lookup]
    split
    · exact ⟨_, rfl⟩
    · exact ⟨l', hl'⟩
theorem moved_run (hp : PlantAt h p P W F Fr) (hs : StateAt h s p b t B T sh) {mv : List (Str × Str)} (hnd : (mv.map (·.1)).Nodup) (hh : ∀ e ∈ mv, ∃ x l, B.lookup e.1 = some (x :: l)) (cm : CanMove W F Fr (goingP B mv) (mv.foldl outB B) T mv)
    (hB : B.length < big) (hT : T.length < big) (hl : mv.length ≤ big) :
    m_State_moved [.ref s, .lst (mv.map pairD)] h = .ret .non ((h.set b (bagsC (movedB B mv))).set t (turnsC (movedT W Fr T mv))) := by
  have c1 := dcM_run (g := bagD) (σ := [.v (.ref s), .v (.lst (mv.map pairD)), .un, .un, .un, .un]) (h := h) (vs := [3, 4]) (t := Bw.gtup 2 (gcns (gnm 3) (gcns (gnm 4) gnil))) (c := x_State_moved_0) (k := x_State_moved_2) (e := x_State_moved_1) (fun e : Str × Str => e.1) (fun e => headB B e.1) pairD mv [] (fun e he => by
    obtain ⟨x, l, hx⟩ := hh e he
    have hb : headB B e.1 = x := by unfold headB; rw [hx]; rfl
    refine ⟨_, rfl, rfl, rfl, ?_, rfl⟩
    rw [hb]
    have d5 := hs.bags
    have d6 : bagsD (x :: l) = .tup (bagD x :: l.map bagD) := rfl
    simp (config := { decide := true }) [Bw.fnD, Bw.slots0, Bw.seqM, Bw.ifM, Bw.op2b, Bw.op2, Bw.op2c, Bw.bnd, Bw.ret, Bw.ixN', Bw.has, Bw.peek, Bw.deref, Bw.nm, Bw.setM, Bw.vM, Bw.oM, Bw.un1, Bw.drf, Bw.pk, Bw.opt, Bw.stnM, Bw.stN, Bw.stC, Bw.rtM, Bw.fldM, Bw.fldD, Bw.insOf, Bw.notB, in_dic, Bw.notInD, Bw.dget, Bw.toKey, Bw.ixC, Bw.ixM, Bw.calM, Bw.cal, Bw.metM, Bw.pick, Bw.cns, Bw.drpM, Bw.isN, Bw.andB, Bw.orB, Bw.asB, Bw.blM, x_State_moved_1, hs.at_, d5, g2, cS, getK_dicS, hx, d6, at0]) (by rw [List.length_nil, Nat.zero_add]; exact hl)
  rw [fold_putS _ _ _ _ hnd (fun _ _ => rfl), List.nil_append] at c1
  have e2 : dicS bagD ([] : List (Str × Bag)) = [] := rfl
  rw [e2] at c1
  have c1 : dcM [3, 4] (Bw.gtup 2 (gcns (gnm 3) (gcns (gnm 4) gnil))) x_State_moved_0 x_State_moved_2 x_State_moved_1 [] (mv.map pairD) [.v (.ref s), .v (.lst (mv.map pairD)), .un, .un, .un, .un] h = .ok (dicS bagD (goingP B mv)) [.v (.ref s), .v (.lst (mv.map pairD)), .un, .un, .un, .un] h := c1
  have hout : ∀ e ∈ mv, ∃ l, B.lookup e.1 = some l := fun e he => by
    obtain ⟨x, l, hx⟩ := hh e he
    exact ⟨_, hx⟩
  obtain ⟨s3, s4, m1⟩ := moved1 (sg := .own (.dic false (dicS bagD (goingP B mv)))) (s5 := .un) (mvs := .v (.lst (mv.map pairD))) mv B h .un .un hs hout hB
  have hp1 := hp.setC hs.bags (bagsC (mv.foldl outB B))
  have hs1 := hs.setB (mv.foldl outB B)
  obtain ⟨q3, q4, q5, m2⟩ := moved2 (mvs := .v (.lst (mv.map pairD))) (going := goingP B mv) mv (mv.foldl outB B) T _ s3 s4 .un hp1 hs1 cm (by rw [out_len mv B hout]; exact hB) hT
  rw [List.set_set] at m2
  have m2 : Bw.forM (Bw.gtup 2 (gcns (gnm 3) (gcns (gnm 4) gnil))) x_State_moved_4 (mv.map pairD) [.v (.ref s), .v (.lst (mv.map pairD)), .own (.dic false (dicS bagD (goingP B mv))), s3, s4, .un] (h.set b (bagsC (mv.foldl outB B))) =
      .ok .nx [.v (.ref s), .v (.lst (mv.map pairD)), .own (.dic false (dicS bagD (goingP B mv))), q3, q4, q5] ((h.set b (bagsC (movedB B mv))).set t (turnsC (movedT W Fr T mv))) := m2
  unfold m_State_moved b_State_moved
  generalize mv.map pairD = dm at *
  generalize Bw.gtup 2 (gcns (gnm 3) (gcns (gnm 4) gnil)) = tg at *
  simp (config := { decide := true }) [Bw.fnD, Bw.slots0, Bw.seqM, Bw.ifM, Bw.op2b, Bw.op2, Bw.op2c, Bw.bnd, Bw.ret, Bw.ixN', Bw.has, Bw.peek, Bw.deref, Bw.nm, Bw.setM, Bw.vM, Bw.oM, Bw.un1, Bw.drf, Bw.pk, Bw.opt, Bw.stnM, Bw.stN, Bw.stC, Bw.rtM, Bw.fldM, Bw.fldD, Bw.insOf, Bw.notB, in_dic, Bw.notInD, Bw.dget, Bw.toKey, Bw.ixC, Bw.ixM, Bw.calM, Bw.cal, Bw.metM, Bw.pick, Bw.cns, Bw.drpM, Bw.isN, Bw.andB, Bw.orB, Bw.asB, Bw.blM, foM, wkM, walkD, dcF, wipeS, bringS, c1, m1, m2]
end
end Law
namespace Law
open L2 Bw
open PySem (Str)
section
variable {h : Hd} {p s b t : Nat} {P : List (Str × Pl)} {W : List (Str × Way)} {F : List (Str × Nat)} {Fr : Str → List Str} {B : List (Str × List Bag)} {T : List (Str × Nat)} {sh : List Str} {n : Str} {pl : Pl}
theorem clean_sub {full : Str → Bool} : ∀ (j : Nat) (G : List (Str × Str)), (cleanP full j G).Sublist G
  | 0, _ => List.Sublist.refl _
  | j + 1, G => by
    have h := pass_sub (full := full) (sortS (names G)) G false
    unfold cleanP
    split
    · exact (clean_sub j _).trans h
    · exact h
theorem leP_tr (a b c : Str × Str) : leP a b = true → leP b c = true → leP a c = true := by
  unfold leP
  intro h1 h2
  by_cases e1 : a.1 = b.1
  · have q1 : (a.1 == b.1) = true := by simpa using e1
    rw [q1, if_pos rfl] at h1
    by_cases e2 : b.1 = c.1
    · have q2 : (b.1 == c.1) = true := by simpa using e2
      have q3 : (a.1 == c.1) = true := by simpa using e1.trans e2
      rw [q2, if_pos rfl] at h2
      rw [q3, if_pos rfl]
      exact leS_tr _ _ _ h1 h2
    · have q2 : (b.1 == c.1) = false := by simpa using e2
      have q3 : (a.1 == c.1) = false := by rw [e1]; exact q2
      rw [q2, if_neg Bool.false_ne_true] at h2
      rw [q3, if_neg Bool.false_ne_true, e1]
      exact h2
  · have q1 : (a.1 == b.1) = false := by simpa using e1
    rw [q1, if_neg Bool.false_ne_true] at h1
    by_cases e2 : b.1 = c.1
    · have q3 : (a.1 == c.1) = false := by rw [← e2]; exact q1
      rw [q3, if_neg Bool.false_ne_true, ← e2]
      exact h1
    · have q2 : (b.1 == c.1) = false := by simpa using e2
      rw [q2, if_neg Bool.false_ne_true] at h2
      have h3 := leS_tr _ _ _ h1 h2
      by_cases e3 : a.1 = c.1
      · exfalso
        rw [e3] at h1
        exact e2 (leS_an _ _ h2 h1)
      · have q3 : (a.1 == c.1) = false := by simpa using e3
        rw [q3, if_neg Bool.false_ne_true]
        exact h3
theorem leP_to (a b : Str × Str) : (leP a b || leP b a) = true := by
  unfold leP
  by_cases e1 : a.1 = b.1
  · have q1 : (a.1 == b.1) = true := by simpa using e1
    have q2 : (b.1 == a.1) = true := by simpa using e1.symm
    rw [q1, q2, if_pos rfl, if_pos rfl]
    exact leS_to _ _
  · have q1 : (a.1 == b.1) = false := by simpa using e1
    have q2 : (b.1 == a.1) = false := by simpa using fun z : b.1 = a.1 => e1 z.symm
    rw [q1, q2, if_neg Bool.false_ne_true, if_neg Bool.false_ne_true]
    exact leS_to _ _
theorem sortP_perm (l : List (Str × Str)) : (sortP l).Perm l := by
  unfold sortP
  rw [isort_eq leP_tr leP_to]
  exact List.mergeSort_perm _ _
theorem want_at {ns : List Str} {a x : Str} (hn : ns.Nodup) (hl : (wantsP P B sh ns).lookup a = some x) : wantP P B sh a = some x ∧ a ∈ ns := by
  have := mem_lookup hl
  obtain ⟨n, hm, hw⟩ := List.mem_filterMap.mp this
  obtain ⟨y, hy, e⟩ := Option.map_eq_some_iff.mp hw
  obtain ⟨rfl, rfl⟩ := Prod.mk.inj e
  exact ⟨hy, hm⟩
theorem win_snd {A : List (Str × Str)} {ns : List Str} {ord : Str → List Str} {C : List (Str × Str)} (ok : WinOk A ns ord C) : (C.map (·.2)).Nodup := by
  refine List.Pairwise.map _ (fun (a c : Str × Str) (hac : a ≠ c ∧ a ∈ C ∧ c ∈ C) z => ?_) ?_ (R := fun a c => a ≠ c ∧ a ∈ C ∧ c ∈ C)
  · have h1 := (ok.el a hac.2.1).2.1
    have h2 := (ok.el c hac.2.2).2.1
    rw [z] at h1
    rw [h1] at h2
    exact hac.1 (Prod.ext (Option.some.inj h2) z)
  · have cn : C.Nodup := List.Pairwise.imp (fun {a c} (z : a.1 ≠ c.1) q => z (congrArg _ q)) (List.pairwise_map.mp ok.nd)
    exact List.Pairwise.imp_of_mem (fun ha hc hne => ⟨hne, ha, hc⟩) cn
/-- what holds of the moves of a step -/
structure MovesOk (P : List (Str × Pl)) (W : List (Str × Way)) (Fr : Str → List Str) (B : List (Str × List Bag)) (T : List (Str × Nat)) (sh : List Str) (mv : List (Str × Str)) : Prop where
  nd : (mv.map (·.1)).Nodup
  nd2 : (mv.map (·.2)).Nodup
  el : ∀ e ∈ mv, wantP P B sh e.1 = some e.2 ∧ e.1 ∈ names P ∧ e.1 ∈ orderP W Fr T e.2
theorem moves_ok (wf : Wf P W F Fr B T) : MovesOk P W Fr B T sh (movesP P W Fr B T sh) := by
  have ok := win_ok (sh := sh) wf
  have sn : (sortS (names P)).Nodup := (sort_perm _).nodup_iff.mpr wf.nd
  have w2 := win_snd ok
  unfold movesP
  dsimp only
  have hel : ∀ e ∈ winP W Fr T (wantsP P B sh (sortS (names P))), wantP P B sh e.2 = some e.1 ∧ e.2 ∈ names P ∧ e.2 ∈ orderP W Fr T e.1 := fun e he => by
    obtain ⟨h1, h2, h3⟩ := ok.el e he
    obtain ⟨h4, h5⟩ := want_at sn h2
    exact ⟨h4, (sort_perm _).mem_iff.mp h5, h3⟩
  have nd1 := ok.nd
  generalize winP W Fr T (wantsP P B sh (sortS (names P))) = C at *
  have sub := clean_sub (full := fullP P B) 400 (C.map swapP)
  have pm := sortP_perm (cleanP (fullP P B) 400 (C.map swapP))
  refine ⟨?_, ?_, fun e he => ?_⟩
  · rw [(pm.map _).nodup_iff]
    refine List.Nodup.sublist (sub.map _) ?_
    rw [List.map_map]; exact w2
  · rw [(pm.map _).nodup_iff]
    refine List.Nodup.sublist (sub.map _) ?_
    rw [List.map_map]; exact nd1
  · obtain ⟨e', he', rfl⟩ := List.mem_map.mp (sub.subset (pm.mem_iff.mp he))
    exact hel e' he'
end
end Law
namespace Law
open L2 Bw
open PySem (Str)
section
variable {h : Hd} {p s b t : Nat} {P : List (Str × Pl)} {W : List (Str × Way)} {F : List (Str × Nat)} {Fr : Str → List Str} {B : List (Str × List Bag)} {T : List (Str × Nat)} {sh : List Str} {n : Str} {pl : Pl}
/-! ### what lies where after the moves -/
theorem out_lookup (n : Str) : ∀ (mv : List (Str × Str)) (B : List (Str × List Bag)), (mv.map (·.1)).Nodup → (mv.foldl outB B).lookup n = if n ∈ mv.map (·.1) then some ((B.lookup n).getD []).tail else B.lookup n
  | [], B, _ => by simp
  | e :: mv, B, hn => by
    rw [List.map_cons, List.nodup_cons] at hn
    obtain ⟨h1, h2⟩ := hn
    rw [List.foldl_cons, out_lookup n mv _ h2, List.map_cons]
    unfold outB
    rw [putS_lookup]
    by_cases hm : n = e.1
    · rw [if_neg (by rw [hm]; exact h1), if_pos hm, if_pos (by rw [hm]; exact List.mem_cons_self), hm]
    · rw [if_neg hm]
      by_cases h3 : n ∈ mv.map (·.1)
      · rw [if_pos h3, if_pos (List.mem_cons_of_mem _ h3)]
      · rw [if_neg h3, if_neg (fun z => (List.mem_cons.mp z).elim hm h3)]
theorem in_lookup (g : List (Str × Bag)) (n : Str) : ∀ (mv : List (Str × Str)) (B : List (Str × List Bag)), (mv.map (·.2)).Nodup → (mv.foldl (inB g) B).lookup n = match mv.find? (fun e => e.2 == n) with
    | some e => some ((B.lookup n).getD [] ++ [(g.lookup e.1).getD ("", "")])
    | none => B.lookup n
  | [], B, _ => rfl
  | e :: mv, B, hn => by
    rw [List.map_cons, List.nodup_cons] at hn
    obtain ⟨h1, h2⟩ := hn
    rw [List.foldl_cons, in_lookup g n mv _ h2, List.find?_cons]
    unfold inB
    rw [putS_lookup]
    by_cases hm : e.2 = n
    · have q1 : (e.2 == n) = true := by simpa using hm
      have q2 : mv.find? (fun e => e.2 == n) = none := by
        rw [List.find?_eq_none]
        intro x hx z
        have z : x.2 = n := by simpa using z
        exact h1 (List.mem_map.mpr ⟨x, hx, z.trans hm.symm⟩)
      rw [q1, q2, if_pos hm.symm, hm]
    · have q1 : (e.2 == n) = false := by simpa using hm
      rw [q1, if_neg (fun z => hm z.symm)]
theorem turn_lookup (n : Str) : ∀ (mv : List (Str × Str)) (T : List (Str × Nat)), (mv.map (·.2)).Nodup → (mv.foldl (inT W Fr) T).lookup n = match mv.find? (fun e => e.2 == n) with
    | some e => if (wayP W Fr n).turns = true then some (((wayP W Fr n).ord.idxOf e.1 + 1) % (wayP W Fr n).ord.length) else T.lookup n
    | none => T.lookup n
  | [], T, _ => rfl
  | e :: mv, T, hn => by
    rw [List.map_cons, List.nodup_cons] at hn
    obtain ⟨h1, h2⟩ := hn
    rw [List.foldl_cons, turn_lookup n mv _ h2, List.find?_cons]
    unfold inT
    by_cases hm : e.2 = n
    · have q1 : (e.2 == n) = true := by simpa using hm
      have q2 : mv.find? (fun e => e.2 == n) = none := by
        rw [List.find?_eq_none]
        intro x hx z
        have z : x.2 = n := by simpa using z
        exact h1 (List.mem_map.mpr ⟨x, hx, z.trans hm.symm⟩)
      rw [q1, q2, hm]
      dsimp only
      split
      · rw [putS_lookup, if_pos rfl]
      · rfl
    · have q1 : (e.2 == n) = false := by simpa using hm
      rw [q1]
      have q3 : (if (wayP W Fr e.2).turns = true then putS T e.2 (((wayP W Fr e.2).ord.idxOf e.1 + 1) % (wayP W Fr e.2).ord.length) else T).lookup n = T.lookup n := by
        split
        · rw [putS_lookup, if_neg (fun z => hm z.symm)]
        · rfl
      rw [q3]
theorem going_lookup {a : Str} : ∀ mv : List (Str × Str), a ∈ mv.map (·.1) → (goingP B mv).lookup a = some (headB B a)
  | e :: mv, hm => by
    unfold goingP
    rw [List.map_cons, List.lookup_cons]
    by_cases ha : a = e.1
    · subst ha; simp
    · have q1 : (a == e.1) = false := by simpa using ha
      rw [q1]
      exact going_lookup mv ((List.mem_cons.mp (by rwa [List.map_cons] at hm)).resolve_left ha)
/-- the bags of one place after the moves -/
def afterB (B : List (Str × List Bag)) (mv : List (Str × Str)) (n : Str) (l : List Bag) : List Bag := (if n ∈ mv.map (·.1) then l.tail else l) ++ match mv.find? (fun e => e.2 == n) with
  | some e => [headB B e.1]
  | none => []
theorem movedB_lookup {mv : List (Str × Str)} (h1 : (mv.map (·.1)).Nodup) (h2 : (mv.map (·.2)).Nodup) {l : List Bag} (hb : B.lookup n = some l) : (movedB B mv).lookup n = some (afterB B mv n l) := by
  have o : (mv.foldl outB B).lookup n = some (if n ∈ mv.map (·.1) then l.tail else l) := by
    rw [out_lookup n mv B h1, hb]
    split <;> rfl
  unfold movedB afterB
  rw [in_lookup _ n mv _ h2, o]
  cases hf : mv.find? (fun e => e.2 == n) with
  | none => simp
  | some e =>
    have hm := List.mem_of_find?_eq_some hf
    dsimp only
    rw [going_lookup mv (List.mem_map.mpr ⟨e, hm, rfl⟩)]
    rfl
theorem afterB_len (mv : List (Str × Str)) (n : Str) (l : List Bag) : (afterB B mv n l).length ≤ l.length + 1 := by
  unfold afterB
  rw [List.length_append]
  have q1 : (if n ∈ mv.map (·.1) then l.tail else l).length ≤ l.length := by
    split
    · rw [List.length_tail]; omega
    · exact Nat.le_refl _
  have q2 : (match mv.find? (fun e : Str × Str => e.2 == n) with | some e => [headB B e.1] | none => []).length ≤ 1 := by split <;> simp
  omega
theorem putS_names {α : Type} {l : List (Str × α)} {n : Str} (a : α) (hn : ∃ c, l.lookup n = some c) : names (putS l n a) = names l := by
  obtain ⟨c, hc⟩ := hn
  unfold putS names
  rw [hc, if_pos (show (some c).isSome = true from rfl), List.map_map]
  refine List.map_congr_left fun e _ => ?_
  show (if (e.1 == n) = true then (e.1, a) else e).1 = e.1
  split <;> rfl
theorem mem_names {α : Type} {l : List (Str × α)} {n : Str} {a : α} (hl : l.lookup n = some a) : n ∈ names l := List.mem_map.mpr ⟨_, mem_lookup hl, rfl⟩
theorem out_names : ∀ (mv : List (Str × Str)) (B : List (Str × List Bag)), (∀ e ∈ mv, e.1 ∈ names B) → names (mv.foldl outB B) = names B
  | [], _, _ => rfl
  | e :: mv, B, hm => by
    have q : names (outB B e) = names B := putS_names _ (lookup_mem (hm e List.mem_cons_self))
    rw [List.foldl_cons, out_names mv _ fun x hx => by rw [q]; exact hm x (List.mem_cons_of_mem _ hx), q]
theorem in_names (g : List (Str × Bag)) : ∀ (mv : List (Str × Str)) (B : List (Str × List Bag)), (∀ e ∈ mv, e.2 ∈ names B) → names (mv.foldl (inB g) B) = names B
  | [], _, _ => rfl
  | e :: mv, B, hm => by
    have q : names (inB g B e) = names B := putS_names _ (lookup_mem (hm e List.mem_cons_self))
    rw [List.foldl_cons, in_names g mv _ fun x hx => by rw [q]; exact hm x (List.mem_cons_of_mem _ hx), q]
theorem movedB_names {mv : List (Str × Str)} (hm : ∀ e ∈ mv, e.1 ∈ names B ∧ e.2 ∈ names B) : names (movedB B mv) = names B := by
  unfold movedB
  have q := out_names mv B fun e he => (hm e he).1
  rw [in_names _ mv _ fun e he => by rw [q]; exact (hm e he).2, q]
theorem movedT_names : ∀ (mv : List (Str × Str)) (T : List (Str × Nat)), (∀ e ∈ mv, e.2 ∈ names T) → names (movedT W Fr T mv) = names T
  | [], _, _ => rfl
  | e :: mv, T, hm => by
    have q : names (inT W Fr T e) = names T := by
      unfold inT
      split
      · exact putS_names _ (lookup_mem (hm e List.mem_cons_self))
      · rfl
    show names (movedT W Fr (inT W Fr T e) mv) = _
    rw [movedT_names mv _ fun x hx => by rw [q]; exact hm x (List.mem_cons_of_mem _ hx), q]
theorem len_names {α : Type} (l : List (Str × α)) : (names l).length = l.length := List.length_map _
end
end Law
namespace Law
open L2 Bw
open PySem (Str)
section
variable {h : Hd} {p s b t : Nat} {P : List (Str × Pl)} {W : List (Str × Way)} {F : List (Str × Nat)} {Fr : Str → List Str} {B : List (Str × List Bag)} {T : List (Str × Nat)} {sh : List Str} {n : Str} {pl : Pl}
/-! ### one unit of time -/
theorem order_mem {a : Str} (hm : a ∈ orderP W Fr T n) : a ∈ (wayP W Fr n).ord := by
  unfold orderP rot at hm
  split at hm
  · rcases List.mem_append.mp hm with hm | hm
    · exact List.mem_of_mem_drop hm
    · exact List.mem_of_mem_take hm
  · exact hm
theorem want_some {a x : Str} (hw : wantP P B sh a = some x) : ∃ pl c l, P.lookup a = some pl ∧ B.lookup a = some (c :: l) ∧ pl.target c.2 = some x := by
  unfold wantP at hw
  split at hw
  · rename_i pl l hg hb
    have := (Option.filter_eq_some_iff.mp hw).1
    cases l with
    | nil => cases this
    | cons c l => exact ⟨pl, c, l, hg, hb, this⟩
  · cases hw
theorem MovesOk.tgt {mv : List (Str × Str)} (ok : MovesOk P W Fr B T sh mv) (wf : Wf P W F Fr B T) : ∀ e ∈ mv, (∃ pl, P.lookup e.1 = some pl) ∧ ∃ pl, P.lookup e.2 = some pl := fun e he => by
  obtain ⟨pl, c, l, h1, h2, h3⟩ := want_some (ok.el e he).1
  exact ⟨⟨pl, h1⟩, wf.tgt _ _ _ _ h1 h3⟩
theorem MovesOk.len {mv : List (Str × Str)} (ok : MovesOk P W Fr B T sh mv) (wf : Wf P W F Fr B T) : mv.length ≤ 300 := by
  have := nodup_len ok.nd (m := names P) fun x hx => by
    obtain ⟨e, he, rfl⟩ := List.mem_map.mp hx
    exact (ok.el e he).2.1
  rw [List.length_map, len_names] at this
  exact Nat.le_trans this wf.small
structure Small (B : List (Str × List Bag)) (T : List (Str × Nat)) (k : Nat) : Prop where
  b : B.length ≤ 300
  t : T.length ≤ 300
  l : ∀ n l, B.lookup n = some l → l.length ≤ k
theorem can_move {mv : List (Str × Str)} {k : Nat} (ok : MovesOk P W Fr B T sh mv) (wf : Wf P W F Fr B T) (sm : Small B T k) (hk : k + 300 ≤ big) : CanMove W F Fr (goingP B mv) (mv.foldl outB B) T mv := by
  refine ⟨fun e he => ?_, fun n l hl => ?_⟩
  · obtain ⟨_, ⟨pl, h2⟩⟩ := ok.tgt wf e he
    obtain ⟨k, hk, _⟩ := wf.turn _ _ h2
    obtain ⟨l, hb⟩ := wf.bag _ _ h2
    refine ⟨?_, ⟨_, going_lookup mv (List.mem_map.mpr ⟨e, he, rfl⟩)⟩, ⟨k, hk⟩, wf.src _ _ h2, fun _ => order_mem (ok.el e he).2.2⟩
    rw [out_lookup _ mv B ok.nd]
    split
    · exact ⟨_, rfl⟩
    · exact ⟨l, hb⟩
  · rw [out_lookup _ mv B ok.nd] at hl
    have h1 := ok.len wf
    split at hl
    · cases hl
      rw [List.length_tail]
      cases hb : B.lookup n with
      | none => show 0 - 1 + mv.length ≤ big; omega
      | some l =>
        have := sm.l n l hb
        show l.length - 1 + mv.length ≤ big
        omega
    · have := sm.l n l hl
      omega
theorem step_run (wf : Wf P W F Fr B T) (hp : PlantAt h p P W F Fr) (hs : StateAt h s p b t B T sh) {k : Nat} (sm : Small B T k) (hk : k + 300 < big) :
    m_step [.ref s] h = .ret (.lst ((movesP P W Fr B T sh).map pairD)) ((h.set b (bagsC (movedB B (movesP P W Fr B T sh)))).set t (turnsC (movedT W Fr T (movesP P W Fr B T sh)))) := by
  have a1 := moves_of_run wf hp hs
  have ok := moves_ok (sh := sh) wf
  generalize movesP P W Fr B T sh = mv at *
  have a2 := moved_run hp hs (mv := mv) ok.nd (fun e he => by
    obtain ⟨pl, c, l, _, h2, _⟩ := want_some (ok.el e he).1
    exact ⟨c, l, h2⟩) (can_move ok wf sm (Nat.le_of_lt hk)) (by have := sm.b; omega) (by have := sm.t; omega) (by have := ok.len wf; omega)
  simp (config := { decide := true }) [Bw.fnD, Bw.slots0, Bw.seqM, Bw.ifM, Bw.op2b, Bw.op2, Bw.op2c, Bw.bnd, Bw.ret, Bw.ixN', Bw.has, Bw.peek, Bw.deref, Bw.nm, Bw.setM, Bw.vM, Bw.oM, Bw.un1, Bw.drf, Bw.pk, Bw.opt, Bw.stnM, Bw.stN, Bw.stC, Bw.rtM, Bw.fldM, Bw.fldD, Bw.insOf, Bw.notB, in_dic, Bw.notInD, Bw.dget, Bw.toKey, Bw.ixC, Bw.ixM, Bw.calM, Bw.cal, Bw.metM, Bw.pick, Bw.cns, Bw.drpM, Bw.isN, Bw.andB, Bw.orB, Bw.asB, Bw.blM, m_step, b_step, a1, a2, lk, cS, hs.at_]
theorem idx_lt {l : List Str} {a : Str} (h : a ∈ l) : (l.idxOf a + 1) % l.length < l.length := Nat.mod_lt _ (List.length_pos_of_mem h)
theorem Wf.moved (wf : Wf P W F Fr B T) {mv : List (Str × Str)} (ok : MovesOk P W Fr B T sh mv) : Wf P W F Fr (movedB B mv) (movedT W Fr T mv) where
  nd := wf.nd
  small := wf.small
  bag := fun n pl hg => by
    obtain ⟨l, hb⟩ := wf.bag n pl hg
    exact ⟨_, movedB_lookup ok.nd ok.nd2 hb⟩
  src := wf.src
  turn := fun n pl hg => by
    obtain ⟨k, hk, hkl⟩ := wf.turn n pl hg
    unfold movedT
    rw [turn_lookup n mv T ok.nd2]
    split
    · rename_i e hf
      split
      · have hm := List.mem_of_find?_eq_some hf
        have he : e.2 = n := by simpa using List.find?_some hf
        have := order_mem (ok.el e hm).2.2
        rw [he] at this
        exact ⟨_, rfl, Nat.le_of_lt (idx_lt this)⟩
      · exact ⟨k, hk, hkl⟩
    · exact ⟨k, hk, hkl⟩
  ord := wf.ord
  tgt := wf.tgt
theorem Small.moved (wf : Wf P W F Fr B T) {mv : List (Str × Str)} (ok : MovesOk P W Fr B T sh mv) {k : Nat} (sm : Small B T k) : Small (movedB B mv) (movedT W Fr T mv) (k + 1) where
  b := by
    have q : names (movedB B mv) = names B := movedB_names fun e he => by
      obtain ⟨⟨p1, h1⟩, ⟨p2, h2⟩⟩ := ok.tgt wf e he
      obtain ⟨l1, b1⟩ := wf.bag _ _ h1
      obtain ⟨l2, b2⟩ := wf.bag _ _ h2
      exact ⟨mem_names b1, mem_names b2⟩
    rw [← len_names, q, len_names]
    exact sm.b
  t := by
    have q : names (movedT W Fr T mv) = names T := movedT_names mv T fun e he => by
      obtain ⟨_, ⟨p2, h2⟩⟩ := ok.tgt wf e he
      obtain ⟨k, hk, _⟩ := wf.turn _ _ h2
      exact mem_names hk
    rw [← len_names, q, len_names]
    exact sm.t
  l := fun n l hl => by
    have q : ∃ l0, B.lookup n = some l0 := by
      have := mem_names hl
      rw [movedB_names fun e he => by
        obtain ⟨⟨p1, h1⟩, ⟨p2, h2⟩⟩ := ok.tgt wf e he
        obtain ⟨l1, b1⟩ := wf.bag _ _ h1
        obtain ⟨l2, b2⟩ := wf.bag _ _ h2
        exact ⟨mem_names b1, mem_names b2⟩] at this
      exact lookup_mem this
    obtain ⟨l0, hb⟩ := q
    rw [movedB_lookup ok.nd ok.nd2 hb] at hl
    cases hl
    have := sm.l n l0 hb
    have := afterB_len (B := B) mv n l0
    omega
end
end Law
namespace Law
open L2 Bw
open PySem (Str)
section
variable {h : Hd} {p s b t : Nat} {P : List (Str × Pl)} {W : List (Str × Way)} {F : List (Str × Nat)} {Fr : Str → List Str} {B : List (Str × List Bag)} {T : List (Str × Nat)} {sh : List Str} {n : Str} {pl : Pl}
/-! ### all bags, where a bag is, a bag put, a chute emptied -/
def tripD (x : Str × Bag) : D := .tup [.str x.1, .str x.2.1, .str x.2.2]
def allP (B : List (Str × List Bag)) (ns : List Str) : List (Str × Bag) := ns.flatMap fun n => ((B.lookup n).getD []).map fun c => (n, c)
theorem for_step {t : Tg D} {m : Bw.M Fl} {d : D} {ds : List D} {σ σ1 σ2 : List Sl} {h h2 : Hd} (e1 : t d σ = some σ1) (e2 : m σ1 h = .ok .nx σ2 h2) : Bw.forM t m (d :: ds) σ h = Bw.forM t m ds σ2 h2 := by
  rw [Bw.forM]
  dsimp only
  rw [e1]
  dsimp only
  rw [e2]
def keepS : Sl → Sl
  | .v d => .v d
  | _ => .un
theorem bring34 (a c d s3 s4 a' c' d' x y : Sl) : bringS [a, c, d, s3, s4] [a', c', d', x, y] [3, 4] = [a', c', d', keepS s3, keepS s4] := by cases s3 <;> cases s4 <;> rfl
theorem all_body (hs : StateAt h s p b t B T sh) {acc : List (Str × Bag)} {l : List Bag} {s3 s4 : Sl} (hb : B.lookup n = some l) (hl : acc.length + l.length ≤ big) :
    ∃ s3' s4', x_State_all_bags_2 [.v (.ref s), .own (.lst (acc.map tripD)), .v (.str n), s3, s4] h = .ok .nx [.v (.ref s), .own (.lst ((acc ++ l.map fun c => (n, c)).map tripD)), .v (.str n), s3', s4'] h := by
  have c1 := lcM_run (σ := [.v (.ref s), .own (.lst (acc.map tripD)), .v (.str n), .un, .un]) (h := h) (vs := [3, 4]) (t := Bw.gtup 2 (gcns (gnm 3) (gcns (gnm 4) gnil))) (c := x_State_all_bags_0) (e := x_State_all_bags_1) (fun _ => true) (fun d => match d with | .tup [.str x, .str y] => .tup [.str n, .str x, .str y] | d => d) (l.map bagD) [] (fun d hd => by
    obtain ⟨c, hc, rfl⟩ := List.mem_map.mp hd
    refine ⟨_, rfl, rfl, fun _ => ?_, rfl⟩
    have b3 : (3 : Nat) ≤ big := by decide
    simp (config := { decide := true }) [Bw.fnD, Bw.slots0, Bw.seqM, Bw.ifM, Bw.op2b, Bw.op2, Bw.op2c, Bw.bnd, Bw.ret, Bw.ixN', Bw.has, Bw.peek, Bw.deref, Bw.nm, Bw.setM, Bw.vM, Bw.oM, Bw.un1, Bw.drf, Bw.pk, Bw.opt, Bw.stnM, Bw.stN, Bw.stC, Bw.rtM, Bw.fldM, Bw.fldD, Bw.insOf, Bw.notB, in_dic, Bw.notInD, Bw.dget, Bw.toKey, Bw.ixC, Bw.ixM, Bw.calM, Bw.cal, Bw.metM, Bw.pick, Bw.cns, Bw.drpM, Bw.isN, Bw.andB, Bw.orB, Bw.asB, Bw.blM, x_State_all_bags_1, tupM, b3, bagD]) (by rw [List.length_map, List.length_nil, Nat.zero_add]; omega)
  rw [List.nil_append, List.filter_eq_self.mpr (fun _ _ => rfl), List.map_map] at c1
  have e1 : l.map ((fun d => match d with | .tup [.str x, .str y] => .tup [.str n, .str x, .str y] | d => d) ∘ bagD) = (l.map fun c => (n, c)).map tripD := by
    rw [List.map_map]; rfl
  rw [e1] at c1
  have e2 : (l.map fun c => (n, c)).length = l.length := List.length_map _
  rw [List.map_append]
  have e3 : fExtend (.lst (acc.map tripD)) [.lst ((l.map fun c => (n, c)).map tripD)] = some (.lst (acc.map tripD ++ (l.map fun c => (n, c)).map tripD), .non) := by
    show (if (acc.map tripD).length + ((l.map fun c => (n, c)).map tripD).length ≤ big then _ else _) = _
    rw [if_pos]
    rw [List.length_map, List.length_map, e2]; exact hl
  have d5 := hs.bags
  have d6 : bagsD l = .tup (l.map bagD) := rfl
  generalize (l.map fun c => (n, c)).map tripD = dl at *
  generalize acc.map tripD = da at *
  generalize l.map bagD = db at *
  refine ⟨keepS s3, keepS s4, ?_⟩
  simp (config := { decide := true }) [Bw.fnD, Bw.slots0, Bw.seqM, Bw.ifM, Bw.op2b, Bw.op2, Bw.op2c, Bw.bnd, Bw.ret, Bw.ixN', Bw.has, Bw.peek, Bw.deref, Bw.nm, Bw.setM, Bw.vM, Bw.oM, Bw.un1, Bw.drf, Bw.pk, Bw.opt, Bw.stnM, Bw.stN, Bw.stC, Bw.rtM, Bw.fldM, Bw.fldD, Bw.insOf, Bw.notB, in_dic, Bw.notInD, Bw.dget, Bw.toKey, Bw.ixC, Bw.ixM, Bw.calM, Bw.cal, Bw.metM, Bw.pick, Bw.cns, Bw.drpM, Bw.isN, Bw.andB, Bw.orB, Bw.asB, Bw.blM, x_State_all_bags_2, mutnM, tyN, isTy, mutN, lcF, wkM, walkD, hs.at_, d5, d6, g2, cS, getK_dicS, hb, wipeS, bring34, c1, e3]
theorem all_loop (hs : StateAt h s p b t B T sh) : ∀ (ns : List Str) (acc : List (Str × Bag)) (s2 s3 s4 : Sl), (∀ n ∈ ns, ∃ l, B.lookup n = some l) → acc.length + (allP B ns).length ≤ big →
    ∃ s2' s3' s4', Bw.forM (gnm 2) x_State_all_bags_2 (ns.map D.str) [.v (.ref s), .own (.lst (acc.map tripD)), s2, s3, s4] h = .ok .nx [.v (.ref s), .own (.lst ((acc ++ allP B ns).map tripD)), s2', s3', s4'] h
  | [], acc, s2, s3, s4, _, _ => ⟨s2, s3, s4, by
    have : allP B [] = [] := rfl
    rw [this, List.append_nil]; rfl⟩
  | n :: ns, acc, s2, s3, s4, hm, hl => by
    obtain ⟨l, hb⟩ := hm n List.mem_cons_self
    have e0 : allP B (n :: ns) = (l.map fun c => (n, c)) ++ allP B ns := by
      unfold allP
      rw [List.flatMap_cons, hb]; rfl
    rw [e0, List.length_append, List.length_map] at hl
    obtain ⟨q3, q4, e⟩ := all_body hs (acc := acc) (s3 := s3) (s4 := s4) hb (by omega)
    obtain ⟨r2, r3, r4, e2⟩ := all_loop hs ns (acc ++ l.map fun c => (n, c)) (.v (.str n)) q3 q4 (fun m hm' => hm m (List.mem_cons_of_mem _ hm')) (by rw [List.length_append, List.length_map]; omega)
    refine ⟨r2, r3, r4, ?_⟩
    rw [e0, ← List.append_assoc, ← e2, List.map_cons]
    exact for_step rfl e
theorem all_bags_run (wf : Wf P W F Fr B T) (hp : PlantAt h p P W F Fr) (hs : StateAt h s p b t B T sh) (hl : (allP B (sortS (names P))).length ≤ big) :
    m_State_all_bags [.ref s] h = .ret (.lst ((allP B (sortS (names P))).map tripD)) h := by
  have a1 := names_run hp (Nat.le_trans wf.small (by decide))
  have e3 := nf "names" rfl rfl rfl
  obtain ⟨s2, s3, s4, e⟩ := all_loop hs (sortS (names P)) [] .un .un .un (fun n hn => by
    obtain ⟨pl, hg⟩ := lookup_mem ((sort_perm _).mem_iff.mp hn)
    exact wf.bag n pl hg) (by rw [List.length_nil, Nat.zero_add]; exact hl)
  rw [List.map_nil, List.nil_append] at e
  have b0 : (0 : Nat) ≤ big := by decide
  simp (config := { decide := true }) [Bw.fnD, Bw.slots0, Bw.seqM, Bw.ifM, Bw.op2b, Bw.op2, Bw.op2c, Bw.bnd, Bw.ret, Bw.ixN', Bw.has, Bw.peek, Bw.deref, Bw.nm, Bw.setM, Bw.vM, Bw.oM, Bw.un1, Bw.drf, Bw.pk, Bw.opt, Bw.stnM, Bw.stN, Bw.stC, Bw.rtM, Bw.fldM, Bw.fldD, Bw.insOf, Bw.notB, in_dic, Bw.notInD, Bw.dget, Bw.toKey, Bw.ixC, Bw.ixM, Bw.calM, Bw.cal, Bw.metM, Bw.pick, Bw.cns, Bw.drpM, Bw.isN, Bw.andB, Bw.orB, Bw.asB, Bw.blM, m_State_all_bags, b_State_all_bags, hs.at_, hp.at_, g1, cS, cP, a1, lk, e3, foM, wkM, walkD, lstM, b0, e]
def whereP (xs : List (Str × Bag)) (g : Str) : Option Str := (xs.find? fun x => x.2.1 == g).map (·.1)
theorem where_loop {a : Sl} {g : Str} : ∀ (xs : List (Str × Bag)) (s2 s3 s4 : Sl), ∃ σ', Bw.forM (Bw.gtup 3 (gcns (gnm 2) (gcns (gnm 3) (gcns (gnm 4) gnil)))) x_State_where_0 (xs.map tripD) [a, .v (.str g), s2, s3, s4] h =
    .ok (match whereP xs g with | some x => .rt (.str x) | none => .nx) σ' h
  | [], s2, s3, s4 => ⟨_, rfl⟩
  | x :: xs, s2, s3, s4 => by
    rw [List.map_cons, Bw.forM]
    unfold whereP
    rw [List.find?_cons]
    by_cases hx : x.2.1 = g
    · have q : (x.2.1 == g) = true := by simpa using hx
      rw [q]
      refine ⟨[a, .v (.str g), .v (.str x.1), .v (.str x.2.1), .v (.str x.2.2)], ?_⟩
      simp (config := { decide := true }) [Bw.fnD, Bw.slots0, Bw.seqM, Bw.ifM, Bw.op2b, Bw.op2, Bw.op2c, Bw.bnd, Bw.ret, Bw.ixN', Bw.has, Bw.peek, Bw.deref, Bw.nm, Bw.setM, Bw.vM, Bw.oM, Bw.un1, Bw.drf, Bw.pk, Bw.opt, Bw.stnM, Bw.stN, Bw.stC, Bw.rtM, Bw.fldM, Bw.fldD, Bw.insOf, Bw.notB, in_dic, Bw.notInD, Bw.dget, Bw.toKey, Bw.ixC, Bw.ixM, Bw.calM, Bw.cal, Bw.metM, Bw.pick, Bw.cns, Bw.drpM, Bw.isN, Bw.andB, Bw.orB, Bw.asB, Bw.blM, Bw.gtup, tripD, gcns, gnm, gnil, eq_str, x_State_where_0, hx]
    · have q : (x.2.1 == g) = false := by simpa using hx
      rw [q]
      obtain ⟨σ', e⟩ := where_loop (a := a) (g := g) xs (.v (.str x.1)) (.v (.str x.2.1)) (.v (.str x.2.2))
      refine ⟨σ', ?_⟩
      unfold whereP at e
      dsimp only
      rw [← e]
      simp (config := { decide := true }) [Bw.fnD, Bw.slots0, Bw.seqM, Bw.ifM, Bw.op2b, Bw.op2, Bw.op2c, Bw.bnd, Bw.ret, Bw.ixN', Bw.has, Bw.peek, Bw.deref, Bw.nm, Bw.setM, Bw.vM, Bw.oM, Bw.un1, Bw.drf, Bw.pk, Bw.opt, Bw.stnM, Bw.stN, Bw.stC, Bw.rtM, Bw.fldM, Bw.fldD, Bw.insOf, Bw.notB, in_dic, Bw.notInD, Bw.dget, Bw.toKey, Bw.ixC, Bw.ixM, Bw.calM, Bw.cal, Bw.metM, Bw.pick, Bw.cns, Bw.drpM, Bw.isN, Bw.andB, Bw.orB, Bw.asB, Bw.blM, Bw.gtup, tripD, gcns, gnm, gnil, eq_str, x_State_where_0, q]
theorem where_run (wf : Wf P W F Fr B T) (hp : PlantAt h p P W F Fr) (hs : StateAt h s p b t B T sh) (hl : (allP B (sortS (names P))).length ≤ big) (g : Str) :
    m_State_where [.ref s, .str g] h = .ret (optS (whereP (allP B (sortS (names P))) g)) h := by
  have a1 := all_bags_run wf hp hs hl
  have e4 : ∀ a b c d : D, List.lookup ("all_bags" : Str) [(("plant" : Str), a), ("_bags", b), ("_turns", c), ("_shut", d)] = none := fun _ _ _ _ => rfl
  generalize allP B (sortS (names P)) = xs at *
  obtain ⟨σ', e⟩ := where_loop (h := h) (a := .v (.ref s)) (g := g) xs .un .un .un
  generalize hd : xs.map tripD = dl at *
  simp (config := { decide := true }) [Bw.fnD, Bw.slots0, Bw.seqM, Bw.ifM, Bw.op2b, Bw.op2, Bw.op2c, Bw.bnd, Bw.ret, Bw.ixN', Bw.has, Bw.peek, Bw.deref, Bw.nm, Bw.setM, Bw.vM, Bw.oM, Bw.un1, Bw.drf, Bw.pk, Bw.opt, Bw.stnM, Bw.stN, Bw.stC, Bw.rtM, Bw.fldM, Bw.fldD, Bw.insOf, Bw.notB, in_dic, Bw.notInD, Bw.dget, Bw.toKey, Bw.ixC, Bw.ixM, Bw.calM, Bw.cal, Bw.metM, Bw.pick, Bw.cns, Bw.drpM, Bw.isN, Bw.andB, Bw.orB, Bw.asB, Bw.blM, m_State_where, b_State_where, hs.at_, cS, a1, lk, e4, foM, wkM, walkD, e]
  cases whereP xs g with
  | none => rfl
  | some y => rfl
theorem put_run (wf : Wf P W F Fr B T) (hp : PlantAt h p P W F Fr) (hs : StateAt h s p b t B T sh) (hl : (allP B (sortS (names P))).length ≤ big) (hg : P.lookup n = some pl) {l : List Bag} (hb : B.lookup n = some l) {g z : Str}
    (hr : (l.length : Int) < pl.room) (hw : whereP (allP B (sortS (names P))) g = none) (hlb : l.length < big) (hB : B.length < big) :
    m_State_put [.ref s, .str n, .str g, .str z] h = .ret .non (h.set b (bagsC (putS B n (l ++ [(g, z)])))) := by
  have a1 := full_run hp hs hg hb
  have a2 := where_run wf hp hs hl g
  rw [hw] at a2
  have q : decide (pl.room ≤ l.length) = false := by rw [decide_eq_false_iff_not]; omega
  rw [q] at a1
  have e4 : ∀ a b c d : D, List.lookup ("is_full" : Str) [(("plant" : Str), a), ("_bags", b), ("_turns", c), ("_shut", d)] = none := fun _ _ _ _ => rfl
  have e5 : ∀ a b c d : D, List.lookup ("where" : Str) [(("plant" : Str), a), ("_bags", b), ("_turns", c), ("_shut", d)] = none := fun _ _ _ _ => rfl
  have d1 := dput_dicS bagsD B n (l ++ [(g, z)])
  have d2 : (dicS bagsD B).length < big := by rw [len_dicS]; exact hB
  have d3 := tup_app h l (g, z) hlb
  have d4 : bagD (g, z) = .tup [.str g, .str z] := rfl
  rw [d4] at d3
  have d5 := hs.bags
  simp (config := { decide := true }) [Bw.fnD, Bw.slots0, Bw.seqM, Bw.ifM, Bw.op2b, Bw.op2, Bw.op2c, Bw.bnd, Bw.ret, Bw.ixN', Bw.has, Bw.peek, Bw.deref, Bw.nm, Bw.setM, Bw.vM, Bw.oM, Bw.un1, Bw.drf, Bw.pk, Bw.opt, Bw.stnM, Bw.stN, Bw.stC, Bw.rtM, Bw.fldM, Bw.fldD, Bw.insOf, Bw.notB, in_dic, Bw.notInD, Bw.dget, Bw.toKey, Bw.ixC, Bw.ixM, Bw.calM, Bw.cal, Bw.metM, Bw.pick, Bw.cns, Bw.drpM, Bw.isN, Bw.andB, Bw.orB, Bw.asB, Bw.blM, m_State_put, b_State_put, hs.at_, cS, a1, a2, lk, e4, e5, optS, d5, g2, getK_dicS, hb, stoM, putC, d1, d2, d3, tupM, bg1, bg2, bagsC]
theorem cut_bags_lo (l : List Bag) (k : Nat) : cutL (l.map bagD) (some (k : Int)) none = (l.drop k).map bagD := by
  unfold cutL
  rw [HT.sIx_nat, List.length_map]
  show ((l.map bagD).drop (min k l.length)).take (l.length - min k l.length) = _
  rw [List.take_of_length_le (by rw [List.length_drop, List.length_map]; exact Nat.le_refl _), ← List.map_drop]
  congr 1
  rcases Nat.le_total k l.length with z | z
  · rw [Nat.min_eq_left z]
  · rw [Nat.min_eq_right z, List.drop_length, List.drop_of_length_le z]
theorem cut_bags_hi (l : List Bag) (k : Nat) : cutL (l.map bagD) none (some (k : Int)) = (l.take k).map bagD := by
  unfold cutL
  rw [HT.sIx_nat, List.length_map]
  show ((l.map bagD).drop 0).take (min k l.length - 0) = _
  rw [List.drop_zero, Nat.sub_zero, ← List.map_take]
  congr 1
  rcases Nat.le_total k l.length with z | z
  · rw [Nat.min_eq_left z]
  · rw [Nat.min_eq_right z, List.take_length, List.take_of_length_le z]
theorem ne_str (h : Hd) (a c : Str) : neD h (.str a) (.str c) = some (!(a == c)) := rfl
theorem empty_run (hp : PlantAt h p P W F Fr) (hs : StateAt h s p b t B T sh) {r : Int} (hg : P.lookup n = some (.chute r)) {l : List Bag} (hb : B.lookup n = some l) (k : Nat) (hB : B.length < big) :
    m_State_empty [.ref s, .str n, .int k] h = .ret (bagsD (l.take k)) (h.set b (bagsC (putS B n (l.drop k)))) := by
  have a1 := place_run hp hg
  have e3 := nf "place" rfl rfl rfl
  have d1 := dput_dicS bagsD B n (l.drop k)
  have d2 : (dicS bagsD B).length < big := by rw [len_dicS]; exact hB
  have d3 : slC (bagsD l) none (some (k : Int)) = some (bagsD (l.take k)) := congrArg (fun x => some (D.tup x)) (cut_bags_hi l k)
  have d3' : slC (bagsD l) (some (k : Int)) none = some (bagsD (l.drop k)) := congrArg (fun x => some (D.tup x)) (cut_bags_lo l k)
  have d4 : deref h (bagsD l) = bagsD l := rfl
  unfold deref at d4
  have d5 := hs.bags
  simp (config := { decide := true }) [Bw.fnD, Bw.slots0, Bw.seqM, Bw.ifM, Bw.op2b, Bw.op2, Bw.op2c, Bw.bnd, Bw.ret, Bw.ixN', Bw.has, Bw.peek, Bw.deref, Bw.nm, Bw.setM, Bw.vM, Bw.oM, Bw.un1, Bw.drf, Bw.pk, Bw.opt, Bw.stnM, Bw.stN, Bw.stC, Bw.rtM, Bw.fldM, Bw.fldD, Bw.insOf, Bw.notB, in_dic, Bw.notInD, Bw.dget, Bw.toKey, Bw.ixC, Bw.ixM, Bw.calM, Bw.cal, Bw.metM, Bw.pick, Bw.cns, Bw.drpM, Bw.isN, Bw.andB, Bw.orB, Bw.asB, Bw.blM, m_State_empty, b_State_empty, hs.at_, hp.at_, cS, cP, a1, lk, e3, g1, g2, Pl.d, at0, ne_str, d5, getK_dicS, hb, slM, prt, d3, d3', d4, stoM, putC, d1, d2, bagsC]
end
end Law
namespace Law
open L2 Bw
open PySem (Str)
/-! ### rows of texts: the same or not; all true -/
theorem can_strs : ∀ l : List Str, (∀ x ∈ l, PySem.PyData.strOk x = true) → PySem.PyData.canLayAll0 (l.map PySem.PyData.str) = true
  | [], _ => rfl
  | x :: l, hx => by simp [PySem.PyData.canLayAll0, PySem.PyData.canLay0, can_strs l fun y hy => hx y (List.mem_cons_of_mem _ hy), hx x List.mem_cons_self]
theorem dep_strs : ∀ l : List Str, PySem.PyData.depthAll (l.map PySem.PyData.str) = 0
  | [] => rfl
  | _ :: l => by simp [PySem.PyData.depthAll, PySem.PyData.depth, dep_strs l]
theorem eqv_strs : ∀ a c : List Str, PySem.PyData.eqvAll (a.map PySem.PyData.str) (c.map PySem.PyData.str) = decide (a = c)
  | [], [] => by simp [PySem.PyData.eqvAll]
  | [], _ :: _ => by simp [PySem.PyData.eqvAll]
  | _ :: _, [] => by simp [PySem.PyData.eqvAll]
  | x :: a, y :: c => by
    simp only [List.map_cons, PySem.PyData.eqvAll, PySem.PyData.eqv, eqv_strs a c]
    by_cases h : x = y <;> by_cases h' : a = c <;> simp [h, h']
theorem toPys_strs (l : List Str) : toPys (l.map D.str) = some (l.map PySem.PyData.str) := by
  induction l with
  | nil => rfl
  | cons a l ih => rw [List.map_cons, toPys, ih]; rfl
theorem eq_strs (h : Hd) (a c : List Str) (ha : ∀ x ∈ a, PySem.PyData.strOk x = true) (hc : ∀ x ∈ c, PySem.PyData.strOk x = true) : eqD h (.lst (a.map D.str)) (.lst (c.map D.str)) = some (decide (a = c)) := by
  show eqO _ _ = _
  unfold eqO toPy
  rw [toPys_strs, toPys_strs]
  have q : ∀ l : List Str, (∀ x ∈ l, PySem.PyData.strOk x = true) → pyOk (.list (l.map PySem.PyData.str)) = true := fun l hl => by
    unfold pyOk PySem.SeqAt.shaped
    simp [PySem.PyData.canLay0, PySem.PyData.depth, can_strs l hl, dep_strs]
  show (if (pyOk (.list (a.map PySem.PyData.str)) && pyOk (.list (c.map PySem.PyData.str))) = true then some (PySem.PyData.eqv (.list (a.map PySem.PyData.str)) (.list (c.map PySem.PyData.str))) else none) = _
  rw [q a ha, q c hc, if_pos (show (true && true) = true from rfl)]
  simp only [PySem.PyData.eqv, eqv_strs]
theorem bls_map {α : Type} (f : α → Bool) : ∀ l : List α, blsD (l.map fun x => D.bl (f x)) = some (l.map f)
  | [] => rfl
  | x :: l => by rw [List.map_cons, blsD, bls_map f l]; rfl
theorem all_map {α : Type} (f : α → Bool) (l : List α) : allD (.lst (l.map fun x => D.bl (f x))) = some (.bl (l.all f)) := by
  show (blsD (l.map fun x => D.bl (f x))).map (fun bs => D.bl (bs.all id)) = _
  rw [bls_map]
  show some (D.bl ((l.map f).all id)) = _
  rw [List.all_map]; rfl
theorem ne_int (h : Hd) (a c : Int) : neD h (.int a) (.int c) = some (!(a == c)) := rfl
/-! ### places that fit -/
structure NameOk (g : Str) : Prop where
  run : ∀ h, m_is_name [.str g] h = .ret (.bl true) h
  ok : PySem.PyData.strOk g = true
def Pl.tgts : Pl → List Str
  | .belt t => [t]
  | .store _ t => [t]
  | .switch rows t => rows.map (·.2) ++ [t]
  | .chute _ => []
def Pl.Fits : Pl → Prop
  | .belt _ => True
  | .store n _ => 1 ≤ n ∧ n ≤ 1000
  | .switch rows _ => rows.length + 1 < 4096 ∧ rows.map (·.1) = sortS (onceS (rows.map (·.1))) ∧ ∀ g ∈ rows.map (·.1), NameOk g
  | .chute n => 1 ≤ n ∧ n ≤ 1000
theorem le_int (h : Hd) (a c : Int) : leD h (.int a) (.int c) = some (decide (a ≤ c)) := rfl
theorem add_lst' (h : Hd) (a b : List D) (hl : a.length + b.length ≤ big) : addD h (.lst a) (.lst b) = some (.lst (a ++ b)) := if_pos hl
theorem targets_of_run (h : Hd) (pl : Pl) (hf : pl.Fits) : m_targets_of [pl.d] h = .ret (.lst (pl.tgts.map D.str)) h := by
  cases pl with
  | belt t => simp (config := { decide := true }) [Bw.fnD, Bw.slots0, Bw.seqM, Bw.ifM, Bw.op2b, Bw.op2, Bw.op2c, Bw.bnd, Bw.ret, Bw.ixN', Bw.has, Bw.peek, Bw.deref, Bw.nm, Bw.setM, Bw.vM, Bw.oM, Bw.un1, Bw.drf, Bw.pk, Bw.opt, Bw.stnM, Bw.stN, Bw.stC, Bw.rtM, Bw.fldM, Bw.fldD, Bw.insOf, Bw.notB, in_dic, Bw.notInD, Bw.dget, Bw.toKey, Bw.ixC, Bw.ixM, Bw.calM, Bw.cal, Bw.metM, Bw.pick, Bw.cns, Bw.drpM, Bw.isN, Bw.andB, Bw.orB, Bw.asB, Bw.blM, m_targets_of, b_targets_of, Pl.d, Pl.tgts, at0, at1, eq_str, lstM, bg1]
  | store n t => simp (config := { decide := true }) [Bw.fnD, Bw.slots0, Bw.seqM, Bw.ifM, Bw.op2b, Bw.op2, Bw.op2c, Bw.bnd, Bw.ret, Bw.ixN', Bw.has, Bw.peek, Bw.deref, Bw.nm, Bw.setM, Bw.vM, Bw.oM, Bw.un1, Bw.drf, Bw.pk, Bw.opt, Bw.stnM, Bw.stN, Bw.stC, Bw.rtM, Bw.fldM, Bw.fldD, Bw.insOf, Bw.notB, in_dic, Bw.notInD, Bw.dget, Bw.toKey, Bw.ixC, Bw.ixM, Bw.calM, Bw.cal, Bw.metM, Bw.pick, Bw.cns, Bw.drpM, Bw.isN, Bw.andB, Bw.orB, Bw.asB, Bw.blM, m_targets_of, b_targets_of, Pl.d, Pl.tgts, at0, at1, at2, eq_str, lstM, bg1]
  | chute n => simp (config := { decide := true }) [Bw.fnD, Bw.slots0, Bw.seqM, Bw.ifM, Bw.op2b, Bw.op2, Bw.op2c, Bw.bnd, Bw.ret, Bw.ixN', Bw.has, Bw.peek, Bw.deref, Bw.nm, Bw.setM, Bw.vM, Bw.oM, Bw.un1, Bw.drf, Bw.pk, Bw.opt, Bw.stnM, Bw.stN, Bw.stC, Bw.rtM, Bw.fldM, Bw.fldD, Bw.insOf, Bw.notB, in_dic, Bw.notInD, Bw.dget, Bw.toKey, Bw.ixC, Bw.ixM, Bw.calM, Bw.cal, Bw.metM, Bw.pick, Bw.cns, Bw.drpM, Bw.isN, Bw.andB, Bw.orB, Bw.asB, Bw.blM, m_targets_of, b_targets_of, Pl.d, Pl.tgts, at0, at1, eq_str, lstM, bg1]
  | switch rows t =>
    have c1 := lcM_run (σ := [.v (Pl.switch rows t).d, .un, .un]) (h := h) (vs := [1, 2]) (t := Bw.gtup 2 (gcns (gnm 1) (gcns (gnm 2) gnil))) (c := x_targets_of_0) (e := x_targets_of_1) (fun _ => true) (fun d => match d with | .tup [.str x, .str y] => .str y | d => d) (rows.map rowD) [] (fun d hd => by
      obtain ⟨c, hc, rfl⟩ := List.mem_map.mp hd
      exact ⟨_, rfl, rfl, fun _ => rfl, rfl⟩) (by
        rw [List.length_map, List.length_nil, Nat.zero_add]
        have := hf.1
        have : (4096 : Nat) ≤ big := by decide
        omega)
    rw [List.nil_append, List.filter_eq_self.mpr (fun _ _ => rfl), List.map_map] at c1
    have e1 : rows.map ((fun d => match d with | .tup [.str x, .str y] => .str y | d => d) ∘ rowD) = (rows.map (·.2)).map D.str := by
      rw [List.map_map]; rfl
    rw [e1] at c1
    have e2 := add_lst' h ((rows.map (·.2)).map D.str) [.str t] (by
      rw [List.length_map, List.length_map]
      have := hf.1
      have : (4096 : Nat) ≤ big := by decide
      show rows.length + 1 ≤ big
      omega)
    have e3 : (Pl.switch rows t).tgts.map D.str = (rows.map (·.2)).map D.str ++ [.str t] := by
      unfold Pl.tgts; rw [List.map_append]; rfl
    have e4 : (Pl.switch rows t).d = .tup [.str "switch", .tup (rows.map rowD), .str t] := rfl
    rw [e3]
    rw [e4] at c1 ⊢
    generalize (rows.map (·.2)).map D.str = da at *
    generalize rows.map rowD = dr at *
    simp (config := { decide := true }) [Bw.fnD, Bw.slots0, Bw.seqM, Bw.ifM, Bw.op2b, Bw.op2, Bw.op2c, Bw.bnd, Bw.ret, Bw.ixN', Bw.has, Bw.peek, Bw.deref, Bw.nm, Bw.setM, Bw.vM, Bw.oM, Bw.un1, Bw.drf, Bw.pk, Bw.opt, Bw.stnM, Bw.stN, Bw.stC, Bw.rtM, Bw.fldM, Bw.fldD, Bw.insOf, Bw.notB, in_dic, Bw.notInD, Bw.dget, Bw.toKey, Bw.ixC, Bw.ixM, Bw.calM, Bw.cal, Bw.metM, Bw.pick, Bw.cns, Bw.drpM, Bw.isN, Bw.andB, Bw.orB, Bw.asB, Bw.blM, m_targets_of, b_targets_of, at0, at1, at2, eq_str, lstM, bg1, lcF, wkM, walkD, wipeS, bringS, c1, e2]
theorem ki1 : inD (.str "belt") (.kt (kt_KINDS.map D.str)) = some true := rfl
theorem ki2 : inD (.str "switch") (.kt (kt_KINDS.map D.str)) = some true := rfl
theorem ki3 : inD (.str "store") (.kt (kt_KINDS.map D.str)) = some true := rfl
theorem ki4 : inD (.str "chute") (.kt (kt_KINDS.map D.str)) = some true := rfl
theorem fits_run (h : Hd) (pl : Pl) (hf : pl.Fits) : m_place_fits [pl.d] h = .ret (.bl true) h := by
  cases pl with
  | belt t => simp (config := { decide := true }) [Bw.fnD, Bw.slots0, Bw.seqM, Bw.ifM, Bw.op2b, Bw.op2, Bw.op2c, Bw.bnd, Bw.ret, Bw.ixN', Bw.has, Bw.peek, Bw.deref, Bw.nm, Bw.setM, Bw.vM, Bw.oM, Bw.un1, Bw.drf, Bw.pk, Bw.opt, Bw.stnM, Bw.stN, Bw.stC, Bw.rtM, Bw.fldM, Bw.fldD, Bw.insOf, Bw.notB, in_dic, Bw.notInD, Bw.dget, Bw.toKey, Bw.ixC, Bw.ixM, Bw.calM, Bw.cal, Bw.metM, Bw.pick, Bw.cns, Bw.drpM, Bw.isN, Bw.andB, Bw.orB, Bw.asB, Bw.blM, m_place_fits, b_place_fits, Pl.d, ki1, at0, at1, eq_str, eq_int, len_tup, andV]
  | store n t =>
    obtain ⟨h1, h2⟩ := hf
    simp (config := { decide := true }) [Bw.fnD, Bw.slots0, Bw.seqM, Bw.ifM, Bw.op2b, Bw.op2, Bw.op2c, Bw.bnd, Bw.ret, Bw.ixN', Bw.has, Bw.peek, Bw.deref, Bw.nm, Bw.setM, Bw.vM, Bw.oM, Bw.un1, Bw.drf, Bw.pk, Bw.opt, Bw.stnM, Bw.stN, Bw.stC, Bw.rtM, Bw.fldM, Bw.fldD, Bw.insOf, Bw.notB, in_dic, Bw.notInD, Bw.dget, Bw.toKey, Bw.ixC, Bw.ixM, Bw.calM, Bw.cal, Bw.metM, Bw.pick, Bw.cns, Bw.drpM, Bw.isN, Bw.andB, Bw.orB, Bw.asB, Bw.blM, m_place_fits, b_place_fits, Pl.d, ki3, at0, at1, eq_str, eq_int, len_tup, andV, chn, le_int, h1, h2]
  | chute n =>
    obtain ⟨h1, h2⟩ := hf
    simp (config := { decide := true }) [Bw.fnD, Bw.slots0, Bw.seqM, Bw.ifM, Bw.op2b, Bw.op2, Bw.op2c, Bw.bnd, Bw.ret, Bw.ixN', Bw.has, Bw.peek, Bw.deref, Bw.nm, Bw.setM, Bw.vM, Bw.oM, Bw.un1, Bw.drf, Bw.pk, Bw.opt, Bw.stnM, Bw.stN, Bw.stC, Bw.rtM, Bw.fldM, Bw.fldD, Bw.insOf, Bw.notB, in_dic, Bw.notInD, Bw.dget, Bw.toKey, Bw.ixC, Bw.ixM, Bw.calM, Bw.cal, Bw.metM, Bw.pick, Bw.cns, Bw.drpM, Bw.isN, Bw.andB, Bw.orB, Bw.asB, Bw.blM, m_place_fits, b_place_fits, Pl.d, ki4, at0, at1, eq_str, eq_int, len_tup, andV, chn, le_int, h1, h2]
  | switch rows t =>
    obtain ⟨h1, h2, h3⟩ := hf
    have bg : (4096 : Nat) ≤ big := by decide
    have e4 : (Pl.switch rows t).d = .tup [.str "switch", .tup (rows.map rowD), .str t] := rfl
    rw [e4]
    have c1 := lcM_run (σ := [.v (.tup [.str "switch", .tup (rows.map rowD), .str t]), .un, .un, .un]) (h := h) (vs := [2, 3]) (t := Bw.gtup 2 (gcns (gnm 2) (gcns (gnm 3) gnil))) (c := x_place_fits_0) (e := x_place_fits_1) (fun _ => true) (fun d => match d with | .tup [.str x, .str y] => .str x | d => d) (rows.map rowD) [] (fun d hd => by
      obtain ⟨c, hc, rfl⟩ := List.mem_map.mp hd
      exact ⟨_, rfl, rfl, fun _ => rfl, rfl⟩) (by rw [List.length_map, List.length_nil, Nat.zero_add]; omega)
    rw [List.nil_append, List.filter_eq_self.mpr (fun _ _ => rfl), List.map_map] at c1
    have e1 : rows.map ((fun d => match d with | .tup [.str x, .str y] => .str x | d => d) ∘ rowD) = (rows.map (·.1)).map D.str := by
      rw [List.map_map]; rfl
    rw [e1] at c1
    have l1 : (rows.map (·.1)).length = rows.length := List.length_map _
    generalize rows.map (·.1) = gs at *
    have c2 := lcM_run (σ := [.v (.tup [.str "switch", .tup (rows.map rowD), .str t]), .v (.lst (gs.map D.str)), .un, .un]) (h := h) (vs := [2]) (t := gnm 2) (c := x_place_fits_2) (e := x_place_fits_3) (fun _ => true) (fun d => .bl true) (gs.map D.str) [] (fun d hd => by
      obtain ⟨g, hg, rfl⟩ := List.mem_map.mp hd
      refine ⟨_, rfl, rfl, fun _ => ?_, rfl⟩
      have a1 := (h3 g hg).run h
      simp (config := { decide := true }) [Bw.fnD, Bw.slots0, Bw.seqM, Bw.ifM, Bw.op2b, Bw.op2, Bw.op2c, Bw.bnd, Bw.ret, Bw.ixN', Bw.has, Bw.peek, Bw.deref, Bw.nm, Bw.setM, Bw.vM, Bw.oM, Bw.un1, Bw.drf, Bw.pk, Bw.opt, Bw.stnM, Bw.stN, Bw.stC, Bw.rtM, Bw.fldM, Bw.fldD, Bw.insOf, Bw.notB, in_dic, Bw.notInD, Bw.dget, Bw.toKey, Bw.ixC, Bw.ixM, Bw.calM, Bw.cal, Bw.metM, Bw.pick, Bw.cns, Bw.drpM, Bw.isN, Bw.andB, Bw.orB, Bw.asB, Bw.blM, x_place_fits_3, a1]) (by rw [List.length_map, List.length_nil, Nat.zero_add]; omega)
    rw [List.nil_append, List.filter_eq_self.mpr (fun _ _ => rfl)] at c2
    have a3 := all_map (fun _ => true) (gs.map D.str)
    have a4 : ((gs.map D.str).all fun _ => true) = true := by simp
    rw [a4] at a3
    have s1 := setK_strs gs (by omega)
    have s2 := sort_once gs (by have := once_len gs; omega)
    have hok : ∀ x ∈ gs, PySem.PyData.strOk x = true := fun x hx => (h3 x hx).ok
    have q := eq_strs h gs (sortS (onceS gs)) hok (fun x hx => hok x (once_mem ((sort_perm _).mem_iff.mp hx)))
    rw [decide_eq_true h2] at q
    generalize (gs.map D.str).map (fun _ => D.bl true) = db at *
    generalize gs.map D.str = dg at *
    generalize (sortS (onceS gs)).map D.str = ds at *
    generalize (onceS gs).map (Sum.inr : Str → L2.Key) = ks at *
    generalize rows.map rowD = dr at *
    simp (config := { decide := true }) [Bw.fnD, Bw.slots0, Bw.seqM, Bw.ifM, Bw.op2b, Bw.op2, Bw.op2c, Bw.bnd, Bw.ret, Bw.ixN', Bw.has, Bw.peek, Bw.deref, Bw.nm, Bw.setM, Bw.vM, Bw.oM, Bw.un1, Bw.drf, Bw.pk, Bw.opt, Bw.stnM, Bw.stN, Bw.stC, Bw.rtM, Bw.fldM, Bw.fldD, Bw.insOf, Bw.notB, in_dic, Bw.notInD, Bw.dget, Bw.toKey, Bw.ixC, Bw.ixM, Bw.calM, Bw.cal, Bw.metM, Bw.pick, Bw.cns, Bw.drpM, Bw.isN, Bw.andB, Bw.orB, Bw.asB, Bw.blM, m_place_fits, b_place_fits, ki2, at0, at1, at2, eq_str, eq_int, len_tup, ne_int, andV, lcF, wkM, walkD, wipeS, bringS, c1, c2, srtS, setM', s1, s2, q, a3]
end Law
namespace Law
open L2 Bw
open PySem (Str)
section
variable {h : Hd} {p s b t : Nat} {P : List (Str × Pl)} {W : List (Str × Way)} {F : List (Str × Nat)} {Fr : Str → List Str} {B : List (Str × List Bag)} {T : List (Str × Nat)} {sh : List Str} {n : Str} {pl : Pl}
/-! ### a plant made -/
/-- the sources of a place -/
def FrP (P : List (Str × Pl)) (n : Str) : List Str := (sortS (names P)).filter fun m => match P.lookup m with
  | some pl => pl.tgts.contains n
  | none => false
structure PlantOk (P : List (Str × Pl)) (W : List (Str × Way)) : Prop where
  nd : (names P).Nodup
  small : P.length ≤ 300
  name : ∀ n ∈ names P, NameOk n
  fits : ∀ n pl, P.lookup n = some pl → pl.Fits
  tgt : ∀ n pl t, P.lookup n = some pl → t ∈ pl.tgts → t ≠ n ∧ t ∈ names P
  few : ∀ n pl, P.lookup n = some pl → pl.tgts.length + 1 < 4096
  wsmall : W.length ≤ 300
  way : ∀ n w, W.lookup n = some w → n ∈ names P ∧ sortS w.ord = FrP P n
theorem way_fits_run (h : Hd) (w : Way) {src : List Str} (hw : sortS w.ord = src) (hl : w.ord.length ≤ big) (ho : ∀ x ∈ w.ord, PySem.PyData.strOk x = true) : m_way_fits [w.d, .lst (src.map D.str)] h = .ret (.bl true) h := by
  have s1 : sortedD (.kt (w.ord.map D.str)) = some (.lst ((sortS w.ord).map D.str)) := by
    show (sortD (w.ord.map D.str)).map D.lst = _
    rw [sortD_strs _ hl]; rfl
  have q := eq_strs h (sortS w.ord) src (fun x hx => ho x ((sort_perm _).mem_iff.mp hx)) (fun x hx => ho x ((sort_perm _).mem_iff.mp (hw ▸ hx)))
  rw [decide_eq_true hw] at q
  unfold Way.d
  generalize w.ord.map D.str = dw at *
  generalize (sortS w.ord).map D.str = ds at *
  generalize src.map D.str = dr at *
  cases w.turns <;> simp (config := { decide := true }) [Bw.fnD, Bw.slots0, Bw.seqM, Bw.ifM, Bw.op2b, Bw.op2, Bw.op2c, Bw.bnd, Bw.ret, Bw.ixN', Bw.has, Bw.peek, Bw.deref, Bw.nm, Bw.setM, Bw.vM, Bw.oM, Bw.un1, Bw.drf, Bw.pk, Bw.opt, Bw.stnM, Bw.stN, Bw.stC, Bw.rtM, Bw.fldM, Bw.fldD, Bw.insOf, Bw.notB, in_dic, Bw.notInD, Bw.dget, Bw.toKey, Bw.ixC, Bw.ixM, Bw.calM, Bw.cal, Bw.metM, Bw.pick, Bw.cns, Bw.drpM, Bw.isN, Bw.andB, Bw.orB, Bw.asB, Bw.blM, m_way_fits, b_way_fits, len_tup, eq_int, andV, at0, at1, in2, tupM, bg2, s1, q]
def PreAt (h : Hd) (p : Nat) (P : List (Str × Pl)) (W : List (Str × Way)) : Prop := h[p]? = some ⟨false, .ins "Plant" [("places", .dic false (dicS Pl.d P)), ("ways", .dic false (dicS Way.d W))]⟩
theorem e1p (a b : D) : List.lookup ("places" : Str) [("places", a), ("ways", b)] = some a := rfl
theorem in_tgts (P : List (Str × Pl)) (x : Str) (hx : x ∈ names P) : inD (.str x) (.dic false (dicS Pl.d P)) = some true := by
  rw [in_dic]
  show ((some (getK (dicS Pl.d P) (.inr x))).map (·.isSome)) = _
  obtain ⟨a, ha⟩ := lookup_mem hx
  rw [getK_dicS, ha]; rfl
theorem check2 (ok : PlantOk P W) (pa : PreAt h p P W) (hn : n ∈ names P) : x_Plant__check_2 [.v (.ref p), .v (.str n), .un] h = .ok .nx [.v (.ref p), .v (.str n), .un] h := by
  obtain ⟨pl, hg⟩ := lookup_mem hn
  have a1 := (ok.name n hn).run h
  have a2 := fits_run h pl (ok.fits n pl hg)
  have a3 := targets_of_run h pl (ok.fits n pl hg)
  have tl : pl.tgts.length ≤ big := by
    have := ok.fits n pl hg
    cases pl with
    | switch rows t =>
      have := this.1
      have : (4096 : Nat) ≤ big := by decide
      show (rows.map (·.2) ++ [t]).length ≤ big
      rw [List.length_append, List.length_map]
      show rows.length + 1 ≤ big
      omega
    | belt t => exact bg1
    | store n t => exact bg1
    | chute n => exact Nat.zero_le _
  have c1 := lcM_run (σ := [.v (.ref p), .v (.str n), .un]) (h := h) (vs := [2]) (t := gnm 2) (c := x_Plant__check_0) (e := x_Plant__check_1) (fun _ => true) (fun d => .bl true) (pl.tgts.map D.str) [] (fun d hd => by
    obtain ⟨g, hgm, rfl⟩ := List.mem_map.mp hd
    obtain ⟨h1, h2⟩ := ok.tgt n pl g hg hgm
    refine ⟨_, rfl, rfl, fun _ => ?_, rfl⟩
    obtain ⟨a, ha⟩ := lookup_mem h2
    have h3 : (g == n) = false := by simpa using h1
    have pa := pa
    unfold PreAt at pa
    simp (config := { decide := true }) [Bw.fnD, Bw.slots0, Bw.seqM, Bw.ifM, Bw.op2b, Bw.op2, Bw.op2c, Bw.bnd, Bw.ret, Bw.ixN', Bw.has, Bw.peek, Bw.deref, Bw.nm, Bw.setM, Bw.vM, Bw.oM, Bw.un1, Bw.drf, Bw.pk, Bw.opt, Bw.stnM, Bw.stN, Bw.stC, Bw.rtM, Bw.fldM, Bw.fldD, Bw.insOf, Bw.notB, in_dic, Bw.notInD, Bw.dget, Bw.toKey, Bw.ixC, Bw.ixM, Bw.calM, Bw.cal, Bw.metM, Bw.pick, Bw.cns, Bw.drpM, Bw.isN, Bw.andB, Bw.orB, Bw.asB, Bw.blM, x_Plant__check_1, andV, cP, pa, e1p, ne_str, h3, getK_dicS, ha]) (by rw [List.length_map, List.length_nil, Nat.zero_add]; exact tl)
  rw [List.nil_append, List.filter_eq_self.mpr (fun _ _ => rfl)] at c1
  have a4 := all_map (fun _ => true) (pl.tgts.map D.str)
  have a5 : ((pl.tgts.map D.str).all fun _ => true) = true := by simp
  rw [a5] at a4
  have pa := pa
  unfold PreAt at pa
  generalize (pl.tgts.map D.str).map (fun _ => D.bl true) = db at *
  generalize pl.tgts.map D.str = dt at *
  simp (config := { decide := true }) [Bw.fnD, Bw.slots0, Bw.seqM, Bw.ifM, Bw.op2b, Bw.op2, Bw.op2c, Bw.bnd, Bw.ret, Bw.ixN', Bw.has, Bw.peek, Bw.deref, Bw.nm, Bw.setM, Bw.vM, Bw.oM, Bw.un1, Bw.drf, Bw.pk, Bw.opt, Bw.stnM, Bw.stN, Bw.stC, Bw.rtM, Bw.fldM, Bw.fldD, Bw.insOf, Bw.notB, in_dic, Bw.notInD, Bw.dget, Bw.toKey, Bw.ixC, Bw.ixM, Bw.calM, Bw.cal, Bw.metM, Bw.pick, Bw.cns, Bw.drpM, Bw.isN, Bw.andB, Bw.orB, Bw.asB, Bw.blM, x_Plant__check_2, a1, a2, a3, cP, pa, e1p, lcF, wkM, walkD, wipeS, bringS, c1, a4, getK_dicS, hg]
end
end Law
namespace Law
open L2 Bw
open PySem (Str)
section
variable {h : Hd} {p s b t : Nat} {P : List (Str × Pl)} {W : List (Str × Way)} {F : List (Str × Nat)} {Fr : Str → List Str} {B : List (Str × List Bag)} {T : List (Str × Nat)} {sh : List Str} {n : Str} {pl : Pl}
def mkF : List Str → Nat → List (Str × Nat)
  | [], _ => []
  | n :: ns, k => (n, k) :: mkF ns (k + 1)
def noC : Cell := ⟨false, .con (.lst [])⟩
theorem from_dc : ∀ (ns : List Str) (acc : List (Str × Nat)) (h : Hd), ns.Nodup → (∀ n ∈ ns, acc.lookup n = none) → acc.length + ns.length ≤ big →
    dcM [1] (gnm 1) x_Plant__check_3 x_Plant__check_5 x_Plant__check_4 (dicS D.ref acc) (ns.map D.str) [.v (.ref p), .un, .un] h = .ok (dicS D.ref (acc ++ mkF ns h.length)) [.v (.ref p), .un, .un] (h ++ List.replicate ns.length noC)
  | [], acc, h, _, _, _ => by
    rw [mkF, List.append_nil]
    show _ = R.ok _ _ (h ++ [])
    rw [List.append_nil]; rfl
  | n :: ns, acc, h, hn, ha, hl => by
    obtain ⟨h1, h2⟩ := List.nodup_cons.mp hn
    rw [List.length_cons] at hl
    have ih := from_dc ns (acc ++ [(n, h.length)]) (h ++ [noC]) h2 (fun m hm => by
      rw [List.lookup_append, ha m (List.mem_cons_of_mem _ hm)]
      have : (m == n) = false := by
        rw [beq_eq_false_iff_ne]; rintro rfl; exact h1 hm
      rw [List.lookup_cons, this]; rfl) (by rw [List.length_append, List.length_singleton]; omega)
    rw [List.length_append, List.length_singleton, List.append_assoc, List.append_assoc] at ih
    have d1 := dput_dicS D.ref acc n h.length
    rw [putS_new _ (ha n List.mem_cons_self)] at d1
    rw [List.map_cons, List.length_cons, List.replicate_succ, mkF]
    have e1 : ([(n, h.length)] ++ mkF ns (h.length + 1)) = (n, h.length) :: mkF ns (h.length + 1) := rfl
    have e2 : [noC] ++ List.replicate ns.length noC = noC :: List.replicate ns.length noC := rfl
    rw [e1, e2] at ih
    rw [← ih]
    have l1 : (dicS D.ref acc).length < big := by rw [len_dicS]; omega
    unfold dcM
    show (if (dicS D.ref acc).length < big then (match dput false (dicS D.ref acc) (.str n) (.ref h.length) with
      | some acc' => dcM [1] (gnm 1) x_Plant__check_3 x_Plant__check_5 x_Plant__check_4 acc' (ns.map D.str) [.v (.ref p), .un, .un] (h ++ [noC])
      | none => .no) else .no) = _
    rw [if_pos l1, d1]
    cases ns <;> rfl
theorem mkF_at : ∀ (ns : List Str) (k : Nat) {n : Str} {i : Nat}, (mkF ns k).lookup n = some i → k ≤ i ∧ i < k + ns.length ∧ ns[i - k]? = some n
  | m :: ns, k, n, i, e => by
    rw [mkF, List.lookup_cons] at e
    by_cases h : n = m
    · subst h
      simp at e
      subst e
      refine ⟨Nat.le_refl _, by rw [List.length_cons]; omega, by simp⟩
    · have q : (n == m) = false := by simpa using h
      rw [q] at e
      obtain ⟨h1, h2, h3⟩ := mkF_at ns (k + 1) e
      refine ⟨by omega, by rw [List.length_cons]; omega, ?_⟩
      have : i - k = (i - (k + 1)) + 1 := by omega
      rw [this, List.getElem?_cons_succ]; exact h3
theorem mkF_names : ∀ (ns : List Str) (k : Nat), names (mkF ns k) = ns
  | [], _ => rfl
  | n :: ns, k => by
    show n :: names (mkF ns (k + 1)) = _
    rw [mkF_names]
/-- no two names have one cell -/
def InjF (F : List (Str × Nat)) : Prop := ∀ a c i, F.lookup a = some i → F.lookup c = some i → a = c
theorem mkF_inj (ns : List Str) (k : Nat) : InjF (mkF ns k) := fun a c i h1 h2 => by
  have q1 := (mkF_at ns k h1).2.2
  have q2 := (mkF_at ns k h2).2.2
  rw [q1] at q2
  exact Option.some.inj q2
/-- nothing but the rows of sources is changed -/
structure OnlyF (F : List (Str × Nat)) (h h' : Hd) : Prop where
  len : h'.length = h.length
  at_ : ∀ j, (∀ n i, F.lookup n = some i → i ≠ j) → h'[j]? = h[j]?
theorem OnlyF.refl (F : List (Str × Nat)) (h : Hd) : OnlyF F h h := ⟨rfl, fun _ _ => rfl⟩
theorem OnlyF.trans {h' h'' : Hd} (a : OnlyF F h h') (c : OnlyF F h' h'') : OnlyF F h h'' := ⟨c.len.trans a.len, fun j hj => (c.at_ j hj).trans (a.at_ j hj)⟩
def frC (l : List Str) : Cell := ⟨false, .con (.lst (l.map D.str))⟩
theorem check6 (hp : PlantAt h p P W F Fr) (hi : InjF F) {m : Str} {i : Nat} (hf : F.lookup m = some i) (hl : (Fr m).length < big) :
    x_Plant__check_6 [.v (.ref p), .v (.str n), .v (.str m)] h = .ok .nx [.v (.ref p), .v (.str n), .v (.str m)] (h.set i (frC (Fr m ++ [n]))) ∧
      PlantAt (h.set i (frC (Fr m ++ [n]))) p P W F (fun x => if x = m then Fr x ++ [n] else Fr x) ∧ OnlyF F h (h.set i (frC (Fr m ++ [n]))) := by
  have a1 := hp.src m i hf
  refine ⟨?_, ⟨?_, fun x j hx => ?_⟩, ⟨List.length_set, fun j hj => set_ne (hj m i hf)⟩⟩
  · have l1 : ((Fr m).map D.str).length < big := by rw [List.length_map]; exact hl
    have e1 : fAppend (.lst ((Fr m).map D.str)) [.str n] = some (.lst ((Fr m ++ [n]).map D.str), .non) := by
      show (if ((Fr m).map D.str).length < big then _ else _) = _
      rw [if_pos l1, List.map_append]; rfl
    unfold frC
    generalize (Fr m ++ [n]).map D.str = d1 at *
    generalize (Fr m).map D.str = d2 at *
    simp (config := { decide := true }) [Bw.fnD, Bw.slots0, Bw.seqM, Bw.ifM, Bw.op2b, Bw.op2, Bw.op2c, Bw.bnd, Bw.ret, Bw.ixN', Bw.has, Bw.peek, Bw.deref, Bw.nm, Bw.setM, Bw.vM, Bw.oM, Bw.un1, Bw.drf, Bw.pk, Bw.opt, Bw.stnM, Bw.stN, Bw.stC, Bw.rtM, Bw.fldM, Bw.fldD, Bw.insOf, Bw.notB, in_dic, Bw.notInD, Bw.dget, Bw.toKey, Bw.ixC, Bw.ixM, Bw.calM, Bw.cal, Bw.metM, Bw.pick, Bw.cns, Bw.drpM, Bw.isN, Bw.andB, Bw.orB, Bw.asB, Bw.blM, x_Plant__check_6, mutoM, tyC, isTy, mutC, hp.at_, cP, f3, getK_dicS, hf, a1, e1]
  · rw [set_ne (ne_cell a1 hp.at_ (by simp))]; exact hp.at_
  · by_cases hm : x = m
    · subst hm
      rw [hf] at hx
      cases hx
      rw [if_pos rfl, set_eq a1]; rfl
    · rw [if_neg hm, set_ne (fun z => hm (hi x m i (by rw [z]; exact hx) hf))]
      exact hp.src x j hx
theorem check6_loop (hi : InjF F) : ∀ (ts : List Str) (Fr : Str → List Str) (h : Hd) (s2 : Sl), PlantAt h p P W F Fr → ts.Nodup → (∀ m ∈ ts, ∃ i, F.lookup m = some i) → (∀ m ∈ ts, (Fr m).length < big) →
    ∃ s2' h', Bw.forM (gnm 2) x_Plant__check_6 (ts.map D.str) [.v (.ref p), .v (.str n), s2] h = .ok .nx [.v (.ref p), .v (.str n), s2'] h' ∧ PlantAt h' p P W F (fun x => if x ∈ ts then Fr x ++ [n] else Fr x) ∧ OnlyF F h h'
  | [], Fr, h, s2, hp, _, _, _ => ⟨s2, h, rfl, by
    have : (fun x => if x ∈ ([] : List Str) then Fr x ++ [n] else Fr x) = Fr := by funext x; simp
    rw [this]; exact hp, OnlyF.refl _ _⟩
  | m :: ts, Fr, h, s2, hp, hn, hf, hl => by
    obtain ⟨h1, h2⟩ := List.nodup_cons.mp hn
    obtain ⟨i, hfi⟩ := hf m List.mem_cons_self
    obtain ⟨c1, c2, c3⟩ := check6 (n := n) hp hi hfi (hl m List.mem_cons_self)
    obtain ⟨s2', h', r1, r2, r3⟩ := check6_loop hi ts _ _ (.v (.str m)) c2 h2 (fun x hx => hf x (List.mem_cons_of_mem _ hx)) (fun x hx => by
      rw [if_neg (by rintro rfl; exact h1 hx)]; exact hl x (List.mem_cons_of_mem _ hx))
    refine ⟨s2', h', ?_, ?_, c3.trans r3⟩
    · rw [List.map_cons, ← r1]
      exact for_step rfl c1
    · have : (fun x => if x ∈ m :: ts then Fr x ++ [n] else Fr x) = (fun x => if x ∈ ts then (if x = m then Fr x ++ [n] else Fr x) ++ [n] else if x = m then Fr x ++ [n] else Fr x) := by
        funext x
        by_cases hx : x = m
        · subst hx
          rw [if_pos List.mem_cons_self, if_neg h1, if_pos rfl]
        · rw [if_neg hx]
          by_cases hx2 : x ∈ ts
          · rw [if_pos (List.mem_cons_of_mem _ hx2), if_pos hx2]
          · rw [if_neg (fun z => (List.mem_cons.mp z).elim hx hx2), if_neg hx2]
      rw [this]; exact r2
end
end Law
namespace Law
open L2 Bw
open PySem (Str)
theorem once_facts (l : List Str) : (onceS l).Nodup ∧ ∀ x, x ∈ l → x ∈ onceS l := by
  have go : ∀ (l acc : List Str), acc.Nodup → (l.foldl (fun acc x => if acc.any (fun y => decide (y = x)) = true then acc else acc ++ [x]) acc).Nodup ∧
      ∀ x, x ∈ acc ∨ x ∈ l → x ∈ l.foldl (fun acc x => if acc.any (fun y => decide (y = x)) = true then acc else acc ++ [x]) acc := by
    intro l
    induction l with
    | nil => exact fun acc hn => ⟨hn, fun x hx => hx.resolve_right (by simp)⟩
    | cons y l ih =>
      intro acc hn
      rw [List.foldl_cons]
      by_cases hy : acc.any (fun z => decide (z = y)) = true
      · rw [if_pos hy]
        refine ⟨(ih acc hn).1, fun x hx => (ih acc hn).2 x ?_⟩
        rcases hx with hx | hx
        · exact .inl hx
        · rcases List.mem_cons.mp hx with rfl | hx
          · obtain ⟨z, hz, e⟩ := List.any_eq_true.mp hy
            exact .inl (of_decide_eq_true e ▸ hz)
          · exact .inr hx
      · rw [if_neg hy]
        have hy2 : y ∉ acc := fun z => hy (List.any_eq_true.mpr ⟨y, z, by simp⟩)
        have hn2 : (acc ++ [y]).Nodup := by
          rw [List.nodup_append]
          exact ⟨hn, by simp, fun a ha c hc z => hy2 (by rw [List.mem_singleton.mp hc] at z; exact z ▸ ha)⟩
        refine ⟨(ih _ hn2).1, fun x hx => (ih _ hn2).2 x ?_⟩
        rcases hx with hx | hx
        · exact .inl (List.mem_append_left _ hx)
        · rcases List.mem_cons.mp hx with rfl | hx
          · exact .inl (List.mem_append_right _ (List.mem_singleton.mpr rfl))
          · exact .inr hx
  exact ⟨(go l [] List.nodup_nil).1, fun x hx => (go l [] List.nodup_nil).2 x (.inr hx)⟩
section
variable {h : Hd} {p s b t : Nat} {P : List (Str × Pl)} {W : List (Str × Way)} {F : List (Str × Nat)} {Fr : Str → List Str} {B : List (Str × List Bag)} {T : List (Str × Nat)} {sh : List Str} {n : Str} {pl : Pl}
def tgP (P : List (Str × Pl)) (x m : Str) : Bool := match P.lookup m with
  | some pl => pl.tgts.contains x
  | none => false
theorem tgts_len {pl : Pl} (hf : pl.Fits) : pl.tgts.length ≤ 4096 := by
  cases pl with
  | switch rows t =>
    have := hf.1
    show (rows.map (·.2) ++ [t]).length ≤ 4096
    rw [List.length_append, List.length_map]
    show rows.length + 1 ≤ 4096
    omega
  | belt t => exact (by decide : 1 ≤ 4096)
  | store n t => exact (by decide : 1 ≤ 4096)
  | chute n => exact Nat.zero_le _
theorem Pl.few {pl : Pl} (hf : pl.Fits) : pl.tgts.length + 1 < 4097 + 1 := by have := tgts_len hf; omega
theorem tgts_lt {pl : Pl} (hf : pl.Fits) : pl.tgts.length < 4096 := by
  cases pl with
  | switch rows t =>
    have := hf.1
    show (rows.map (·.2) ++ [t]).length < 4096
    rw [List.length_append, List.length_map]
    show rows.length + 1 < 4096
    omega
  | belt t => exact (by decide : 1 < 4096)
  | store n t => exact (by decide : 1 < 4096)
  | chute n => exact (by decide : 0 < 4096)
theorem check7 (ok : PlantOk P W) (hp : PlantAt h p P W F Fr) (hi : InjF F) (hF : ∀ m ∈ names P, ∃ i, F.lookup m = some i) (hl : ∀ m, (Fr m).length < big) (hm4 : ∀ pl, P.lookup n = some pl → pl.tgts.length + 1 < 4096) {s2 : Sl} (hn : n ∈ names P) :
    ∃ s2' h', x_Plant__check_7 [.v (.ref p), .v (.str n), s2] h = .ok .nx [.v (.ref p), .v (.str n), s2'] h' ∧ PlantAt h' p P W F (fun x => if tgP P x n = true then Fr x ++ [n] else Fr x) ∧ OnlyF F h h' := by
  obtain ⟨pl, hg⟩ := lookup_mem hn
  have a3 := targets_of_run h pl (ok.fits n pl hg)
  have s1 := setK_strs pl.tgts (hm4 pl hg)
  have ol := once_len pl.tgts
  have tl := tgts_len (ok.fits n pl hg)
  have bg : (4096 : Nat) ≤ big := by decide
  have s3 := sort_once pl.tgts (by omega)
  have pm := sort_perm (onceS pl.tgts)
  have mi : ∀ x, x ∈ sortS (onceS pl.tgts) ↔ x ∈ pl.tgts := fun x => pm.mem_iff.trans ⟨once_mem, (once_facts pl.tgts).2 x⟩
  obtain ⟨s2', h', r1, r2, r3⟩ := check6_loop (n := n) hi (sortS (onceS pl.tgts)) Fr h s2 hp (pm.nodup_iff.mpr (once_facts _).1) (fun m hm => hF m (ok.tgt n pl m hg ((mi m).mp hm)).2) (fun m _ => hl m)
  refine ⟨s2', h', ?_, ?_, r3⟩
  · generalize (onceS pl.tgts).map (Sum.inr : Str → L2.Key) = ks at *
    generalize (sortS (onceS pl.tgts)).map D.str = ds at *
    generalize pl.tgts.map D.str = dt at *
    simp (config := { decide := true }) [Bw.fnD, Bw.slots0, Bw.seqM, Bw.ifM, Bw.op2b, Bw.op2, Bw.op2c, Bw.bnd, Bw.ret, Bw.ixN', Bw.has, Bw.peek, Bw.deref, Bw.nm, Bw.setM, Bw.vM, Bw.oM, Bw.un1, Bw.drf, Bw.pk, Bw.opt, Bw.stnM, Bw.stN, Bw.stC, Bw.rtM, Bw.fldM, Bw.fldD, Bw.insOf, Bw.notB, in_dic, Bw.notInD, Bw.dget, Bw.toKey, Bw.ixC, Bw.ixM, Bw.calM, Bw.cal, Bw.metM, Bw.pick, Bw.cns, Bw.drpM, Bw.isN, Bw.andB, Bw.orB, Bw.asB, Bw.blM, x_Plant__check_7, hp.at_, cP, f1, getK_dicS, hg, a3, foM, wkM, walkD, srtS, setM', s1, s3, r1]
  · have e : (fun x => if tgP P x n = true then Fr x ++ [n] else Fr x) = fun x => if x ∈ sortS (onceS pl.tgts) then Fr x ++ [n] else Fr x := by
      funext x
      unfold tgP
      rw [hg]
      dsimp only
      by_cases hx : x ∈ pl.tgts
      · rw [if_pos (List.contains_iff_mem.mpr hx), if_pos ((mi x).mpr hx)]
      · rw [if_neg (fun z => hx (List.contains_iff_mem.mp z)), if_neg (fun z => hx ((mi x).mp z))]
    rw [e]; exact r2
theorem check7_loop (ok : PlantOk P W) (hi : InjF F) (hF : ∀ m ∈ names P, ∃ i, F.lookup m = some i) (hm4 : ∀ n pl, P.lookup n = some pl → pl.tgts.length + 1 < 4096) : ∀ (ns pre : List Str) (h : Hd) (s1 s2 : Sl), PlantAt h p P W F (fun x => pre.filter (tgP P x)) → (∀ n ∈ ns, n ∈ names P) → pre.length + ns.length < big →
    ∃ s1' s2' h', Bw.forM (gnm 1) x_Plant__check_7 (ns.map D.str) [.v (.ref p), s1, s2] h = .ok .nx [.v (.ref p), s1', s2'] h' ∧ PlantAt h' p P W F (fun x => (pre ++ ns).filter (tgP P x)) ∧ OnlyF F h h'
  | [], pre, h, s1, s2, hp, _, _ => ⟨s1, s2, h, rfl, by rw [List.append_nil]; exact hp, OnlyF.refl _ _⟩
  | n :: ns, pre, h, s1, s2, hp, hn, hl => by
    rw [List.length_cons] at hl
    obtain ⟨q2, h1, c1, c2, c3⟩ := check7 ok hp hi hF (fun m => by
      have := List.length_filter_le (tgP P m) pre
      omega) (hm4 n) (s2 := s2) (hn n List.mem_cons_self)
    have e : (fun x => if tgP P x n = true then pre.filter (tgP P x) ++ [n] else pre.filter (tgP P x)) = fun x => (pre ++ [n]).filter (tgP P x) := by
      funext x
      rw [List.filter_append, List.filter_cons]
      cases tgP P x n <;> simp
    rw [e] at c2
    obtain ⟨r1, r2, h', d1, d2, d3⟩ := check7_loop ok hi hF hm4 ns (pre ++ [n]) h1 (.v (.str n)) q2 c2 (fun m hm => hn m (List.mem_cons_of_mem _ hm)) (by rw [List.length_append, List.length_singleton]; omega)
    refine ⟨r1, r2, h', ?_, ?_, c3.trans d3⟩
    · rw [List.map_cons, ← d1]
      exact for_step rfl c1
    · rw [List.append_assoc] at d2; exact d2
theorem check8 (ok : PlantOk P W) (hp : PlantAt h p P W F (FrP P)) (hF : ∀ m ∈ names P, ∃ i, F.lookup m = some i) {w : Way} {s2 : Sl} (hw : W.lookup n = some w) :
    x_Plant__check_8 [.v (.ref p), .v (.str n), s2] h = .ok .nx [.v (.ref p), .v (.str n), s2] h := by
  obtain ⟨h1, h2⟩ := ok.way n w hw
  obtain ⟨pl, hg⟩ := lookup_mem h1
  obtain ⟨i, hf⟩ := hF n h1
  have a1 := src_run hp hf
  have hsub : ∀ x ∈ w.ord, x ∈ names P := fun x hx => by
    have : x ∈ sortS w.ord := (sort_perm _).mem_iff.mpr hx
    rw [h2] at this
    exact (sort_perm _).mem_iff.mp (List.mem_filter.mp this).1
  have hlen : w.ord.length ≤ 300 := by
    rw [← (sort_perm w.ord).length_eq, h2]
    refine Nat.le_trans (List.length_filter_le _ _) ?_
    rw [(sort_perm _).length_eq, len_names]; exact ok.small
  have a2 := way_fits_run h w h2 (Nat.le_trans hlen (by decide)) (fun x hx => (ok.name x (hsub x hx)).ok)
  have e3 := nf "sources" rfl rfl rfl
  simp (config := { decide := true }) [Bw.fnD, Bw.slots0, Bw.seqM, Bw.ifM, Bw.op2b, Bw.op2, Bw.op2c, Bw.bnd, Bw.ret, Bw.ixN', Bw.has, Bw.peek, Bw.deref, Bw.nm, Bw.setM, Bw.vM, Bw.oM, Bw.un1, Bw.drf, Bw.pk, Bw.opt, Bw.stnM, Bw.stN, Bw.stC, Bw.rtM, Bw.fldM, Bw.fldD, Bw.insOf, Bw.notB, in_dic, Bw.notInD, Bw.dget, Bw.toKey, Bw.ixC, Bw.ixM, Bw.calM, Bw.cal, Bw.metM, Bw.pick, Bw.cns, Bw.drpM, Bw.isN, Bw.andB, Bw.orB, Bw.asB, Bw.blM, x_Plant__check_8, hp.at_, cP, f1, f2, getK_dicS, hg, hw, a1, a2, lk, e3]
theorem check8_loop (ok : PlantOk P W) (hp : PlantAt h p P W F (FrP P)) (hF : ∀ m ∈ names P, ∃ i, F.lookup m = some i) {s2 : Sl} : ∀ (ns : List Str) (s1 : Sl), (∀ n ∈ ns, n ∈ names W) →
    ∃ s1', Bw.forM (gnm 1) x_Plant__check_8 (ns.map D.str) [.v (.ref p), s1, s2] h = .ok .nx [.v (.ref p), s1', s2] h
  | [], s1, _ => ⟨s1, rfl⟩
  | n :: ns, s1, hn => by
    obtain ⟨w, hw⟩ := lookup_mem (hn n List.mem_cons_self)
    obtain ⟨s1', e⟩ := check8_loop ok hp hF (s2 := s2) ns (.v (.str n)) (fun m hm => hn m (List.mem_cons_of_mem _ hm))
    refine ⟨s1', ?_⟩
    rw [List.map_cons, ← e]
    exact for_step rfl (check8 ok hp hF hw)
theorem check2_loop (ok : PlantOk P W) (pa : PreAt h p P W) : ∀ (ns : List Str) (s1 : Sl), (∀ n ∈ ns, n ∈ names P) →
    ∃ s1', Bw.forM (gnm 1) x_Plant__check_2 (ns.map D.str) [.v (.ref p), s1, .un] h = .ok .nx [.v (.ref p), s1', .un] h
  | [], s1, _ => ⟨s1, rfl⟩
  | n :: ns, s1, hn => by
    obtain ⟨s1', e⟩ := check2_loop ok pa ns (.v (.str n)) (fun m hm => hn m (List.mem_cons_of_mem _ hm))
    refine ⟨s1', ?_⟩
    rw [List.map_cons, ← e]
    exact for_step rfl (check2 ok pa (hn n List.mem_cons_self))
end
end Law
namespace Law
open L2 Bw
open PySem (Str)
section
variable {h : Hd} {p s b t : Nat} {P : List (Str × Pl)} {W : List (Str × Way)} {F : List (Str × Nat)} {Fr : Str → List Str} {B : List (Str × List Bag)} {T : List (Str × Nat)} {sh : List Str} {n : Str} {pl : Pl}
theorem gt_int (h : Hd) (a c : Int) : gtD h (.int a) (.int c) = some (decide (c < a)) := rfl
def plC (P : List (Str × Pl)) (W : List (Str × Way)) (F : List (Str × Nat)) : Cell := ⟨false, .ins "Plant" [("places", .dic false (dicS Pl.d P)), ("ways", .dic false (dicS Way.d W)), ("_from", .dic false (dicS D.ref F))]⟩
theorem check_run (ok : PlantOk P W) (pa : PreAt h p P W) : ∃ h', m_Plant__check [.ref p] h = .ret .non h' ∧ PlantAt h' p P W (mkF (names P) h.length) (FrP P) ∧ h'.length = h.length + P.length ∧ ∀ j, j ≠ p → j < h.length → h'[j]? = h[j]? := by
  have hpl : p < h.length := (List.getElem?_eq_some_iff.mp pa).1
  have bg : (5000 : Nat) ≤ big := by decide
  have hl : P.length ≤ big := by have := ok.small; omega
  have sp := sort_perm (names P)
  have ll : (sortS (names P)).length = P.length := by rw [sp.length_eq, len_names]
  obtain ⟨q1, l2⟩ := check2_loop ok pa (sortS (names P)) .un fun n hn => sp.mem_iff.mp hn
  have sd := sorted_dic Pl.d P hl
  have kd := keys_dicS Pl.d P
  have f1' := from_dc (p := p) (names P) [] h ok.nd (fun _ _ => rfl) (by rw [List.length_nil, Nat.zero_add, len_names]; exact hl)
  rw [List.nil_append, len_names] at f1'
  have e0 : dicS D.ref ([] : List (Str × Nat)) = [] := rfl
  rw [e0] at f1'
  have hF : ∀ m ∈ names P, ∃ i, (mkF (names P) h.length).lookup m = some i := fun m hm => lookup_mem (by rw [mkF_names]; exact hm)
  have hp1 : (h ++ List.replicate P.length noC)[p]? = some ⟨false, .ins "Plant" [("places", .dic false (dicS Pl.d P)), ("ways", .dic false (dicS Way.d W))]⟩ := by
    rw [List.getElem?_append_left hpl]; exact pa
  have hp2 : PlantAt ((h ++ List.replicate P.length noC).set p (plC P W (mkF (names P) h.length))) p P W (mkF (names P) h.length) (fun x => ([] : List Str).filter (tgP P x)) := by
    refine ⟨set_eq hp1, fun n i hi => ?_⟩
    obtain ⟨h1, h2, _⟩ := mkF_at _ _ hi
    rw [len_names] at h2
    rw [set_ne (by omega), List.getElem?_append_right h1, List.getElem?_replicate, if_pos (by omega)]
    rfl
  have hi := mkF_inj (names P) h.length
  obtain ⟨r1, r2, h', c1, c2, c3⟩ := check7_loop ok hi hF ok.few (sortS (names P)) [] _ (keepS q1) .un hp2 (fun n hn => sp.mem_iff.mp hn) (by rw [List.length_nil, ll]; have := ok.small; omega)
  rw [List.nil_append] at c2
  have c2 : PlantAt h' p P W (mkF (names P) h.length) (FrP P) := c2
  have wl : W.length ≤ big := by have := ok.wsmall; omega
  have sw := sorted_dic Way.d W wl
  obtain ⟨s1, c4⟩ := check8_loop ok c2 hF (s2 := r2) (sortS (names W)) r1 fun n hn => (sort_perm _).mem_iff.mp hn
  refine ⟨h', ?_, c2, ?_, fun j hj hjl => ?_⟩
  · have pa := pa
    unfold PreAt at pa
    have pe1 : ∀ a b : D, List.lookup ("places" : Str) [("places", a), ("ways", b)] = some a := fun _ _ => rfl
    have g1 : decide ((300 : Int) < (P.length : Nat)) = false := decide_eq_false (by have := ok.small; omega)
    have hat := c2.at_
    have hat2 := hp2.at_
    have pf : putFD ("_from" : Str) (D.dic false (dicS D.ref (mkF (names P) h.length))) [(("places" : Str), D.dic false (dicS Pl.d P)), (("ways" : Str), D.dic false (dicS Way.d W))] = [(("places" : Str), D.dic false (dicS Pl.d P)), (("ways" : Str), D.dic false (dicS Way.d W)), (("_from" : Str), D.dic false (dicS D.ref (mkF (names P) h.length)))] := rfl
    have ln : lenD (.dic false (dicS Pl.d P)) = some (.int (P.length : Nat)) := by
      show some (D.int ((dicS Pl.d P).length : Nat)) = _
      rw [len_dicS]
    generalize mkF (names P) h.length = FF at *
    generalize h ++ List.replicate P.length noC = hh at *
    generalize (names P).map D.str = dn at *
    generalize (sortS (names P)).map D.str = dsn at *
    generalize (sortS (names W)).map D.str = dsw at *
    have br : ∀ s x : Sl, bringS [.v (.ref p), s, .un] [.v (.ref p), x, .un] [1] = [.v (.ref p), keepS s, .un] := fun s x => by cases s <;> rfl
    have hp3 := hp2.at_
    unfold plC at c1 hp3
    simp (config := { decide := true }) [Bw.fnD, Bw.slots0, Bw.seqM, Bw.ifM, Bw.op2b, Bw.op2, Bw.op2c, Bw.bnd, Bw.ret, Bw.ixN', Bw.has, Bw.peek, Bw.deref, Bw.nm, Bw.setM, Bw.vM, Bw.oM, Bw.un1, Bw.drf, Bw.pk, Bw.opt, Bw.stnM, Bw.stN, Bw.stC, Bw.rtM, Bw.fldM, Bw.fldD, Bw.insOf, Bw.notB, in_dic, Bw.notInD, Bw.dget, Bw.toKey, Bw.ixC, Bw.ixM, Bw.calM, Bw.cal, Bw.metM, Bw.pick, Bw.cns, Bw.drpM, Bw.isN, Bw.andB, Bw.orB, Bw.asB, Bw.blM, m_Plant__check, b_Plant__check, cP, pa, e1p, f1, f2, f3, ln, gt_int, g1, foM, wkM, walkD, sd, l2, dcF, wipeS, br, kd, f1', stfM, hp1, pf, c1, hat, sw, c4, hp3]
  · rw [c3.len, List.length_set, List.length_append, List.length_replicate]
  · rw [c3.at_ j (fun n i hi => by have := (mkF_at _ _ hi).1; omega), set_ne (Ne.symm hj), List.getElem?_append_left hjl]
/-- Plant(places, ways) -/
theorem plant_run (ok : PlantOk P W) (hpc : h[p]? = some ⟨false, .ins "Plant" []⟩) : ∃ h', m_Plant___init__ [.ref p, .dic false (dicS Pl.d P), .dic false (dicS Way.d W)] h = .ret .non h' ∧ PlantAt h' p P W (mkF (names P) h.length) (FrP P) ∧ h'.length = h.length + P.length ∧ ∀ j, j ≠ p → j < h.length → h'[j]? = h[j]? := by
  have hpl : p < h.length := (List.getElem?_eq_some_iff.mp hpc).1
  have s1 : (h.set p ⟨false, .ins "Plant" [("places", .dic false (dicS Pl.d P))]⟩)[p]? = some ⟨false, .ins "Plant" [("places", .dic false (dicS Pl.d P))]⟩ := set_eq hpc
  have pa : PreAt (h.set p ⟨false, .ins "Plant" [("places", .dic false (dicS Pl.d P)), ("ways", .dic false (dicS Way.d W))]⟩) p P W := set_eq hpc
  obtain ⟨h', c1, c2, c3, c4⟩ := check_run ok pa
  rw [List.length_set] at c2 c3
  refine ⟨h', ?_, c2, c3, fun j hj hjl => ?_⟩
  · have pf1 : putFD ("places" : Str) (D.dic false (dicS Pl.d P)) [] = [(("places" : Str), D.dic false (dicS Pl.d P))] := rfl
    have pf2 : putFD ("ways" : Str) (D.dic false (dicS Way.d W)) [(("places" : Str), D.dic false (dicS Pl.d P))] = [(("places" : Str), D.dic false (dicS Pl.d P)), (("ways" : Str), D.dic false (dicS Way.d W))] := rfl
    have dd : ∀ es : List (D × D), dictD (.dic false es) = some (.dic false es) := fun _ => rfl
    have nl : ∀ a b : D, List.lookup ("_check" : Str) [(("places" : Str), a), ("ways", b)] = none := fun _ _ => rfl
    have pa2 : (h.set p ⟨false, .ins "Plant" [("places", .dic false (dicS Pl.d P)), ("ways", .dic false (dicS Way.d W))]⟩)[p]? = _ := pa
    simp (config := { decide := true }) [Bw.fnD, Bw.slots0, Bw.seqM, Bw.ifM, Bw.op2b, Bw.op2, Bw.op2c, Bw.bnd, Bw.ret, Bw.ixN', Bw.has, Bw.peek, Bw.deref, Bw.nm, Bw.setM, Bw.vM, Bw.oM, Bw.un1, Bw.drf, Bw.pk, Bw.opt, Bw.stnM, Bw.stN, Bw.stC, Bw.rtM, Bw.fldM, Bw.fldD, Bw.insOf, Bw.notB, in_dic, Bw.notInD, Bw.dget, Bw.toKey, Bw.ixC, Bw.ixM, Bw.calM, Bw.cal, Bw.metM, Bw.pick, Bw.cns, Bw.drpM, Bw.isN, Bw.andB, Bw.orB, Bw.asB, Bw.blM, m_Plant___init__, b_Plant___init__, stfM, hpc, cP, pf1, pf2, dd, s1, nl, lk, c1, pa2]
  · rw [c4 j hj (by rw [List.length_set]; exact hjl), set_ne (Ne.symm hj)]
end
end Law
namespace Law
open L2 Bw
open PySem (Str)
section
variable {h : Hd} {p s b t : Nat} {P : List (Str × Pl)} {W : List (Str × Way)} {F : List (Str × Nat)} {Fr : Str → List Str} {B : List (Str × List Bag)} {T : List (Str × Nat)} {sh : List Str} {n : Str} {pl : Pl}
/-! ### a state made -/
def B0 (P : List (Str × Pl)) : List (Str × List Bag) := (names P).map fun n => (n, [])
def T0 (P : List (Str × Pl)) : List (Str × Nat) := (names P).map fun n => (n, 0)
theorem PlantAt.other {h h' : Hd} (hp : PlantAt h p P W F Fr) (he : ∀ j, j < h.length → (∀ c fs, h[j]? = some ⟨false, .ins c fs⟩ → c = "Plant") → h'[j]? = h[j]?) : PlantAt h' p P W F Fr := by
  refine ⟨?_, fun n i hi => ?_⟩
  · rw [he p (List.getElem?_eq_some_iff.mp hp.at_).1 fun c fs z => by rw [hp.at_] at z; cases z; rfl]; exact hp.at_
  · have q := hp.src n i hi
    rw [he i (List.getElem?_eq_some_iff.mp q).1 fun c fs z => by rw [q] at z; cases z]; exact q
theorem state_run (hp : PlantAt h p P W F Fr) (hnd : (names P).Nodup) (hsm : P.length ≤ 300) (hsc : h[s]? = some ⟨false, .ins "State" []⟩) :
    ∃ h', m_State___init__ [.ref s, .ref p] h = .ret .non h' ∧ PlantAt h' p P W F Fr ∧ StateAt h' s p h.length (h.length + 1) (B0 P) (T0 P) [] ∧ h'.length = h.length + 2 ∧ ∀ j, j ≠ s → j < h.length → h'[j]? = h[j]? := by
  have hsl : s < h.length := (List.getElem?_eq_some_iff.mp hsc).1
  have hps : p ≠ s := by
    rintro rfl
    have := hp.at_
    rw [hsc] at this
    cases this
  have bg : (5000 : Nat) ≤ big := by decide
  have ll : (names P).length ≤ big := by rw [len_names]; omega
  have kd := keys_dicS Pl.d P
  have c1 := fun hh : Hd => dcM_run (g := bagsD) (σ := [.v (.ref s), .v (.ref p), .un]) (h := hh) (vs := [2]) (t := gnm 2) (c := x_State___init___0) (k := x_State___init___2) (e := x_State___init___1) (fun n : Str => n) (fun _ => []) D.str (names P) [] (fun d _ => ⟨_, rfl, rfl, rfl, rfl, rfl⟩) (by rw [List.length_nil, Nat.zero_add]; exact ll)
  have c2 := fun hh : Hd => dcM_run (g := fun k : Nat => D.int k) (σ := [.v (.ref s), .v (.ref p), .un]) (h := hh) (vs := [2]) (t := gnm 2) (c := x_State___init___3) (k := x_State___init___5) (e := x_State___init___4) (fun n : Str => n) (fun _ => 0) D.str (names P) [] (fun d _ => ⟨_, rfl, rfl, rfl, rfl, rfl⟩) (by rw [List.length_nil, Nat.zero_add]; exact ll)
  have nd2 : ((names P).map fun n => n).Nodup := by rw [List.map_id']; exact hnd
  rw [fold_putS _ _ _ _ nd2 (fun _ _ => rfl), List.nil_append] at c1 c2
  have e1 : dicS bagsD ([] : List (Str × List Bag)) = [] := rfl
  have e2 : dicS (fun k : Nat => D.int k) ([] : List (Str × Nat)) = [] := rfl
  rw [e1] at c1
  rw [e2] at c2
  have c1 : ∀ hh : Hd, dcM [2] (gnm 2) x_State___init___0 x_State___init___2 x_State___init___1 [] ((names P).map D.str) [.v (.ref s), .v (.ref p), .un] hh = .ok (dicS bagsD (B0 P)) [.v (.ref s), .v (.ref p), .un] hh := c1
  have c2 : ∀ hh : Hd, dcM [2] (gnm 2) x_State___init___3 x_State___init___5 x_State___init___4 [] ((names P).map D.str) [.v (.ref s), .v (.ref p), .un] hh = .ok (dicS (fun k : Nat => D.int k) (T0 P)) [.v (.ref s), .v (.ref p), .un] hh := c2
  have n1 : ∀ (c c' : Cell) (L : Hd), (h.set s c ++ L).set s c' = h.set s c' ++ L := fun c c' L => by rw [List.set_append_left _ _ (by rw [List.length_set]; exact hsl), List.set_set]
  have n2 : ∀ (c : Cell) (L : Hd), (h.set s c ++ L)[s]? = some c := fun c L => by rw [List.getElem?_append_left (by rw [List.length_set]; exact hsl), List.getElem?_set_self hsl]
  have n2' : ∀ c : Cell, (h.set s c)[s]? = some c := fun c => List.getElem?_set_self hsl
  have n3' : ∀ c : Cell, (h.set s c)[p]? = h[p]? := fun c => set_ne (Ne.symm hps)
  have n3 : ∀ (c : Cell) (L : Hd), (h.set s c ++ L)[p]? = h[p]? := fun c L => by
    rw [List.getElem?_append_left (by rw [List.length_set]; exact (List.getElem?_eq_some_iff.mp hp.at_).1)]; exact n3' c
  have pf1 : putFD ("plant" : Str) (D.ref p) [] = [(("plant" : Str), D.ref p)] := rfl
  have pf2 : ∀ x : D, putFD ("_bags" : Str) x [(("plant" : Str), D.ref p)] = [(("plant" : Str), D.ref p), (("_bags" : Str), x)] := fun _ => rfl
  have pf3 : ∀ x y : D, putFD ("_turns" : Str) x [(("plant" : Str), D.ref p), (("_bags" : Str), y)] = [(("plant" : Str), D.ref p), (("_bags" : Str), y), (("_turns" : Str), x)] := fun _ _ => rfl
  have pf4 : ∀ x y z : D, putFD ("_shut" : Str) x [(("plant" : Str), D.ref p), (("_bags" : Str), y), (("_turns" : Str), z)] = [(("plant" : Str), D.ref p), (("_bags" : Str), y), (("_turns" : Str), z), (("_shut" : Str), x)] := fun _ _ _ => rfl
  have b0 : (0 : Nat) ≤ big := by decide
  generalize hdn : (names P).map D.str = dn at *
  have stc : ∃ fs, fs = [(("plant" : Str), D.ref p), (("_bags" : Str), D.ref h.length), (("_turns" : Str), D.ref (h.length + 1)), (("_shut" : Str), D.tup [])] := ⟨_, rfl⟩
  obtain ⟨fs, hfs⟩ := stc
  refine ⟨h.set s ⟨false, .ins "State" fs⟩ ++ [bagsC (B0 P), turnsC (T0 P)], ?_, ?_, ?_, ?_, ?_⟩
  · rw [hfs]
    unfold bagsC turnsC
    simp (config := { decide := true }) [Bw.fnD, Bw.slots0, Bw.seqM, Bw.ifM, Bw.op2b, Bw.op2, Bw.op2c, Bw.bnd, Bw.ret, Bw.ixN', Bw.has, Bw.peek, Bw.deref, Bw.nm, Bw.setM, Bw.vM, Bw.oM, Bw.un1, Bw.drf, Bw.pk, Bw.opt, Bw.stnM, Bw.stN, Bw.stC, Bw.rtM, Bw.fldM, Bw.fldD, Bw.insOf, Bw.notB, in_dic, Bw.notInD, Bw.dget, Bw.toKey, Bw.ixC, Bw.ixM, Bw.calM, Bw.cal, Bw.metM, Bw.pick, Bw.cns, Bw.drpM, Bw.isN, Bw.andB, Bw.orB, Bw.asB, Bw.blM, m_State___init__, b_State___init__, stfM, hsc, cS, cP, pf1, pf2, pf3, pf4, n1, n2, n2', n3, n3', hp.at_, f1, dcF, wkM, walkD, wipeS, bringS, kd, c1, c2, newc, tupM, b0]
  · refine hp.other fun j hj hne => ?_
    rw [List.getElem?_append_left (by rw [List.length_set]; exact hj), set_ne]
    rintro rfl
    exact absurd (hne _ _ hsc) (by decide)
  · refine ⟨?_, ?_, ?_, Nat.ne_of_lt (Nat.lt_succ_self _)⟩
    · rw [n2, hfs]; rfl
    · rw [List.getElem?_append_right (by rw [List.length_set]; exact Nat.le_refl _), List.length_set, Nat.sub_self]; rfl
    · rw [List.getElem?_append_right (by rw [List.length_set]; omega), List.length_set, Nat.add_sub_cancel_left]; rfl
  · rw [List.length_append, List.length_set]; rfl
  · intro j hj hjl
    rw [List.getElem?_append_left (by rw [List.length_set]; exact hjl), set_ne (Ne.symm hj)]
/-- State(Plant(places, ways)) -/
theorem Wf.made (ok : PlantOk P W) (k : Nat) : Wf P W (mkF (names P) k) (FrP P) (B0 P) (T0 P) where
  nd := ok.nd
  small := ok.small
  bag := fun n pl hg => lookup_mem (by
    unfold B0 names
    rw [List.map_map]
    exact List.mem_map.mpr ⟨n, mem_names hg, rfl⟩)
  src := fun n pl hg => lookup_mem (by rw [mkF_names]; exact mem_names hg)
  turn := fun n pl hg => by
    refine ⟨0, ?_, Nat.zero_le _⟩
    have hm := mem_names hg
    unfold T0
    have go : ∀ l : List Str, n ∈ l → (l.map fun n => (n, 0)).lookup n = some 0 := by
      intro l
      induction l with
      | nil => intro h; cases h
      | cons m l ih =>
        intro h
        rw [List.map_cons, List.lookup_cons]
        by_cases e : n = m
        · subst e; simp
        · have q : (n == m) = false := by simpa using e
          rw [q]; exact ih ((List.mem_cons.mp h).resolve_left e)
    exact go _ hm
  ord := fun n => by
    have fl : (FrP P n).length ≤ 300 := by
      refine Nat.le_trans (List.length_filter_le _ _) ?_
      rw [(sort_perm _).length_eq, len_names]; exact ok.small
    unfold wayP
    cases hw : W.lookup n with
    | none => exact fl
    | some w =>
      show w.ord.length ≤ 300
      rw [← (sort_perm w.ord).length_eq, (ok.way n w hw).2]; exact fl
  tgt := fun n pl g t hg ht => by
    refine lookup_mem (ok.tgt n pl t hg ?_).2
    cases pl with
    | belt t' => cases ht; exact List.mem_singleton.mpr rfl
    | store k t' => cases ht; exact List.mem_singleton.mpr rfl
    | chute k => cases ht
    | switch rows t' =>
      have ht : some ((rows.lookup g).getD t') = some t := ht
      cases ht
      show _ ∈ rows.map (·.2) ++ [t']
      cases hr : rows.lookup g with
      | none => exact List.mem_append_right _ (List.mem_singleton.mpr rfl)
      | some y => exact List.mem_append_left _ (List.mem_map.mpr ⟨_, mem_lookup hr, rfl⟩)
theorem B0_lookup (hn : n ∈ names P) : (B0 P).lookup n = some [] := by
  unfold B0
  have go : ∀ l : List Str, n ∈ l → (l.map fun n => (n, ([] : List Bag))).lookup n = some [] := by
    intro l
    induction l with
    | nil => intro h; cases h
    | cons m l ih =>
      intro h
      rw [List.map_cons, List.lookup_cons]
      by_cases e : n = m
      · subst e; simp
      · have q : (n == m) = false := by simpa using e
        rw [q]; exact ih ((List.mem_cons.mp h).resolve_left e)
  exact go _ hn
theorem T0_lookup (hn : n ∈ names P) : (T0 P).lookup n = some 0 := by
  unfold T0
  have go : ∀ l : List Str, n ∈ l → (l.map fun n => (n, 0)).lookup n = some 0 := by
    intro l
    induction l with
    | nil => intro h; cases h
    | cons m l ih =>
      intro h
      rw [List.map_cons, List.lookup_cons]
      by_cases e : n = m
      · subst e; simp
      · have q : (n == m) = false := by simpa using e
        rw [q]; exact ih ((List.mem_cons.mp h).resolve_left e)
  exact go _ hn
theorem B0_mem {l : List Bag} (hl : (B0 P).lookup n = some l) : l = [] := by
  obtain ⟨m, _, e⟩ := List.mem_map.mp (mem_lookup hl)
  exact (Prod.mk.inj e).2.symm
theorem Small.made (ok : PlantOk P W) : Small (B0 P) (T0 P) 0 where
  b := by unfold B0; rw [List.length_map, len_names]; exact ok.small
  t := by unfold T0; rw [List.length_map, len_names]; exact ok.small
  l := fun n l hl => by rw [B0_mem hl]; exact Nat.le_refl _
end
end Law
namespace Law
open L2 Bw
open PySem (Str)
section
variable {h : Hd} {p s b t : Nat} {P : List (Str × Pl)} {W : List (Str × Way)} {F : List (Str × Nat)} {Fr : Str → List Str} {B : List (Str × List Bag)} {T : List (Str × Nat)} {sh : List Str} {n : Str} {pl : Pl}
/-! ### what stays well when bags change; which moves stand -/
theorem Wf.put (wf : Wf P W F Fr B T) (m : Str) (l : List Bag) : Wf P W F Fr (putS B m l) T where
  nd := wf.nd
  small := wf.small
  bag := fun n pl hg => by
    obtain ⟨l', hb⟩ := wf.bag n pl hg
    rw [putS_lookup]
    split
    · exact ⟨_, rfl⟩
    · exact ⟨l', hb⟩
  src := wf.src
  turn := wf.turn
  ord := wf.ord
  tgt := wf.tgt
theorem Small.put {k k' : Nat} (sm : Small B T k) {m : Str} {l : List Bag} (hm : ∃ l0, B.lookup m = some l0) (hl : l.length ≤ k') (hk : k ≤ k') : Small (putS B m l) T k' where
  b := by rw [putS_len _ _ _ hm]; exact sm.b
  t := sm.t
  l := fun n l' hn => by
    rw [putS_lookup] at hn
    split at hn
    · cases hn; exact hl
    · exact Nat.le_trans (sm.l n l' hn) hk
theorem allP_len {k : Nat} (sm : Small B T k) : ∀ ns : List Str, (allP B ns).length ≤ ns.length * k
  | [] => Nat.zero_le _
  | n :: ns => by
    have ih := allP_len sm ns
    have e0 : allP B (n :: ns) = (((B.lookup n).getD []).map fun c => (n, c)) ++ allP B ns := by unfold allP; rw [List.flatMap_cons]
    rw [e0, List.length_append, List.length_map, List.length_cons, Nat.succ_mul]
    have : ((B.lookup n).getD []).length ≤ k := by
      cases hb : B.lookup n with
      | none => exact Nat.zero_le _
      | some l => exact sm.l n l hb
    omega
theorem where_none {g : Str} (hb : ∀ n l, B.lookup n = some l → ∀ x ∈ l, x.1 ≠ g) (ns : List Str) : whereP (allP B ns) g = none := by
  unfold whereP
  rw [Option.map_eq_none_iff, List.find?_eq_none]
  intro x hx z
  obtain ⟨n, _, hx⟩ := List.mem_flatMap.mp hx
  obtain ⟨c, hc, rfl⟩ := List.mem_map.mp hx
  cases hl : B.lookup n with
  | none => rw [hl] at hc; cases hc
  | some l =>
    rw [hl] at hc
    exact hb n l hl c hc (by simpa using z)
/-- what holds of all bags holds after the moves -/
theorem movedB_all {mv : List (Str × Str)} {Q : Bag → Prop} (ok : MovesOk P W Fr B T sh mv) (wf : Wf P W F Fr B T) (hq : ∀ n l, B.lookup n = some l → ∀ x ∈ l, Q x) : ∀ n l, (movedB B mv).lookup n = some l → ∀ x ∈ l, Q x := by
  intro n l hl x hx
  have q : n ∈ names B := by
    have := mem_names hl
    rw [movedB_names fun e he => by
      obtain ⟨⟨p1, h1⟩, ⟨p2, h2⟩⟩ := ok.tgt wf e he
      obtain ⟨l1, b1⟩ := wf.bag _ _ h1
      obtain ⟨l2, b2⟩ := wf.bag _ _ h2
      exact ⟨mem_names b1, mem_names b2⟩] at this
    exact this
  obtain ⟨l0, hb⟩ := lookup_mem q
  rw [movedB_lookup ok.nd ok.nd2 hb] at hl
  cases hl
  unfold afterB at hx
  rcases List.mem_append.mp hx with hx | hx
  · split at hx
    · exact hq n l0 hb x (List.mem_of_mem_tail hx)
    · exact hq n l0 hb x hx
  · split at hx
    · rename_i e hf
      obtain ⟨pl, c, l1, _, h2, _⟩ := want_some (ok.el e (List.mem_of_find?_eq_some hf)).1
      rw [List.mem_singleton] at hx
      rw [hx]
      unfold headB
      rw [h2]
      exact hq e.1 _ h2 c List.mem_cons_self
    · cases hx
theorem wants_lookup {ns : List Str} (hn : ns.Nodup) {x : Str} (hm : n ∈ ns) (hw : wantP P B sh n = some x) : (wantsP P B sh ns).lookup n = some x := by
  have nd : ((wantsP P B sh ns).map (·.1)).Nodup := by rw [wants_names]; exact hn.filter _
  exact lookup_nodup nd (e := (n, x)) (List.mem_filterMap.mpr ⟨n, hm, by rw [hw]; rfl⟩)
theorem win_all (A : List (Str × Str)) (ord : Str → List Str) : ∀ (ns : List Str) (acc : List (Str × Str)), ns.Nodup → (∀ n ∈ ns, acc.lookup n = none) → ns.foldl (fun a m => addW A a m (ord m)) acc = acc ++ ns.filterMap fun m => (firstS A m (ord m)).map fun x => (m, x)
  | [], acc, _, _ => by rw [List.filterMap_nil, List.append_nil]; rfl
  | m :: ns, acc, hn, ha => by
    obtain ⟨h1, h2⟩ := List.nodup_cons.mp hn
    have a0 := ha m List.mem_cons_self
    rw [List.foldl_cons, List.filterMap_cons]
    unfold addW
    rw [a0]
    cases hf : firstS A m (ord m) with
    | none => exact win_all A ord ns acc h2 fun x hx => ha x (List.mem_cons_of_mem _ hx)
    | some y =>
      dsimp only [Option.map]
      have ih := win_all A ord ns (acc ++ [(m, y)]) h2 fun x hx => by
        rw [List.lookup_append, ha x (List.mem_cons_of_mem _ hx), List.lookup_cons]
        have : (x == m) = false := by
          rw [beq_eq_false_iff_ne]; rintro rfl; exact h1 hx
        rw [this]; rfl
      unfold addW at ih
      rw [ih, List.append_assoc]
      rfl
theorem winP_eq (A : List (Str × Str)) : winP W Fr T A = (sortS (onceS (A.map (·.2)))).filterMap fun m => (firstS A m (orderP W Fr T m)).map fun x => (m, x) := by
  unfold winP
  rw [win_all A (orderP W Fr T) _ [] ((sort_perm _).nodup_iff.mpr (once_facts _).1) fun _ _ => rfl, List.nil_append]
theorem winP_in {A : List (Str × Str)} {m x y : Str} (hA : A.lookup y = some m) (hf : firstS A m (orderP W Fr T m) = some x) : (m, x) ∈ winP W Fr T A := by
  rw [winP_eq]
  refine List.mem_filterMap.mpr ⟨m, (sort_perm _).mem_iff.mpr ((once_facts _).2 m (List.mem_map.mpr ⟨_, mem_lookup hA, rfl⟩)), ?_⟩
  rw [hf]; rfl
/-- moves that hold one another up are not taken off -/
theorem pass_keep {full : Str → Bool} {S : List (Str × Str)} (hS : ∀ e ∈ S, full e.2 = false ∨ ∃ e' ∈ S, e'.1 = e.2) : ∀ (xs : List Str) (G : List (Str × Str)) (c : Bool), (names G).Nodup → (∀ e ∈ S, e ∈ G) → ∀ e ∈ S, e ∈ (passP full xs G c).1
  | [], G, c, _, hG => hG
  | x :: xs, G, c, hn, hG => by
    unfold passP
    cases hx : G.lookup x with
    | none => exact pass_keep hS xs G c hn hG
    | some y =>
      dsimp only
      split
      · rename_i hc
        refine pass_keep hS xs (delS G x) true (hn.sublist (List.filter_sublist.map _)) fun e he => ?_
        refine List.mem_filter.mpr ⟨hG e he, ?_⟩
        rw [Bool.not_eq_true', beq_eq_false_iff_ne]
        intro z
        have h1 := lookup_nodup (l := G) hn (hG e he)
        rw [z, hx] at h1
        have hy : y = e.2 := Option.some.inj h1
        rw [Bool.and_eq_true] at hc
        rcases hS e he with h2 | ⟨e', he', h2⟩
        · rw [hy, h2] at hc; exact Bool.false_ne_true hc.1
        · have h3 := lookup_nodup (l := G) hn (hG e' he')
          rw [h2, ← hy] at h3
          rw [h3] at hc
          exact Bool.false_ne_true hc.2
      · exact pass_keep hS xs G c hn hG
theorem clean_keep {full : Str → Bool} {S : List (Str × Str)} (hS : ∀ e ∈ S, full e.2 = false ∨ ∃ e' ∈ S, e'.1 = e.2) : ∀ (k : Nat) (G : List (Str × Str)), (names G).Nodup → (∀ e ∈ S, e ∈ G) → ∀ e ∈ S, e ∈ cleanP full k G
  | 0, _, _, hG => hG
  | k + 1, G, hn, hG => by
    have h1 := pass_keep hS (sortS (names G)) G false hn hG
    have h2 := pass_sub (full := full) (sortS (names G)) G false
    unfold cleanP
    split
    · exact clean_keep hS k _ (hn.sublist (h2.map _)) h1
    · exact h1
theorem moves_keep (wf : Wf P W F Fr B T) {S : List (Str × Str)} (hS : ∀ e ∈ S, fullP P B e.2 = false ∨ ∃ e' ∈ S, e'.1 = e.2) (hW : ∀ e ∈ S, swapP e ∈ winP W Fr T (wantsP P B sh (sortS (names P)))) : ∀ e ∈ S, e ∈ movesP P W Fr B T sh := by
  have ok := win_ok (sh := sh) wf
  have w2 := win_snd ok
  unfold movesP
  dsimp only
  intro e he
  refine (sortP_perm _).mem_iff.mpr (clean_keep hS 400 _ ?_ (fun e he => List.mem_map.mpr ⟨swapP e, hW e he, rfl⟩) e he)
  unfold names
  rw [List.map_map]; exact w2
theorem find_move {mv : List (Str × Str)} (h2 : (mv.map (·.2)).Nodup) {x y : Str} (hm : (x, y) ∈ mv) : mv.find? (fun e => e.2 == y) = some (x, y) ∧ mv.filter (fun e => e.2 == y) = [(x, y)] := by
  induction mv with
  | nil => cases hm
  | cons e mv ih =>
    rw [List.map_cons, List.nodup_cons] at h2
    rw [List.find?_cons, List.filter_cons]
    rcases List.mem_cons.mp hm with rfl | hm
    · have q : ((x, y).2 == y) = true := by simp
      rw [q]
      refine ⟨rfl, ?_⟩
      have : mv.filter (fun e => e.2 == y) = [] := by
        rw [List.filter_eq_nil_iff]
        intro a ha z
        exact h2.1 (List.mem_map.mpr ⟨a, ha, by simpa using z⟩)
      rw [this]; rfl
    · have q : (e.2 == y) = false := by
        rw [beq_eq_false_iff_ne]
        intro z
        exact h2.1 (List.mem_map.mpr ⟨_, hm, z.symm⟩)
      rw [q]
      exact ih h2.2 hm
end
end Law
namespace Law
open L2 Bw
open PySem (Str)
/-! ### a letter and a number -/
def numS (i : Nat) : Str := PySem.Str.ofString (toString (i : Int))
def txt (p : Str) (i : Nat) : Str := p ++ numS i
theorem ofStr_inj {a c : String} (h : PySem.Str.ofString a = PySem.Str.ofString c) : a = c := by
  rw [PySem.Str.ofString_eq_toList, PySem.Str.ofString_eq_toList] at h
  have h1 : (a.toList.map Char.toNat).toArray = (c.toList.map Char.toNat).toArray := PySem.Str.mk.inj h
  have h2 : a.toList.map Char.toNat = c.toList.map Char.toNat := by
    have := congrArg Array.toList h1
    simpa using this
  have h3 : a.toList = c.toList := by
    refine List.map_inj_right (fun x y z => ?_) |>.mp h2
    exact Char.toNat_inj.mp z
  exact String.toList_inj.mp h3
theorem numS_inj {i j : Nat} (h : numS i = numS j) : i = j := Nat.repr_injective (ofStr_inj h)
theorem txt_inj {p : Str} {i j : Nat} (h : txt p i = txt p j) : i = j := by
  have h1 : p.cps ++ (numS i).cps = p.cps ++ (numS j).cps := PySem.Str.mk.inj h
  refine numS_inj ?_
  have : (numS i).cps = (numS j).cps := by
    have h2 := congrArg Array.toList h1
    rw [Array.toList_append, Array.toList_append] at h2
    exact Array.toList_inj.mp (List.append_cancel_left h2)
  cases h3 : numS i
  cases h4 : numS j
  rw [h3, h4] at this
  exact congrArg PySem.Str.mk this
theorem numS_len (i : Nat) : (numS i).length ≤ i + 1 := by
  unfold numS
  rw [PySem.Str.ofString_eq_toList]
  show ((toString (i : Int)).toList.map Char.toNat).toArray.size ≤ i + 1
  rw [List.size_toArray, List.length_map]
  show (Nat.repr i).toList.length ≤ i + 1
  rw [Nat.toList_repr]
  exact PySem.toDigits_len_le 10 i
theorem str_nat {i : Nat} (hi : i < 2 ^ 64) : strD (.int i) = some (.str (numS i)) := by
  show (if (i : Int).natAbs.log2 < 1920 then some (D.str (PySem.Str.ofString (toString (i : Int)))) else none) = _
  rw [Int.natAbs_natCast, if_pos]
  · rfl
  · by_cases h0 : i = 0
    · subst h0; decide
    · exact Nat.lt_of_lt_of_le ((Nat.log2_lt h0).mpr hi) (by decide)
theorem add_txt (h : Hd) (p : Str) {i : Nat} (hp : p.length + (i + 1) ≤ big) : addD h (.str p) (.str (numS i)) = some (.str (txt p i)) := by
  show (if p.length + (numS i).length ≤ big then some (D.str (p ++ numS i)) else none) = _
  rw [if_pos (by have := numS_len i; omega)]
  rfl
end Law
namespace Law
open L2 Bw

/-- the tape as the first cell -/
def tp (L : List D) (k c : Int) : Cell := ⟨false, .con (.lst [.lst L, .int k, .int c])⟩
def mixA (x k : Int) : Int := (x * 48271 + k * 69621 + 12345) % 2147483647
def mixB (x k : Int) : Int := (x * 16807 + k * 39373 + 6789) % 2147483629
theorem ix0 {α : Type} (a b c : α) : atI [a, b, c] 0 = some a := rfl
theorem ix1 {α : Type} (a b c : α) : atI [a, b, c] 1 = some b := rfl
theorem ix2 {α : Type} (a b c : α) : atI [a, b, c] 2 = some c := rfl
theorem lt_int (h : Hd) (a b : Int) : ltD h (.int a) (.int b) = some (decide (a < b)) := rfl
theorem mod_int (h : Hd) (a b : Int) : modD h (.int a) (.int b) = if 0 < b then some (.int (a % b)) else none := rfl
theorem div_int (h : Hd) (a b : Int) : divD h (.int a) (.int b) = if 0 < b ∧ b < 1073741824 then some (.int (a / b)) else none := rfl
theorem add_int (h : Hd) (a b : Int) : addD h (.int a) (.int b) = some (.int (a + b)) := rfl
theorem sub_int (h : Hd) (a b : Int) : subD h (.int a) (.int b) = some (.int (a - b)) := rfl
theorem mul_2 (h : Hd) (b : Int) : mulD h (.int (-2)) (.int b) = some (.int (-2 * b)) := by
  show (if mulOk (-2) b = true then some (D.int (-2 * b)) else none) = _
  exact if_pos (by unfold mulOk; rw [show (decide (-(2 ^ 64) < (-2 : Int)) && decide ((-2 : Int) < 2 ^ 64)) = true from rfl, Bool.true_or])
theorem mul_r {b : Int} (hb : (decide (-(2 ^ 64) < b) && decide (b < 2 ^ 64)) = true) (h : Hd) (a : Int) : mulD h (.int a) (.int b) = some (.int (a * b)) := if_pos (by unfold mulOk; rw [hb, Bool.or_true])
theorem draw_hold {L : List D} {k c n : Int} {hr : Hd} (hc : ¬ c < n) (hn : 0 < n) (hn2 : n < 1073741824) :
    m__law_draw [.ref 0, .int n] (tp L k c :: hr) = .ret (.int (c % n)) (tp L k (c / n) :: hr) := by
  simp [m__law_draw, fnD, b__law_draw, slots0, seqM, ifM, op2b, op2, bnd, Bw.ret, ixN', has, peek, deref, nm, setM, vM, un1, drf, pk, opt, tp, ixC, ix2, lt_int, hc, mod_int, hn, div_int, hn2, intD, stnM, stN, stC, putC, ixN, rtM]
/-- a fresh cell of the tape -/
def fresh (x k : Int) : Int :=
  let y := if x < 0 then -2 * x - 1 else x
  if y < 1000000000 then mixB (mixA y k) k else y
def cellAt (L : List Int) (k : Int) : Int := if k < L.length then (L[k.toNat]?).getD 0 else 0
theorem draw_new {L : List Int} {k c n : Int} {hr : Hd} (hc : c < n) (hn : 0 < n) (hn2 : n < 1073741824) (hk : 0 ≤ k) :
    m__law_draw [.ref 0, .int n] (tp (L.map D.int) k c :: hr) = .ret (.int (fresh (cellAt L k) k % n)) (tp (L.map D.int) (k + 1) (fresh (cellAt L k) k / n) :: hr) := by
  have hp : powD hr (.int 10) (.int 9) = some (.int 1000000000) := rfl
  have hl : lenD (.lst (L.map D.int)) = some (.int L.length) := by show some (D.int (L.map D.int).length) = _; simp
  by_cases h1 : k < L.length
  · have ha : atI (L.map D.int) k = some (.int (cellAt L k)) := by
      have hk2 : k.toNat < L.length := by omega
      unfold atI ixN cellAt
      rw [if_pos hk, List.length_map, if_pos h1, if_pos h1]
      simp [hk2]
    generalize cellAt L k = x at *
    by_cases h2 : x < 0
    · by_cases h3 : -2 * x - 1 < 1000000000
      · simp [m__law_draw, fnD, b__law_draw, slots0, seqM, ifM, op2b, op2, bnd, Bw.ret, ixN', has, peek, deref, nm, setM, vM, un1, drf, pk, opt, tp, ixC, ix0, ix1, ix2, lt_int, hc, mod_int, hn, div_int, hn2, intD, stnM, stN, stC, putC, ixN, rtM, hl, h1, ha, h2, h3, negM, mul_2, mul_r (b := 48271) rfl, mul_r (b := 69621) rfl, mul_r (b := 16807) rfl, mul_r (b := 39373) rfl, sub_int, add_int, powD, fresh, mixA, mixB]
      · simp [m__law_draw, fnD, b__law_draw, slots0, seqM, ifM, op2b, op2, bnd, Bw.ret, ixN', has, peek, deref, nm, setM, vM, un1, drf, pk, opt, tp, ixC, ix0, ix1, ix2, lt_int, hc, mod_int, hn, div_int, hn2, intD, stnM, stN, stC, putC, ixN, rtM, hl, h1, ha, h2, h3, negM, mul_2, mul_r (b := 48271) rfl, mul_r (b := 69621) rfl, mul_r (b := 16807) rfl, mul_r (b := 39373) rfl, sub_int, add_int, powD, fresh, mixA, mixB]
    · by_cases h3 : x < 1000000000
      · simp [m__law_draw, fnD, b__law_draw, slots0, seqM, ifM, op2b, op2, bnd, Bw.ret, ixN', has, peek, deref, nm, setM, vM, un1, drf, pk, opt, tp, ixC, ix0, ix1, ix2, lt_int, hc, mod_int, hn, div_int, hn2, intD, stnM, stN, stC, putC, ixN, rtM, hl, h1, ha, h2, h3, negM, mul_2, mul_r (b := 48271) rfl, mul_r (b := 69621) rfl, mul_r (b := 16807) rfl, mul_r (b := 39373) rfl, sub_int, add_int, powD, fresh, mixA, mixB]
      · simp [m__law_draw, fnD, b__law_draw, slots0, seqM, ifM, op2b, op2, bnd, Bw.ret, ixN', has, peek, deref, nm, setM, vM, un1, drf, pk, opt, tp, ixC, ix0, ix1, ix2, lt_int, hc, mod_int, hn, div_int, hn2, intD, stnM, stN, stC, putC, ixN, rtM, hl, h1, ha, h2, h3, negM, mul_2, mul_r (b := 48271) rfl, mul_r (b := 69621) rfl, mul_r (b := 16807) rfl, mul_r (b := 39373) rfl, sub_int, add_int, powD, fresh, mixA, mixB]
  · have hx : cellAt L k = 0 := if_neg h1
    rw [hx]
    have h2 : ¬ (0 : Int) < 0 := by decide
    have h3 : (0 : Int) < 1000000000 := by decide
    simp [m__law_draw, fnD, b__law_draw, slots0, seqM, ifM, op2b, op2, bnd, Bw.ret, ixN', has, peek, deref, nm, setM, vM, un1, drf, pk, opt, tp, ixC, ix0, ix1, ix2, lt_int, hc, mod_int, hn, div_int, hn2, intD, stnM, stN, stC, putC, ixN, rtM, hl, h1,  h2, h3, negM, mul_2, mul_r (b := 48271) rfl, mul_r (b := 69621) rfl, mul_r (b := 16807) rfl, mul_r (b := 39373) rfl, sub_int, add_int, powD, fresh, mixA, mixB]
/-- one draw -/
theorem draw (L : List Int) {k c n : Int} {hr : Hd} (hk : 0 ≤ k) (hn : 0 < n) (hn2 : n < 1073741824) :
    ∃ d k' c', 0 ≤ d ∧ d < n ∧ 0 ≤ k' ∧ m__law_draw [.ref 0, .int n] (tp (L.map D.int) k c :: hr) = .ret (.int d) (tp (L.map D.int) k' c' :: hr) := by
  by_cases hc : c < n
  · exact ⟨_, _, _, Int.emod_nonneg _ (by omega), Int.emod_lt_of_pos _ hn, by omega, draw_new hc hn hn2 hk⟩
  · exact ⟨_, _, _, Int.emod_nonneg _ (by omega), Int.emod_lt_of_pos _ hn, hk, draw_hold hc hn hn2⟩
end Law
namespace Law
open L2 Bw
open PySem (Str)
/-! ### a row put in a drawn order -/
theorem tape_run (ns : List Int) (h : Hd) : m__law_tape [.scr (ns.map D.int)] h = .ret (.ref h.length) (h ++ [tp (ns.map D.int) 0 0]) := by
  have q : listD (.scr (ns.map D.int)) = some (.lst (ns.map D.int)) := rfl
  have b3 : (3 : Nat) ≤ big := by decide
  generalize ns.map D.int = L at *
  simp (config := { decide := true }) [Bw.fnD, Bw.slots0, Bw.seqM, Bw.ifM, Bw.op2b, Bw.op2, Bw.op2c, Bw.bnd, Bw.ret, Bw.ixN', Bw.has, Bw.peek, Bw.deref, Bw.nm, Bw.setM, Bw.vM, Bw.oM, Bw.un1, Bw.drf, Bw.pk, Bw.opt, Bw.stnM, Bw.stN, Bw.stC, Bw.rtM, Bw.fldM, Bw.fldD, Bw.insOf, Bw.notB, in_dic, Bw.notInD, Bw.dget, Bw.toKey, Bw.ixC, Bw.ixM, Bw.calM, Bw.cal, Bw.metM, Bw.pick, Bw.cns, Bw.drpM, Bw.isN, Bw.andB, Bw.orB, Bw.asB, Bw.blM, m__law_tape, b__law_tape, newc, lstM, q, b3, tp]
theorem rg_run (k : Nat) (hk : k < 2 ^ 60) {m : Bw.M D} {σ σ' : List Sl} {h h' : Hd} (e : m σ h = .ok (.int k) σ' h') : rg1 m σ h = .ok ((List.range k).map fun i => D.int (i : Nat)) σ' h' := by
  have q : -(2 ^ 62 : Int) ≤ (k : Int) ∧ (k : Int) < 2 ^ 62 := by omega
  unfold rg1 bnd
  rw [e]
  dsimp only
  rw [if_pos q, Int.toNat_natCast]
  have : rngD 0 k = (List.range k).map fun i => D.int (i : Nat) := by
    unfold rngD
    simp
  rw [this]; rfl
def lotsN : Nat := 1000000
theorem lots_big : lotsN < big := by decide
theorem lots_30 : lotsN < 1073741824 := by decide
theorem erase_map {α β : Type} (f : α → β) : ∀ (l : List α) (i : Nat), (l.map f).eraseIdx i = (l.eraseIdx i).map f
  | [], _ => by simp
  | _ :: _, 0 => rfl
  | x :: l, i + 1 => by
    show f x :: (l.map f).eraseIdx i = f x :: (l.eraseIdx i).map f
    rw [erase_map f l i]
theorem pop_at {α : Type} (f : α → D) (l : List α) {i : Nat} (hi : i < l.length) (hb : l.length ≤ lotsN) : fPop (.lst (l.map f)) [.int i] = some (.lst ((l.eraseIdx i).map f), f l[i]) := by
  have bg3 := lots_30
  have q : -(2 ^ 63 : Int) ≤ (i : Int) ∧ (i : Int) < 2 ^ 63 := by omega
  unfold fPop
  dsimp only
  rw [if_pos q, ixN_nat (by rw [List.length_map]; exact hi)]
  show ((l.map f)[i]?).map (fun d => (D.lst ((l.map f).eraseIdx i), d)) = _
  rw [List.getElem?_map, List.getElem?_eq_getElem hi]
  show some (D.lst ((l.map f).eraseIdx i), f l[i]) = _
  rw [erase_map]
theorem erase_perm {α : Type} : ∀ (l : List α) (i : Nat) (hi : i < l.length), (l[i] :: l.eraseIdx i).Perm l
  | x :: l, 0, _ => by simp
  | x :: l, i + 1, hi => by
    have ih := erase_perm l i (by simpa using hi)
    show (l[i]'(by simpa using hi) :: x :: l.eraseIdx i).Perm (x :: l)
    exact (List.Perm.swap _ _ _).trans (ih.cons x)
theorem shuf_body {hh hh2 : Hd} {b1 s4 : Sl} {dr1 dr2 df1 df2 : List D} {fx : D} {nn j : Int} (ll : lenD (.lst dr1) = some (.int nn)) (dr : m__law_draw [.ref 0, .int nn] hh = .ret (.int j) hh2)
    (pa : fPop (.lst dr1) [.int j] = some (.lst dr2, fx)) (ea : fAppend (.lst df1) [fx] = some (.lst df2, .non)) :
    x__law_shuffled_0 [.v (.ref 0), b1, .own (.lst dr1), .own (.lst df1), s4] hh = .ok .nx [.v (.ref 0), b1, .own (.lst dr2), .own (.lst df2), s4] hh2 := by
  simp (config := { decide := true }) [Bw.fnD, Bw.slots0, Bw.seqM, Bw.ifM, Bw.op2b, Bw.op2, Bw.op2c, Bw.bnd, Bw.ret, Bw.ixN', Bw.has, Bw.peek, Bw.deref, Bw.nm, Bw.setM, Bw.vM, Bw.oM, Bw.un1, Bw.drf, Bw.pk, Bw.opt, Bw.stnM, Bw.stN, Bw.stC, Bw.rtM, Bw.fldM, Bw.fldD, Bw.insOf, Bw.notB, in_dic, Bw.notInD, Bw.dget, Bw.toKey, Bw.ixC, Bw.ixM, Bw.calM, Bw.cal, Bw.metM, Bw.pick, Bw.cns, Bw.drpM, Bw.isN, Bw.andB, Bw.orB, Bw.asB, Bw.blM, x__law_shuffled_0, mutnM, tyN, isTy, mutN, ll, dr, pa, ea]
theorem shuf_loop {α : Type} (f : α → D) (L : List Int) {a b1 : Sl} : ∀ (ks : List D) (rest found : List α) (k c : Int) (hr : Hd) (s4 : Sl), ks.length = rest.length → 0 ≤ k → found.length + rest.length ≤ lotsN →
    ∃ (l : List α) (s4' : Sl) (k' c' : Int), l.Perm rest ∧ 0 ≤ k' ∧ Bw.forM (gnm 4) x__law_shuffled_0 ks [.v (.ref 0), b1, .own (.lst (rest.map f)), .own (.lst (found.map f)), s4] (tp (L.map D.int) k c :: hr) =
      .ok .nx [.v (.ref 0), b1, .own (.lst []), .own (.lst ((found ++ l).map f)), s4'] (tp (L.map D.int) k' c' :: hr)
  | [], [], found, k, c, hr, s4, _, hk, _ => ⟨[], s4, k, c, List.Perm.refl _, hk, by rw [List.append_nil]; rfl⟩
  | [], _ :: _, _, _, _, _, _, hl, _, _ => by cases hl
  | d :: ks, [], _, _, _, _, _, hl, _, _ => by cases hl
  | d :: ks, x :: rest, found, k, c, hr, s4, hl, hk, hb => by
    have bg := lots_big
    have bg3 := lots_30
    obtain ⟨i, k1, c1, h0, h1, hk1, dr⟩ := draw L (k := k) (c := c) (n := ((x :: rest).length : Nat)) (hr := hr) hk (by rw [List.length_cons]; omega) (by rw [List.length_cons] at hb ⊢; omega)
    obtain ⟨j, rfl⟩ := Int.eq_ofNat_of_zero_le h0
    have hj : j < (x :: rest).length := by omega
    have pa := pop_at f (x :: rest) hj (by omega)
    have le : ((x :: rest).eraseIdx j).length = rest.length := by rw [List.length_eraseIdx_of_lt hj]; rfl
    have pm : ((x :: rest)[j] :: (x :: rest).eraseIdx j).Perm (x :: rest) := erase_perm _ _ hj
    obtain ⟨l, s4', k', c', hp, hk', e⟩ := shuf_loop f L (a := a) (b1 := b1) ks ((x :: rest).eraseIdx j) (found ++ [(x :: rest)[j]]) k1 c1 hr (.v d) (by rw [le]; simpa using hl) hk1 (by rw [le, List.length_append]; simp at hb ⊢; omega)
    refine ⟨(x :: rest)[j] :: l, s4', k', c', (hp.cons _).trans pm, hk', ?_⟩
    rw [List.append_assoc] at e
    rw [show found ++ (x :: rest)[j] :: l = found ++ ([(x :: rest)[j]] ++ l) from rfl, ← e]
    have ea : fAppend (.lst (found.map f)) [f (x :: rest)[j]] = some (.lst ((found ++ [(x :: rest)[j]]).map f), .non) := by
      show (if (found.map f).length < big then _ else _) = _
      rw [if_pos (by rw [List.length_map]; omega), List.map_append]; rfl
    have ll : lenD (.lst ((x :: rest).map f)) = some (.int ((x :: rest).length : Nat)) := by rw [len_lst, List.length_map]
    exact for_step rfl (shuf_body ll dr pa ea)
theorem fn_ret {n : Nat} {m : Bw.M Fl} {as : List D} {h h' : Hd} {d : D} {σ : List Sl} (e : m (slots0 n as) h = .ok (.rt d) σ h') : fnD n m as h = .ret d h' := by
  unfold fnD
  rw [e]
theorem seq_run {m k : Bw.M Fl} {σ σ1 : List Sl} {h h1 : Hd} {r : Bw.R Fl} (e1 : m σ h = .ok .nx σ1 h1) (e2 : k σ1 h1 = r) : seqM m k σ h = r := by
  unfold seqM
  rw [e1]
  exact e2
theorem z1 {hh : Hd} {dl : List D} : setM 2 (oM (un1 listD (pk 1))) [.v (.ref 0), .v (.lst dl), .un, .un, .un] hh = .ok .nx [.v (.ref 0), .v (.lst dl), .own (.lst dl), .un, .un] hh := by
  have q : listD (.lst dl) = some (.lst dl) := rfl
  simp (config := { decide := true }) [Bw.fnD, Bw.slots0, Bw.seqM, Bw.ifM, Bw.op2b, Bw.op2, Bw.op2c, Bw.bnd, Bw.ret, Bw.ixN', Bw.has, Bw.peek, Bw.deref, Bw.nm, Bw.setM, Bw.vM, Bw.oM, Bw.un1, Bw.drf, Bw.pk, Bw.opt, Bw.stnM, Bw.stN, Bw.stC, Bw.rtM, Bw.fldM, Bw.fldD, Bw.insOf, Bw.notB, in_dic, Bw.notInD, Bw.dget, Bw.toKey, Bw.ixC, Bw.ixM, Bw.calM, Bw.cal, Bw.metM, Bw.pick, Bw.cns, Bw.drpM, Bw.isN, Bw.andB, Bw.orB, Bw.asB, Bw.blM, q]
theorem z2 {hh : Hd} {dl : List D} : setM 3 (oM (lstM (Bw.ret []))) [.v (.ref 0), .v (.lst dl), .own (.lst dl), .un, .un] hh = .ok .nx [.v (.ref 0), .v (.lst dl), .own (.lst dl), .own (.lst []), .un] hh := rfl
theorem z3 {σ σ2 : List Sl} {hh hh2 : Hd} {ks : List D} {t : Tg D} {b : Bw.M Fl} {m : Bw.M (List D)} (r2 : m σ hh = .ok ks σ hh) (e : Bw.forM t b ks σ hh = .ok .nx σ2 hh2) : foM m t b σ hh = .ok .nx σ2 hh2 := by
  simp (config := { decide := true }) [Bw.fnD, Bw.slots0, Bw.seqM, Bw.ifM, Bw.op2b, Bw.op2, Bw.op2c, Bw.bnd, Bw.ret, Bw.ixN', Bw.has, Bw.peek, Bw.deref, Bw.nm, Bw.setM, Bw.vM, Bw.oM, Bw.un1, Bw.drf, Bw.pk, Bw.opt, Bw.stnM, Bw.stN, Bw.stC, Bw.rtM, Bw.fldM, Bw.fldD, Bw.insOf, Bw.notB, in_dic, Bw.notInD, Bw.dget, Bw.toKey, Bw.ixC, Bw.ixM, Bw.calM, Bw.cal, Bw.metM, Bw.pick, Bw.cns, Bw.drpM, Bw.isN, Bw.andB, Bw.orB, Bw.asB, Bw.blM, foM, r2, e]
theorem z4 {hh : Hd} {s4 : Sl} {dl dl2 : List D} : rtM (nm 3) [.v (.ref 0), .v (.lst dl), .own (.lst []), .own (.lst dl2), s4] hh = .ok (.rt (.lst dl2)) [.v (.ref 0), .v (.lst dl), .own (.lst []), .v (.lst dl2), s4] hh := by
  simp (config := { decide := true }) [Bw.fnD, Bw.slots0, Bw.seqM, Bw.ifM, Bw.op2b, Bw.op2, Bw.op2c, Bw.bnd, Bw.ret, Bw.ixN', Bw.has, Bw.peek, Bw.deref, Bw.nm, Bw.setM, Bw.vM, Bw.oM, Bw.un1, Bw.drf, Bw.pk, Bw.opt, Bw.stnM, Bw.stN, Bw.stC, Bw.rtM, Bw.fldM, Bw.fldD, Bw.insOf, Bw.notB, in_dic, Bw.notInD, Bw.dget, Bw.toKey, Bw.ixC, Bw.ixM, Bw.calM, Bw.cal, Bw.metM, Bw.pick, Bw.cns, Bw.drpM, Bw.isN, Bw.andB, Bw.orB, Bw.asB, Bw.blM]
theorem shuf_run {α : Type} (f : α → D) (L : List Int) (l : List α) {k c : Int} {hr : Hd} (hk : 0 ≤ k) (hl : l.length ≤ lotsN) :
    ∃ (l' : List α) (k' c' : Int), l'.Perm l ∧ 0 ≤ k' ∧ m__law_shuffled [.ref 0, .lst (l.map f)] (tp (L.map D.int) k c :: hr) = .ret (.lst (l'.map f)) (tp (L.map D.int) k' c' :: hr) := by
  obtain ⟨l', s4, k', c', hp, hk', e⟩ := shuf_loop f L (a := .un) (b1 := .v (.lst (l.map f))) ((List.range l.length).map fun i => D.int (i : Nat)) l [] k c hr .un (by rw [List.length_map, List.length_range]) hk (by simpa using hl)
  refine ⟨l', k', c', hp, hk', ?_⟩
  rw [List.nil_append, List.map_nil] at e
  have ll : lenD (.lst (l.map f)) = some (.int (l.length : Nat)) := by rw [len_lst, List.length_map]
  have bg3 := lots_30
  have r2 := rg_run (m := un1 lenD (pk 1)) (σ := [.v (.ref 0), .v (.lst (l.map f)), .own (.lst (l.map f)), .own (.lst []), .un]) (σ' := [.v (.ref 0), .v (.lst (l.map f)), .own (.lst (l.map f)), .own (.lst []), .un]) (h := tp (L.map D.int) k c :: hr) (h' := tp (L.map D.int) k c :: hr) l.length (by omega) (by simp (config := { decide := true }) [Bw.fnD, Bw.slots0, Bw.seqM, Bw.ifM, Bw.op2b, Bw.op2, Bw.op2c, Bw.bnd, Bw.ret, Bw.ixN', Bw.has, Bw.peek, Bw.deref, Bw.nm, Bw.setM, Bw.vM, Bw.oM, Bw.un1, Bw.drf, Bw.pk, Bw.opt, Bw.stnM, Bw.stN, Bw.stC, Bw.rtM, Bw.fldM, Bw.fldD, Bw.insOf, Bw.notB, in_dic, Bw.notInD, Bw.dget, Bw.toKey, Bw.ixC, Bw.ixM, Bw.calM, Bw.cal, Bw.metM, Bw.pick, Bw.cns, Bw.drpM, Bw.isN, Bw.andB, Bw.orB, Bw.asB, Bw.blM, ll])
  unfold m__law_shuffled b__law_shuffled
  exact fn_ret (seq_run z1 (seq_run z2 (seq_run (z3 r2 e) z4)))
end Law
namespace Law
open L2 Bw
open PySem (Str)
/-! ### names -/
def L26 : Str := "abcdefghijklmnopqrstuvwxyz"
def L36 : Str := "abcdefghijklmnopqrstuvwxyz0123456789"
def inS (z y : Str) : Bool := !(PySem.Builtin.Str.occurrences z y 0 z.length 1).isEmpty
def oneS (c : Nat) : Str := ⟨#[c]⟩
def isNameB (n : Str) : Bool := decide (1 ≤ n.length) && decide (n.length ≤ 20) && inS L26 (oneS (n.cps.toList.headD 0)) && n.cps.toList.all fun c => inS L36 (oneS c)
theorem add_36 (h : Hd) : addD h (.str ("abcdefghijklmnopqrstuvwxyz" : Str)) (.str ("0123456789" : Str)) = some (.str L36) := by
  show (if (("abcdefghijklmnopqrstuvwxyz" : Str)).length + (("0123456789" : Str)).length ≤ big then some (D.str (("abcdefghijklmnopqrstuvwxyz" : Str) ++ ("0123456789" : Str))) else none) = _
  have e1 : (("abcdefghijklmnopqrstuvwxyz" : Str)).length = 26 := by decide +kernel
  have e2 : (("0123456789" : Str)).length = 10 := by decide +kernel
  rw [e1, e2, if_pos (by decide)]
  have e3 : ("abcdefghijklmnopqrstuvwxyz" : Str) ++ ("0123456789" : Str) = L36 := by decide +kernel
  rw [e3]
theorem in_str (z y : Str) : inD (.str y) (.str z) = some (inS z y) := rfl
theorem is_name_run (h : Hd) (n : Str) (hl : n.length ≤ big) : m_is_name [.str n] h = .ret (.bl (isNameB n)) h := by
  have ln : lenD (.str n) = some (.int (n.length : Nat)) := if_pos hl
  have hz : n.cps.toList.length = n.length := Array.length_toList
  have sg : signs n = (n.cps.toList.map fun c => D.str (oneS c)) := rfl
  have c1 := lcM_run (σ := [.v (.str n), .un]) (h := h) (vs := [1]) (t := gnm 1) (c := x_is_name_0) (e := x_is_name_1) (fun _ => true) (fun d => match d with | .str x => .bl (inS L36 x) | d => d) (signs n) [] (fun d hd => by
    rw [sg] at hd
    obtain ⟨c, hc, rfl⟩ := List.mem_map.mp hd
    refine ⟨_, rfl, rfl, fun _ => ?_, rfl⟩
    simp (config := { decide := true }) [Bw.fnD, Bw.slots0, Bw.seqM, Bw.ifM, Bw.op2b, Bw.op2, Bw.op2c, Bw.bnd, Bw.ret, Bw.ixN', Bw.has, Bw.peek, Bw.deref, Bw.nm, Bw.setM, Bw.vM, Bw.oM, Bw.un1, Bw.drf, Bw.pk, Bw.opt, Bw.stnM, Bw.stN, Bw.stC, Bw.rtM, Bw.fldM, Bw.fldD, Bw.insOf, Bw.notB, in_dic, Bw.notInD, Bw.dget, Bw.toKey, Bw.ixC, Bw.ixM, Bw.calM, Bw.cal, Bw.metM, Bw.pick, Bw.cns, Bw.drpM, Bw.isN, Bw.andB, Bw.orB, Bw.asB, Bw.blM, x_is_name_1, add_36, in_str]) (by rw [sg, List.length_map, List.length_nil, Nat.zero_add, hz]; exact hl)
  rw [List.nil_append, List.filter_eq_self.mpr (fun _ _ => rfl), sg, List.map_map] at c1
  have e1 : (n.cps.toList.map ((fun d => match d with | .str x => .bl (inS L36 x) | d => d) ∘ fun c => D.str (oneS c))) = n.cps.toList.map fun c => D.bl (inS L36 (oneS c)) := rfl
  rw [e1] at c1
  have a4 := all_map (fun c => inS L36 (oneS c)) n.cps.toList
  have wd : walkD (.str n) = some (n.cps.toList.map fun c => D.str (oneS c)) := rfl
  unfold isNameB
  generalize n.cps.toList.map (fun c => D.str (oneS c)) = ds at *
  generalize n.cps.toList.map (fun c => D.bl (inS L36 (oneS c))) = ds2 at *
  have l26 : ("abcdefghijklmnopqrstuvwxyz" : Str) = L26 := rfl
  by_cases h1 : 1 ≤ n.length
  · by_cases h2 : n.length ≤ 20
    · have q1 : decide ((1 : Int) ≤ (n.length : Nat)) = true := decide_eq_true (by omega)
      have q2 : decide (((n.length : Nat) : Int) ≤ 20) = true := decide_eq_true (by omega)
      have q3 : ∃ c l, n.cps.toList = c :: l := by
        cases hh : n.cps.toList with
        | nil => rw [hh] at hz; simp at hz; omega
        | cons c l => exact ⟨c, l, rfl⟩
      obtain ⟨c, l, q3⟩ := q3
      have ix : ixC (.str n) (.int 0) = some (.str (oneS c)) := by
        show (if n.length ≤ big then (atI n.cps.toList 0).map fun c => D.str ⟨#[c]⟩ else none) = _
        rw [if_pos hl, q3, at0]; rfl
      have hd0 : n.cps.toList.headD 0 = c := by rw [q3]; rfl
      rw [hd0, decide_eq_true h1, decide_eq_true h2]
      unfold ixC at ix
      cases h3 : inS L26 (oneS c) with
      | false => simp (config := { decide := true }) [Bw.fnD, Bw.slots0, Bw.seqM, Bw.ifM, Bw.op2b, Bw.op2, Bw.op2c, Bw.bnd, Bw.ret, Bw.ixN', Bw.has, Bw.peek, Bw.deref, Bw.nm, Bw.setM, Bw.vM, Bw.oM, Bw.un1, Bw.drf, Bw.pk, Bw.opt, Bw.stnM, Bw.stN, Bw.stC, Bw.rtM, Bw.fldM, Bw.fldD, Bw.insOf, Bw.notB, in_dic, Bw.notInD, Bw.dget, Bw.toKey, Bw.ixC, Bw.ixM, Bw.calM, Bw.cal, Bw.metM, Bw.pick, Bw.cns, Bw.drpM, Bw.isN, Bw.andB, Bw.orB, Bw.asB, Bw.blM, m_is_name, b_is_name, chn, ln, le_int, q1, q2, ix, l26, in_str, h3]
      | true => simp (config := { decide := true }) [Bw.fnD, Bw.slots0, Bw.seqM, Bw.ifM, Bw.op2b, Bw.op2, Bw.op2c, Bw.bnd, Bw.ret, Bw.ixN', Bw.has, Bw.peek, Bw.deref, Bw.nm, Bw.setM, Bw.vM, Bw.oM, Bw.un1, Bw.drf, Bw.pk, Bw.opt, Bw.stnM, Bw.stN, Bw.stC, Bw.rtM, Bw.fldM, Bw.fldD, Bw.insOf, Bw.notB, in_dic, Bw.notInD, Bw.dget, Bw.toKey, Bw.ixC, Bw.ixM, Bw.calM, Bw.cal, Bw.metM, Bw.pick, Bw.cns, Bw.drpM, Bw.isN, Bw.andB, Bw.orB, Bw.asB, Bw.blM, m_is_name, b_is_name, chn, ln, le_int, q1, q2, ix, l26, in_str, h3, lcF, wkM, wd, wipeS, bringS, c1, a4]
    · have q1 : decide ((1 : Int) ≤ (n.length : Nat)) = true := decide_eq_true (by omega)
      have q2 : decide (((n.length : Nat) : Int) ≤ 20) = false := decide_eq_false (by omega)
      rw [decide_eq_false h2, Bool.and_false, Bool.false_and, Bool.false_and]
      simp (config := { decide := true }) [Bw.fnD, Bw.slots0, Bw.seqM, Bw.ifM, Bw.op2b, Bw.op2, Bw.op2c, Bw.bnd, Bw.ret, Bw.ixN', Bw.has, Bw.peek, Bw.deref, Bw.nm, Bw.setM, Bw.vM, Bw.oM, Bw.un1, Bw.drf, Bw.pk, Bw.opt, Bw.stnM, Bw.stN, Bw.stC, Bw.rtM, Bw.fldM, Bw.fldD, Bw.insOf, Bw.notB, in_dic, Bw.notInD, Bw.dget, Bw.toKey, Bw.ixC, Bw.ixM, Bw.calM, Bw.cal, Bw.metM, Bw.pick, Bw.cns, Bw.drpM, Bw.isN, Bw.andB, Bw.orB, Bw.asB, Bw.blM, m_is_name, b_is_name, chn, ln, le_int, q1, q2]
  · have q1 : decide ((1 : Int) ≤ (n.length : Nat)) = false := decide_eq_false (by omega)
    rw [decide_eq_false h1, Bool.false_and, Bool.false_and, Bool.false_and]
    simp (config := { decide := true }) [Bw.fnD, Bw.slots0, Bw.seqM, Bw.ifM, Bw.op2b, Bw.op2, Bw.op2c, Bw.bnd, Bw.ret, Bw.ixN', Bw.has, Bw.peek, Bw.deref, Bw.nm, Bw.setM, Bw.vM, Bw.oM, Bw.un1, Bw.drf, Bw.pk, Bw.opt, Bw.stnM, Bw.stN, Bw.stC, Bw.rtM, Bw.fldM, Bw.fldD, Bw.insOf, Bw.notB, in_dic, Bw.notInD, Bw.dget, Bw.toKey, Bw.ixC, Bw.ixM, Bw.calM, Bw.cal, Bw.metM, Bw.pick, Bw.cns, Bw.drpM, Bw.isN, Bw.andB, Bw.orB, Bw.asB, Bw.blM, m_is_name, b_is_name, chn, ln, le_int, q1]
theorem NameOk.of {n : Str} (hb : isNameB n = true) (ho : PySem.PyData.strOk n = true) : NameOk n where
  run := fun h => by
    have hl : n.length ≤ 20 := by
      unfold isNameB at hb
      rw [Bool.and_eq_true, Bool.and_eq_true, Bool.and_eq_true] at hb
      exact of_decide_eq_true hb.1.1.2
    rw [is_name_run h n (Nat.le_trans hl (by decide)), hb]
  ok := ho
end Law
namespace Law
open L2 Bw
open PySem (Str)
/-! ## k66: the plant drawn -/
abbrev jN : Str := "j"
abbrev oN : Str := "out"
def P2 : List (Str × Pl) := [(jN, .belt oN), (oN, .chute 5)]
def sN (i : Nat) : Str := txt "s" i
def kdP (d : Int) : Pl := if d = 0 then .belt jN else .store 2 jN
theorem s_len : (("s" : Str)).length = 1 := rfl
theorem law0_body {hh hh2 : Hd} {P : List (Str × Pl)} {nacc : List Str} {i : Nat} {d : Int} {s0 s2 s6 : Sl} {r : List Sl} (dr : m__law_draw [.ref 0, .int 2] hh = .ret (.int d) hh2) (hi : i < 1000) (hn : P.lookup (sN i) = none) (hP : P.length < big) (hN : nacc.length < big) :
    x_law_0 (s0 :: .v (.ref 0) :: s2 :: .own (.dic false (dicS Pl.d P)) :: .own (.lst (nacc.map D.str)) :: .v (.int i) :: s6 :: r) hh =
      .ok .nx (s0 :: .v (.ref 0) :: s2 :: .own (.dic false (dicS Pl.d (P ++ [(sN i, kdP d)]))) :: .own (.lst ((nacc ++ [sN i]).map D.str)) :: .v (.int i) :: .v (.str (sN i)) :: r) hh2 := by
  have e1 := str_nat (i := i) (by omega)
  have e2 := add_txt hh "s" (i := i) (by rw [s_len]; have : (2000 : Nat) ≤ big := by decide
                                         omega)
  have e2 : addD hh (.str "s") (.str (numS i)) = some (.str (sN i)) := e2
  have e3 : fAppend (.lst (nacc.map D.str)) [.str (sN i)] = some (.lst ((nacc ++ [sN i]).map D.str), .non) := by
    show (if (nacc.map D.str).length < big then _ else _) = _
    rw [if_pos (by rw [List.length_map]; exact hN), List.map_append]; rfl
  have e4 := dput_dicS Pl.d P (sN i) (kdP d)
  rw [putS_new _ hn] at e4
  have e5 : (dicS Pl.d P).length < big := by rw [len_dicS]; exact hP
  generalize sN i = nm0 at *
  generalize nacc.map D.str = l1 at *
  generalize (nacc ++ [nm0]).map D.str = l2 at *
  generalize dicS Pl.d (P ++ [(nm0, kdP d)]) = es2 at *
  generalize dicS Pl.d P = es at *
  have b3 : (3 : Nat) ≤ big := by decide
  have b2 : (2 : Nat) ≤ big := by decide
  by_cases hd : d = 0
  · have q : (d == 0) = true := by simpa using hd
    have q2 : (kdP d) = .belt "j" := if_pos hd
    rw [q2] at e4
    have e4 : dput false es (.str nm0) (.tup [.str "belt", .str "j"]) = some es2 := e4
    simp (config := { decide := true }) [Bw.fnD, Bw.slots0, Bw.seqM, Bw.ifM, Bw.op2b, Bw.op2, Bw.op2c, Bw.bnd, Bw.ret, Bw.ixN', Bw.has, Bw.peek, Bw.deref, Bw.nm, Bw.setM, Bw.vM, Bw.oM, Bw.un1, Bw.drf, Bw.pk, Bw.opt, Bw.stnM, Bw.stN, Bw.stC, Bw.rtM, Bw.fldM, Bw.fldD, Bw.insOf, Bw.notB, in_dic, Bw.notInD, Bw.dget, Bw.toKey, Bw.ixC, Bw.ixM, Bw.calM, Bw.cal, Bw.metM, Bw.pick, Bw.cns, Bw.drpM, Bw.isN, Bw.andB, Bw.orB, Bw.asB, Bw.blM, x_law_0, e1, e2, mutnM, tyN, isTy, mutN, e3, dr, eq_int, q, tupM, b2, b3, putC, e4, e5]
  · have q : (d == 0) = false := by simpa using hd
    have q2 : (kdP d) = .store 2 "j" := if_neg hd
    rw [q2] at e4
    have e4 : dput false es (.str nm0) (.tup [.str "store", .int 2, .str "j"]) = some es2 := e4
    simp (config := { decide := true }) [Bw.fnD, Bw.slots0, Bw.seqM, Bw.ifM, Bw.op2b, Bw.op2, Bw.op2c, Bw.bnd, Bw.ret, Bw.ixN', Bw.has, Bw.peek, Bw.deref, Bw.nm, Bw.setM, Bw.vM, Bw.oM, Bw.un1, Bw.drf, Bw.pk, Bw.opt, Bw.stnM, Bw.stN, Bw.stC, Bw.rtM, Bw.fldM, Bw.fldD, Bw.insOf, Bw.notB, in_dic, Bw.notInD, Bw.dget, Bw.toKey, Bw.ixC, Bw.ixM, Bw.calM, Bw.cal, Bw.metM, Bw.pick, Bw.cns, Bw.drpM, Bw.isN, Bw.andB, Bw.orB, Bw.asB, Bw.blM, x_law_0, e1, e2, mutnM, tyN, isTy, mutN, e3, dr, eq_int, q, tupM, b2, b3, putC, e4, e5]
theorem sN_inj {i j : Nat} (h : sN i = sN j) : i = j := txt_inj h
def KdOk (pl : Pl) : Prop := pl = .belt jN ∨ pl = .store 2 jN
theorem law0_loop (L : List Int) {s0 s2 : Sl} {r : List Sl} {hr : Hd} : ∀ (ks : List Nat) (P : List (Str × Pl)) (nacc : List Str) (k c : Int) (s5 s6 : Sl), 0 ≤ k → ks.Nodup → (∀ i ∈ ks, i < 1000 ∧ P.lookup (sN i) = none) → P.length + ks.length < 1000 → nacc.length + ks.length < 1000 →
    ∃ (Q : List (Str × Pl)) (s5' s6' : Sl) (k' c' : Int), names Q = ks.map sN ∧ (∀ e ∈ Q, KdOk e.2) ∧ 0 ≤ k' ∧
      Bw.forM (gnm 5) x_law_0 (ks.map fun i => D.int (i : Nat)) (s0 :: .v (.ref 0) :: s2 :: .own (.dic false (dicS Pl.d P)) :: .own (.lst (nacc.map D.str)) :: s5 :: s6 :: r) (tp (L.map D.int) k c :: hr) =
        .ok .nx (s0 :: .v (.ref 0) :: s2 :: .own (.dic false (dicS Pl.d (P ++ Q))) :: .own (.lst ((nacc ++ ks.map sN).map D.str)) :: s5' :: s6' :: r) (tp (L.map D.int) k' c' :: hr)
  | [], P, nacc, k, c, s5, s6, hk, _, _, _, _ => ⟨[], s5, s6, k, c, rfl, (fun _ h => nomatch h), hk, by rw [List.append_nil, List.map_nil, List.map_nil, List.append_nil]; rfl⟩
  | i :: ks, P, nacc, k, c, s5, s6, hk, hn, hi, hl1, hl2 => by
    obtain ⟨h1, h2⟩ := List.nodup_cons.mp hn
    rw [List.length_cons] at hl1 hl2
    have bg : (1000 : Nat) < big := by decide
    obtain ⟨d, k1, c1, hd0, hd1, hk1, dr⟩ := draw L (k := k) (c := c) (n := 2) (hr := hr) hk (by decide) (by decide)
    obtain ⟨hi1, hi2⟩ := hi i List.mem_cons_self
    have e1 := law0_body (s0 := s0) (s2 := s2) (s6 := s6) (r := r) (nacc := nacc) dr hi1 hi2 (by omega) (by omega)
    obtain ⟨Q, s5', s6', k', c', q1, q2, hk', e2⟩ := law0_loop L (s0 := s0) (s2 := s2) (r := r) (hr := hr) ks (P ++ [(sN i, kdP d)]) (nacc ++ [sN i]) k1 c1 (.v (.int i)) (.v (.str (sN i))) hk1 h2 (fun j hj => by
      obtain ⟨g1, g2⟩ := hi j (List.mem_cons_of_mem _ hj)
      refine ⟨g1, ?_⟩
      rw [List.lookup_append, g2, List.lookup_cons]
      have : (sN j == sN i) = false := by
        rw [beq_eq_false_iff_ne]
        intro z
        exact h1 (sN_inj z ▸ hj)
      rw [this]; rfl) (by rw [List.length_append, List.length_singleton]; omega) (by rw [List.length_append, List.length_singleton]; omega)
    refine ⟨(sN i, kdP d) :: Q, s5', s6', k', c', ?_, ?_, hk', ?_⟩
    · show sN i :: names Q = _
      rw [q1]; rfl
    · intro e he
      rcases List.mem_cons.mp he with rfl | he
      · show KdOk (kdP d)
        unfold kdP KdOk
        split
        · exact .inl rfl
        · exact .inr rfl
      · exact q2 e he
    · rw [List.append_assoc, List.append_assoc] at e2
      rw [List.map_cons, List.map_cons]
      rw [show P ++ (sN i, kdP d) :: Q = P ++ ([(sN i, kdP d)] ++ Q) from rfl, show nacc ++ sN i :: ks.map sN = nacc ++ ([sN i] ++ ks.map sN) from rfl, ← e2]
      exact for_step rfl e1
end Law
namespace Law
open L2 Bw
open PySem (Str)
theorem sort_sorted (l : List Str) : (sortS l).Pairwise fun a c => leS a c = true := by
  unfold sortS
  rw [isort_eq leS_tr leS_to]
  exact List.pairwise_mergeSort leS_tr leS_to l
theorem sort_uniq {a c : List Str} (p : a.Perm c) : sortS a = sortS c := by
  refine List.Perm.eq_of_pairwise (le := fun a b => leS a b = true) (fun a b _ _ => leS_an a b) (sort_sorted a) (sort_sorted c) (((sort_perm a).trans p).trans (sort_perm c).symm)
theorem sort_filter (f : Str → Bool) (l : List Str) : (sortS l).filter f = sortS (l.filter f) := by
  refine List.Perm.eq_of_pairwise (le := fun a b => leS a b = true) (fun a b _ _ => leS_an a b) ((sort_sorted l).filter _) (sort_sorted _) (((sort_perm l).filter f).trans (sort_perm _).symm)
/-! ## k66: the plant's picture -/
structure Ev (P : List (Str × Pl)) (ns : List Str) : Prop where
  nm : names P = jN :: oN :: ns
  nd : (jN :: oN :: ns).Nodup
  j : P.lookup jN = some (.belt oN)
  out : P.lookup oN = some (.chute 5)
  src : ∀ n ∈ ns, ∃ pl, P.lookup n = some pl ∧ KdOk pl
  all : ∀ n pl, P.lookup n = some pl → (n = jN ∧ pl = .belt oN) ∨ (n = oN ∧ pl = .chute 5) ∨ (n ∈ ns ∧ KdOk pl)
  len : ns.length ≤ 4
  ne : ns ≠ []
  ok : ∀ n ∈ names P, NameOk n
theorem sub4 {m : Nat} (hm : m ≤ 4) : ((List.range m).map sN).Sublist ((List.range 4).map sN) := by
  refine List.Sublist.map _ ?_
  have : m = 0 ∨ m = 1 ∨ m = 2 ∨ m = 3 ∨ m = 4 := by omega
  rcases this with rfl | rfl | rfl | rfl | rfl <;> decide
theorem nd4 : ((jN :: oN :: (List.range 4).map sN)).Nodup := by decide +kernel
theorem ok4 : ∀ n ∈ (jN :: oN :: (List.range 4).map sN), isNameB n = true ∧ PySem.PyData.strOk n = true := by decide +kernel
theorem jout : (jN == oN) = false := by decide +kernel
theorem outj : (oN == jN) = false := by decide +kernel
theorem ev_of {Q : List (Str × Pl)} {m : Nat} (hm : m ≤ 4) (h0 : 0 < m) (hq : names Q = (List.range m).map sN) (hk : ∀ e ∈ Q, KdOk e.2) : Ev (P2 ++ Q) ((List.range m).map sN) := by
  have nd : (jN :: oN :: (List.range m).map sN).Nodup := nd4.sublist (((sub4 hm).cons_cons _).cons_cons _)
  obtain ⟨n1, n2⟩ := List.nodup_cons.mp nd
  obtain ⟨n3, n4⟩ := List.nodup_cons.mp n2
  have nm : names (P2 ++ Q) = jN :: oN :: (List.range m).map sN := by
    rw [← hq]; rfl
  have lq : ∀ n, n ∈ (List.range m).map sN → (P2 ++ Q).lookup n = Q.lookup n := fun n hn => by
    have q1 : (n == jN) = false := by
      rw [beq_eq_false_iff_ne]; rintro rfl; exact n1 (List.mem_cons_of_mem _ hn)
    have q2 : (n == oN) = false := by
      rw [beq_eq_false_iff_ne]; rintro rfl; exact n3 hn
    show List.lookup n ((jN, Pl.belt oN) :: (oN, Pl.chute 5) :: Q) = _
    rw [List.lookup_cons, q1, List.lookup_cons, q2]
  have src : ∀ n ∈ (List.range m).map sN, ∃ pl, (P2 ++ Q).lookup n = some pl ∧ KdOk pl := fun n hn => by
    obtain ⟨pl, hp⟩ := lookup_mem (hq ▸ hn : n ∈ names Q)
    exact ⟨pl, by rw [lq n hn]; exact hp, hk _ (mem_lookup hp)⟩
  have lj : (P2 ++ Q).lookup jN = some (.belt oN) := by
    show List.lookup jN ((jN, Pl.belt oN) :: (oN, Pl.chute 5) :: Q) = _
    rw [List.lookup_cons, beq_self_eq_true]
  have lo : (P2 ++ Q).lookup oN = some (.chute 5) := by
    show List.lookup oN ((jN, Pl.belt oN) :: (oN, Pl.chute 5) :: Q) = _
    rw [List.lookup_cons, outj, List.lookup_cons, beq_self_eq_true]
  refine ⟨nm, nd, lj, lo, src, fun n pl hg => ?_, by rw [List.length_map, List.length_range]; exact hm, fun z => ?_, fun n hn => ?_⟩
  · have := mem_names hg
    rw [nm] at this
    rcases List.mem_cons.mp this with rfl | this
    · rw [lj] at hg; cases hg; exact .inl ⟨rfl, rfl⟩
    · rcases List.mem_cons.mp this with rfl | this
      · rw [lo] at hg; cases hg; exact .inr (.inl ⟨rfl, rfl⟩)
      · obtain ⟨pl', h1, h2⟩ := src n this
        rw [h1] at hg; cases hg
        exact .inr (.inr ⟨this, h2⟩)
  · have := congrArg List.length z
    rw [List.length_map, List.length_range, List.length_nil] at this
    omega
  · rw [nm] at hn
    have := ok4 n (((((sub4 hm).cons_cons _).cons_cons _).subset hn))
    exact NameOk.of this.1 this.2
variable {P : List (Str × Pl)} {ns : List Str}
def Wy (tr : Bool) (order : List Str) : List (Str × Way) := [(jN, ⟨tr, order⟩)]
theorem Ev.fr (ev : Ev P ns) : FrP P jN = sortS ns := by
  obtain ⟨n1, n2⟩ := List.nodup_cons.mp ev.nd
  obtain ⟨n3, n4⟩ := List.nodup_cons.mp n2
  have e : FrP P jN = (sortS (names P)).filter (tgP P jN) := rfl
  rw [e, sort_filter, ev.nm]
  congr 1
  have t1 : tgP P jN jN = false := by
    unfold tgP; rw [ev.j]
    show List.contains [oN] jN = false
    decide +kernel
  have t2 : tgP P jN oN = false := by
    unfold tgP; rw [ev.out]; rfl
  rw [List.filter_cons, t1, List.filter_cons, t2]
  refine List.filter_eq_self.mpr fun n hn => ?_
  obtain ⟨pl, h1, h2⟩ := ev.src n hn
  unfold tgP; rw [h1]
  rcases h2 with rfl | rfl
  · show List.contains [jN] jN = true
    decide +kernel
  · show List.contains [jN] jN = true
    decide +kernel
theorem Ev.plen (ev : Ev P ns) : P.length ≤ 6 := by
  rw [← len_names, ev.nm, List.length_cons, List.length_cons]
  have := ev.len
  omega
theorem Ev.plantOk (ev : Ev P ns) {tr : Bool} {order : List Str} (ho : order.Perm ns) : PlantOk P (Wy tr order) where
  nd := by rw [ev.nm]; exact ev.nd
  small := Nat.le_trans ev.plen (by decide)
  name := ev.ok
  fits := fun n pl hg => by
    rcases ev.all n pl hg with ⟨_, rfl⟩ | ⟨_, rfl⟩ | ⟨_, rfl | rfl⟩
    · exact trivial
    · exact ⟨by decide, by decide⟩
    · exact trivial
    · exact ⟨by decide, by decide⟩
  tgt := fun n pl t hg ht => by
    obtain ⟨n1, n2⟩ := List.nodup_cons.mp ev.nd
    rw [ev.nm]
    rcases ev.all n pl hg with ⟨rfl, rfl⟩ | ⟨rfl, rfl⟩ | ⟨hn, hk⟩
    · cases List.mem_singleton.mp ht
      exact ⟨fun z => n1 (z ▸ List.mem_cons_self), List.mem_cons_of_mem _ List.mem_cons_self⟩
    · cases ht
    · have : t = jN := by rcases hk with rfl | rfl <;> exact List.mem_singleton.mp ht
      subst this
      exact ⟨fun z => n1 (List.mem_cons_of_mem _ (z ▸ hn)), List.mem_cons_self⟩
  few := fun n pl hg => by
    rcases ev.all n pl hg with ⟨_, rfl⟩ | ⟨_, rfl⟩ | ⟨_, rfl | rfl⟩ <;> decide
  wsmall := (by decide : 1 ≤ 300)
  way := fun n w hw => by
    unfold Wy at hw
    rw [List.lookup_cons] at hw
    by_cases h : n = jN
    · subst h
      simp at hw
      subst hw
      exact ⟨by rw [ev.nm]; exact List.mem_cons_self, by rw [ev.fr]; exact sort_uniq ho⟩
    · have q : (n == jN) = false := by simpa using h
      rw [q] at hw
      cases hw
end Law
namespace Law
open L2 Bw
open PySem (Str)
variable {h : Hd} {p s b t : Nat} {P : List (Str × Pl)} {F : List (Str × Nat)} {B : List (Str × List Bag)} {T : List (Str × Nat)} {ns order : List Str} {tr : Bool}
/-! ## k66: one turn -/
structure Inv (h : Hd) (p s b t : Nat) (P : List (Str × Pl)) (order : List Str) (tr : Bool) (F : List (Str × Nat)) (B : List (Str × List Bag)) (T : List (Str × Nat)) (num k : Nat) : Prop where
  hp : PlantAt h p P (Wy tr order) F (FrP P)
  hs : StateAt h s p b t B T []
  wf : Wf P (Wy tr order) F (FrP P) B T
  sm : Small B T k
  tag : ∀ n l, B.lookup n = some l → ∀ x ∈ l, ∃ i, i < num ∧ x.1 = txt "b" i
theorem room1 {pl : Pl} (hk : KdOk pl) : 1 ≤ pl.room := by rcases hk with rfl | rfl <;> decide
theorem put_one (ev : Ev P ns) {n : Str} (hn : n ∈ ns) {num k : Nat} (iv : Inv h p s b t P order tr F B T num k) (hk : k < 1000) (hnum : num < 1000) {s0 s1 s2 s3 s4 s5 s7 s8 s10 s12 s13 s14 : Sl} :
    ∃ (h' : Hd) (B' : List (Str × List Bag)) (num' : Nat), x_law_1 [s0, s1, s2, s3, s4, s5, .v (.str n), s7, s8, .v (.ref s), s10, .v (.int num), s12, s13, s14] h = .ok .nx [s0, s1, s2, s3, s4, s5, .v (.str n), s7, s8, .v (.ref s), s10, .v (.int num'), s12, s13, s14] h' ∧
      Inv h' p s b t P order tr F B' T num' (k + 1) ∧ num' ≤ num + 1 ∧ (∃ c l, B'.lookup n = some (c :: l)) ∧ ∀ m, m ≠ n → B'.lookup m = B.lookup m := by
  obtain ⟨pl, hg, hk2⟩ := ev.src n hn
  obtain ⟨l, hb⟩ := iv.wf.bag n pl hg
  have a1 := full_run iv.hp iv.hs hg hb
  have e4 : ∀ a b c d : D, List.lookup ("is_full" : Str) [(("plant" : Str), a), ("_bags", b), ("_turns", c), ("_shut", d)] = none := fun _ _ _ _ => rfl
  have e5 : ∀ a b c d : D, List.lookup ("put" : Str) [(("plant" : Str), a), ("_bags", b), ("_turns", c), ("_shut", d)] = none := fun _ _ _ _ => rfl
  have hsat := iv.hs.at_
  have bg : (20000 : Nat) < big := by decide
  by_cases hf : pl.room ≤ l.length
  · rw [decide_eq_true hf] at a1
    refine ⟨h, B, num, ?_, ⟨iv.hp, iv.hs, iv.wf, ⟨iv.sm.b, iv.sm.t, fun n l hl => Nat.le_succ_of_le (iv.sm.l n l hl)⟩, iv.tag⟩, Nat.le_succ _, ?_, fun _ _ => rfl⟩
    · simp (config := { decide := true }) [Bw.fnD, Bw.slots0, Bw.seqM, Bw.ifM, Bw.op2b, Bw.op2, Bw.op2c, Bw.bnd, Bw.ret, Bw.ixN', Bw.has, Bw.peek, Bw.deref, Bw.nm, Bw.setM, Bw.vM, Bw.oM, Bw.un1, Bw.drf, Bw.pk, Bw.opt, Bw.stnM, Bw.stN, Bw.stC, Bw.rtM, Bw.fldM, Bw.fldD, Bw.insOf, Bw.notB, in_dic, Bw.notInD, Bw.dget, Bw.toKey, Bw.ixC, Bw.ixM, Bw.calM, Bw.cal, Bw.metM, Bw.pick, Bw.cns, Bw.drpM, Bw.isN, Bw.andB, Bw.orB, Bw.asB, Bw.blM, x_law_1, hsat, cS, a1, lk, e4]
    · have := room1 hk2
      cases l with
      | nil => simp at hf; omega
      | cons c l => exact ⟨c, l, hb⟩
  · rw [decide_eq_false hf] at a1
    have sl := allP_len iv.sm (sortS (names P))
    have ll : (sortS (names P)).length ≤ 6 := by rw [(sort_perm _).length_eq, len_names]; exact ev.plen
    have hall : (allP B (sortS (names P))).length ≤ big := by
      have : (sortS (names P)).length * k ≤ 6 * 1000 := Nat.mul_le_mul ll (by omega)
      omega
    have lb := iv.sm.l n l hb
    have sb := iv.sm.b
    have a2 := put_run (g := txt "b" num) (z := "x") iv.wf iv.hp iv.hs hall hg hb (by omega) (where_none (fun m l' hm x hx z => by
      obtain ⟨i, hi, hx2⟩ := iv.tag m l' hm x hx
      rw [hx2] at z
      have := txt_inj z
      omega) _) (by omega) (by omega)
    have e1 := str_nat (i := num) (by omega)
    have sbl : (("b" : Str)).length = 1 := rfl
    have e2 := add_txt h "b" (i := num) (by rw [sbl]; omega)
    refine ⟨h.set b (bagsC (putS B n (l ++ [((txt "b" num, ("x" : Str)) : Bag)]))), putS B n (l ++ [((txt "b" num, ("x" : Str)) : Bag)]), num + 1, ?_, ⟨iv.hp.setC iv.hs.bags _, iv.hs.setB _, iv.wf.put _ _, iv.sm.put ⟨l, hb⟩ (by rw [List.length_append, List.length_singleton]; omega) (Nat.le_succ _), ?_⟩, Nat.le_refl _, ?_, fun m hm => by rw [putS_lookup, if_neg hm]⟩
    · have ai : ∀ (h : Hd) (a c : Int), addD h (.int a) (.int c) = some (.int (a + c)) := fun _ _ _ => rfl
      simp (config := { decide := true }) [Bw.fnD, Bw.slots0, Bw.seqM, Bw.ifM, Bw.op2b, Bw.op2, Bw.op2c, Bw.bnd, Bw.ret, Bw.ixN', Bw.has, Bw.peek, Bw.deref, Bw.nm, Bw.setM, Bw.vM, Bw.oM, Bw.un1, Bw.drf, Bw.pk, Bw.opt, Bw.stnM, Bw.stN, Bw.stC, Bw.rtM, Bw.fldM, Bw.fldD, Bw.insOf, Bw.notB, in_dic, Bw.notInD, Bw.dget, Bw.toKey, Bw.ixC, Bw.ixM, Bw.calM, Bw.cal, Bw.metM, Bw.pick, Bw.cns, Bw.drpM, Bw.isN, Bw.andB, Bw.orB, Bw.asB, Bw.blM, x_law_1, hsat, cS, a1, a2, lk, e4, e5, e1, e2, ai]
    · intro m l' hm x hx
      rw [putS_lookup] at hm
      split at hm
      · cases hm
        rcases List.mem_append.mp hx with hx | hx
        · obtain ⟨i, hi, e⟩ := iv.tag n l hb x hx
          exact ⟨i, by omega, e⟩
        · rw [List.mem_singleton.mp hx]
          exact ⟨num, Nat.lt_succ_self _, rfl⟩
      · obtain ⟨i, hi, e⟩ := iv.tag m l' hm x hx
        exact ⟨i, by omega, e⟩
    · rw [putS_lookup, if_pos rfl]
      cases l with
      | nil => exact ⟨_, _, rfl⟩
      | cons c l => exact ⟨c, _, rfl⟩
theorem put_all (ev : Ev P ns) {s0 s1 s2 s3 s4 s5 s7 s8 s10 s12 s13 s14 : Sl} : ∀ (rest : List Str) (h : Hd) (B : List (Str × List Bag)) (num k : Nat) (s6 : Sl), (∀ n ∈ rest, n ∈ ns) → rest.Nodup → Inv h p s b t P order tr F B T num k → k + rest.length < 1000 → num + rest.length < 1000 →
    ∃ (h' : Hd) (B' : List (Str × List Bag)) (num' : Nat) (s6' : Sl), Bw.forM (gnm 6) x_law_1 (rest.map D.str) [s0, s1, s2, s3, s4, s5, s6, s7, s8, .v (.ref s), s10, .v (.int num), s12, s13, s14] h = .ok .nx [s0, s1, s2, s3, s4, s5, s6', s7, s8, .v (.ref s), s10, .v (.int num'), s12, s13, s14] h' ∧
      Inv h' p s b t P order tr F B' T num' (k + rest.length) ∧ num' ≤ num + rest.length ∧ (∀ n ∈ rest, ∃ c l, B'.lookup n = some (c :: l)) ∧ ∀ m, m ∉ rest → B'.lookup m = B.lookup m
  | [], h, B, num, k, s6, _, _, iv, _, _ => ⟨h, B, num, s6, rfl, iv, Nat.le_refl _, (fun _ h => nomatch h), fun _ _ => rfl⟩
  | n :: rest, h, B, num, k, s6, hr, hnd, iv, hk, hnum => by
    rw [List.length_cons] at hk hnum
    obtain ⟨g1, g2⟩ := List.nodup_cons.mp hnd
    obtain ⟨h1, B1, n1, c1, c2, c3, c4, c5⟩ := put_one ev (hr n List.mem_cons_self) iv (by omega) (by omega) (s0 := s0) (s1 := s1) (s2 := s2) (s3 := s3) (s4 := s4) (s5 := s5) (s7 := s7) (s8 := s8) (s10 := s10) (s12 := s12) (s13 := s13) (s14 := s14)
    obtain ⟨h2, B2, n2, q6, d1, d2, d3, d4, d5⟩ := put_all ev rest h1 B1 n1 (k + 1) (.v (.str n)) (fun m hm => hr m (List.mem_cons_of_mem _ hm)) g2 c2 (by omega) (by omega) (s0 := s0) (s1 := s1) (s2 := s2) (s3 := s3) (s4 := s4) (s5 := s5) (s7 := s7) (s8 := s8) (s10 := s10) (s12 := s12) (s13 := s13) (s14 := s14)
    refine ⟨h2, B2, n2, q6, ?_, ?_, by rw [List.length_cons]; omega, ?_, ?_⟩
    · rw [List.map_cons, ← d1]
      exact for_step rfl c1
    · rw [List.length_cons]
      have : k + 1 + rest.length = k + (rest.length + 1) := by omega
      rw [← this]; exact d2
    · intro m hm
      rcases List.mem_cons.mp hm with rfl | hm
      · rw [d5 _ g1]; exact c4
      · exact d4 m hm
    · intro m hm
      rw [d5 m (fun z => hm (List.mem_cons_of_mem _ z)), c5 m (fun z => hm (z ▸ List.mem_cons_self))]
end Law
namespace Law
open L2 Bw
open PySem (Str)
variable {h : Hd} {p s b t : Nat} {P : List (Str × Pl)} {F : List (Str × Nat)} {B : List (Str × List Bag)} {T : List (Str × Nat)} {ns order : List Str} {tr : Bool}
theorem tgt_src {pl : Pl} (hk : KdOk pl) (g : Str) : pl.target g = some jN := by rcases hk with rfl | rfl <;> rfl
theorem want_src (ev : Ev P ns) {n : Str} (hn : n ∈ ns) {c : Bag} {l : List Bag} (hb : B.lookup n = some (c :: l)) : wantP P B [] n = some jN := by
  obtain ⟨pl, hg, hk⟩ := ev.src n hn
  unfold wantP
  rw [hg, hb]
  show (pl.target c.2).filter _ = _
  rw [tgt_src hk]; rfl
theorem want_j (ev : Ev P ns) {c : Bag} {l : List Bag} (hb : B.lookup jN = some (c :: l)) : wantP P B [] jN = some oN := by
  unfold wantP
  rw [ev.j, hb]; rfl
theorem way_j : wayP (Wy tr order) (FrP P) jN = ⟨tr, order⟩ := by
  unfold wayP Wy
  rw [List.lookup_cons, beq_self_eq_true]; rfl
theorem way_o : wayP (Wy tr order) (FrP P) oN = ⟨false, FrP P oN⟩ := by
  unfold wayP Wy
  rw [List.lookup_cons, outj]; rfl
/-- the first in the order at the join -/
def hdP (order : List Str) (tr : Bool) (k : Nat) : Str := order.getD (if tr = true then k else 0) jN
theorem order_j (ho : order ≠ []) {k : Nat} (hT : T.lookup jN = some k) (hk : k < order.length) : ∃ rest, orderP (Wy tr order) (FrP P) T jN = hdP order tr k :: rest := by
  unfold orderP hdP
  rw [way_j, hT]
  cases tr with
  | false =>
    cases order with
    | nil => exact absurd rfl ho
    | cons a l => exact ⟨l, rfl⟩
  | true =>
    show ∃ rest, rot order k = _
    unfold rot
    have e : order.drop k = order[k] :: order.drop (k + 1) := List.drop_eq_getElem_cons hk
    refine ⟨order.drop (k + 1) ++ order.take k, ?_⟩
    rw [e, if_pos rfl, List.getD_eq_getElem?_getD, List.getElem?_eq_getElem hk]
    rfl
theorem hd_mem (ho : order ≠ []) {k : Nat} (hk : k < order.length) : hdP order tr k ∈ order := by
  unfold hdP
  have h0 : (if tr = true then k else 0) < order.length := by
    split
    · exact hk
    · exact List.length_pos_iff.mpr ho
  rw [List.getD_eq_getElem?_getD, List.getElem?_eq_getElem h0]
  exact List.getElem_mem h0
/-- the moves of a turn -/
theorem turn_moves (ev : Ev P ns) (ho : order.Perm ns) {num k0 : Nat} (iv : Inv h p s b t P order tr F B T num k0) (hsrc : ∀ n ∈ ns, ∃ c l, B.lookup n = some (c :: l)) {lj : List Bag} (hj : B.lookup jN = some lj) (hlj : lj.length ≤ 1) (hob : B.lookup oN = some [])
    {k : Nat} (hT : T.lookup jN = some k) (hk : k < order.length) :
    (hdP order tr k, jN) ∈ movesP P (Wy tr order) (FrP P) B T [] ∧ (lj ≠ [] → (jN, oN) ∈ movesP P (Wy tr order) (FrP P) B T []) := by
  have hne : order ≠ [] := fun z => by rw [z] at hk; exact Nat.not_lt_zero _ hk
  obtain ⟨rest, ord⟩ := order_j (P := P) (tr := tr) hne hT hk
  have hm := hd_mem (tr := tr) hne hk
  generalize hdP order tr k = hd at *
  have hns : hd ∈ ns := ho.mem_iff.mp hm
  have sp := sort_perm (names P)
  have snd : (sortS (names P)).Nodup := sp.nodup_iff.mpr iv.wf.nd
  obtain ⟨c, l, hb⟩ := hsrc hd hns
  have hP : hd ∈ names P := by rw [ev.nm]; exact List.mem_cons_of_mem _ (List.mem_cons_of_mem _ hns)
  have w1 := wants_lookup snd (sp.mem_iff.mpr hP) (want_src ev hns hb)
  have f1 : firstS (wantsP P B [] (sortS (names P))) jN (orderP (Wy tr order) (FrP P) T jN) = some hd := by
    unfold firstS
    rw [ord, List.find?_cons, w1]
    simp
  have c1 := winP_in w1 f1
  cases lj with
  | nil =>
    refine ⟨?_, fun z => absurd rfl z⟩
    refine moves_keep iv.wf (S := [(hd, jN)]) (fun e he => ?_) (fun e he => ?_) _ (List.mem_singleton.mpr rfl)
    · rw [List.mem_singleton.mp he]
      left
      unfold fullP
      rw [ev.j, hj]; rfl
    · rw [List.mem_singleton.mp he]; exact c1
  | cons cj lj =>
    have hjP : jN ∈ names P := by rw [ev.nm]; exact List.mem_cons_self
    have w2 := wants_lookup snd (sp.mem_iff.mpr hjP) (want_j ev hj)
    have f2 : firstS (wantsP P B [] (sortS (names P))) oN (orderP (Wy tr order) (FrP P) T oN) = some jN := by
      have oo : orderP (Wy tr order) (FrP P) T oN = FrP P oN := by
        unfold orderP
        rw [way_o]; rfl
      have hin : jN ∈ FrP P oN := by
        have t1 : tgP P oN jN = true := by
          unfold tgP; rw [ev.j]
          show List.contains [oN] oN = true
          decide +kernel
        exact List.mem_filter.mpr ⟨sp.mem_iff.mpr hjP, t1⟩
      rw [oo]
      unfold firstS
      cases hf : (FrP P oN).find? (fun x => (wantsP P B [] (sortS (names P))).lookup x == some oN) with
      | none =>
        exfalso
        have := List.find?_eq_none.mp hf jN hin
        rw [w2] at this
        simp at this
      | some x =>
        have hx := List.find?_some hf
        have hx : (wantsP P B [] (sortS (names P))).lookup x = some oN := by simpa using hx
        obtain ⟨pl, c2, l2, g1, g2, g3⟩ := want_some (want_at snd hx).1
        rcases ev.all x pl g1 with ⟨rfl, rfl⟩ | ⟨rfl, rfl⟩ | ⟨g4, g5⟩
        · rfl
        · cases g3
        · rw [tgt_src g5] at g3
          exact absurd (Option.some.inj g3) (by decide +kernel)
    have c2 := winP_in w2 f2
    have key := moves_keep (sh := []) iv.wf (S := [(hd, jN), (jN, oN)]) (fun e he => ?_) (fun e he => ?_)
    · exact ⟨key _ List.mem_cons_self, fun _ => key _ (List.mem_cons_of_mem _ List.mem_cons_self)⟩
    · rcases List.mem_cons.mp he with rfl | he
      · exact .inr ⟨(jN, oN), List.mem_cons_of_mem _ List.mem_cons_self, rfl⟩
      · rw [List.mem_singleton.mp he]
        left
        unfold fullP
        rw [ev.out, hob]; rfl
    · rcases List.mem_cons.mp he with rfl | he
      · exact c1
      · rw [List.mem_singleton.mp he]; exact c2
end Law
namespace Law
open L2 Bw
open PySem (Str)
variable {h : Hd} {p s b t : Nat} {P : List (Str × Pl)} {F : List (Str × Nat)} {B : List (Str × List Bag)} {T : List (Str × Nat)} {ns order : List Str} {tr : Bool}
theorem idx_get : ∀ (l : List Str) (k : Nat) (hk : k < l.length), l.Nodup → l.idxOf l[k] = k
  | a :: l, 0, _, _ => by
    rw [List.idxOf_cons]
    simp
  | a :: l, k + 1, hk, hn => by
    obtain ⟨h1, h2⟩ := List.nodup_cons.mp hn
    have hk' : k < l.length := by rw [List.length_cons] at hk; omega
    rw [List.idxOf_cons]
    rw [List.getElem_cons_succ]
    have q : (a == l[k]) = false := by
      rw [beq_eq_false_iff_ne]
      intro z
      exact h1 (z ▸ List.getElem_mem hk')
    rw [q, cond_false, idx_get l k hk' h2]
def isJ : D → Bool
  | .tup [.str _, .str y] => y == jN
  | _ => false
def fstD : D → D
  | .tup [x, _] => x
  | d => d
theorem comp_j {σ : List Sl} {s0 s1 s2 s3 s4 s5 s6 s7 s8 s9 s10 s11 s12 : Sl} {h : Hd} (mv : List (Str × Str)) (hl : mv.length ≤ big) :
    lcM [13, 14] (Bw.gtup 2 (gcns (gnm 13) (gcns (gnm 14) gnil))) x_law_2 x_law_3 [] (mv.map pairD) [s0, s1, s2, s3, s4, s5, s6, s7, s8, s9, s10, s11, s12, .un, .un] h =
      .ok (((mv.filter fun e => e.2 == jN).map (·.1)).map D.str) [s0, s1, s2, s3, s4, s5, s6, s7, s8, s9, s10, s11, s12, .un, .un] h := by
  have c1 := lcM_run (σ := [s0, s1, s2, s3, s4, s5, s6, s7, s8, s9, s10, s11, s12, .un, .un]) (h := h) (vs := [13, 14]) (t := Bw.gtup 2 (gcns (gnm 13) (gcns (gnm 14) gnil))) (c := x_law_2) (e := x_law_3) isJ fstD (mv.map pairD) [] (fun d hd => by
    obtain ⟨e, he, rfl⟩ := List.mem_map.mp hd
    refine ⟨_, rfl, ?_, fun _ => rfl, rfl⟩
    show x_law_2 _ h = R.ok (e.2 == jN) _ h
    simp (config := { decide := true }) [Bw.fnD, Bw.slots0, Bw.seqM, Bw.ifM, Bw.op2b, Bw.op2, Bw.op2c, Bw.bnd, Bw.ret, Bw.ixN', Bw.has, Bw.peek, Bw.deref, Bw.nm, Bw.setM, Bw.vM, Bw.oM, Bw.un1, Bw.drf, Bw.pk, Bw.opt, Bw.stnM, Bw.stN, Bw.stC, Bw.rtM, Bw.fldM, Bw.fldD, Bw.insOf, Bw.notB, in_dic, Bw.notInD, Bw.dget, Bw.toKey, Bw.ixC, Bw.ixM, Bw.calM, Bw.cal, Bw.metM, Bw.pick, Bw.cns, Bw.drpM, Bw.isN, Bw.andB, Bw.orB, Bw.asB, Bw.blM, x_law_2, eq_str]) (by rw [List.length_map, List.length_nil, Nat.zero_add]; exact hl)
  rw [List.nil_append] at c1
  rw [c1]
  congr 1
  rw [List.filter_map, List.map_map, List.map_map]
  rfl
theorem bring1314 (s0 s1 s2 s3 s4 s5 s6 s7 s8 s9 s10 s11 s12 s13 s14 t0 t1 t2 t3 t4 t5 t6 t7 t8 t9 t10 t11 t12 x y : Sl) :
    bringS [s0, s1, s2, s3, s4, s5, s6, s7, s8, s9, s10, s11, s12, s13, s14] [t0, t1, t2, t3, t4, t5, t6, t7, t8, t9, t10, t11, t12, x, y] [13, 14] = [t0, t1, t2, t3, t4, t5, t6, t7, t8, t9, t10, t11, t12, keepS s13, keepS s14] := by
  cases s13 <;> cases s14 <;> rfl
theorem turn_run66 (ev : Ev P ns) (ho : order.Perm ns) {num k0 : Nat} (iv : Inv h p s b t P order tr F B T num k0) (hk0 : k0 < 900) (hnum : num < 900)
    {lj lo : List Bag} (hj : B.lookup jN = some lj) (hlj : lj.length ≤ 1) (hob : B.lookup oN = some lo) (hlo : lo.length ≤ 5) {k : Nat} (hT : T.lookup jN = some k) (hk : k < order.length) {went : List Str} (hw : went.length < 1000)
    {s0 s1 s2 s3 s5 s6 s7 s8 s12 s13 s14 : Sl} :
    ∃ (h' : Hd) (B' : List (Str × List Bag)) (T' : List (Str × Nat)) (num' : Nat) (s6' s13' s14' : Sl),
      x_law_4 [s0, s1, s2, s3, .v (.lst (ns.map D.str)), s5, s6, s7, s8, .v (.ref s), .v (.lst (went.map D.str)), .v (.int num), s12, s13, s14] h =
        .ok .nx [s0, s1, s2, s3, .v (.lst (ns.map D.str)), s5, s6', s7, s8, .v (.ref s), .v (.lst ((went ++ [hdP order tr k]).map D.str)), .v (.int num'), s12, s13', s14'] h' ∧
      Inv h' p s b t P order tr F B' T' num' (k0 + 5) ∧ num' ≤ num + 4 ∧ (∃ l, B'.lookup jN = some l ∧ l.length ≤ 1) ∧ (∃ l, B'.lookup oN = some l ∧ l.length ≤ 5) ∧ T'.lookup jN = some (if tr = true then (k + 1) % order.length else k) := by
  obtain ⟨n1, n2⟩ := List.nodup_cons.mp ev.nd
  obtain ⟨n3, n4⟩ := List.nodup_cons.mp n2
  have hln := ev.len
  have bg : (20000 : Nat) < big := by decide
  obtain ⟨h1, B1, num1, q6, c1, iv1, c3, c4, c5⟩ := put_all ev ns h B num k0 s6 (fun _ h => h) n4 iv (by omega) (by omega) (s0 := s0) (s1 := s1) (s2 := s2) (s3 := s3) (s4 := .v (.lst (ns.map D.str))) (s5 := s5) (s7 := s7) (s8 := s8) (s10 := .v (.lst (went.map D.str))) (s12 := s12) (s13 := s13) (s14 := s14)
  have jn : jN ∉ ns := fun z => n1 (List.mem_cons_of_mem _ z)
  have hj1 : B1.lookup jN = some lj := by rw [c5 jN jn]; exact hj
  have ho1 : B1.lookup oN = some lo := by rw [c5 oN n3]; exact hob
  -- the chute is emptied
  have a2 := empty_run iv1.hp iv1.hs ev.out ho1 5 (by have := iv1.sm.b; omega)
  have ed : lo.drop 5 = [] := List.drop_eq_nil_iff.mpr hlo
  rw [ed] at a2
  have iv2 : Inv (h1.set b (bagsC (putS B1 oN []))) p s b t P order tr F (putS B1 oN []) T num1 (k0 + ns.length) := by
    refine ⟨iv1.hp.setC iv1.hs.bags _, iv1.hs.setB _, iv1.wf.put _ _, iv1.sm.put ⟨lo, ho1⟩ (Nat.zero_le _) (Nat.le_refl _), ?_⟩
    intro m l' hm x hx
    rw [putS_lookup] at hm
    split at hm
    · cases hm; cases hx
    · exact iv1.tag m l' hm x hx
  have jo : jN ≠ oN := by decide +kernel
  have hj2 : (putS B1 oN []).lookup jN = some lj := by rw [putS_lookup, if_neg jo]; exact hj1
  have ho2 : (putS B1 oN []).lookup oN = some [] := by rw [putS_lookup, if_pos rfl]
  have hsrc : ∀ n ∈ ns, ∃ c l, (putS B1 oN []).lookup n = some (c :: l) := fun n hn => by
    have hne : n ≠ oN := by rintro rfl; exact n3 hn
    rw [putS_lookup, if_neg hne]
    exact c4 n hn
  -- the step
  have sr := step_run iv2.wf iv2.hp iv2.hs iv2.sm (by omega)
  have ok := moves_ok (sh := []) iv2.wf
  obtain ⟨m1, m2⟩ := turn_moves ev ho iv2 hsrc hj2 hlj ho2 hT hk
  generalize movesP P (Wy tr order) (FrP P) (putS B1 oN []) T [] = mv at *
  obtain ⟨fj1, fj2⟩ := find_move ok.nd2 m1
  have lmv := ok.len iv2.wf
  have cj := fun hh => comp_j (σ := []) (s0 := s0) (s1 := s1) (s2 := s2) (s3 := s3) (s4 := .v (.lst (ns.map D.str))) (s5 := s5) (s6 := q6) (s7 := s7) (s8 := s8) (s9 := .v (.ref s)) (s10 := .v (.lst (went.map D.str))) (s11 := .v (.int num1)) (s12 := s12) (h := hh) mv (by omega)
  rw [fj2] at cj
  have iv3 : Inv (((h1.set b (bagsC (putS B1 oN []))).set b (bagsC (movedB (putS B1 oN []) mv))).set t (turnsC (movedT (Wy tr order) (FrP P) T mv))) p s b t P order tr F (movedB (putS B1 oN []) mv) (movedT (Wy tr order) (FrP P) T mv) num1 (k0 + 5) := by
    have hs3 := iv2.hs.setB (movedB (putS B1 oN []) mv)
    refine ⟨(iv2.hp.setC iv2.hs.bags _).setC hs3.turns _, hs3.setT _, iv2.wf.moved ok, ?_, movedB_all ok iv2.wf iv2.tag⟩
    have := iv2.sm.moved iv2.wf ok
    exact ⟨this.b, this.t, fun n l hl => Nat.le_trans (this.l n l hl) (by omega)⟩
  refine ⟨_, _, _, num1, q6, keepS s13, keepS s14, ?_, iv3, by omega, ?_, ?_, ?_⟩
  · have e1 : foM (wkM (nm 4)) (gnm 6) x_law_1 [s0, s1, s2, s3, .v (.lst (ns.map D.str)), s5, s6, s7, s8, .v (.ref s), .v (.lst (went.map D.str)), .v (.int num), s12, s13, s14] h = _ := z3 (by simp (config := { decide := true }) [Bw.fnD, Bw.slots0, Bw.seqM, Bw.ifM, Bw.op2b, Bw.op2, Bw.op2c, Bw.bnd, Bw.ret, Bw.ixN', Bw.has, Bw.peek, Bw.deref, Bw.nm, Bw.setM, Bw.vM, Bw.oM, Bw.un1, Bw.drf, Bw.pk, Bw.opt, Bw.stnM, Bw.stN, Bw.stC, Bw.rtM, Bw.fldM, Bw.fldD, Bw.insOf, Bw.notB, in_dic, Bw.notInD, Bw.dget, Bw.toKey, Bw.ixC, Bw.ixM, Bw.calM, Bw.cal, Bw.metM, Bw.pick, Bw.cns, Bw.drpM, Bw.isN, Bw.andB, Bw.orB, Bw.asB, Bw.blM, wkM, walkD]) c1
    have e2 : drpM (metM [("State", m_State_empty)] "empty" 3 (nm 9) (cns (Bw.ret (.str "out")) (cns (Bw.ret (.int 5)) (Bw.ret [])))) [s0, s1, s2, s3, .v (.lst (ns.map D.str)), s5, q6, s7, s8, .v (.ref s), .v (.lst (went.map D.str)), .v (.int num1), s12, s13, s14] h1 = .ok .nx [s0, s1, s2, s3, .v (.lst (ns.map D.str)), s5, q6, s7, s8, .v (.ref s), .v (.lst (went.map D.str)), .v (.int num1), s12, s13, s14] (h1.set b (bagsC (putS B1 oN []))) := by
      have hsat := iv1.hs.at_
      have a2 : m_State_empty [.ref s, .str "out", .int 5] h1 = _ := a2
      have e4 : ∀ a b c d : D, List.lookup ("empty" : Str) [(("plant" : Str), a), ("_bags", b), ("_turns", c), ("_shut", d)] = none := fun _ _ _ _ => rfl
      simp (config := { decide := true }) [Bw.fnD, Bw.slots0, Bw.seqM, Bw.ifM, Bw.op2b, Bw.op2, Bw.op2c, Bw.bnd, Bw.ret, Bw.ixN', Bw.has, Bw.peek, Bw.deref, Bw.nm, Bw.setM, Bw.vM, Bw.oM, Bw.un1, Bw.drf, Bw.pk, Bw.opt, Bw.stnM, Bw.stN, Bw.stC, Bw.rtM, Bw.fldM, Bw.fldD, Bw.insOf, Bw.notB, in_dic, Bw.notInD, Bw.dget, Bw.toKey, Bw.ixC, Bw.ixM, Bw.calM, Bw.cal, Bw.metM, Bw.pick, Bw.cns, Bw.drpM, Bw.isN, Bw.andB, Bw.orB, Bw.asB, Bw.blM, hsat, cS, lk, e4, a2]
    have ad : addD (((h1.set b (bagsC (putS B1 oN []))).set b (bagsC (movedB (putS B1 oN []) mv))).set t (turnsC (movedT (Wy tr order) (FrP P) T mv))) (.lst (went.map D.str)) (.lst (([(hdP order tr k, jN)].map (·.1)).map D.str)) = some (.lst ((went ++ [hdP order tr k]).map D.str)) := by
      rw [add_lst' _ _ _ (by rw [List.length_map, List.length_map, List.length_map]; show went.length + 1 ≤ big; omega), List.map_append]; rfl
    have e3 : setM 10 (vM (op2 addD (nm 10) (lcF (wkM (calM 1 m_step (cns (nm 9) (Bw.ret [])))) [13, 14] (Bw.gtup 2 (gcns (gnm 13) (gcns (gnm 14) gnil))) x_law_2 x_law_3))) [s0, s1, s2, s3, .v (.lst (ns.map D.str)), s5, q6, s7, s8, .v (.ref s), .v (.lst (went.map D.str)), .v (.int num1), s12, s13, s14] (h1.set b (bagsC (putS B1 oN []))) =
        .ok .nx [s0, s1, s2, s3, .v (.lst (ns.map D.str)), s5, q6, s7, s8, .v (.ref s), .v (.lst ((went ++ [hdP order tr k]).map D.str)), .v (.int num1), s12, keepS s13, keepS s14] (((h1.set b (bagsC (putS B1 oN []))).set b (bagsC (movedB (putS B1 oN []) mv))).set t (turnsC (movedT (Wy tr order) (FrP P) T mv))) := by
      generalize ((h1.set b (bagsC (putS B1 oN []))).set b (bagsC (movedB (putS B1 oN []) mv))).set t (turnsC (movedT (Wy tr order) (FrP P) T mv)) = h3 at *
      generalize h1.set b (bagsC (putS B1 oN [])) = h2 at *
      have cj := cj h3
      generalize ([(hdP order tr k, jN)].map (·.1)).map D.str = l1 at *
      generalize (went ++ [hdP order tr k]).map D.str = l2 at *
      generalize went.map D.str = l3 at *
      generalize mv.map pairD = l4 at *
      generalize ns.map D.str = l5 at *
      generalize Bw.gtup 2 (gcns (gnm 13) (gcns (gnm 14) gnil)) = tg at *
      simp (config := { decide := true }) [Bw.fnD, Bw.slots0, Bw.seqM, Bw.ifM, Bw.op2b, Bw.op2, Bw.op2c, Bw.bnd, Bw.ret, Bw.ixN', Bw.has, Bw.peek, Bw.deref, Bw.nm, Bw.setM, Bw.vM, Bw.oM, Bw.un1, Bw.drf, Bw.pk, Bw.opt, Bw.stnM, Bw.stN, Bw.stC, Bw.rtM, Bw.fldM, Bw.fldD, Bw.insOf, Bw.notB, in_dic, Bw.notInD, Bw.dget, Bw.toKey, Bw.ixC, Bw.ixM, Bw.calM, Bw.cal, Bw.metM, Bw.pick, Bw.cns, Bw.drpM, Bw.isN, Bw.andB, Bw.orB, Bw.asB, Bw.blM, sr, lcF, wkM, walkD, wipeS, bring1314, cj, ad]
    exact seq_run e1 (seq_run e2 e3)
  · refine ⟨_, movedB_lookup ok.nd ok.nd2 hj2, ?_⟩
    unfold afterB
    rw [fj1, List.length_append]
    show _ + 1 ≤ 1
    cases lj with
    | nil => split <;> exact Nat.le_refl _
    | cons c l =>
      have : jN ∈ mv.map (·.1) := List.mem_map.mpr ⟨_, m2 (by simp), rfl⟩
      rw [if_pos this, List.tail_cons]
      rw [List.length_cons] at hlj
      omega
  · refine ⟨_, movedB_lookup ok.nd ok.nd2 ho2, ?_⟩
    have := afterB_len (B := putS B1 oN []) mv oN []
    rw [List.length_nil] at this
    omega
  · show (mv.foldl _ T).lookup jN = _
    rw [turn_lookup jN mv T ok.nd2, fj1, way_j]
    dsimp only
    cases tr with
    | false => exact hT
    | true =>
      rw [if_pos rfl, if_pos rfl]
      congr 2
      have hnd : order.Nodup := ho.nodup_iff.mpr n4
      unfold hdP
      rw [if_pos rfl, List.getD_eq_getElem?_getD, List.getElem?_eq_getElem hk]
      show order.idxOf order[k] + 1 = _
      rw [idx_get order k hk hnd]
end Law
namespace Law
open L2 Bw
open PySem (Str)
variable {h : Hd} {p s b t : Nat} {P : List (Str × Pl)} {F : List (Str × Nat)} {B : List (Str × List Bag)} {T : List (Str × Nat)} {ns order : List Str} {tr : Bool}
/-- whose bag is due in a turn -/
def dueP (order : List Str) (tr : Bool) (i : Nat) : Str := hdP order tr (i % order.length)
theorem hd_false (order : List Str) (k k' : Nat) : hdP order false k = hdP order false k' := rfl
theorem turns66 (ev : Ev P ns) (ho : order.Perm ns) {s0 s1 s2 s3 s5 s7 s8 : Sl} : ∀ (c i : Nat) (h : Hd) (B : List (Str × List Bag)) (T : List (Str × Nat)) (num k0 : Nat) (went : List Str) (s6 s12 s13 s14 : Sl), Inv h p s b t P order tr F B T num k0 → k0 + 5 * c < 900 → num + 4 * c < 900 → went.length + c < 1000 →
    (∃ l, B.lookup jN = some l ∧ l.length ≤ 1) → (∃ l, B.lookup oN = some l ∧ l.length ≤ 5) → T.lookup jN = some (if tr = true then i % order.length else 0) →
    ∃ (h' : Hd) (num' : Nat) (s6' s12' s13' s14' : Sl), Bw.forM (gnm 12) x_law_4 ((List.range' i c).map fun j => D.int (j : Nat)) [s0, s1, s2, s3, .v (.lst (ns.map D.str)), s5, s6, s7, s8, .v (.ref s), .v (.lst (went.map D.str)), .v (.int num), s12, s13, s14] h =
      .ok .nx [s0, s1, s2, s3, .v (.lst (ns.map D.str)), s5, s6', s7, s8, .v (.ref s), .v (.lst ((went ++ (List.range' i c).map (dueP order tr)).map D.str)), .v (.int num'), s12', s13', s14'] h'
  | 0, i, h, B, T, num, k0, went, s6, s12, s13, s14, _, _, _, _, _, _, _ => ⟨h, num, s6, s12, s13, s14, by
    show Bw.forM _ _ [] _ _ = R.ok _ [_, _, _, _, _, _, _, _, _, _, .v (.lst ((went ++ []).map D.str)), _, _, _, _] _
    rw [List.append_nil]; rfl⟩
  | c + 1, i, h, B, T, num, k0, went, s6, s12, s13, s14, iv, h1, h2, h3, ⟨lj, hj, hlj⟩, ⟨lo, hlo, hlo2⟩, hT => by
    have hpos : 0 < order.length := by rw [ho.length_eq]; exact List.length_pos_iff.mpr ev.ne
    have hk : (if tr = true then i % order.length else 0) < order.length := by
      split
      · exact Nat.mod_lt _ hpos
      · exact hpos
    obtain ⟨h', B', T', num', q6, q13, q14, r1, iv', r3, r4, r5, r6⟩ := turn_run66 ev ho iv (by omega) (by omega) hj hlj hlo hlo2 hT hk (went := went) (by omega) (s0 := s0) (s1 := s1) (s2 := s2) (s3 := s3) (s5 := s5) (s6 := s6) (s7 := s7) (s8 := s8) (s12 := .v (.int i)) (s13 := s13) (s14 := s14)
    have hd : hdP order tr (if tr = true then i % order.length else 0) = dueP order tr i := by
      unfold dueP
      cases tr with
      | true => rfl
      | false => rfl
    rw [hd] at r1
    have hT' : T'.lookup jN = some (if tr = true then (i + 1) % order.length else 0) := by
      rw [r6]
      cases tr with
      | true =>
        show some ((i % order.length + 1) % order.length) = some ((i + 1) % order.length)
        rw [Nat.mod_add_mod]
      | false => rfl
    obtain ⟨h2', num2, t6, t12, t13, t14, e⟩ := turns66 ev ho c (i + 1) h' B' T' num' (k0 + 5) (went ++ [dueP order tr i]) q6 (.v (.int i)) q13 q14 iv' (by omega) (by omega) (by rw [List.length_append, List.length_singleton]; omega) r4 r5 hT' (s0 := s0) (s1 := s1) (s2 := s2) (s3 := s3) (s5 := s5) (s7 := s7) (s8 := s8)
    refine ⟨h2', num2, t6, t12, t13, t14, ?_⟩
    rw [List.range'_succ, List.map_cons, List.map_cons]
    rw [List.append_assoc] at e
    rw [show went ++ dueP order tr i :: (List.range' (i + 1) c).map (dueP order tr) = went ++ ([dueP order tr i] ++ (List.range' (i + 1) c).map (dueP order tr)) from rfl, ← e]
    exact for_step rfl r1
end Law
namespace Law
open L2 Bw
open PySem (Str)
/-! ## k66: from the script to the first turn, and the end -/
theorem lst_le (l : List D) (hl : l.length ≤ big) (m : Bw.M (List D)) {σ σ' : List Sl} {h h' : Hd} (e : m σ h = .ok l σ' h') : lstM m σ h = .ok (.lst l) σ' h' := by
  unfold lstM bnd
  rw [e]
  dsimp only
  rw [if_pos hl]
  rfl
theorem tup_le (l : List D) (hl : l.length ≤ big) (m : Bw.M (List D)) {σ σ' : List Sl} {h h' : Hd} (e : m σ h = .ok l σ' h') : tupM m σ h = .ok (.tup l) σ' h' := by
  unfold tupM bnd
  rw [e]
  dsimp only
  rw [if_pos hl]
  rfl
theorem set_own {i : Nat} {m : Bw.M D} {σ σ' : List Sl} {h h' : Hd} {d : D} (e : m σ h = .ok d σ' h') : setM i (oM m) σ h = .ok .nx (σ'.set i (.own d)) h' := by
  unfold setM oM bnd
  rw [e]
  rfl
theorem lst0 (σ : List Sl) (h : Hd) : lstM (Bw.ret []) σ h = .ok (.lst []) σ h := lst_le [] (Nat.zero_le _) _ rfl
theorem S1 (xs : List Int) : setM 1 (vM (calM 1 m__law_tape (cns (nm 0) (Bw.ret [])))) [.v (.scr (xs.map D.int)), .un, .un, .un, .un, .un, .un, .un, .un, .un, .un, .un, .un, .un, .un] [] =
    .ok .nx [.v (.scr (xs.map D.int)), .v (.ref 0), .un, .un, .un, .un, .un, .un, .un, .un, .un, .un, .un, .un, .un] [tp (xs.map D.int) 0 0] := by
  have a := tape_run xs []
  have a : m__law_tape [.scr (xs.map D.int)] [] = .ret (.ref 0) [tp (xs.map D.int) 0 0] := a
  generalize xs.map D.int = L at *
  simp (config := { decide := true }) [Bw.fnD, Bw.slots0, Bw.seqM, Bw.ifM, Bw.op2b, Bw.op2, Bw.op2c, Bw.bnd, Bw.ret, Bw.ixN', Bw.has, Bw.peek, Bw.deref, Bw.nm, Bw.setM, Bw.vM, Bw.oM, Bw.un1, Bw.drf, Bw.pk, Bw.opt, Bw.stnM, Bw.stN, Bw.stC, Bw.rtM, Bw.fldM, Bw.fldD, Bw.insOf, Bw.notB, in_dic, Bw.notInD, Bw.dget, Bw.toKey, Bw.ixC, Bw.ixM, Bw.calM, Bw.cal, Bw.metM, Bw.pick, Bw.cns, Bw.drpM, Bw.isN, Bw.andB, Bw.orB, Bw.asB, Bw.blM, a]
theorem S2 {h h2 : Hd} {s0 : Sl} {d : Int} (dr : m__law_draw [.ref 0, .int 3] h = .ret (.int d) h2) : setM 2 (vM (op2 addD (Bw.ret (.int 2)) (calM 2 m__law_draw (cns (nm 1) (cns (Bw.ret (.int 3)) (Bw.ret [])))))) [s0, .v (.ref 0), .un, .un, .un, .un, .un, .un, .un, .un, .un, .un, .un, .un, .un] h =
    .ok .nx [s0, .v (.ref 0), .v (.int (2 + d)), .un, .un, .un, .un, .un, .un, .un, .un, .un, .un, .un, .un] h2 := by
  simp (config := { decide := true }) [Bw.fnD, Bw.slots0, Bw.seqM, Bw.ifM, Bw.op2b, Bw.op2, Bw.op2c, Bw.bnd, Bw.ret, Bw.ixN', Bw.has, Bw.peek, Bw.deref, Bw.nm, Bw.setM, Bw.vM, Bw.oM, Bw.un1, Bw.drf, Bw.pk, Bw.opt, Bw.stnM, Bw.stN, Bw.stC, Bw.rtM, Bw.fldM, Bw.fldD, Bw.insOf, Bw.notB, in_dic, Bw.notInD, Bw.dget, Bw.toKey, Bw.ixC, Bw.ixM, Bw.calM, Bw.cal, Bw.metM, Bw.pick, Bw.cns, Bw.drpM, Bw.isN, Bw.andB, Bw.orB, Bw.asB, Bw.blM, dr, add_int]
theorem S3 {h : Hd} {s0 s1 s2 : Sl} : setM 3 (oM (dspM (((Bw.ret (.str "j")), (tupM (cns (Bw.ret (.str "belt")) (cns (Bw.ret (.str "out")) (Bw.ret []))))) :: (((Bw.ret (.str "out")), (tupM (cns (Bw.ret (.str "chute")) (cns (Bw.ret (.int 5)) (Bw.ret []))))) :: [])))) [s0, s1, s2, .un, .un, .un, .un, .un, .un, .un, .un, .un, .un, .un, .un] h =
    .ok .nx [s0, s1, s2, .own (.dic false (dicS Pl.d P2)), .un, .un, .un, .un, .un, .un, .un, .un, .un, .un, .un] h := by
  have d1 := dput_dicS Pl.d [] jN (.belt oN)
  have d2 := dput_dicS Pl.d [(jN, .belt oN)] oN (.chute 5)
  rw [putS_new _ rfl] at d1
  rw [putS_new _ (by rw [List.lookup_cons, outj]; rfl)] at d2
  have d1 : dput false [] (.str "j") (.tup [.str "belt", .str "out"]) = some (dicS Pl.d [(jN, .belt oN)]) := d1
  have d2 : dput false (dicS Pl.d [(jN, .belt oN)]) (.str "out") (.tup [.str "chute", .int 5]) = some (dicS Pl.d P2) := d2
  have b2 : (2 : Nat) ≤ big := by decide
  simp (config := { decide := true }) [Bw.fnD, Bw.slots0, Bw.seqM, Bw.ifM, Bw.op2b, Bw.op2, Bw.op2c, Bw.bnd, Bw.ret, Bw.ixN', Bw.has, Bw.peek, Bw.deref, Bw.nm, Bw.setM, Bw.vM, Bw.oM, Bw.un1, Bw.drf, Bw.pk, Bw.opt, Bw.stnM, Bw.stN, Bw.stC, Bw.rtM, Bw.fldM, Bw.fldD, Bw.insOf, Bw.notB, in_dic, Bw.notInD, Bw.dget, Bw.toKey, Bw.ixC, Bw.ixM, Bw.calM, Bw.cal, Bw.metM, Bw.pick, Bw.cns, Bw.drpM, Bw.isN, Bw.andB, Bw.orB, Bw.asB, Bw.blM, dspM, prsM, tupM, b2, mergeD, d1, d2]
theorem S4 {h : Hd} {s0 s1 s2 s3 : Sl} : setM 4 (oM (lstM (Bw.ret []))) [s0, s1, s2, s3, .un, .un, .un, .un, .un, .un, .un, .un, .un, .un, .un] h = .ok .nx [s0, s1, s2, s3, .own (.lst []), .un, .un, .un, .un, .un, .un, .un, .un, .un, .un] h := (set_own (lst0 _ _)).trans rfl
theorem S6a {f : FnD} {h h2 : Hd} {s0 s2 s3 s5 s6 : Sl} {r : List Sl} {l l' : List D} (dr : f [.ref 0, .lst l] h = .ret (.lst l') h2) : calM 2 f (cns (nm 1) (cns (nm 4) (Bw.ret []))) (s0 :: .v (.ref 0) :: s2 :: s3 :: .own (.lst l) :: s5 :: s6 :: .un :: r) h =
    .ok (.lst l') (s0 :: .v (.ref 0) :: s2 :: s3 :: .v (.lst l) :: s5 :: s6 :: .un :: r) h2 := by
  simp (config := { decide := true }) [Bw.fnD, Bw.slots0, Bw.seqM, Bw.ifM, Bw.op2b, Bw.op2, Bw.op2c, Bw.bnd, Bw.ret, Bw.ixN', Bw.has, Bw.peek, Bw.deref, Bw.nm, Bw.setM, Bw.vM, Bw.oM, Bw.un1, Bw.drf, Bw.pk, Bw.opt, Bw.stnM, Bw.stN, Bw.stC, Bw.rtM, Bw.fldM, Bw.fldD, Bw.insOf, Bw.notB, in_dic, Bw.notInD, Bw.dget, Bw.toKey, Bw.ixC, Bw.ixM, Bw.calM, Bw.cal, Bw.metM, Bw.pick, Bw.cns, Bw.drpM, Bw.isN, Bw.andB, Bw.orB, Bw.asB, Bw.blM, dr]
theorem S6b {h : Hd} {m : Bw.M D} {σ : List Sl} {σ' : List Sl} {l' : List D} {h2 : Hd} (e : m σ h = .ok (.lst l') σ' h2) : setM 7 (vM (un1 tupleD (drf m))) σ h = .ok .nx (σ'.set 7 (.v (.kt l'))) h2 := by
  unfold setM vM un1 drf bnd
  rw [e]
  rfl
def kindS (tr : Bool) : Str := if tr = true then "turns" else "first"
theorem S7 {h h2 : Hd} {s0 s2 s3 s4 s5 s6 s7 : Sl} {r : List Sl} {d : Int} (h0 : 0 ≤ d) (h1 : d < 2) (dr : m__law_draw [.ref 0, .int 2] h = .ret (.int d) h2) : setM 8 (vM (ixM (lstM (cns (Bw.ret (.str "turns")) (cns (Bw.ret (.str "first")) (Bw.ret [])))) (calM 2 m__law_draw (cns (nm 1) (cns (Bw.ret (.int 2)) (Bw.ret [])))))) (s0 :: .v (.ref 0) :: s2 :: s3 :: s4 :: s5 :: s6 :: s7 :: .un :: r) h =
    .ok .nx (s0 :: .v (.ref 0) :: s2 :: s3 :: s4 :: s5 :: s6 :: s7 :: .v (.str (kindS (decide (d = 0)))) :: r) h2 := by
  have b2 : (2 : Nat) ≤ big := by decide
  have : d = 0 ∨ d = 1 := by omega
  rcases this with rfl | rfl
  · have k : kindS (decide ((0 : Int) = 0)) = "turns" := rfl
    rw [k]
    simp (config := { decide := true }) [Bw.fnD, Bw.slots0, Bw.seqM, Bw.ifM, Bw.op2b, Bw.op2, Bw.op2c, Bw.bnd, Bw.ret, Bw.ixN', Bw.has, Bw.peek, Bw.deref, Bw.nm, Bw.setM, Bw.vM, Bw.oM, Bw.un1, Bw.drf, Bw.pk, Bw.opt, Bw.stnM, Bw.stN, Bw.stC, Bw.rtM, Bw.fldM, Bw.fldD, Bw.insOf, Bw.notB, in_dic, Bw.notInD, Bw.dget, Bw.toKey, Bw.ixC, Bw.ixM, Bw.calM, Bw.cal, Bw.metM, Bw.pick, Bw.cns, Bw.drpM, Bw.isN, Bw.andB, Bw.orB, Bw.asB, Bw.blM, dr, lstM, b2, at0]
  · have k : kindS (decide ((1 : Int) = 0)) = "first" := rfl
    rw [k]
    simp (config := { decide := true }) [Bw.fnD, Bw.slots0, Bw.seqM, Bw.ifM, Bw.op2b, Bw.op2, Bw.op2c, Bw.bnd, Bw.ret, Bw.ixN', Bw.has, Bw.peek, Bw.deref, Bw.nm, Bw.setM, Bw.vM, Bw.oM, Bw.un1, Bw.drf, Bw.pk, Bw.opt, Bw.stnM, Bw.stN, Bw.stC, Bw.rtM, Bw.fldM, Bw.fldD, Bw.insOf, Bw.notB, in_dic, Bw.notInD, Bw.dget, Bw.toKey, Bw.ixC, Bw.ixM, Bw.calM, Bw.cal, Bw.metM, Bw.pick, Bw.cns, Bw.drpM, Bw.isN, Bw.andB, Bw.orB, Bw.asB, Bw.blM, dr, lstM, b2, at1]
theorem S9 {h : Hd} {s0 s1 s2 s3 s4 s5 s6 s7 s8 s9 s12 s13 s14 : Sl} : parM 10 11 (lstM (Bw.ret [])) (Bw.ret (.int 0)) [s0, s1, s2, s3, s4, s5, s6, s7, s8, s9, .un, .un, s12, s13, s14] h = .ok .nx [s0, s1, s2, s3, s4, s5, s6, s7, s8, s9, .v (.lst []), .v (.int 0), s12, s13, s14] h := by
  unfold parM bnd
  rw [lst0]
  rfl
theorem is_run (h : Hd) (a : List Str) (ha : ∀ x ∈ a, PySem.PyData.strOk x = true) : m__law_is [.lst (a.map D.str), .lst (a.map D.str)] h = .ret (.bl true) h := by
  have q := eq_strs h a a ha ha
  rw [decide_eq_true rfl] at q
  generalize a.map D.str = l at *
  have i1 : isiD "bool" (.lst l) = some (.bl false) := rfl
  have i2 : isiD "int" (.lst l) = some (.bl false) := rfl
  have i3 : isiD "str" (.lst l) = some (.bl false) := rfl
  have i4 : isiD "tuple" (.lst l) = some (.bl false) := rfl
  have i5 : isiD "list" (.lst l) = some (.bl true) := rfl
  simp (config := { decide := true }) [Bw.fnD, Bw.slots0, Bw.seqM, Bw.ifM, Bw.op2b, Bw.op2, Bw.op2c, Bw.bnd, Bw.ret, Bw.ixN', Bw.has, Bw.peek, Bw.deref, Bw.nm, Bw.setM, Bw.vM, Bw.oM, Bw.un1, Bw.drf, Bw.pk, Bw.opt, Bw.stnM, Bw.stN, Bw.stC, Bw.rtM, Bw.fldM, Bw.fldD, Bw.insOf, Bw.notB, in_dic, Bw.notInD, Bw.dget, Bw.toKey, Bw.ixC, Bw.ixM, Bw.calM, Bw.cal, Bw.metM, Bw.pick, Bw.cns, Bw.drpM, Bw.isN, Bw.andB, Bw.orB, Bw.asB, Bw.blM, m__law_is, b__law_is, isiM, i1, i2, i3, i4, i5, andV, q]
end Law
namespace Law
open L2 Bw
open PySem (Str)
variable {h : Hd} {p s b t : Nat} {P : List (Str × Pl)} {W : List (Str × Way)} {F : List (Str × Nat)} {Fr : Str → List Str} {B : List (Str × List Bag)} {T : List (Str × Nat)} {ns order : List Str} {tr : Bool}
/-! ### objects made -/
theorem cns_run {m : Bw.M D} {ms : Bw.M (List D)} {σ σ1 σ2 : List Sl} {h h1 h2 : Hd} {d : D} {ds : List D} (e1 : m σ h = .ok d σ1 h1) (e2 : ms σ1 h1 = .ok ds σ2 h2) : cns m ms σ h = .ok (d :: ds) σ2 h2 := by
  unfold cns bnd
  rw [e1]
  dsimp only
  rw [e2]
  rfl
theorem mak_run {c : Str} {n : Nat} {m : FnD} {ma : Bw.M (List D)} {σ σ1 : List Sl} {h h1 h2 : Hd} {ds : List D} (e1 : ma σ h = .ok ds σ1 h1) (hn : ds.length + 1 = n) (e2 : m (.ref h1.length :: ds) (h1 ++ [⟨false, .ins c []⟩]) = .ret .non h2) : makM c n m ma σ h = .ok (.ref h1.length) σ1 h2 := by
  unfold makM bnd
  rw [e1]
  dsimp only
  rw [if_pos hn, e2]
theorem set_v {i : Nat} {m : Bw.M D} {σ σ' : List Sl} {h h' : Hd} {d : D} (e : m σ h = .ok d σ' h') : setM i (vM m) σ h = .ok .nx (σ'.set i (.v d)) h' := by
  unfold setM vM bnd
  rw [e]
  rfl
theorem PlantAt.app (hp : PlantAt h p P W F Fr) (L : Hd) : PlantAt (h ++ L) p P W F Fr :=
  hp.other fun j hj _ => List.getElem?_append_left hj
theorem both_made (ok : PlantOk P W) (hh : Hd) : ∃ (F : List (Str × Nat)) (s b t : Nat) (h1 h2 : Hd),
    m_Plant___init__ [.ref hh.length, .dic false (dicS Pl.d P), .dic false (dicS Way.d W)] (hh ++ [⟨false, .ins "Plant" []⟩]) = .ret .non h1 ∧ s = h1.length ∧
    m_State___init__ [.ref s, .ref hh.length] (h1 ++ [⟨false, .ins "State" []⟩]) = .ret .non h2 ∧
    PlantAt h2 hh.length P W F (FrP P) ∧ StateAt h2 s hh.length b t (B0 P) (T0 P) [] ∧ Wf P W F (FrP P) (B0 P) (T0 P) ∧ ∀ j, j < hh.length → h2[j]? = hh[j]? := by
  obtain ⟨h1, c1, c2, c3, c4⟩ := plant_run (h := hh ++ [⟨false, .ins "Plant" []⟩]) (p := hh.length) ok (by simp)
  have c2' := c2.app [⟨false, .ins "State" []⟩]
  obtain ⟨h2, d1, d2, d3, d4, d5⟩ := state_run (s := h1.length) c2' ok.nd ok.small (by simp)
  refine ⟨_, h1.length, _, _, h1, h2, c1, rfl, d1, d2, d3, Wf.made ok _, fun j hj => ?_⟩
  rw [List.length_append, List.length_singleton] at c3 c4 d5
  rw [d5 j (by omega) (by omega), List.getElem?_append_left (by omega), c4 j (by omega) (by omega), List.getElem?_append_left hj]
theorem S8 (ok : PlantOk P (Wy tr order)) (h : Hd) {s0 s1 s2 s4 s5 s6 : Sl} {r : List Sl} : ∃ (F : List (Str × Nat)) (p s b t : Nat) (h2 : Hd),
    setM 9 (vM (makM "State" 2 m_State___init__ (cns (makM "Plant" 3 m_Plant___init__ (cns (nm 3) (cns (dspM (((Bw.ret (.str "j")), (tupM (cns (nm 8) (cns (nm 7) (Bw.ret []))))) :: [])) (Bw.ret [])))) (Bw.ret []))))
      (s0 :: s1 :: s2 :: .own (.dic false (dicS Pl.d P)) :: s4 :: s5 :: s6 :: .v (.kt (order.map D.str)) :: .v (.str (kindS tr)) :: .un :: r) h =
      .ok .nx (s0 :: s1 :: s2 :: .v (.dic false (dicS Pl.d P)) :: s4 :: s5 :: s6 :: .v (.kt (order.map D.str)) :: .v (.str (kindS tr)) :: .v (.ref s) :: r) h2 ∧
    Inv h2 p s b t P order tr F (B0 P) (T0 P) 0 0 := by
  obtain ⟨F, s, b, t, h1, h2, c1, c2, c3, c4, c5, c6, _⟩ := both_made ok h
  have d1 := dput_dicS Way.d [] jN ⟨tr, order⟩
  rw [putS_new _ rfl] at d1
  have d1 : dput false [] (.str "j") (.tup [.str (kindS tr), .kt (order.map D.str)]) = some (dicS Way.d (Wy tr order)) := d1
  have b2 : (2 : Nat) ≤ big := by decide
  have a1 : cns (nm 3) (cns (dspM (((Bw.ret (.str "j")), (tupM (cns (nm 8) (cns (nm 7) (Bw.ret []))))) :: [])) (Bw.ret [])) (s0 :: s1 :: s2 :: .own (.dic false (dicS Pl.d P)) :: s4 :: s5 :: s6 :: .v (.kt (order.map D.str)) :: .v (.str (kindS tr)) :: .un :: r) h =
      .ok [.dic false (dicS Pl.d P), .dic false (dicS Way.d (Wy tr order))] (s0 :: s1 :: s2 :: .v (.dic false (dicS Pl.d P)) :: s4 :: s5 :: s6 :: .v (.kt (order.map D.str)) :: .v (.str (kindS tr)) :: .un :: r) h := by
    generalize dicS Pl.d P = dp at *
    generalize dicS Way.d (Wy tr order) = dw at *
    generalize order.map D.str = dor at *
    generalize kindS tr = kk at *
    simp (config := { decide := true }) [Bw.fnD, Bw.slots0, Bw.seqM, Bw.ifM, Bw.op2b, Bw.op2, Bw.op2c, Bw.bnd, Bw.ret, Bw.ixN', Bw.has, Bw.peek, Bw.deref, Bw.nm, Bw.setM, Bw.vM, Bw.oM, Bw.un1, Bw.drf, Bw.pk, Bw.opt, Bw.stnM, Bw.stN, Bw.stC, Bw.rtM, Bw.fldM, Bw.fldD, Bw.insOf, Bw.notB, in_dic, Bw.notInD, Bw.dget, Bw.toKey, Bw.ixC, Bw.ixM, Bw.calM, Bw.cal, Bw.metM, Bw.pick, Bw.cns, Bw.drpM, Bw.isN, Bw.andB, Bw.orB, Bw.asB, Bw.blM, dspM, prsM, tupM, b2, mergeD, d1]
  have a2 := mak_run a1 rfl c1
  rw [c2] at c3
  have a3 := mak_run (c := "State") (n := 2) (m := m_State___init__) (cns_run a2 (rfl : Bw.ret [] _ h1 = _)) rfl c3
  refine ⟨F, h.length, s, b, t, h2, ?_, ⟨c4, c5, c6, Small.made ok, fun n l hl x hx => by rw [B0_mem hl] at hx; cases hx⟩⟩
  rw [c2]
  exact (set_v a3).trans rfl
end Law
namespace Law
open L2 Bw
open PySem (Str)
variable {h : Hd} {p s b t : Nat} {P : List (Str × Pl)} {F : List (Str × Nat)} {B : List (Str × List Bag)} {T : List (Str × Nat)} {ns order : List Str} {tr : Bool}
/-! ## k66: the end -/
theorem rg3_run {m : Nat} (hm : m < 1000) (s0 s1 : Sl) (r : List Sl) (h : Hd) : rg1 (op2 mulD (Bw.ret (.int 3)) (nm 2)) (s0 :: s1 :: .v (.int m) :: r) h = .ok ((List.range (3 * m)).map fun i => D.int (i : Nat)) (s0 :: s1 :: .v (.int m) :: r) h := by
  refine rg_run (3 * m) (by omega) ?_
  have e : mulD h (.int 3) (.int m) = some (.int ((3 * m : Nat) : Int)) := by
    show (if mulOk 3 m = true then some (D.int (3 * m)) else none) = _
    have : mulOk 3 m = true := by
      unfold mulOk
      rw [show (decide (-(2 ^ 64) < (3 : Int)) && decide ((3 : Int) < 2 ^ 64)) = true from rfl, Bool.true_or]
    rw [if_pos this, Int.natCast_mul]
    rfl
  simp (config := { decide := true }) [Bw.fnD, Bw.slots0, Bw.seqM, Bw.ifM, Bw.op2b, Bw.op2, Bw.op2c, Bw.bnd, Bw.ret, Bw.ixN', Bw.has, Bw.peek, Bw.deref, Bw.nm, Bw.setM, Bw.vM, Bw.oM, Bw.un1, Bw.drf, Bw.pk, Bw.opt, Bw.stnM, Bw.stN, Bw.stC, Bw.rtM, Bw.fldM, Bw.fldD, Bw.insOf, Bw.notB, in_dic, Bw.notInD, Bw.dget, Bw.toKey, Bw.ixC, Bw.ixM, Bw.calM, Bw.cal, Bw.metM, Bw.pick, Bw.cns, Bw.drpM, Bw.isN, Bw.andB, Bw.orB, Bw.asB, Bw.blM, e]
theorem rt_run {m : Bw.M D} {σ σ1 : List Sl} {h h1 : Hd} {d : D} (e : m σ h = .ok d σ1 h1) : rtM m σ h = .ok (.rt d) σ1 h1 := by
  unfold rtM bnd
  rw [e]
  rfl
theorem op2_run {f : Hd → D → D → Option D} {m k : Bw.M D} {σ σ1 σ2 : List Sl} {h h1 h2 : Hd} {x y z : D} (e1 : m σ h = .ok x σ1 h1) (e2 : k σ1 h1 = .ok y σ2 h2) (e3 : f h2 x y = some z) : op2 f m k σ h = .ok z σ2 h2 := by
  unfold op2 bnd
  rw [e1]
  dsimp only
  rw [e2]
  dsimp only
  rw [e3]
  rfl
theorem mod_run {i n : Nat} (hn : 0 < n) (hn2 : n < 1000) (h : Hd) : m__law_mod [.int i, .int n] h = .ret (.int ((i % n : Nat) : Int)) h := by
  have d : divD h (.int i) (.int n) = some (.int ((i : Int) / n)) := by
    rw [div_int, if_pos (by omega)]
  have m : ∀ a : Int, mulD h (.int a) (.int n) = some (.int (a * n)) := fun a => by
    refine mul_r ?_ h a
    rw [Bool.and_eq_true, decide_eq_true_eq, decide_eq_true_eq]
    omega
  have e : (i : Int) - (i : Int) / n * n = ((i % n : Nat) : Int) := by
    rw [Int.natCast_emod, Int.emod_def, Int.mul_comm]
  have f1 : nm 0 [.v (.int i), .v (.int n)] h = .ok (.int i) [.v (.int i), .v (.int n)] h := rfl
  have f2 : nm 1 [.v (.int i), .v (.int n)] h = .ok (.int n) [.v (.int i), .v (.int n)] h := rfl
  exact fn_ret (rt_run (op2_run f1 (op2_run (op2_run f1 f2 d) f2 (m _)) (by rw [sub_int, e])))
def constD (d : D) : D → D := fun _ => d
def dueD (order : List Str) : D → D
  | .int i => .str (dueP order true i.toNat)
  | d => d
theorem bring12 (s0 s1 s2 s3 s4 s5 s6 s7 s8 s9 s10 s11 s12 s13 s14 t0 t1 t2 t3 t4 t5 t6 t7 t8 t9 t10 t11 x t13 t14 : Sl) :
    bringS [s0, s1, s2, s3, s4, s5, s6, s7, s8, s9, s10, s11, s12, s13, s14] [t0, t1, t2, t3, t4, t5, t6, t7, t8, t9, t10, t11, x, t13, t14] [12] = [t0, t1, t2, t3, t4, t5, t6, t7, t8, t9, t10, t11, keepS s12, t13, t14] := by
  cases s12 <;> rfl
theorem bring5 (s0 s1 s2 s3 s4 s5 s6 s7 s8 s9 s10 s11 s12 s13 s14 t0 t1 t2 t3 t4 x t6 t7 t8 t9 t10 t11 t12 t13 t14 : Sl) :
    bringS [s0, s1, s2, s3, s4, s5, s6, s7, s8, s9, s10, s11, s12, s13, s14] [t0, t1, t2, t3, t4, x, t6, t7, t8, t9, t10, t11, t12, t13, t14] [5] = [t0, t1, t2, t3, t4, keepS s5, t6, t7, t8, t9, t10, t11, t12, t13, t14] := by
  cases s5 <;> rfl
theorem lcF_run {mi : Bw.M (List D)} {vs : List Nat} {t : Tg D} {c : Bw.M Bool} {e : Bw.M D} {σ σ1 σ2 : List Sl} {h : Hd} {ds es : List D} (e1 : mi σ h = .ok ds σ1 h) (e2 : lcM vs t c e [] ds (wipeS σ1 vs) h = .ok es σ2 h) : lcF mi vs t c e σ h = .ok (.lst es) (bringS σ1 σ2 vs) h := by
  unfold lcF bnd
  rw [e1]
  dsimp only
  rw [e2]
theorem calm_run {n : Nat} {f : FnD} {ma : Bw.M (List D)} {σ σ1 : List Sl} {h h1 h2 : Hd} {ds : List D} {d : D} (e1 : ma σ h = .ok ds σ1 h1) (hn : ds.length = n) (e2 : f ds h1 = .ret d h2) : calM n f ma σ h = .ok d σ1 h2 := by
  unfold calM bnd
  rw [e1]
  dsimp only
  rw [if_pos hn]
  unfold cal
  rw [e2]
theorem seq_rt {m k : Bw.M Fl} {σ σ1 : List Sl} {h h1 : Hd} {d : D} (e1 : m σ h = .ok (.rt d) σ1 h1) : seqM m k σ h = .ok (.rt d) σ1 h1 := by
  unfold seqM
  rw [e1]
theorem if_tt {c : Bw.M Bool} {a b : Bw.M Fl} {σ σ1 : List Sl} {h h1 : Hd} (e : c σ h = .ok true σ1 h1) : ifM c a b σ h = a σ1 h1 := by
  unfold ifM bnd
  rw [e]
  rfl
theorem if_ff {c : Bw.M Bool} {a b : Bw.M Fl} {σ σ1 : List Sl} {h h1 : Hd} (e : c σ h = .ok false σ1 h1) : ifM c a b σ h = b σ1 h1 := by
  unfold ifM bnd
  rw [e]
  rfl
theorem kind_eq (h : Hd) {s0 s1 s2 s3 s4 s5 s6 s7 : Sl} {r : List Sl} (tr : Bool) : op2b eqD (nm 8) (Bw.ret (.str "first")) (s0 :: s1 :: s2 :: s3 :: s4 :: s5 :: s6 :: s7 :: .v (.str (kindS tr)) :: r) h = .ok (!tr) (s0 :: s1 :: s2 :: s3 :: s4 :: s5 :: s6 :: s7 :: .v (.str (kindS tr)) :: r) h := by
  have q : (kindS tr == ("first" : Str)) = !tr := by cases tr <;> decide +kernel
  generalize kindS tr = k at *
  simp (config := { decide := true }) [Bw.fnD, Bw.slots0, Bw.seqM, Bw.ifM, Bw.op2b, Bw.op2, Bw.op2c, Bw.bnd, Bw.ret, Bw.ixN', Bw.has, Bw.peek, Bw.deref, Bw.nm, Bw.setM, Bw.vM, Bw.oM, Bw.un1, Bw.drf, Bw.pk, Bw.opt, Bw.stnM, Bw.stN, Bw.stC, Bw.rtM, Bw.fldM, Bw.fldD, Bw.insOf, Bw.notB, in_dic, Bw.notInD, Bw.dget, Bw.toKey, Bw.ixC, Bw.ixM, Bw.calM, Bw.cal, Bw.metM, Bw.pick, Bw.cns, Bw.drpM, Bw.isN, Bw.andB, Bw.orB, Bw.asB, Bw.blM, eq_str, q]
theorem end66 (ev : Ev P ns) (ho : order.Perm ns) {m : Nat} (hm : m = ns.length) {s0 s1 s3 s4 s5 s6 s9 s11 s12 s13 s14 : Sl} (h : Hd) : ∃ σ',
    seqM (ifM (op2b eqD (nm 8) (Bw.ret (.str "first")))
  (rtM (calM 2 m__law_is (cns (nm 10) (cns (lcF (rg1 (op2 mulD (Bw.ret (.int 3)) (nm 2))) [12] (gnm 12) x_law_5 x_law_6) (Bw.ret [])))))
  (Bw.ret .nx))
  (rtM (calM 2 m__law_is (cns (nm 10) (cns (lcF (rg1 (op2 mulD (Bw.ret (.int 3)) (nm 2))) [5] (gnm 5) x_law_7 x_law_8) (Bw.ret [])))))
    [s0, s1, .v (.int m), s3, s4, s5, s6, .v (.kt (order.map D.str)), .v (.str (kindS tr)), s9, .v (.lst (((List.range (3 * m)).map (dueP order tr)).map D.str)), s11, s12, s13, s14] h = .ok (.rt (.bl true)) σ' h := by
  have hol : order.length = m := by rw [ho.length_eq, hm]
  have hm4 : m ≤ 4 := by rw [hm]; exact ev.len
  have hm0 : 0 < m := by rw [hm]; exact List.length_pos_iff.mpr ev.ne
  have bg : (20000 : Nat) < big := by decide
  have hdue : ∀ i, dueP order tr i ∈ order := fun i => hd_mem (fun z => by rw [z] at hol; exact absurd hol (by simpa using fun q => by omega)) (Nat.mod_lt _ (by omega))
  have isr := is_run h ((List.range (3 * m)).map (dueP order tr)) (fun x hx => by
    obtain ⟨i, _, rfl⟩ := List.mem_map.mp hx
    exact (ev.ok _ (by rw [ev.nm]; exact List.mem_cons_of_mem _ (List.mem_cons_of_mem _ (ho.mem_iff.mp (hdue i))))).ok)
  have at_ : ∀ k, k < m → atI (order.map D.str) (k : Int) = some (.str (order.getD k jN)) := fun k hk => by
    have hk' : k < order.length := by omega
    refine atN ?_
    rw [List.getElem?_map, List.getElem?_eq_getElem hk', List.getD_eq_getElem?_getD, List.getElem?_eq_getElem hk']
    rfl
  have rl : ((List.range (3 * m)).map fun i => D.int (i : Nat)).length ≤ big := by rw [List.length_map, List.length_range]; omega
  cases tr with
  | false =>
    have c1 := lcM_run (σ := [s0, s1, .v (.int m), s3, s4, s5, s6, .v (.kt (order.map D.str)), .v (.str (kindS false)), s9, .v (.lst (((List.range (3 * m)).map (dueP order false)).map D.str)), s11, .un, s13, s14]) (h := h) (vs := [12]) (t := gnm 12) (c := x_law_5) (e := x_law_6) (fun _ => true) (constD (.str (dueP order false 0))) ((List.range (3 * m)).map fun i => D.int (i : Nat)) [] (fun d hd => by
      refine ⟨_, rfl, rfl, fun _ => ?_, rfl⟩
      have a := at_ 0 hm0
      have a : atI (order.map D.str) 0 = some (.str (dueP order false 0)) := a
      show x_law_6 _ h = R.ok (.str (dueP order false 0)) _ h
      generalize dueP order false 0 = z at *
      generalize order.map D.str = dor at *
      generalize ((List.range (3 * m)).map (dueP order false)).map D.str = dl at *
      simp (config := { decide := true }) [Bw.fnD, Bw.slots0, Bw.seqM, Bw.ifM, Bw.op2b, Bw.op2, Bw.op2c, Bw.bnd, Bw.ret, Bw.ixN', Bw.has, Bw.peek, Bw.deref, Bw.nm, Bw.setM, Bw.vM, Bw.oM, Bw.un1, Bw.drf, Bw.pk, Bw.opt, Bw.stnM, Bw.stN, Bw.stC, Bw.rtM, Bw.fldM, Bw.fldD, Bw.insOf, Bw.notB, in_dic, Bw.notInD, Bw.dget, Bw.toKey, Bw.ixC, Bw.ixM, Bw.calM, Bw.cal, Bw.metM, Bw.pick, Bw.cns, Bw.drpM, Bw.isN, Bw.andB, Bw.orB, Bw.asB, Bw.blM, x_law_6, a]) (by rw [List.length_nil, Nat.zero_add]; exact rl)
    rw [List.nil_append, List.filter_eq_self.mpr (fun _ _ => rfl)] at c1
    have e1 : ((List.range (3 * m)).map fun i => D.int (i : Nat)).map (constD (.str (dueP order false 0))) = ((List.range (3 * m)).map (dueP order false)).map D.str := by
      rw [List.map_map, List.map_map]; rfl
    rw [e1] at c1
    have l1 := lcF_run (rg3_run (m := m) (by omega) s0 s1 [s3, s4, s5, s6, .v (.kt (order.map D.str)), .v (.str (kindS false)), s9, .v (.lst (((List.range (3 * m)).map (dueP order false)).map D.str)), s11, s12, s13, s14] h) c1
    rw [bring12] at l1
    refine ⟨_, seq_rt ((if_tt (kind_eq h false)).trans (rt_run (calm_run (cns_run ?_ (cns_run l1 rfl)) rfl isr)))⟩
    rfl
  | true =>
    have c1 := lcM_run (σ := [s0, s1, .v (.int m), s3, s4, .un, s6, .v (.kt (order.map D.str)), .v (.str (kindS true)), s9, .v (.lst (((List.range (3 * m)).map (dueP order true)).map D.str)), s11, s12, s13, s14]) (h := h) (vs := [5]) (t := gnm 5) (c := x_law_7) (e := x_law_8) (fun _ => true) (dueD order) ((List.range (3 * m)).map fun i => D.int (i : Nat)) [] (fun d hd => by
      obtain ⟨i, hi, rfl⟩ := List.mem_map.mp hd
      refine ⟨_, rfl, rfl, fun _ => ?_, rfl⟩
      have a := at_ (i % m) (Nat.mod_lt _ hm0)
      have a : atI (order.map D.str) ((i % m : Nat) : Int) = some (.str (dueP order true i)) := by
        rw [a]; unfold dueP hdP; rw [if_pos rfl, hol]
      have b := mod_run (i := i) hm0 (by omega) h
      show x_law_8 _ h = R.ok (.str (dueP order true (i : Int).toNat)) _ h
      rw [Int.toNat_natCast]
      generalize dueP order true i = z at *
      generalize order.map D.str = dor at *
      generalize ((List.range (3 * m)).map (dueP order true)).map D.str = dl at *
      generalize i % m = im at *
      unfold x_law_8
      generalize m__law_mod = f at *
      simp (config := { decide := true }) [Bw.fnD, Bw.slots0, Bw.seqM, Bw.ifM, Bw.op2b, Bw.op2, Bw.op2c, Bw.bnd, Bw.ret, Bw.ixN', Bw.has, Bw.peek, Bw.deref, Bw.nm, Bw.setM, Bw.vM, Bw.oM, Bw.un1, Bw.drf, Bw.pk, Bw.opt, Bw.stnM, Bw.stN, Bw.stC, Bw.rtM, Bw.fldM, Bw.fldD, Bw.insOf, Bw.notB, in_dic, Bw.notInD, Bw.dget, Bw.toKey, Bw.ixC, Bw.ixM, Bw.calM, Bw.cal, Bw.metM, Bw.pick, Bw.cns, Bw.drpM, Bw.isN, Bw.andB, Bw.orB, Bw.asB, Bw.blM, b, a]) (by rw [List.length_nil, Nat.zero_add]; exact rl)
    rw [List.nil_append, List.filter_eq_self.mpr (fun _ _ => rfl)] at c1
    have e1 : ((List.range (3 * m)).map fun i => D.int (i : Nat)).map (dueD order) = ((List.range (3 * m)).map (dueP order true)).map D.str := by
      rw [List.map_map, List.map_map]
      refine List.map_congr_left fun i _ => ?_
      show D.str (dueP order true (i : Int).toNat) = _
      rw [Int.toNat_natCast]; rfl
    rw [e1] at c1
    have l1 := lcF_run (rg3_run (m := m) (by omega) s0 s1 [s3, s4, s5, s6, .v (.kt (order.map D.str)), .v (.str (kindS true)), s9, .v (.lst (((List.range (3 * m)).map (dueP order true)).map D.str)), s11, s12, s13, s14] h) c1
    rw [bring5] at l1
    refine ⟨_, seq_run ((if_ff (kind_eq h true)).trans rfl) (rt_run (calm_run (cns_run ?_ (cns_run l1 rfl)) rfl isr))⟩
    rfl
end Law
namespace Law
open L2 Bw
open PySem (Str)
theorem law_true (xs : List Int) (hxs : xs.length ≤ 63) : ∃ h', m_law [.scr (xs.map D.int)] [] = .ret (.bl true) h' := by
  obtain ⟨d, k1, c1, hd0, hd3, hk1, dr1⟩ := draw xs (k := 0) (c := 0) (n := 3) (hr := []) (Int.le_refl _) (by decide) (by decide)
  obtain ⟨d, rfl⟩ := Int.eq_ofNat_of_zero_le hd0
  have t2 := S2 (s0 := .v (.scr (xs.map D.int))) dr1
  have em : (2 : Int) + (d : Nat) = ((2 + d : Nat) : Int) := by omega
  rw [em] at t2
  have hm : 2 + d ≤ 4 := by omega
  have hm0 : 0 < 2 + d := by omega
  generalize 2 + d = m at *
  -- the places
  have p2 : ∀ i, P2.lookup (sN i) = none ∨ 1000 ≤ i ∨ True := fun _ => .inr (.inr trivial)
  have hlook : ∀ i ∈ List.range m, i < 1000 ∧ P2.lookup (sN i) = none := fun i hi => by
    have him : i < m := List.mem_range.mp hi
    refine ⟨by omega, ?_⟩
    have nd := nd4
    obtain ⟨n1, n2⟩ := List.nodup_cons.mp nd
    obtain ⟨n3, n4⟩ := List.nodup_cons.mp n2
    have hin : sN i ∈ (List.range 4).map sN := List.mem_map.mpr ⟨i, List.mem_range.mpr (by omega), rfl⟩
    have q1 : (sN i == jN) = false := by
      rw [beq_eq_false_iff_ne]; intro z; exact n1 (List.mem_cons_of_mem _ (z ▸ hin))
    have q2 : (sN i == oN) = false := by
      rw [beq_eq_false_iff_ne]; intro z; exact n3 (z ▸ hin)
    unfold P2
    rw [List.lookup_cons, q1, List.lookup_cons, q2]; rfl
  obtain ⟨Q, s5, s6, k2, c2, q1, q2, hk2, l5⟩ := law0_loop xs (s0 := .v (.scr (xs.map D.int))) (s2 := .v (.int m)) (r := [.un, .un, .un, .un, .un, .un, .un, .un]) (hr := []) (List.range m) P2 [] k1 c1 .un .un hk1 List.nodup_range hlook (by rw [List.length_range]; show 2 + m < 1000; omega) (by rw [List.length_range, List.length_nil]; omega)
  rw [List.nil_append] at l5
  have ev := ev_of hm hm0 q1 q2
  have hlen : ((List.range m).map sN).length = m := by rw [List.length_map, List.length_range]
  generalize (List.range m).map sN = ns at *
  have e5 : rg1 (nm 2) (.v (.scr (xs.map D.int)) :: .v (.ref 0) :: .v (.int m) :: .own (.dic false (dicS Pl.d P2)) :: .own (.lst (([] : List Str).map D.str)) :: .un :: .un :: [.un, .un, .un, .un, .un, .un, .un, .un]) [tp (xs.map D.int) k1 c1] = _ := rg_run m (by omega) rfl
  have t5 := z3 e5 l5
  -- the order
  obtain ⟨order, k3, c3, ho, hk3, sh⟩ := shuf_run D.str xs ns (k := k2) (c := c2) (hr := []) hk2 (by rw [hlen]; exact Nat.le_trans hm (by decide))
  have t6 := (S6b (S6a (s0 := .v (.scr (xs.map D.int))) (s2 := .v (.int m)) (s3 := .own (.dic false (dicS Pl.d (P2 ++ Q)))) (s5 := s5) (s6 := s6) (r := [.un, .un, .un, .un, .un, .un, .un]) sh))
  -- by turns or not
  obtain ⟨d2, k4, c4, hd20, hd22, hk4, dr2⟩ := draw xs (k := k3) (c := c3) (n := 2) (hr := []) hk3 (by decide) (by decide)
  have t7 := S7 (s0 := .v (.scr (xs.map D.int))) (s2 := .v (.int m)) (s3 := .own (.dic false (dicS Pl.d (P2 ++ Q)))) (s4 := .v (.lst (ns.map D.str))) (s5 := s5) (s6 := s6) (s7 := .v (.kt (order.map D.str))) (r := [.un, .un, .un, .un, .un, .un]) hd20 hd22 dr2
  generalize decide (d2 = 0) = tr at *
  -- plant and state
  have ok := ev.plantOk (tr := tr) ho
  obtain ⟨F, p, s, b, t, h8, t8, iv⟩ := S8 ok [tp (xs.map D.int) k4 c4] (s0 := .v (.scr (xs.map D.int))) (s1 := .v (.ref 0)) (s2 := .v (.int m)) (s4 := .v (.lst (ns.map D.str))) (s5 := s5) (s6 := s6) (r := [.un, .un, .un, .un, .un])
  have t9 := S9 (h := h8) (s0 := .v (.scr (xs.map D.int))) (s1 := .v (.ref 0)) (s2 := .v (.int m)) (s3 := .v (.dic false (dicS Pl.d (P2 ++ Q)))) (s4 := .v (.lst (ns.map D.str))) (s5 := s5) (s6 := s6) (s7 := .v (.kt (order.map D.str))) (s8 := .v (.str (kindS tr))) (s9 := .v (.ref s)) (s12 := .un) (s13 := .un) (s14 := .un)
  have jP : jN ∈ names (P2 ++ Q) := by rw [ev.nm]; exact List.mem_cons_self
  have oP : oN ∈ names (P2 ++ Q) := by rw [ev.nm]; exact List.mem_cons_of_mem _ List.mem_cons_self
  have hol : order.length = m := by rw [ho.length_eq, hlen]
  obtain ⟨h10, num, q6, q12, q13, q14, l10⟩ := turns66 ev ho (3 * m) 0 h8 (B0 (P2 ++ Q)) (T0 (P2 ++ Q)) 0 0 [] s6 .un .un .un iv (by omega) (by omega) (by rw [List.length_nil]; omega) ⟨[], B0_lookup jP, Nat.zero_le _⟩ ⟨[], B0_lookup oP, Nat.zero_le _⟩ (by rw [T0_lookup jP, Nat.zero_mod]; split <;> rfl)
    (s0 := .v (.scr (xs.map D.int))) (s1 := .v (.ref 0)) (s2 := .v (.int m)) (s3 := .v (.dic false (dicS Pl.d (P2 ++ Q)))) (s5 := s5) (s7 := .v (.kt (order.map D.str))) (s8 := .v (.str (kindS tr)))
  rw [← List.range_eq_range', List.nil_append] at l10
  have t10 := z3 (rg3_run (m := m) (by omega) (.v (.scr (xs.map D.int))) (.v (.ref 0)) [.v (.dic false (dicS Pl.d (P2 ++ Q))), .v (.lst (ns.map D.str)), s5, s6, .v (.kt (order.map D.str)), .v (.str (kindS tr)), .v (.ref s), .v (.lst (([] : List Str).map D.str)), .v (.int 0), .un, .un, .un] h8) l10
  obtain ⟨σ', t11⟩ := end66 ev ho hlen.symm h10 (tr := tr) (s0 := .v (.scr (xs.map D.int))) (s1 := .v (.ref 0)) (s3 := .v (.dic false (dicS Pl.d (P2 ++ Q)))) (s4 := .v (.lst (ns.map D.str))) (s5 := s5) (s6 := q6) (s9 := .v (.ref s)) (s11 := .v (.int num)) (s12 := q12) (s13 := q13) (s14 := q14)
  refine ⟨h10, ?_⟩
  unfold m_law b_law
  exact fn_ret (seq_run (S1 xs) (seq_run t2 (seq_run S3 (seq_run S4 (seq_run t5 (seq_run t6 (seq_run t7 (seq_run t8 (seq_run t9 (seq_run t10 t11))))))))))
end Law
open PySem PySem.W PyProof.Rows in
set_option maxRecDepth 100000 in
set_option maxHeartbeats 0 in
theorem PySem.Challenge.cw_bagwise_k66_whole_fair_turns_holds : PySem.Challenge.rw_bagwise_k66_whole_fair_turns.Holds := by
  w_on; o_law; k_head; (case hw => w_witness2)
  k_fill
  refine Bw.walk (l := PySem.Challenge.rw_bagwise_k66_whole_fair_turns) (k := 8) (m := Law.m_law) rfl rfl ⟨rfl, by decide, by decide⟩ Law.law_true (fun w h Y => PySem.W.kIn_of Y) ?F
  case F =>
    intro w mg fa h KX G hmg
    refine' Law.all_mk KX G hmg ?n_all ?n_bool ?n_dict ?n_int ?n_isinstance ?n_len ?n_list ?n_range ?n_set ?n_sorted ?n_str ?n_tuple ?g_KINDS ?gl_KINDS ?g_LETTERS ?g_NAME_MOST ?g_PLACES_MOST ?g_ROOM_MOST ?c_Plant ?pg_Plant ?hd_Plant ?po_Plant ?sa_Plant ?c_State ?pg_State ?hd_State ?po_State ?sa_State ?na_Plant__from ?na_Plant_places ?na_Plant_ways ?na_State__bags ?na_State__shut ?na_State__turns ?na_State_plant ?a_Plant_place ?i_Plant_place ?l_Plant_place ?o_Plant_place ?k_Plant_place ?a_State_empty ?i_State_empty ?l_State_empty ?o_State_empty ?k_State_empty ?a_Plant_room ?i_Plant_room ?l_Plant_room ?o_Plant_room ?k_Plant_room ?a_State_bags ?i_State_bags ?l_State_bags ?o_State_bags ?k_State_bags ?a_State_is_full ?i_State_is_full ?l_State_is_full ?o_State_is_full ?k_State_is_full ?a_Plant_names ?i_Plant_names ?l_Plant_names ?o_Plant_names ?k_Plant_names ?a_State_all_bags ?i_State_all_bags ?l_State_all_bags ?o_State_all_bags ?k_State_all_bags ?a_State_where ?i_State_where ?l_State_where ?o_State_where ?k_State_where ?a_State_put ?i_State_put ?l_State_put ?o_State_put ?k_State_put ?a__law_draw ?l__law_draw ?o__law_draw ?k__law_draw ?a__law_is ?l__law_is ?o__law_is ?k__law_is ?a__law_mod ?l__law_mod ?o__law_mod ?k__law_mod ?a__law_shuffled ?l__law_shuffled ?o__law_shuffled ?k__law_shuffled ?a__law_tape ?l__law_tape ?o__law_tape ?k__law_tape ?a_Plant_sources ?i_Plant_sources ?l_Plant_sources ?o_Plant_sources ?k_Plant_sources ?a_Plant_way ?i_Plant_way ?l_Plant_way ?o_Plant_way ?k_Plant_way ?a_State_moved ?i_State_moved ?l_State_moved ?o_State_moved ?k_State_moved ?a_State_turn ?i_State_turn ?l_State_turn ?o_State_turn ?k_State_turn ?a_in_order ?l_in_order ?o_in_order ?k_in_order ?a_State_shut_places ?i_State_shut_places ?l_State_shut_places ?o_State_shut_places ?k_State_shut_places ?a_Plant_target ?i_Plant_target ?l_Plant_target ?o_Plant_target ?k_Plant_target ?a_wanted ?l_wanted ?o_wanted ?k_wanted ?a_wants ?l_wants ?o_wants ?k_wants ?a_winners ?l_winners ?o_winners ?k_winners ?a_moves_of ?l_moves_of ?o_moves_of ?k_moves_of ?a_step ?l_step ?o_step ?k_step ?a_is_name ?l_is_name ?o_is_name ?k_is_name ?a_place_fits ?l_place_fits ?o_place_fits ?k_place_fits ?a_targets_of ?l_targets_of ?o_targets_of ?k_targets_of ?a_way_fits ?l_way_fits ?o_way_fits ?k_way_fits ?a_Plant__check ?i_Plant__check ?l_Plant__check ?o_Plant__check ?k_Plant__check ?a_Plant___init__ ?i_Plant___init__ ?mk_Plant___init__ ?kc_Plant___init__ ?l_Plant___init__ ?o_Plant___init__ ?k_Plant___init__ ?a_State___init__ ?i_State___init__ ?mk_State___init__ ?kc_State___init__ ?l_State___init__ ?o_State___init__ ?k_State___init__ ?a_law ?l_law ?o_law ?k_law
    (case n_all => k_is)
    (case n_bool => k_is)
    (case n_dict => k_is)
    (case n_int => k_is)
    (case n_isinstance => k_is)
    (case n_len => k_is)
    (case n_list => k_is)
    (case n_range => k_is)
    (case n_set => k_is)
    (case n_sorted => k_is)
    (case n_str => k_is)
    (case n_tuple => k_is)
    (case g_KINDS => k_is)
    (case gl_KINDS => k_is)
    (case g_LETTERS => k_is)
    (case g_NAME_MOST => k_is)
    (case g_PLACES_MOST => k_is)
    (case g_ROOM_MOST => k_is)
    (case c_Plant => k_is)
    (case pg_Plant => k_is)
    (case hd_Plant => k_is)
    (case po_Plant => k_is)
    (case sa_Plant => k_is)
    (case c_State => k_is)
    (case pg_State => k_is)
    (case hd_State => k_is)
    (case po_State => k_is)
    (case sa_State => k_is)
    (case na_Plant__from => k_is)
    (case na_Plant_places => k_is)
    (case na_Plant_ways => k_is)
    (case na_State__bags => k_is)
    (case na_State__shut => k_is)
    (case na_State__turns => k_is)
    (case na_State_plant => k_is)
    (case a_Plant_place => k_is)
    (case i_Plant_place => k_is)
    (case l_Plant_place => k_is)
    (case o_Plant_place => k_is)
    (case k_Plant_place => k_is)
    (case a_State_empty => k_is)
    (case i_State_empty => k_is)
    (case l_State_empty => k_is)
    (case o_State_empty => k_is)
    (case k_State_empty => k_is)
    (case a_Plant_room => k_is)
    (case i_Plant_room => k_is)
    (case l_Plant_room => k_is)
    (case o_Plant_room => k_is)
    (case k_Plant_room => k_is)
    (case a_State_bags => k_is)
    (case i_State_bags => k_is)
    (case l_State_bags => k_is)
    (case o_State_bags => k_is)
    (case k_State_bags => k_is)
    (case a_State_is_full => k_is)
    (case i_State_is_full => k_is)
    (case l_State_is_full => k_is)
    (case o_State_is_full => k_is)
    (case k_State_is_full => k_is)
    (case a_Plant_names => k_is)
    (case i_Plant_names => k_is)
    (case l_Plant_names => k_is)
    (case o_Plant_names => k_is)
    (case k_Plant_names => k_is)
    (case a_State_all_bags => k_is)
    (case i_State_all_bags => k_is)
    (case l_State_all_bags => k_is)
    (case o_State_all_bags => k_is)
    (case k_State_all_bags => k_is)
    (case a_State_where => k_is)
    (case i_State_where => k_is)
    (case l_State_where => k_is)
    (case o_State_where => k_is)
    (case k_State_where => k_is)
    (case a_State_put => k_is)
    (case i_State_put => k_is)
    (case l_State_put => k_is)
    (case o_State_put => k_is)
    (case k_State_put => k_is)
    (case a__law_draw => k_is)
    (case l__law_draw => k_is)
    (case o__law_draw => k_is)
    (case k__law_draw => k_is)
    (case a__law_is => k_is)
    (case l__law_is => k_is)
    (case o__law_is => k_is)
    (case k__law_is => k_is)
    (case a__law_mod => k_is)
    (case l__law_mod => k_is)
    (case o__law_mod => k_is)
    (case k__law_mod => k_is)
    (case a__law_shuffled => k_is)
    (case l__law_shuffled => k_is)
    (case o__law_shuffled => k_is)
    (case k__law_shuffled => k_is)
    (case a__law_tape => k_is)
    (case l__law_tape => k_is)
    (case o__law_tape => k_is)
    (case k__law_tape => k_is)
    (case a_Plant_sources => k_is)
    (case i_Plant_sources => k_is)
    (case l_Plant_sources => k_is)
    (case o_Plant_sources => k_is)
    (case k_Plant_sources => k_is)
    (case a_Plant_way => k_is)
    (case i_Plant_way => k_is)
    (case l_Plant_way => k_is)
    (case o_Plant_way => k_is)
    (case k_Plant_way => k_is)
    (case a_State_moved => k_is)
    (case i_State_moved => k_is)
    (case l_State_moved => k_is)
    (case o_State_moved => k_is)
    (case k_State_moved => k_is)
    (case a_State_turn => k_is)
    (case i_State_turn => k_is)
    (case l_State_turn => k_is)
    (case o_State_turn => k_is)
    (case k_State_turn => k_is)
    (case a_in_order => k_is)
    (case l_in_order => k_is)
    (case o_in_order => k_is)
    (case k_in_order => k_is)
    (case a_State_shut_places => k_is)
    (case i_State_shut_places => k_is)
    (case l_State_shut_places => k_is)
    (case o_State_shut_places => k_is)
    (case k_State_shut_places => k_is)
    (case a_Plant_target => k_is)
    (case i_Plant_target => k_is)
    (case l_Plant_target => k_is)
    (case o_Plant_target => k_is)
    (case k_Plant_target => k_is)
    (case a_wanted => k_is)
    (case l_wanted => k_is)
    (case o_wanted => k_is)
    (case k_wanted => k_is)
    (case a_wants => k_is)
    (case l_wants => k_is)
    (case o_wants => k_is)
    (case k_wants => k_is)
    (case a_winners => k_is)
    (case l_winners => k_is)
    (case o_winners => k_is)
    (case k_winners => k_is)
    (case a_moves_of => k_is)
    (case l_moves_of => k_is)
    (case o_moves_of => k_is)
    (case k_moves_of => k_is)
    (case a_step => k_is)
    (case l_step => k_is)
    (case o_step => k_is)
    (case k_step => k_is)
    (case a_is_name => k_is)
    (case l_is_name => k_is)
    (case o_is_name => k_is)
    (case k_is_name => k_is)
    (case a_place_fits => k_is)
    (case l_place_fits => k_is)
    (case o_place_fits => k_is)
    (case k_place_fits => k_is)
    (case a_targets_of => k_is)
    (case l_targets_of => k_is)
    (case o_targets_of => k_is)
    (case k_targets_of => k_is)
    (case a_way_fits => k_is)
    (case l_way_fits => k_is)
    (case o_way_fits => k_is)
    (case k_way_fits => k_is)
    (case a_Plant__check => k_is)
    (case i_Plant__check => k_is)
    (case l_Plant__check => k_is)
    (case o_Plant__check => k_is)
    (case k_Plant__check => k_is)
    (case a_Plant___init__ => k_is)
    (case i_Plant___init__ => k_is)
    (case mk_Plant___init__ => k_is)
    (case kc_Plant___init__ => k_is)
    (case l_Plant___init__ => k_is)
    (case o_Plant___init__ => k_is)
    (case k_Plant___init__ => k_is)
    (case a_State___init__ => k_is)
    (case i_State___init__ => k_is)
    (case mk_State___init__ => k_is)
    (case kc_State___init__ => k_is)
    (case l_State___init__ => k_is)
    (case o_State___init__ => k_is)
    (case k_State___init__ => k_is)
    (case a_law => k_is)
    (case l_law => k_is)
    (case o_law => k_is)
    (case k_law => k_is)
