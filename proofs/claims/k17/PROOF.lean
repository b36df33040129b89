import PyProof.Rows.All
import Wide.All
import OpenK.AllK
import Wide.FinOn
import HandS.ForMost
import HandS.ForExc
import HandS.HotCalls
import HandS.IsInst
import HandS.SortInts
import HandS.WordsExc
import HandS.TupAny
import HandS.TupMul
import KE.DataEq
import KE.DataFind
import HandS.Conv
import HandS.RaiseMore
import HandS.ExcIs
import HandS.TryOnly
import HandS.Defaults
import HandS.Head0
import HandS.Head1
import HandS.Head2
import HandS.HeadEnd
import HandS.HeadHook1
import HandS.HeadHook2
import HandS.HeadHook3
import HandS.HeadHook4
import PySem.Challenge.RW_answerpile_k17_runs
set_option Elab.async false
set_option maxRecDepth 100000
set_option maxHeartbeats 0
section
set_option Elab.async false
set_option linter.all false
set_option maxRecDepth 100000
set_option autoImplicit false
namespace DM
open PySem PySem.Spec L2

/-! ### data, store, slots, results -/
inductive D where
  | non | bl (b : Bool) | int (i : Int) | str (x : Str)
  | tup (ds : List D) | lst (ds : List D) | dic (kvs : List (Key × D))
  | ref (i : Nat) | own (k : Nat)
  | scr (ds : List D)
  deriving Inhabited
inductive Cell where
  | lst (ds : List D) | dic (kvs : List (Key × D)) | obj (C : Str) (fs : List (Str × D))
structure Sto where
  c : Nat → Option Cell
  nx : Nat
def Sto.set (S : Sto) (i : Nat) (x : Option Cell) : Sto := ⟨fun j => if j = i then x else S.c j, S.nx⟩
def Sto.new (S : Sto) (x : Cell) : Sto := ⟨fun j => if j = S.nx then some x else S.c j, S.nx + 1⟩
inductive Sl where | no | v (d : D) | ol (ds : List D) | od (kvs : List (Key × D)) | x (a : Addr)
  deriving Inhabited
inductive R (α : Type) where | ok (a : α) (S : Sto) | exc (c : Str) (S : Sto) | stuck
abbrev DM (α : Type) := List Sl → Sto → R α
/-- what a def hands back: a value, or a fresh list that nobody else holds -/
inductive RV where | val (d : D) | ol (ds : List D)
inductive RS where | nx (δ : List Sl) (S : Sto) | brk (δ : List Sl) (S : Sto) | cnt (δ : List Sl) (S : Sto) | ret (r : RV) (S : Sto) | exc (c : Str) (S : Sto) | stuck
abbrev DS := List Sl → Sto → RS
abbrev Sem := List D → Sto → R RV

/-! ### the relation -/
structure Wd where
  B : Hp
  m : Nat → Option Addr
structure Wd.Le (W W' : Wd) : Prop where
  b : Same W.B W'.B
  m : ∀ i a, W.m i = some a → W'.m i = some a
theorem Wd.Le.refl (W : Wd) : W.Le W := ⟨Same.refl _, fun _ _ h => h⟩
theorem Wd.Le.trans {W W1 W2 : Wd} (a : W.Le W1) (b : W1.Le W2) : W.Le W2 := ⟨a.b.trans b.b, fun i x h => b.m i x (a.m i x h)⟩

mutual
inductive PV (K : PySem.W.Frag) (W : Wd) : D → V → Prop
  | non : PV K W .non .non
  | bl (b : Bool) : PV K W (.bl b) (.bl b)
  | int (i : Int) : PV K W (.int i) (.int i)
  | str (x : Str) : PV K W (.str x) (.str x)
  | tup {a : Addr} {vs : List V} {ds : List D} : SqT K W.B a vs → PVs K W ds vs → PV K W (.tup ds) (.ref a)
  | lst {a : Addr} {vs : List V} {ds : List D} : W.B a = some (.lst vs) → PVs K W ds vs → PV K W (.lst ds) (.ref a)
  | scr {a : Addr} {vs : List V} {ds : List D} : SqL K W.B a vs → PVs K W ds vs → PV K W (.scr ds) (.ref a)
  | dic {a : Addr} {ls : List (Key × V)} {kvs : List (Key × D)} : W.B a = some (.dK ls) → PVk K W kvs ls → PV K W (.dic kvs) (.ref a)
  | ref {i : Nat} {a : Addr} : W.m i = some a → PV K W (.ref i) (.ref a)
inductive PVs (K : PySem.W.Frag) (W : Wd) : List D → List V → Prop
  | nil : PVs K W [] []
  | cons {d : D} {v : V} {ds : List D} {vs : List V} : PV K W d v → PVs K W ds vs → PVs K W (d :: ds) (v :: vs)
inductive PVk (K : PySem.W.Frag) (W : Wd) : List (Key × D) → List (Key × V) → Prop
  | nil : PVk K W [] []
  | cons {k : Key} {d : D} {v : V} {ds : List (Key × D)} {vs : List (Key × V)} : PV K W d v → PVk K W ds vs → PVk K W ((k, d) :: ds) ((k, v) :: vs)
end
inductive PVf (K : PySem.W.Frag) (W : Wd) : List (Str × D) → List (Str × V) → Prop
  | nil : PVf K W [] []
  | cons {k : Str} {d : D} {v : V} {ds : List (Str × D)} {vs : List (Str × V)} : PV K W d v → PVf K W ds vs → PVf K W ((k, d) :: ds) ((k, v) :: vs)

theorem sameT {K : PySem.W.Frag} {H H' : Hp} {a : Addr} {xs : List V} (e : Same H H') (h : SqT K H a xs) : SqT K H' a xs := by
  rcases h with (h | ⟨o, h⟩) | h
  · exact .inl (.inl (e _ _ h))
  · exact .inl (.inr ⟨o, e _ _ h⟩)
  · exact .inr h
section
variable {K : PySem.W.Frag} {W W' : Wd}
mutual
theorem PV.mono (l : W.Le W') : ∀ {d : D} {v : V}, PV K W d v → PV K W' d v
  | _, _, .non => .non
  | _, _, .bl b => .bl b
  | _, _, .int i => .int i
  | _, _, .str x => .str x
  | _, _, .tup h r => .tup (sameT l.b h) (PVs.mono l r)
  | _, _, .lst h r => .lst (l.b _ _ h) (PVs.mono l r)
  | _, _, .scr h r => .scr (l.b.seq h) (PVs.mono l r)
  | _, _, .dic h r => .dic (l.b _ _ h) (PVk.mono l r)
  | _, _, .ref h => .ref (l.m _ _ h)
theorem PVs.mono (l : W.Le W') : ∀ {d : List D} {v : List V}, PVs K W d v → PVs K W' d v
  | _, _, .nil => .nil
  | _, _, .cons h r => .cons (PV.mono l h) (PVs.mono l r)
theorem PVk.mono (l : W.Le W') : ∀ {d : List (Key × D)} {v : List (Key × V)}, PVk K W d v → PVk K W' d v
  | _, _, .nil => .nil
  | _, _, .cons h r => .cons (PV.mono l h) (PVk.mono l r)
end
theorem PVf.mono (l : W.Le W') : ∀ {d : List (Str × D)} {v : List (Str × V)}, PVf K W d v → PVf K W' d v
  | _, _, .nil => .nil
  | _, _, .cons h r => .cons (PV.mono l h) (PVf.mono l r)
theorem PVs.length : ∀ {d : List D} {v : List V}, PVs K W d v → v.length = d.length
  | _, _, .nil => rfl
  | _, _, .cons _ r => by simp [PVs.length r]
theorem PVk.length : ∀ {d : List (Key × D)} {v : List (Key × V)}, PVk K W d v → v.length = d.length
  | _, _, .nil => rfl
  | _, _, .cons _ r => by simp [PVk.length r]
theorem PVf.length : ∀ {d : List (Str × D)} {v : List (Str × V)}, PVf K W d v → v.length = d.length
  | _, _, .nil => rfl
  | _, _, .cons _ r => by simp [PVf.length r]
theorem PVs.append : ∀ {d d' : List D} {v v' : List V}, PVs K W d v → PVs K W d' v' → PVs K W (d ++ d') (v ++ v')
  | _, _, _, _, .nil, s => s
  | _, _, _, _, .cons h r, s => .cons h (PVs.append r s)
theorem PVs.get : ∀ {d : List D} {v : List V} {i : Nat} {x : D}, PVs K W d v → d[i]? = some x → ∃ y, v[i]? = some y ∧ PV K W x y
  | _, _, _, _, .nil, e => by simp at e
  | _, _, 0, _, .cons h r, e => by simp at e; subst e; exact ⟨_, rfl, h⟩
  | _, _, i + 1, x, .cons h r, e => by
    obtain ⟨y, h1, h2⟩ := PVs.get (i := i) (x := x) r (by simpa using e)
    exact ⟨y, by simpa using h1, h2⟩
theorem PVs.set {x : D} {y : V} (q : PV K W x y) : ∀ {d : List D} {v : List V} (i : Nat), PVs K W d v → PVs K W (d.set i x) (v.set i y)
  | _, _, _, .nil => .nil
  | _, _, 0, .cons _ r => .cons q r
  | _, _, i + 1, .cons h r => .cons h (PVs.set q i r)
theorem PVs.take : ∀ {d : List D} {v : List V} (i : Nat), PVs K W d v → PVs K W (d.take i) (v.take i)
  | _, _, 0, _ => .nil
  | _, _, _ + 1, .nil => .nil
  | _, _, i + 1, .cons h r => .cons h (PVs.take i r)
theorem PVs.drop : ∀ {d : List D} {v : List V} (i : Nat), PVs K W d v → PVs K W (d.drop i) (v.drop i)
  | _, _, 0, h => h
  | _, _, _ + 1, .nil => .nil
  | _, _, i + 1, .cons h r => PVs.drop i r
theorem PVs.inv : ∀ {d : List D} {v : List V}, PVs K W d v → v = [] ∧ d = [] ∨ ∃ x y ds vs, d = x :: ds ∧ v = y :: vs ∧ PV K W x y ∧ PVs K W ds vs
  | _, _, .nil => .inl ⟨rfl, rfl⟩
  | _, _, .cons h r => .inr ⟨_, _, _, _, rfl, rfl, h, r⟩
theorem PVf.look : ∀ {d : List (Str × D)} {v : List (Str × V)} {f : Str}, PVf K W d v → (∀ x, d.lookup f = some x → ∃ y, v.lookup f = some y ∧ PV K W x y) ∧ (d.lookup f = none → v.lookup f = none)
  | _, _, _, .nil => ⟨fun _ e => (nomatch e), fun _ => rfl⟩
  | (k, d) :: ds, (_, v) :: vs, f, .cons h r => by
    simp only [List.lookup_cons]
    cases e : f == k with
    | true => exact ⟨fun x q => ⟨v, rfl, by cases q; exact h⟩, fun q => (nomatch q)⟩
    | false => exact PVf.look r
end

/-- a cell as it stands -/
def CellH (K : PySem.W.Frag) (mg : Str → Option Value) (W : Wd) (H : Hp) (a : Addr) : Cell → Prop
  | .lst ds => ∃ vs, H a = some (.lst vs) ∧ PVs K W ds vs
  | .dic kvs => ∃ ls, H a = some (.dK ls) ∧ PVk K W kvs ls
  | .obj C fs => ∃ (Ca dx : Addr) (ls : List (Str × V)), mg C = some (.ref Ca) ∧ H a = some (.ins Ca dx ls) ∧ PVf K W fs ls
structure RelH (K : PySem.W.Frag) (mg : Str → Option Value) (W : Wd) (F : Hp) (S : Sto) (H : Hp) : Prop where
  pers : Same W.B H
  frame : Same F H
  cell : ∀ i c, S.c i = some c → ∃ a, W.m i = some a ∧ CellH K mg W H a c ∧ W.B a = none
  mF : ∀ i a, W.m i = some a → F a = none
  fb : ∀ a o, F a = some o → W.B a = none
  inj : ∀ i j a, W.m i = some a → W.m j = some a → i = j
  nxm : ∀ i a, W.m i = some a → i < S.nx
  mt : ∀ i a, W.m i = some a → H a ≠ none
/-- own slots -/
structure OwnAt (W : Wd) (F : Hp) (a : Addr) : Prop where
  b : W.B a = none
  f : F a = none
  m : ∀ i, W.m i ≠ some a
def SlotH (K : PySem.W.Frag) (W : Wd) (F H : Hp) : Sl → Option V → Prop
  | .no, _ => True
  | .v d, o => ∃ x, o = some x ∧ PV K W d x
  | .x a, o => o = some (.ref a)
  | .ol ds, o => ∃ a vs, o = some (.ref a) ∧ H a = some (.lst vs) ∧ PVs K W ds vs ∧ OwnAt W F a
  | .od kvs, o => ∃ a ls, o = some (.ref a) ∧ H a = some (.dK ls) ∧ PVk K W kvs ls ∧ OwnAt W F a
def Sl.isOwn : Sl → Bool
  | .ol _ => true
  | .od _ => true
  | _ => false
structure Rel (K : PySem.W.Frag) (mg : Str → Option Value) (W : Wd) (F : Hp) (δ : List Sl) (S : Sto) (σ : St) (H : Hp) : Prop extends RelH K mg W F S H where
  len : δ.length = σ.length
  slot : ∀ (k : Nat) (s : Sl) (o : Option V), δ[k]? = some s → σ[k]? = some o → SlotH K W F H s o
  sep : ∀ (j k : Nat) (s t : Sl) (a : Addr), δ[j]? = some s → δ[k]? = some t → s.isOwn = true → t.isOwn = true → σ[j]? = some (some (.ref a)) → σ[k]? = some (some (.ref a)) → j = k
/-- an expression's value: data, or the own list in a slot -/
def VV (K : PySem.W.Frag) (W : Wd) (σ : St) (d : D) (v : V) : Prop := PV K W d v ∨ ∃ k, d = .own k ∧ σ[k]? = some (some v)

section
variable {K : PySem.W.Frag} {mg : Str → Option Value} {W W' : Wd} {F F' H H' : Hp} {S S' : Sto} {δ δ' : List Sl} {σ σ' : St} {d : D} {v : V}
theorem VV.mono (l : W.Le W') (h : VV K W σ d v) : VV K W' σ d v := h.imp (fun z => z.mono l) id
theorem SlotH.mono {s : Sl} {o : Option V} (l : W.Le W') (hH : ∀ a u, OwnAt W F a → H a = some u → H' a = some u ∧ OwnAt W' F' a) (h : SlotH K W F H s o) : SlotH K W' F' H' s o := by
  cases s with
  | no => trivial
  | x a => exact h
  | v d => obtain ⟨x, e, p⟩ := h; exact ⟨x, e, p.mono l⟩
  | ol ds => obtain ⟨a, vs, e, q, p, w⟩ := h; obtain ⟨q', w'⟩ := hH a _ w q; exact ⟨a, vs, e, q', p.mono l, w'⟩
  | od ds => obtain ⟨a, vs, e, q, p, w⟩ := h; obtain ⟨q', w'⟩ := hH a _ w q; exact ⟨a, vs, e, q', p.mono l, w'⟩
/-- all tracked is kept, something fresh came -/
theorem CellH.mono {a : Addr} {c : Cell} (l : W.Le W') (e : ∀ u, H a = some u → H' a = some u) (h : CellH K mg W H a c) : CellH K mg W' H' a c := by
  cases c with
  | lst ds => obtain ⟨vs, q, p⟩ := h; exact ⟨vs, e _ q, p.mono l⟩
  | dic ds => obtain ⟨vs, q, p⟩ := h; exact ⟨vs, e _ q, p.mono l⟩
  | obj C fs => obtain ⟨Ca, dx, ls, g, q, p⟩ := h; exact ⟨Ca, dx, ls, g, e _ q, p.mono l⟩
def Wd.put (W : Wd) (p : Addr) (o : HO) : Wd := ⟨upd W.B p o, W.m⟩
theorem le_put {p : Addr} {o : HO} (hb : W.B p = none) : W.Le (W.put p o) := ⟨fun b u e => by
  show upd W.B p o b = some u
  rw [upd_ne (ne_of_none e hb)]; exact e, fun _ _ h => h⟩
theorem none_of_same (e : Same H H') {a : Addr} (h : H' a = none) : H a = none := e.free h
/-- a new lasting object -/
theorem RelH.put {p : Addr} {o : HO} (r : RelH K mg W F S H) (hp : H p = none) : RelH K mg (W.put p o) F S (upd H p o) := by
  have hb := r.pers.free hp
  have hf := r.frame.free hp
  have l : W.Le (W.put p o) := le_put hb
  refine ⟨fun b u e => ?_, fun b u e => ?_, fun i c e => ?_, r.mF, fun a u e => ?_, r.inj, r.nxm, fun i a e z => ?_⟩
  · have e' : upd W.B p o b = some u := e
    by_cases h : b = p
    · subst h; rw [upd_same] at e' ⊢; exact e'
    · rw [upd_ne h] at e' ⊢; exact r.pers _ _ e'
  · rw [upd_ne (ne_of_none e hf)]; exact r.frame _ _ e
  · obtain ⟨a, q, x, n⟩ := r.cell i c e
    have ne : a ≠ p := fun z => r.mt i a q (by rw [z]; exact hp)
    exact ⟨a, q, x.mono l fun u h => by rw [upd_ne ne]; exact h, by show upd W.B p o a = none; rw [upd_ne ne]; exact n⟩
  · show upd W.B p o a = none
    rw [upd_ne (ne_of_none e hf)]
    exact r.fb a u e
  · by_cases h : a = p
    · subst h; rw [upd_same] at z; cases z
    · rw [upd_ne h] at z; exact r.mt i a e z
theorem ownPut {p a : Addr} {o : HO} (hp : H p = none) (w : OwnAt W F a) {u : HO} (q : H a = some u) : upd H p o a = some u ∧ OwnAt (W.put p o) F a := by
  have ne : a ≠ p := ne_of_none q hp
  exact ⟨by rw [upd_ne ne]; exact q, ⟨by show upd W.B p o a = none; rw [upd_ne ne]; exact w.b, w.f, w.m⟩⟩
theorem Rel.put {p : Addr} {o : HO} (r : Rel K mg W F δ S σ H) (hp : H p = none) : Rel K mg (W.put p o) F δ S σ (upd H p o) :=
  { r.toRelH.put hp with
    len := r.len
    slot := fun k s x e1 e2 => (r.slot k s x e1 e2).mono (le_put (r.pers.free hp)) fun a u w q => ownPut hp w q
    sep := r.sep }
end
end DM


end
section
set_option Elab.async false
set_option linter.all false
set_option maxRecDepth 100000
set_option autoImplicit false
namespace DM
open PySem PySem.Spec L2

/-! ### binds -/
def R.bind {α β : Type} (r : R α) (f : α → Sto → R β) : R β := match r with
  | .ok a S => f a S
  | .exc c S => .exc c S
  | .stuck => .stuck
def dBind {α β : Type} (m : DM α) (f : α → DM β) : DM β := fun δ S => (m δ S).bind fun a S' => f a δ S'
def lift {α : Type} (o : Option α) (S : Sto) : R α := match o with
  | some a => .ok a S
  | none => .stuck

structure GE where
  P : Program
  w : World
  K : PySem.W.Frag
  mg : Str → Option Value
  base : Heap
  hot : Option (Addr × Str) := none
def clsV (mg : Str → Option Value) (c : Str) : Value := (mg c).getD .none

/-- what is wanted behind an expression -/
def Post {α β : Type} (g : GE) (VR : Wd → α → β → Prop) (W : Wd) (F : Hp) (δ : List Sl) (σ : St) (E : XK) (Q : β → Hp → Prop) : R α → Prop
  | .ok a S' => ∀ W' b H', W.Le W' → Rel g.K g.mg W' F δ S' σ H' → VR W' a b → Q b H'
  | .exc c S' => ∀ W' H', W.Le W' → RelH g.K g.mg W' F S' H' → E (clsV g.mg c) none H'
  | .stuck => False
theorem Post.mono {α β : Type} {g : GE} {VR : Wd → α → β → Prop} {W W1 : Wd} {F : Hp} {δ : List Sl} {σ : St} {E : XK} {Q : β → Hp → Prop} {r : R α} (h : Post g VR W F δ σ E Q r) (l : W.Le W1) : Post g VR W1 F δ σ E Q r := by
  cases r with
  | ok a S => exact fun W' b H' l' => h W' b H' (l.trans l')
  | exc c S => exact fun W' H' l' => h W' H' (l.trans l')
  | stuck => exact h
theorem post_bind {α β γ ε : Type} {g : GE} {VR : Wd → α → β → Prop} {VR2 : Wd → γ → ε → Prop} {W : Wd} {F : Hp} {δ : List Sl} {σ : St} {E : XK} {Q : ε → Hp → Prop} {G : β → Hp → Prop} {r : R α} {f : α → Sto → R γ}
    (h : Post g VR2 W F δ σ E Q (r.bind f)) (k : ∀ a S' W' v H', r = .ok a S' → W.Le W' → Rel g.K g.mg W' F δ S' σ H' → VR W' a v → Post g VR2 W' F δ σ E Q (f a S') → G v H') : Post g VR W F δ σ E G r := by
  cases r with
  | ok a S => exact fun W' v H' l rel hv => k a S W' v H' rfl l rel hv (Post.mono (r := f a S) h l)
  | exc c S => exact h
  | stuck => exact h
theorem post_lift {α β : Type} {g : GE} {VR : Wd → α → β → Prop} {W : Wd} {F : Hp} {δ : List Sl} {σ : St} {E : XK} {Q : β → Hp → Prop} {o : Option α} {S : Sto} (h : Post g VR W F δ σ E Q (lift o S)) : ∃ a, o = some a ∧ ∀ W' b H', W.Le W' → Rel g.K g.mg W' F δ S σ H' → VR W' a b → Q b H' := by
  cases o with
  | none => exact h.elim
  | some a => exact ⟨a, rfl, h⟩

/-! ### contexts, judgements -/
structure CtxOk (g : GE) (N : List Str) (sc : Scope) (k : Nat) (X : Cx) : Prop where
  hP : X.prog = g.P
  hw : X.w = g.w
  hK : X.K = g.K
  hm : X.mg = g.mg
  hb : X.base = g.base
  hN : X.N = N
  hs : X.env.scope = sc
  calmC : g.hot = none → X.calm = true
  room : L2H.RoomH k X.A
  hd : g.hot = none → X.A.handled = none
  px : ∀ a c, g.hot = some (a, c) → ∃ oe : Obj, Zc (clsV g.mg c) none oe ∧ (∃ vs, oe.data = .fields vs) ∧ (a, oe) ∈ X.pn
  nd : X.N.Nodup
theorem CtxOk.calm {g : GE} {N : List Str} {sc : Scope} {k : Nat} {X : Cx} (cx : CtxOk g N sc k X) (cold : g.hot = none) : X.calm = true := cx.calmC cold
theorem CtxOk.roomC {g : GE} {N : List Str} {sc : Scope} {k : Nat} {X : Cx} (cx : CtxOk g N sc k X) (cold : g.hot = none) : Room k X.A := ⟨cx.hd cold, cx.room.dp, cx.room.un⟩
abbrev TakesE (X : Cx) (E : XK) : Prop := Takes X (fun c d _ H => E c d H)
abbrev VD (g : GE) (σ : St) : Wd → D → V → Prop := fun W d v => VV g.K W σ d v
abbrev VB : Wd → Bool → Bool → Prop := fun _ a b => a = b
inductive VVs (K : PySem.W.Frag) (W : Wd) (σ : St) : List D → List V → Prop
  | nil : VVs K W σ [] []
  | cons {d : D} {v : V} {ds : List D} {vs : List V} : VV K W σ d v → VVs K W σ ds vs → VVs K W σ (d :: ds) (v :: vs)
abbrev VL (g : GE) (σ : St) : Wd → List D → List V → Prop := fun W d v => VVs g.K W σ d v
theorem VVs.mono {K : PySem.W.Frag} {W W' : Wd} {σ : St} (l : W.Le W') : ∀ {ds : List D} {vs : List V}, VVs K W σ ds vs → VVs K W' σ ds vs
  | _, _, .nil => .nil
  | _, _, .cons h r => .cons (h.mono l) (VVs.mono l r)
/-- no own list among them -/
def D.isOwn : D → Bool
  | .own _ => true
  | _ => false
theorem VV.pv {K : PySem.W.Frag} {W : Wd} {σ : St} {d : D} {v : V} (h : VV K W σ d v) (n : d.isOwn = false) : PV K W d v := by
  rcases h with h | ⟨k, rfl, _⟩
  · exact h
  · cases n
def noOwns (ds : List D) : Bool := ds.all fun d => !d.isOwn
theorem VVs.pvs {K : PySem.W.Frag} {W : Wd} {σ : St} : ∀ {ds : List D} {vs : List V}, VVs K W σ ds vs → noOwns ds = true → PVs K W ds vs
  | _, _, .nil, _ => .nil
  | d :: ds, _, .cons h r, n => by
    simp only [noOwns, List.all_cons, Bool.and_eq_true, Bool.not_eq_true'] at n
    exact .cons (h.pv n.1) (VVs.pvs r n.2)
theorem VVs.length {K : PySem.W.Frag} {W : Wd} {σ : St} : ∀ {ds : List D} {vs : List V}, VVs K W σ ds vs → vs.length = ds.length
  | _, _, .nil => rfl
  | _, _, .cons _ r => by simp [VVs.length r]

structure EOk (g : GE) (N : List Str) (sc : Scope) (k : Nat) (e : Expr) (m : DM D) : Prop where
  ex : ∃ t : XK → TE, (∀ X E, CtxOk g N sc k X → TakesE X E → PE X e (t E)) ∧
    ∀ E W F δ S σ H Q, Rel g.K g.mg W F δ S σ H → Post g (VD g σ) W F δ σ E Q (m δ S) → t E σ H Q
structure TOk (g : GE) (N : List Str) (sc : Scope) (k : Nat) (e : Expr) (m : DM Bool) : Prop where
  ex : ∃ t : XK → TT, (∀ X E, CtxOk g N sc k X → TakesE X E → PT X e (t E)) ∧
    ∀ E W F δ S σ H Q, Rel g.K g.mg W F δ S σ H → Post g VB W F δ σ E Q (m δ S) → t E σ H Q
structure WOk (g : GE) (N : List Str) (sc : Scope) (k : Nat) (e : Expr) (m : DM Bool) : Prop where
  ex : ∃ t : XK → TT, (∀ X E, CtxOk g N sc k X → TakesE X E → PW X e (t E)) ∧
    ∀ E W F δ S σ H Q, Rel g.K g.mg W F δ S σ H → Post g VB W F δ σ E Q (m δ S) → t E σ H Q
structure AOk (g : GE) (N : List Str) (sc : Scope) (k : Nat) (es : List Expr) (m : DM (List D)) : Prop where
  ex : ∃ t : XK → TA, (∀ X E, CtxOk g N sc k X → TakesE X E → PA X es (t E)) ∧
    ∀ E W F δ S σ H Q, Rel g.K g.mg W F δ S σ H → Post g (VL g σ) W F δ σ E Q (m δ S) → t E σ H Q

variable {g : GE} {N : List Str} {sc : Scope} {k : Nat} {a b c e : Expr} {es : List Expr} {ma mb mc : DM D} {pos : Pos}

/-! ### names, constants -/
def dVar (i : Nat) : DM D := fun δ S => match δ[i]? with
  | some (.v d) => .ok d S
  | some (.ol _) => .ok (.own i) S
  | some (.od _) => .ok (.own i) S
  | _ => .stuck
def dConst (d : D) : DM D := fun _ S => .ok d S
def visB (sc : Scope) (x : Str) : Bool := match sc.names.lookup x with
  | some .local => true
  | some .cell => true
  | some .free => true
  | _ => false
theorem vis_of {x : Str} (h : visB sc x = true) : Vis sc x := by
  unfold visB at h
  unfold Vis
  split at h
  · exact .inl (by assumption)
  · exact .inr (.inl (by assumption))
  · exact .inr (.inr (by assumption))
  · cases h
theorem e_var {i : Nat} {x : Str} (hi : N[i]? = some x) (hv : visB sc x = true) (h1 : (x == ("__debug__" : Str)) = false) (h2 : (x == ("__classdict__" : Str)) = false) : EOk g N sc k (.Name x pos) (dVar i) := by
  refine ⟨⟨fun _ => tVar i, fun X E cx _ => pe_var (by rw [cx.hN]; exact hi) (by rw [cx.hs]; exact vis_of hv) h1 h2, fun E W F δ S σ H Q rel post => ?_⟩⟩
  unfold dVar at post
  have hl := rel.len
  cases e : δ[i]? with
  | none => rw [e] at post; exact post.elim
  | some s =>
    have hi2 : i < σ.length := by rw [← hl]; exact (List.getElem?_eq_some_iff.mp e).1
    have sl := rel.slot i s σ[i] e (by simp [hi2])
    rw [e] at post
    cases s with
    | no => exact post.elim
    | x a => exact post.elim
    | v d =>
      obtain ⟨x, ex, p⟩ := sl
      exact ⟨x, by rw [List.getElem?_eq_getElem hi2, ex], post W x H (.refl _) rel (.inl p)⟩
    | ol ds =>
      obtain ⟨a, vs, ex, _⟩ := sl
      have q : σ[i]? = some (some (V.ref a)) := by rw [List.getElem?_eq_getElem hi2, ex]
      exact ⟨_, q, post W _ H (.refl _) rel (.inr ⟨i, rfl, q⟩)⟩
    | od ds =>
      obtain ⟨a, vs, ex, _⟩ := sl
      have q : σ[i]? = some (some (V.ref a)) := by rw [List.getElem?_eq_getElem hi2, ex]
      exact ⟨_, q, post W _ H (.refl _) rel (.inr ⟨i, rfl, q⟩)⟩
theorem e_c {e : Expr} {d : D} {v : V} (h : ∀ X, PE X e (tC v)) (p : ∀ W, PV g.K W d v) : EOk g N sc k e (dConst d) :=
  ⟨⟨fun _ => tC v, fun X _ _ _ => h X, fun E W F δ S σ H Q rel post => post W v H (.refl _) rel (.inl (p W))⟩⟩
theorem e_int {i : Int} {j : Nat} : EOk g N sc k (.Constant (.int i) j pos) (dConst (.int i)) := e_c (fun _ => pe_int) fun _ => .int i
theorem e_bl {i : Bool} {j : Nat} : EOk g N sc k (.Constant (.bool i) j pos) (dConst (.bl i)) := e_c (fun _ => pe_bl) fun _ => .bl i
theorem e_str {i : Str} {j : Nat} : EOk g N sc k (.Constant (.str i) j pos) (dConst (.str i)) := e_c (fun _ => pe_str) fun _ => .str i
theorem e_non {j : Nat} : EOk g N sc k (.Constant .none j pos) (dConst .non) := e_c (fun _ => pe_non) fun _ => .non
/-- the module's constant x is d -/
def GConst (g : GE) (x : Str) (d : D) : Prop := ∃ u v, g.mg x = some u ∧ RelV v u ∧ ∀ W, PV g.K W d v
theorem e_glob {x : Str} {d : D} (h : GConst g x d) (hg : sc.names.lookup x = some .globalImplicit) (h1 : (x == ("__debug__" : Str)) = false) : EOk g N sc k (.Name x pos) (dConst d) := by
  obtain ⟨u, v, hm, r, p⟩ := h
  exact ⟨⟨fun _ => tC v, fun X _ cx _ => pe_glob (show X.env.kindOf x = _ by unfold Env.kindOf; rw [cx.hs]; exact hg) (by rw [cx.hm]; exact hm) r h1, fun E W F δ S σ H Q rel post => post W v H (.refl _) rel (.inl (p W))⟩⟩

/-! ### operators -/
abbrev Op2 := List Sl → Sto → D → D → Option D
def dOp2 (h : Op2) (a b : DM D) : DM D := dBind a fun x => dBind b fun y => fun δ S => lift (h δ S x y) S
structure OpD (g : GE) (k : Nat) (f : Value → Value → PySem.Sem Value) (h : Op2) : Prop where
  ex : ∃ r : R2, (∀ X N sc, CtxOk g N sc k X → OpR X f r) ∧ ∀ W F δ S σ H x y vx vy Q z, Rel g.K g.mg W F δ S σ H → VV g.K W σ x vx → VV g.K W σ y vy → h δ S x y = some z →
    (∀ W' v H', W.Le W' → Rel g.K g.mg W' F δ S σ H' → PV g.K W' z v → Q v H') → r vx vy H Q
theorem e_op2 {op : Operator} {h : Op2} (ho : OpD g k (binaryOp op) h) (ha : EOk g N sc k a ma) (hb : EOk g N sc k b mb) : EOk g N sc k (.BinOp a op b pos) (dOp2 h ma mb) := by
  obtain ⟨ta, pa, ra⟩ := ha.ex
  obtain ⟨tb, pb, rb⟩ := hb.ex
  obtain ⟨r, po, ro⟩ := ho.ex
  refine ⟨⟨fun E => tOp r (ta E) (tb E), fun X E cx t => pe_op (po X _ _ cx) (pa X E cx t) (pb X E cx t), fun E W F δ S σ H Q rel post => ?_⟩⟩
  refine ra E W F δ S σ H _ rel (post_bind post fun x S1 W1 vx H1 _ l1 rel1 hx post1 => ?_)
  refine rb E W1 F δ S1 σ H1 _ rel1 (post_bind post1 fun y S2 W2 vy H2 _ l2 rel2 hy post2 => ?_)
  obtain ⟨z, ez, q⟩ := post_lift post2
  exact ro W2 F δ S2 σ H2 x y vx vy Q z rel2 (hx.mono l2) hy ez fun W' v H' l rel' p => q W' v H' l rel' (.inl p)
/-- comparisons -/
abbrev Cmp2 := List Sl → Sto → D → D → Option Bool
def dCmp (h : Cmp2) (a b : DM D) : DM Bool := dBind a fun x => dBind b fun y => fun δ S => lift (h δ S x y) S
def dBl (m : DM Bool) : DM D := dBind m fun x => dConst (.bl x)
structure CmpD (g : GE) (k : Nat) (op : CmpOp) (h : Cmp2) : Prop where
  ex : ∃ r : R2, (∀ X N sc, CtxOk g N sc k X → OpR X (compareOp op) r) ∧ ∀ W F δ S σ H x y vx vy Q z, Rel g.K g.mg W F δ S σ H → VV g.K W σ x vx → VV g.K W σ y vy → h δ S x y = some z → Q (.bl z) H → r vx vy H Q
theorem cmp_post {op : CmpOp} {h : Cmp2} {r : R2} {ta tb : TE} {W : Wd} {F H : Hp} {δ : List Sl} {S : Sto} {σ : St} {E : XK} {Q : Bool → Hp → Prop}
    (ro : ∀ W F δ S σ H x y vx vy Q z, Rel g.K g.mg W F δ S σ H → VV g.K W σ x vx → VV g.K W σ y vy → h δ S x y = some z → Q (.bl z) H → r vx vy H Q)
    (ra : ∀ W F δ S σ H Q, Rel g.K g.mg W F δ S σ H → Post g (VD g σ) W F δ σ E Q (ma δ S) → ta σ H Q) (rb : ∀ W F δ S σ H Q, Rel g.K g.mg W F δ S σ H → Post g (VD g σ) W F δ σ E Q (mb δ S) → tb σ H Q)
    (rel : Rel g.K g.mg W F δ S σ H) (post : Post g VB W F δ σ E Q (dCmp h ma mb δ S)) : tOp r ta tb σ H fun x H' => ∃ k, x = .bl k ∧ Q k H' := by
  refine ra W F δ S σ H _ rel (post_bind post fun x S1 W1 vx H1 _ l1 rel1 hx post1 => ?_)
  refine rb W1 F δ S1 σ H1 _ rel1 (post_bind post1 fun y S2 W2 vy H2 _ l2 rel2 hy post2 => ?_)
  obtain ⟨z, ez, q⟩ := post_lift post2
  exact ro W2 F δ S2 σ H2 x y vx vy _ z rel2 (hx.mono l2) hy ez ⟨z, rfl, q W2 z H2 (.refl _) rel2 rfl⟩
theorem t_cmp {op : CmpOp} {h : Cmp2} (ho : CmpD g k op h) (ha : EOk g N sc k a ma) (hb : EOk g N sc k b mb) (hm : behindInMarks op b = false) : TOk g N sc k (.Compare a [op] [b] pos) (dCmp h ma mb) := by
  obtain ⟨ta, pa, ra⟩ := ha.ex
  obtain ⟨tb, pb, rb⟩ := hb.ex
  obtain ⟨r, po, ro⟩ := ho.ex
  exact ⟨⟨fun E => tTest (tOp r (ta E) (tb E)), fun X E cx t => pt_cmpR (po X _ _ cx) (pa X E cx t) (pb X E cx t) hm, fun E W F δ S σ H Q rel post =>
    cmp_post (op := op) ro (ra E) (rb E) rel post⟩⟩
theorem post_bl {W : Wd} {F : Hp} {δ : List Sl} {S : Sto} {σ : St} {E : XK} {Q : VK} {m : DM Bool} (post : Post g (VD g σ) W F δ σ E Q (dBl m δ S)) : Post g VB W F δ σ E (fun x H => Q (.bl x) H) (m δ S) :=
  post_bind post fun x S1 W1 v H1 _ l1 rel1 hx post1 => by
    cases hx
    exact post1 W1 _ H1 (.refl _) rel1 (.inl (.bl x))
theorem e_cmp {op : CmpOp} {h : Cmp2} (ho : CmpD g k op h) (ha : EOk g N sc k a ma) (hb : EOk g N sc k b mb) (hm : behindInMarks op b = false) : EOk g N sc k (.Compare a [op] [b] pos) (dBl (dCmp h ma mb)) := by
  obtain ⟨ta, pa, ra⟩ := ha.ex
  obtain ⟨tb, pb, rb⟩ := hb.ex
  obtain ⟨r, po, ro⟩ := ho.ex
  refine ⟨⟨fun E => tOp r (ta E) (tb E), fun X E cx t => pe_cmpR (po X _ _ cx) (pa X E cx t) (pb X E cx t) hm, fun E W F δ S σ H Q rel post => ?_⟩⟩
  have post2 := post_bl post
  refine ra E W F δ S σ H _ rel (post_bind post2 fun x S1 W1 vx H1 _ l1 rel1 hx post1 => ?_)
  refine rb E W1 F δ S1 σ H1 _ rel1 (post_bind post1 fun y S2 W2 vy H2 _ l2 rel2 hy post2 => ?_)
  obtain ⟨z, ez, q⟩ := post_lift post2
  exact ro W2 F δ S2 σ H2 x y vx vy _ z rel2 (hx.mono l2) hy ez (q W2 z H2 (.refl _) rel2 rfl)
def dChain (h h' : Cmp2) (a b c : DM D) : DM Bool := dBind a fun x => dBind b fun y => fun δ S => (lift (h δ S x y) S).bind fun z S2 => if z = true then dBind c (fun u δ S => lift (h' δ S y u) S) δ S2 else .ok false S2
theorem chain_post {op op' : CmpOp} {h h' : Cmp2} {r r' : R2} {ta tb tc : TE} {W : Wd} {F H : Hp} {δ : List Sl} {S : Sto} {σ : St} {E : XK} {Q : VK}
    (ro : ∀ W F δ S σ H x y vx vy Q z, Rel g.K g.mg W F δ S σ H → VV g.K W σ x vx → VV g.K W σ y vy → h δ S x y = some z → Q (.bl z) H → r vx vy H Q)
    (ro' : ∀ W F δ S σ H x y vx vy Q z, Rel g.K g.mg W F δ S σ H → VV g.K W σ x vx → VV g.K W σ y vy → h' δ S x y = some z → Q (.bl z) H → r' vx vy H Q)
    (ra : ∀ W F δ S σ H Q, Rel g.K g.mg W F δ S σ H → Post g (VD g σ) W F δ σ E Q (ma δ S) → ta σ H Q) (rb : ∀ W F δ S σ H Q, Rel g.K g.mg W F δ S σ H → Post g (VD g σ) W F δ σ E Q (mb δ S) → tb σ H Q)
    (rc : ∀ W F δ S σ H Q, Rel g.K g.mg W F δ S σ H → Post g (VD g σ) W F δ σ E Q (mc δ S) → tc σ H Q)
    (rel : Rel g.K g.mg W F δ S σ H) (post : Post g VB W F δ σ E (fun z H => Q (.bl z) H) (dChain h h' ma mb mc δ S)) : tChain r r' ta tb tc σ H Q := by
  refine ra W F δ S σ H _ rel (post_bind post fun x S1 W1 vx H1 _ l1 rel1 hx post1 => ?_)
  refine rb W1 F δ S1 σ H1 _ rel1 (post_bind post1 fun y S2 W2 vy H2 _ l2 rel2 hy post2 => ?_)
  have post3 : Post g VB W2 F δ σ E _ (lift (h δ S2 x y) S2) := post_bind (VR := VB) (G := fun z H => _) post2 fun z S3 W3 v3 H3 e3 l3 rel3 hz post4 => (show (∃ (W4 : Wd), W2.Le W4 ∧ Rel g.K g.mg W4 F δ S2 σ H3 ∧ Post g VB W4 F δ σ E (fun z H => Q (.bl z) H) (if v3 = true then dBind mc (fun u δ S => lift (h' δ S y u) S) δ S2 else .ok false S2)) by
    cases hz
    have e4 : S3 = S2 := by
      unfold lift at e3
      split at e3
      · cases e3; rfl
      · cases e3
    subst e4
    exact ⟨W3, l3, rel3, post4⟩)
  obtain ⟨z, ez, q⟩ := post_lift post3
  refine ro W2 F δ S2 σ H2 x y vx vy _ z rel2 (hx.mono l2) hy ez ⟨z, rfl, ?_⟩
  obtain ⟨W4, l4, rel4, post5⟩ := q W2 z H2 (.refl _) rel2 rfl
  cases z with
  | false => exact post5 W4 false H2 (.refl _) rel4 rfl
  | true =>
    refine rc W4 F δ S2 σ H2 _ rel4 (post_bind post5 fun u S5 W5 vu H5 _ l5 rel5 hu post6 => ?_)
    obtain ⟨z', ez', q'⟩ := post_lift post6
    exact ro' W5 F δ S5 σ H5 y u vy vu _ z' rel5 ((hy.mono l4).mono l5) hu ez' (q' W5 z' H5 (.refl _) rel5 rfl)
theorem e_chain {op op' : CmpOp} {h h' : Cmp2} (ho : CmpD g k op h) (ho' : CmpD g k op' h') (ha : EOk g N sc k a ma) (hb : EOk g N sc k b mb) (hc : EOk g N sc k c mc) (hm : lastMarks [op, op'] [b, c] = false) :
    EOk g N sc k (.Compare a [op, op'] [b, c] pos) (dBl (dChain h h' ma mb mc)) := by
  obtain ⟨ta, pa, ra⟩ := ha.ex
  obtain ⟨tb, pb, rb⟩ := hb.ex
  obtain ⟨tc, pc, rc⟩ := hc.ex
  obtain ⟨r, po, ro⟩ := ho.ex
  obtain ⟨r', po', ro'⟩ := ho'.ex
  exact ⟨⟨fun E => tChain r r' (ta E) (tb E) (tc E), fun X E cx t => pe_chain (po X _ _ cx) (po' X _ _ cx) (pa X E cx t) (pb X E cx t) (pc X E cx t) hm, fun E W F δ S σ H Q rel post =>
    chain_post (op := op) (op' := op') ro ro' (ra E) (rb E) (rc E) rel (post_bl post)⟩⟩
theorem t_chain {op op' : CmpOp} {h h' : Cmp2} (ho : CmpD g k op h) (ho' : CmpD g k op' h') (ha : EOk g N sc k a ma) (hb : EOk g N sc k b mb) (hc : EOk g N sc k c mc) (hm : lastMarks [op, op'] [b, c] = false) :
    TOk g N sc k (.Compare a [op, op'] [b, c] pos) (dChain h h' ma mb mc) := by
  obtain ⟨ta, pa, ra⟩ := ha.ex
  obtain ⟨tb, pb, rb⟩ := hb.ex
  obtain ⟨tc, pc, rc⟩ := hc.ex
  obtain ⟨r, po, ro⟩ := ho.ex
  obtain ⟨r', po', ro'⟩ := ho'.ex
  exact ⟨⟨fun E => tTest (tChain r r' (ta E) (tb E) (tc E)), fun X E cx t => pt_chain (po X _ _ cx) (po' X _ _ cx) (pa X E cx t) (pb X E cx t) (pc X E cx t) hm, fun E W F δ S σ H Q rel post =>
    chain_post (Q := fun x H' => ∃ k, x = .bl k ∧ Q k H') (op := op) (op' := op') ro ro' (ra E) (rb E) (rc E) rel (by
      cases q : dChain h h' ma mb mc δ S with
      | ok z S' => rw [q] at post; exact fun W' b H' l rel' e => ⟨b, rfl, post W' b H' l rel' e⟩
      | exc c S' => rw [q] at post; exact post
      | stuck => rw [q] at post; exact post)⟩⟩

/-! ### tests -/
def dTest (m : DM D) : DM Bool := dBind m fun x => match x with
  | .bl b => fun _ S => .ok b S
  | _ => fun _ _ => .stuck
theorem post_test {W : Wd} {F : Hp} {δ : List Sl} {S : Sto} {σ : St} {E : XK} {Q : Bool → Hp → Prop} {m : DM D} (post : Post g VB W F δ σ E Q (dTest m δ S)) : Post g (VD g σ) W F δ σ E (fun x H => ∃ c, x = .bl c ∧ Q c H) (m δ S) :=
  post_bind post fun x S1 W1 v H1 _ l1 rel1 hx post1 => by
    cases x with
    | bl b =>
      have hx := hx.pv rfl
      cases hx
      exact ⟨b, rfl, post1 W1 b H1 (.refl _) rel1 rfl⟩
    | _ => exact post1.elim
def plainTest : Expr → Bool
  | .Name .. => true
  | .Call .. => true
  | .Attribute .. => true
  | .Subscript .. => true
  | .Constant .. => true
  | _ => false
theorem t_val (ha : EOk g N sc k e ma) (hp : plainTest e = true) : TOk g N sc k e (dTest ma) := by
  obtain ⟨ta, pa, ra⟩ := ha.ex
  refine ⟨⟨fun E => tB (ta E), fun X E cx t => pt_val (pa X E cx t) (fun whole => ?_), fun E W F δ S σ H Q rel post => ra E W F δ S σ H _ rel (post_test post)⟩⟩
  cases e <;> first | rfl | cases hp
def dNot (m : DM Bool) : DM Bool := dBind m fun x _ S => .ok (!x) S
theorem post_not {W : Wd} {F : Hp} {δ : List Sl} {S : Sto} {σ : St} {E : XK} {Q : Bool → Hp → Prop} {m : DM Bool} (post : Post g VB W F δ σ E Q (dNot m δ S)) : Post g VB W F δ σ E (fun x H => Q (!x) H) (m δ S) :=
  post_bind post fun x S1 W1 v H1 _ l1 rel1 hx post1 => by
    cases hx
    exact post1 W1 _ H1 (.refl _) rel1 rfl
theorem t_not {m : DM Bool} (ha : TOk g N sc k a m) : TOk g N sc k (.UnaryOp .Not a pos) (dNot m) := by
  obtain ⟨ta, pa, ra⟩ := ha.ex
  exact ⟨⟨fun E => tNot (ta E), fun X E cx t => pt_not (pa X E cx t), fun E W F δ S σ H Q rel post => ra E W F δ S σ H _ rel (post_not post)⟩⟩
theorem e_not (ha : EOk g N sc k a ma) : EOk g N sc k (.UnaryOp .Not a pos) (dBl (dNot (dTest ma))) := by
  obtain ⟨ta, pa, ra⟩ := ha.ex
  exact ⟨⟨fun E => tNotV (ta E), fun X E cx t => pe_not (pa X E cx t), fun E W F δ S σ H Q rel post => ra E W F δ S σ H _ rel (post_test (post_not (post_bl post)))⟩⟩
def dAnd (a b : DM Bool) : DM Bool := dBind a fun x => if x = true then b else fun _ S => .ok false S
def dOr (a b : DM Bool) : DM Bool := dBind a fun x => if x = true then fun _ S => .ok true S else b
theorem post_and {W : Wd} {F H : Hp} {δ : List Sl} {S : Sto} {σ : St} {E : XK} {Q : Bool → Hp → Prop} {m m' : DM Bool} {t t' : TT} (ra : ∀ W F δ S σ H Q, Rel g.K g.mg W F δ S σ H → Post g VB W F δ σ E Q (m δ S) → t σ H Q) (rb : ∀ W F δ S σ H Q, Rel g.K g.mg W F δ S σ H → Post g VB W F δ σ E Q (m' δ S) → t' σ H Q)
    (rel : Rel g.K g.mg W F δ S σ H) (post : Post g VB W F δ σ E Q (dAnd m m' δ S)) : tAnd t t' σ H Q :=
  ra W F δ S σ H _ rel (post_bind post fun x S1 W1 v H1 _ l1 rel1 hx post1 => by
    cases hx
    cases x with
    | true => exact rb W1 F δ S1 σ H1 Q rel1 post1
    | false => exact post1 W1 _ H1 (.refl _) rel1 rfl)
theorem post_or {W : Wd} {F H : Hp} {δ : List Sl} {S : Sto} {σ : St} {E : XK} {Q : Bool → Hp → Prop} {m m' : DM Bool} {t t' : TT} (ra : ∀ W F δ S σ H Q, Rel g.K g.mg W F δ S σ H → Post g VB W F δ σ E Q (m δ S) → t σ H Q) (rb : ∀ W F δ S σ H Q, Rel g.K g.mg W F δ S σ H → Post g VB W F δ σ E Q (m' δ S) → t' σ H Q)
    (rel : Rel g.K g.mg W F δ S σ H) (post : Post g VB W F δ σ E Q (dOr m m' δ S)) : tOr t t' σ H Q :=
  ra W F δ S σ H _ rel (post_bind post fun x S1 W1 v H1 _ l1 rel1 hx post1 => by
    cases hx
    cases x with
    | false => exact rb W1 F δ S1 σ H1 Q rel1 post1
    | true => exact post1 W1 _ H1 (.refl _) rel1 rfl)
theorem w_and1 {m : DM Bool} (ha : TOk g N sc k a m) : WOk g N sc k (.BoolOp .And [a] pos) m := by
  obtain ⟨ta, pa, ra⟩ := ha.ex
  exact ⟨⟨ta, fun X E cx t => pw_and1 (pa X E cx t), ra⟩⟩
theorem w_or1 {m : DM Bool} (ha : TOk g N sc k a m) : WOk g N sc k (.BoolOp .Or [a] pos) m := by
  obtain ⟨ta, pa, ra⟩ := ha.ex
  exact ⟨⟨ta, fun X E cx t => pw_or1 (pa X E cx t), ra⟩⟩
theorem w_and {m m' : DM Bool} (ha : TOk g N sc k a m) (hb : WOk g N sc k (.BoolOp .And (b :: es) pos) m') : WOk g N sc k (.BoolOp .And (a :: b :: es) pos) (dAnd m m') := by
  obtain ⟨ta, pa, ra⟩ := ha.ex
  obtain ⟨tb, pb, rb⟩ := hb.ex
  exact ⟨⟨fun E => tAnd (ta E) (tb E), fun X E cx t => pw_and (pa X E cx t) (pb X E cx t), fun E W F δ S σ H Q rel post => post_and (ra E) (rb E) rel post⟩⟩
theorem w_or {m m' : DM Bool} (ha : TOk g N sc k a m) (hb : WOk g N sc k (.BoolOp .Or (b :: es) pos) m') : WOk g N sc k (.BoolOp .Or (a :: b :: es) pos) (dOr m m') := by
  obtain ⟨ta, pa, ra⟩ := ha.ex
  obtain ⟨tb, pb, rb⟩ := hb.ex
  exact ⟨⟨fun E => tOr (ta E) (tb E), fun X E cx t => pw_or (pa X E cx t) (pb X E cx t), fun E W F δ S σ H Q rel post => post_or (ra E) (rb E) rel post⟩⟩
theorem WOk.t {m : DM Bool} (h : WOk g N sc k e m) : TOk g N sc k e m := by
  obtain ⟨t, p, r⟩ := h.ex
  exact ⟨⟨t, fun X E cx q => (p X E cx q).pt, r⟩⟩
/-- as values: all but the last are bools -/
def dAndV (a b : DM D) : DM D := dBind (dTest a) fun x => if x = true then b else fun _ S => .ok (.bl false) S
def dOrV (a b : DM D) : DM D := dBind (dTest a) fun x => if x = true then fun _ S => .ok (.bl true) S else b
theorem e_one {op : BoolOp} (ha : EOk g N sc k a ma) : EOk g N sc k (.BoolOp op [a] pos) ma := by
  obtain ⟨ta, pa, ra⟩ := ha.ex
  exact ⟨⟨ta, fun X E cx t => pe_one (pa X E cx t), ra⟩⟩
theorem e_and (ha : EOk g N sc k a ma) (hb : EOk g N sc k (.BoolOp .And (b :: es) pos) mb) : EOk g N sc k (.BoolOp .And (a :: b :: es) pos) (dAndV ma mb) := by
  obtain ⟨ta, pa, ra⟩ := ha.ex
  obtain ⟨tb, pb, rb⟩ := hb.ex
  refine ⟨⟨fun E => tAndV (ta E) (tb E), fun X E cx t => pe_and (pa X E cx t) (pb X E cx t), fun E W F δ S σ H Q rel post => ?_⟩⟩
  have p2 := post_bind (VR := VB) (G := fun x H1 => if x = true then tb E σ H1 Q else Q (.bl false) H1) post fun x S1 W1 v H1 _ l1 rel1 hx post1 => by
    cases hx
    cases x with
    | true => exact rb E W1 F δ S1 σ H1 Q rel1 post1
    | false => exact post1 W1 _ H1 (.refl _) rel1 (.inl (.bl _))
  exact ra E W F δ S σ H _ rel (post_test p2)
theorem e_or (ha : EOk g N sc k a ma) (hb : EOk g N sc k (.BoolOp .Or (b :: es) pos) mb) : EOk g N sc k (.BoolOp .Or (a :: b :: es) pos) (dOrV ma mb) := by
  obtain ⟨ta, pa, ra⟩ := ha.ex
  obtain ⟨tb, pb, rb⟩ := hb.ex
  refine ⟨⟨fun E => tOrV (ta E) (tb E), fun X E cx t => pe_or (pa X E cx t) (pb X E cx t), fun E W F δ S σ H Q rel post => ?_⟩⟩
  have p2 := post_bind (VR := VB) (G := fun x H1 => if x = true then Q (.bl true) H1 else tb E σ H1 Q) post fun x S1 W1 v H1 _ l1 rel1 hx post1 => by
    cases hx
    cases x with
    | false => exact rb E W1 F δ S1 σ H1 Q rel1 post1
    | true => exact post1 W1 _ H1 (.refl _) rel1 (.inl (.bl _))
  exact ra E W F δ S σ H _ rel (post_test p2)
def dIf (c : DM Bool) (a b : DM D) : DM D := dBind c fun x => if x = true then a else b
theorem e_if {m : DM Bool} (hc : TOk g N sc k c m) (ha : EOk g N sc k a ma) (hb : EOk g N sc k b mb) : EOk g N sc k (.IfExp c a b pos) (dIf m ma mb) := by
  obtain ⟨tc, pc, rc⟩ := hc.ex
  obtain ⟨ta, pa, ra⟩ := ha.ex
  obtain ⟨tb, pb, rb⟩ := hb.ex
  refine ⟨⟨fun E => tIf (tc E) (ta E) (tb E), fun X E cx t => pe_ifExp (pc X E cx t) (pa X E cx t) (pb X E cx t), fun E W F δ S σ H Q rel post => ?_⟩⟩
  exact rc E W F δ S σ H _ rel (post_bind post fun x S1 W1 v H1 _ l1 rel1 hx post1 => by
    cases hx
    cases x with
    | true => exact ra E W1 F δ S1 σ H1 Q rel1 post1
    | false => exact rb E W1 F δ S1 σ H1 Q rel1 post1)

/-! ### arguments, displays -/
def dNil : DM (List D) := fun _ S => .ok [] S
def dCons (a : DM D) (r : DM (List D)) : DM (List D) := dBind a fun x => dBind r fun xs _ S => .ok (x :: xs) S
theorem a_nil : AOk g N sc k [] dNil := ⟨⟨fun _ => tNil, fun X E _ _ => pa_nil, fun E W F δ S σ H Q rel post => post W [] H (.refl _) rel .nil⟩⟩
def notStar : Expr → Bool
  | .Starred .. => false
  | _ => true
theorem star_of (h : notStar e = true) (env : Env) : starEach (e :: es) env = (false, eval e env) :: starEach es env := by
  cases e <;> first | rfl | cases h
theorem a_cons {mr : DM (List D)} (ha : EOk g N sc k e ma) (hr : AOk g N sc k es mr) (hs : notStar e = true) : AOk g N sc k (e :: es) (dCons ma mr) := by
  obtain ⟨ta, pa, ra⟩ := ha.ex
  obtain ⟨tr, pr, rr⟩ := hr.ex
  refine ⟨⟨fun E => tCons (ta E) (tr E), fun X E cx t => pa_cons (pa X E cx t) (pr X E cx t) (star_of hs _), fun E W F δ S σ H Q rel post => ?_⟩⟩
  refine ra E W F δ S σ H _ rel (post_bind post fun x S1 W1 v H1 _ l1 rel1 hx post1 => ?_)
  refine rr E W1 F δ S1 σ H1 _ rel1 (post_bind post1 fun xs S2 W2 vs H2 _ l2 rel2 hxs post2 => ?_)
  exact post2 W2 (v :: vs) H2 (.refl _) rel2 (.cons (hx.mono l2) hxs)
def okLen (ds : List D) : Bool := decide (ds.length ≤ 16777216)
def dTup (m : DM (List D)) : DM D := dBind m fun ds _ S => if (noOwns ds && okLen ds) = true then .ok (.tup ds) S else .stuck
def dLst (m : DM (List D)) : DM D := dBind m fun ds _ S => if (noOwns ds && okLen ds) = true then .ok (.lst ds) S else .stuck
theorem okLen_le {ds : List D} (h : okLen ds = true) : ds.length ≤ sizeLine := by
  rw [sizeLine_eq]; exact of_decide_eq_true h
theorem post_disp {W : Wd} {F : Hp} {δ : List Sl} {S : Sto} {σ : St} {E : XK} {Q : VK} {m : DM (List D)} {o : List D → D} {ho : List V → HO} (post : Post g (VD g σ) W F δ σ E Q (dBind m (fun ds _ S => if (noOwns ds && okLen ds) = true then .ok (o ds) S else .stuck) δ S))
    (hp : ∀ (W : Wd) ds vs p, W.B p = some (ho vs) → PVs g.K W ds vs → PV g.K W (o ds) (.ref p)) : Post g (VL g σ) W F δ σ E (fun xs H1 => xs.length ≤ sizeLine ∧ ∀ p, H1 p = none → Q (.ref p) (upd H1 p (ho xs))) (m δ S) :=
  post_bind post fun ds S1 W1 vs H1 _ l1 rel1 hx post1 => by
    dsimp only at post1
    cases hc : noOwns ds && okLen ds with
    | false => rw [hc] at post1; exact post1.elim
    | true =>
      rw [hc] at post1
      obtain ⟨h1, h2⟩ := Bool.and_eq_true_iff.mp hc
      have pv := hx.pvs h1
      refine ⟨by rw [hx.length]; exact okLen_le h2, fun p hpn => ?_⟩
      have rel2 := rel1.put (o := ho vs) hpn
      have l2 : W1.Le (W1.put p (ho vs)) := le_put (rel1.pers.free hpn)
      exact post1 (W1.put p (ho vs)) _ _ l2 rel2 (.inl (hp _ ds vs p (show upd W1.B p (ho vs) p = _ from upd_same) (pv.mono l2)))
theorem e_tup {m : DM (List D)} {x1 : Nat} (h : AOk g N sc k es m) : EOk g N sc k (.Tuple es x1 pos) (dTup m) := by
  obtain ⟨t, p, r⟩ := h.ex
  exact ⟨⟨fun E => tTup (t E), fun X E cx q => pe_tup (p X E cx q), fun E W F δ S σ H Q rel post => r E W F δ S σ H _ rel (post_disp (o := .tup) (ho := .tup) post fun W ds vs p e q => .tup (SqT.of e) q)⟩⟩
theorem e_lst {m : DM (List D)} (h : AOk g N sc k es m) : EOk g N sc k (.List es pos) (dLst m) := by
  obtain ⟨t, p, r⟩ := h.ex
  exact ⟨⟨fun E => tLst (t E), fun X E cx q => pe_lst (p X E cx q), fun E W F δ S σ H Q rel post => r E W F δ S σ H _ rel (post_disp (o := .lst) (ho := .lst) post fun W ds vs p e q => .lst e q)⟩⟩
end DM


end
section
set_option Elab.async false
set_option linter.all false
set_option maxRecDepth 100000
set_option autoImplicit false
namespace DM
open PySem PySem.Spec L2

/-! ### the heap seen by a callee -/
open Classical in
noncomputable def rest (W : Wd) (H : Hp) : Hp := fun a => if (W.B a).isSome = true ∨ ∃ i, W.m i = some a then none else H a
section
variable {K : PySem.W.Frag} {mg : Str → Option Value} {W W' : Wd} {F H H' : Hp} {S S' : Sto} {δ : List Sl} {σ : St}
theorem rest_some {a : Addr} {o : HO} (h : rest W H a = some o) : H a = some o ∧ W.B a = none ∧ ∀ i, W.m i ≠ some a := by
  unfold rest at h
  split at h
  · cases h
  · rename_i n
    refine ⟨h, ?_, fun i e => n (.inr ⟨i, e⟩)⟩
    cases e : W.B a with
    | none => rfl
    | some u => exact absurd (.inl (by rw [e]; rfl)) n
theorem rest_of {a : Addr} {o : HO} (h : H a = some o) (b : W.B a = none) (m : ∀ i, W.m i ≠ some a) : rest W H a = some o := by
  unfold rest
  rw [if_neg]
  · exact h
  · rintro (e | ⟨i, e⟩)
    · rw [b] at e; cases e
    · exact m i e
theorem rest_m {a : Addr} {i : Nat} (h : W.m i = some a) : rest W H a = none := by
  unfold rest
  rw [if_pos (.inr ⟨i, h⟩)]
theorem RelH.toRest (r : RelH K mg W F S H) : RelH K mg W (rest W H) S H :=
  ⟨r.pers, fun a o e => (rest_some e).1, r.cell, fun i a e => rest_m e, fun a o e => (rest_some e).2.1, r.inj, r.nxm, r.mt⟩
theorem frame_rest (r : RelH K mg W F S H) {a : Addr} {o : HO} (e : F a = some o) : rest W H a = some o :=
  rest_of (r.frame _ _ e) (r.fb _ _ e) fun i h => by
    have := r.mF i a h
    rw [e] at this; cases this
theorem f_rest (r : RelH K mg W F S H) {a : Addr} (h : rest W H a = none) : F a = none := by
  cases z : F a with
  | none => rfl
  | some o =>
    rw [frame_rest r z] at h; cases h
theorem RelH.back (r : RelH K mg W F S H) (q : RelH K mg W' (rest W H) S' H') : RelH K mg W' F S' H' :=
  ⟨q.pers, fun a o e => q.frame _ _ (frame_rest r e), q.cell, fun i a e => f_rest r (q.mF i a e), fun a o e => q.fb _ _ (frame_rest r e), q.inj, q.nxm, q.mt⟩
theorem own_rest (r : RelH K mg W F S H) (q : RelH K mg W' (rest W H) S' H') {a : Addr} {o : HO} (w : OwnAt W F a) (e : H a = some o) : H' a = some o ∧ OwnAt W' F a := by
  have z := rest_of e w.b w.m
  exact ⟨q.frame _ _ z, q.fb _ _ z, w.f, fun i h => by
    have := q.mF i a h
    rw [z] at this; cases this⟩
theorem Rel.back (r : Rel K mg W F δ S σ H) (l : W.Le W') (q : RelH K mg W' (rest W H) S' H') : Rel K mg W' F δ S' σ H' :=
  { r.toRelH.back q with
    len := r.len
    slot := fun k s o e1 e2 => (r.slot k s o e1 e2).mono l fun a u w e => own_rest r.toRelH q w e
    sep := r.sep }
/-- a fresh list that stands in no slot -/
structure FreshL (K : PySem.W.Frag) (W : Wd) (F : Hp) (δ : List Sl) (σ : St) (H : Hp) (ds : List D) (v : V) : Prop where
  ex : ∃ a vs, v = .ref a ∧ H a = some (.lst vs) ∧ PVs K W ds vs ∧ OwnAt W F a ∧ ∀ (k : Nat) (s : Sl), δ[k]? = some s → s.isOwn = true → σ[k]? ≠ some (some (.ref a))
/-- an untracked growth -/
theorem RelH.grow {p : Addr} {o : HO} (r : RelH K mg W F S H) (hp : H p = none) : RelH K mg W F S (upd H p o) := by
  have hf := r.frame.free hp
  have hb := r.pers.free hp
  refine ⟨fun b u e => by rw [upd_ne (ne_of_none e hb)]; exact r.pers _ _ e, fun b u e => by rw [upd_ne (ne_of_none e hf)]; exact r.frame _ _ e, fun i c e => ?_, r.mF, r.fb, r.inj, r.nxm, fun i a e z => ?_⟩
  · obtain ⟨a, q, x, n⟩ := r.cell i c e
    have ne : a ≠ p := fun z => r.mt i a q (by rw [z]; exact hp)
    exact ⟨a, q, x.mono (.refl _) fun u h => by rw [upd_ne ne]; exact h, n⟩
  · by_cases h : a = p
    · subst h; rw [upd_same] at z; cases z
    · rw [upd_ne h] at z; exact r.mt i a e z
theorem Rel.grow {p : Addr} {o : HO} (r : Rel K mg W F δ S σ H) (hp : H p = none) : Rel K mg W F δ S σ (upd H p o) :=
  { r.toRelH.grow hp with
    len := r.len
    slot := fun k s x e1 e2 => (r.slot k s x e1 e2).mono (.refl _) fun a u w q => ⟨by rw [upd_ne (ne_of_none q hp)]; exact q, w⟩
    sep := r.sep }
theorem fresh_new {p : Addr} {ds : List D} {vs : List V} (r : Rel K mg W F δ S σ H) (hp : H p = none) (pv : PVs K W ds vs) : FreshL K W F δ σ (upd H p (.lst vs)) ds (.ref p) := by
  refine ⟨⟨p, vs, rfl, upd_same, pv, ⟨r.pers.free hp, r.frame.free hp, fun i e => r.mt i p e hp⟩, fun k s e1 e2 e3 => ?_⟩⟩
  have sl := r.slot k s _ e1 e3
  cases s with
  | no => cases e2
  | x a => cases e2
  | v d => cases e2
  | ol ds => obtain ⟨a, vs, e, q, _⟩ := sl; cases e; rw [hp] at q; cases q
  | od ds => obtain ⟨a, vs, e, q, _⟩ := sl; cases e; rw [hp] at q; cases q
/-- frozen: it lasts -/
theorem RelH.frz {p : Addr} {o : HO} (r : RelH K mg W F S H) (hp : H p = some o) (w : OwnAt W F p) : RelH K mg (W.put p o) F S H := by
  refine ⟨fun b u e => ?_, r.frame, fun i c e => ?_, r.mF, fun a u e => ?_, r.inj, r.nxm, r.mt⟩
  · have e' : upd W.B p o b = some u := e
    by_cases h : b = p
    · subst h; rw [upd_same] at e'; rw [hp]; exact e'
    · rw [upd_ne h] at e'; exact r.pers _ _ e'
  · obtain ⟨a, q, x, n⟩ := r.cell i c e
    have ne : a ≠ p := fun z => w.m i (by rw [← z]; exact q)
    exact ⟨a, q, x.mono (le_put w.b) fun _ h => h, by show upd W.B p o a = none; rw [upd_ne ne]; exact n⟩
  · have ne : a ≠ p := fun z => by rw [z, w.f] at e; cases e
    show upd W.B p o a = none
    rw [upd_ne ne]; exact r.fb a u e
theorem Rel.frz {p : Addr} {o : HO} (r : Rel K mg W F δ S σ H) (hp : H p = some o) (w : OwnAt W F p) (n : ∀ (k : Nat) (s : Sl), δ[k]? = some s → s.isOwn = true → σ[k]? ≠ some (some (.ref p))) : Rel K mg (W.put p o) F δ S σ H :=
  { r.toRelH.frz hp w with
    len := r.len
    slot := fun k s x e1 e2 => by
      have sl := r.slot k s x e1 e2
      have own : s.isOwn = true → ∀ a, x = some (.ref a) → OwnAt W F a → OwnAt (W.put p o) F a := fun h a ex w' => by
        have ne : a ≠ p := fun z => n k s e1 h (by rw [e2, ex, z])
        exact ⟨by show upd W.B p o a = none; rw [upd_ne ne]; exact w'.b, w'.f, w'.m⟩
      cases s with
      | no => trivial
      | x a => exact sl
      | v d => obtain ⟨y, e, q⟩ := sl; exact ⟨y, e, q.mono (le_put w.b)⟩
      | ol ds => obtain ⟨a, vs, e, q, pv, w'⟩ := sl; exact ⟨a, vs, e, q, pv.mono (le_put w.b), own rfl a e w'⟩
      | od ds => obtain ⟨a, vs, e, q, pv, w'⟩ := sl; exact ⟨a, vs, e, q, pv.mono (le_put w.b), own rfl a e w'⟩
    sep := r.sep }
/-- a cell of it -/
def Wd.cell (W : Wd) (i : Nat) (p : Addr) : Wd := ⟨W.B, fun j => if j = i then some p else W.m j⟩
theorem le_cell {i : Nat} {p : Addr} (h : W.m i = none) : W.Le (W.cell i p) := ⟨Same.refl _, fun j a e => by
  show (if j = i then some p else W.m j) = some a
  rw [if_neg (fun z => by rw [z, h] at e; cases e)]; exact e⟩
theorem RelH.m_none (r : RelH K mg W F S H) : W.m S.nx = none := by
  cases e : W.m S.nx with
  | none => rfl
  | some a => exact absurd (r.nxm _ _ e) (Nat.lt_irrefl _)
theorem RelH.newCell {p : Addr} {x : Cell} {o : HO} (r : RelH K mg W F S H) (hp : H p = some o) (w : OwnAt W F p) (hc : CellH K mg (W.cell S.nx p) H p x) : RelH K mg (W.cell S.nx p) F (S.new x) H := by
  have l := le_cell (p := p) r.m_none
  have mi : ∀ j a, (W.cell S.nx p).m j = some a → (j = S.nx ∧ a = p) ∨ (j ≠ S.nx ∧ W.m j = some a) := fun j a e => by
    have e' : (if j = S.nx then some p else W.m j) = some a := e
    split at e'
    · exact .inl ⟨by assumption, (Option.some.inj e').symm⟩
    · exact .inr ⟨by assumption, e'⟩
  refine ⟨r.pers, r.frame, fun i c e => ?_, fun i a e => ?_, r.fb, fun i j a e1 e2 => ?_, fun i a e => ?_, fun i a e => ?_⟩
  · have e' : (if i = S.nx then some x else S.c i) = some c := e
    split at e'
    · rename_i h
      cases e'
      exact ⟨p, by show (if i = S.nx then some p else W.m i) = some p; rw [if_pos h], hc, w.b⟩
    · obtain ⟨a, q, y, n⟩ := r.cell i c e'
      exact ⟨a, l.m _ _ q, y.mono l fun _ h => h, n⟩
  · rcases mi i a e with ⟨_, rfl⟩ | ⟨_, e⟩
    · exact w.f
    · exact r.mF i a e
  · rcases mi i a e1 with ⟨h1, rfl⟩ | ⟨h1, e1⟩ <;> rcases mi j _ e2 with ⟨h2, e⟩ | ⟨h2, e2⟩
    · rw [h1, h2]
    · exact absurd e2 (w.m j)
    · have e1' : W.m i = some p := by rw [← e]; exact e1
      exact absurd e1' (w.m i)
    · exact r.inj i j a e1 e2
  · show i < S.nx + 1
    rcases mi i a e with ⟨h, _⟩ | ⟨_, e⟩
    · omega
    · have := r.nxm i a e; omega
  · rcases mi i a e with ⟨_, rfl⟩ | ⟨_, e⟩
    · rw [hp]; exact fun z => nomatch z
    · exact r.mt i a e
theorem Rel.newCell {p : Addr} {x : Cell} {o : HO} (r : Rel K mg W F δ S σ H) (hp : H p = some o) (w : OwnAt W F p) (hc : CellH K mg (W.cell S.nx p) H p x) (n : ∀ (k : Nat) (s : Sl), δ[k]? = some s → s.isOwn = true → σ[k]? ≠ some (some (.ref p))) :
    Rel K mg (W.cell S.nx p) F δ (S.new x) σ H :=
  { r.toRelH.newCell hp w hc with
    len := r.len
    slot := fun k s y e1 e2 => by
      have l := le_cell (p := p) r.m_none
      have sl := r.slot k s y e1 e2
      have own : s.isOwn = true → ∀ a, y = some (.ref a) → OwnAt W F a → OwnAt (W.cell S.nx p) F a := fun h a ex w' => by
        have ne : a ≠ p := fun z => n k s e1 h (by rw [e2, ex, z])
        refine ⟨w'.b, w'.f, fun i e => ?_⟩
        have e' : (if i = S.nx then some p else W.m i) = some a := e
        split at e'
        · exact ne (Option.some.inj e').symm
        · exact w'.m i e'
      cases s with
      | no => trivial
      | x a => exact sl
      | v d => obtain ⟨z, e, q⟩ := sl; exact ⟨z, e, q.mono l⟩
      | ol ds => obtain ⟨a, vs, e, q, pv, w'⟩ := sl; exact ⟨a, vs, e, q, pv.mono l, own rfl a e w'⟩
      | od ds => obtain ⟨a, vs, e, q, pv, w'⟩ := sl; exact ⟨a, vs, e, q, pv.mono l, own rfl a e w'⟩
    sep := r.sep }
/-- a cell changed -/
theorem RelH.setCell {i : Nat} {p : Addr} {x : Cell} {o : HO} (r : RelH K mg W F S H) (hm : W.m i = some p) (hb : W.B p = none) (hc : CellH K mg W (upd H p o) p x) : RelH K mg W F (S.set i (some x)) (upd H p o) := by
  have hf := r.mF i p hm
  refine ⟨fun b u e => ?_, fun b u e => ?_, fun j c e => ?_, r.mF, r.fb, r.inj, r.nxm, fun j a e z => ?_⟩
  · have ne : b ≠ p := fun z => by rw [z, hb] at e; cases e
    rw [upd_ne ne]; exact r.pers _ _ e
  · have ne : b ≠ p := fun z => by rw [z, hf] at e; cases e
    rw [upd_ne ne]; exact r.frame _ _ e
  · have e' : (if j = i then some x else S.c j) = some c := e
    split at e'
    · rename_i h
      cases e'
      exact ⟨p, by rw [h]; exact hm, hc, hb⟩
    · rename_i h
      obtain ⟨a, q, y, n⟩ := r.cell j c e'
      have ne : a ≠ p := fun z => h (r.inj j i p (by rw [← z]; exact q) hm)
      exact ⟨a, q, y.mono (.refl _) fun u e => by rw [upd_ne ne]; exact e, n⟩
  · by_cases h : a = p
    · subst h; rw [upd_same] at z; cases z
    · rw [upd_ne h] at z; exact r.mt j a e z
theorem Rel.setCell {i : Nat} {p : Addr} {x : Cell} {o : HO} (r : Rel K mg W F δ S σ H) (hm : W.m i = some p) (hb : W.B p = none) (hc : CellH K mg W (upd H p o) p x) : Rel K mg W F δ (S.set i (some x)) σ (upd H p o) :=
  { r.toRelH.setCell hm hb hc with
    len := r.len
    slot := fun k s y e1 e2 => (r.slot k s y e1 e2).mono (.refl _) fun a u w q => ⟨by
      have ne : a ≠ p := fun z => w.m i (by rw [z]; exact hm)
      rw [upd_ne ne]; exact q, w⟩
    sep := r.sep }
end

/-! ### what a def promises -/
def RVV (K : PySem.W.Frag) (W : Wd) (F H : Hp) : RV → V → Prop
  | .val d, v => PV K W d v
  | .ol ds, v => ∃ a vs, v = .ref a ∧ H a = some (.lst vs) ∧ PVs K W ds vs ∧ OwnAt W F a
def PostC (g : GE) (W : Wd) (F : Hp) (E : XK) (Q : VK) : R RV → Prop
  | .ok r S' => ∀ W' v H', W.Le W' → RelH g.K g.mg W' F S' H' → RVV g.K W' F H' r v → Q v H'
  | .exc c S' => ∀ W' H', W.Le W' → RelH g.K g.mg W' F S' H' → E (clsV g.mg c) none H'
  | .stuck => False
def spOf (g : GE) (n : Nat) (sem : Sem) : Sp := fun vs H Q E => vs.length = n ∧ ∃ W F ds S, RelH g.K g.mg W F S H ∧ PVs g.K W ds vs ∧ PostC g W F E Q (sem ds S)
/-- the def of that name keeps sem -/
structure FnAt (g : GE) (k : Nat) (name : Str) (n : Nat) (sem : Sem) : Prop where
  ex : ∃ f fd ps, g.mg name = some (.ref f) ∧ PySem.W.keepIn g.K (.ref f) = true ∧ Binds g.K fd ps [] ∧ ps.length = n ∧ FnOk g.P g.w g.K g.mg g.base (L2.CX g.P g.w) k f fd ps (spOf g n sem)
theorem FnAt.mono {g : GE} {j k : Nat} {name : Str} {n : Nat} {sem : Sem} (h : FnAt g j name n sem) (l : j ≤ k) : FnAt g k name n sem := by
  obtain ⟨f, fd, ps, h1, h2, h3, h4, h5⟩ := h.ex
  exact ⟨⟨f, fd, ps, h1, h2, h3, h4, h5.mono l⟩⟩
/-- sem may be replaced by one that says no more -/
def Sem.le (s s' : Sem) : Prop := ∀ ds S, s ds S = .stuck ∨ s ds S = s' ds S
theorem spOf_le {g : GE} {n : Nat} {s s' : Sem} (l : Sem.le s s') : ∀ vs H Q E, spOf g n s vs H Q E → spOf g n s' vs H Q E := fun vs H Q E ⟨hl, W, F, ds, S, r, p, q⟩ => by
  refine ⟨hl, W, F, ds, S, r, p, ?_⟩
  rcases l ds S with e | e
  · rw [e] at q; exact q.elim
  · rw [← e]; exact q
theorem FnAt.le {g : GE} {k : Nat} {name : Str} {n : Nat} {s s' : Sem} (h : FnAt g k name n s') (l : Sem.le s s') : FnAt g k name n s := by
  obtain ⟨f, fd, ps, h1, h2, h3, h4, h5⟩ := h.ex
  exact ⟨⟨f, fd, ps, h1, h2, h3, h4, h5.imp (spOf_le l)⟩⟩
structure MethAt (g : GE) (k : Nat) (C : Str) (name : Str) (n : Nat) (sem : Sem) : Prop where
  ex : ∃ Ca f fd ps, g.mg C = some (.ref Ca) ∧ Cls g.K Ca ∧ Meth g.K Ca name f ∧ Binds g.K fd ps [] ∧ ps.length = n ∧ FnOk g.P g.w g.K g.mg g.base (L2.CX g.P g.w) k f fd ps (spOf g n sem)
theorem MethAt.mono {g : GE} {j k : Nat} {C name : Str} {n : Nat} {sem : Sem} (h : MethAt g j C name n sem) (l : j ≤ k) : MethAt g k C name n sem := by
  obtain ⟨Ca, f, fd, ps, h1, h2, h3, h4, h5, h6⟩ := h.ex
  exact ⟨⟨Ca, f, fd, ps, h1, h2, h3, h4, h5, h6.mono l⟩⟩
theorem MethAt.le {g : GE} {k : Nat} {C name : Str} {n : Nat} {s s' : Sem} (h : MethAt g k C name n s') (l : Sem.le s s') : MethAt g k C name n s := by
  obtain ⟨Ca, f, fd, ps, h1, h2, h3, h4, h5, h6⟩ := h.ex
  exact ⟨⟨Ca, f, fd, ps, h1, h2, h3, h4, h5, h6.imp (spOf_le l)⟩⟩
structure MakeAt (g : GE) (k : Nat) (C : Str) (n : Nat) (sem : Sem) : Prop where
  ex : ∃ Ca f fd ps, g.mg C = some (.ref Ca) ∧ Mk g.K Ca f ∧ Binds g.K fd ps [] ∧ ps.length = n + 1 ∧ FnOk g.P g.w g.K g.mg g.base (L2.CX g.P g.w) k f fd ps (spOf g (n + 1) sem)

variable {g : GE} {N : List Str} {sc : Scope} {k : Nat} {a b c e : Expr} {es : List Expr} {ma mb mc : DM D} {pos : Pos}

theorem FnOk.at {g : GE} {X : Cx} {N : List Str} {sc : Scope} {k : Nat} (cx : CtxOk g N sc k X) {j : Nat} {f : Addr} {fd : FuncData} {ps : List Str} {sp : Sp} (h : FnOk g.P g.w g.K g.mg g.base (L2.CX g.P g.w) j f fd ps sp) :
    FnOk X.prog X.w X.K X.mg X.base (L2.CX X.prog X.w) j f fd ps sp := by
  rw [cx.hP, cx.hw, cx.hK, cx.hm, cx.hb]; exact h
theorem passE {X : Cx} {E : XK} (t : TakesE X E) : Passes (L2.CX X.prog X.w) X E := passes_call t fun _ _ _ _ h => h

/-! ### fresh lists -/
def PostF (g : GE) (W : Wd) (F : Hp) (δ : List Sl) (σ : St) (E : XK) (Q : VK) : R (List D) → Prop
  | .ok ds S' => ∀ W' v H', W.Le W' → Rel g.K g.mg W' F δ S' σ H' → FreshL g.K W' F δ σ H' ds v → Q v H'
  | .exc c S' => ∀ W' H', W.Le W' → RelH g.K g.mg W' F S' H' → E (clsV g.mg c) none H'
  | .stuck => False
structure FOk (g : GE) (N : List Str) (sc : Scope) (k : Nat) (e : Expr) (m : DM (List D)) : Prop where
  ex : ∃ t : XK → TE, (∀ X E, CtxOk g N sc k X → TakesE X E → PE X e (t E)) ∧
    ∀ E W F δ S σ H Q, Rel g.K g.mg W F δ S σ H → PostF g W F δ σ E Q (m δ S) → t E σ H Q
def dFrz (m : DM (List D)) : DM D := dBind m fun ds _ S => .ok (.lst ds) S
theorem post_frz {W : Wd} {F : Hp} {δ : List Sl} {σ : St} {E : XK} {Q : VK} {r : R (List D)} (post : Post g (VD g σ) W F δ σ E Q (r.bind fun ds S => .ok (.lst ds) S)) : PostF g W F δ σ E Q r := by
  cases r with
  | ok ds S' =>
    intro W' v H' l rel ⟨⟨a, vs, ev, ha, pv, w, n⟩⟩
    subst ev
    exact post (W'.put a (.lst vs)) _ H' (l.trans (le_put w.b)) (rel.frz ha w n) (.inl (.lst upd_same (pv.mono (le_put w.b))))
  | exc c S' => exact post
  | stuck => exact post
theorem e_frz {m : DM (List D)} (h : FOk g N sc k e m) : EOk g N sc k e (dFrz m) := by
  obtain ⟨t, p, r⟩ := h.ex
  exact ⟨⟨t, p, fun E W F δ S σ H Q rel post => r E W F δ S σ H Q rel (post_frz post)⟩⟩
/-- a new cell of it -/
def dCell (m : DM (List D)) : DM D := dBind m fun ds _ S => .ok (.ref S.nx) (S.new (.lst ds))
theorem e_cell {m : DM (List D)} (h : FOk g N sc k e m) : EOk g N sc k e (dCell m) := by
  obtain ⟨t, p, r⟩ := h.ex
  refine ⟨⟨t, p, fun E W F δ S σ H Q rel post => r E W F δ S σ H Q rel ?_⟩⟩
  unfold dCell dBind at post
  cases e : m δ S with
  | ok ds S' =>
    rw [e] at post
    intro W' v H' l rel ⟨⟨a, vs, ev, ha, pv, w, n⟩⟩
    subst ev
    have l2 := le_cell (p := a) rel.m_none
    exact post (W'.cell S'.nx a) _ H' (l.trans l2) (rel.newCell ha w ⟨vs, ha, pv.mono l2⟩ n) (.inl (.ref (by show (if S'.nx = S'.nx then some a else _) = some a; rw [if_pos rfl])))
  | exc c S' => rw [e] at post; exact post
  | stuck => rw [e] at post; exact post
theorem postF_bind {α β : Type} {VR : Wd → α → β → Prop} {W : Wd} {F : Hp} {δ : List Sl} {σ : St} {E : XK} {Q : VK} {G : β → Hp → Prop} {r : R α} {f : α → Sto → R (List D)}
    (h : PostF g W F δ σ E Q (r.bind f)) (k : ∀ a S' W' v H', r = .ok a S' → W.Le W' → Rel g.K g.mg W' F δ S' σ H' → VR W' a v → PostF g W' F δ σ E Q (f a S') → G v H') : Post g VR W F δ σ E G r := by
  cases r with
  | ok a S =>
    intro W' v H' l rel hv
    refine k a S W' v H' rfl l rel hv ?_
    have h' : PostF g W F δ σ E Q (f a S) := h
    revert h'
    cases f a S with
    | ok ds S' => exact fun h W2 v H' l2 => h W2 v H' (l.trans l2)
    | exc c S' => exact fun h W2 H' l2 => h W2 H' (l.trans l2)
    | stuck => exact id
  | exc c S => exact h
  | stuck => exact h
/-- a display -/
def fDisp (m : DM (List D)) : DM (List D) := dBind m fun ds _ S => if (noOwns ds && okLen ds) = true then .ok ds S else .stuck
theorem f_disp {m : DM (List D)} (h : AOk g N sc k es m) : FOk g N sc k (.List es pos) (fDisp m) := by
  obtain ⟨t, p, r⟩ := h.ex
  refine ⟨⟨fun E => tLst (t E), fun X E cx q => pe_lst (p X E cx q), fun E W F δ S σ H Q rel post => r E W F δ S σ H _ rel (postF_bind post fun ds S1 W1 vs H1 _ l1 rel1 hx post1 => ?_)⟩⟩
  dsimp only at post1
  cases hc : noOwns ds && okLen ds with
  | false => rw [hc] at post1; exact post1.elim
  | true =>
    rw [hc] at post1
    obtain ⟨h1, h2⟩ := Bool.and_eq_true_iff.mp hc
    have pv := hx.pvs h1
    refine ⟨by rw [hx.length]; exact okLen_le h2, fun p hpn => ?_⟩
    exact post1 W1 _ _ (.refl _) (rel1.grow hpn) (fresh_new rel1 hpn pv)

/-! ### calls of defs -/
def R.toD : R RV → R D
  | .ok (.val d) S => .ok d S
  | .ok (.ol ds) S => .ok (.lst ds) S
  | .exc c S => .exc c S
  | .stuck => .stuck
def R.toF : R RV → R (List D)
  | .ok (.ol ds) S => .ok ds S
  | .ok (.val _) _ => .stuck
  | .exc c S => .exc c S
  | .stuck => .stuck
def callN (n : Nat) (sem : Sem) (ds : List D) (S : Sto) : R RV := if (noOwns ds && decide (ds.length = n)) = true then sem ds S else .stuck
def dCall (n : Nat) (sem : Sem) (m : DM (List D)) : DM D := dBind m fun ds _ S => (callN n sem ds S).toD
def fCall (n : Nat) (sem : Sem) (m : DM (List D)) : DM (List D) := dBind m fun ds _ S => (callN n sem ds S).toF
theorem call_sp {n : Nat} {sem : Sem} {W : Wd} {F H : Hp} {δ : List Sl} {S : Sto} {σ : St} {E : XK} {Q : VK} {ds : List D} {vs : List V} (rel : Rel g.K g.mg W F δ S σ H) (hx : VVs g.K W σ ds vs)
    (ne : callN n sem ds S ≠ .stuck) (h : PostC g W (rest W H) E Q (callN n sem ds S)) : spOf g n sem vs H Q E := by
  unfold callN at h ne
  cases hc : noOwns ds && decide (ds.length = n) with
  | false => rw [hc] at ne; exact absurd rfl ne
  | true =>
    rw [hc] at h
    obtain ⟨h1, h2⟩ := Bool.and_eq_true_iff.mp hc
    exact ⟨by rw [hx.length]; exact of_decide_eq_true h2, W, rest W H, ds, S, rel.toRelH.toRest, hx.pvs h1, h⟩
theorem post_call {W : Wd} {F H : Hp} {δ : List Sl} {S : Sto} {σ : St} {E : XK} {Q : VK} {r : R RV} (rel : Rel g.K g.mg W F δ S σ H) (post : Post g (VD g σ) W F δ σ E Q r.toD) : PostC g W (rest W H) E Q r := by
  cases r with
  | ok rv S' =>
    cases rv with
    | val d => exact fun W' v H' l q p => post W' v H' l (rel.back l q) (.inl p)
    | ol ds =>
      intro W' v H' l q ⟨a, vs, ev, ha, pv, w⟩
      subst ev
      have rel2 := rel.back l q
      have own : OwnAt W' F a := ⟨w.b, f_rest rel.toRelH w.f, w.m⟩
      have nsl : ∀ (k : Nat) (s : Sl), δ[k]? = some s → s.isOwn = true → σ[k]? ≠ some (some (.ref a)) := fun k s e1 e2 e3 => by
        have sl := rel.slot k s _ e1 e3
        cases s with
        | no => cases e2
        | x a => cases e2
        | v d => cases e2
        | ol ds =>
          obtain ⟨a', vs', e, q', _, w'⟩ := sl
          cases e
          have := w.f
          rw [rest_of q' w'.b w'.m] at this; cases this
        | od ds =>
          obtain ⟨a', vs', e, q', _, w'⟩ := sl
          cases e
          have := w.f
          rw [rest_of q' w'.b w'.m] at this; cases this
      exact post (W'.put a (.lst vs)) _ H' (l.trans (le_put w.b)) (rel2.frz ha own nsl) (.inl (.lst upd_same (pv.mono (le_put w.b))))
  | exc c S' => exact fun W' H' l q => post W' H' l (rel.toRelH.back q)
  | stuck => exact post
theorem postF_call {W : Wd} {F H : Hp} {δ : List Sl} {S : Sto} {σ : St} {E : XK} {Q : VK} {r : R RV} (rel : Rel g.K g.mg W F δ S σ H) (post : PostF g W F δ σ E Q r.toF) : PostC g W (rest W H) E Q r := by
  cases r with
  | ok rv S' =>
    cases rv with
    | val d => exact post.elim
    | ol ds =>
      intro W' v H' l q ⟨a, vs, ev, ha, pv, w⟩
      subst ev
      refine post W' _ H' l (rel.back l q) ⟨⟨a, vs, rfl, ha, pv, ⟨w.b, f_rest rel.toRelH w.f, w.m⟩, fun k s e1 e2 e3 => ?_⟩⟩
      have sl := rel.slot k s _ e1 e3
      cases s with
      | no => cases e2
      | x a => cases e2
      | v d => cases e2
      | ol ds =>
        obtain ⟨a', vs', e, q', _, w'⟩ := sl
        cases e
        have := w.f
        rw [rest_of q' w'.b w'.m] at this; cases this
      | od ds =>
        obtain ⟨a', vs', e, q', _, w'⟩ := sl
        cases e
        have := w.f
        rw [rest_of q' w'.b w'.m] at this; cases this
  | exc c S' => exact fun W' H' l q => post W' H' l (rel.toRelH.back q)
  | stuck => exact post
theorem noStar_any (env : Env) (pos : Pos) : ∀ {es : List Expr}, es.all notStar = true → (backTo pos (starEach es env)).any (·.1) = false
  | [], _ => rfl
  | e :: es, h => by
    simp only [List.all_cons, Bool.and_eq_true] at h
    rw [star_of h.1]
    show (false || (backTo pos (starEach es env)).any (·.1)) = false
    rw [noStar_any env pos h.2]; rfl
theorem gl_of {X : Cx} {x : Str} (cx : CtxOk g N sc k X) (hg : sc.names.lookup x = some .globalImplicit) : Gl X x := by
  show X.env.kindOf x = _
  unfold Env.kindOf
  rw [cx.hs]; exact hg
theorem toD_stuck {r : R RV} (h : r = .stuck) : r.toD = .stuck := by rw [h]; rfl
theorem toF_stuck {r : R RV} (h : r = .stuck) : r.toF = .stuck := by rw [h]; rfl
theorem call_post {n : Nat} {sem : Sem} {W : Wd} {F H : Hp} {δ : List Sl} {S : Sto} {σ : St} {E : XK} {Q : VK} {ds : List D} {vs : List V} (rel : Rel g.K g.mg W F δ S σ H) (hx : VVs g.K W σ ds vs)
    (post : Post g (VD g σ) W F δ σ E Q (callN n sem ds S).toD) : spOf g n sem vs H Q E := by
  refine call_sp rel hx (fun z => ?_) (post_call rel post)
  rw [toD_stuck z] at post; exact post
theorem callF_post {n : Nat} {sem : Sem} {W : Wd} {F H : Hp} {δ : List Sl} {S : Sto} {σ : St} {E : XK} {Q : VK} {ds : List D} {vs : List V} (rel : Rel g.K g.mg W F δ S σ H) (hx : VVs g.K W σ ds vs)
    (post : PostF g W F δ σ E Q (callN n sem ds S).toF) : spOf g n sem vs H Q E := by
  refine call_sp rel hx (fun z => ?_) (postF_call rel post)
  rw [toF_stuck z] at post; exact post
/-- f(..) -/
theorem callPE {x : Str} {n : Nat} {sem : Sem} {p : Pos} (cold : g.hot = none) (F : FnAt g k x n sem) (hg : sc.names.lookup x = some .globalImplicit) (hx : (x == ("__debug__" : Str)) = false) (hs : es.all notStar = true) {t : XK → TA}
    (pt : ∀ X E, CtxOk g N sc k X → TakesE X E → PA X es (t E)) : ∃ t' : XK → TE, (∀ X E, CtxOk g N sc k X → TakesE X E → PE X (.Call (.Name x p) es [] pos) (t' E)) ∧
      ∀ E σ H Q, ((es = [] ∧ spOf g n sem [] H Q E) ∨ (es ≠ [] ∧ t E σ H fun vs H1 => spOf g n sem vs H1 Q E)) → t' E σ H Q := by
  obtain ⟨f, fd, ps, h1, h2, h3, h4, h5⟩ := F.ex
  cases es with
  | nil =>
    refine ⟨fun E => tCall (spOf g n sem) [] E tNil, fun X E cx tk => pe_call0 (FnOk.at cx h5) (cx.roomC cold) (gl_of cx hg) (by rw [cx.hm]; exact h1) (by rw [cx.hK]; exact h2) (by rw [cx.hK]; exact h3) .nil (passE tk) hx, fun E σ H Q h => ?_⟩
    rcases h with ⟨_, h⟩ | ⟨h, _⟩
    · exact h
    · exact absurd rfl h
  | cons e es =>
    simp only [List.all_cons, Bool.and_eq_true] at hs
    refine ⟨fun E => tCall (spOf g n sem) [] E (t E), fun X E cx tk => pe_call (FnOk.at cx h5) (cx.roomC cold) (gl_of cx hg) (by rw [cx.hm]; exact h1) (by rw [cx.hK]; exact h2) (by rw [cx.hK]; exact h3) .nil (passE tk) (pt X E cx tk) hx (star_of hs.1 _) (noStar_any _ _ hs.2), fun E σ H Q h => ?_⟩
    rcases h with ⟨h, _⟩ | ⟨_, h⟩
    · cases h
    · show t E σ H fun vs H1 => spOf g n sem (vs ++ []) H1 Q E
      simp only [List.append_nil]
      exact h
/-- no arguments: the list's reading -/
theorem nil_post {t : XK → TA} {m : DM (List D)} (h : AOk g N sc k [] m) : ∀ E W F δ S σ H (Q : List V → Hp → Prop), Rel g.K g.mg W F δ S σ H → Post g (VL g σ) W F δ σ E Q (m δ S) → True := fun _ _ _ _ _ _ _ _ _ _ => trivial
theorem e_call {x : Str} {n : Nat} {sem : Sem} {m : DM (List D)} {p : Pos} (cold : g.hot = none) (F : FnAt g k x n sem) (hg : sc.names.lookup x = some .globalImplicit) (hx : (x == ("__debug__" : Str)) = false) (ha : AOk g N sc k es m) (hs : es.all notStar = true) (h0 : es = [] → m = dNil) :
    EOk g N sc k (.Call (.Name x p) es [] pos) (dCall n sem m) := by
  obtain ⟨t, pt, rt⟩ := ha.ex
  obtain ⟨t', pt', rt'⟩ := callPE (p := p) (pos := pos) cold F hg hx hs pt
  refine ⟨⟨t', pt', fun E W F δ S σ H Q rel post => rt' E σ H Q ?_⟩⟩
  by_cases he : es = []
  · refine .inl ⟨he, ?_⟩
    rw [h0 he] at post
    exact call_post rel .nil post
  · exact .inr ⟨he, rt E W F δ S σ H _ rel (post_bind post fun ds S1 W1 vs H1 _ l1 rel1 hx post1 => call_post rel1 hx post1)⟩
theorem f_call {x : Str} {n : Nat} {sem : Sem} {m : DM (List D)} {p : Pos} (cold : g.hot = none) (F : FnAt g k x n sem) (hg : sc.names.lookup x = some .globalImplicit) (hx : (x == ("__debug__" : Str)) = false) (ha : AOk g N sc k es m) (hs : es.all notStar = true) (h0 : es = [] → m = dNil) :
    FOk g N sc k (.Call (.Name x p) es [] pos) (fCall n sem m) := by
  obtain ⟨t, pt, rt⟩ := ha.ex
  obtain ⟨t', pt', rt'⟩ := callPE (p := p) (pos := pos) cold F hg hx hs pt
  refine ⟨⟨t', pt', fun E W F δ S σ H Q rel post => rt' E σ H Q ?_⟩⟩
  by_cases he : es = []
  · refine .inl ⟨he, ?_⟩
    rw [h0 he] at post
    exact callF_post rel .nil post
  · exact .inr ⟨he, rt E W F δ S σ H _ rel (postF_bind post fun ds S1 W1 vs H1 _ l1 rel1 hx post1 => callF_post rel1 hx post1)⟩
end DM


end
section
set_option Elab.async false
set_option linter.all false
set_option maxRecDepth 100000
set_option autoImplicit false
namespace DM
open PySem PySem.Spec L2

/-! ### methods -/
def plainRecv : Expr → Bool
  | .Name .. => true
  | .Attribute .. => true
  | .Subscript .. => true
  | .Constant .. => true
  | .Call _ (_ :: _) _ _ => true
  | _ => false
theorem base_of {o : Expr} (h : plainRecv o = true) (attr : Str) (env : Env) (whole : PySem.Sem Value) : attributeBase o attr env whole = whole := by
  cases o with
  | Call f es kw p =>
    cases es with
    | nil => cases h
    | cons e es => cases f <;> rfl
  | Name _ _ => rfl
  | Attribute _ _ _ => rfl
  | Subscript _ _ _ => rfl
  | Constant _ _ _ => rfl
  | _ => cases h
theorem noStar_all (env : Env) (pos : Pos) : ∀ {es : List Expr}, es.all notStar = true → (backTo pos (starEach es env)).all (fun x => !x.1) = true
  | [], _ => rfl
  | e :: es, h => by
    simp only [List.all_cons, Bool.and_eq_true] at h
    rw [star_of h.1]
    show (true && (backTo pos (starEach es env)).all (fun x => !x.1)) = true
    rw [noStar_all env pos h.2]; rfl
theorem few_of (env : Env) (pos : Pos) {es : List Expr} (hs : es.all notStar = true) (hlen : es.length < 29) : methodCallForm (es.length + ([] : List Keyword).length) (backTo pos (starEach es env)) (backToKw pos (keywordEach [] env)) = true := by
  unfold methodCallForm
  rw [noStar_all env pos hs]
  show (true && true && decide (es.length + 0 + 0 < 30)) = true
  rw [decide_eq_true (by omega)]; rfl
theorem meth_eq {o : Expr} {m : Str} {apos pos : Pos} {es : List Expr} {env : Env} (hb : plainRecv o = true) (hl : (apos.endLine == pos.line) = true) (hs : es.all notStar = true) (hlen : es.length < 29) :
    eval (.Call (.Attribute o m apos) es [] pos) env = (do
      let ov ← eval o env
      standAt apos.atName
      let (f, first) ← holding [ov] (getMethod ov m (do return (← importBound o env).getD true))
      callWith pos f first (backTo pos (starEach es env)) (backToKw pos (keywordEach [] env))) := by
  show (do
    let ov ← attributeBase o m env (eval o env)
    standAt apos.atName
    methodCall o m apos pos env ov (es.length + ([] : List Keyword).length) (backTo pos (starEach es env)) (backToKw pos (keywordEach [] env))) = _
  rw [base_of hb]
  unfold methodCall calleeOf methodCallPos
  rw [few_of env pos hs hlen]
  simp only [hl, Bool.not_true, Bool.false_or, if_true]
  rfl
def isObj (S : Sto) (C : Str) (m : Str) : D → Bool
  | .ref i => match S.c i with
    | some (.obj C' fs) => decide (C' = C) && (fs.lookup m).isNone
    | _ => false
  | _ => false
def dMeth (C m : Str) (n : Nat) (sem : Sem) (o : DM D) (r : DM (List D)) : DM D := dBind o fun x => fun δ S => if isObj S C m x = true then dBind r (fun ds _ S => (callN n sem (x :: ds) S).toD) δ S else .stuck
def fMeth (C m : Str) (n : Nat) (sem : Sem) (o : DM D) (r : DM (List D)) : DM (List D) := dBind o fun x => fun δ S => if isObj S C m x = true then dBind r (fun ds _ S => (callN n sem (x :: ds) S).toF) δ S else .stuck
variable {g : GE} {N : List Str} {sc : Scope} {k : Nat} {a b c e o : Expr} {es : List Expr} {ma mb mc mo : DM D} {pos apos : Pos}
theorem isObj_at {W : Wd} {F H : Hp} {δ : List Sl} {S : Sto} {σ : St} {C m : Str} {x : D} {v : V} {Ca : Addr} (rel : Rel g.K g.mg W F δ S σ H) (hx : VV g.K W σ x v) (h : isObj S C m x = true) (hC : g.mg C = some (.ref Ca)) :
    ∃ a dx fs, v = .ref a ∧ H a = some (.ins Ca dx fs) ∧ fs.lookup m = none ∧ PV g.K W x v := by
  unfold isObj at h
  split at h
  · rename_i i
    split at h
    · rename_i C' fs ec
      obtain ⟨h1, h2⟩ := Bool.and_eq_true_iff.mp h
      have e := of_decide_eq_true h1
      subst e
      have p := hx.pv rfl
      obtain ⟨a, e1, ⟨Ca', dx, ls, e2, e3, pf⟩, _⟩ := rel.cell i _ ec
      rw [hC] at e2; cases e2
      cases p with
      | ref e4 =>
        rw [e1] at e4; cases e4
        exact ⟨a, dx, ls, rfl, e3, pf.look.2 (by simpa using h2), .ref e1⟩
    · cases h
  · cases h
theorem methPE {C m : Str} {n : Nat} {sem : Sem} (cold : g.hot = none) (F : MethAt g k C m n sem) (hb : plainRecv o = true) (hl : (apos.endLine == pos.line) = true) (hs : es.all notStar = true) (hlen : es.length < 29) {to : XK → TE} {t : XK → TA}
    (po : ∀ X E, CtxOk g N sc k X → TakesE X E → PE X o (to E)) (pt : ∀ X E, CtxOk g N sc k X → TakesE X E → PA X es (t E)) : ∃ Ca, g.mg C = some (.ref Ca) ∧ ∃ t' : XK → TE, (∀ X E, CtxOk g N sc k X → TakesE X E → PE X (.Call (.Attribute o m apos) es [] pos) (t' E)) ∧
      ∀ E σ H Q, (to E σ H fun x H1 => ∃ a dx fs, x = .ref a ∧ H1 a = some (.ins Ca dx fs) ∧ fs.lookup m = none ∧ ((es = [] ∧ spOf g n sem [x] H1 Q E) ∨ (es ≠ [] ∧ t E σ H1 fun vs H2 => spOf g n sem (x :: vs) H2 Q E))) → t' E σ H Q := by
  obtain ⟨Ca, f, fd, ps, h1, h2, h3, h4, h5, h6⟩ := F.ex
  refine ⟨Ca, h1, ?_⟩
  cases es with
  | nil =>
    refine ⟨fun E => tMeth Ca m (spOf g n sem) [] E (to E) tNil, fun X E cx tk => pe_meth0 (po X E cx tk) (by rw [cx.hK]; exact h2) (by rw [cx.hK]; exact h3) (FnOk.at cx h6) (cx.roomC cold) (by rw [cx.hK]; exact h4) .nil (passE tk) (meth_eq hb hl rfl (by decide)), fun E σ H Q h => ?_⟩
    have e : tMeth Ca m (spOf g n sem) [] E (to E) tNil σ H Q = to E σ H fun x H1 => ∃ a dx fs, x = .ref a ∧ H1 a = some (.ins Ca dx fs) ∧ fs.lookup m = none ∧ spOf g n sem [x] H1 Q E := rfl
    show tMeth Ca m (spOf g n sem) [] E (to E) tNil σ H Q
    rw [e]
    have e2 : (fun (x : V) (H1 : Hp) => ∃ a dx fs, x = .ref a ∧ H1 a = some (.ins Ca dx fs) ∧ fs.lookup m = none ∧ ((([] : List Expr) = [] ∧ spOf g n sem [x] H1 Q E) ∨ (([] : List Expr) ≠ [] ∧ t E σ H1 fun vs H2 => spOf g n sem (x :: vs) H2 Q E))) =
        fun x H1 => ∃ a dx fs, x = .ref a ∧ H1 a = some (.ins Ca dx fs) ∧ fs.lookup m = none ∧ spOf g n sem [x] H1 Q E := by
      funext x H1
      simp
    rw [e2] at h
    exact h
  | cons e es =>
    have hs' := hs
    simp only [List.all_cons, Bool.and_eq_true] at hs'
    refine ⟨fun E => tMeth Ca m (spOf g n sem) [] E (to E) (t E), fun X E cx tk => pe_meth (po X E cx tk) (by rw [cx.hK]; exact h2) (by rw [cx.hK]; exact h3) (FnOk.at cx h6) (cx.roomC cold) (by rw [cx.hK]; exact h4) .nil (passE tk) (pt X E cx tk) (star_of hs'.1 _) (noStar_any _ _ hs'.2) (meth_eq hb hl hs hlen), fun E σ H Q h => ?_⟩
    have e1 : tMeth Ca m (spOf g n sem) [] E (to E) (t E) σ H Q = to E σ H fun x H1 => ∃ a dx fs, x = .ref a ∧ H1 a = some (.ins Ca dx fs) ∧ fs.lookup m = none ∧ t E σ H1 fun vs H2 => spOf g n sem (x :: (vs ++ [])) H2 Q E := rfl
    show tMeth Ca m (spOf g n sem) [] E (to E) (t E) σ H Q
    rw [e1]
    have e2 : (fun (x : V) (H1 : Hp) => ∃ a dx fs, x = .ref a ∧ H1 a = some (.ins Ca dx fs) ∧ fs.lookup m = none ∧ (((e :: es : List Expr) = [] ∧ spOf g n sem [x] H1 Q E) ∨ ((e :: es : List Expr) ≠ [] ∧ t E σ H1 fun vs H2 => spOf g n sem (x :: vs) H2 Q E))) =
        fun x H1 => ∃ a dx fs, x = .ref a ∧ H1 a = some (.ins Ca dx fs) ∧ fs.lookup m = none ∧ t E σ H1 fun vs H2 => spOf g n sem (x :: (vs ++ [])) H2 Q E := by
      funext x H1
      simp
    rw [e2] at h
    exact h
theorem e_meth {C m : Str} {n : Nat} {sem : Sem} {mr : DM (List D)} (cold : g.hot = none) (F : MethAt g k C m n sem) (ho : EOk g N sc k o mo) (ha : AOk g N sc k es mr) (hb : plainRecv o = true) (hl : (apos.endLine == pos.line) = true) (hs : es.all notStar = true) (hlen : es.length < 29) (h0 : es = [] → mr = dNil) :
    EOk g N sc k (.Call (.Attribute o m apos) es [] pos) (dMeth C m n sem mo mr) := by
  obtain ⟨to, po, ro⟩ := ho.ex
  obtain ⟨t, pt, rt⟩ := ha.ex
  obtain ⟨Ca, hC, t', pt', rt'⟩ := methPE cold F hb hl hs hlen po pt
  refine ⟨⟨t', pt', fun E W F δ S σ H Q rel post => rt' E σ H Q ?_⟩⟩
  refine ro E W F δ S σ H _ rel (post_bind post fun x S1 W1 v H1 _ l1 rel1 hx post1 => ?_)
  cases hc : isObj S1 C m x with
  | false => dsimp only at post1; rw [hc] at post1; exact post1.elim
  | true =>
    dsimp only at post1
    rw [hc] at post1
    obtain ⟨a, dx, fs, ev, ea, l, pv⟩ := isObj_at rel1 hx hc hC
    refine ⟨a, dx, fs, ev, ea, l, ?_⟩
    by_cases he : es = []
    · refine .inl ⟨he, ?_⟩
      rw [h0 he] at post1
      exact call_post rel1 (.cons (.inl pv) .nil) post1
    · exact .inr ⟨he, rt E W1 F δ S1 σ H1 _ rel1 (post_bind post1 fun ds S2 W2 vs H2 _ l2 rel2 hxs post2 => call_post rel2 (.cons (hx.mono l2) hxs) post2)⟩
theorem f_meth {C m : Str} {n : Nat} {sem : Sem} {mr : DM (List D)} (cold : g.hot = none) (F : MethAt g k C m n sem) (ho : EOk g N sc k o mo) (ha : AOk g N sc k es mr) (hb : plainRecv o = true) (hl : (apos.endLine == pos.line) = true) (hs : es.all notStar = true) (hlen : es.length < 29) (h0 : es = [] → mr = dNil) :
    FOk g N sc k (.Call (.Attribute o m apos) es [] pos) (fMeth C m n sem mo mr) := by
  obtain ⟨to, po, ro⟩ := ho.ex
  obtain ⟨t, pt, rt⟩ := ha.ex
  obtain ⟨Ca, hC, t', pt', rt'⟩ := methPE cold F hb hl hs hlen po pt
  refine ⟨⟨t', pt', fun E W F δ S σ H Q rel post => rt' E σ H Q ?_⟩⟩
  refine ro E W F δ S σ H _ rel (postF_bind post fun x S1 W1 v H1 _ l1 rel1 hx post1 => ?_)
  cases hc : isObj S1 C m x with
  | false => dsimp only at post1; rw [hc] at post1; exact post1.elim
  | true =>
    dsimp only at post1
    rw [hc] at post1
    obtain ⟨a, dx, fs, ev, ea, l, pv⟩ := isObj_at rel1 hx hc hC
    refine ⟨a, dx, fs, ev, ea, l, ?_⟩
    by_cases he : es = []
    · refine .inl ⟨he, ?_⟩
      rw [h0 he] at post1
      exact callF_post rel1 (.cons (.inl pv) .nil) post1
    · exact .inr ⟨he, rt E W1 F δ S1 σ H1 _ rel1 (postF_bind post1 fun ds S2 W2 vs H2 _ l2 rel2 hxs post2 => callF_post rel2 (.cons (hx.mono l2) hxs) post2)⟩

/-! ### a new instance -/
def dMake (C : Str) (n : Nat) (sem : Sem) (m : DM (List D)) : DM D := dBind m fun ds _ S => match callN (n + 1) sem (.ref S.nx :: ds) (S.new (.obj C [])) with
  | .ok (.val .non) S' => .ok (.ref S.nx) S'
  | .exc c S' => .exc c S'
  | _ => .stuck
theorem e_make {C : Str} {n : Nat} {sem : Sem} {m : DM (List D)} {p : Pos} (cold : g.hot = none) (F : MakeAt g k C n sem) (hg : sc.names.lookup C = some .globalImplicit) (hx : (C == ("__debug__" : Str)) = false) (ha : AOk g N sc (k + 1) es m) (hs : es.all notStar = true) (h0 : es ≠ []) :
    EOk g N sc (k + 1) (.Call (.Name C p) es [] pos) (dMake C n sem m) := by
  obtain ⟨Ca, f, fd, ps, h1, h2, h3, h4, h5⟩ := F.ex
  obtain ⟨t, pt, rt⟩ := ha.ex
  cases es with
  | nil => exact absurd rfl h0
  | cons e es =>
    simp only [List.all_cons, Bool.and_eq_true] at hs
    refine ⟨⟨fun E => tMake Ca (spOf g (n + 1) sem) [] E (t E), fun X E cx tk => pe_make (by rw [cx.hK]; exact h2) (FnOk.at cx h5) (cx.roomC cold) (gl_of cx hg) (by rw [cx.hm]; exact h1) (by rw [cx.hK]; exact h3) .nil (passE tk) (pt X E cx tk) hx (star_of hs.1 _) (noStar_any _ _ hs.2), fun E W F δ S σ H Q rel post => ?_⟩⟩
    refine rt E W F δ S σ H _ rel (post_bind post fun ds S1 W1 vs H1 _ l1 rel1 hxs post1 => ?_)
    intro x dx nx ndx ne
    rw [List.append_nil]
    have rel2 := rel1.grow (o := .own x) ndx
    have nx2 : upd H1 dx (.own x) x = none := by rw [upd_ne (Ne.symm ne)]; exact nx
    have rel3 := rel2.grow (o := .ins Ca dx []) nx2
    have own : OwnAt W1 F x := ⟨rel1.pers.free nx, rel1.frame.free nx, fun i e => rel1.mt i x e nx⟩
    have nsl : ∀ (k : Nat) (s : Sl), δ[k]? = some s → s.isOwn = true → σ[k]? ≠ some (some (.ref x)) := fun k s e1 e2 e3 => by
      have sl := rel1.slot k s _ e1 e3
      cases s with
      | no => cases e2
      | x a => cases e2
      | v d => cases e2
      | ol ds => obtain ⟨a, vs, e, q, _⟩ := sl; cases e; rw [nx] at q; cases q
      | od ds => obtain ⟨a, vs, e, q, _⟩ := sl; cases e; rw [nx] at q; cases q
    have l2 := le_cell (p := x) rel1.m_none
    have rel4 := rel3.newCell (x := .obj C []) (p := x) (o := .ins Ca dx []) upd_same own ⟨Ca, dx, [], h1, upd_same, .nil⟩ nsl
    have px : PV g.K (W1.cell S1.nx x) (.ref S1.nx) (.ref x) := .ref (by show (if S1.nx = S1.nx then some x else _) = some x; rw [if_pos rfl])
    refine call_sp rel4 (.cons (.inl px) (hxs.mono l2)) (fun z => ?_) ?_
    · dsimp only at post1
      rw [z] at post1; exact post1.elim
    · dsimp only at post1
      cases hc : callN (n + 1) sem (.ref S1.nx :: ds) (S1.new (.obj C [])) with
      | ok rv S' =>
        rw [hc] at post1
        cases rv with
        | ol ds => exact post1.elim
        | val d =>
          cases d with
          | non =>
            intro W' v H' l q p
            cases p
            exact ⟨rfl, post1 W' _ H' (l2.trans l) (rel4.back l q) (.inl (px.mono l))⟩
          | _ => exact post1.elim
      | exc c S' =>
        rw [hc] at post1
        exact fun W' H' l q => post1 W' H' (l2.trans l) (rel4.toRelH.back q)
      | stuck => rw [hc] at post1; exact post1.elim

/-! ### attributes -/
structure AttrAt (g : GE) (C f : Str) : Prop where
  ex : ∃ Ca, g.mg C = some (.ref Ca) ∧ Cls g.K Ca ∧ NoAttr g.K Ca f
def attrOf (S : Sto) (C f : Str) : D → Option D
  | .ref i => match S.c i with
    | some (.obj C' fs) => if C' = C then fs.lookup f else none
    | _ => none
  | _ => none
theorem attrOf_some {S : Sto} {C f : Str} {x z : D} (h : attrOf S C f x = some z) : ∃ i fs, x = .ref i ∧ S.c i = some (.obj C fs) ∧ fs.lookup f = some z := by
  unfold attrOf at h
  split at h
  · split at h
    · rename_i i _ C' fs ec
      split at h
      · rename_i eC
        subst eC
        exact ⟨i, fs, rfl, ec, h⟩
      · cases h
    · cases h
  · cases h
def dAttr (C f : Str) (m : DM D) : DM D := dBind m fun x _ S => lift (attrOf S C f x) S
theorem e_attr {C f : Str} (h : AttrAt g C f) (ho : EOk g N sc k o mo) (hb : plainRecv o = true) : EOk g N sc k (.Attribute o f pos) (dAttr C f mo) := by
  obtain ⟨Ca, hC, hc, hn⟩ := h.ex
  obtain ⟨to, po, ro⟩ := ho.ex
  refine ⟨⟨fun E => tFld g.K (to E) f, fun X E cx t => by rw [← cx.hK]; exact pe_fld (po X E cx t) (base_of hb _ _ _), fun E W F δ S σ H Q rel post => ?_⟩⟩
  refine ro E W F δ S σ H _ rel (post_bind post fun x S1 W1 v H1 _ l1 rel1 hx post1 => ?_)
  obtain ⟨z, ez, q⟩ := post_lift post1
  obtain ⟨i, fs, rfl, ec, ez⟩ := attrOf_some ez
  have p := hx.pv rfl
  obtain ⟨a, e1, ⟨Ca', dx, ls, e2, e3, pf⟩, _⟩ := rel1.cell i _ ec
  rw [hC] at e2; cases e2
  cases p with
  | ref e4 =>
    rw [e1] at e4; cases e4
    obtain ⟨y, ey, py⟩ := pf.look.1 z ez
    exact ⟨a, Ca, dx, ls, y, rfl, e3, hc, hn, ey, q W1 y H1 (.refl _) rel1 (.inl py)⟩
end DM


end
section
set_option Elab.async false
set_option linter.all false
set_option maxRecDepth 100000
set_option autoImplicit false
namespace DM
open PySem PySem.Spec L2

/-! ### slots stored -/
section
variable {K : PySem.W.Frag} {mg : Str → Option Value} {W W' : Wd} {F H H' : Hp} {S S' : Sto} {δ : List Sl} {σ : St}
theorem Rel.setV {i : Nat} {d : D} {v : V} (r : Rel K mg W F δ S σ H) (p : PV K W d v) : Rel K mg W F (δ.set i (.v d)) S (σ.set i (some v)) H :=
  { r.toRelH with
    len := by simp [r.len]
    slot := fun k s o e1 e2 => by
      by_cases h : k = i
      · subst h
        have h1 : k < δ.length := by
          have := (List.getElem?_eq_some_iff.mp e1).1
          simpa using this
        rw [List.getElem?_set_self h1] at e1
        rw [List.getElem?_set_self (by rw [← r.len]; exact h1)] at e2
        cases e1; cases e2
        exact ⟨v, rfl, p⟩
      · rw [List.getElem?_set_ne (Ne.symm h)] at e1 e2
        exact r.slot k s o e1 e2
    sep := fun j k s t a e1 e2 h1 h2 e3 e4 => by
      have nj : j ≠ i := fun h => by
        subst h
        have h1' := (List.getElem?_eq_some_iff.mp e1).1
        rw [List.getElem?_set_self (by simpa using h1')] at e1
        cases e1; cases h1
      have nk : k ≠ i := fun h => by
        subst h
        have h1' := (List.getElem?_eq_some_iff.mp e2).1
        rw [List.getElem?_set_self (by simpa using h1')] at e2
        cases e2; cases h2
      rw [List.getElem?_set_ne (Ne.symm nj)] at e1 e3
      rw [List.getElem?_set_ne (Ne.symm nk)] at e2 e4
      exact r.sep j k s t a e1 e2 h1 h2 e3 e4 }
/-- an own slot is filled -/
theorem Rel.setOwn {i : Nat} {s : Sl} {a : Addr} (r : Rel K mg W F δ S σ H) (hs : SlotH K W F H s (some (.ref a))) (n : ∀ (k : Nat) (s : Sl), δ[k]? = some s → s.isOwn = true → σ[k]? ≠ some (some (.ref a))) : Rel K mg W F (δ.set i s) S (σ.set i (some (.ref a))) H :=
  { r.toRelH with
    len := by simp [r.len]
    slot := fun k t o e1 e2 => by
      by_cases h : k = i
      · subst h
        have h1 : k < δ.length := by
          have := (List.getElem?_eq_some_iff.mp e1).1
          simpa using this
        rw [List.getElem?_set_self h1] at e1
        rw [List.getElem?_set_self (by rw [← r.len]; exact h1)] at e2
        cases e1; cases e2
        exact hs
      · rw [List.getElem?_set_ne (Ne.symm h)] at e1 e2
        exact r.slot k t o e1 e2
    sep := fun j k t u b e1 e2 h1 h2 e3 e4 => by
      by_cases hj : j = i
      · by_cases hk : k = i
        · rw [hj, hk]
        · subst hj
          have hl : j < δ.length := by
            have := (List.getElem?_eq_some_iff.mp e1).1
            simpa using this
          rw [List.getElem?_set_self (by rw [← r.len]; exact hl)] at e3
          cases e3
          rw [List.getElem?_set_ne (Ne.symm hk)] at e2 e4
          exact absurd e4 (n k u e2 h2)
      · rw [List.getElem?_set_ne (Ne.symm hj)] at e1 e3
        by_cases hk : k = i
        · subst hk
          have hl : k < δ.length := by
            have := (List.getElem?_eq_some_iff.mp e2).1
            simpa using this
          rw [List.getElem?_set_self (by rw [← r.len]; exact hl)] at e4
          cases e4
          exact absurd e3 (n j t e1 h1)
        · rw [List.getElem?_set_ne (Ne.symm hk)] at e2 e4
          exact r.sep j k t u b e1 e2 h1 h2 e3 e4 }
/-- an own slot's list (dict) is changed in place -/
theorem Rel.own {k : Nat} {a : Addr} {s s' : Sl} {o : HO} (r : Rel K mg W F δ S σ H) (e1 : δ[k]? = some s) (h1 : s.isOwn = true) (h1' : s'.isOwn = true) (e2 : σ[k]? = some (some (.ref a))) (w : OwnAt W F a) (hs : SlotH K W F (upd H a o) s' (some (.ref a))) :
    Rel K mg W F (δ.set k s') S σ (upd H a o) := by
  have hk : k < δ.length := (List.getElem?_eq_some_iff.mp e1).1
  refine { pers := fun b u e => ?_, frame := fun b u e => ?_, cell := fun i c e => ?_, mF := r.mF, fb := r.fb, inj := r.inj, nxm := r.nxm, mt := fun i b e z => ?_, len := by simp [r.len], slot := fun j t o' q1 q2 => ?_, sep := fun j l t u b q1 q2 p1 p2 q3 q4 => ?_ }
  · have ne : b ≠ a := fun z => by rw [z, w.b] at e; cases e
    rw [upd_ne ne]; exact r.pers _ _ e
  · have ne : b ≠ a := fun z => by rw [z, w.f] at e; cases e
    rw [upd_ne ne]; exact r.frame _ _ e
  · obtain ⟨b, q, x, n⟩ := r.cell i c e
    have ne : b ≠ a := fun z => w.m i (by rw [← z]; exact q)
    exact ⟨b, q, x.mono (.refl _) fun u h => by rw [upd_ne ne]; exact h, n⟩
  · by_cases h : b = a
    · subst h; exact w.m i e
    · rw [upd_ne h] at z; exact r.mt i b e z
  · by_cases h : j = k
    · subst h
      rw [List.getElem?_set_self hk] at q1
      cases q1
      rw [e2] at q2; cases q2
      exact hs
    · rw [List.getElem?_set_ne (Ne.symm h)] at q1
      have sl := r.slot j t o' q1 q2
      cases t with
      | no => trivial
      | x a => exact sl
      | v d => exact sl
      | ol ds =>
        obtain ⟨b, vs, ex, q, p, w'⟩ := sl
        subst ex
        have ne : b ≠ a := fun z => h (r.sep j k (.ol ds) s b q1 e1 rfl h1 q2 (by rw [z]; exact e2))
        exact ⟨b, vs, rfl, by rw [upd_ne ne]; exact q, p, w'⟩
      | od ds =>
        obtain ⟨b, vs, ex, q, p, w'⟩ := sl
        subst ex
        have ne : b ≠ a := fun z => h (r.sep j k (.od ds) s b q1 e1 rfl h1 q2 (by rw [z]; exact e2))
        exact ⟨b, vs, rfl, by rw [upd_ne ne]; exact q, p, w'⟩
  · have get : ∀ (j : Nat) (t : Sl), (δ.set k s')[j]? = some t → t.isOwn = true → ∃ t', δ[j]? = some t' ∧ t'.isOwn = true := fun j t q p => by
      by_cases h : j = k
      · subst h
        rw [List.getElem?_set_self hk] at q
        exact ⟨s, e1, h1⟩
      · rw [List.getElem?_set_ne (Ne.symm h)] at q
        exact ⟨t, q, p⟩
    obtain ⟨t', q1', p1'⟩ := get j t q1 p1
    obtain ⟨u', q2', p2'⟩ := get l u q2 p2
    exact r.sep j l t' u' b q1' q2' p1' p2' q3 q4
end

/-! ### statements -/
def PostS (g : GE) (W : Wd) (F : Hp) (E : XK) (Dn : Ends) : RS → Prop
  | .nx δ' S' => ∀ W' σ' H', W.Le W' → Rel g.K g.mg W' F δ' S' σ' H' → Dn.nx σ' H'
  | .brk δ' S' => ∀ W' σ' H', W.Le W' → Rel g.K g.mg W' F δ' S' σ' H' → Dn.bk σ' H'
  | .cnt δ' S' => ∀ W' σ' H', W.Le W' → Rel g.K g.mg W' F δ' S' σ' H' → Dn.ct σ' H'
  | .ret r S' => ∀ W' v H', W.Le W' → RelH g.K g.mg W' F S' H' → RVV g.K W' F H' r v → Dn.rt v H'
  | .exc c S' => ∀ W' H', W.Le W' → RelH g.K g.mg W' F S' H' → E (clsV g.mg c) none H'
  | .stuck => False
theorem PostS.mono {g : GE} {W W1 : Wd} {F : Hp} {E : XK} {Dn : Ends} {r : RS} (h : PostS g W F E Dn r) (l : W.Le W1) : PostS g W1 F E Dn r := by
  cases r with
  | nx δ S => exact fun W' σ' H' l' => h W' σ' H' (l.trans l')
  | brk δ S => exact fun W' σ' H' l' => h W' σ' H' (l.trans l')
  | cnt δ S => exact fun W' σ' H' l' => h W' σ' H' (l.trans l')
  | ret rv S => exact fun W' σ' H' l' => h W' σ' H' (l.trans l')
  | exc c S => exact fun W' H' l' => h W' H' (l.trans l')
  | stuck => exact h
structure StCtx (g : GE) (N : List Str) (sc : Scope) (k : Nat) (X : Cx) : Prop extends CtxOk g N sc k X where
  stk : X.stack = X.env :: X.outer
  fr : X.env.frame = some X.env.locals
  fn : ∀ x, X.fn x = true
  pass : PassesOwn (model X.prog X.w) X.A X.env X.xe
structure SOk (g : GE) (N : List Str) (sc : Scope) (k : Nat) (st : Stmt) (m : DS) : Prop where
  ex : ∃ t : XK → TS, (∀ X E, StCtx g N sc k X → TakesE X E → PS X st (t E)) ∧ ∀ E W F δ S σ H Dn, Rel g.K g.mg W F δ S σ H → PostS g W F E Dn (m δ S) → t E Dn σ H
structure BOk (g : GE) (N : List Str) (sc : Scope) (k : Nat) (sts : List Stmt) (m : DS) : Prop where
  ex : ∃ t : XK → TS, (∀ X E, StCtx g N sc k X → TakesE X E → PSs X sts (t E)) ∧ ∀ E W F δ S σ H Dn, Rel g.K g.mg W F δ S σ H → PostS g W F E Dn (m δ S) → t E Dn σ H
variable {g : GE} {N : List Str} {sc : Scope} {k : Nat} {a b c e o : Expr} {es : List Expr} {ma mb mc mo : DM D} {pos pos' apos : Pos} {st : Stmt} {sts sts' : List Stmt} {m m' : DS}

def sNext : DS := fun δ S => .nx δ S
def sSeq (a b : DS) : DS := fun δ S => match a δ S with
  | .nx δ' S' => b δ' S'
  | r => r
theorem b_nil : BOk g N sc k [] sNext := ⟨⟨fun _ => tNext, fun _ _ _ _ => pss_nil, fun E W F δ S σ H Dn rel post => post W σ H (.refl _) rel⟩⟩
theorem b_cons (h1 : SOk g N sc k st m) (h2 : BOk g N sc k sts m') : BOk g N sc k (st :: sts) (sSeq m m') := by
  obtain ⟨t, p, r⟩ := h1.ex
  obtain ⟨t', p', r'⟩ := h2.ex
  refine ⟨⟨fun E => tSeq (t E) (t' E), fun X E cx tk => pss_cons (p X E cx tk) (p' X E cx tk), fun E W F δ S σ H Dn rel post => ?_⟩⟩
  refine r E W F δ S σ H _ rel ?_
  unfold sSeq at post
  cases e : m δ S with
  | nx δ' S' =>
    rw [e] at post
    exact fun W' σ' H' l rel' => r' E W' F δ' S' σ' H' Dn rel' (PostS.mono (r := m' δ' S') post l)
  | brk δ' S' => rw [e] at post; exact post
  | cnt δ' S' => rw [e] at post; exact post
  | ret rv S' => rw [e] at post; exact post
  | exc c S' => rw [e] at post; exact post
  | stuck => rw [e] at post; exact post
theorem b_one (h1 : SOk g N sc k st m) : BOk g N sc k [st] m := by
  obtain ⟨t, p, r⟩ := h1.ex
  exact ⟨⟨t, fun X E cx tk => pss_one (p X E cx tk), r⟩⟩
theorem s_pass : SOk g N sc k (.Pass pos) sNext := ⟨⟨fun _ => tNext, fun _ _ _ _ => ps_pass, fun E W F δ S σ H Dn rel post => post W σ H (.refl _) rel⟩⟩
def sBrk : DS := fun δ S => .brk δ S
def sCnt : DS := fun δ S => .cnt δ S
theorem s_break : SOk g N sc k (.Break pos) sBrk := ⟨⟨fun _ => tBreak, fun _ _ _ _ => ps_break, fun E W F δ S σ H Dn rel post => post W σ H (.refl _) rel⟩⟩
theorem s_cont : SOk g N sc k (.Continue pos) sCnt := ⟨⟨fun _ => tCont, fun _ _ _ _ => ps_continue, fun E W F δ S σ H Dn rel post => post W σ H (.refl _) rel⟩⟩
/-- the bind of an expression in a statement -/
def sBind {α : Type} (m : DM α) (f : α → DS) : DS := fun δ S => match m δ S with
  | .ok x S' => f x δ S'
  | .exc c S' => .exc c S'
  | .stuck => .stuck
theorem postS_bind {α β : Type} {VR : Wd → α → β → Prop} {W : Wd} {F : Hp} {δ : List Sl} {σ : St} {E : XK} {Dn : Ends} {G : β → Hp → Prop} {m : DM α} {f : α → DS} {S : Sto}
    (h : PostS g W F E Dn (sBind m f δ S)) (k : ∀ a S' W' v H', m δ S = .ok a S' → W.Le W' → Rel g.K g.mg W' F δ S' σ H' → VR W' a v → PostS g W' F E Dn (f a δ S') → G v H') : Post g VR W F δ σ E G (m δ S) := by
  unfold sBind at h
  cases e : m δ S with
  | ok a S' => rw [e] at h; exact fun W' v H' l rel hv => k a S' W' v H' e l rel hv (PostS.mono (r := f a δ S') h l)
  | exc c S' => rw [e] at h; exact h
  | stuck => rw [e] at h; exact h
theorem postSF_bind {W : Wd} {F : Hp} {δ : List Sl} {σ : St} {E : XK} {Dn : Ends} {G : VK} {m : DM (List D)} {f : List D → DS} {S : Sto}
    (h : PostS g W F E Dn (sBind m f δ S)) (k : ∀ a S' W' v H', m δ S = .ok a S' → W.Le W' → Rel g.K g.mg W' F δ S' σ H' → FreshL g.K W' F δ σ H' a v → PostS g W' F E Dn (f a δ S') → G v H') : PostF g W F δ σ E G (m δ S) := by
  unfold sBind at h
  cases e : m δ S with
  | ok a S' => rw [e] at h; exact fun W' v H' l rel hv => k a S' W' v H' e l rel hv (PostS.mono (r := f a δ S') h l)
  | exc c S' => rw [e] at h; exact h
  | stuck => rw [e] at h; exact h
def notComp : Expr → Bool
  | .ListComp .. => false
  | .SetComp .. => false
  | .DictComp .. => false
  | _ => true
theorem swap_of (h : notComp e = true) (t : Option Expr) (l : Nat) (env : Env) : swapsWith e t l env = pure false := by
  cases e <;> first | rfl | cases h
/-- e; -/
def sExpr (m : DM D) : DS := sBind m fun _ δ S => .nx δ S
theorem s_expr (h : EOk g N sc k e ma) (hn : notComp e = true) : SOk g N sc k (.Expr e pos) (sExpr ma) := by
  obtain ⟨t, p, r⟩ := h.ex
  exact ⟨⟨fun E => tDrop (t E), fun X E cx tk => ps_expr (p X E cx.toCtxOk tk) (swap_of hn _ _ _), fun E W F δ S σ H Dn rel post =>
    r E W F δ S σ H _ rel (postS_bind post fun x S1 W1 v H1 _ l1 rel1 hx post1 => post1 W1 σ H1 (.refl _) rel1)⟩⟩
theorem s_doc {x : Str} {j : Nat} : SOk g N sc k (.Expr (.Constant (.str x) j pos) pos') sNext := ⟨⟨fun _ => tNext, fun _ _ _ _ => ps_doc, fun E W F δ S σ H Dn rel post => post W σ H (.refl _) rel⟩⟩
/-- return e -/
def retOf (δ : List Sl) (S : Sto) : D → RS
  | .own k => match δ[k]? with
    | some (.ol ds) => .ret (.ol ds) S
    | _ => .stuck
  | d => .ret (.val d) S
def sRet (m : DM D) : DS := sBind m fun d δ S => retOf δ S d
theorem s_ret (h : EOk g N sc k e ma) : SOk g N sc k (.Return (some e) pos) (sRet ma) := by
  obtain ⟨t, p, r⟩ := h.ex
  refine ⟨⟨fun E => tRet (t E), fun X E cx tk => ps_ret (p X E cx.toCtxOk tk), fun E W F δ S σ H Dn rel post =>
    r E W F δ S σ H _ rel (postS_bind post fun x S1 W1 v H1 _ l1 rel1 hx post1 => ?_)⟩⟩
  rcases hx with px | ⟨i, rfl, ei⟩
  · have e : retOf δ S1 x = .ret (.val x) S1 := by
      cases px <;> rfl
    have post2 : PostS g W1 F E Dn (retOf δ S1 x) := post1
    rw [e] at post2
    exact post2 W1 _ H1 (.refl _) rel1.toRelH px
  · dsimp only [retOf] at post1
    cases eδ : δ[i]? with
    | none => rw [eδ] at post1; exact post1.elim
    | some s =>
      rw [eδ] at post1
      cases s with
      | ol ds =>
        obtain ⟨a, vs, ex, q, pv, w⟩ := rel1.slot i _ _ eδ ei
        cases ex
        exact post1 W1 _ H1 (.refl _) rel1.toRelH ⟨a, vs, rfl, q, pv, w⟩
      | _ => exact post1.elim
def sRetF (m : DM (List D)) : DS := sBind m fun ds _ S => .ret (.ol ds) S
theorem s_retF {mf : DM (List D)} (h : FOk g N sc k e mf) : SOk g N sc k (.Return (some e) pos) (sRetF mf) := by
  obtain ⟨t, p, r⟩ := h.ex
  refine ⟨⟨fun E => tRet (t E), fun X E cx tk => ps_ret (p X E cx.toCtxOk tk), fun E W F δ S σ H Dn rel post =>
    r E W F δ S σ H _ rel (postSF_bind post fun x S1 W1 v H1 _ l1 rel1 hx post1 => ?_)⟩⟩
  obtain ⟨a, vs, rfl, q, pv, w, _⟩ := hx.ex
  exact post1 W1 _ H1 (.refl _) rel1.toRelH ⟨a, vs, rfl, q, pv, w⟩
def sRetN : DS := fun _ S => .ret (.val .non) S
theorem s_retN : SOk g N sc k (.Return none pos) sRetN := ⟨⟨fun _ => tRetN, fun _ _ _ _ => ps_retN, fun E W F δ S σ H Dn rel post => post W _ H (.refl _) rel.toRelH .non⟩⟩
/-- if -/
def sIf (c : DM Bool) (a b : DS) : DS := sBind c fun x => if x = true then a else b
theorem s_if {c : Expr} {mc : DM Bool} (hc : TOk g N sc k c mc) (ha : BOk g N sc k sts m) (hb : BOk g N sc k sts' m') : SOk g N sc k (.If c sts sts' pos) (sIf mc m m') := by
  obtain ⟨t, p, r⟩ := hc.ex
  obtain ⟨ta, pa, ra⟩ := ha.ex
  obtain ⟨tb, pb, rb⟩ := hb.ex
  refine ⟨⟨fun E => tIfS (t E) (ta E) (tb E), fun X E cx tk => ps_if (p X E cx.toCtxOk tk) (pa X E cx tk) (pb X E cx tk), fun E W F δ S σ H Dn rel post =>
    r E W F δ S σ H _ rel (postS_bind post fun x S1 W1 v H1 _ l1 rel1 hx post1 => ?_)⟩⟩
  cases hx
  cases x with
  | true => exact ra E W1 F δ S1 σ H1 Dn rel1 post1
  | false => exact rb E W1 F δ S1 σ H1 Dn rel1 post1
/-- name = e -/
def locB (sc : Scope) (x : Str) : Bool := match sc.names.lookup x with
  | some .local => true
  | some .cell => true
  | _ => false
theorem loc_of {x : Str} (h : locB sc x = true) : L2.Loc sc x := by
  unfold locB at h
  unfold L2.Loc
  split at h
  · exact .inl (by assumption)
  · exact .inr (by assumption)
  · cases h
def sSet (i : Nat) (m : DM D) : DS := sBind m fun d δ S => if d.isOwn = true then .stuck else .nx (δ.set i (.v d)) S
theorem set_post {i : Nat} {x : D} {v : V} {W1 : Wd} {F H1 : Hp} {δ : List Sl} {S1 : Sto} {σ : St} {E : XK} {Dn : Ends} (rel1 : Rel g.K g.mg W1 F δ S1 σ H1) (hx : VV g.K W1 σ x v)
    (post1 : PostS g W1 F E Dn (if x.isOwn = true then .stuck else .nx (δ.set i (.v x)) S1)) : Dn.nx (σ.set i (some v)) H1 := by
  cases ho : x.isOwn with
  | true => rw [ho] at post1; exact post1.elim
  | false =>
    rw [ho] at post1
    exact post1 W1 _ H1 (.refl _) (rel1.setV (hx.pv ho))
theorem s_set {i : Nat} {x : Str} (hi : N[i]? = some x) (hl : locB sc x = true) (h : EOk g N sc k e ma) (hn : notComp e = true) : SOk g N sc k (.Assign [.Name x pos'] e pos) (sSet i ma) := by
  obtain ⟨t, p, r⟩ := h.ex
  refine ⟨⟨fun E => tAsg (t E) (gName i), fun X E cx tk => ps_set cx.nd (by rw [cx.hN]; exact hi) (by rw [cx.hs]; exact loc_of hl) (p X E cx.toCtxOk tk) (swap_of hn _ _ _) (.inl (cx.fn x)), fun E W F δ S σ H Dn rel post =>
    r E W F δ S σ H _ rel (postS_bind post fun x S1 W1 v H1 _ l1 rel1 hx post1 => set_post rel1 hx post1)⟩⟩
def sSetF (i : Nat) (m : DM (List D)) : DS := sBind m fun ds δ S => .nx (δ.set i (.ol ds)) S
theorem setF_post {i : Nat} {ds : List D} {v : V} {W1 : Wd} {F H1 : Hp} {δ : List Sl} {S1 : Sto} {σ : St} {E : XK} {Dn : Ends} (rel1 : Rel g.K g.mg W1 F δ S1 σ H1) (hx : FreshL g.K W1 F δ σ H1 ds v)
    (post1 : PostS g W1 F E Dn (.nx (δ.set i (.ol ds)) S1)) : Dn.nx (σ.set i (some v)) H1 := by
  obtain ⟨a, vs, rfl, q, pv, w, n⟩ := hx.ex
  exact post1 W1 _ H1 (.refl _) (rel1.setOwn (s := .ol ds) ⟨a, vs, rfl, q, pv, w⟩ n)
theorem s_setF {i : Nat} {x : Str} {mf : DM (List D)} (hi : N[i]? = some x) (hl : locB sc x = true) (h : FOk g N sc k e mf) (hn : notComp e = true) : SOk g N sc k (.Assign [.Name x pos'] e pos) (sSetF i mf) := by
  obtain ⟨t, p, r⟩ := h.ex
  refine ⟨⟨fun E => tAsg (t E) (gName i), fun X E cx tk => ps_set cx.nd (by rw [cx.hN]; exact hi) (by rw [cx.hs]; exact loc_of hl) (p X E cx.toCtxOk tk) (swap_of hn _ _ _) (.inl (cx.fn x)), fun E W F δ S σ H Dn rel post =>
    r E W F δ S σ H _ rel (postSF_bind post fun x S1 W1 v H1 _ l1 rel1 hx post1 => setF_post rel1 hx post1)⟩⟩
/-- raise C('..') -/
structure ExcAt (g : GE) (c : Str) : Prop where
  ex : ∃ C, g.mg c = some (.ref C) ∧ PySem.W.excIn g.K C [.type "ValueError", .type "Exception", .type "BaseException", .type "object"] "ValueError.__new__" = true ∧ PySem.W.keepIn g.K (.ref C) = true ∧
    PySem.W.subIn g.K (.ref C) (.type "BaseException") = some true ∧ PySem.W.typeIn g.K (.ref C) = some (.type "type")
def sRaise (c : Str) : DS := fun _ S => .exc c S
theorem s_raise {x t : Str} {j : Nat} {p p2 p3 : Pos} (cold : g.hot = none) (h : ExcAt g x) (hg : sc.names.lookup x = some .globalImplicit) (hx : (x == ("__debug__" : Str)) = false) : SOk g N sc k (.Raise (some (.Call (.Name x p) [.Constant (.str t) j p2] [] p3)) none pos) (sRaise x) := by
  obtain ⟨C, h1, h2, h3, h4, h5⟩ := h.ex
  refine ⟨⟨fun E => fun _ σ H => E (.ref C) none H, fun X E cx tk => ps_raise (cx.calm cold) tk (pmk_own PySem.F.excBase_ValueError (by rw [cx.hK]; exact h2) (by rw [cx.hm]; exact h1) (by rw [cx.hK]; exact h3) (raises_own (by rw [cx.hK]; exact h4) (by rw [cx.hK]; exact h5)) (gl_of cx.toCtxOk hg) hx), fun E W F δ S σ H Dn rel post => ?_⟩⟩
  have z := post W H (.refl _) rel.toRelH
  have e : clsV g.mg x = .ref C := by unfold clsV; rw [h1]; rfl
  rw [e] at z
  exact z

/-! ### a def -/
def semOf (n N : Nat) (m : DS) : Sem := fun ds S => if ds.length = n then (match m (ds.map Sl.v ++ List.replicate (N - n) Sl.no) S with
  | .nx _ S' => .ok (.val .non) S'
  | .ret r S' => .ok r S'
  | .exc c S' => .exc c S'
  | _ => .stuck) else .stuck
theorem rel_start {K : PySem.W.Frag} {mg : Str → Option Value} {W : Wd} {F H : Hp} {S : Sto} {ds : List D} {vs : List V} (N : List Str) (r : RelH K mg W F S H) (p : PVs K W ds vs) :
    Rel K mg W F (ds.map Sl.v ++ List.replicate (N.length - ds.length) Sl.no) S (L2.start N vs) H := by
  have hl := p.length
  refine { r with len := ?_, slot := fun k s o e1 e2 => ?_, sep := fun j k s t a e1 e2 h1 h2 _ _ => ?_ }
  · unfold L2.start
    simp [hl]
  · by_cases h : k < ds.length
    · have h' : k < vs.length := by omega
      rw [List.getElem?_append_left (by simpa using h), List.getElem?_map] at e1
      unfold L2.start at e2
      rw [List.getElem?_append_left (by simpa using h'), List.getElem?_map] at e2
      rw [List.getElem?_eq_getElem h] at e1
      obtain ⟨y, ey, py⟩ := p.get (i := k) (x := ds[k]) (List.getElem?_eq_getElem h)
      rw [ey] at e2
      cases e1; cases e2
      exact ⟨y, rfl, py⟩
    · rw [List.getElem?_append_right (by simp; omega), List.getElem?_replicate] at e1
      split at e1
      · cases e1; trivial
      · cases e1
  · have no : ∀ (j : Nat) (s : Sl), (ds.map Sl.v ++ List.replicate (N.length - ds.length) Sl.no)[j]? = some s → s.isOwn = true → False := fun j s e h => by
      have hm := List.mem_of_getElem? e
      rcases List.mem_append.mp hm with q | q
      · obtain ⟨d, _, rfl⟩ := List.mem_map.mp q; cases h
      · rw [List.mem_replicate] at q; rw [q.2] at h; cases h
    exact (no j s e1 h1).elim
theorem ctx_of {P : Program} {w : World} {K : PySem.W.Frag} {mg : Str → Option Value} {base : Heap} {N : List Str} {qual : Str} {sc : Scope} {f : Addr} {cdv : Value} {A : Around} {outer : List Env} {s : Shared} {H : Hp} {E : XK} {k : Nat} (nd : N.Nodup)
    (hr : Room k (A.deeper (PyProof.Rows.envOfC qual sc s.heap.objs.size f cdv))) : StCtx ⟨P, w, K, mg, base, none⟩ N sc k (cxOf (L2.CX P w) P w K mg base N qual sc f cdv A outer s H E) :=
  { hP := rfl, hw := rfl, hK := rfl, hm := rfl, hb := rfl, hN := rfl, hs := rfl, calmC := fun _ => rfl, room := L2H.roomH_of hr, hd := fun _ => hr.hd, px := fun _ _ e => (nomatch e), nd := nd, stk := rfl, fr := rfl, fn := fun _ => rfl, pass := passes_of rfl }
theorem fn_sound {x qual : Str} {st : Stmt} {f : Addr} {fd : FuncData} {N ps : List Str} {k n : Nat} {m : DS} (cold : g.hot = none) (F : Fun g.K x qual st f fd) (S : FnScope N ps (defScope st)) (hn : ps.length = n) (h : BOk g N (defScope st) k (defBody st) m) :
    FnOk g.P g.w g.K g.mg g.base (L2.CX g.P g.w) (k + 1) f fd ps (spOf g n (semOf n N.length m)) := by
  obtain ⟨gP, gw, gK, gmg, gbase, ghot⟩ := g
  cases cold
  generalize eg : (⟨gP, gw, gK, gmg, gbase, none⟩ : GE) = g at *
  obtain ⟨t, p, r⟩ := h.ex
  refine F.okX S (fun vs H Q E ⟨hl, _⟩ => hl.trans hn.symm) (fun cdv A outer s H vs Q E hr ⟨hl, W, F, ds, S0, rel, pv, post⟩ => ?_)
  have cx : StCtx g N (defScope st) k (cxOf (L2.CX g.P g.w) g.P g.w g.K g.mg g.base N qual (defScope st) f cdv A outer s H E) := by subst eg; exact ctx_of S.nd hr
  refine ⟨t E, p _ E cx (takes_of rfl rfl rfl rfl), r E W F _ S0 _ H _ (rel_start N rel pv) ?_⟩
  have e : ds.length = n := by rw [← pv.length]; exact hl
  unfold semOf at post
  rw [if_pos e] at post
  rw [e]
  cases q : m (ds.map Sl.v ++ List.replicate (N.length - n) Sl.no) S0 with
  | nx δ' S' => rw [q] at post; exact fun W' σ' H' l rel' => post W' _ H' l rel'.toRelH .non
  | brk δ' S' => rw [q] at post; exact post.elim
  | cnt δ' S' => rw [q] at post; exact post.elim
  | ret rv S' => rw [q] at post; exact fun W' v H' l rel' p => post W' v H' l rel' p
  | exc c S' => rw [q] at post; exact post
  | stuck => rw [q] at post; exact post
end DM


end
section
set_option Elab.async false
set_option linter.all false
set_option maxRecDepth 100000
set_option autoImplicit false
namespace DM
open PySem PySem.Spec L2

/-! ### views -/
/-- a list that is tracked plainly -/
def lstOf (δ : List Sl) (S : Sto) : D → Option (List D)
  | .lst ds => some ds
  | .ref i => match S.c i with
    | some (.lst ds) => some ds
    | _ => none
  | .own k => match δ[k]? with
    | some (.ol ds) => some ds
    | _ => none
  | _ => none
/-- a list or (true) a tuple -/
def seqOf (δ : List Sl) (S : Sto) : D → Option (Bool × List D)
  | .tup ds => some (true, ds)
  | .scr ds => some (false, ds)
  | d => (lstOf δ S d).map fun ds => (false, ds)
/-- a dict -/
def dicOf (δ : List Sl) (S : Sto) : D → Option (List (Key × D))
  | .dic kvs => some kvs
  | .ref i => match S.c i with
    | some (.dic kvs) => some kvs
    | _ => none
  | .own k => match δ[k]? with
    | some (.od kvs) => some kvs
    | _ => none
  | _ => none
section
variable {g : GE} {W : Wd} {F H : Hp} {δ : List Sl} {S : Sto} {σ : St} {d : D} {v : V} {ds : List D}
theorem lstOf_ok (rel : Rel g.K g.mg W F δ S σ H) (h : VV g.K W σ d v) (e : lstOf δ S d = some ds) : ∃ a vs, v = .ref a ∧ H a = some (.lst vs) ∧ PVs g.K W ds vs := by
  unfold lstOf at e
  split at e
  · cases e
    cases h.pv rfl with
    | lst ha hp => exact ⟨_, _, rfl, rel.pers _ _ ha, hp⟩
  · rename_i i
    split at e
    · rename_i ds' ec
      cases e
      cases h.pv rfl with
      | ref hm =>
        obtain ⟨a, e1, ⟨vs, e2, e3⟩, _⟩ := rel.cell i _ ec
        rw [hm] at e1; cases e1
        exact ⟨_, vs, rfl, e2, e3⟩
    · cases e
  · rename_i k
    split at e
    · rename_i ds' ec
      cases e
      rcases h with h | ⟨k', ek, eσ⟩
      · cases h
      · cases ek
        obtain ⟨a, vs, e1, e2, e3, _⟩ := rel.slot k _ _ ec eσ
        cases e1
        exact ⟨a, vs, rfl, e2, e3⟩
    · cases e
  · cases e
theorem seqOf_ok {b : Bool} (rel : Rel g.K g.mg W F δ S σ H) (h : VV g.K W σ d v) (e : seqOf δ S d = some (b, ds)) : ∃ a vs, v = .ref a ∧ PVs g.K W ds vs ∧ (b = true → SqT g.K H a vs) ∧ (b = false → SqL g.K H a vs) := by
  have lst : (lstOf δ S d).map (fun ds => (false, ds)) = some (b, ds) → ∃ a vs, v = .ref a ∧ PVs g.K W ds vs ∧ (b = true → SqT g.K H a vs) ∧ (b = false → SqL g.K H a vs) := fun q => by
    obtain ⟨ds', e1, e2⟩ := Option.map_eq_some_iff.mp q
    cases e2
    obtain ⟨a, vs, ev, ha, hp⟩ := lstOf_ok rel h e1
    exact ⟨a, vs, ev, hp, fun z => (nomatch z), fun _ => SqL.of ha⟩
  cases d with
  | tup ds' =>
    cases e
    cases h.pv rfl with
    | tup ha hp => exact ⟨_, _, rfl, hp, fun _ => sameT rel.pers ha, fun z => (nomatch z)⟩
  | scr ds' =>
    cases e
    cases h.pv rfl with
    | scr ha hp => exact ⟨_, _, rfl, hp, fun z => (nomatch z), fun _ => rel.pers.seq ha⟩
  | _ => exact lst e
theorem dicOf_ok {kvs : List (Key × D)} (rel : Rel g.K g.mg W F δ S σ H) (h : VV g.K W σ d v) (e : dicOf δ S d = some kvs) : ∃ a ls, v = .ref a ∧ H a = some (.dK ls) ∧ PVk g.K W kvs ls := by
  unfold dicOf at e
  split at e
  · cases e
    cases h.pv rfl with
    | dic ha hp => exact ⟨_, _, rfl, rel.pers _ _ ha, hp⟩
  · rename_i i
    split at e
    · rename_i ds' ec
      cases e
      cases h.pv rfl with
      | ref hm =>
        obtain ⟨a, e1, ⟨vs, e2, e3⟩, _⟩ := rel.cell i _ ec
        rw [hm] at e1; cases e1
        exact ⟨_, vs, rfl, e2, e3⟩
    · cases e
  · rename_i k
    split at e
    · rename_i ds' ec
      cases e
      rcases h with h | ⟨k', ek, eσ⟩
      · cases h
      · cases ek
        obtain ⟨a, vs, e1, e2, e3, _⟩ := rel.slot k _ _ ec eσ
        cases e1
        exact ⟨a, vs, rfl, e2, e3⟩
    · cases e
  · cases e
/-- a new lasting object as an answer -/
theorem new_lst {vs : List V} {Q : VK} {W0 : Wd} (rel : Rel g.K g.mg W F δ S σ H) (hp : PVs g.K W ds vs) (q : ∀ W' v H', W.Le W' → Rel g.K g.mg W' F δ S σ H' → PV g.K W' (.lst ds) v → Q v H') : ∀ p, H p = none → Q (.ref p) (upd H p (.lst vs)) := fun p h => by
  have l : W.Le (W.put p (.lst vs)) := le_put (rel.pers.free h)
  exact q _ _ _ l (rel.put h) (.lst (show upd W.B p (.lst vs) p = _ from upd_same) (hp.mono l))
theorem new_tup {vs : List V} {Q : VK} (rel : Rel g.K g.mg W F δ S σ H) (hp : PVs g.K W ds vs) (q : ∀ W' v H', W.Le W' → Rel g.K g.mg W' F δ S σ H' → PV g.K W' (.tup ds) v → Q v H') : ∀ p, H p = none → Q (.ref p) (upd H p (.tup vs)) := fun p h => by
  have l : W.Le (W.put p (.tup vs)) := le_put (rel.pers.free h)
  exact q _ _ _ l (rel.put h) (.tup (SqT.of (show upd W.B p (.tup vs) p = _ from upd_same)) (hp.mono l))
end
theorem PVs.rep {K : PySem.W.Frag} {W : Wd} {ds : List D} {vs : List V} (h : PVs K W ds vs) : ∀ k : Nat, PVs K W (List.replicate k ds).flatten (List.replicate k vs).flatten
  | 0 => .nil
  | k + 1 => by
    rw [List.replicate_succ, List.replicate_succ, List.flatten_cons, List.flatten_cons]
    exact PVs.append h (PVs.rep h k)

/-! ### the operators -/
variable {g : GE} {k : Nat}
def oAdd : Op2 := fun δ S x y => match x, y with
  | .int i, .int j => some (.int (i + j))
  | .str i, .str j => if i.length + j.length ≤ 16777216 then some (.str (i ++ j)) else none
  | .tup xs, .tup ys => if xs.length + ys.length ≤ 16777216 then some (.tup (xs ++ ys)) else none
  | x, y => match lstOf δ S x, lstOf δ S y with
    | some xs, some ys => if xs.length + ys.length ≤ 16777216 then some (.lst (xs ++ ys)) else none
    | _, _ => none
theorem op_add_ok : OpD g k (binaryOp .Add) oAdd := by
  refine ⟨⟨fun x y H Q => (rI0 fun i j => .int (i + j)) x y H Q ∨ (∃ i j, x = .str i ∧ y = .str j ∧ i.length + j.length ≤ sizeLine ∧ Q (.str (i ++ j)) H) ∨ rCatA g.K x y H Q ∨ rCat x y H Q,
    fun X N sc cx => OpR.or op_add (OpR.or op_add_str (OpR.or (by rw [← cx.hK]; exact op_catA) op_cat)), fun W F δ S σ H x y vx vy Q z rel hx hy ez q => ?_⟩⟩
  have lst : (match lstOf δ S x, lstOf δ S y with
    | some xs, some ys => if xs.length + ys.length ≤ 16777216 then some (D.lst (xs ++ ys)) else none
    | _, _ => none) = some z → rCat vx vy H Q := fun ez => by
    cases e1 : lstOf δ S x with
    | none => rw [e1] at ez; cases ez
    | some xs =>
      cases e2 : lstOf δ S y with
      | none => rw [e1, e2] at ez; cases ez
      | some ys =>
        rw [e1, e2] at ez
        dsimp only at ez
        split at ez
        · rename_i hl
          cases ez
          obtain ⟨a, vs, rfl, ha, pa⟩ := lstOf_ok rel hx e1
          obtain ⟨b, ws, rfl, hb, pb⟩ := lstOf_ok rel hy e2
          exact ⟨a, b, vs, ws, rfl, rfl, ha, hb, by rw [pa.length, pb.length, sizeLine_eq]; exact hl, new_lst (W0 := W) rel (pa.append pb) q⟩
        · cases ez
  unfold oAdd at ez
  split at ez
  · cases ez
    cases hx.pv rfl; cases hy.pv rfl
    exact .inl ⟨_, _, rfl, rfl, q W _ H (.refl _) rel (.int _)⟩
  · split at ez
    · rename_i hl
      cases ez
      cases hx.pv rfl; cases hy.pv rfl
      exact .inr (.inl ⟨_, _, rfl, rfl, by rw [sizeLine_eq]; exact hl, q W _ H (.refl _) rel (.str _)⟩)
    · cases ez
  · rename_i xs ys
    split at ez
    · rename_i hl
      cases ez
      obtain ⟨a, vs, rfl, pa, ta, _⟩ := seqOf_ok rel hx (rfl : seqOf δ S (.tup xs) = some (true, xs))
      obtain ⟨b, ws, rfl, pb, tb, _⟩ := seqOf_ok rel hy (rfl : seqOf δ S (.tup ys) = some (true, ys))
      refine .inr (.inr (.inl ⟨a, b, vs, ws, rfl, rfl, ta rfl, tb rfl, by rw [pa.length, pb.length, sizeLine_eq]; exact hl, fun ne => ?_, fun ne => ?_, fun _ _ => new_tup rel (pa.append pb) q⟩))
      · have : xs = [] := List.eq_nil_of_length_eq_zero (by rw [← pa.length, ne]; rfl)
        subst this
        exact q W _ H (.refl _) rel (hy.pv rfl)
      · intro ne2
        have : ys = [] := List.eq_nil_of_length_eq_zero (by rw [← pb.length, ne2]; rfl)
        subst this
        rw [List.append_nil] at q
        exact q W _ H (.refl _) rel (hx.pv rfl)
    · cases ez
  · exact .inr (.inr (.inr (lst ez)))
def oSub : Op2 := fun _ _ x y => match x, y with
  | .int i, .int j => some (.int (i - j))
  | _, _ => none
theorem op_sub_ok : OpD g k (binaryOp .Sub) oSub := by
  refine ⟨⟨rI0 fun i j => .int (i - j), fun X N sc cx => op_sub, fun W F δ S σ H x y vx vy Q z rel hx hy ez q => ?_⟩⟩
  unfold oSub at ez
  split at ez
  · cases ez
    cases hx.pv rfl; cases hy.pv rfl
    exact ⟨_, _, rfl, rfl, q W _ H (.refl _) rel (.int _)⟩
  · cases ez
def mulOk (i j : Int) : Bool := Nat.ble i.natAbs 18446744073709551615 || Nat.ble j.natAbs 18446744073709551615
def oMul : Op2 := fun δ S x y => match x, y with
  | .int i, .int j => if mulOk i j = true then some (.int (i * j)) else none
  | .tup xs, .int j => if xs ≠ [] ∧ 2 ≤ j ∧ j ≤ 1000 ∧ xs.length ≤ 1000 then some (.tup (List.replicate j.toNat xs).flatten) else none
  | x, .int j => match lstOf δ S x with
    | some xs => if -(2 ^ 63) ≤ j ∧ j < 2 ^ 63 ∧ xs.length * j.toNat ≤ 16777216 then some (.lst (List.replicate j.toNat xs).flatten) else none
    | none => none
  | _, _ => none
theorem op_mul_ok : OpD g k (binaryOp .Mult) oMul := by
  refine ⟨⟨fun x y H Q => (rI CMul fun i j => .int (i * j)) x y H Q ∨ rRepT g.K x y H Q ∨ rRep x y H Q,
    fun X N sc cx => OpR.or op_mul (OpR.or (by rw [← cx.hK]; exact op_repT) op_rep), fun W F δ S σ H x y vx vy Q z rel hx hy ez q => ?_⟩⟩
  unfold oMul at ez
  split at ez
  · split at ez
    · rename_i hm
      cases ez
      cases hx.pv rfl; cases hy.pv rfl
      refine .inl ⟨_, _, rfl, rfl, ?_, q W _ H (.refl _) rel (.int _)⟩
      unfold mulOk at hm
      rcases Bool.or_eq_true_iff.mp hm with hm | hm
      · have := Nat.le_of_ble_eq_true hm; exact .inl ⟨by omega, by omega⟩
      · have := Nat.le_of_ble_eq_true hm; exact .inr ⟨by omega, by omega⟩
    · cases ez
  · rename_i xs j
    split at ez
    · rename_i hm
      cases ez
      cases hy.pv rfl
      obtain ⟨a, vs, rfl, pa, ta, _⟩ := seqOf_ok rel hx (rfl : seqOf δ S (.tup xs) = some (true, xs))
      refine .inr (.inl ⟨a, j, vs, rfl, rfl, ta rfl, fun e => hm.1 (List.eq_nil_of_length_eq_zero (by rw [← pa.length, e]; rfl)), hm.2.1, hm.2.2.1, by rw [pa.length]; exact hm.2.2.2, new_tup rel (pa.rep _) q⟩)
    · cases ez
  · rename_i j _ _
    cases e1 : lstOf δ S x with
    | none => rw [e1] at ez; cases ez
    | some xs =>
      rw [e1] at ez
      dsimp only at ez
      split at ez
      · rename_i hm
        cases ez
        cases hy.pv rfl
        obtain ⟨a, vs, rfl, ha, pa⟩ := lstOf_ok rel hx e1
        exact .inr (.inr ⟨a, j, vs, rfl, rfl, ha, hm.1, hm.2.1, by rw [pa.length, sizeLine_eq]; exact hm.2.2, new_lst (W0 := W) rel (pa.rep _) q⟩)
      · cases ez
  · cases ez
def oMod : Op2 := fun _ _ x y => match x, y with
  | .int i, .int j => if 0 < j then some (.int (i % j)) else none
  | _, _ => none
theorem op_mod_ok : OpD g k (binaryOp .Mod) oMod := by
  refine ⟨⟨rI (fun _ j => 0 < j) fun i j => .int (i % j), fun X N sc cx => op_mod, fun W F δ S σ H x y vx vy Q z rel hx hy ez q => ?_⟩⟩
  unfold oMod at ez
  split at ez
  · split at ez
    · rename_i hm
      cases ez
      cases hx.pv rfl; cases hy.pv rfl
      exact ⟨_, _, rfl, rfl, hm, q W _ H (.refl _) rel (.int _)⟩
    · cases ez
  · cases ez
def oPow : Op2 := fun _ _ x y => match x, y with
  | .int i, .int j => if 0 ≤ j ∧ j ≤ 1000000 ∧ i.natAbs < 2 ^ 64 then some (.int (i ^ j.toNat)) else none
  | _, _ => none
theorem op_pow_ok : OpD g k (binaryOp .Pow) oPow := by
  refine ⟨⟨rI CPow fun i j => .int (i ^ j.toNat), fun X N sc cx => op_pow, fun W F δ S σ H x y vx vy Q z rel hx hy ez q => ?_⟩⟩
  unfold oPow at ez
  split at ez
  · split at ez
    · rename_i hm
      cases ez
      cases hx.pv rfl; cases hy.pv rfl
      exact ⟨_, _, rfl, rfl, hm, q W _ H (.refl _) rel (.int _)⟩
    · cases ez
  · cases ez
def dNeg (m : DM D) : DM D := dBind m fun x => match x with
  | .int i => fun _ S => .ok (.int (-i)) S
  | _ => fun _ _ => .stuck
theorem e_neg {N : List Str} {sc : Scope} {a : Expr} {ma : DM D} {pos : Pos} (ha : EOk g N sc k a ma) : EOk g N sc k (.UnaryOp .USub a pos) (dNeg ma) := by
  obtain ⟨t, p, r⟩ := ha.ex
  refine ⟨⟨fun E => tUn (rU fun i => .int (-i)) (t E), fun X E cx tk => pe_un un_neg (p X E cx tk), fun E W F δ S σ H Q rel post => ?_⟩⟩
  refine r E W F δ S σ H _ rel (post_bind post fun x S1 W1 v H1 _ l1 rel1 hx post1 => ?_)
  cases x with
  | int i =>
    cases hx.pv rfl
    exact ⟨_, rfl, post1 W1 _ H1 (.refl _) rel1 (.inl (.int _))⟩
  | _ => exact post1.elim

/-! ### equality -/
mutual
def eqD : D → D → Bool
  | .non, .non => true
  | .bl a, .bl b => a == b
  | .bl a, .int j => (if a then 1 else 0) == j
  | .int i, .bl b => i == (if b then 1 else 0)
  | .int i, .int j => i == j
  | .str x, .str y => x == y
  | .lst xs, .lst ys => eqDs xs ys
  | .lst xs, .scr ys => eqDs xs ys
  | .scr xs, .lst ys => eqDs xs ys
  | .scr xs, .scr ys => eqDs xs ys
  | .tup xs, .tup ys => eqDs xs ys
  | _, _ => false
def eqDs : List D → List D → Bool
  | [], [] => true
  | x :: xs, y :: ys => eqD x y && eqDs xs ys
  | _, _ => false
end
/-- data without dicts and references, at most so deep -/
def okD : Nat → D → Bool
  | _, .non => true
  | _, .bl _ => true
  | _, .int _ => true
  | _, .str _ => true
  | n + 1, .tup ds => ds.all (okD n)
  | n + 1, .lst ds => ds.all (okD n)
  | n + 1, .scr ds => ds.all (okD n)
  | _, _ => false
mutual
def toPy : D → PyData
  | .non => .none
  | .bl b => .bool b
  | .int i => .int i
  | .str x => .str x
  | .tup ds => .tuple (toPys ds)
  | .lst ds => .list (toPys ds)
  | .scr ds => .list (toPys ds)
  | _ => .none
def toPys : List D → List PyData
  | [] => []
  | d :: ds => toPy d :: toPys ds
end
theorem okD_mono : ∀ {n m : Nat} {d : D}, n ≤ m → okD n d = true → okD m d = true
  | 0, 0, _, _, e => e
  | 0, _ + 1, .non, _, _ => rfl
  | 0, _ + 1, .bl _, _, _ => rfl
  | 0, _ + 1, .int _, _, _ => rfl
  | 0, _ + 1, .str _, _, _ => rfl
  | 0, _ + 1, .tup _, _, e => nomatch e
  | 0, _ + 1, .lst _, _, e => nomatch e
  | 0, _ + 1, .scr _, _, e => nomatch e
  | 0, _ + 1, .dic _, _, e => nomatch e
  | 0, _ + 1, .ref _, _, e => nomatch e
  | 0, _ + 1, .own _, _, e => nomatch e
  | _ + 1, 0, _, l, _ => absurd l (by omega)
  | n + 1, m + 1, d, l, e => by
    have ih : ∀ ds : List D, ds.all (okD n) = true → ds.all (okD m) = true := fun ds h => by
      rw [List.all_eq_true] at h ⊢
      exact fun x hx => okD_mono (Nat.le_of_succ_le_succ l) (h x hx)
    cases d with
    | non => rfl
    | bl _ => rfl
    | int _ => rfl
    | str _ => rfl
    | tup ds => exact ih ds e
    | lst ds => exact ih ds e
    | scr ds => exact ih ds e
    | _ => exact nomatch e
section
variable {K : PySem.W.Frag} {W : Wd} {H : Hp}
theorem all_cons {n : Nat} {d : D} {ds : List D} (h : (d :: ds).all (okD n) = true) : okD n d = true ∧ ds.all (okD n) = true := by
  simpa only [List.all_cons, Bool.and_eq_true] using h
mutual
theorem dp_of (s : Same W.B H) : ∀ (n : Nat) (d : D) (v : V), okD n d = true → PV K W d v → Dp K H v (toPy d)
  | _, .non, _, _, h => by cases h; exact .non
  | _, .bl _, _, _, h => by cases h; exact .bl _
  | _, .int _, _, _, h => by cases h; exact .int _
  | _, .str _, _, _, h => by cases h; exact .str _
  | 0, .tup _, _, e, _ => nomatch e
  | 0, .lst _, _, e, _ => nomatch e
  | 0, .scr _, _, e, _ => nomatch e
  | n + 1, .tup ds, _, e, h => by
    cases h with
    | tup ha hp => exact .tup (sameT s ha) (dps_of s n ds _ e hp)
  | n + 1, .lst ds, _, e, h => by
    cases h with
    | lst ha hp => exact .lst (SqL.of (s _ _ ha)) (dps_of s n ds _ e hp)
  | n + 1, .scr ds, _, e, h => by
    cases h with
    | scr ha hp => exact .lst (s.seq ha) (dps_of s n ds _ e hp)
  | 0, .dic _, _, e, _ => nomatch e
  | 0, .ref _, _, e, _ => nomatch e
  | 0, .own _, _, e, _ => nomatch e
  | _ + 1, .dic _, _, e, _ => nomatch e
  | _ + 1, .ref _, _, e, _ => nomatch e
  | _ + 1, .own _, _, e, _ => nomatch e
theorem dps_of (s : Same W.B H) : ∀ (n : Nat) (ds : List D) (vs : List V), ds.all (okD n) = true → PVs K W ds vs → DpAll K H vs (toPys ds)
  | _, [], _, _, h => by cases h; exact .nil
  | n, d :: ds, _, e, h => by
    cases h with
    | cons h1 h2 => exact .cons (dp_of s n d _ (all_cons e).1 h1) (dps_of s n ds _ (all_cons e).2 h2)
end
mutual
theorem toPy_plain : ∀ d : D, (toPy d).plain = true
  | .non => rfl
  | .bl _ => rfl
  | .int _ => rfl
  | .str _ => rfl
  | .tup ds => toPys_plain ds
  | .lst ds => toPys_plain ds
  | .scr ds => toPys_plain ds
  | .dic _ => rfl
  | .ref _ => rfl
  | .own _ => rfl
theorem toPys_plain : ∀ ds : List D, PyData.plainAll (toPys ds) = true
  | [] => rfl
  | d :: ds => by
    show (PyData.plain (toPy d) && PyData.plainAll (toPys ds)) = true
    rw [toPy_plain d, toPys_plain ds]; rfl
end
mutual
theorem toPy_depth : ∀ (n : Nat) (d : D), okD n d = true → (toPy d).depth ≤ n
  | _, .non, _ => by simp [toPy, PyData.depth]
  | _, .bl _, _ => by simp [toPy, PyData.depth]
  | _, .int _, _ => by simp [toPy, PyData.depth]
  | _, .str _, _ => by simp [toPy, PyData.depth]
  | 0, .tup _, e => nomatch e
  | 0, .lst _, e => nomatch e
  | 0, .scr _, e => nomatch e
  | n + 1, .tup ds, e => by
    have := toPys_depth n ds e
    simp only [toPy, PyData.depth]; omega
  | n + 1, .lst ds, e => by
    have := toPys_depth n ds e
    simp only [toPy, PyData.depth]; omega
  | n + 1, .scr ds, e => by
    have := toPys_depth n ds e
    simp only [toPy, PyData.depth]; omega
  | 0, .dic _, e => nomatch e
  | 0, .ref _, e => nomatch e
  | 0, .own _, e => nomatch e
  | _ + 1, .dic _, e => nomatch e
  | _ + 1, .ref _, e => nomatch e
  | _ + 1, .own _, e => nomatch e
theorem toPys_depth : ∀ (n : Nat) (ds : List D), ds.all (okD n) = true → PyData.depthAll (toPys ds) ≤ n
  | _, [], _ => by simp [toPys, PyData.depthAll]
  | n, d :: ds, e => by
    have h1 := toPy_depth n d (all_cons e).1
    have h2 := toPys_depth n ds (all_cons e).2
    simp only [toPys, PyData.depthAll]
    omega
end
mutual
theorem eqv_D : ∀ (n : Nat) (x y : D), okD n x = true → okD n y = true → PyData.eqv (toPy x) (toPy y) = eqD x y
  | n, x, y, hx, hy => by
    cases x <;> cases y <;> first
      | rfl
      | (cases n <;> first | exact Bool.noConfusion (show false = true from hx) | exact Bool.noConfusion (show false = true from hy) | exact eqv_Ds _ _ _ hx hy | rfl)
theorem eqv_Ds : ∀ (n : Nat) (xs ys : List D), xs.all (okD n) = true → ys.all (okD n) = true → PyData.eqvAll (toPys xs) (toPys ys) = eqDs xs ys
  | _, [], [], _, _ => rfl
  | _, [], _ :: _, _, _ => rfl
  | _, _ :: _, [], _, _ => rfl
  | n, x :: xs, y :: ys, hx, hy => by
    show (PyData.eqv (toPy x) (toPy y) && PyData.eqvAll (toPys xs) (toPys ys)) = (eqD x y && eqDs xs ys)
    rw [eqv_D n x y (all_cons hx).1 (all_cons hy).1, eqv_Ds n xs ys (all_cons hx).2 (all_cons hy).2]
end
end
end DM



end
section
set_option Elab.async false
set_option linter.all false
set_option maxRecDepth 100000
set_option autoImplicit false
namespace DM
open PySem PySem.Spec L2
variable {g : GE} {k : Nat}

theorem hu_ofH {k : Nat} {A : Around} (hr : L2H.RoomH k A) : A.units + 1 < cLine := by have := hr.un; omega
/-! ### dicts -/
def valD (kvs : List (Key × D)) (k : Key) : Option D := (kvs.find? fun kv => decide (kv.1 = k)).map (·.2)
def putD (kvs : List (Key × D)) (k : Key) (v : D) : List (Key × D) :=
  if (kvs.any fun kv => decide (kv.1 = k)) = true then kvs.map (fun kv => if kv.1 = k then (kv.1, v) else kv) else kvs ++ [(k, v)]
def dropD (kvs : List (Key × D)) (k : Key) : List (Key × D) := kvs.filter fun kv => decide (kv.1 ≠ k)
section
variable {K : PySem.W.Frag} {W : Wd}
theorem PVk.val : ∀ {kvs : List (Key × D)} {ls : List (Key × V)} (k : Key), PVk K W kvs ls → (∀ x, valD kvs k = some x → ∃ y, valV ls k = some y ∧ PV K W x y) ∧ (valD kvs k = none → valV ls k = none)
  | _, _, _, .nil => ⟨fun _ e => (nomatch e), fun _ => rfl⟩
  | (k', d) :: ds, (_, v) :: vs, k, .cons h r => by
    by_cases e : k' = k
    · have e1 : valD ((k', d) :: ds) k = some d := by simp [valD, List.find?_cons, e]
      have e2 : valV ((k', v) :: vs) k = some v := valV_pos e
      exact ⟨fun x q => ⟨v, e2, by rw [e1] at q; cases q; exact h⟩, fun q => by rw [e1] at q; cases q⟩
    · have e1 : valD ((k', d) :: ds) k = valD ds k := by simp [valD, List.find?_cons, e]
      have e2 : valV ((k', v) :: vs) k = valV vs k := valV_neg e
      rw [e1, e2]
      exact PVk.val k r
theorem PVk.any : ∀ {kvs : List (Key × D)} {ls : List (Key × V)} (k : Key), PVk K W kvs ls → (kvs.any fun kv => decide (kv.1 = k)) = (ls.any fun kv => decide (kv.1 = k))
  | _, _, _, .nil => rfl
  | (k', d) :: ds, (_, v) :: vs, k, .cons h r => by simp only [List.any_cons, PVk.any k r]
theorem PVk.mapv {x : D} {y : V} (p : PV K W x y) : ∀ {kvs : List (Key × D)} {ls : List (Key × V)} (k : Key), PVk K W kvs ls → PVk K W (kvs.map fun kv => if kv.1 = k then (kv.1, x) else kv) (ls.map fun kv => if kv.1 = k then (kv.1, y) else kv)
  | _, _, _, .nil => .nil
  | (k', d) :: ds, (_, v) :: vs, k, .cons h r => by
    simp only [List.map_cons]
    by_cases e : k' = k
    · simp only [if_pos e]; exact .cons p (PVk.mapv p k r)
    · simp only [if_neg e]; exact .cons h (PVk.mapv p k r)
theorem PVk.append : ∀ {a b : List (Key × D)} {c d : List (Key × V)}, PVk K W a c → PVk K W b d → PVk K W (a ++ b) (c ++ d)
  | _, _, _, _, .nil, q => q
  | _, _, _, _, .cons h r, q => .cons h (PVk.append r q)
theorem PVk.put {x : D} {y : V} (p : PV K W x y) {kvs : List (Key × D)} {ls : List (Key × V)} (k : Key) (h : PVk K W kvs ls) : PVk K W (putD kvs k x) (putK ls k y) := by
  unfold putD putK
  rw [h.any k]
  split
  · exact h.mapv p k
  · exact h.append (.cons p .nil)
theorem PVk.drop : ∀ {kvs : List (Key × D)} {ls : List (Key × V)} (k : Key), PVk K W kvs ls → PVk K W (dropD kvs k) (dropK ls k)
  | _, _, _, .nil => .nil
  | (k', d) :: ds, (_, v) :: vs, k, .cons h r => by
    unfold dropD dropK
    by_cases e : k' = k
    · rw [List.filter_cons_of_neg (by simp [e]), List.filter_cons_of_neg (by simp [e])]
      exact PVk.drop k r
    · rw [List.filter_cons_of_pos (by simp [e]), List.filter_cons_of_pos (by simp [e])]
      exact .cons h (PVk.drop k r)
end
def keyOf : D → Option Key
  | .int i => some (.inl i)
  | .str x => some (.inr x)
  | _ => none
theorem keyOf_ok {K : PySem.W.Frag} {W : Wd} {σ : St} {d : D} {v : V} {k : Key} (h : VV K W σ d v) (e : keyOf d = some k) : v = kV k := by
  cases d with
  | int i => cases e; cases h.pv rfl; rfl
  | str i => cases e; cases h.pv rfl; rfl
  | _ => cases e

/-! ### comparisons -/
def snap (δ : List Sl) (S : Sto) (x : D) : D := match lstOf δ S x with
  | some ds => .lst ds
  | none => x
theorem snap_dp {W : Wd} {F H : Hp} {δ : List Sl} {S : Sto} {σ : St} {n : Nat} {x : D} {v : V} (rel : Rel g.K g.mg W F δ S σ H) (hx : VV g.K W σ x v) (h : okD n (snap δ S x) = true) : Dp g.K H v (toPy (snap δ S x)) := by
  unfold snap at h ⊢
  cases e : lstOf δ S x with
  | some ds =>
    rw [e] at h
    obtain ⟨a, vs, rfl, ha, hp⟩ := lstOf_ok rel hx e
    cases n with
    | zero => exact nomatch h
    | succ n => exact .lst (SqL.of ha) (dps_of rel.pers n ds vs h hp)
  | none =>
    rw [e] at h
    refine dp_of rel.pers n x v h ?_
    rcases hx with hx | ⟨k, rfl, _⟩
    · exact hx
    · dsimp only at h
      cases n <;> cases h
/-- two lists of unlike length -/
def lenNe (δ : List Sl) (S : Sto) (x y : D) : Bool := match lstOf δ S x, lstOf δ S y with
  | some xs, some ys => !Nat.beq xs.length ys.length
  | _, _ => false
def cEq : Cmp2 := fun δ S x y => match lenNe δ S x y with
  | true => some false
  | false => if (okD 60 (snap δ S x) && okD 60 (snap δ S y)) = true then some (eqD (snap δ S x) (snap δ S y)) else none
def cNe : Cmp2 := fun δ S x y => (cEq δ S x y).map fun b => !b
def rEqP (K : PySem.W.Frag) (n : Bool) : R2 := fun x y H Q => (∃ a b xs ys, x = .ref a ∧ y = .ref b ∧ H a = some (.lst xs) ∧ H b = some (.lst ys) ∧ xs.length ≠ ys.length ∧ Q (.bl n) H) ∨
  ∃ d e, Dp K H x d ∧ Dp K H y e ∧ d.plain = true ∧ e.plain = true ∧ d.depth ≤ 60 ∧ Q (.bl (if n = true then !PyData.eqv d e else PyData.eqv d e)) H
theorem isList_of {X : Cx} {pins : List (Addr × Obj)} {s : Shared} {σ : St} {H : Hp} {a : Addr} {xs : List V} (I : Inv X pins σ H s) (h : H a = some (.lst xs)) : ∃ its, s.heap.IsList a its ∧ its.size = xs.length := by
  obtain ⟨its, rv, ⟨o, n, ho, hc, _, hd⟩, _⟩ := I.list (SqL.of h)
  exact ⟨_, ⟨o, ho, hc, n, hd⟩, by simpa using rv.length.symm⟩
theorem opr_eq {X : Cx} {k : Nat} (hr : L2H.RoomH k X.A) : OpR X (compareOp .Eq) (rEqP X.K false) := by
  intro pins s σ H x y v u Q I rx ry h
  rcases h with ⟨a, b, xs, ys, rfl, rfl, ha, hb, hn, q⟩ | ⟨d, e, h1, h2, h3, h4, h5, q⟩
  · cases rx
    cases ry
    obtain ⟨i1, l1, z1⟩ := isList_of I ha
    obtain ⟨i2, l2, z2⟩ := isList_of I hb
    exact PySem.SeqAt.eq_list_lengthsAt l1 l2 (by rw [z1, z2]; simpa using hn) (by have := hr.un; omega) ⟨.bl _, H, I, rfl, q⟩
  · obtain ⟨as, r1⟩ := Dp.reads I d x v h1 rx
    obtain ⟨bs, r2⟩ := Dp.reads I e y u h2 ry
    exact PySem.SeqAt.eq_plain r1 r2 h3 h4 (by have := hr.un; have := Nat.min_le_left d.depth e.depth; omega) ⟨.bl _, H, I, rfl, q⟩
theorem opr_ne {X : Cx} {k : Nat} (hr : L2H.RoomH k X.A) : OpR X (compareOp .NotEq) (rEqP X.K true) := by
  intro pins s σ H x y v u Q I rx ry h
  rcases h with ⟨a, b, xs, ys, rfl, rfl, ha, hb, hn, q⟩ | ⟨d, e, h1, h2, h3, h4, h5, q⟩
  · cases rx
    cases ry
    obtain ⟨i1, l1, z1⟩ := isList_of I ha
    obtain ⟨i2, l2, z2⟩ := isList_of I hb
    exact PySem.SeqAt.RcNeAt.lists_lengths l1 l2 (by rw [z1, z2]; simpa using hn) (by have := hr.un; omega) _ _ _ _ ⟨.bl _, H, I, rfl, q⟩
  · obtain ⟨as, r1⟩ := Dp.reads I d x v h1 rx
    obtain ⟨bs, r2⟩ := Dp.reads I e y u h2 ry
    exact PySem.SeqAt.ne_plain r1 r2 h3 h4 (by have := hr.un; have := Nat.min_le_left d.depth e.depth; omega) ⟨.bl _, H, I, rfl, q⟩
theorem eq_sides {W : Wd} {F H : Hp} {δ : List Sl} {S : Sto} {σ : St} {x y : D} {vx vy : V} {n z : Bool} {Q : VK} (rel : Rel g.K g.mg W F δ S σ H) (hx : VV g.K W σ x vx) (hy : VV g.K W σ y vy) (ez : cEq δ S x y = some z) (q : Q (.bl (if n = true then !z else z)) H) : rEqP g.K n vx vy H Q := by
  unfold cEq at ez
  split at ez
  · rename_i h
    cases ez
    unfold lenNe at h
    split at h
    · rename_i xs ys e1 e2
      obtain ⟨a, vs, rfl, ha, p1⟩ := lstOf_ok rel hx e1
      obtain ⟨b, us, rfl, hb, p2⟩ := lstOf_ok rel hy e2
      refine .inl ⟨a, b, vs, us, rfl, rfl, ha, hb, ?_, by cases n <;> exact q⟩
      rw [p1.length, p2.length]
      intro e
      rw [e, Nat.beq_refl] at h
      cases h
    · cases h
  · split at ez
    · rename_i h
      cases ez
      obtain ⟨h1, h2⟩ := Bool.and_eq_true_iff.mp h
      refine .inr ⟨_, _, snap_dp rel hx h1, snap_dp rel hy h2, toPy_plain _, toPy_plain _, toPy_depth _ _ h1, ?_⟩
      rw [eqv_D 60 _ _ h1 h2]
      exact q
    · cases ez
theorem cmp_eq : CmpD g k .Eq cEq := ⟨⟨rEqP g.K false, fun X N sc cx => by rw [← cx.hK]; exact opr_eq cx.room, fun W F δ S σ H x y vx vy Q z rel hx hy ez q => eq_sides (n := false) rel hx hy ez q⟩⟩
theorem cmp_ne : CmpD g k .NotEq cNe := by
  refine ⟨⟨rEqP g.K true, fun X N sc cx => by rw [← cx.hK]; exact opr_ne cx.room, fun W F δ S σ H x y vx vy Q z rel hx hy ez q => ?_⟩⟩
  unfold cNe at ez
  cases e : cEq δ S x y with
  | none => rw [e] at ez; cases ez
  | some b =>
    rw [e] at ez
    cases ez
    exact eq_sides (n := true) rel hx hy e q
/-- the order -/
def cOrd (p : Int → Int → Bool) : Cmp2 := fun _ _ x y => match x, y with
  | .int i, .int j => some (p i j)
  | _, _ => none
theorem cmp_ord {op : CmpOp} {p : Int → Int → Bool} (h : ∀ X : Cx, OpR X (compareOp op) (rI0 fun i j => .bl (p i j))) : CmpD g k op (cOrd p) := by
  refine ⟨⟨_, fun X N sc cx => h X, fun W F δ S σ H x y vx vy Q z rel hx hy ez q => ?_⟩⟩
  unfold cOrd at ez
  split at ez
  · cases ez
    cases hx.pv rfl; cases hy.pv rfl
    exact ⟨_, _, rfl, rfl, q⟩
  · cases ez
abbrev pLt (i j : Int) : Bool := decide (i < j)
abbrev pLe (i j : Int) : Bool := decide (i ≤ j)
abbrev pGt (i j : Int) : Bool := decide (j < i)
abbrev pGe (i j : Int) : Bool := decide (j ≤ i)
theorem cmp_lt : CmpD g k .Lt (cOrd pLt) := cmp_ord fun X => op_lt
theorem cmp_le : CmpD g k .LtE (cOrd pLe) := cmp_ord fun X => op_le
theorem cmp_gt : CmpD g k .Gt (cOrd pGt) := cmp_ord fun X => op_gt
theorem cmp_ge : CmpD g k .GtE (cOrd pGe) := cmp_ord fun X => op_ge
/-- is None -/
def D.isNon : D → Bool
  | .non => true
  | _ => false
def cIs : Cmp2 := fun _ _ x y => match y with
  | .non => if x.isOwn = true then none else some x.isNon
  | _ => none
theorem is_non {K : PySem.W.Frag} {W : Wd} {x : D} {v : V} (h : PV K W x v) : x.isNon = decide (v = .non) := by
  cases h <;> rfl
theorem cmp_is : CmpD g k .Is cIs := by
  refine ⟨⟨_, fun X N sc cx => op_isN, fun W F δ S σ H x y vx vy Q z rel hx hy ez q => ?_⟩⟩
  unfold cIs at ez
  split at ez
  · split at ez
    · cases ez
    · rename_i ho
      cases ez
      cases hy.pv rfl
      refine ⟨rfl, ?_⟩
      rw [← is_non (hx.pv (by simpa using ho))]; exact q
  · cases ez
def cIsNot : Cmp2 := fun δ S x y => (cIs δ S x y).map fun b => !b
theorem cmp_isnot : CmpD g k .IsNot cIsNot := by
  refine ⟨⟨_, fun X N sc cx => op_notN, fun W F δ S σ H x y vx vy Q z rel hx hy ez q => ?_⟩⟩
  unfold cIsNot cIs at ez
  split at ez
  · split at ez
    · cases ez
    · rename_i ho
      cases ez
      cases hy.pv rfl
      refine ⟨rfl, ?_⟩
      rw [← is_non (hx.pv (by simpa using ho))]; exact q
  · cases ez
/-- in -/
def cIn : Cmp2 := fun δ S x y => match x, y with
  | .str c, .str z => if c.cps.size = 1 then some (decide (c.cps.getD 0 0 ∈ z.cps.toList)) else none
  | x, y => match dicOf δ S y with
    | some kvs => (keyOf x).map fun k => (valD kvs k).isSome
    | none => match seqOf δ S y with
      | some (_, ds) => if (okD 60 x && ds.all (okD 60)) = true then some (ds.any fun y => eqD y x) else none
      | none => none
def cNotIn : Cmp2 := fun δ S x y => (cIn δ S x y).map fun b => !b
def rInP (K : PySem.W.Frag) (n : Bool) : R2 := fun x y H Q => ∃ a vs d es, y = .ref a ∧ (SqL K H a vs ∨ SqT K H a vs) ∧ DpAll K H vs es ∧ Dp K H x d ∧ PyData.plainAll es = true ∧ d.plain = true ∧ d.depth ≤ 60 ∧ Q (.bl (if n = true then !es.any fun y => PyData.eqv y d else es.any fun y => PyData.eqv y d)) H
theorem opr_in {X : Cx} {k : Nat} (hr : L2H.RoomH k X.A) : OpR X (compareOp .In) (rInP X.K false) := by
  intro pins s σ H x y v u Q I rx ry ⟨a, vs, d, es, e1, h0, h1, h2, h3, h4, h5, q⟩
  subst e1
  obtain ⟨bs, r1⟩ := Dp.reads I d x v h2 rx
  have hu : X.A.units + 1 + min (PyData.depthAll es) d.depth < cLine := by have := hr.un; have := Nat.min_le_right (PyData.depthAll es) d.depth; omega
  rcases h0 with h0 | h0
  · obtain ⟨cs, r2⟩ := Dp.reads I (.list es) (.ref a) u (.lst h0 h1) ry
    exact PySem.SeqAt.in_list_data r2 r1 h3 h4 hu ⟨.bl _, H, I, rfl, q⟩
  · obtain ⟨cs, r2⟩ := Dp.reads I (.tuple es) (.ref a) u (.tup h0 h1) ry
    exact PySem.SeqAt.in_tuple_data r2 r1 h3 h4 hu ⟨.bl _, H, I, rfl, q⟩
theorem opr_notin {X : Cx} {k : Nat} (hr : L2H.RoomH k X.A) : OpR X (compareOp .NotIn) (rInP X.K true) := by
  intro pins s σ H x y v u Q I rx ry ⟨a, vs, d, es, e1, h0, h1, h2, h3, h4, h5, q⟩
  subst e1
  obtain ⟨bs, r1⟩ := Dp.reads I d x v h2 rx
  have hu : X.A.units + 1 + min (PyData.depthAll es) d.depth < cLine := by have := hr.un; have := Nat.min_le_right (PyData.depthAll es) d.depth; omega
  rcases h0 with h0 | h0
  · obtain ⟨cs, r2⟩ := Dp.reads I (.list es) (.ref a) u (.lst h0 h1) ry
    exact PySem.SeqAt.notIn_list_data r2 r1 h3 h4 hu ⟨.bl _, H, I, rfl, q⟩
  · obtain ⟨cs, r2⟩ := Dp.reads I (.tuple es) (.ref a) u (.tup h0 h1) ry
    exact PySem.SeqAt.notIn_tuple_data r2 r1 h3 h4 hu ⟨.bl _, H, I, rfl, q⟩
def rInD (n : Bool) : R2 := fun y x H Q => ∃ a o, x = .ref a ∧ DGet H a y o ∧ Q (.bl (if n = true then !o.isSome else o.isSome)) H
theorem opr_ind {X : Cx} {k : Nat} (hr : L2H.RoomH k X.A) : OpR X (compareOp .In) (rInD false) := by
  intro pins s σ H x y v u Q I rx ry ⟨a, o, e1, h, q⟩
  subst e1
  cases ry
  exact d_in (hu_ofH hr) I h rx fun s3 I3 => ⟨.bl o.isSome, H, I3, rfl, q⟩
theorem opr_notind {X : Cx} {k : Nat} (hr : L2H.RoomH k X.A) : OpR X (compareOp .NotIn) (rInD true) := by
  intro pins s σ H x y v u Q I rx ry ⟨a, o, e1, h, q⟩
  subst e1
  cases ry
  exact d_notIn (hu_ofH hr) I h rx fun s3 I3 => ⟨.bl (!o.isSome), H, I3, rfl, q⟩
theorem toPys_any {n : Nat} {x : D} (hx : okD n x = true) : ∀ {ds : List D}, ds.all (okD n) = true → ((toPys ds).any fun y => PyData.eqv y (toPy x)) = ds.any fun y => eqD y x
  | [], _ => rfl
  | d :: ds, h => by
    show (PyData.eqv (toPy d) (toPy x) || (toPys ds).any fun y => PyData.eqv y (toPy x)) = (eqD d x || ds.any fun y => eqD y x)
    rw [eqv_D n d x (all_cons h).1 hx, toPys_any hx (all_cons h).2]
theorem str1 {c : Str} (h : c.cps.size = 1) : c = ⟨#[c.cps.getD 0 0]⟩ := by
  obtain ⟨⟨l⟩⟩ := c
  match l, h with
  | [a], _ => rfl
theorem in_core {W : Wd} {F H : Hp} {δ : List Sl} {S : Sto} {σ : St} {x y : D} {vx vy : V} {z : Bool} (rel : Rel g.K g.mg W F δ S σ H) (hx : VV g.K W σ x vx) (hy : VV g.K W σ y vy) (ez : cIn δ S x y = some z) :
    (∃ (c : Nat) (t : Str), vx = .str ⟨#[c]⟩ ∧ vy = .str t ∧ z = decide (c ∈ t.cps.toList)) ∨ (∃ a o, vy = .ref a ∧ DGet H a vx o ∧ z = o.isSome) ∨
      ∃ a vs d es, vy = .ref a ∧ (SqL g.K H a vs ∨ SqT g.K H a vs) ∧ DpAll g.K H vs es ∧ Dp g.K H vx d ∧ PyData.plainAll es = true ∧ d.plain = true ∧ d.depth ≤ 60 ∧ z = es.any fun y => PyData.eqv y d := by
  have other : (match dicOf δ S y with
    | some kvs => (keyOf x).map fun k => (valD kvs k).isSome
    | none => match seqOf δ S y with
      | some (_, ds) => if (okD 60 x && ds.all (okD 60)) = true then some (ds.any fun y => eqD y x) else none
      | none => none) = some z → (∃ a o, vy = .ref a ∧ DGet H a vx o ∧ z = o.isSome) ∨
      ∃ a vs d es, vy = .ref a ∧ (SqL g.K H a vs ∨ SqT g.K H a vs) ∧ DpAll g.K H vs es ∧ Dp g.K H vx d ∧ PyData.plainAll es = true ∧ d.plain = true ∧ d.depth ≤ 60 ∧ z = es.any fun y => PyData.eqv y d := fun ez => by
    cases e1 : dicOf δ S y with
    | some kvs =>
      rw [e1] at ez
      obtain ⟨k, ek, e2⟩ := Option.map_eq_some_iff.mp ez
      obtain ⟨a, ls, rfl, ha, hp⟩ := dicOf_ok rel hy e1
      have := keyOf_ok hx ek
      subst this
      refine .inl ⟨a, _, rfl, DGet.k ha, ?_⟩
      rw [← e2]
      cases q : valD kvs k with
      | some w => obtain ⟨y', ey, _⟩ := (hp.val k).1 w q; rw [ey]; rfl
      | none => rw [(hp.val k).2 q]; rfl
    | none =>
      rw [e1] at ez
      dsimp only at ez
      cases e2 : seqOf δ S y with
      | none => rw [e2] at ez; cases ez
      | some p =>
        obtain ⟨b, ds⟩ := p
        rw [e2] at ez
        dsimp only at ez
        split at ez
        · rename_i h
          cases ez
          obtain ⟨h1, h2⟩ := Bool.and_eq_true_iff.mp h
          obtain ⟨a, vs, rfl, hp, ht, hl⟩ := seqOf_ok rel hy e2
          have ho : x.isOwn = false := by cases x <;> first | rfl | cases h1
          refine .inr ⟨a, vs, toPy x, toPys ds, rfl, ?_, dps_of rel.pers 60 ds vs h2 hp, dp_of rel.pers 60 x vx h1 (hx.pv ho), toPys_plain _, toPy_plain _, toPy_depth _ _ h1, (toPys_any h1 h2).symm⟩
          cases b with
          | true => exact .inr (ht rfl)
          | false => exact .inl (hl rfl)
        · cases ez
  unfold cIn at ez
  split at ez
  · rename_i c t
    split at ez
    · rename_i h1
      cases ez
      cases hx.pv rfl; cases hy.pv rfl
      exact .inl ⟨_, _, congrArg V.str (str1 h1), rfl, rfl⟩
    · cases ez
  · exact .inr (other ez)
theorem cmp_in : CmpD g k .In cIn := by
  refine ⟨⟨fun x y H Q => (∃ (c : Nat) (z : Str), x = .str ⟨#[c]⟩ ∧ y = .str z ∧ Q (.bl (decide (c ∈ z.cps.toList))) H) ∨ rInD false x y H Q ∨ rInP g.K false x y H Q,
    fun X N sc cx => OpR.or op_in_sign (OpR.or (opr_ind cx.room) (by rw [← cx.hK]; exact opr_in cx.room)), fun W F δ S σ H x y vx vy Q z rel hx hy ez q => ?_⟩⟩
  rcases in_core rel hx hy ez with ⟨c, t, h1, h2, h3⟩ | ⟨a, o, h1, h2, h3⟩ | ⟨a, vs, d, es, h1, h2, h3, h4, h5, h6, h7, h8⟩
  · exact .inl ⟨c, t, h1, h2, by rw [← h3]; exact q⟩
  · exact .inr (.inl ⟨a, o, h1, h2, by rw [h3] at q; exact q⟩)
  · exact .inr (.inr ⟨a, vs, d, es, h1, h2, h3, h4, h5, h6, h7, by rw [h8] at q; exact q⟩)
theorem cmp_notin : CmpD g k .NotIn cNotIn := by
  refine ⟨⟨fun x y H Q => (∃ (c : Nat) (z : Str), x = .str ⟨#[c]⟩ ∧ y = .str z ∧ Q (.bl (!decide (c ∈ z.cps.toList))) H) ∨ rInD true x y H Q ∨ rInP g.K true x y H Q,
    fun X N sc cx => OpR.or op_notIn_sign (OpR.or (opr_notind cx.room) (by rw [← cx.hK]; exact opr_notin cx.room)), fun W F δ S σ H x y vx vy Q z rel hx hy ez q => ?_⟩⟩
  obtain ⟨z', ez', e⟩ := Option.map_eq_some_iff.mp ez
  subst e
  rcases in_core rel hx hy ez' with ⟨c, t, h1, h2, h3⟩ | ⟨a, o, h1, h2, h3⟩ | ⟨a, vs, d, es, h1, h2, h3, h4, h5, h6, h7, h8⟩
  · exact .inl ⟨c, t, h1, h2, by rw [← h3]; exact q⟩
  · exact .inr (.inl ⟨a, o, h1, h2, by rw [h3] at q; exact q⟩)
  · exact .inr (.inr ⟨a, vs, d, es, h1, h2, h3, h4, h5, h6, h7, by rw [h8] at q; exact q⟩)

/-! ### subscripts -/
def rIxDk : R2 := fun x y H Q => ∃ a v, x = .ref a ∧ DGet H a y (some v) ∧ Q v H
theorem ix_dict {X : Cx} {k : Nat} (hr : L2H.RoomH k X.A) : IxR X rIxDk := by
  intro value slice pins s σ H x y v u Q I rx ry ⟨a, w, e1, hg, q⟩ hs
  subst e1
  cases rx
  unfold PyProof.Rows.subscriptTail
  refine wpAny_bind ?_
  rw [getitemInPython_of_ne (dict_typeIs I hg).not_modules]
  refine wpAny_bind (wpAny_specialOf (dict_typeIs I hg) PySem.F.slot_dict_getitem.lookup ?_)
  have fin : wpAny (model X.prog X.w) X.A (subscripted slice false (.ref a) u) (fun r s₃ => wpAny (model X.prog X.w) X.A (letTemporaryGo value (.ref a) r >>= fun _ => pure r) (EP X pins σ Q) X.xe s₃) X.xe s := by
    rw [hs]
    exact wpAny_operating (d_getItem (hu_ofH hr) I hg ry fun w' s3 I3 rw' => wpAny_bind (wpAny_letTemporaryGo (wpAny_pure ⟨w, H, I3, rw', q⟩)))
  first
    | exact wpAny_pure (wpAny_bind fin)
    | exact wpAny_bind (wpAny_pure (wpAny_bind fin))
    | exact wpAny_bind fin
def ixSeq : Op2 := fun δ S x y => match seqOf δ S x with
  | some (_, ds) => match y with
    | .int i => atI ds i
    | _ => none
  | none => match dicOf δ S x with
    | some kvs => (keyOf y).bind fun k => valD kvs k
    | none => none
def ixStr (z : Str) (y : D) : Option D := match y with
  | .int i => if z.length ≤ 16777216 then (atI z.cps.toList i).map fun c => .str ⟨#[c]⟩ else none
  | _ => none
def oIx : Op2 := fun δ S x y => match x with
  | .str z => ixStr z y
  | x => ixSeq δ S x y
theorem PVs.atI {K : PySem.W.Frag} {W : Wd} {ds : List D} {vs : List V} {i : Int} {z : D} (h : PVs K W ds vs) (e : L2.atI ds i = some z) : ∃ y, L2.atI vs i = some y ∧ PV K W z y := by
  unfold L2.atI at e ⊢
  rw [h.length]
  cases q : ixN ds.length i with
  | none => rw [q] at e; cases e
  | some j => rw [q] at e; exact h.get e
def plainIx : Expr → Bool
  | .Slice .. => false
  | _ => true
theorem plainIx_of {e : Expr} (h : plainIx e = true) : PlainIx e := fun o i => by
  cases e <;> first | rfl | cases h
theorem e_ix {N : List Str} {sc : Scope} {a b : Expr} {ma mb : DM D} {pos : Pos} (ha : EOk g N sc k a ma) (hb : EOk g N sc k b mb) (hp : plainIx b = true) : EOk g N sc k (.Subscript a b pos) (dOp2 oIx ma mb) := by
  obtain ⟨ta, pa, ra⟩ := ha.ex
  obtain ⟨tb, pb, rb⟩ := hb.ex
  refine ⟨⟨fun E => tOp (fun x y H Q => rIxDk x y H Q ∨ rIx g.K x y H Q) (ta E) (tb E), fun X E cx t => pe_ix (IxR.or (ix_dict cx.room) (by rw [← cx.hK]; exact ix_seq)) (pa X E cx t) (pb X E cx t) (plainIx_of hp), fun E W F δ S σ H Q rel post => ?_⟩⟩
  refine ra E W F δ S σ H _ rel (post_bind post fun x S1 W1 vx H1 _ l1 rel1 hx post1 => ?_)
  refine rb E W1 F δ S1 σ H1 _ rel1 (post_bind post1 fun y S2 W2 vy H2 _ l2 rel2 hy post2 => ?_)
  obtain ⟨z, ez, q⟩ := post_lift post2
  have hx2 := hx.mono l2
  have q2 : ∀ v, PV g.K W2 z v → Q v H2 := fun v p => q W2 v H2 (.refl _) rel2 (.inl p)
  have main : ∀ x : D, VV g.K W2 σ x vx → ixSeq δ S2 x y = some z → rIxDk vx vy H2 Q ∨ rIx g.K vx vy H2 Q := fun x hx ez => by
    unfold ixSeq at ez
    cases e1 : seqOf δ S2 x with
    | some p =>
      obtain ⟨b, ds⟩ := p
      rw [e1] at ez
      cases y with
      | int i =>
        cases hy.pv rfl
        obtain ⟨a, vs, rfl, hp, ht, hl⟩ := seqOf_ok rel2 hx e1
        obtain ⟨w, ew, pw⟩ := hp.atI ez
        cases b with
        | true => exact .inr (.inr (.inl ⟨a, vs, i, w, rfl, rfl, ht rfl, ew, q2 w pw⟩))
        | false => exact .inr (.inl ⟨a, vs, i, w, rfl, rfl, hl rfl, ew, q2 w pw⟩)
      | _ => cases ez
    | none =>
      rw [e1] at ez
      dsimp only at ez
      cases e2 : dicOf δ S2 x with
      | none => rw [e2] at ez; cases ez
      | some kvs =>
        rw [e2] at ez
        obtain ⟨k, e3, ez⟩ := Option.bind_eq_some_iff.mp ez
        obtain ⟨a, ls, rfl, ha, hp⟩ := dicOf_ok rel2 hx e2
        have := keyOf_ok hy e3
        subst this
        obtain ⟨w, ew, pw⟩ := (hp.val k).1 z ez
        exact .inl ⟨a, w, rfl, by rw [← ew]; exact DGet.k ha, q2 w pw⟩
  cases x with
  | str t =>
    have ez : ixStr t y = some z := ez
    cases y with
    | int i =>
      unfold ixStr at ez
      dsimp only at ez
      split at ez
      · rename_i hl
        obtain ⟨c, ec, e⟩ := Option.map_eq_some_iff.mp ez
        subst e
        cases hx2.pv rfl; cases hy.pv rfl
        exact .inr (.inr (.inr ⟨_, _, c, rfl, rfl, by rw [sizeLine_eq]; exact hl, ec, q2 _ (.str _)⟩))
      · cases ez
    | _ => cases ez
  | _ => exact main _ hx2 ez

/-! ### slices -/
def cutD (xs : List D) (lo hi : Option Int) : List D := (xs.drop (HT.sIx xs.length 0 lo)).take (HT.sIx xs.length xs.length hi - HT.sIx xs.length 0 lo)
theorem PVs.cut {K : PySem.W.Frag} {W : Wd} {ds : List D} {vs : List V} (h : PVs K W ds vs) (lo hi : Option Int) : PVs K W (cutD ds lo hi) (cutV vs lo hi) := by
  unfold cutD cutV
  rw [h.length]
  exact (h.drop _).take _
structure POk (g : GE) (N : List Str) (sc : Scope) (k : Nat) (e : Option Expr) (m : DM (Option Int)) : Prop where
  ex : ∃ t : XK → TO, (∀ X E, CtxOk g N sc k X → TakesE X E → PO X e (t E)) ∧
    ∀ E W F δ S σ H Q, Rel g.K g.mg W F δ S σ H → Post g (fun _ a b => a = b) W F δ σ E Q (m δ S) → t E σ H Q
def dNoPart : DM (Option Int) := fun _ S => .ok none S
def dPart (m : DM D) : DM (Option Int) := dBind m fun x => match x with
  | .int i => fun _ S => .ok (some i) S
  | _ => fun _ _ => .stuck
theorem p_none {N : List Str} {sc : Scope} : POk g N sc k none dNoPart := ⟨⟨fun _ => tNoPart, fun X E cx t => po_none, fun E W F δ S σ H Q rel post => post W _ H (.refl _) rel rfl⟩⟩
theorem p_some {N : List Str} {sc : Scope} {e : Expr} {m : DM D} (h : EOk g N sc k e m) : POk g N sc k (some e) (dPart m) := by
  obtain ⟨t, p, r⟩ := h.ex
  refine ⟨⟨fun E => tPart (t E), fun X E cx tk => po_some (p X E cx tk), fun E W F δ S σ H Q rel post => ?_⟩⟩
  refine r E W F δ S σ H _ rel (post_bind post fun x S1 W1 v H1 _ l1 rel1 hx post1 => ?_)
  cases x with
  | int i =>
    cases hx.pv rfl
    exact ⟨_, rfl, post1 W1 _ H1 (.refl _) rel1 rfl⟩
  | _ => exact post1.elim
def slSeq (δ : List Sl) (S : Sto) (x : D) (lo hi : Option Int) : Option D := match seqOf δ S x with
  | some (true, ds) => some (.tup (cutD ds lo hi))
  | some (false, ds) => some (.lst (cutD ds lo hi))
  | none => none
def oSl (δ : List Sl) (S : Sto) (x : D) (lo hi : Option Int) : Option D := match x with
  | .str z => if z.length ≤ 16777216 then some (.str (cutS z lo hi)) else none
  | x => slSeq δ S x lo hi
def dSl (a : DM D) (lo hi : DM (Option Int)) : DM D := dBind a fun x => dBind lo fun l => dBind hi fun h => fun δ S => lift (oSl δ S x l h) S
theorem e_slice {N : List Str} {sc : Scope} {a : Expr} {lo hi : Option Expr} {ma : DM D} {ml mh : DM (Option Int)} {pos p2 : Pos} (ha : EOk g N sc k a ma) (hl : POk g N sc k lo ml) (hh : POk g N sc k hi mh) :
    EOk g N sc k (.Subscript a (.Slice lo hi none p2) pos) (dSl ma ml mh) := by
  obtain ⟨ta, pa, ra⟩ := ha.ex
  obtain ⟨tl, pl, rl⟩ := hl.ex
  obtain ⟨th, ph, rh⟩ := hh.ex
  refine ⟨⟨fun E => tSl (fun x lo hi H Q => rSlL g.K x lo hi H Q ∨ rSlA g.K x lo hi H Q ∨ rSlS x lo hi H Q) (ta E) (tl E) (th E),
    fun X E cx t => pe_slice (SlR.or (by rw [← cx.hK]; exact sl_list) (SlR.or (by rw [← cx.hK]; exact sl_tupA) sl_str)) (pa X E cx t) (pl X E cx t) (ph X E cx t), fun E W F δ S σ H Q rel post => ?_⟩⟩
  refine ra E W F δ S σ H _ rel (post_bind post fun x S1 W1 vx H1 _ l1 rel1 hx post1 => ?_)
  refine rl E W1 F δ S1 σ H1 _ rel1 (post_bind post1 fun lo S2 W2 vy H2 _ l2 rel2 hy post2 => ?_)
  refine rh E W2 F δ S2 σ H2 _ rel2 (post_bind post2 fun hi S3 W3 vz H3 _ l3 rel3 hz post3 => ?_)
  cases hy
  cases hz
  obtain ⟨z, ez, q⟩ := post_lift post3
  have hx3 := (hx.mono l2).mono l3
  have q2 : ∀ W' v H', W3.Le W' → Rel g.K g.mg W' F δ S3 σ H' → PV g.K W' z v → Q v H' := fun W' v H' l r p => q W' v H' l r (.inl p)
  have main : ∀ x : D, VV g.K W3 σ x vx → slSeq δ S3 x lo hi = some z → rSlL g.K vx lo hi H3 Q ∨ rSlA g.K vx lo hi H3 Q ∨ rSlS vx lo hi H3 Q := fun x hx ez => by
    unfold slSeq at ez
    cases e1 : seqOf δ S3 x with
    | none => rw [e1] at ez; cases ez
    | some p =>
      obtain ⟨b, ds⟩ := p
      rw [e1] at ez
      obtain ⟨a, vs, rfl, hp, ht, hl⟩ := seqOf_ok rel3 hx e1
      cases b with
      | true =>
        cases ez
        refine .inr (.inl ⟨a, vs, rfl, ht rfl, fun h => ?_, fun h => new_tup rel3 (hp.cut lo hi) q2⟩)
        have e2 : cutD ds lo hi = ds := by
          have h1 := h.1
          have h2 := h.2
          rw [hp.length] at h1 h2
          unfold cutD
          rw [h1, h2]
          simp
        refine q2 W3 _ H3 (.refl _) rel3 ?_
        rw [e2]
        have ho : x.isOwn = false := by
          cases x <;> first | rfl | (simp [seqOf] at e1)
        have hx' := hx.pv ho
        cases x with
        | tup ds' => simp only [seqOf, Option.some.injEq, Prod.mk.injEq, true_and] at e1; subst e1; exact hx'
        | _ => simp [seqOf] at e1
      | false =>
        cases ez
        exact .inl ⟨a, vs, rfl, hl rfl, new_lst (W0 := W) rel3 (hp.cut lo hi) q2⟩
  cases x with
  | str t =>
    unfold oSl at ez
    dsimp only at ez
    split at ez
    · rename_i hl
      cases ez
      cases hx3.pv rfl
      exact .inr (.inr ⟨_, rfl, by rw [sizeLine_eq]; exact hl, q2 W3 _ H3 (.refl _) rel3 (.str _)⟩)
    · cases ez
  | _ => exact main _ hx3 ez
end DM


end
section
set_option Elab.async false
set_option linter.all false
set_option maxRecDepth 100000
set_option autoImplicit false
namespace DM
open PySem PySem.Spec L2
variable {g : GE} {k : Nat}

/-! ### calls of built-ins -/
abbrev HB := List Sl → Sto → List D → Option D
abbrev HF := List Sl → Sto → List D → Option (List D)
/-- by values, data as the answer -/
structure CallD (g : GE) (k : Nat) (f : Value) (h : HB) : Prop where
  ex : ∃ r : List V → Hp → VK → Prop, (∀ X N sc, CtxOk g N sc k X → CallR X f r) ∧ ∀ W F δ S σ H xs vxs Q z, Rel g.K g.mg W F δ S σ H → VVs g.K W σ xs vxs → h δ S xs = some z →
    (∀ W' v H', W.Le W' → Rel g.K g.mg W' F δ S σ H' → PV g.K W' z v → Q v H') → r vxs H Q
/-- .. a fresh list -/
structure CallL (g : GE) (k : Nat) (f : Value) (h : HF) : Prop where
  ex : ∃ r : List V → Hp → VK → Prop, (∀ X N sc, CtxOk g N sc k X → CallR X f r) ∧ ∀ W F δ S σ H xs vxs Q z, Rel g.K g.mg W F δ S σ H → VVs g.K W σ xs vxs → h δ S xs = some z →
    (∀ vs p, H p = none → PVs g.K W z vs → Q (.ref p) (upd H p (.lst vs))) → r vxs H Q
def dB (h : HB) (m : DM (List D)) : DM D := dBind m fun ds δ S => lift (h δ S ds) S
def fB (h : HF) (m : DM (List D)) : DM (List D) := dBind m fun ds δ S => lift (h δ S ds) S
variable {N : List Str} {sc : Scope} {a b c e o : Expr} {es : List Expr} {ma mb mc mo : DM D} {m : DM (List D)} {pos apos p : Pos}
/-- the built-in function, class, of that name -/
structure BiAt (g : GE) (x : Str) (v : Value) : Prop where
  free : g.mg x = none
  boot : bootBuiltins x = some v
  n1 : x ≠ "__name__"
  n2 : (x == ("__debug__" : Str)) = false
theorem biPE {x : Str} {v : Value} (hb : BiAt g x v) (hv : (∃ id, v = .builtin id) ∨ ∃ T, v = .type T) (hg : sc.names.lookup x = some .globalImplicit) (hs : es.all notStar = true) (h0 : es ≠ []) {r : List V → Hp → VK → Prop}
    (hr : ∀ X N sc, CtxOk g N sc k X → CallR X v r) {t : XK → TA} (pt : ∀ X E, CtxOk g N sc k X → TakesE X E → PA X es (t E)) : ∀ X E, CtxOk g N sc k X → TakesE X E → PE X (.Call (.Name x p) es [] pos) (tCB r (t E)) := fun X E cx tk => by
  cases es with
  | nil => exact absurd rfl h0
  | cons e es =>
    simp only [List.all_cons, Bool.and_eq_true] at hs
    rcases hv with ⟨id, rfl⟩ | ⟨T, rfl⟩
    · exact pe_callB (hr X _ _ cx) (gl_of cx hg) (by rw [cx.hm]; exact hb.free) hb.boot (pt X E cx tk) hb.n1 hb.n2 (star_of hs.1 _) (noStar_any _ _ hs.2)
    · exact pe_callTy (hr X _ _ cx) (gl_of cx hg) (by rw [cx.hm]; exact hb.free) hb.boot (pt X E cx tk) hb.n1 hb.n2 (star_of hs.1 _) (noStar_any _ _ hs.2)
theorem e_b {x : Str} {v : Value} {h : HB} (hb : BiAt g x v) (hv : (∃ id, v = .builtin id) ∨ ∃ T, v = .type T) (hc : CallD g k v h) (hg : sc.names.lookup x = some .globalImplicit) (ha : AOk g N sc k es m) (hs : es.all notStar = true) (h0 : es ≠ []) : EOk g N sc k (.Call (.Name x p) es [] pos) (dB h m) := by
  obtain ⟨t, pt, rt⟩ := ha.ex
  obtain ⟨r, pr, rr⟩ := hc.ex
  refine ⟨⟨fun E => tCB r (t E), biPE hb hv hg hs h0 pr pt, fun E W F δ S σ H Q rel post => ?_⟩⟩
  refine rt E W F δ S σ H _ rel (post_bind post fun ds S1 W1 vs H1 _ l1 rel1 hx post1 => ?_)
  obtain ⟨z, ez, q⟩ := post_lift post1
  exact rr W1 F δ S1 σ H1 ds vs Q z rel1 hx ez fun W' v H' l r p => q W' v H' l r (.inl p)
theorem f_b {x : Str} {v : Value} {h : HF} (hb : BiAt g x v) (hv : (∃ id, v = .builtin id) ∨ ∃ T, v = .type T) (hc : CallL g k v h) (hg : sc.names.lookup x = some .globalImplicit) (ha : AOk g N sc k es m) (hs : es.all notStar = true) (h0 : es ≠ []) : FOk g N sc k (.Call (.Name x p) es [] pos) (fB h m) := by
  obtain ⟨t, pt, rt⟩ := ha.ex
  obtain ⟨r, pr, rr⟩ := hc.ex
  refine ⟨⟨fun E => tCB r (t E), biPE hb hv hg hs h0 pr pt, fun E W F δ S σ H Q rel post => ?_⟩⟩
  refine rt E W F δ S σ H _ rel (postF_bind post fun ds S1 W1 vs H1 _ l1 rel1 hx post1 => ?_)
  cases ez : h δ S1 ds with
  | none => dsimp only at post1; rw [ez] at post1; exact post1.elim
  | some z =>
    dsimp only at post1
    rw [ez] at post1
    exact rr W1 F δ S1 σ H1 ds vs Q z rel1 hx ez fun ws p hp pv => post1 W1 _ _ (.refl _) (rel1.grow hp) (fresh_new rel1 hp pv)
theorem VVs.one {K : PySem.W.Frag} {W : Wd} {σ : St} {d : D} {vs : List V} (h : VVs K W σ [d] vs) : ∃ v, vs = [v] ∧ VV K W σ d v := by
  cases h with
  | cons h r => cases r; exact ⟨_, rfl, h⟩
theorem VVs.two {K : PySem.W.Frag} {W : Wd} {σ : St} {d d' : D} {vs : List V} (h : VVs K W σ [d, d'] vs) : ∃ v v', vs = [v, v'] ∧ VV K W σ d v ∧ VV K W σ d' v' := by
  cases h with
  | cons h r => obtain ⟨v', rfl, h'⟩ := VVs.one r; exact ⟨_, _, rfl, h, h'⟩

/-- len -/
def hLen : HB := fun δ S xs => match xs with
  | [x] => match x with
    | .str z => if z.length ≤ 16777216 then some (.int z.length) else none
    | x => match seqOf δ S x with
      | some (_, ds) => some (.int ds.length)
      | none => (dicOf δ S x).map fun kvs => .int kvs.length
  | _ => none
theorem call_lenD {X : Cx} : CallR X (.builtin "len") (fun xs H Q => ∃ a kvs, xs = [.ref a] ∧ Rd H a (.dK kvs) ∧ Q (.int kvs.length) H) := by
  intro pins s σ H xs us Q I r ⟨a, kvs, e, h, q⟩
  subst e
  obtain ⟨u, rfl, ru⟩ := vals1 r
  cases ru
  exact d_len I h fun t s' I' => ⟨.int _, H, I', ⟨t, rfl⟩, q⟩
theorem b_len : CallD g k (.builtin "len") hLen := by
  refine ⟨⟨fun xs H Q => (∃ x n, xs = [x] ∧ LenV g.K x H n ∧ Q (.int n) H) ∨ (∃ a kvs, xs = [.ref a] ∧ Rd H a (.dK kvs) ∧ Q (.int kvs.length) H),
    fun X N sc cx => CallR.or (by rw [← cx.hK]; exact L2.call_len) DM.call_lenD, fun W F δ S σ H xs vxs Q z rel hx ez q => ?_⟩⟩
  unfold hLen at ez
  split at ez
  · rename_i x
    obtain ⟨v, rfl, hv⟩ := hx.one
    split at ez
    · split at ez
      · rename_i hl
        cases ez
        cases hv.pv rfl
        exact .inl ⟨_, _, rfl, ⟨by rw [sizeLine_eq]; exact hl, rfl⟩, q W _ H (.refl _) rel (.int _)⟩
      · cases ez
    · split at ez
      · rename_i b ds e1
        cases ez
        obtain ⟨a, vs, rfl, hp, ht, hl⟩ := seqOf_ok rel hv e1
        have e2 := hp.length
        rw [← e2] at q
        cases b with
        | true => exact .inl ⟨_, _, rfl, .inr ⟨vs, ht rfl, rfl⟩, q W _ H (.refl _) rel (.int _)⟩
        | false => exact .inl ⟨_, _, rfl, .inl ⟨vs, hl rfl, rfl⟩, q W _ H (.refl _) rel (.int _)⟩
      · obtain ⟨kvs, e1, e2⟩ := Option.map_eq_some_iff.mp ez
        cases e2
        obtain ⟨a, ls, rfl, ha, hp⟩ := dicOf_ok rel hv e1
        have e2 := hp.length
        rw [← e2] at q
        exact .inr ⟨a, ls, rfl, .inl ha, q W _ H (.refl _) rel (.int _)⟩
  · cases ez
/-- isinstance of a built-in class -/
def tyD (δ : List Sl) (S : Sto) : D → Option String
  | .non => some "NoneType"
  | .bl _ => some "bool"
  | .int _ => some "int"
  | .str _ => some "str"
  | x => match seqOf δ S x with
    | some (true, _) => some "tuple"
    | some (false, _) => some "list"
    | none => (dicOf δ S x).map fun _ => "dict"
def subTy (a b : String) : Option Bool := if (a ∈ ["NoneType", "bool", "int", "str", "tuple", "list", "dict"] ∧ b ∈ ["bool", "int", "str", "tuple", "list", "dict"]) then some (a == b || (a == "bool" && b == "int")) else none
theorem subTy_ok {a b : String} {r : Bool} (h : subTy a b = some r) : kitB a b = some r := by
  have all : (["NoneType", "bool", "int", "str", "tuple", "list", "dict"].all fun a => ["bool", "int", "str", "tuple", "list", "dict"].all fun b => decide (kitB a b = subTy a b)) = true := by decide +kernel
  have hm : a ∈ ["NoneType", "bool", "int", "str", "tuple", "list", "dict"] ∧ b ∈ ["bool", "int", "str", "tuple", "list", "dict"] := by
    unfold subTy at h
    split at h
    · assumption
    · cases h
  have h2 := List.all_eq_true.mp (List.all_eq_true.mp all a hm.1) b hm.2
  rw [of_decide_eq_true h2]
  exact h
theorem tyX_of {K : PySem.W.Frag} {W : Wd} {mg : Str → Option Value} {F H : Hp} {δ : List Sl} {S : Sto} {σ : St} {x : D} {v : V} {t : String} (g0 : GE) (e : g0.K = K) (rel : Rel g0.K g0.mg W F δ S σ H) (hx : VV g0.K W σ x v) (h : tyD δ S x = some t) : TyX g0.K H v (.type t) := by
  have sq : (match seqOf δ S x with
    | some (true, _) => some "tuple"
    | some (false, _) => some "list"
    | none => (dicOf δ S x).map fun _ => "dict") = some t → TyX g0.K H v (.type t) := fun h => by
    split at h
    · rename_i ds e1
      cases h
      obtain ⟨a, vs, rfl, hp, ht, _⟩ := seqOf_ok rel hx e1
      rcases ht rfl with (q | ⟨o, q⟩) | ⟨o, its, n, q, c, _⟩
      · exact .base (.tup q)
      · exact .fTuple q
      · exact .kTuple q c
    · rename_i ds e1
      cases h
      obtain ⟨a, vs, rfl, hp, _, hl⟩ := seqOf_ok rel hx e1
      rcases hl rfl with (q | ⟨o, q⟩) | ⟨o, its, n, q, c, _⟩
      · exact .base (.lst q)
      · exact .base (.frz q)
      · exact .kList q c
    · obtain ⟨kvs, e1, e2⟩ := Option.map_eq_some_iff.mp h
      cases e2
      obtain ⟨a, ls, rfl, ha, _⟩ := dicOf_ok rel hx e1
      exact .base (.dK ha)
  cases x with
  | non => cases h; cases hx.pv rfl; exact .base .non
  | bl b => cases h; cases hx.pv rfl; exact .base (.bl _)
  | int b => cases h; cases hx.pv rfl; exact .base (.int _)
  | str b => cases h; cases hx.pv rfl; exact .base (.str _)
  | _ => exact sq h
def dIsi (T : String) (m : DM D) : DM D := dBind m fun x δ S => lift (((tyD δ S x).bind fun t => subTy t T).map D.bl) S
theorem e_isi {T : String} {tn : Str} {p2 : Pos} (hb : BiAt g "isinstance" (.builtin "isinstance")) (hT : BiAt g tn (.type T)) (hg : sc.names.lookup ("isinstance" : Str) = some .globalImplicit) (hg2 : sc.names.lookup tn = some .globalImplicit) (ha : EOk g N sc k a ma) (hs : notStar a = true) :
    EOk g N sc k (.Call (.Name "isinstance" p) [a, .Name tn p2] [] pos) (dIsi T ma) := by
  obtain ⟨t, pt, rt⟩ := ha.ex
  refine ⟨⟨fun E => tCB (rIsi g.K) (tCons (t E) (tCons (tC (.ty T)) tNil)), fun X E cx tk => ?_, fun E W F δ S σ H Q rel post => ?_⟩⟩
  · have h2 : PE X (.Name tn p2) (tC (.ty T)) := pe_bltn (gl_of cx hg2) (by rw [cx.hm]; exact hT.free) hT.boot rfl hT.n1 hT.n2
    exact pe_callB (by rw [← cx.hK]; exact call_isi) (gl_of cx hg) (by rw [cx.hm]; exact hb.free) hb.boot (pa_cons (pt X E cx tk) (pa_cons h2 pa_nil) (star_of hs _)) hb.n1 hb.n2 (star_of hs _) rfl
  · refine rt E W F δ S σ H _ rel (post_bind post fun x S1 W1 v H1 _ l1 rel1 hx post1 => ?_)
    obtain ⟨z, ez, q⟩ := post_lift post1
    obtain ⟨r, er, e2⟩ := Option.map_eq_some_iff.mp ez
    obtain ⟨ty, ety, e3⟩ := Option.bind_eq_some_iff.mp er
    subst e2
    exact ⟨v, .ty T, .type ty, .type T, r, rfl, .ty T, tyX_of (K := g.K) (mg := g.mg) g rfl rel1 hx ety, kit_ty (subTy_ok e3), q W1 _ H1 (.refl _) rel1 (.inl (.bl r))⟩
/-- list(..): of a list, a tuple, a dict -/
def kD : Key → D
  | .inl i => .int i
  | .inr x => .str x
theorem keys_pv {K : PySem.W.Frag} {W : Wd} : ∀ {kvs : List (Key × D)} {ls : List (Key × V)}, PVk K W kvs ls → PVs K W (kvs.map fun kv => kD kv.1) (ls.map fun kv => kV kv.1)
  | _, _, .nil => .nil
  | (k, _) :: _, _, .cons _ r => .cons (by cases k; exact .int _; exact .str _) (keys_pv r)
def hList : HF := fun δ S xs => match xs with
  | [x] => match seqOf δ S x with
    | some (_, ds) => some ds
    | none => (dicOf δ S x).map fun kvs => kvs.map fun kv => kD kv.1
  | _ => none
theorem b_list (cold : g.hot = none) : CallL g k (.type "list") hList := by
  refine ⟨⟨fun xs H Q => (∃ p ys, xs = [.ref p] ∧ (SqL g.K H p ys ∨ SqT g.K H p ys) ∧ ∀ l, H l = none → Q (.ref l) (upd H l (.lst ys))) ∨ rListD xs H Q,
    fun X N sc cx => CallR.or (by rw [← cx.hK]; exact call_list_of) (call_list_dK (cx.calm cold)), fun W F δ S σ H xs vxs Q z rel hx ez q => ?_⟩⟩
  unfold hList at ez
  split at ez
  · rename_i x
    obtain ⟨v, rfl, hv⟩ := hx.one
    split at ez
    · rename_i b ds e1
      cases ez
      obtain ⟨a, vs, rfl, hp, ht, hl⟩ := seqOf_ok rel hv e1
      refine .inl ⟨a, vs, rfl, ?_, fun l hl => q vs l hl hp⟩
      cases b with
      | true => exact .inr (ht rfl)
      | false => exact .inl (hl rfl)
    · obtain ⟨kvs, e1, e2⟩ := Option.map_eq_some_iff.mp ez
      cases e2
      obtain ⟨a, ls, rfl, ha, hp⟩ := dicOf_ok rel hv e1
      exact .inr ⟨a, ls, rfl, ha, fun l hl => q _ l hl (keys_pv hp)⟩
  · cases ez
/-- tuple(..) -/
def hTuple : HB := fun δ S xs => match xs with
  | [x] => match seqOf δ S x with
    | some (_, ds) => some (.tup ds)
    | none => none
  | _ => none
theorem b_tuple : CallD g k (.type "tuple") hTuple := by
  refine ⟨⟨fun xs H Q => ∃ p ys, xs = [.ref p] ∧ ((SqL g.K H p ys ∧ ∀ l, H l = none → Q (.ref l) (upd H l (.tup ys))) ∨ (SqT g.K H p ys ∧ Q (.ref p) H)), fun X N sc cx => by rw [← cx.hK]; exact call_tuple_of, fun W F δ S σ H xs vxs Q z rel hx ez q => ?_⟩⟩
  unfold hTuple at ez
  split at ez
  · rename_i x
    obtain ⟨v, rfl, hv⟩ := hx.one
    split at ez
    · rename_i b ds e1
      cases ez
      obtain ⟨a, vs, rfl, hp, ht, hl⟩ := seqOf_ok rel hv e1
      cases b with
      | false => exact ⟨a, vs, rfl, .inl ⟨hl rfl, new_tup rel hp q⟩⟩
      | true =>
        refine ⟨a, vs, rfl, .inr ⟨ht rfl, q W _ H (.refl _) rel ?_⟩⟩
        cases x with
        | tup ds' => simp only [seqOf, Option.some.injEq, Prod.mk.injEq, true_and] at e1; subst e1; exact hv.pv rfl
        | _ => simp [seqOf] at e1
    · cases ez
  · cases ez
/-- sorted(..) of ints -/
def insI (i : Int) : List Int → List Int
  | [] => [i]
  | j :: r => if i ≤ j then i :: j :: r else j :: insI i r
def sortI : List Int → List Int
  | [] => []
  | i :: r => insI i (sortI r)
theorem insI_perm (i : Int) : ∀ l : List Int, (insI i l).Perm (i :: l)
  | [] => .refl _
  | j :: r => by
    unfold insI
    split
    · exact .refl _
    · exact ((insI_perm i r).cons j).trans (.swap i j r)
theorem sortI_perm : ∀ l : List Int, (sortI l).Perm l
  | [] => .refl _
  | i :: r => (insI_perm i _).trans ((sortI_perm r).cons i)
theorem insI_sorted (i : Int) : ∀ l : List Int, l.Pairwise (· ≤ ·) → (insI i l).Pairwise (· ≤ ·)
  | [], _ => by simp [insI]
  | j :: r, h => by
    unfold insI
    rw [List.pairwise_cons] at h
    split
    · rename_i hl
      rw [List.pairwise_cons]
      refine ⟨fun x hx => ?_, List.pairwise_cons.mpr h⟩
      rcases List.mem_cons.mp hx with rfl | hx
      · exact hl
      · exact Int.le_trans hl (h.1 x hx)
    · rename_i hl
      rw [List.pairwise_cons]
      refine ⟨fun x hx => ?_, insI_sorted i r h.2⟩
      rcases List.mem_cons.mp ((insI_perm i r).mem_iff.mp hx) with rfl | hx
      · omega
      · exact h.1 x hx
theorem sortI_sorted : ∀ l : List Int, (sortI l).Pairwise (· ≤ ·)
  | [] => .nil
  | i :: r => insI_sorted i _ (sortI_sorted r)
theorem sorted_uniq : ∀ {a b : List Int}, a.Perm b → a.Pairwise (· ≤ ·) → b.Pairwise (· ≤ ·) → a = b := fun {a b} p ha hb => p.eq_of_pairwise (fun x y _ _ h1 h2 => Int.le_antisymm h1 h2) ha hb
theorem sortI_id {l : List Int} (h : l.Pairwise (· ≤ ·)) : sortI l = l := sorted_uniq (sortI_perm l) (sortI_sorted l) h
def intsOf : List D → Option (List Int)
  | [] => some []
  | .int i :: r => (intsOf r).map fun l => i :: l
  | _ => none
theorem intsOf_pv {K : PySem.W.Frag} {W : Wd} : ∀ {ds : List D} {vs : List V} {ns : List Int}, PVs K W ds vs → intsOf ds = some ns → vs = ns.map V.int ∧ ds = ns.map D.int
  | _, _, _, .nil, e => by cases e; exact ⟨rfl, rfl⟩
  | .int i :: ds, _, _, .cons h r, e => by
    obtain ⟨l, e1, e2⟩ := Option.map_eq_some_iff.mp e
    subst e2
    obtain ⟨h1, h2⟩ := intsOf_pv r e1
    cases h
    exact ⟨by rw [h1]; rfl, by rw [h2]; rfl⟩
theorem ints_pv {K : PySem.W.Frag} {W : Wd} : ∀ ns : List Int, PVs K W (ns.map D.int) (ns.map V.int)
  | [] => .nil
  | i :: r => .cons (.int i) (ints_pv r)
/-- the ints of a list -/
def ilOf (δ : List Sl) (S : Sto) (x : D) : Option (List Int) := match seqOf δ S x with
  | some (false, ds) => intsOf ds
  | _ => none
theorem ilOf_ok {W : Wd} {F H : Hp} {δ : List Sl} {S : Sto} {σ : St} {x : D} {v : V} {ns : List Int} (rel : Rel g.K g.mg W F δ S σ H) (hx : VV g.K W σ x v) (e : ilOf δ S x = some ns) : ∃ a, v = .ref a ∧ SqL g.K H a (ns.map V.int) := by
  unfold ilOf at e
  split at e
  · rename_i ds e1
    obtain ⟨a, vs, rfl, hp, _, hl⟩ := seqOf_ok rel hx e1
    obtain ⟨e2, _⟩ := intsOf_pv hp e
    rw [← e2]
    exact ⟨a, rfl, hl rfl⟩
  · cases e
def hSortI : HF := fun δ S xs => match xs with
  | [x] => (ilOf δ S x).map fun ns => (sortI ns).map D.int
  | _ => none
theorem b_sortI : CallL g k (.builtin "sorted") hSortI := by
  refine ⟨⟨rSortedI g.K, fun X N sc cx => by rw [← cx.hK]; exact cr_sortedI, fun W F δ S σ H xs vxs Q z rel hx ez q => ?_⟩⟩
  unfold hSortI at ez
  split at ez
  · obtain ⟨v, rfl, hv⟩ := hx.one
    obtain ⟨ns, e1, e2⟩ := Option.map_eq_some_iff.mp ez
    cases e2
    obtain ⟨a, rfl, hl⟩ := ilOf_ok rel hv e1
    refine ⟨a, ns, rfl, hl, fun ns' p hp hs hn => ?_⟩
    have e : ns' = sortI ns := sorted_uniq (hp.trans (sortI_perm ns).symm) hs (sortI_sorted ns)
    subst e
    exact q _ p hn (ints_pv _)
  · cases ez
/-- sum, min, max, all, any -/
def hSum : HB := fun δ S xs => match xs with
  | [x] => (ilOf δ S x).map fun ns => .int ns.sum
  | _ => none
theorem b_sum (cold : g.hot = none) : CallD g k (.builtin "sum") hSum := by
  refine ⟨⟨rSum g.K, fun X N sc cx => by rw [← cx.hK]; exact cr_sum (cx.calm cold), fun W F δ S σ H xs vxs Q z rel hx ez q => ?_⟩⟩
  unfold hSum at ez
  split at ez
  · obtain ⟨v, rfl, hv⟩ := hx.one
    obtain ⟨ns, e1, e2⟩ := Option.map_eq_some_iff.mp ez
    cases e2
    obtain ⟨a, rfl, hl⟩ := ilOf_ok rel hv e1
    exact ⟨a, ns, rfl, hl, q W _ H (.refl _) rel (.int _)⟩
  · cases ez
def minI : Int → List Int → Int
  | m, [] => m
  | m, i :: r => minI (if i < m then i else m) r
def maxI : Int → List Int → Int
  | m, [] => m
  | m, i :: r => maxI (if i > m then i else m) r
theorem minI_le : ∀ (m : Int) (l : List Int), minI m l ≤ m ∧ (∀ x ∈ l, minI m l ≤ x) ∧ (minI m l = m ∨ minI m l ∈ l)
  | m, [] => ⟨Int.le_refl _, by simp, .inl rfl⟩
  | m, i :: r => by
    have h := minI_le (if i < m then i else m) r
    unfold minI
    split at h
    · rename_i hl
      rw [if_pos hl]
      refine ⟨by omega, fun x hx => ?_, ?_⟩
      · rcases List.mem_cons.mp hx with rfl | hx
        · exact h.1
        · exact h.2.1 x hx
      · rcases h.2.2 with e | e
        · right; rw [e]; exact List.mem_cons_self
        · right; exact List.mem_cons_of_mem _ e
    · rename_i hl
      rw [if_neg hl]
      refine ⟨h.1, fun x hx => ?_, ?_⟩
      · rcases List.mem_cons.mp hx with rfl | hx
        · omega
        · exact h.2.1 x hx
      · rcases h.2.2 with e | e
        · left; exact e
        · right; exact List.mem_cons_of_mem _ e
theorem maxI_ge : ∀ (m : Int) (l : List Int), m ≤ maxI m l ∧ (∀ x ∈ l, x ≤ maxI m l) ∧ (maxI m l = m ∨ maxI m l ∈ l)
  | m, [] => ⟨Int.le_refl _, by simp, .inl rfl⟩
  | m, i :: r => by
    have h := maxI_ge (if i > m then i else m) r
    unfold maxI
    split at h
    · rename_i hl
      rw [if_pos hl]
      refine ⟨by omega, fun x hx => ?_, ?_⟩
      · rcases List.mem_cons.mp hx with rfl | hx
        · exact h.1
        · exact h.2.1 x hx
      · rcases h.2.2 with e | e
        · right; rw [e]; exact List.mem_cons_self
        · right; exact List.mem_cons_of_mem _ e
    · rename_i hl
      rw [if_neg hl]
      refine ⟨h.1, fun x hx => ?_, ?_⟩
      · rcases List.mem_cons.mp hx with rfl | hx
        · omega
        · exact h.2.1 x hx
      · rcases h.2.2 with e | e
        · left; exact e
        · right; exact List.mem_cons_of_mem _ e
def hMin : HB := fun δ S xs => match xs with
  | [x] => match ilOf δ S x with
    | some (i :: r) => some (.int (minI i r))
    | _ => none
  | [.int i, .int j] => some (.int (if j < i then j else i))
  | _ => none
theorem b_min (cold : g.hot = none) : CallD g k (.builtin "min") hMin := by
  refine ⟨⟨fun xs H Q => rMin g.K xs H Q ∨ (∃ i j, xs = [.int i, .int j] ∧ Q (.int (if j < i then j else i)) H), fun X N sc cx => CallR.or (by rw [← cx.hK]; exact cr_min (cx.calm cold)) (call_min2 (cx.calm cold)), fun W F δ S σ H xs vxs Q z rel hx ez q => ?_⟩⟩
  unfold hMin at ez
  split at ez
  · obtain ⟨v, rfl, hv⟩ := hx.one
    split at ez
    · rename_i i r e1
      cases ez
      obtain ⟨a, rfl, hl⟩ := ilOf_ok rel hv e1
      refine .inl ⟨a, i :: r, rfl, hl, by simp, fun m hm hle => ?_⟩
      have h := minI_le i r
      have e : m = minI i r := by
        have h1 : minI i r ∈ i :: r := by
          rcases h.2.2 with e | e
          · rw [e]; exact List.mem_cons_self
          · exact List.mem_cons_of_mem _ e
        have h2 := hle _ h1
        have h3 : minI i r ≤ m := by
          rcases List.mem_cons.mp hm with rfl | hm
          · exact h.1
          · exact h.2.1 m hm
        omega
      rw [e]
      exact q W _ H (.refl _) rel (.int _)
    · cases ez
  · cases ez
    obtain ⟨v, v', rfl, h1, h2⟩ := hx.two
    cases h1.pv rfl; cases h2.pv rfl
    exact .inr ⟨_, _, rfl, q W _ H (.refl _) rel (.int _)⟩
  · cases ez
def hMax : HB := fun δ S xs => match xs with
  | [x] => match ilOf δ S x with
    | some (i :: r) => some (.int (maxI i r))
    | _ => none
  | [.int i, .int j] => some (.int (if j > i then j else i))
  | _ => none
theorem b_max (cold : g.hot = none) : CallD g k (.builtin "max") hMax := by
  refine ⟨⟨fun xs H Q => rMax g.K xs H Q ∨ (∃ i j, xs = [.int i, .int j] ∧ Q (.int (if j > i then j else i)) H), fun X N sc cx => CallR.or (by rw [← cx.hK]; exact cr_max (cx.calm cold)) (call_max2 (cx.calm cold)), fun W F δ S σ H xs vxs Q z rel hx ez q => ?_⟩⟩
  unfold hMax at ez
  split at ez
  · obtain ⟨v, rfl, hv⟩ := hx.one
    split at ez
    · rename_i i r e1
      cases ez
      obtain ⟨a, rfl, hl⟩ := ilOf_ok rel hv e1
      refine .inl ⟨a, i :: r, rfl, hl, by simp, fun m hm hle => ?_⟩
      have h := maxI_ge i r
      have e : m = maxI i r := by
        have h1 : maxI i r ∈ i :: r := by
          rcases h.2.2 with e | e
          · rw [e]; exact List.mem_cons_self
          · exact List.mem_cons_of_mem _ e
        have h2 := hle _ h1
        have h3 : m ≤ maxI i r := by
          rcases List.mem_cons.mp hm with rfl | hm
          · exact h.1
          · exact h.2.1 m hm
        omega
      rw [e]
      exact q W _ H (.refl _) rel (.int _)
    · cases ez
  · cases ez
    obtain ⟨v, v', rfl, h1, h2⟩ := hx.two
    cases h1.pv rfl; cases h2.pv rfl
    exact .inr ⟨_, _, rfl, q W _ H (.refl _) rel (.int _)⟩
  · cases ez
def blsOf : List D → Option (List Bool)
  | [] => some []
  | .bl i :: r => (blsOf r).map fun l => i :: l
  | _ => none
theorem blsOf_pv {K : PySem.W.Frag} {W : Wd} : ∀ {ds : List D} {vs : List V} {ns : List Bool}, PVs K W ds vs → blsOf ds = some ns → vs = ns.map V.bl
  | _, _, _, .nil, e => by cases e; rfl
  | .bl i :: ds, _, _, .cons h r, e => by
    obtain ⟨l, e1, e2⟩ := Option.map_eq_some_iff.mp e
    subst e2
    have h1 := blsOf_pv r e1
    cases h
    rw [h1]; rfl
def blOf (δ : List Sl) (S : Sto) (x : D) : Option (List Bool) := match seqOf δ S x with
  | some (false, ds) => blsOf ds
  | _ => none
theorem blOf_ok {W : Wd} {F H : Hp} {δ : List Sl} {S : Sto} {σ : St} {x : D} {v : V} {ns : List Bool} (rel : Rel g.K g.mg W F δ S σ H) (hx : VV g.K W σ x v) (e : blOf δ S x = some ns) : ∃ a, v = .ref a ∧ SqL g.K H a (ns.map V.bl) := by
  unfold blOf at e
  split at e
  · rename_i ds e1
    obtain ⟨a, vs, rfl, hp, _, hl⟩ := seqOf_ok rel hx e1
    rw [← blsOf_pv hp e]
    exact ⟨a, rfl, hl rfl⟩
  · cases e
def hAll : HB := fun δ S xs => match xs with
  | [x] => (blOf δ S x).map fun bs => .bl (bs.all id)
  | _ => none
def hAny : HB := fun δ S xs => match xs with
  | [x] => (blOf δ S x).map fun bs => .bl (bs.any id)
  | _ => none
theorem b_all (cold : g.hot = none) : CallD g k (.builtin "all") hAll := by
  refine ⟨⟨rAll g.K, fun X N sc cx => by rw [← cx.hK]; exact cr_all (cx.calm cold), fun W F δ S σ H xs vxs Q z rel hx ez q => ?_⟩⟩
  unfold hAll at ez
  split at ez
  · obtain ⟨v, rfl, hv⟩ := hx.one
    obtain ⟨ns, e1, e2⟩ := Option.map_eq_some_iff.mp ez
    cases e2
    obtain ⟨a, rfl, hl⟩ := blOf_ok rel hv e1
    exact ⟨a, ns, rfl, hl, q W _ H (.refl _) rel (.bl _)⟩
  · cases ez
theorem b_any (cold : g.hot = none) : CallD g k (.builtin "any") hAny := by
  refine ⟨⟨rAny g.K, fun X N sc cx => by rw [← cx.hK]; exact cr_any (cx.calm cold), fun W F δ S σ H xs vxs Q z rel hx ez q => ?_⟩⟩
  unfold hAny at ez
  split at ez
  · obtain ⟨v, rfl, hv⟩ := hx.one
    obtain ⟨ns, e1, e2⟩ := Option.map_eq_some_iff.mp ez
    cases e2
    obtain ⟨a, rfl, hl⟩ := blOf_ok rel hv e1
    exact ⟨a, ns, rfl, hl, q W _ H (.refl _) rel (.bl _)⟩
  · cases ez
/-- int(..), str(..) -/
def hInt : HB := fun _ _ xs => match xs with
  | [.int i] => some (.int i)
  | [.bl b] => some (.int (if b then 1 else 0))
  | [.str z] => if z.length ≤ 640 then (PySem.intText? z).map D.int else none
  | _ => none
theorem b_int : CallD g k (.type "int") hInt := by
  refine ⟨⟨fun xs H Q => ((∃ i, xs = [.int i] ∧ Q (.int i) H) ∨ ∃ k, xs = [.bl k] ∧ Q (.int (if k then 1 else 0)) H) ∨ (∃ a n, xs = [.str a] ∧ PySem.intText? a = some n ∧ a.length ≤ 640 ∧ Q (.int n) H), fun X N sc cx => CallR.or call_int1 call_int_str, fun W F δ S σ H xs vxs Q z rel hx ez q => ?_⟩⟩
  unfold hInt at ez
  split at ez
  · cases ez
    obtain ⟨v, rfl, hv⟩ := hx.one
    cases hv.pv rfl
    exact .inl (.inl ⟨_, rfl, q W _ H (.refl _) rel (.int _)⟩)
  · cases ez
    obtain ⟨v, rfl, hv⟩ := hx.one
    cases hv.pv rfl
    exact .inl (.inr ⟨_, rfl, q W _ H (.refl _) rel (.int _)⟩)
  · split at ez
    · rename_i hl
      obtain ⟨n, e1, e2⟩ := Option.map_eq_some_iff.mp ez
      cases e2
      obtain ⟨v, rfl, hv⟩ := hx.one
      cases hv.pv rfl
      exact .inr ⟨_, n, rfl, e1, hl, q W _ H (.refl _) rel (.int _)⟩
    · cases ez
  · cases ez
def hStr : HB := fun _ _ xs => match xs with
  | [.int i] => if i.natAbs < 1000000 then some (.str (toString i)) else none
  | [.str z] => some (.str z)
  | _ => none
theorem b_str : CallD g k (.type "str") hStr := by
  refine ⟨⟨fun xs H Q => (∃ i, xs = [.int i] ∧ i.natAbs.log2 < 1920 ∧ Q (.str (toString i)) H) ∨ (∃ a, xs = [.str a] ∧ Q (.str a) H), fun X N sc cx => CallR.or call_str_int SkE.call_str_str, fun W F δ S σ H xs vxs Q z rel hx ez q => ?_⟩⟩
  unfold hStr at ez
  split at ez
  · split at ez
    · rename_i hl
      cases ez
      obtain ⟨v, rfl, hv⟩ := hx.one
      cases hv.pv rfl
      refine .inl ⟨_, rfl, ?_, q W _ H (.refl _) rel (.str _)⟩
      have : ∀ n : Nat, n < 1000000 → n.log2 < 1920 := fun n hn => by
        by_cases h0 : n = 0
        · subst h0; decide
        · have h1 : n.log2 < 20 := (Nat.log2_lt h0).mpr (by omega)
          omega
      exact this _ hl
    · cases ez
  · cases ez
    obtain ⟨v, rfl, hv⟩ := hx.one
    cases hv.pv rfl
    exact .inr ⟨_, rfl, q W _ H (.refl _) rel (.str _)⟩
  · cases ez
end DM


end
section
set_option Elab.async false
set_option linter.all false
set_option maxRecDepth 100000
set_option autoImplicit false
namespace DM
open PySem PySem.Spec L2
variable {g : GE} {k : Nat} {N : List Str} {sc : Scope} {a b c e o : Expr} {es : List Expr} {ma mb mc mo : DM D} {mr : DM (List D)} {pos apos : Pos}

/-! ### methods of built-in types -/
structure BmF (T name id : String) : Prop where
  pa : PlainAttrs T
  slot : Slot T name id
  ty : typeOf (.builtin id) = pure (.type "method_descriptor")
def tBM2 (K : PySem.W.Frag) (T1 T2 : String) (r1 r2 : V → List V → Hp → VK → Prop) (to : TE) (t : TA) : TE := fun σ H Q => to σ H fun x H1 =>
  (tyV K T1 x H1 ∧ t σ H1 fun xs H2 => r1 x xs H2 Q) ∨ (tyV K T2 x H1 ∧ t σ H1 fun xs H2 => r2 x xs H2 Q)
theorem pe_bm2 {X : Cx} {name : Str} {nm T1 T2 id1 id2 : String} {r1 r2 : V → List V → Hp → VK → Prop} {to : TE} {t : TA} {cpos : Pos} (hn : name = Str.ofString nm) (f1 : BmF T1 nm id1) (f2 : BmF T2 nm id2) (m1 : MtR X id1 r1) (m2 : MtR X id2 r2) (ho : PE X o to) (ha : PA X es t)
    (hb : plainRecv o = true) (hl : (apos.endLine == cpos.line) = true) (hs : es.all notStar = true) (hlen : es.length < 29) : PE X (.Call (.Attribute o name apos) es [] cpos) (tBM2 X.K T1 T2 r1 r2 to t) := by
  subst hn
  refine ⟨fun pins s σ H Q I h => ?_⟩
  have run : ∀ {T id : String} {r : V → List V → Hp → VK → Prop}, BmF T nm id → MtR X id r → ∀ (v : Value) (x : V) (s1 : Shared) (H1 : Hp), Inv X pins σ H1 s1 → RelV x v → tyV X.K T x H1 → (t σ H1 fun xs H2 => r x xs H2 Q) →
      MethodOn X.prog X.w X.A (Str.ofString nm) cpos v (backTo cpos (starEach es X.env)) (EP X pins σ Q) X.xe s1 := fun {T id r} f m v x s1 H1 I1 r1 ty q1 => by
    obtain ⟨h1, h2⟩ := tyV_is I1 r1 ty
    refine ⟨T, id, f.pa, f.slot, f.ty, h1, h2, ?_⟩
    have hA := ha.run cpos pins s1 σ H1 _ I1 q1
    have hany := noStar_any X.env cpos hs
    cases es with
    | nil =>
      have hA2 : wpAny (model X.prog X.w) X.A (spliced []) (AP X pins σ fun xs H2 => r x xs H2 Q) X.xe s1 := hA
      refine Calls.callWith_builtin rfl ?_
      have : wpAny (model X.prog X.w) X.A (evalArgs (.builtin id) true [] []) (fun a s₁ => wpAny (model X.prog X.w) X.A (call (.builtin id) ([v] ++ a.pos) a.kw) (EP X pins σ Q) X.xe s₁) X.xe s1 := by
        unfold evalArgs
        show wpAny _ _ (spliced [] >>= _) _ _ s1
        refine wpAny_bind (thn hA2 fun us s2 ⟨vs, H2, I2, r2, q2⟩ => ?_)
        have z := m pins s2 σ H2 x vs v us Q I2 r1 r2 q2
        refine wpAny_bind (wpAny_pure ?_)
        first
          | exact wpAny_pure z
          | exact wpAny_holding (wpAny_bind (wpAny_pure (wpAny_bind (wpAny_pure (wpAny_pure z)))))
      exact this
    | cons e es =>
      simp only [List.all_cons, Bool.and_eq_true] at hs
      rw [star_of hs.1] at hA ⊢
      exact Calls.callWith_builtin (by show (false || (backTo cpos (starEach es X.env)).any (·.1)) = false; rw [noStar_any X.env cpos hs.2]; rfl) (Calls.evalArgs_plain (thn hA fun us s2 ⟨vs, H2, I2, r2, q2⟩ => m pins s2 σ H2 x vs v us Q I2 r1 r2 q2))
  have few := few_of X.env cpos hs hlen
  unfold methodCallForm at few
  refine wpAny_Call_method_late (base_of hb _ _ _) few hl rfl (thn (ho.run pins s σ H _ I h) fun v s1 ⟨x, H1, I1, r1, q1⟩ => ?_)
  rcases q1 with ⟨ty, q1⟩ | ⟨ty, q1⟩
  · exact run f1 m1 v x s1 H1 I1 r1 ty q1
  · exact run f2 m2 v x s1 H1 I1 r1 ty q1
theorem tyV_of {W : Wd} {F H : Hp} {δ : List Sl} {S : Sto} {σ : St} {x : D} {v : V} {T : String} (rel : Rel g.K g.mg W F δ S σ H) (hx : VV g.K W σ x v) (h : tyD δ S x = some T) (hT : T = "list" ∨ T = "dict" ∨ T = "str") : tyV g.K T v H := by
  have sq : (match seqOf δ S x with
    | some (true, _) => some "tuple"
    | some (false, _) => some "list"
    | none => (dicOf δ S x).map fun _ => "dict") = some T → tyV g.K T v H := fun h => by
    split at h
    · cases h
      rcases hT with q | q | q <;> exact absurd q (by decide)
    · rename_i ds e1
      cases h
      obtain ⟨a, vs, rfl, hp, _, hl⟩ := seqOf_ok rel hx e1
      exact .inl ⟨rfl, vs, hl rfl⟩
    · obtain ⟨kvs, e1, e2⟩ := Option.map_eq_some_iff.mp h
      cases e2
      obtain ⟨a, ls, rfl, ha, _⟩ := dicOf_ok rel hx e1
      exact .inr (.inr (.inl ⟨rfl, .inl ⟨ls, ha⟩⟩))
  cases x with
  | non => cases h; rcases hT with q | q | q <;> exact absurd q (by decide)
  | bl b => cases h; rcases hT with q | q | q <;> exact absurd q (by decide)
  | int b => cases h; rcases hT with q | q | q <;> exact absurd q (by decide)
  | str b => cases h; cases hx.pv rfl; rfl
  | _ => exact sq h
/-- value and store behind a method -/
abbrev HM := List Sl → Sto → D → List D → Option (D × Sto)
structure MthD (g : GE) (k : Nat) (nm T : String) (h : HM) : Prop where
  ex : ∃ (id : String) (r : V → List V → Hp → VK → Prop), BmF T nm id ∧ (T = "list" ∨ T = "dict" ∨ T = "str") ∧ (∀ X N sc, CtxOk g N sc k X → MtR X id r) ∧
    ∀ W F δ S σ H x vx xs vxs Q z S', Rel g.K g.mg W F δ S σ H → VV g.K W σ x vx → VVs g.K W σ xs vxs → h δ S x xs = some (z, S') → (∀ W' v H', W.Le W' → Rel g.K g.mg W' F δ S' σ H' → PV g.K W' z v → Q v H') → r vx vxs H Q
def dMth (T1 T2 : String) (h1 h2 : HM) (o : DM D) (m : DM (List D)) : DM D := dBind o fun x => fun δ S => match tyD δ S x with
  | some T => if T = T1 then dBind m (fun ds δ S => match h1 δ S x ds with
      | some (z, S') => .ok z S'
      | none => .stuck) δ S
    else if T = T2 then dBind m (fun ds δ S => match h2 δ S x ds with
      | some (z, S') => .ok z S'
      | none => .stuck) δ S
    else .stuck
  | none => .stuck
theorem e_mth {name : Str} {nm T1 T2 : String} {h1 h2 : HM} (hn : name = Str.ofString nm) (f1 : MthD g k nm T1 h1) (f2 : MthD g k nm T2 h2) (ho : EOk g N sc k o mo) (ha : AOk g N sc k es mr) (hb : plainRecv o = true) (hl : (apos.endLine == pos.line) = true) (hs : es.all notStar = true) (hlen : es.length < 29) :
    EOk g N sc k (.Call (.Attribute o name apos) es [] pos) (dMth T1 T2 h1 h2 mo mr) := by
  obtain ⟨to, po, ro⟩ := ho.ex
  obtain ⟨t, pt, rt⟩ := ha.ex
  obtain ⟨id1, r1, b1, c1, m1, q1⟩ := f1.ex
  obtain ⟨id2, r2, b2, c2, m2, q2⟩ := f2.ex
  refine ⟨⟨fun E => tBM2 g.K T1 T2 r1 r2 (to E) (t E), fun X E cx tk => by rw [← cx.hK]; exact pe_bm2 hn b1 b2 (m1 X _ _ cx) (m2 X _ _ cx) (po X E cx tk) (pt X E cx tk) hb hl hs hlen, fun E W F δ S σ H Q rel post => ?_⟩⟩
  refine ro E W F δ S σ H _ rel (post_bind post fun x S1 W1 v H1 _ l1 rel1 hx post1 => ?_)
  dsimp only at post1
  cases ty : tyD δ S1 x with
  | none => rw [ty] at post1; exact post1.elim
  | some T =>
    rw [ty] at post1
    dsimp only at post1
    split at post1
    · rename_i eT
      subst eT
      refine .inl ⟨tyV_of rel1 hx ty c1, rt E W1 F δ S1 σ H1 _ rel1 (post_bind post1 fun ds S2 W2 vs H2 _ l2 rel2 hxs post2 => ?_)⟩
      dsimp only at post2
      cases eh : h1 δ S2 x ds with
      | none => rw [eh] at post2; exact post2.elim
      | some p =>
        obtain ⟨z, S'⟩ := p
        rw [eh] at post2
        exact q1 W2 F δ S2 σ H2 x v ds vs Q z S' rel2 (hx.mono l2) hxs eh fun W' v H' l r p => post2 W' v H' l r (.inl p)
    · split at post1
      · rename_i eT
        subst eT
        refine .inr ⟨tyV_of rel1 hx ty c2, rt E W1 F δ S1 σ H1 _ rel1 (post_bind post1 fun ds S2 W2 vs H2 _ l2 rel2 hxs post2 => ?_)⟩
        dsimp only at post2
        cases eh : h2 δ S2 x ds with
        | none => rw [eh] at post2; exact post2.elim
        | some p =>
          obtain ⟨z, S'⟩ := p
          rw [eh] at post2
          exact q2 W2 F δ S2 σ H2 x v ds vs Q z S' rel2 (hx.mono l2) hxs eh fun W' v H' l r p => post2 W' v H' l r (.inl p)
      · exact post1.elim
/-- list.pop() -/
def hPop : HM := fun _ S x ds => match x, ds with
  | .ref i, [] => match S.c i with
    | some (.lst xs) => (xs[xs.length - 1]?).map fun y => (y, S.set i (some (.lst xs.dropLast)))
    | _ => none
  | _, _ => none
theorem PVs.dropLast {K : PySem.W.Frag} {W : Wd} : ∀ {ds : List D} {vs : List V}, PVs K W ds vs → PVs K W ds.dropLast vs.dropLast
  | _, _, .nil => .nil
  | _, _, .cons _ .nil => .nil
  | _, _, .cons h (.cons h2 r) => .cons h (PVs.dropLast (.cons h2 r))
theorem PVs.eraseIdx {K : PySem.W.Frag} {W : Wd} : ∀ {ds : List D} {vs : List V} (i : Nat), PVs K W ds vs → PVs K W (ds.eraseIdx i) (vs.eraseIdx i)
  | _, _, _, .nil => .nil
  | _, _, 0, .cons _ r => r
  | _, _, i + 1, .cons h r => .cons h (PVs.eraseIdx i r)
theorem cell_lst {W : Wd} {F H : Hp} {δ : List Sl} {S : Sto} {σ : St} {i : Nat} {v : V} {xs : List D} (rel : Rel g.K g.mg W F δ S σ H) (hx : VV g.K W σ (.ref i) v) (e : S.c i = some (.lst xs)) : ∃ a vs, v = .ref a ∧ W.m i = some a ∧ W.B a = none ∧ H a = some (.lst vs) ∧ PVs g.K W xs vs := by
  obtain ⟨a, e1, ⟨vs, e2, e3⟩, e4⟩ := rel.cell i _ e
  cases hx.pv rfl with
  | ref q => rw [e1] at q; cases q; exact ⟨_, vs, rfl, e1, e4, e2, e3⟩
theorem cell_dic {W : Wd} {F H : Hp} {δ : List Sl} {S : Sto} {σ : St} {i : Nat} {v : V} {xs : List (Key × D)} (rel : Rel g.K g.mg W F δ S σ H) (hx : VV g.K W σ (.ref i) v) (e : S.c i = some (.dic xs)) : ∃ a vs, v = .ref a ∧ W.m i = some a ∧ W.B a = none ∧ H a = some (.dK vs) ∧ PVk g.K W xs vs := by
  obtain ⟨a, e1, ⟨vs, e2, e3⟩, e4⟩ := rel.cell i _ e
  cases hx.pv rfl with
  | ref q => rw [e1] at q; cases q; exact ⟨_, vs, rfl, e1, e4, e2, e3⟩
theorem m_pop : MthD g k "pop" "list" hPop := by
  refine ⟨⟨"list.pop", rPop, ⟨PySem.F.plainAttrs_list, PySem.F.slot_list_pop, PySem.F.type_list_pop⟩, .inl rfl, fun X N sc cx => mt_pop, fun W F δ S σ H x vx xs vxs Q z S' rel hx hxs eh q => ?_⟩⟩
  unfold hPop at eh
  split at eh
  · rename_i i
    split at eh
    · rename_i ys ec
      obtain ⟨y, ey, e2⟩ := Option.map_eq_some_iff.mp eh
      cases e2
      obtain ⟨a, vs, rfl, hm, hb, ha, hp⟩ := cell_lst rel hx ec
      cases hxs
      obtain ⟨w, ew, pw⟩ := hp.get ey
      exact ⟨a, vs, w, rfl, rfl, ha, by rw [hp.length]; exact ew, q W w _ (.refl _) (rel.setCell hm hb ⟨_, upd_same, hp.dropLast⟩) pw⟩
    · cases eh
  · cases eh
/-- list.pop(i) -/
def hPopAt : HM := fun _ S x ds => match x, ds with
  | .ref i, [.int j] => match S.c i with
    | some (.lst xs) => if -(2 ^ 63) ≤ j ∧ j < 2 ^ 63 then (seqIndex? j xs.length).bind fun n => (xs[n]?).map fun y => (y, S.set i (some (.lst (xs.eraseIdx n)))) else none
    | _ => none
  | _, _ => none
theorem m_popAt : MthD g k "pop" "list" hPopAt := by
  refine ⟨⟨"list.pop", rPopAt, ⟨PySem.F.plainAttrs_list, PySem.F.slot_list_pop, PySem.F.type_list_pop⟩, .inl rfl, fun X N sc cx => mt_popAt, fun W F δ S σ H x vx xs vxs Q z S' rel hx hxs eh q => ?_⟩⟩
  unfold hPopAt at eh
  split at eh
  · rename_i i j
    split at eh
    · rename_i ys ec
      split at eh
      · rename_i hj
        obtain ⟨n, en, eh⟩ := Option.bind_eq_some_iff.mp eh
        obtain ⟨y, ey, e2⟩ := Option.map_eq_some_iff.mp eh
        cases e2
        obtain ⟨a, vs, rfl, hm, hb, ha, hp⟩ := cell_lst rel hx ec
        obtain ⟨v1, rfl, h1⟩ := hxs.one
        cases h1.pv rfl
        obtain ⟨w, ew, pw⟩ := hp.get ey
        exact ⟨a, vs, j, n, w, rfl, rfl, ha, hj.1, hj.2, by rw [hp.length]; exact en, ew, q W w _ (.refl _) (rel.setCell hm hb ⟨_, upd_same, hp.eraseIdx n⟩) pw⟩
      · cases eh
    · cases eh
  · cases eh
/-- dict.pop(k), there -/
def hDPop : HM := fun _ S x ds => match x, ds with
  | .ref i, [y] => match S.c i with
    | some (.dic kvs) => (keyOf y).bind fun k => (valD kvs k).map fun z => (z, S.set i (some (.dic (dropD kvs k))))
    | _ => none
  | _, _ => none
def rDPop : V → List V → Hp → VK → Prop := fun x xs H Q => ∃ a kvs k v, x = .ref a ∧ xs = [kV k] ∧ H a = some (.dK kvs) ∧ valV kvs k = some v ∧ Q v (upd H a (.dK (dropK kvs k)))
theorem mt_dpop {X : Cx} : MtR X "dict.pop" rDPop := by
  intro pins s σ H x xs v us Q I rx rs ⟨a, kvs, k, w, e1, e2, ha, hv, q⟩
  subst e1 e2
  cases rx
  obtain ⟨u, rfl, ru⟩ := rs.one
  exact d_pop I ha ru hv (.inl rfl) fun w' s3 I3 rw' => ⟨w, _, I3, rw', q⟩
theorem m_dpop : MthD g k "pop" "dict" hDPop := by
  refine ⟨⟨"dict.pop", rDPop, ⟨PySem.F.plainAttrs_dict, PySem.F.slot_dict_pop, PySem.F.type_dict_pop⟩, .inr (.inl rfl), fun X N sc cx => mt_dpop, fun W F δ S σ H x vx xs vxs Q z S' rel hx hxs eh q => ?_⟩⟩
  unfold hDPop at eh
  split at eh
  · rename_i i y
    split at eh
    · rename_i kvs ec
      obtain ⟨k, ek, eh⟩ := Option.bind_eq_some_iff.mp eh
      obtain ⟨z', ez, e2⟩ := Option.map_eq_some_iff.mp eh
      cases e2
      obtain ⟨a, vs, rfl, hm, hb, ha, hp⟩ := cell_dic rel hx ec
      obtain ⟨v1, rfl, h1⟩ := hxs.one
      have := keyOf_ok h1 ek
      subst this
      obtain ⟨w, ew, pw⟩ := (hp.val k).1 _ ez
      exact ⟨a, vs, k, w, rfl, rfl, ha, ew, q W w _ (.refl _) (rel.setCell hm hb ⟨_, upd_same, hp.drop k⟩) pw⟩
    · cases eh
  · cases eh
/-- dict.get(k), get(k, x) -/
def hGet : HM := fun δ S x ds => match dicOf δ S x, ds with
  | some kvs, [y] => (keyOf y).map fun k => ((valD kvs k).getD .non, S)
  | some kvs, [y, z] => if z.isOwn = true then none else (keyOf y).map fun k => ((valD kvs k).getD z, S)
  | _, _ => none
def rDGet1 : V → List V → Hp → VK → Prop := fun x xs H Q => (∃ a y o, x = .ref a ∧ xs = [y] ∧ DGet H a y o ∧ Q (o.getD .non) H) ∨ ∃ a y z o, x = .ref a ∧ xs = [y, z] ∧ DGet H a y o ∧ Q (o.getD z) H
theorem mt_dget {X : Cx} {k : Nat} (hr : L2H.RoomH k X.A) : MtR X "dict.get" rDGet1 := by
  intro pins s σ H x xs v us Q I rx rs h
  rcases h with ⟨a, y, o, e1, e2, hg, q⟩ | ⟨a, y, z, o, e1, e2, hg, q⟩
  · subst e1 e2
    cases rx
    obtain ⟨u, rfl, ru⟩ := rs.one
    exact d_get1 (hu_ofH hr) I hg ru fun w' s3 I3 rw' => ⟨_, H, I3, rw', q⟩
  · subst e1 e2
    cases rx
    obtain ⟨u, u2, rfl, ru, ru2⟩ := rs.two
    exact d_get2 (hu_ofH hr) I hg ru ru2 fun w' s3 I3 rw' => ⟨_, H, I3, rw', q⟩
theorem m_get : MthD g k "get" "dict" hGet := by
  refine ⟨⟨"dict.get", rDGet1, ⟨PySem.F.plainAttrs_dict, PySem.F.slot_dict_get, PySem.F.type_dict_get⟩, .inr (.inl rfl), fun X N sc cx => mt_dget cx.room, fun W F δ S σ H x vx xs vxs Q z S' rel hx hxs eh q => ?_⟩⟩
  unfold hGet at eh
  split at eh
  · rename_i kvs y e1
    obtain ⟨k, ek, e2⟩ := Option.map_eq_some_iff.mp eh
    cases e2
    obtain ⟨a, ls, rfl, ha, hp⟩ := dicOf_ok rel hx e1
    obtain ⟨v1, rfl, h1⟩ := hxs.one
    have := keyOf_ok h1 ek
    subst this
    refine .inl ⟨a, kV k, _, rfl, rfl, DGet.k ha, ?_⟩
    cases ev : valD kvs k with
    | some z =>
      rw [ev] at q
      obtain ⟨w, ew, pw⟩ := (hp.val k).1 _ ev
      rw [ew]
      exact q W w H (.refl _) rel pw
    | none =>
      rw [ev] at q
      rw [(hp.val k).2 ev]
      exact q W _ H (.refl _) rel .non
  · rename_i kvs y z e1
    split at eh
    · cases eh
    · rename_i ho
      obtain ⟨k, ek, e2⟩ := Option.map_eq_some_iff.mp eh
      cases e2
      obtain ⟨a, ls, rfl, ha, hp⟩ := dicOf_ok rel hx e1
      obtain ⟨v1, v2, rfl, h1, h2⟩ := hxs.two
      have := keyOf_ok h1 ek
      subst this
      refine .inr ⟨a, kV k, v2, _, rfl, rfl, DGet.k ha, ?_⟩
      cases ev : valD kvs k with
      | some z =>
        rw [ev] at q
        obtain ⟨w, ew, pw⟩ := (hp.val k).1 _ ev
        rw [ew]
        exact q W w H (.refl _) rel pw
      | none =>
        rw [ev] at q
        rw [(hp.val k).2 ev]
        exact q W _ H (.refl _) rel (h2.pv (by simpa using ho))
  · cases eh
/-- list.count(x) -/
def hCount : HM := fun δ S x ds => match seqOf δ S x, ds with
  | some (false, xs), [y] => if (okD 60 y && xs.all (okD 60)) = true then some (.int ((xs.countP fun z => eqD z y : Nat) : Int), S) else none
  | _, _ => none
def rCountP (K : PySem.W.Frag) : V → List V → Hp → VK → Prop := fun x xs H Q => ∃ a vs y d es, x = .ref a ∧ xs = [y] ∧ SqL K H a vs ∧ DpAll K H vs es ∧ Dp K H y d ∧ PyData.plainAll es = true ∧ d.plain = true ∧ d.depth ≤ 60 ∧ Q (.int ((es.countP fun y => PyData.eqv y d : Nat) : Int)) H
theorem mt_countP {X : Cx} {k : Nat} (hr : L2H.RoomH k X.A) : MtR X "list.count" (rCountP X.K) := by
  intro pins s σ H x xs v us Q I rx rs ⟨a, vs, y, d, es, e1, e2, h0, h1, h2, h3, h4, h5, q⟩
  subst e1 e2
  cases rx
  obtain ⟨u, rfl, ru⟩ := rs.one
  obtain ⟨bs, r1⟩ := Dp.reads I d y u h2 ru
  obtain ⟨its, rv, pl, hz⟩ := I.list h0
  obtain ⟨cs, r2⟩ := Dp.reads I (.list es) (.ref a) (.ref a) (.lst h0 h1) rfl
  have hu : X.A.units + 1 + min (PyData.depthAll es) d.depth < cLine := by have := hr.un; have := Nat.min_le_right (PyData.depthAll es) d.depth; omega
  cases r2 with
  | @list l o vs' n' xs' as' k1 k2 k3 k4 =>
    exact PySem.SeqAt.count_list_data ⟨_, k1, k2, _, k3⟩ k4 r1 h3 h4 hu ⟨.int _, H, I.tok _, ⟨_, rfl⟩, q⟩
theorem toPys_count {n : Nat} {x : D} (hx : okD n x = true) : ∀ {ds : List D}, ds.all (okD n) = true → ((toPys ds).countP fun y => PyData.eqv y (toPy x)) = ds.countP fun y => eqD y x
  | [], _ => rfl
  | d :: ds, h => by
    show (toPy d :: toPys ds).countP _ = _
    rw [List.countP_cons, List.countP_cons, toPys_count hx (all_cons h).2, eqv_D n d x (all_cons h).1 hx]
theorem m_count : MthD g k "count" "list" hCount := by
  refine ⟨⟨"list.count", rCountP g.K, ⟨PySem.F.plainAttrs_list, PySem.F.slot_list_count, PySem.F.type_list_count⟩, .inl rfl, fun X N sc cx => by rw [← cx.hK]; exact mt_countP cx.room, fun W F δ S σ H x vx xs vxs Q z S' rel hx hxs eh q => ?_⟩⟩
  unfold hCount at eh
  split at eh
  · rename_i ys y e1
    split at eh
    · rename_i hc
      cases eh
      obtain ⟨c1, c2⟩ := Bool.and_eq_true_iff.mp hc
      obtain ⟨a, vs, rfl, hp, _, hl⟩ := seqOf_ok rel hx e1
      obtain ⟨v1, rfl, h1⟩ := hxs.one
      have ho : y.isOwn = false := by cases y <;> first | rfl | cases c1
      exact ⟨a, vs, v1, toPy y, toPys ys, rfl, rfl, hl rfl, dps_of rel.pers 60 ys vs c2 hp, dp_of rel.pers 60 y v1 c1 (h1.pv ho), toPys_plain _, toPy_plain _, toPy_depth _ _ c1, by rw [toPys_count c1 c2]; exact q W _ H (.refl _) rel (.int _)⟩
    · cases eh
  · cases eh
/-- list.index(x), flat items -/
def flatD : D → Bool
  | .non => true
  | .bl _ => true
  | .int _ => true
  | .str _ => true
  | _ => false
def hIndex : HM := fun δ S x ds => match seqOf δ S x, ds with
  | some (false, xs), [y] => if (flatD y && xs.all flatD) = true then (xs.findIdx? fun z => eqD z y).map fun (j : Nat) => (.int (j : Int), S) else none
  | _, _ => none
theorem flat_rel {K : PySem.W.Frag} {W : Wd} {x : D} {v : V} (h : PV K W x v) (f : flatD x = true) : flatV v = true := by
  cases h <;> first | rfl | cases f
theorem flat_eq {K : PySem.W.Frag} {W : Wd} {x y : D} {v w : V} (h : PV K W x v) (h' : PV K W y w) (f : flatD x = true) (f' : flatD y = true) : eqV v w = eqD x y := by
  cases h <;> first | exact Bool.noConfusion (show false = true from f) | (cases h' <;> first | exact Bool.noConfusion (show false = true from f') | rfl)
theorem PVs.getV {K : PySem.W.Frag} {W : Wd} : ∀ {ds : List D} {vs : List V} {i : Nat} {y : V}, PVs K W ds vs → vs[i]? = some y → ∃ x, ds[i]? = some x ∧ PV K W x y
  | _, _, _, _, .nil, e => by simp at e
  | _, _, 0, _, .cons h r, e => by simp at e; subst e; exact ⟨_, rfl, h⟩
  | _, _, i + 1, x, .cons h r, e => by
    obtain ⟨y, h1, h2⟩ := PVs.getV (i := i) (y := x) r (by simpa using e)
    exact ⟨y, by simpa using h1, h2⟩
theorem m_index : MthD g k "index" "list" hIndex := by
  refine ⟨⟨"list.index", rIndex g.K, ⟨PySem.F.plainAttrs_list, PySem.F.slot_list_index, PySem.F.type_list_index⟩, .inl rfl, fun X N sc cx => by rw [← cx.hK]; exact mt_index, fun W F δ S σ H x vx xs vxs Q z S' rel hx hxs eh q => ?_⟩⟩
  unfold hIndex at eh
  split at eh
  · rename_i ys y e1
    split at eh
    · rename_i hc
      obtain ⟨j, ej, e2⟩ := Option.map_eq_some_iff.mp eh
      cases e2
      obtain ⟨c1, c2⟩ := Bool.and_eq_true_iff.mp hc
      obtain ⟨a, vs, rfl, hp, _, hl⟩ := seqOf_ok rel hx e1
      obtain ⟨v1, rfl, h1⟩ := hxs.one
      have ho : y.isOwn = false := by cases y <;> first | rfl | cases c1
      have p1 := h1.pv ho
      obtain ⟨g1, g2, g3⟩ := List.findIdx?_eq_some_iff_getElem.mp ej
      obtain ⟨w, ew, pw⟩ := hp.get (List.getElem?_eq_getElem g1)
      have fl : ∀ z ∈ ys, flatD z = true := List.all_eq_true.mp c2
      refine ⟨a, vs, v1, j, w, rfl, rfl, hl rfl, flat_rel p1 c1, List.all_eq_true.mpr fun v hv => ?_, ew, ?_, fun m z' hm hz => ?_, q W _ H (.refl _) rel (.int _)⟩
      · obtain ⟨i, ei⟩ := List.getElem?_of_mem hv
        obtain ⟨x', ex, px⟩ := hp.getV ei
        exact flat_rel px (fl _ (List.mem_of_getElem? ex))
      · rw [flat_eq pw p1 (fl _ (List.getElem_mem g1)) c1]; exact g2
      · obtain ⟨x', ex, px⟩ := hp.getV hz
        rw [flat_eq px p1 (fl _ (List.mem_of_getElem? ex)) c1]
        obtain ⟨g4, e4⟩ := List.getElem?_eq_some_iff.mp ex
        have := g3 m hm
        rw [e4] at this
        simpa using this
    · cases eh
  · cases eh
/-- str.join, str.split -/
def strsOf : List D → Option (List Str)
  | [] => some []
  | .str i :: r => (strsOf r).map fun l => i :: l
  | _ => none
theorem strsOf_pv {K : PySem.W.Frag} {W : Wd} : ∀ {ds : List D} {vs : List V} {ns : List Str}, PVs K W ds vs → strsOf ds = some ns → vs = ns.map V.str
  | _, _, _, .nil, e => by cases e; rfl
  | .str i :: ds, _, _, .cons h r, e => by
    obtain ⟨l, e1, e2⟩ := Option.map_eq_some_iff.mp e
    subst e2
    have h1 := strsOf_pv r e1
    cases h
    rw [h1]; rfl
theorem strs_pv {K : PySem.W.Frag} {W : Wd} : ∀ ns : List Str, PVs K W (ns.map D.str) (ns.map V.str)
  | [] => .nil
  | i :: r => .cons (.str i) (strs_pv r)
def slOf (δ : List Sl) (S : Sto) (x : D) : Option (List Str) := match seqOf δ S x with
  | some (_, ds) => strsOf ds
  | _ => none
def hJoin : HM := fun δ S x ds => match x, ds with
  | .str a, [y] => (slOf δ S y).bind fun ys => if (ys.map (·.length)).sum + ys.length * a.length ≤ 16777216 then some (.str (Txt.join a ys), S) else none
  | _, _ => none
theorem m_join : MthD g k "join" "str" hJoin := by
  refine ⟨⟨"str.join", fun x xs H Q => ∃ a p, ∃ ys : List Str, x = .str a ∧ xs = [.ref p] ∧ (SqL g.K H p (ys.map V.str) ∨ SqT g.K H p (ys.map V.str)) ∧
    (ys.map (·.length)).sum + ys.length * a.length ≤ 16777216 ∧ Q (.str (Txt.join a ys)) H, ⟨PySem.F.plainAttrs_str, PySem.F.slot_str_join, PySem.F.type_str_join⟩, .inr (.inr rfl), fun X N sc cx => by rw [← cx.hK]; exact mt_join, fun W F δ S σ H x vx xs vxs Q z S' rel hx hxs eh q => ?_⟩⟩
  unfold hJoin at eh
  split at eh
  · rename_i a y
    obtain ⟨ys, ey, eh⟩ := Option.bind_eq_some_iff.mp eh
    split at eh
    · rename_i hl
      cases eh
      cases hx.pv rfl
      obtain ⟨v1, rfl, h1⟩ := hxs.one
      unfold slOf at ey
      split at ey
      · rename_i b ds e1
        obtain ⟨p, vs, rfl, hp, ht, hll⟩ := seqOf_ok rel h1 e1
        have e2 := strsOf_pv hp ey
        subst e2
        refine ⟨_, p, ys, rfl, rfl, ?_, hl, q W _ H (.refl _) rel (.str _)⟩
        cases b with
        | true => exact .inr (ht rfl)
        | false => exact .inl (hll rfl)
      · cases ey
    · cases eh
  · cases eh
def hSplit : HM := fun δ S x ds => match x, ds with
  | .str a, [.str b] => if (b.length == 0) = false ∧ a.length + 2 ≤ 16777216 then some (.lst ((Txt.split a b).map D.str), S) else none
  | _, _ => none
theorem m_split : MthD g k "split" "str" hSplit := by
  refine ⟨⟨"str.split", fun x xs H Q => ∃ a b, x = .str a ∧ xs = [.str b] ∧ (b.length == 0) = false ∧ a.length + 2 ≤ sizeLine ∧ rNewStrs (Txt.split a b) H Q, ⟨PySem.F.plainAttrs_str, PySem.F.slot_str_split, PySem.F.type_str_split⟩, .inr (.inr rfl), fun X N sc cx => mt_split, fun W F δ S σ H x vx xs vxs Q z S' rel hx hxs eh q => ?_⟩⟩
  unfold hSplit at eh
  split at eh
  · rename_i a b
    split at eh
    · rename_i hl
      cases eh
      cases hx.pv rfl
      obtain ⟨v1, rfl, h1⟩ := hxs.one
      cases h1.pv rfl
      exact ⟨_, _, rfl, rfl, hl.1, by rw [sizeLine_eq]; exact hl.2, new_lst (W0 := W) rel (strs_pv _) q⟩
    · cases eh
  · cases eh
end DM


end
section
set_option Elab.async false
set_option linter.all false
set_option maxRecDepth 100000
set_option autoImplicit false
namespace DM
open PySem PySem.Spec L2
variable {g : GE} {k : Nat} {N : List Str} {sc : Scope} {a b c e o : Expr} {es : List Expr} {ma mb mc mo mi : DM D} {mr : DM (List D)} {pos pos' apos tpos : Pos}

/-! ### what may be changed in place -/
def mutL (δ : List Sl) (S : Sto) : D → Option (List D)
  | .own k => match δ[k]? with
    | some (.ol ds) => some ds
    | _ => none
  | .ref i => match S.c i with
    | some (.lst ds) => some ds
    | _ => none
  | _ => none
def updL (δ : List Sl) (S : Sto) (x : D) (ys : List D) : List Sl × Sto := match x with
  | .own k => (δ.set k (.ol ys), S)
  | .ref i => (δ, S.set i (some (.lst ys)))
  | _ => (δ, S)
def mutD (δ : List Sl) (S : Sto) : D → Option (List (Key × D))
  | .own k => match δ[k]? with
    | some (.od ds) => some ds
    | _ => none
  | .ref i => match S.c i with
    | some (.dic ds) => some ds
    | _ => none
  | _ => none
def updD (δ : List Sl) (S : Sto) (x : D) (ys : List (Key × D)) : List Sl × Sto := match x with
  | .own k => (δ.set k (.od ys), S)
  | .ref i => (δ, S.set i (some (.dic ys)))
  | _ => (δ, S)
section
variable {W : Wd} {F H : Hp} {δ : List Sl} {S : Sto} {σ : St} {x : D} {v : V}
theorem mutL_ok {ds : List D} (rel : Rel g.K g.mg W F δ S σ H) (hx : VV g.K W σ x v) (e : mutL δ S x = some ds) : ∃ a vs, v = .ref a ∧ H a = some (.lst vs) ∧ PVs g.K W ds vs ∧
    ∀ ys ws, PVs g.K W ys ws → Rel g.K g.mg W F (updL δ S x ys).1 (updL δ S x ys).2 σ (upd H a (.lst ws)) := by
  unfold mutL at e
  split at e
  · rename_i k
    split at e
    · rename_i ds' es
      cases e
      rcases hx with hx | ⟨k', e1, e2⟩
      · cases hx
      · cases e1
        obtain ⟨a, vs, e3, ha, hp, w⟩ := rel.slot k _ _ es e2
        cases e3
        exact ⟨a, vs, rfl, ha, hp, fun ys ws q => rel.own (s' := .ol ys) es rfl rfl e2 w ⟨a, ws, rfl, upd_same, q, w⟩⟩
    · cases e
  · rename_i i
    split at e
    · rename_i ds' ec
      cases e
      obtain ⟨a, vs, rfl, hm, hb, ha, hp⟩ := cell_lst rel hx ec
      exact ⟨a, vs, rfl, ha, hp, fun ys ws q => rel.setCell hm hb ⟨ws, upd_same, q⟩⟩
    · cases e
  · cases e
theorem mutD_ok {ds : List (Key × D)} (rel : Rel g.K g.mg W F δ S σ H) (hx : VV g.K W σ x v) (e : mutD δ S x = some ds) : ∃ a vs, v = .ref a ∧ H a = some (.dK vs) ∧ PVk g.K W ds vs ∧
    ∀ ys ws, PVk g.K W ys ws → Rel g.K g.mg W F (updD δ S x ys).1 (updD δ S x ys).2 σ (upd H a (.dK ws)) := by
  unfold mutD at e
  split at e
  · rename_i k
    split at e
    · rename_i ds' es
      cases e
      rcases hx with hx | ⟨k', e1, e2⟩
      · cases hx
      · cases e1
        obtain ⟨a, vs, e3, ha, hp, w⟩ := rel.slot k _ _ es e2
        cases e3
        exact ⟨a, vs, rfl, ha, hp, fun ys ws q => rel.own (s' := .od ys) es rfl rfl e2 w ⟨a, ws, rfl, upd_same, q, w⟩⟩
    · cases e
  · rename_i i
    split at e
    · rename_i ds' ec
      cases e
      obtain ⟨a, vs, rfl, hm, hb, ha, hp⟩ := cell_dic rel hx ec
      exact ⟨a, vs, rfl, ha, hp, fun ys ws q => rel.setCell hm hb ⟨ws, upd_same, q⟩⟩
    · cases e
  · cases e
end

/-! ### x.m(..); -/
abbrev HX := List Sl → Sto → D → List D → Option (List Sl × Sto)
structure MutM (g : GE) (k : Nat) (nm T : String) (h : HX) : Prop where
  ex : ∃ (id : String) (r : V → List V → Hp → VK → Prop), BmF T nm id ∧ (T = "list" ∨ T = "dict" ∨ T = "str") ∧ (∀ X N sc, CtxOk g N sc k X → MtR X id r) ∧
    ∀ W F δ S σ H x vx xs vxs Q p, Rel g.K g.mg W F δ S σ H → VV g.K W σ x vx → VVs g.K W σ xs vxs → h δ S x xs = some p → (∀ H', Rel g.K g.mg W F p.1 p.2 σ H' → Q .non H') → r vx vxs H Q
def sMut (T : String) (h : HX) (o : DM D) (m : DM (List D)) : DS := sBind o fun x => fun δ S => if tyD δ S x = some T then sBind m (fun ds δ S => match h δ S x ds with
  | some p => .nx p.1 p.2
  | none => .stuck) δ S else .stuck
theorem s_mut {name : Str} {nm T : String} {h : HX} (hn : name = Str.ofString nm) (f1 : MutM g k nm T h) (ho : EOk g N sc k o mo) (ha : AOk g N sc k es mr) (hb : plainRecv o = true) (hl : (apos.endLine == pos.line) = true) (hs : es.all notStar = true) (hlen : es.length < 29) :
    SOk g N sc k (.Expr (.Call (.Attribute o name apos) es [] pos) pos') (sMut T h mo mr) := by
  obtain ⟨to, po, ro⟩ := ho.ex
  obtain ⟨t, pt, rt⟩ := ha.ex
  obtain ⟨id1, r1, b1, c1, m1, q1⟩ := f1.ex
  refine ⟨⟨fun E => tDrop (tBM2 g.K T T r1 r1 (to E) (t E)), fun X E cx tk => ps_expr (by rw [← cx.hK]; exact pe_bm2 hn b1 b1 (m1 X _ _ cx.toCtxOk) (m1 X _ _ cx.toCtxOk) (po X E cx.toCtxOk tk) (pt X E cx.toCtxOk tk) hb hl hs hlen) (swap_of rfl _ _ _), fun E W F δ S σ H Dn rel post => ?_⟩⟩
  refine ro E W F δ S σ H _ rel (postS_bind post fun x S1 W1 v H1 _ l1 rel1 hx post1 => ?_)
  try dsimp only at post1
  split at post1
  · rename_i ty
    refine .inl ⟨tyV_of rel1 hx ty c1, rt E W1 F δ S1 σ H1 _ rel1 (postS_bind post1 fun ds S2 W2 vs H2 _ l2 rel2 hxs post2 => ?_)⟩
    try dsimp only at post2
    cases eh : h δ S2 x ds with
    | none => rw [eh] at post2; exact post2.elim
    | some p =>
      rw [eh] at post2
      exact q1 W2 F δ S2 σ H2 x v ds vs _ p rel2 (hx.mono l2) hxs eh fun H' r => post2 W2 σ H' (.refl _) r
  · exact post1.elim
def hAppend : HX := fun δ S x ds => match mutL δ S x, ds with
  | some xs, [y] => if (!y.isOwn && decide (xs.length < 16777216)) = true then some (updL δ S x (xs ++ [y])) else none
  | _, _ => none
theorem mu_append : MutM g k "append" "list" hAppend := by
  refine ⟨⟨"list.append", rAppend, ⟨PySem.F.plainAttrs_list, PySem.F.slot_list_append, PySem.F.type_list_append⟩, .inl rfl, fun X N sc cx => mt_append, fun W F δ S σ H x vx xs vxs Q p rel hx hxs eh q => ?_⟩⟩
  unfold hAppend at eh
  split at eh
  · rename_i ds y ed
    split at eh
    · rename_i hc
      cases eh
      obtain ⟨c1, c2⟩ := Bool.and_eq_true_iff.mp hc
      obtain ⟨a, vs, rfl, ha, hp, up⟩ := mutL_ok rel hx ed
      obtain ⟨w, rfl, hw⟩ := hxs.one
      refine ⟨a, vs, w, rfl, rfl, ha, by rw [hp.length, sizeLine_eq]; exact of_decide_eq_true c2, q _ (up _ _ (hp.append (.cons (hw.pv (by simpa using c1)) .nil)))⟩
    · cases eh
  · cases eh
def hExtend : HX := fun δ S x ds => match mutL δ S x, ds with
  | some xs, [y] => match lstOf δ S y with
    | some ys => if decide (xs.length + ys.length ≤ 16777216) = true then some (updL δ S x (xs ++ ys)) else none
    | none => none
  | _, _ => none
theorem mu_extend : MutM g k "extend" "list" hExtend := by
  refine ⟨⟨"list.extend", rExtend, ⟨PySem.F.plainAttrs_list, PySem.F.slot_list_extend, PySem.F.type_list_extend⟩, .inl rfl, fun X N sc cx => mt_extend, fun W F δ S σ H x vx xs vxs Q p rel hx hxs eh q => ?_⟩⟩
  unfold hExtend at eh
  split at eh
  · rename_i ds y ed
    split at eh
    · rename_i ys ey
      split at eh
      · rename_i hc
        cases eh
        obtain ⟨a, vs, rfl, ha, hp, up⟩ := mutL_ok rel hx ed
        obtain ⟨w, rfl, hw⟩ := hxs.one
        obtain ⟨b, ws, rfl, hb, hpb⟩ := lstOf_ok rel hw ey
        exact ⟨a, b, vs, ws, rfl, rfl, ha, hb, by rw [hp.length, hpb.length, sizeLine_eq]; exact of_decide_eq_true hc, q _ (up _ _ (hp.append hpb))⟩
      · cases eh
    · cases eh
  · cases eh
theorem PVs.reverse {K : PySem.W.Frag} {W : Wd} : ∀ {ds : List D} {vs : List V}, PVs K W ds vs → PVs K W ds.reverse vs.reverse
  | _, _, .nil => .nil
  | _, _, .cons h r => by
    rw [List.reverse_cons, List.reverse_cons]
    exact (PVs.reverse r).append (.cons h .nil)
def hReverse : HX := fun δ S x ds => match mutL δ S x, ds with
  | some xs, [] => some (updL δ S x xs.reverse)
  | _, _ => none
theorem mu_reverse : MutM g k "reverse" "list" hReverse := by
  refine ⟨⟨"list.reverse", rReverse, ⟨PySem.F.plainAttrs_list, PySem.F.slot_list_reverse, PySem.F.type_list_reverse⟩, .inl rfl, fun X N sc cx => mt_reverse, fun W F δ S σ H x vx xs vxs Q p rel hx hxs eh q => ?_⟩⟩
  unfold hReverse at eh
  split at eh
  · rename_i ds ed
    cases eh
    obtain ⟨a, vs, rfl, ha, hp, up⟩ := mutL_ok rel hx ed
    cases hxs
    exact ⟨a, vs, rfl, rfl, ha, q _ (up _ _ hp.reverse)⟩
  · cases eh

/-! ### o.f = e -/
def putA (f : Str) (y : D) : List (Str × D) → List (Str × D)
  | [] => [(f, y)]
  | (x, d) :: r => if x = f then (f, y) :: r else (x, d) :: putA f y r
theorem putF_cons {f x : Str} {y v : V} {r : List (Str × V)} : putF f y ((x, v) :: r) = if x = f then (f, y) :: r else (x, v) :: putF f y r := by
  first
    | rfl
    | (unfold putF; simp only [beq_iff_eq]; rfl)
    | (by_cases h : x = f <;> simp [putF, h])
theorem PVf.put {K : PySem.W.Frag} {W : Wd} {f : Str} {y : D} {w : V} (p : PV K W y w) : ∀ {fs : List (Str × D)} {ls : List (Str × V)}, PVf K W fs ls → PVf K W (putA f y fs) (putF f w ls)
  | _, _, .nil => .cons p .nil
  | (x, d) :: r, (_, v) :: s, .cons h q => by
    rw [putF_cons]
    unfold putA
    split
    · exact .cons p q
    · exact .cons h (PVf.put p q)
theorem swap_attr (e o : Expr) (f : Str) (p : Pos) (l : Nat) (env : Env) : swapsWith e (some (.Attribute o f p)) l env = pure false := by cases e <;> rfl
def sFldD (C f : Str) (o v : DM D) : DS := sBind v fun y => sBind o fun x δ S => match x with
  | .ref i => match S.c i with
    | some (.obj C' fs) => if (decide (C' = C) && !y.isOwn && decide (fs.length < 1000)) = true then .nx δ (S.set i (some (.obj C (putA f y fs)))) else .stuck
    | _ => .stuck
  | _ => .stuck
theorem s_fld {C f : Str} (h : AttrAt g C f) (ho : EOk g N sc k o mo) (he : EOk g N sc k e ma) : SOk g N sc k (.Assign [.Attribute o f pos'] e pos) (sFldD C f mo ma) := by
  obtain ⟨Ca, hC, hc, hnn⟩ := h.ex
  obtain ⟨to, po, ro⟩ := ho.ex
  obtain ⟨t, p, r⟩ := he.ex
  refine ⟨⟨fun E => sFld g.K (to E) (t E) f, fun X E cx tk => by rw [← cx.hK]; exact ps_fld (po X E cx.toCtxOk tk) (p X E cx.toCtxOk tk) (swap_attr _ _ _ _ _ _), fun E W F δ S σ H Dn rel post => ?_⟩⟩
  refine r E W F δ S σ H _ rel (postS_bind post fun y S1 W1 v H1 eC l1 rel1 hy post1 => ?_)
  refine ro E W1 F δ S1 σ H1 _ rel1 (postS_bind post1 fun x S2 W2 u H2 eA l2 rel2 hx post2 => ?_)
  try dsimp only at post2
  split at post2
  · rename_i i
    split at post2
    · rename_i C' fs ec
      split at post2
      · rename_i hcc
        obtain ⟨c12, c3⟩ := Bool.and_eq_true_iff.mp hcc
        obtain ⟨c1, c2⟩ := Bool.and_eq_true_iff.mp c12
        have := of_decide_eq_true c1
        subst this
        obtain ⟨a, e1, ⟨Ca', dx, ls, e2, e3, pf⟩, hb⟩ := rel2.cell i _ ec
        rw [hC] at e2; cases e2
        cases hx.pv rfl with
        | ref e4 =>
          rw [e1] at e4; cases e4
          have hy' := (hy.mono l2).pv (by simpa using c2)
          exact ⟨_, Ca, dx, ls, rfl, e3, hc, hnn, by rw [pf.length]; exact of_decide_eq_true c3, post2 W2 σ _ (.refl _) (rel2.setCell e1 hb ⟨Ca, dx, _, hC, upd_same, pf.put hy'⟩)⟩
      · exact post2.elim
    · exact post2.elim
  · exact post2.elim

/-! ### o[i] = e -/
def rSetD : V → V → V → Hp → (Hp → Prop) → Prop := fun o i v H Q => ∃ a H', o = .ref a ∧ DPut H a i v H' ∧ Q H'
theorem set_dict {X : Cx} {k : Nat} (hr : L2H.RoomH k X.A) : PSet X rSetD := by
  intro pins s σ H o i v ov iv u Q I ro ri rv ⟨a, H', e, g, q⟩
  subst e
  cases ro
  exact d_setItem (hu_ofH hr) I g ri rv fun s' I' => ⟨H', I', q⟩
def putIx (δ : List Sl) (S : Sto) (x i y : D) : Option (List Sl × Sto) := if y.isOwn = true then none else match mutL δ S x with
  | some ds => match i with
    | .int j => (ixN ds.length j).map fun n => updL δ S x (ds.set n y)
    | _ => none
  | none => match mutD δ S x with
    | some kvs => if decide (kvs.length < 16777216) = true then (keyOf i).map fun k => updD δ S x (putD kvs k y) else none
    | none => none
def sPutIx (o i v : DM D) : DS := sBind v fun y => sBind o fun x => sBind i fun j δ S => match putIx δ S x j y with
  | some p => .nx p.1 p.2
  | none => .stuck
theorem s_putix (ho : EOk g N sc k o mo) (hi : EOk g N sc k b mi) (he : EOk g N sc k e ma) (hp : plainIx b = true) : SOk g N sc k (.Assign [.Subscript o b pos'] e pos) (sPutIx mo mi ma) := by
  obtain ⟨to, po, ro⟩ := ho.ex
  obtain ⟨ti, pi, ri⟩ := hi.ex
  obtain ⟨t, p, r⟩ := he.ex
  refine ⟨⟨fun E => tAsg (t E) (gSub (to E) (ti E) fun o i v H Q => rSetL o i v H Q ∨ rSetD o i v H Q), fun X E cx tk => ps_asg (p X E cx.toCtxOk tk) (pg_sub (po X E cx.toCtxOk tk) (pi X E cx.toCtxOk tk) (fun pins s σ H o i v ov iv u Q I r1 r2 r3 h => ?_) ?_) ?_ ?_, fun E W F δ S σ H Dn rel post => ?_⟩⟩
  · rcases h with h | h
    · exact set_list pins s σ H o i v ov iv u Q I r1 r2 r3 h
    · exact set_dict cx.room pins s σ H o i v ov iv u Q I r1 r2 r3 h
  · intro v
    cases b <;> first | rfl | cases hp
  · cases e <;> rfl
  · cases e <;> rfl
  · refine r E W F δ S σ H _ rel (postS_bind post fun y S1 W1 v H1 eC l1 rel1 hy post1 => ?_)
    refine ro E W1 F δ S1 σ H1 _ rel1 (postS_bind post1 fun x S2 W2 u H2 eA l2 rel2 hx post2 => ?_)
    refine ri E W2 F δ S2 σ H2 _ rel2 (postS_bind post2 fun j S3 W3 w H3 eB l3 rel3 hj post3 => ?_)
    try dsimp only at post3
    cases ep : putIx δ S3 x j y with
    | none => rw [ep] at post3; exact post3.elim
    | some p =>
      rw [ep] at post3
      unfold putIx at ep
      split at ep
      · cases ep
      · rename_i ho
        have hy' := ((hy.mono l2).mono l3).pv (by simpa using ho)
        split at ep
        · rename_i ds ed
          obtain ⟨a, vs, rfl, ha, hp', up⟩ := mutL_ok rel3 (hx.mono l3) ed
          split at ep
          · rename_i j'
            obtain ⟨n, en, e2⟩ := Option.map_eq_some_iff.mp ep
            subst e2
            cases hj.pv rfl
            exact .inl ⟨a, vs, j', n, rfl, rfl, ha, by rw [hp'.length]; exact en, post3 W3 σ _ (.refl _) (up _ _ (hp'.set hy' n))⟩
          · cases ep
        · split at ep
          · rename_i kvs ed
            obtain ⟨a, vs, rfl, ha, hp', up⟩ := mutD_ok rel3 (hx.mono l3) ed
            split at ep
            · rename_i hl
              obtain ⟨kk, ek, e2⟩ := Option.map_eq_some_iff.mp ep
              subst e2
              have := keyOf_ok hj ek
              subst this
              exact .inr ⟨a, _, rfl, DPut.k ha (by rw [hp'.length, sizeLine_eq]; exact of_decide_eq_true hl), post3 W3 σ _ (.refl _) (up _ _ (hp'.put hy' kk))⟩
            · cases ep
          · cases ep
end DM


end
section
set_option Elab.async false
set_option linter.all false
set_option maxRecDepth 100000
set_option autoImplicit false
namespace DM
open PySem PySem.Spec L2
variable {g : GE} {k : Nat} {N : List Str} {sc : Scope} {a b c e o : Expr} {es : List Expr} {ma mb mc mo mi : DM D} {mr : DM (List D)} {pos pos' apos tpos : Pos}

/-! ### sources of a walk -/
inductive Src where
  | seq (x : D) | rng (lo c : Int) (n : Nat) | chars (z : Str) | enm (x : D) | zip (x y : D)
def seqN (S : Sto) (x : D) : Option (Bool × List D) := if x.isOwn = true then none else seqOf [] S x
def pairAt (xs ys : List D) (i : Nat) : Option D := match xs[i]?, ys[i]? with
  | some x, some y => some (.tup [x, y])
  | _, _ => none
/-- none: not covered; some none: the end -/
def srcAt (S : Sto) (s : Src) (i : Nat) : Option (Option D) := match s with
  | .seq x => (seqN S x).map fun p => p.2[i]?
  | .rng lo c n => some (if i < n then some (.int (lo + (i : Int) * c)) else none)
  | .chars z => some ((z.cps[i]?).map fun c => .str ⟨#[c]⟩)
  | .enm x => match seqN S x with
    | some (false, ds) => some ((ds[i]?).map fun d => .tup [.int (i : Nat), d])
    | _ => none
  | .zip x y => match seqN S x, seqN S y with
    | some (false, xs), some (false, ys) => some (pairAt xs ys i)
    | _, _ => none
def srcLen (S : Sto) (s : Src) : Nat := match s with
  | .seq x => match seqN S x with
    | some p => p.2.length
    | none => 0
  | .rng _ _ n => n
  | .chars z => z.cps.size
  | .enm x => match seqN S x with
    | some p => p.2.length
    | none => 0
  | .zip x y => match seqN S x with
    | some p => p.2.length
    | none => 0
theorem seqN_of {δ : List Sl} {S : Sto} {x : D} {p : Bool × List D} (h : seqN S x = some p) : x.isOwn = false ∧ seqOf δ S x = some p := by
  unfold seqN at h
  split at h
  · cases h
  · rename_i n
    have n' : x.isOwn = false := by simpa using n
    refine ⟨n', ?_⟩
    cases x <;> first | exact h | cases n'
structure SrcOk (g : GE) (W : Wd) (s : Src) (J : It) : Prop where
  go : ∀ W' F δ S σ H i d, W.Le W' → Rel g.K g.mg W' F δ S σ H → srcAt S s i = some (some d) → J.go i H ∧ ∀ x H', J.yld i H x H' → ∃ W'', W'.Le W'' ∧ Rel g.K g.mg W'' F δ S σ H' ∧ PV g.K W'' d x
  stop : ∀ W' F δ S σ H i, W.Le W' → Rel g.K g.mg W' F δ S σ H → srcAt S s i = some none → J.stop i H
theorem SrcOk.mono {W W1 : Wd} {s : Src} {J : It} (h : SrcOk g W s J) (l : W.Le W1) : SrcOk g W1 s J :=
  ⟨fun W' F δ S σ H i d l' => h.go W' F δ S σ H i d (l.trans l'), fun W' F δ S σ H i l' => h.stop W' F δ S σ H i (l.trans l')⟩
theorem PVs.none {K : PySem.W.Frag} {W : Wd} {ds : List D} {vs : List V} {i : Nat} (h : PVs K W ds vs) (e : ds[i]? = none) : vs.length ≤ i := by
  rw [h.length]; exact List.getElem?_eq_none_iff.mp e
theorem src_list {W : Wd} {x : D} {a : Addr} (p : PV g.K W x (.ref a)) (hx : x.isOwn = false) (h1 : ∀ W' F δ S σ H b ds, W.Le W' → Rel g.K g.mg W' F δ S σ H → seqOf δ S x = some (b, ds) → b = false) : SrcOk g W (.seq x) (Itl g.K a) := by
  have key : ∀ {W' F δ S σ H ds b}, W.Le W' → Rel g.K g.mg W' F δ S σ H → seqN S x = some (b, ds) → ∃ vs, PVs g.K W' ds vs ∧ SqL g.K H a vs := fun {W' F δ S σ H ds b} l rel e => by
    have e2 := (seqN_of (δ := δ) e).2
    have eb := h1 W' F δ S σ H b ds l rel e2
    subst eb
    obtain ⟨a', vs, ev, hp, _, hl⟩ := seqOf_ok rel (.inl (p.mono l)) e2
    cases ev
    exact ⟨vs, hp, hl rfl⟩
  refine ⟨fun W' F δ S σ H i d l rel e => ?_, fun W' F δ S σ H i l rel e => ?_⟩
  · obtain ⟨⟨b, ds⟩, e1, e2⟩ := Option.map_eq_some_iff.mp e
    obtain ⟨vs, hp, hq⟩ := key l rel e1
    obtain ⟨y, ey, py⟩ := hp.get e2
    refine ⟨⟨vs, y, hq, ey⟩, fun z H' ⟨eH, ez⟩ => ?_⟩
    subst eH
    have := ez vs hq
    rw [ey] at this; cases this
    exact ⟨W', .refl _, rel, py⟩
  · obtain ⟨⟨b, ds⟩, e1, e2⟩ := Option.map_eq_some_iff.mp e
    obtain ⟨vs, hp, hq⟩ := key l rel e1
    exact ⟨vs, hq, hp.none e2⟩
theorem src_tup {W : Wd} {ds : List D} {a : Addr} (p : PV g.K W (.tup ds) (.ref a)) : SrcOk g W (.seq (.tup ds)) (Itt g.K a) := by
  have key : ∀ {W' F δ S σ H}, W.Le W' → Rel g.K g.mg W' F δ S σ H → ∃ vs, PVs g.K W' ds vs ∧ SqT g.K H a vs := fun {W' F δ S σ H} l rel => by
    obtain ⟨a', vs, ev, hp, hl, _⟩ := seqOf_ok (δ := δ) (b := true) (ds := ds) rel (.inl (p.mono l)) rfl
    cases ev
    exact ⟨vs, hp, hl rfl⟩
  refine ⟨fun W' F δ S σ H i d l rel e => ?_, fun W' F δ S σ H i l rel e => ?_⟩
  · have e2 : ds[i]? = some d := Option.some.inj e
    obtain ⟨vs, hp, hq⟩ := key l rel
    obtain ⟨y, ey, py⟩ := hp.get e2
    refine ⟨⟨vs, y, hq, ey⟩, fun z H' ⟨eH, ez⟩ => ?_⟩
    subst eH
    have := ez vs hq
    rw [ey] at this; cases this
    exact ⟨W', .refl _, rel, py⟩
  · have e2 : ds[i]? = none := Option.some.inj e
    obtain ⟨vs, hp, hq⟩ := key l rel
    exact ⟨vs, hq, hp.none e2⟩
theorem src_str {W : Wd} {z : Str} : SrcOk g W (.chars z) (Its z) := by
  refine ⟨fun W' F δ S σ H i d l rel e => ?_, fun W' F δ S σ H i l rel e => ?_⟩
  · obtain ⟨c, e1, e2⟩ := Option.map_eq_some_iff.mp (Option.some.inj e)
    subst e2
    refine ⟨(Array.getElem?_eq_some_iff.mp e1).1, fun v H' ⟨eH, c', ec, ev⟩ => ?_⟩
    subst eH ev
    rw [e1] at ec; cases ec
    exact ⟨W', .refl _, rel, .str _⟩
  · have e1 := Option.map_eq_none_iff.mp (Option.some.inj e)
    exact Array.getElem?_eq_none_iff.mp e1
theorem src_rng {W : Wd} {lo c : Int} {n : Nat} : SrcOk g W (.rng lo c n) (Itc lo c n) := by
  refine ⟨fun W' F δ S σ H i d l rel e => ?_, fun W' F δ S σ H i l rel e => ?_⟩
  · have e := Option.some.inj e
    split at e
    · rename_i h
      cases e
      exact ⟨h, fun v H' ⟨eH, ev⟩ => by subst eH ev; exact ⟨W', .refl _, rel, .int _⟩⟩
    · cases e
  · have e := Option.some.inj e
    split at e
    · cases e
    · rename_i h
      exact Nat.le_of_not_lt h
theorem src_rng1 {W : Wd} {lo : Int} {n : Nat} : SrcOk g W (.rng lo 1 n) (Itr lo n) := by
  refine ⟨fun W' F δ S σ H i d l rel e => ?_, fun W' F δ S σ H i l rel e => ?_⟩
  · have e := Option.some.inj e
    split at e
    · rename_i h
      cases e
      refine ⟨h, fun v H' ⟨eH, ev⟩ => ?_⟩
      subst eH ev
      rw [Int.mul_one]
      exact ⟨W', .refl _, rel, .int _⟩
    · cases e
  · have e := Option.some.inj e
    split at e
    · cases e
    · rename_i h
      exact Nat.le_of_not_lt h
theorem pair_yld {W : Wd} {F H : Hp} {δ : List Sl} {S : Sto} {σ : St} {T : Addr} {ds : List D} {vs : List V} (rel : Rel g.K g.mg W F δ S σ H) (hT : H T = none) (p : PVs g.K W ds vs) :
    ∃ W'', W.Le W'' ∧ Rel g.K g.mg W'' F δ S σ (upd H T (.tup vs)) ∧ PV g.K W'' (.tup ds) (.ref T) := by
  have l : W.Le (W.put T (.tup vs)) := le_put (rel.pers.free hT)
  exact ⟨_, l, rel.put hT, .tup (SqT.of (show upd W.B T (.tup vs) T = _ from upd_same)) (p.mono l)⟩
theorem src_enm {W : Wd} {x : D} {a : Addr} (p : PV g.K W x (.ref a)) : SrcOk g W (.enm x) (Ite g.K a) := by
  have key : ∀ {W' F δ S σ H ds}, W.Le W' → Rel g.K g.mg W' F δ S σ H → seqN S x = some (false, ds) → ∃ vs, PVs g.K W' ds vs ∧ SqL g.K H a vs := fun {W' F δ S σ H ds} l rel e => by
    obtain ⟨a', vs, ev, hp, _, hl⟩ := seqOf_ok rel (.inl (p.mono l)) (seqN_of (δ := δ) e).2
    cases ev
    exact ⟨vs, hp, hl rfl⟩
  refine ⟨fun W' F δ S σ H i d l rel e => ?_, fun W' F δ S σ H i l rel e => ?_⟩
  · unfold srcAt at e
    dsimp only at e
    split at e
    · rename_i ds e1
      obtain ⟨d', e2, e3⟩ := Option.map_eq_some_iff.mp (Option.some.inj e)
      subst e3
      obtain ⟨vs, hp, hq⟩ := key l rel e1
      obtain ⟨y, ey, py⟩ := hp.get e2
      refine ⟨⟨vs, y, hq, ey⟩, fun z H' ⟨T, y', ez, hT, eH, eu⟩ => ?_⟩
      subst ez eH
      have := eu vs hq
      rw [ey] at this; cases this
      exact pair_yld rel hT (.cons (.int _) (.cons py .nil))
    · cases e
  · unfold srcAt at e
    dsimp only at e
    split at e
    · rename_i ds e1
      obtain ⟨vs, hp, hq⟩ := key l rel e1
      exact ⟨vs, hq, hp.none (Option.map_eq_none_iff.mp (Option.some.inj e))⟩
    · cases e
theorem src_zip {W : Wd} {x y : D} {a b : Addr} (p : PV g.K W x (.ref a)) (q : PV g.K W y (.ref b)) : SrcOk g W (.zip x y) (Itz g.K a b) := by
  have key : ∀ {x a} {W' F δ S σ H ds}, PV g.K W x (.ref a) → W.Le W' → Rel g.K g.mg W' F δ S σ H → seqN S x = some (false, ds) → ∃ vs, PVs g.K W' ds vs ∧ SqL g.K H a vs := fun {x a W' F δ S σ H ds} p l rel e => by
    obtain ⟨a', vs, ev, hp, _, hl⟩ := seqOf_ok rel (.inl (p.mono l)) (seqN_of (δ := δ) e).2
    cases ev
    exact ⟨vs, hp, hl rfl⟩
  refine ⟨fun W' F δ S σ H i d l rel e => ?_, fun W' F δ S σ H i l rel e => ?_⟩
  · unfold srcAt at e
    dsimp only at e
    split at e
    · rename_i xs ys e1 e2
      have e3 := Option.some.inj e
      unfold pairAt at e3
      split at e3
      · rename_i u w eu ew
        cases e3
        obtain ⟨vs, hp, hq⟩ := key p l rel e1
        obtain ⟨ws, hp2, hq2⟩ := key q l rel e2
        obtain ⟨v1, ey, py⟩ := hp.get eu
        obtain ⟨v2, ey2, py2⟩ := hp2.get ew
        refine ⟨⟨vs, ws, v1, v2, hq, hq2, ey, ey2⟩, fun z H' ⟨T, z1, z2, ez, hT, eH, u1, u2⟩ => ?_⟩
        subst ez eH
        have q1 := u1 vs hq
        have q2 := u2 ws hq2
        rw [ey] at q1; cases q1
        rw [ey2] at q2; cases q2
        exact pair_yld rel hT (.cons py (.cons py2 .nil))
      · cases e3
    · cases e
  · unfold srcAt at e
    dsimp only at e
    split at e
    · rename_i xs ys e1 e2
      have e3 := Option.some.inj e
      obtain ⟨vs, hp, hq⟩ := key p l rel e1
      obtain ⟨ws, hp2, hq2⟩ := key q l rel e2
      refine ⟨vs, ws, hq, hq2, ?_⟩
      unfold pairAt at e3
      cases h1 : xs[i]? with
      | none => exact .inl (hp.none h1)
      | some u =>
        cases h2 : ys[i]? with
        | none => exact .inr (hp2.none h2)
        | some w => rw [h1, h2] at e3; cases e3
    · cases e

/-! ### the iterator of an expression -/
structure IOk (g : GE) (N : List Str) (sc : Scope) (k : Nat) (tg e : Expr) (m : DM Src) : Prop where
  ex : ∃ t : XK → TI, (∀ X E, CtxOk g N sc k X → TakesE X E → PI X tg e (t E)) ∧
    ∀ E W F δ S σ H R, Rel g.K g.mg W F δ S σ H → Post g (SrcOk g) W F δ σ E R (m δ S) → t E σ H R
/-- a list, a tuple or a text, as it comes -/
def iAny (K : PySem.W.Frag) (tl : TE) : TI := fun σ H R => tl σ H fun x H1 =>
  (∃ a, x = .ref a ∧ (∃ xs, SqL K H1 a xs) ∧ R (Itl K a) H1) ∨ (∃ a, x = .ref a ∧ (∃ xs, SqT K H1 a xs) ∧ R (Itt K a) H1) ∨ ∃ z, x = .str z ∧ R (Its z) H1
theorem pi_any {X : Cx} {tg l : Expr} {tl : TE} (hl : PE X l tl) : PI X tg l (iAny X.K tl) := by
  refine ⟨fun pins s σ H R I h => thn (hl.run pins s σ H _ I h) fun v s1 ⟨x, H1, I1, r1, q1⟩ => ?_⟩
  rcases q1 with ⟨a, rfl, ⟨xs, hq⟩, q⟩ | ⟨a, rfl, ⟨xs, hq⟩, q⟩ | ⟨z, rfl, q⟩
  · cases r1
    obtain ⟨its, rv, p, hz⟩ := I1.list hq
    exact wpAny_pyIter_list p.isList (pi_one (tk := s1.toks) I1 _ (turn_list a _) ⟨_, Heap.get?_push_size _ rfl, rfl, rfl⟩ q)
  · cases r1
    obtain ⟨its, rv, p, hz⟩ := I1.tuple hq
    exact wpAny_pyIter_tuple (show s1.heap.IsTuple a its.toArray from p) (pi_one (tk := s1.toks) I1 _ (turn_tuple a _) ⟨_, Heap.get?_push_size _ rfl, rfl, rfl⟩ q)
  · obtain ⟨t, rfl⟩ := r1
    cases ha : z.cps.all (· < 128)
    · exact wpAny_pyIter_wide ha (pi_one (tk := s1.toks) I1 _ (turn_str _ z t "str_iterator" (.inr rfl)) ⟨_, Heap.get?_push_size _ rfl, rfl, rfl⟩ q)
    · exact wpAny_pyIter_ascii ha (pi_one (tk := s1.toks) I1 _ (turn_str _ z t "str_ascii_iterator" (.inl rfl)) ⟨_, Heap.get?_push_size _ rfl, rfl, rfl⟩ q)
def srcOf (S : Sto) (x : D) : Option Src := match x with
  | .str z => some (.chars z)
  | x => match seqN S x with
    | some _ => some (.seq x)
    | none => none
def dSrc (m : DM D) : DM Src := dBind m fun x _ S => lift (srcOf S x) S
theorem lst_true {o : Option (List D)} {ds : List D} (q : o.map (fun ds => (false, ds)) = some (true, ds)) : False := by
  obtain ⟨_, _, e⟩ := Option.map_eq_some_iff.mp q
  cases e
theorem seqOf_true {δ : List Sl} {S : Sto} {x : D} {ds : List D} (h : seqOf δ S x = some (true, ds)) : x = .tup ds := by
  cases x with
  | tup ds' => cases h; rfl
  | scr ds' => cases h
  | non => exact (lst_true (o := lstOf δ S .non) h).elim
  | bl b => exact (lst_true (o := lstOf δ S (.bl b)) h).elim
  | int b => exact (lst_true (o := lstOf δ S (.int b)) h).elim
  | str b => exact (lst_true (o := lstOf δ S (.str b)) h).elim
  | lst b => exact (lst_true (o := lstOf δ S (.lst b)) h).elim
  | dic b => exact (lst_true (o := lstOf δ S (.dic b)) h).elim
  | ref b => exact (lst_true (o := lstOf δ S (.ref b)) h).elim
  | own b => exact (lst_true (o := lstOf δ S (.own b)) h).elim
theorem seqOf_ff {δ δ0 : List Sl} {S S0 : Sto} {x : D} {b : Bool} {ds ds0 : List D} (h0 : seqOf δ0 S0 x = some (false, ds0)) (h : seqOf δ S x = some (b, ds)) : b = false := by
  cases b with
  | false => rfl
  | true =>
    have := seqOf_true h
    subst this
    cases h0
theorem i_any {tg : Expr} (h : EOk g N sc k e ma) : IOk g N sc k tg e (dSrc ma) := by
  obtain ⟨t, p, r⟩ := h.ex
  refine ⟨⟨fun E => iAny g.K (t E), fun X E cx tk => by rw [← cx.hK]; exact pi_any (p X E cx tk), fun E W F δ S σ H R rel post => ?_⟩⟩
  refine r E W F δ S σ H _ rel (post_bind post fun x S1 W1 v H1 _ l1 rel1 hx post1 => ?_)
  obtain ⟨s, es, q⟩ := post_lift post1
  have fin : ∀ {x : D} {v : V}, VV g.K W1 σ x v → (match seqN S1 x with | some _ => some (Src.seq x) | none => none) = some s → (∃ a, v = .ref a ∧ (∃ xs, SqL g.K H1 a xs) ∧ R (Itl g.K a) H1) ∨ (∃ a, v = .ref a ∧ (∃ xs, SqT g.K H1 a xs) ∧ R (Itt g.K a) H1) ∨ ∃ z, v = .str z ∧ R (Its z) H1 := fun {x v} hx es => by
    cases e1 : seqN S1 x with
    | none => rw [e1] at es; cases es
    | some p =>
      rw [e1] at es
      cases es
      obtain ⟨b, ds⟩ := p
      obtain ⟨ho, e2⟩ := seqN_of (δ := δ) e1
      obtain ⟨a, vs, rfl, hp, ht, hl⟩ := seqOf_ok rel1 hx e2
      cases b with
      | false =>
        refine .inl ⟨a, rfl, ⟨vs, hl rfl⟩, q W1 _ H1 (.refl _) rel1 (src_list (hx.pv ho) ho fun W' F δ S σ H b ds' l rel e => seqOf_ff e2 e)⟩
      | true =>
        refine .inr (.inl ⟨a, rfl, ⟨vs, ht rfl⟩, ?_⟩)
        have := seqOf_true e2
        subst this
        exact q W1 _ H1 (.refl _) rel1 (src_tup (hx.pv rfl))
  unfold srcOf at es
  split at es
  · rename_i z
    cases es
    cases hx.pv rfl
    exact .inr (.inr ⟨_, rfl, q W1 _ H1 (.refl _) rel1 src_str⟩)
  · exact fin hx es
/-- range -/
def okI (i : Int) : Bool := Nat.ble i.natAbs 4611686018427387903
def rng1Of : List D → Option Src
  | [.int j] => if okI j = true then some (.rng 0 1 j.toNat) else none
  | _ => none
def rng2Of : List D → Option Src
  | [.int i, .int j] => if (okI i && okI j) = true then some (.rng i 1 (j - i).toNat) else none
  | _ => none
def rng3Of : List D → Option Src
  | [.int i, .int j, .int c] => if (okI i && okI j && decide (c = -1)) = true then some (.rng i (-1) (i - j).toNat) else none
  | _ => none
def dRng (f : List D → Option Src) (m : DM (List D)) : DM Src := dBind m fun ds _ S => lift (f ds) S
theorem okI_ok {i : Int} (h : okI i = true) : -(2 ^ 62) ≤ i ∧ i < 2 ^ 62 := by
  have := Nat.le_of_ble_eq_true h
  exact ⟨by omega, by omega⟩
theorem VVs.ints1 {K : PySem.W.Frag} {W : Wd} {σ : St} {i : Int} {vs : List V} (h : VVs K W σ [.int i] vs) : vs = [.int i] := by
  obtain ⟨v, rfl, h1⟩ := h.one
  cases h1.pv rfl; rfl
theorem VVs.ints2 {K : PySem.W.Frag} {W : Wd} {σ : St} {i j : Int} {vs : List V} (h : VVs K W σ [.int i, .int j] vs) : vs = [.int i, .int j] := by
  obtain ⟨v, w, rfl, h1, h2⟩ := h.two
  cases h1.pv rfl; cases h2.pv rfl; rfl
theorem VVs.ints3 {K : PySem.W.Frag} {W : Wd} {σ : St} {i j c : Int} {vs : List V} (h : VVs K W σ [.int i, .int j, .int c] vs) : vs = [.int i, .int j, .int c] := by
  cases h with
  | cons h1 r =>
    rw [r.ints2]
    cases h1.pv rfl; rfl
variable {tg : Expr} {p : Pos}
theorem i_range1 (hb : BiAt g "range" (.type "range")) (hg : sc.names.lookup ("range" : Str) = some .globalImplicit) (ha : AOk g N sc k [a] mr) (hs : notStar a = true) : IOk g N sc k tg (.Call (.Name "range" p) [a] [] pos) (dRng rng1Of mr) := by
  obtain ⟨t, pt, rt⟩ := ha.ex
  refine ⟨⟨fun E => iRng1 (t E), fun X E cx tk => pi_range1 (gl_of cx hg) (by rw [cx.hm]; exact hb.free) (pt X E cx tk) (by rw [star_of hs]; rfl), fun E W F δ S σ H R rel post => ?_⟩⟩
  refine rt E W F δ S σ H _ rel (post_bind post fun ds S1 W1 vs H1 eA l1 rel1 hx post1 => ?_)
  obtain ⟨s, es, q⟩ := post_lift post1
  unfold rng1Of at es
  split at es
  · rename_i j
    split at es
    · rename_i h
      cases es
      obtain ⟨h1, h2⟩ := okI_ok h
      exact ⟨j, hx.ints1, h1, h2, q W1 _ H1 (.refl _) rel1 src_rng1⟩
    · cases es
  · cases es
theorem i_range2 (hb : BiAt g "range" (.type "range")) (hg : sc.names.lookup ("range" : Str) = some .globalImplicit) (ha : AOk g N sc k [a, b] mr) (hs : notStar a = true) (hs2 : notStar b = true) : IOk g N sc k tg (.Call (.Name "range" p) [a, b] [] pos) (dRng rng2Of mr) := by
  obtain ⟨t, pt, rt⟩ := ha.ex
  refine ⟨⟨fun E => iRng2 (t E), fun X E cx tk => pi_range2 (gl_of cx hg) (by rw [cx.hm]; exact hb.free) (pt X E cx tk) (by rw [star_of hs, star_of hs2]; rfl) (by rw [star_of hs2]; rfl), fun E W F δ S σ H R rel post => ?_⟩⟩
  refine rt E W F δ S σ H _ rel (post_bind post fun ds S1 W1 vs H1 eA l1 rel1 hx post1 => ?_)
  obtain ⟨s, es, q⟩ := post_lift post1
  unfold rng2Of at es
  split at es
  · rename_i i j
    split at es
    · rename_i h
      cases es
      obtain ⟨h0, h0'⟩ := Bool.and_eq_true_iff.mp h
      obtain ⟨h1, h2⟩ := okI_ok h0
      obtain ⟨h3, h4⟩ := okI_ok h0'
      exact ⟨i, j, hx.ints2, ⟨h1, h2, h3, h4⟩, q W1 _ H1 (.refl _) rel1 src_rng1⟩
    · cases es
  · cases es
theorem i_range3 (hb : BiAt g "range" (.type "range")) (hg : sc.names.lookup ("range" : Str) = some .globalImplicit) (ha : AOk g N sc k [a, b, c] mr) (hs : notStar a = true) (hs2 : notStar b = true) (hs3 : notStar c = true) : IOk g N sc k tg (.Call (.Name "range" p) [a, b, c] [] pos) (dRng rng3Of mr) := by
  obtain ⟨t, pt, rt⟩ := ha.ex
  refine ⟨⟨fun E => iRng3 (t E), fun X E cx tk => pi_range3 (gl_of cx hg) (by rw [cx.hm]; exact hb.free) (pt X E cx tk) (by rw [star_of hs]) (by rw [star_of hs2, star_of hs3]; rfl), fun E W F δ S σ H R rel post => ?_⟩⟩
  refine rt E W F δ S σ H _ rel (post_bind post fun ds S1 W1 vs H1 eA l1 rel1 hx post1 => ?_)
  obtain ⟨s, es, q⟩ := post_lift post1
  unfold rng3Of at es
  split at es
  · rename_i i j c
    split at es
    · rename_i h
      cases es
      obtain ⟨h5, h6⟩ := Bool.and_eq_true_iff.mp h
      obtain ⟨h0, h0'⟩ := Bool.and_eq_true_iff.mp h5
      obtain ⟨h1, h2⟩ := okI_ok h0
      obtain ⟨h3, h4⟩ := okI_ok h0'
      have := of_decide_eq_true h6
      subst this
      exact ⟨i, j, -1, _, hx.ints3, RgC.neg h1 h2 h3 h4, q W1 _ H1 (.refl _) rel1 src_rng⟩
    · cases es
  · cases es
/-- enumerate, zip: of lists -/
def enmOf (S : Sto) : List D → Option Src
  | [x] => match seqN S x with
    | some (false, _) => some (.enm x)
    | _ => none
  | _ => none
def zipOf (S : Sto) : List D → Option Src
  | [x, y] => match seqN S x, seqN S y with
    | some (false, _), some (false, _) => some (.zip x y)
    | _, _ => none
  | _ => none
def dSrcs (f : Sto → List D → Option Src) (m : DM (List D)) : DM Src := dBind m fun ds _ S => lift (f S ds) S
theorem seqN_at {W : Wd} {F H : Hp} {δ : List Sl} {S : Sto} {σ : St} {x : D} {v : V} {ds : List D} (rel : Rel g.K g.mg W F δ S σ H) (hx : VV g.K W σ x v) (e : seqN S x = some (false, ds)) : ∃ a vs, v = .ref a ∧ SqL g.K H a vs ∧ PV g.K W x (.ref a) := by
  obtain ⟨ho, e2⟩ := seqN_of (δ := δ) e
  obtain ⟨a, vs, rfl, hp, _, hl⟩ := seqOf_ok rel hx e2
  exact ⟨a, vs, rfl, hl rfl, hx.pv ho⟩
theorem i_enum {elts : List Expr} {kk : Nat} (hb : BiAt g "enumerate" (.type "enumerate")) (hg : sc.names.lookup ("enumerate" : Str) = some .globalImplicit) (ha : AOk g N sc k [a] mr) (hs : notStar a = true) : IOk g N sc k (.Tuple elts kk tpos) (.Call (.Name "enumerate" p) [a] [] pos) (dSrcs enmOf mr) := by
  obtain ⟨t, pt, rt⟩ := ha.ex
  refine ⟨⟨fun E => iEnum g.K (t E), fun X E cx tk => by rw [← cx.hK]; exact pi_enum (gl_of cx hg) (by rw [cx.hm]; exact hb.free) (pt X E cx tk) (by rw [star_of hs]; rfl), fun E W F δ S σ H R rel post => ?_⟩⟩
  refine rt E W F δ S σ H _ rel (post_bind post fun ds S1 W1 vs H1 eA l1 rel1 hx post1 => ?_)
  obtain ⟨s, es, q⟩ := post_lift post1
  unfold enmOf at es
  split at es
  · rename_i x
    split at es
    · rename_i ds' e1
      cases es
      obtain ⟨v, rfl, h1⟩ := hx.one
      obtain ⟨a, vs', rfl, hq, hp⟩ := seqN_at rel1 h1 e1
      exact ⟨a, vs', rfl, hq, q W1 _ H1 (.refl _) rel1 (src_enm hp)⟩
    · cases es
  · cases es
theorem i_zip {elts : List Expr} {kk : Nat} (hb : BiAt g "zip" (.type "zip")) (hg : sc.names.lookup ("zip" : Str) = some .globalImplicit) (ha : AOk g N sc k [a, b] mr) (hs : notStar a = true) (hs2 : notStar b = true) : IOk g N sc k (.Tuple elts kk tpos) (.Call (.Name "zip" p) [a, b] [] pos) (dSrcs zipOf mr) := by
  obtain ⟨t, pt, rt⟩ := ha.ex
  refine ⟨⟨fun E => iZip g.K (t E), fun X E cx tk => by rw [← cx.hK]; exact pi_zip (gl_of cx hg) (by rw [cx.hm]; exact hb.free) (pt X E cx tk) (by rw [star_of hs]) (by rw [star_of hs2]; rfl), fun E W F δ S σ H R rel post => ?_⟩⟩
  refine rt E W F δ S σ H _ rel (post_bind post fun ds S1 W1 vs H1 eA l1 rel1 hx post1 => ?_)
  obtain ⟨s, es, q⟩ := post_lift post1
  unfold zipOf at es
  split at es
  · rename_i x y
    split at es
    · rename_i xs ys e1 e2
      cases es
      obtain ⟨v, w, rfl, h1, h2⟩ := hx.two
      obtain ⟨a, vs', rfl, hq, hp⟩ := seqN_at rel1 h1 e1
      obtain ⟨b, ws', rfl, hq2, hp2⟩ := seqN_at rel1 h2 e2
      exact ⟨a, b, vs', ws', rfl, hq, hq2, q W1 _ H1 (.refl _) rel1 (src_zip hp hp2)⟩
    · cases es
  · cases es
end DM



end
section
set_option Elab.async false
set_option linter.all false
set_option maxRecDepth 100000
set_option autoImplicit false
namespace DM
open PySem PySem.Spec L2
variable {g : GE} {k : Nat} {N : List Str} {sc : Scope} {a b c e o : Expr} {es : List Expr} {ma mb mc mo mi : DM D} {mr : DM (List D)} {pos pos' apos tpos : Pos} {sts : List Stmt} {m : DS}

/-! ### targets -/
/-- the places of plain names -/
def namesAt (N : List Str) : List Expr → Option (List (Str × Nat))
  | [] => some []
  | .Name x _ :: es => match N.findIdx? (· == x), namesAt N es with
    | some i, some r => some ((x, i) :: r)
    | _, _ => none
  | _ :: _ => none
def tgtOf (N : List Str) : Expr → Option (Bool × List (Str × Nat))
  | .Tuple es _ _ => (namesAt N es).map fun r => (true, r)
  | e => (namesAt N [e]).map fun r => (false, r)
def setMany : List Nat → List D → List Sl → Option (List Sl)
  | [], [], δ => some δ
  | i :: is, d :: ds, δ => if d.isOwn = true then none else setMany is ds (δ.set i (.v d))
  | _, _, _ => none
def bindT (t : Bool × List (Str × Nat)) (d : D) (δ : List Sl) : Option (List Sl) := match t with
  | (true, r) => match d with
    | .tup ds => setMany (r.map (·.2)) ds δ
    | _ => none
  | (false, r) => setMany (r.map (·.2)) [d] δ
theorem findIdx_at {N : List Str} {x : Str} {i : Nat} (h : N.findIdx? (· == x) = some i) : N[i]? = some x := by
  obtain ⟨hi, e, _⟩ := List.findIdx?_eq_some_iff_getElem.mp h
  rw [List.getElem?_eq_getElem hi]
  have := eq_of_beq e
  rw [this]
def NamesOk (X : Cx) (r : List (Str × Nat)) : Prop := ∀ p ∈ r, L2.Loc X.env.scope p.1 ∧ (X.fn p.1 = true ∨ X.env.scope.names.lookup p.1 = some .local)
def gNames : List (Str × Nat) → TGs
  | [] => gNil
  | p :: r => gCons (gName p.2) (gNames r)
theorem pgs_names {X : Cx} (nd : X.N.Nodup) : ∀ {es : List Expr} {r : List (Str × Nat)}, namesAt X.N es = some r → NamesOk X r → PGs X es (gNames r) ∧ (assignEach es X.env).length = r.length ∧ (assignEach es X.env).findIdx? (·.1) = none
  | [], r, h, _ => by
    cases h
    exact ⟨pgs_nil, rfl, rfl⟩
  | e :: es, r, h, ok => by
    unfold namesAt at h
    split at h
    · rename_i z1; cases z1
    · rename_i x p es' z1
      cases z1
      split at h
      · rename_i i r' hi hr
        cases h
        obtain ⟨q1, q2, q3⟩ := pgs_names nd hr fun p hp => ok p (List.mem_cons_of_mem _ hp)
        have z := ok (x, i) List.mem_cons_self
        refine ⟨pgs_cons (pg_name nd (findIdx_at hi) z.1 z.2) q1, by simpa [assignEach] using q2, ?_⟩
        show List.findIdx? _ ((false, _) :: assignEach es X.env) = none
        rw [List.findIdx?_cons]
        simp [q3]
      · cases h
    · cases h
section
variable {W : Wd} {F H : Hp} {S : Sto}
theorem gNames_ok : ∀ {r : List (Str × Nat)} {ds : List D} {vs : List V} {δ δ' : List Sl} {σ : St} {Q : St → Hp → Prop}, Rel g.K g.mg W F δ S σ H → PVs g.K W ds vs → setMany (r.map (·.2)) ds δ = some δ' → (∀ σ', Rel g.K g.mg W F δ' S σ' H → Q σ' H) → gNames r vs σ H Q
  | [], ds, vs, δ, δ', σ, Q, rel, p, e, q => by
    cases p with
    | nil => cases e; exact ⟨rfl, q σ rel⟩
    | cons _ _ => cases e
  | x :: r, ds, vs, δ, δ', σ, Q, rel, p, e, q => by
    cases p with
    | nil => cases e
    | @cons d v ds vs h1 h2 =>
      have e' : (if d.isOwn = true then none else setMany (r.map (·.2)) ds (δ.set x.2 (.v d))) = some δ' := e
      split at e'
      · cases e'
      · exact ⟨v, vs, rfl, gNames_ok (rel.setV h1) h2 e' q⟩
end
def gTgt (K : PySem.W.Frag) (t : Bool × List (Str × Nat)) : TG := match t with
  | (true, r) => gTup K r.length (gNames r)
  | (false, r) => fun v σ H Q => gNames r [v] σ H Q
theorem pg_tgt {X : Cx} {tg : Expr} {t : Bool × List (Str × Nat)} (hc : X.calm = true) (nd : X.N.Nodup) (h : tgtOf X.N tg = some t) (ok : NamesOk X t.2) : PG X tg (gTgt X.K t) := by
  have one : ∀ {e : Expr}, (namesAt X.N [e]).map (fun r => (false, r)) = some t → PG X e (gTgt X.K t) := fun {e} h => by
    obtain ⟨r, hr, et⟩ := Option.map_eq_some_iff.mp h
    subst et
    unfold namesAt at hr
    split at hr
    · rename_i z1; cases z1
    · rename_i x p es' z1
      cases z1
      split at hr
      · rename_i i r' hi hr'
        cases hr'
        cases hr
        have z := ok (x, i) List.mem_cons_self
        refine ⟨fun pins s σ H v u Q I rv hw => (pg_name nd (findIdx_at hi) z.1 z.2).run pins s σ H v u Q I rv ?_⟩
        obtain ⟨v', r'', e1, hw⟩ := hw
        cases e1
        exact hw.2
      · cases hr
    · cases hr
  cases tg with
  | Tuple es kk p =>
    obtain ⟨r, hr, et⟩ := Option.map_eq_some_iff.mp (show (namesAt X.N es).map (fun r => (true, r)) = some t from h)
    subst et
    obtain ⟨q1, q2, q3⟩ := pgs_names nd hr ok
    exact pg_tup hc q1 q2 q3
  | _ => exact one h
theorem gTgt_ok {W : Wd} {F H : Hp} {S : Sto} {t : Bool × List (Str × Nat)} {d : D} {v : V} {δ δ' : List Sl} {σ : St} {Q : St → Hp → Prop} (rel : Rel g.K g.mg W F δ S σ H) (p : PV g.K W d v) (e : bindT t d δ = some δ') (q : ∀ σ', Rel g.K g.mg W F δ' S σ' H → Q σ' H) : gTgt g.K t v σ H Q := by
  obtain ⟨b, r⟩ := t
  cases b with
  | true =>
    unfold bindT at e
    dsimp only at e
    split at e
    · rename_i ds
      cases p with
      | @tup a vs _ ha hp =>
        have hl : ∀ {is : List Nat} {ds : List D} {δ : List Sl}, setMany is ds δ = some δ' → ds.length = is.length := fun {is} => by
          induction is with
          | nil => intro ds δ e; cases ds with
            | nil => rfl
            | cons _ _ => cases e
          | cons i is ih => intro ds δ e; cases ds with
            | nil => cases e
            | cons d ds =>
              have e' : (if d.isOwn = true then none else setMany is ds (δ.set i (.v d))) = some δ' := e
              split at e'
              · cases e'
              · simp [ih e']
        exact ⟨_, vs, rfl, sameT rel.pers ha, by rw [hp.length, hl e]; simp, gNames_ok rel hp e q⟩
    · cases e
  | false => exact gNames_ok rel (.cons p .nil) e q

/-! ### for -/
def forL (src : Src) (bind : D → List Sl → Option (List Sl)) (body : DS) : Nat → Nat → DS
  | 0, _ => fun _ _ => .stuck
  | n + 1, i => fun δ S => match srcAt S src i with
    | none => .stuck
    | some none => .nx δ S
    | some (some d) => match bind d δ with
      | none => .stuck
      | some δ1 => match body δ1 S with
        | .nx δ2 S2 => forL src bind body n (i + 1) δ2 S2
        | .cnt δ2 S2 => forL src bind body n (i + 1) δ2 S2
        | .brk δ2 S2 => .nx δ2 S2
        | r => r
def sFor (t : Bool × List (Str × Nat)) (ms : DM Src) (body : DS) : DS := sBind ms fun src δ S => forL src (bindT t) body (srcLen S src + 1) 0 δ S
def plainIter : Expr → Bool
  | .Name .. => true
  | .Call .. => true
  | .Attribute .. => true
  | .Subscript .. => true
  | .Tuple .. => true
  | .BinOp .. => true
  | _ => false
theorem fold_of {e : Expr} (h : plainIter e = true) (env : Env) (x : Value) : foldedSetIterable e env x = pure x := by
  cases e <;> first | rfl | cases h
theorem s_for {tg : Expr} {t : Bool × List (Str × Nat)} {ms : DM Src} (cold : g.hot = none) (hi : IOk g N sc k tg e ms) (ht : tgtOf N tg = some t) (hl : t.2.all (fun p => locB sc p.1) = true) (hb : BOk g N sc k sts m) (hp : plainIter e = true) : SOk g N sc k (.For tg e sts [] pos) (sFor t ms m) := by
  obtain ⟨wi, pi, ri⟩ := hi.ex
  obtain ⟨tb, pb, rb⟩ := hb.ex
  refine ⟨⟨fun E => tFor (wi E) (gTgt g.K t) (tb E), fun X E cx tk => ps_for cx.pass (cx.calm cold) (pi X E cx.toCtxOk tk) (by rw [← cx.hK]; exact pg_tgt (cx.calm cold) cx.nd (by rw [cx.hN]; exact ht) (fun p hp => ⟨by rw [cx.hs]; exact loc_of (List.all_eq_true.mp hl p hp), .inl (cx.fn _)⟩)) (pb X E cx tk) (fun x => fold_of hp _ x), fun E W F δ S σ H Dn rel post => ?_⟩⟩
  refine ri E W F δ S σ H _ rel (postS_bind post fun src S1 W1 J H1 _ l1 rel1 hs post1 => ?_)
  refine ⟨fun i n σ H => ∃ W' δ S, W1.Le W' ∧ Rel g.K g.mg W' F δ S σ H ∧ PostS g W' F E Dn (forL src (bindT t) m n i δ S), ⟨_, W1, δ, S1, .refl _, rel1, post1⟩, ?_⟩
  rintro i n σ H ⟨W2, δ2, S2, l2, rel2, post2⟩
  cases n with
  | zero => exact post2.elim
  | succ n =>
    unfold forL at post2
    cases es : srcAt S2 src i with
    | none => rw [es] at post2; exact post2.elim
    | some od =>
      rw [es] at post2
      cases od with
      | none => exact .inl ⟨hs.stop W2 F δ2 S2 σ H i l2 rel2 es, post2 W2 σ H (.refl _) rel2⟩
      | some d =>
        obtain ⟨go, yl⟩ := hs.go W2 F δ2 S2 σ H i d l2 rel2 es
        refine .inr ⟨go, fun σ H => ∃ W' δ S, W1.Le W' ∧ Rel g.K g.mg W' F δ S σ H ∧ PostS g W' F E Dn (forL src (bindT t) m n (i + 1) δ S), fun σ' H' z => ⟨n, Nat.lt_succ_self _, z⟩, fun x H' y => ?_⟩
        obtain ⟨W3, l3, rel3, px⟩ := yl x H' y
        dsimp only at post2
        cases eb : bindT t d δ2 with
        | none => rw [eb] at post2; exact post2.elim
        | some δ3 =>
          rw [eb] at post2
          refine gTgt_ok rel3 px eb fun σ' rel4 => ?_
          refine rb E W3 F δ3 S2 σ' H' _ rel4 ?_
          have l13 := l2.trans l3
          dsimp only at post2
          cases em : m δ3 S2 with
          | nx δ4 S4 =>
            rw [em] at post2
            exact fun W' σ' H' l r => ⟨W', δ4, S4, l13.trans l, r, PostS.mono (r := forL src (bindT t) m n (i + 1) δ4 S4) post2 (l3.trans l)⟩
          | cnt δ4 S4 =>
            rw [em] at post2
            exact fun W' σ' H' l r => ⟨W', δ4, S4, l13.trans l, r, PostS.mono (r := forL src (bindT t) m n (i + 1) δ4 S4) post2 (l3.trans l)⟩
          | brk δ4 S4 => rw [em] at post2; exact fun W' σ' H' l r => post2 W' σ' H' (l3.trans l) r
          | ret rv S4 => rw [em] at post2; exact fun W' v H' l r p => post2 W' v H' (l3.trans l) r p
          | exc cc S4 => rw [em] at post2; exact fun W' H' l r => post2 W' H' (l3.trans l) r
          | stuck => rw [em] at post2; exact post2.elim

/-! ### while -/
def whL (c : DM Bool) (body : DS) : Nat → DS
  | 0 => fun _ _ => .stuck
  | n + 1 => sBind c fun x => if x = true then fun δ S => match body δ S with
      | .nx δ2 S2 => whL c body n δ2 S2
      | .cnt δ2 S2 => whL c body n δ2 S2
      | .brk δ2 S2 => .nx δ2 S2
      | r => r
    else sNext
def sWhile (c : DM Bool) (body : DS) : DS := fun δ S => whL c body 1000000 δ S
theorem s_while {mc : DM Bool} (hc : TOk g N sc k c mc) (hb : BOk g N sc k sts m) : SOk g N sc k (.While c sts [] pos) (sWhile mc m) := by
  obtain ⟨tc, pc, rc⟩ := hc.ex
  obtain ⟨tb, pb, rb⟩ := hb.ex
  refine ⟨⟨fun E => tWhile (tc E) (tb E), fun X E cx tk => ps_while cx.pass (pc X E cx.toCtxOk tk) (pb X E cx tk), fun E W F δ S σ H Dn rel post => ?_⟩⟩
  refine ⟨fun n σ H => ∃ W' δ S, Rel g.K g.mg W' F δ S σ H ∧ PostS g W' F E Dn (whL mc m n δ S), ⟨1000000, W, δ, S, rel, post⟩, ?_⟩
  rintro n σ H ⟨W2, δ2, S2, rel2, post2⟩
  cases n with
  | zero => exact post2.elim
  | succ n =>
    unfold whL at post2
    refine rc E W2 F δ2 S2 σ H _ rel2 (postS_bind post2 fun x S3 W3 v H3 _ l3 rel3 hx post3 => ?_)
    cases hx
    cases x with
    | false => exact post3 W3 σ H3 (.refl _) rel3
    | true =>
      refine ⟨fun σ H => ∃ W' δ S, Rel g.K g.mg W' F δ S σ H ∧ PostS g W' F E Dn (whL mc m n δ S), fun σ' H' z => ⟨n, Nat.lt_succ_self _, z⟩, rb E W3 F δ2 S3 σ H3 _ rel3 ?_⟩
      have post4 : PostS g W3 F E Dn (match m δ2 S3 with
        | .nx δ2 S2 => whL mc m n δ2 S2
        | .cnt δ2 S2 => whL mc m n δ2 S2
        | .brk δ2 S2 => .nx δ2 S2
        | r => r) := post3
      cases em : m δ2 S3 with
      | nx δ4 S4 =>
        rw [em] at post4
        exact fun W' σ' H' l r => ⟨W', δ4, S4, r, PostS.mono (r := whL mc m n δ4 S4) post4 l⟩
      | cnt δ4 S4 =>
        rw [em] at post4
        exact fun W' σ' H' l r => ⟨W', δ4, S4, r, PostS.mono (r := whL mc m n δ4 S4) post4 l⟩
      | brk δ4 S4 => rw [em] at post4; exact post4
      | ret rv S4 => rw [em] at post4; exact post4
      | exc cc S4 => rw [em] at post4; exact post4
      | stuck => rw [em] at post4; exact post4.elim

/-! ### a, b, .. = e -/
def sUnp (t : Bool × List (Str × Nat)) (m : DM D) : DS := sBind m fun d δ S => if d.isOwn = true then .stuck else match bindT t d δ with
  | some δ' => .nx δ' S
  | none => .stuck
def notDisp : Expr → Bool
  | .Name .. => true
  | .Call .. => true
  | .Attribute .. => true
  | .Subscript .. => true
  | _ => false
theorem s_unp {es : List Expr} {kk : Nat} {t : Bool × List (Str × Nat)} (cold : g.hot = none) (he : EOk g N sc k e ma) (ht : tgtOf N (.Tuple es kk tpos) = some t) (hl : t.2.all (fun p => locB sc p.1) = true) (hn : notDisp e = true) : SOk g N sc k (.Assign [.Tuple es kk tpos] e pos) (sUnp t ma) := by
  obtain ⟨te, pe, re⟩ := he.ex
  refine ⟨⟨fun E => tAsg (te E) (gTgt g.K t), fun X E cx tk => ps_asg (pe X E cx.toCtxOk tk) (by rw [← cx.hK]; exact pg_tgt (cx.calm cold) cx.nd (by rw [cx.hN]; exact ht) (fun p hp => ⟨by rw [cx.hs]; exact loc_of (List.all_eq_true.mp hl p hp), .inl (cx.fn _)⟩)) ?_ ?_, fun E W F δ S σ H Dn rel post => ?_⟩⟩
  · cases e <;> first | rfl | cases hn
  · cases e <;> first | rfl | cases hn
  · refine re E W F δ S σ H _ rel (postS_bind post fun d S1 W1 v H1 _ l1 rel1 hv post1 => ?_)
    try dsimp only at post1
    split at post1
    · exact post1.elim
    · rename_i ho
      split at post1
      · rename_i δ' eb
        exact gTgt_ok rel1 (hv.pv (by simpa using ho)) eb fun σ' rel2 => post1 W1 σ' H1 (.refl _) rel2
      · exact post1.elim
def sPar (i j : Nat) (m : DM (List D)) : DS := sBind m fun ds δ S => match ds with
  | [x, y] => if (x.isOwn || y.isOwn) = true then .stuck else .nx ((δ.set i (.v x)).set j (.v y)) S
  | _ => .stuck
theorem s_par {i j : Nat} {x y : Str} {px py : Pos} {kt k2 : Nat} {pt2 : Pos} (cold : g.hot = none) (hi : N[i]? = some x) (hj : N[j]? = some y) (hij : i ≠ j) (hx : sc.names.lookup x = some .local) (hy : sc.names.lookup y = some .local) (ha : AOk g N sc k [a, b] mr)
    (hk : sc.kind = .function) (hw : ∀ env : Env, env.scope = sc → swappedStores [.Tuple [.Name x px, .Name y py] kt tpos] (.Tuple [a, b] k2 pt2) env = pure (some [x, y]))
    (hs : ∀ env : Env, env.scope = sc → swapsWithSole [.Tuple [.Name x px, .Name y py] kt tpos] (.Tuple [a, b] k2 pt2) pos.line env = pure false) :
    SOk g N sc k (.Assign [.Tuple [.Name x px, .Name y py] kt tpos] (.Tuple [a, b] k2 pt2) pos) (sPar i j mr) := by
  obtain ⟨t, pt, rt⟩ := ha.ex
  refine ⟨⟨fun E => tPar i j (t E), fun X E cx tk => ps_par (cx.calm cold) cx.nd (by rw [cx.hN]; exact hi) (by rw [cx.hN]; exact hj) hij (by rw [cx.hs]; exact hx) (by rw [cx.hs]; exact hy) (pt X E cx.toCtxOk tk) (hw _ cx.hs) (hs _ cx.hs), fun E W F δ S σ H Dn rel post => ?_⟩⟩
  refine rt E W F δ S σ H _ rel (postS_bind post fun ds S1 W1 vs H1 eA l1 rel1 hv post1 => ?_)
  try dsimp only at post1
  split at post1
  · rename_i u w
    split at post1
    · exact post1.elim
    · rename_i ho
      obtain ⟨v1, v2, rfl, h1, h2⟩ := hv.two
      have ho' : u.isOwn = false ∧ w.isOwn = false := by simpa using ho
      exact ⟨v1, v2, rfl, post1 W1 _ H1 (.refl _) ((rel1.setV (h1.pv ho'.1)).setV (h2.pv ho'.2))⟩
  · exact post1.elim
end DM


end
section
set_option Elab.async false
set_option linter.all false
set_option maxRecDepth 100000
set_option autoImplicit false
namespace DM
open PySem PySem.Spec L2
variable {g : GE} {k : Nat} {N : List Str} {sc : Scope} {a b c e o : Expr} {es : List Expr} {ma mb mc mo mi : DM D} {mr : DM (List D)} {pos pos' apos tpos : Pos} {sts : List Stmt} {m : DS}

/-! ### comprehensions -/
theorem ctx_blk {X : Cx} (cold : g.hot = none) (cx : CtxOk g N sc k X) (s : Shared) (H : Hp) (scope : Scope) (C : Addr) (cl : List (Str × Addr)) (fp : List Addr) : CtxOk g N (relS scope sc) k (X.blk s H scope (compEnvC scope cl C X.env) fp) :=
  { hP := cx.hP, hw := cx.hw, hK := cx.hK, hm := cx.hm, hb := cx.hb, hN := cx.hN, hs := by rw [← cx.hs]; rfl, calmC := cx.calmC, room := cx.room, hd := cx.hd, px := fun a c e => (by rw [cold] at e; cases e), nd := cx.nd }
def eF : XK := fun _ _ _ => False
theorem takes_blk {X : Cx} (s : Shared) (H : Hp) (scope : Scope) (cenv : Env) (fp : List Addr) : TakesE (X.blk s H scope cenv fp) eF := takes0
/-- the tests -/
structure IfsOk (g : GE) (N : List Str) (sc : Scope) (k : Nat) (ifs : List Expr) (m : DM Bool) : Prop where
  ex : ∃ t : XK → TT, (∀ X E, CtxOk g N sc k X → TakesE X E → PTs X ifs (t E)) ∧
    ∀ E W F δ S σ H Q, Rel g.K g.mg W F δ S σ H → Post g VB W F δ σ E Q (m δ S) → t E σ H Q
def dYes : DM Bool := fun _ S => .ok true S
theorem ifs_nil : IfsOk g N sc k [] dYes := ⟨⟨fun _ => tYes, fun X E cx tk => pts_nil, fun E W F δ S σ H Q rel post => post W true H (.refl _) rel rfl⟩⟩
theorem ifs_one {mt : DM Bool} (h : TOk g N sc k c mt) : IfsOk g N sc k [c] mt := by
  obtain ⟨t, p, r⟩ := h.ex
  exact ⟨⟨t, fun X E cx tk => pts_one (p X E cx tk), r⟩⟩
def wipeD (δ : List Sl) : List Nat → List Sl
  | [] => δ
  | v :: vs => (wipeD δ vs).set v .no
def noOwnAt (δ : List Sl) (vs : List Nat) : Bool := vs.all fun i => match δ[i]? with
  | some s => !s.isOwn
  | none => true
def lcL (src : Src) (bind : D → List Sl → Option (List Sl)) (test : DM Bool) (elt : DM D) : Nat → Nat → List D → DM (List D)
  | 0, _, _ => fun _ _ => .stuck
  | n + 1, i, acc => fun δ S => match srcAt S src i with
    | none => .stuck
    | some none => .ok acc S
    | some (some d) => match bind d δ with
      | none => .stuck
      | some δ1 => match test δ1 S with
        | .ok true S1 => match elt δ1 S1 with
          | .ok y S2 => if (!y.isOwn && decide (acc.length < 16777216)) = true then lcL src bind test elt n (i + 1) (acc ++ [y]) δ S2 else .stuck
          | _ => .stuck
        | .ok false S1 => lcL src bind test elt n (i + 1) acc δ S1
        | _ => .stuck
def fLc (t : Bool × List (Str × Nat)) (vs : List Nat) (ms : DM Src) (test : DM Bool) (elt : DM D) : DM (List D) := dBind ms fun src δ S => if noOwnAt δ vs = true then lcL src (bindT t) test elt (srcLen S src + 1) 0 [] (wipeD δ vs) S else .stuck
section
variable {K : PySem.W.Frag} {mg : Str → Option Value} {W W' : Wd} {F F' H H' : Hp} {S S' : Sto} {δ δ' : List Sl} {σ σ' : St}
theorem wipeD_length (δ : List Sl) : ∀ vs : List Nat, (wipeD δ vs).length = δ.length
  | [] => rfl
  | v :: vs => by unfold wipeD; rw [List.length_set, wipeD_length δ vs]
theorem wipeD_in {δ : List Sl} {i : Nat} : ∀ {vs : List Nat}, i ∈ vs → i < δ.length → (wipeD δ vs)[i]? = some .no
  | v :: vs, h, hl => by
    unfold wipeD
    by_cases e : v = i
    · subst e
      rw [List.getElem?_set_self (by rw [wipeD_length]; exact hl)]
    · rw [List.getElem?_set_ne e]
      exact wipeD_in (by rcases List.mem_cons.mp h with q | q; exact absurd q.symm e; exact q) hl
theorem wipeD_out {δ : List Sl} {i : Nat} : ∀ {vs : List Nat}, i ∉ vs → (wipeD δ vs)[i]? = δ[i]?
  | [], _ => rfl
  | v :: vs, h => by
    unfold wipeD
    rw [List.getElem?_set_ne (fun e => h (by rw [e]; exact List.mem_cons_self))]
    exact wipeD_out fun m => h (List.mem_cons_of_mem _ m)
theorem Rel.wiped (r : Rel K mg W F δ S σ H) (vs : List Nat) : Rel K mg W F (wipeD δ vs) S (L2.wipe σ vs) H :=
  { r.toRelH with
    len := by rw [wipeD_length, wipe_length]; exact r.len
    slot := fun k s o e1 e2 => by
      by_cases h : k ∈ vs
      · have hl : k < δ.length := by
          have := (List.getElem?_eq_some_iff.mp e1).1
          rwa [wipeD_length] at this
        rw [wipeD_in h hl] at e1
        cases e1
        trivial
      · rw [wipeD_out h] at e1
        rw [wipe_out h] at e2
        exact r.slot k s o e1 e2
    sep := fun j k s t a e1 e2 h1 h2 e3 e4 => by
      have no : ∀ {j : Nat} {s : Sl}, (wipeD δ vs)[j]? = some s → s.isOwn = true → j ∉ vs := fun {j s} e h q => by
        have hl : j < δ.length := by
          have := (List.getElem?_eq_some_iff.mp e).1
          rwa [wipeD_length] at this
        rw [wipeD_in q hl] at e
        cases e; cases h
      have nj := no e1 h1
      have nk := no e2 h2
      rw [wipeD_out nj] at e1
      rw [wipeD_out nk] at e2
      rw [wipe_out nj] at e3
      rw [wipe_out nk] at e4
      exact r.sep j k s t a e1 e2 h1 h2 e3 e4 }
/-- the frame with one more fixed object -/
theorem RelH.fix {p : Addr} {o : HO} (r : RelH K mg W F S H) (hp : H p = none) : RelH K mg W (upd F p o) S (upd H p o) := by
  have q := r.grow (o := o) hp
  refine ⟨q.pers, fun a u e => ?_, q.cell, fun i a e => ?_, fun a u e => ?_, q.inj, q.nxm, q.mt⟩
  · by_cases h : a = p
    · subst h; rw [upd_same] at e ⊢; exact e
    · rw [upd_ne h] at e ⊢; exact r.frame _ _ e
  · have ne : a ≠ p := fun z => r.mt i a e (by rw [z]; exact hp)
    rw [upd_ne ne]; exact r.mF i a e
  · by_cases h : a = p
    · subst h; exact r.pers.free hp
    · rw [upd_ne h] at e; exact r.fb a u e
theorem slot_ne {s : Sl} {o : Option V} {p : Addr} (hp : H p = none) (h : SlotH K W F H s o) (hs : s.isOwn = true) : ∃ a, o = some (.ref a) ∧ a ≠ p := by
  cases s with
  | no => cases hs
  | x a => cases hs
  | v d => cases hs
  | ol ds => obtain ⟨a, vs, e, q, _⟩ := h; exact ⟨a, e, ne_of_none q hp⟩
  | od ds => obtain ⟨a, vs, e, q, _⟩ := h; exact ⟨a, e, ne_of_none q hp⟩
theorem Rel.fix {p : Addr} {o : HO} (r : Rel K mg W F δ S σ H) (hp : H p = none) : Rel K mg W (upd F p o) δ S σ (upd H p o) :=
  { r.toRelH.fix hp with
    len := r.len
    slot := fun k s x e1 e2 => (r.slot k s x e1 e2).mono (.refl _) fun a u w q => by
      have ne : a ≠ p := ne_of_none q hp
      exact ⟨by rw [upd_ne ne]; exact q, ⟨w.b, by rw [upd_ne ne]; exact w.f, w.m⟩⟩
    sep := r.sep }
/-- the fixed object is written -/
theorem Rel.refix {p : Addr} {o o' : HO} (r : Rel K mg W (upd F p o) δ S σ H) : Rel K mg W (upd F p o') δ S σ (upd H p o') := by
  have hb : W.B p = none := r.fb p o upd_same
  have hm : ∀ i, W.m i ≠ some p := fun i e => by
    have := r.mF i p e
    rw [upd_same] at this; cases this
  refine { pers := fun b u e => ?_, frame := fun b u e => ?_, cell := fun i c e => ?_, mF := fun i b e => ?_, fb := fun b u e => ?_, inj := r.inj, nxm := r.nxm, mt := fun i b e z => ?_, len := r.len, slot := fun j t x q1 q2 => ?_, sep := r.sep }
  · have ne : b ≠ p := fun z => by rw [z, hb] at e; cases e
    rw [upd_ne ne]; exact r.pers _ _ e
  · by_cases h : b = p
    · subst h; rw [upd_same] at e ⊢; exact e
    · rw [upd_ne h] at e ⊢; exact r.frame _ _ (by rw [upd_ne h]; exact e)
  · obtain ⟨b, q, x, n⟩ := r.cell i c e
    have ne : b ≠ p := fun z => hm i (by rw [← z]; exact q)
    exact ⟨b, q, x.mono (.refl _) fun u h => by rw [upd_ne ne]; exact h, n⟩
  · have ne : b ≠ p := fun z => hm i (by rw [← z]; exact e)
    have := r.mF i b e
    rw [upd_ne ne] at this ⊢; exact this
  · by_cases h : b = p
    · subst h; exact hb
    · rw [upd_ne h] at e; exact r.fb b u (by rw [upd_ne h]; exact e)
  · have ne : b ≠ p := fun z => hm i (by rw [← z]; exact e)
    rw [upd_ne ne] at z
    exact r.mt i b e z
  · refine (r.slot j t x q1 q2).mono (.refl _) fun a u w q => ?_
    have ne : a ≠ p := fun z => by have := w.f; rw [z, upd_same] at this; cases this
    have wf := w.f
    rw [upd_ne ne] at wf
    exact ⟨by rw [upd_ne ne]; exact q, ⟨w.b, by rw [upd_ne ne]; exact wf, w.m⟩⟩
/-- the block is left: the slots as they were -/
theorem Rel.unfix {p : Addr} {o : HO} {vs : List Nat} {W0 : Wd} {H0 : Hp} {S0 : Sto} (r0 : Rel K mg W0 F δ S0 σ H0) (hp : H0 p = none) (hv : noOwnAt δ vs = true) (l : W0.Le W) (r : Rel K mg W (upd F p o) (wipeD δ vs) S (wipe σ vs) H) :
    Rel K mg W F δ S σ H ∧ OwnAt W F p ∧ (∀ (k : Nat) (s : Sl), δ[k]? = some s → s.isOwn = true → σ[k]? ≠ some (some (.ref p))) ∧ H p = some o := by
  have fp : F p = none := r0.frame.free hp
  have nv : ∀ {k : Nat} {s : Sl}, δ[k]? = some s → s.isOwn = true → k ∉ vs := fun {k s} e h q => by
    have z := List.all_eq_true.mp hv k q
    simp only [e] at z
    rw [h] at z; cases z
  refine ⟨{ pers := r.pers, frame := fun b u e => r.frame _ _ (by rw [upd_ne (ne_of_none e fp)]; exact e), cell := r.cell, mF := fun i b e => ?_, fb := fun b u e => r.fb b u (by rw [upd_ne (ne_of_none e fp)]; exact e), inj := r.inj, nxm := r.nxm, mt := r.mt, len := r0.len, slot := fun k s x e1 e2 => ?_, sep := r0.sep }, ⟨r.fb p o upd_same, fp, fun i e => ?_⟩, fun k s e1 e2 e3 => ?_, r.frame _ _ upd_same⟩
  · have := r.mF i b e
    by_cases h : b = p
    · subst h; exact fp
    · rw [upd_ne h] at this; exact this
  · by_cases h : k ∈ vs
    · have s0 := r0.slot k s x e1 e2
      cases s with
      | no => trivial
      | x a => exact s0
      | v d => obtain ⟨y, ey, py⟩ := s0; exact ⟨y, ey, py.mono l⟩
      | ol ds => exact absurd h (nv e1 rfl)
      | od ds => exact absurd h (nv e1 rfl)
    · refine (r.slot k s x (by rw [wipeD_out h]; exact e1) (by rw [wipe_out h]; exact e2)).mono (.refl _) fun a u w q => ?_
      have ne : a ≠ p := fun z => by have := w.f; rw [z, upd_same] at this; cases this
      have wf := w.f
      rw [upd_ne ne] at wf
      exact ⟨q, ⟨w.b, wf, w.m⟩⟩
  · have := r.mF i p e
    rw [upd_same] at this; cases this
  · obtain ⟨a, ea, ne⟩ := slot_ne hp (r0.slot k s _ e1 e3) e2
    cases ea
    exact ne rfl
end
def tgtIn (t : Bool × List (Str × Nat)) (vs : List Nat) : Bool := t.2.all fun p => decide (p.2 ∈ vs)
theorem wipe_in {j : Nat} : ∀ {vs : List Nat} {σ : St}, j ∈ vs → j < σ.length → (wipe σ vs)[j]? = some none
  | v :: vs, σ, hj, hl => by
    unfold wipe
    by_cases e : v = j
    · subst e
      rw [List.getElem?_set_self (by rw [wipe_length]; exact hl)]
    · rw [List.getElem?_set_ne e]
      exact wipe_in (by rcases List.mem_cons.mp hj with q | q; exact absurd q.symm e; exact q) hl
theorem wipe_eq {vs : List Nat} {σ τ : St} (hl : σ.length = τ.length) (h : ∀ j, j ∉ vs → σ[j]? = τ[j]?) : wipe σ vs = wipe τ vs := by
  apply List.ext_getElem?
  intro j
  by_cases hj : j ∈ vs
  · by_cases hl' : j < σ.length
    · rw [wipe_in hj hl', wipe_in hj (by omega)]
    · rw [List.getElem?_eq_none (by rw [wipe_length]; omega), List.getElem?_eq_none (by rw [wipe_length]; omega)]
  · rw [wipe_out hj, wipe_out hj, h j hj]
theorem wipe_set {σ : St} {i : Nat} {x : Option V} {vs : List Nat} (h : i ∈ vs) : wipe (σ.set i x) vs = wipe σ vs :=
  wipe_eq (by simp) fun j hj => List.getElem?_set_ne fun e => hj (by rw [← e]; exact h)
theorem wipe_wipe {σ : St} {vs : List Nat} : wipe (wipe σ vs) vs = wipe σ vs := wipe_eq (by rw [wipe_length]) fun j hj => wipe_out hj
/-- as gTgt_ok, and the other slots are as they were -/
theorem gNames_wipe {vs : List Nat} {W : Wd} {F H : Hp} {S : Sto} : ∀ {r : List (Str × Nat)} {ds : List D} {ws : List V} {δ δ' : List Sl} {σ σ0 : St} {Q : St → Hp → Prop}, (∀ p ∈ r, p.2 ∈ vs) → wipe σ vs = wipe σ0 vs → Rel g.K g.mg W F δ S σ H → PVs g.K W ds ws → setMany (r.map (·.2)) ds δ = some δ' →
    (∀ σ', wipe σ' vs = wipe σ0 vs → Rel g.K g.mg W F δ' S σ' H → Q σ' H) → gNames r ws σ H Q
  | [], ds, ws, δ, δ', σ, σ0, Q, hv, w, rel, p, e, q => by
    cases p with
    | nil => cases e; exact ⟨rfl, q σ w rel⟩
    | cons _ _ => cases e
  | x :: r, ds, ws, δ, δ', σ, σ0, Q, hv, w, rel, p, e, q => by
    cases p with
    | nil => cases e
    | @cons d v ds ws h1 h2 =>
      have e' : (if d.isOwn = true then none else setMany (r.map (·.2)) ds (δ.set x.2 (.v d))) = some δ' := e
      split at e'
      · cases e'
      · exact ⟨v, ws, rfl, gNames_wipe (fun p hp => hv p (List.mem_cons_of_mem _ hp)) ((wipe_set (hv x List.mem_cons_self)).trans w) (rel.setV h1) h2 e' q⟩
theorem gTgt_wipe {vs : List Nat} {W : Wd} {F H : Hp} {S : Sto} {t : Bool × List (Str × Nat)} {d : D} {v : V} {δ δ' : List Sl} {σ : St} {Q : St → Hp → Prop} (hv : tgtIn t vs = true) (rel : Rel g.K g.mg W F δ S σ H) (p : PV g.K W d v) (e : bindT t d δ = some δ')
    (q : ∀ σ', wipe σ' vs = wipe σ vs → Rel g.K g.mg W F δ' S σ' H → Q σ' H) : gTgt g.K t v σ H Q := by
  have hv' : ∀ p ∈ t.2, p.2 ∈ vs := fun p hp => of_decide_eq_true (List.all_eq_true.mp hv p hp)
  -- the shape, as without the slots
  have shape := gTgt_ok (Q := fun _ _ => True) rel p e fun _ _ => trivial
  obtain ⟨b, r⟩ := t
  cases b with
  | true =>
    unfold bindT at e
    dsimp only at e
    split at e
    · rename_i ds
      obtain ⟨a, xs, e1, h1, h2, _⟩ := shape
      cases p with
      | @tup a vs' _ ha hp =>
        cases e1
        have hl : xs.length = r.length := h2
        refine ⟨_, vs', rfl, sameT rel.pers ha, ?_, gNames_wipe hv' rfl rel hp e q⟩
        have hl2 : ∀ {is : List Nat} {ds : List D} {δ : List Sl}, setMany is ds δ = some δ' → ds.length = is.length := fun {is} => by
          induction is with
          | nil => intro ds δ e; cases ds with
            | nil => rfl
            | cons _ _ => cases e
          | cons i is ih => intro ds δ e; cases ds with
            | nil => cases e
            | cons d ds =>
              have e' : (if d.isOwn = true then none else setMany is ds (δ.set i (.v d))) = some δ' := e
              split at e'
              · cases e'
              · simp [ih e']
        rw [hp.length, hl2 e]; simp
    · cases e
  | false => exact gNames_wipe hv' rfl rel (.cons p .nil) e q
theorem wipeD_eq {vs : List Nat} {σ τ : List Sl} (hl : σ.length = τ.length) (h : ∀ j, j ∉ vs → σ[j]? = τ[j]?) : wipeD σ vs = wipeD τ vs := by
  apply List.ext_getElem?
  intro j
  by_cases hj : j ∈ vs
  · by_cases hl' : j < σ.length
    · rw [wipeD_in hj hl', wipeD_in hj (by omega)]
    · rw [List.getElem?_eq_none (by rw [wipeD_length]; omega), List.getElem?_eq_none (by rw [wipeD_length]; omega)]
  · rw [wipeD_out hj, wipeD_out hj, h j hj]
theorem wipeD_wipe {δ : List Sl} {vs : List Nat} : wipeD (wipeD δ vs) vs = wipeD δ vs := wipeD_eq (by rw [wipeD_length]) fun j hj => wipeD_out hj
theorem setMany_wipe {vs : List Nat} : ∀ {is : List Nat} {ds : List D} {δ δ' : List Sl}, (∀ i ∈ is, i ∈ vs) → setMany is ds δ = some δ' → wipeD δ' vs = wipeD δ vs
  | [], [], δ, δ', _, e => by cases e; rfl
  | [], _ :: _, δ, δ', _, e => by cases e
  | _ :: _, [], δ, δ', _, e => by cases e
  | i :: is, d :: ds, δ, δ', h, e => by
    have e' : (if d.isOwn = true then none else setMany is ds (δ.set i (.v d))) = some δ' := e
    split at e'
    · cases e'
    · rw [setMany_wipe (fun j hj => h j (List.mem_cons_of_mem _ hj)) e']
      exact wipeD_eq (by simp) fun j hj => List.getElem?_set_ne fun z => hj (by rw [← z]; exact h i List.mem_cons_self)
theorem bind_wipe {vs : List Nat} {t : Bool × List (Str × Nat)} {d : D} {δ δ' : List Sl} (hv : tgtIn t vs = true) (e : bindT t d δ = some δ') : wipeD δ' vs = wipeD δ vs := by
  have hv' : ∀ i ∈ t.2.map (·.2), i ∈ vs := fun i hi => by
    obtain ⟨p, hp, rfl⟩ := List.mem_map.mp hi
    exact of_decide_eq_true (List.all_eq_true.mp hv p hp)
  obtain ⟨b, r⟩ := t
  cases b with
  | true =>
    unfold bindT at e
    dsimp only at e
    split at e
    · exact setMany_wipe hv' e
    · cases e
  | false => exact setMany_wipe hv' e
theorem lc_ref {vs : List Nat} {t : Bool × List (Str × Nat)} {ms : DM Src} {mt : DM Bool} {me : DM D} {wi : XK → TI} {tt : XK → TT} {te : XK → TE} (ri : ∀ E W F δ S σ H R, Rel g.K g.mg W F δ S σ H → Post g (SrcOk g) W F δ σ E R (ms δ S) → wi E σ H R)
    (rt : ∀ E W F δ S σ H Q, Rel g.K g.mg W F δ S σ H → Post g VB W F δ σ E Q (mt δ S) → tt E σ H Q) (re : ∀ E W F δ S σ H Q, Rel g.K g.mg W F δ S σ H → Post g (VD g σ) W F δ σ E Q (me δ S) → te E σ H Q) (hv : tgtIn t vs = true) :
    ∀ E W F δ S σ H Q, Rel g.K g.mg W F δ S σ H → PostF g W F δ σ E Q (fLc t vs ms mt me δ S) → tLc (wi E) (gTgt g.K t) (tt eF) (te eF) vs σ H Q := fun E W F δ S σ H Q rel post => by
  unfold fLc at post
  have post0 : PostF g W F δ σ E Q ((ms δ S).bind fun src S => if noOwnAt δ (vs) = true then lcL src (bindT t) mt me (srcLen S src + 1) 0 [] (wipeD δ (vs)) S else .stuck) := post
  refine ri E W F δ S σ H _ rel ?_
  cases em : ms δ S with
  | stuck => rw [em] at post0; exact post0.elim
  | exc c S1 => rw [em] at post0; exact post0
  | ok src S1 =>
    rw [em] at post0
    intro W1 J H1 l1 rel1 hs D hD
    have post1 : PostF g W F δ σ E Q (if noOwnAt δ (vs) = true then lcL src (bindT t) mt me (srcLen S1 src + 1) 0 [] (wipeD δ (vs)) S1 else .stuck) := post0
    split at post1
    · rename_i hno
      refine ⟨fun i n H => ∃ W' S acc ds, W1.Le W' ∧ Rel g.K g.mg W' (upd F D (.lst acc)) (wipeD δ (vs)) S (wipe σ (vs)) H ∧ PVs g.K W' ds acc ∧ PostF g W F δ σ E Q (lcL src (bindT t) mt me n i ds (wipeD δ (vs)) S),
        ⟨_, W1, S1, [], [], .refl _, (rel1.wiped _).fix hD, .nil, post1⟩, ?_⟩
      rintro i n H2 ⟨W2, S2, acc, ds, l2, rel2, hds, post2⟩
      cases n with
      | zero => exact post2.elim
      | succ n =>
        unfold lcL at post2
        cases es : srcAt S2 src i with
        | none => rw [es] at post2; exact post2.elim
        | some od =>
          rw [es] at post2
          cases od with
          | none =>
            refine .inl ⟨hs.stop W2 _ _ S2 _ H2 i l2 rel2 es, ?_⟩
            obtain ⟨r1, r2, r3, r4⟩ := rel1.unfix hD hno l2 rel2
            exact post2 W2 (.ref D) H2 (l1.trans l2) r1 ⟨D, acc, rfl, r4, hds, r2, r3⟩
          | some d =>
            obtain ⟨go, yl⟩ := hs.go W2 _ _ S2 _ H2 i d l2 rel2 es
            refine .inr ⟨go, fun H => ∃ W' S acc ds, W1.Le W' ∧ Rel g.K g.mg W' (upd F D (.lst acc)) (wipeD δ (vs)) S (wipe σ (vs)) H ∧ PVs g.K W' ds acc ∧ PostF g W F δ σ E Q (lcL src (bindT t) mt me n (i + 1) ds (wipeD δ (vs)) S), fun H' z => ⟨n, Nat.lt_succ_self _, z⟩, fun x H3 y => ?_⟩
            obtain ⟨W3, l3, rel3, px⟩ := yl x H3 y
            dsimp only at post2
            cases eb : bindT t d (wipeD δ (vs)) with
            | none => rw [eb] at post2; exact post2.elim
            | some δ1 =>
              rw [eb] at post2
              refine gTgt_wipe hv rel3 px eb fun σ' hw rel4 => ?_
              refine ⟨hw.trans wipe_wipe, rt eF W3 _ δ1 S2 σ' H3 _ rel4 ?_⟩
              have l13 := l2.trans l3
              have wrel : ∀ {W' : Wd} {F' : Hp} {S' : Sto} {H' : Hp}, Rel g.K g.mg W' F' δ1 S' σ' H' → Rel g.K g.mg W' F' (wipeD δ (vs)) S' (wipe σ (vs)) H' := fun {W' F' S' H'} r => by
                have r' := r.wiped (vs)
                rw [hw.trans wipe_wipe] at r'
                have ed : wipeD δ1 (vs) = wipeD δ (vs) := (bind_wipe hv eb).trans wipeD_wipe
                rw [ed] at r'
                exact r'
              dsimp only at post2
              cases et : mt δ1 S2 with
              | stuck => rw [et] at post2; exact post2.elim
              | exc cc S3 => rw [et] at post2; exact post2.elim
              | ok bb S3 =>
                rw [et] at post2
                intro W4 b' H4 l4 rel5 eb'
                cases eb'
                cases bb with
                | false =>
                  exact ⟨W4, S3, acc, ds, l13.trans l4, wrel rel5, (hds.mono l3).mono l4, post2⟩
                | true =>
                  dsimp only at post2
                  refine re eF W4 _ δ1 S3 σ' H4 _ rel5 ?_
                  cases ee : me δ1 S3 with
                  | stuck => rw [ee] at post2; exact post2.elim
                  | exc cc S4 => rw [ee] at post2; exact post2.elim
                  | ok yd S4 =>
                    rw [ee] at post2
                    intro W5 yv H5 l5 rel6 hy
                    dsimp only at post2
                    split at post2
                    · rename_i hq
                      obtain ⟨q1, q2⟩ := Bool.and_eq_true_iff.mp hq
                      have py := hy.pv (by simpa using q1)
                      have ll := (l3.trans l4).trans l5
                      refine ⟨acc, rel6.frame _ _ upd_same, by rw [hds.length, sizeLine_eq]; exact of_decide_eq_true q2, W5, S4, acc ++ [yv], ds ++ [yd], l2.trans ll, (wrel rel6).refix, (hds.mono ll).append (.cons py .nil), post2⟩
                    · exact post2.elim
    · exact post1.elim
theorem f_lc {tg : Expr} {ifs : List Expr} {scope : Scope} {own : List (Str × Nat)} {t : Bool × List (Str × Nat)} {ms : DM Src} {mt : DM Bool} {me : DM D} (cold : g.hot = none) (hi : IOk g N sc k tg a ms) (ht : tgtOf N tg = some t) (hl : t.2.all (fun p => decide ((relS scope sc).names.lookup p.1 = some .local)) = true)
    (hc : IfsOk g N (relS scope sc) k ifs mt) (he : EOk g N (relS scope sc) k e me) (hb : blkC N sc scope own = true) (hv : tgtIn t (own.map (·.2)) = true) (hp : plainIter a = true) :
    FOk g N sc k (.ListComp e [⟨tg, a, ifs, 0⟩] scope pos) (fLc t (own.map (·.2)) ms mt me) := by
  obtain ⟨wi, pi, ri⟩ := hi.ex
  obtain ⟨tt, pt, rt⟩ := hc.ex
  obtain ⟨te, pe, re⟩ := he.ex
  refine ⟨⟨fun E => tLc (wi E) (gTgt g.K t) (tt eF) (te eF) (own.map (·.2)), fun X E cx tk => ?_, lc_ref ri rt re hv⟩⟩
  · refine pe_lc (cx.calm cold) cx.nd (pi X E cx tk) (by rw [cx.hN, cx.hs]; exact blkOk_by hb) (fun s H C cl fp => ?_) (fun s H C cl fp => pt _ _ (ctx_blk cold cx s H scope C cl fp) (takes_blk _ _ _ _ _)) (fun s H C cl fp => pe _ _ (ctx_blk cold cx s H scope C cl fp) (takes_blk _ _ _ _ _)) (fun x => fold_of hp _ x)
    have cb := ctx_blk cold cx s H scope C cl fp
    have ek := cx.hK
    show PG _ tg (gTgt g.K t)
    rw [← ek]
    refine pg_tgt (cb.calm cold) cb.nd (by rw [cb.hN]; exact ht) fun p hp => ?_
    have z := of_decide_eq_true (List.all_eq_true.mp hl p hp)
    rw [cb.hs]
    exact ⟨.inl z, .inr z⟩
end DM


end
section
set_option Elab.async false
set_option linter.all false
set_option maxRecDepth 100000
set_option autoImplicit false
namespace DM
open PySem PySem.Spec L2
variable {g : GE} {k : Nat} {N : List Str} {sc : Scope} {a b c e o : Expr} {es : List Expr} {ma mb mc mo mi : DM D} {mr mf : DM (List D)} {pos pos' apos tpos : Pos} {sts : List Stmt} {m : DS} {st : Stmt} {i : Nat} {x : Str}

/-! ### name = a fresh list -/
theorem post_cell {W : Wd} {F : Hp} {δ : List Sl} {S : Sto} {σ : St} {E : XK} {Q : VK} (post : Post g (VD g σ) W F δ σ E Q (dCell mf δ S)) : PostF g W F δ σ E Q (mf δ S) := by
  unfold dCell dBind at post
  cases e : mf δ S with
  | ok ds S' =>
    rw [e] at post
    intro W' v H' l rel ⟨⟨a, vs, ev, ha, pv, w, n⟩⟩
    subst ev
    have l2 := le_cell (p := a) rel.m_none
    exact post (W'.cell S'.nx a) _ H' (l.trans l2) (rel.newCell ha w ⟨vs, ha, pv.mono l2⟩ n) (.inl (.ref (by show (if S'.nx = S'.nx then some a else _) = some a; rw [if_pos rfl])))
  | exc c S' => rw [e] at post; exact post
  | stuck => rw [e] at post; exact post
structure AsgOk (g : GE) (N : List Str) (sc : Scope) (k : Nat) (i : Nat) (st : Stmt) (m : DM (List D)) : Prop where
  ex : ∃ t : XK → TE, (∀ X E, StCtx g N sc k X → TakesE X E → PS X st (tAsg (t E) (gName i))) ∧
    ∀ E W F δ S σ H Q, Rel g.K g.mg W F δ S σ H → PostF g W F δ σ E Q (m δ S) → t E σ H Q
theorem asg_f (hi : N[i]? = some x) (hl : locB sc x = true) (h : FOk g N sc k e mf) (hn : notComp e = true) : AsgOk g N sc k i (.Assign [.Name x pos'] e pos) mf := by
  obtain ⟨t, p, r⟩ := h.ex
  exact ⟨⟨t, fun X E cx tk => ps_set cx.nd (by rw [cx.hN]; exact hi) (by rw [cx.hs]; exact loc_of hl) (p X E cx.toCtxOk tk) (swap_of hn _ _ _) (.inl (cx.fn x)), r⟩⟩
theorem swap_cell {elt : Expr} {gs : List Comprehension} {scope : Scope} {env : Env} {y : Str} {p py : Pos} {l : Nat} (hy : env.scope.names.lookup y = some .cell) : swapsWith (.ListComp elt gs scope p) (some (.Name y py)) l env = pure false := by
  have ky : env.kindOf y = some .cell := hy
  unfold swapsWith
  simp only [ky]
  show pure _ = pure false
  congr 1
  simp
theorem asg_c {elt : Expr} {gs : List Comprehension} {scope : Scope} {cp : Pos} (hi : N[i]? = some x) (hl : sc.names.lookup x = some .cell) (h : FOk g N sc k (.ListComp elt gs scope cp) mf) : AsgOk g N sc k i (.Assign [.Name x pos'] (.ListComp elt gs scope cp) pos) mf := by
  obtain ⟨t, p, r⟩ := h.ex
  exact ⟨⟨t, fun X E cx tk => ps_set cx.nd (by rw [cx.hN]; exact hi) (by rw [cx.hs]; exact .inr hl) (p X E cx.toCtxOk tk) (swap_cell (by rw [cx.hs]; exact hl)) (.inl (cx.fn x)), r⟩⟩
/-- the parts of a comprehension -/
structure LcParts (g : GE) (N : List Str) (sc : Scope) (k : Nat) (tg a : Expr) (ifs : List Expr) (e : Expr) (scope : Scope) (own : List (Str × Nat)) (t : Bool × List (Str × Nat)) (ms : DM Src) (mt : DM Bool) (me : DM D) : Prop where
  hi : IOk g N sc k tg a ms
  ht : tgtOf N tg = some t
  hl : t.2.all (fun p => decide ((relS scope sc).names.lookup p.1 = some .local)) = true
  hc : IfsOk g N (relS scope sc) k ifs mt
  he : EOk g N (relS scope sc) k e me
  hb : blkC N sc scope own = true
  hv : tgtIn t (own.map (·.2)) = true
  hp : plainIter a = true
section
variable {tg : Expr} {ifs : List Expr} {scope : Scope} {own : List (Str × Nat)} {t : Bool × List (Str × Nat)} {ms : DM Src} {mt : DM Bool} {me : DM D} {cp : Pos}
theorem LcParts.f (cold : g.hot = none) (h : LcParts g N sc k tg a ifs e scope own t ms mt me) : FOk g N sc k (.ListComp e [⟨tg, a, ifs, 0⟩] scope pos) (fLc t (own.map (·.2)) ms mt me) := f_lc cold h.hi h.ht h.hl h.hc h.he h.hb h.hv h.hp
theorem asg_lc {cp : Pos} (cold : g.hot = none) (h : LcParts g N sc k tg a ifs e scope own t ms mt me) (hi : N[i]? = some x) (hl : sc.names.lookup x = some .local) (hk : sc.kind = .function) (hline : (pos'.line == cp.line) = true) (hno : (scope.names.any fun (n, k) => n == x && (k == .local || k == .cell)) = false) :
    AsgOk g N sc k i (.Assign [.Name x pos'] (.ListComp e [⟨tg, a, ifs, 0⟩] scope cp) pos) (fLc t (own.map (·.2)) ms mt me) := by
  obtain ⟨wi, pi, ri⟩ := h.hi.ex
  obtain ⟨tt, pt, rt⟩ := h.hc.ex
  obtain ⟨te, pe, re⟩ := h.he.ex
  refine ⟨⟨fun E => tLc (wi E) (gTgt g.K t) (tt eF) (te eF) (own.map (·.2)), fun X E cx tk => ?_, lc_ref ri rt re h.hv⟩⟩
  have cx' := cx.toCtxOk
  refine ps_setLc (cx'.calm cold) cx'.nd (by rw [cx'.hN]; exact hi) (by rw [cx'.hs]; exact hl) (sw_true (by rw [cx'.hs]; exact hk) (by rw [cx'.hs]; exact hl) hline hno) (pi X E cx' tk) (by rw [cx'.hN, cx'.hs]; exact blkOk_by h.hb) (fun s H C cl fp => ?_) (fun s H C cl fp => pt _ _ (ctx_blk cold cx' s H scope C cl fp) (takes_blk _ _ _ _ _)) (fun s H C cl fp => pe _ _ (ctx_blk cold cx' s H scope C cl fp) (takes_blk _ _ _ _ _)) (fun x => fold_of h.hp _ x)
  have cb := ctx_blk cold cx' s H scope C cl fp
  have ek := cx'.hK
  show PG _ tg (gTgt g.K t)
  rw [← ek]
  refine pg_tgt (cb.calm cold) cb.nd (by rw [cb.hN]; exact h.ht) fun p hp => ?_
  have z := of_decide_eq_true (List.all_eq_true.mp h.hl p hp)
  rw [cb.hs]
  exact ⟨.inl z, .inr z⟩
end
theorem s_asg_own (h : AsgOk g N sc k i st mf) : SOk g N sc k st (sSetF i mf) := by
  obtain ⟨t, p, r⟩ := h.ex
  exact ⟨⟨fun E => tAsg (t E) (gName i), p, fun E W F δ S σ H Dn rel post => r E W F δ S σ H _ rel (postSF_bind post fun x S1 W1 v H1 _ l1 rel1 hx post1 => setF_post rel1 hx post1)⟩⟩
theorem s_asg_frz (h : AsgOk g N sc k i st mf) : SOk g N sc k st (sSet i (dFrz mf)) := by
  obtain ⟨t, p, r⟩ := h.ex
  exact ⟨⟨fun E => tAsg (t E) (gName i), p, fun E W F δ S σ H Dn rel post => r E W F δ S σ H _ rel (post_frz (postS_bind post fun x S1 W1 v H1 _ l1 rel1 hx post1 => set_post rel1 hx post1))⟩⟩
theorem s_asg_cell (h : AsgOk g N sc k i st mf) : SOk g N sc k st (sSet i (dCell mf)) := by
  obtain ⟨t, p, r⟩ := h.ex
  exact ⟨⟨fun E => tAsg (t E) (gName i), p, fun E W F δ S σ H Dn rel post => r E W F δ S σ H _ rel (post_cell (postS_bind post fun x S1 W1 v H1 _ l1 rel1 hx post1 => set_post rel1 hx post1))⟩⟩
end DM


end
section
set_option Elab.async false
set_option linter.all false
set_option maxRecDepth 100000
set_option autoImplicit false
namespace DM
open PySem PySem.Spec L2
variable {g : GE} {k : Nat} {N : List Str} {sc : Scope} {a b c e o : Expr} {es : List Expr} {ma mb mc mo mi : DM D} {mr mf : DM (List D)} {pos pos' apos tpos : Pos} {sts : List Stmt} {m : DS} {st : Stmt}

/-! ### isinstance of the exception that is handled -/
def exR (K : PySem.W.Frag) (D x : Addr) (cv : Value) (r : Bool) : List V → Hp → VK → Prop := fun xs H Q => ∃ c : V, xs = [.ref x, c] ∧ (∀ u, RelV c u → u = cv) ∧ Q (.bl r) H
theorem exc_isi {X : Cx} {x D : Addr} {ob : Obj} {cv : Value} {r : Bool} (C : ExcC X.K D) (hz : Zc (.ref D) none ob) (hf : ∃ vs, ob.data = .fields vs) (hp : (x, ob) ∈ X.pn) (hk : PySem.W.kitOne X.K (.ref D) cv = some r) : CallR X (.builtin "isinstance") (exR X.K D x cv r) := by
  rintro pins s σ H xs us Q I rel ⟨c, rfl, hcv, q⟩
  obtain ⟨u1, u2, rfl, r1, r2⟩ : ∃ u1 u2, us = [u1, u2] ∧ RelV (.ref x) u1 ∧ RelV c u2 := by
    cases rel with
    | cons p q => cases q with
      | cons p' q' => cases q'; exact ⟨_, _, rfl, p, p'⟩
  have h1 : u1 = Value.ref x := r1
  subst h1
  have h2 := hcv _ r2
  subst h2
  have hget := (I.pin (x, ob) (List.mem_append_left _ hp)).1
  have J : PySem.W.InstAt s.heap x ob D none := by
    obtain ⟨vs, hv⟩ := hf
    cases ob
    obtain ⟨z1, z2⟩ := hz
    simp only at z1 z2 hv
    subst z1 z2 hv
    exact ⟨hget, rfl, rfl, trivial⟩
  exact PySem.W.kia_one (PySem.W.handS_kitx_exc C.hg C.hk C.hs C.hd C.ha C.hn C.ht C.hm) I.kIn J hk (fun z => nomatch z) fun tk => ⟨.bl r, H, I.kept (t' := tk) fun _ _ z => z, rfl, q⟩
/-- the class that a name means: an own one, a built-in one -/
inductive ClsN (g : GE) (T : Str) : Value → Prop
  | own (C : Addr) : g.mg T = some (.ref C) → ClsN g T (.ref C)
  | bi (t : String) : BiAt g T (.type t) → ClsN g T (.type t)
def dIsE (x : Addr) (i : Nat) (r : Bool) : DM D := fun δ S => match δ[i]? with
  | some (.x y) => if y = x then .ok (.bl r) S else .stuck
  | _ => .stuck
theorem e_isE {x D : Addr} {cn : Str} {i : Nat} {v T : Str} {cv : Value} {r : Bool} {p p1 p2 : Pos} (hot : g.hot = some (x, cn)) (hc : g.mg cn = some (.ref D)) (C : ExcC g.K D) (hk : PySem.W.kitOne g.K (.ref D) cv = some r) (hT : ClsN g T cv)
    (hb : BiAt g "isinstance" (.builtin "isinstance")) (hg : sc.names.lookup ("isinstance" : Str) = some .globalImplicit) (hg2 : sc.names.lookup T = some .globalImplicit) (hd : (T == ("__debug__" : Str)) = false)
    (hi : N[i]? = some v) (hv : visB sc v = true) (h1 : (v == ("__debug__" : Str)) = false) (h2 : (v == ("__classdict__" : Str)) = false) :
    EOk g N sc k (.Call (.Name "isinstance" p) [.Name v p1, .Name T p2] [] pos) (dIsE x i r) := by
  have key : ∃ w : V, (∀ u, RelV w u → u = cv) ∧ ∀ X : Cx, CtxOk g N sc k X → PE X (.Name T p2) (tC w) := by
    cases hT with
    | own C h => exact ⟨.ref C, fun u e => e, fun X cx => pe_glob (gl_of cx hg2) (by rw [cx.hm]; exact h) rfl hd⟩
    | bi t h => exact ⟨.ty t, fun u e => e, fun X cx => pe_bltn (gl_of cx hg2) (by rw [cx.hm]; exact h.free) h.boot rfl h.n1 h.n2⟩
  obtain ⟨w, hw, pw⟩ := key
  refine ⟨⟨fun E => tCB (exR g.K D x cv r) (tCons (tVar i) (tCons (tC w) tNil)), fun X E cx tk => ?_, fun E W F δ S σ H Q rel post => ?_⟩⟩
  · obtain ⟨ob, z1, z2, z3⟩ := cx.px _ _ hot
    have ez : clsV g.mg cn = .ref D := by unfold clsV; rw [hc]; rfl
    rw [ez] at z1
    have pv : PE X (.Name v p1) (tVar i) := pe_var (by rw [cx.hN]; exact hi) (by rw [cx.hs]; exact vis_of hv) h1 h2
    exact pe_callB (by rw [← cx.hK]; exact exc_isi (by rw [cx.hK]; exact C) z1 z2 z3 (by rw [cx.hK]; exact hk)) (gl_of cx hg) (by rw [cx.hm]; exact hb.free) hb.boot (pa_cons pv (pa_cons (pw X cx) pa_nil)) hb.n1 hb.n2
  · unfold dIsE at post
    have hl := rel.len
    cases e : δ[i]? with
    | none => rw [e] at post; exact post.elim
    | some s =>
      rw [e] at post
      have hi2 : i < σ.length := by rw [← hl]; exact (List.getElem?_eq_some_iff.mp e).1
      have sl := rel.slot i s σ[i] e (by simp [hi2])
      cases s with
      | x y =>
        dsimp only at post
        split at post
        · rename_i ey
          subst ey
          have sl' : σ[i] = some (V.ref y) := sl
          exact ⟨_, by rw [List.getElem?_eq_getElem hi2, sl'], w, rfl, hw, post W _ H (.refl _) rel (.inl (.bl r))⟩
        · exact post.elim
      | _ => exact post.elim

/-! ### a def that is called with the exception in an except suite -/
structure FnX (g : GE) (k : Nat) (f : Addr) (fd : FuncData) (ps : List Str) (cls : Value) (sp : Addr → Sp) : Prop where
  run : ∀ (A : Around) (outer : List Env) (s : Shared) (H : Hp) (args : Args) (us : List Value) (Q : VK) (E : XK) (x : Addr) (ob : Obj), L2H.RoomH k A → L2H.PinOk outer H s (x, ob) → Zc cls none ob → (∃ vs, ob.data = .fields vs) →
    Env0 g.P g.w g.K g.mg g.base A outer s H → BindsTo s fd args (ps.zip us) → Vals [V.ref x] us → sp x [V.ref x] H Q E → codeAny (model g.P g.w) A (.call (.ref f) args) (CR (L2.CX g.P g.w) outer g.P g.w H s Q E) s
theorem FnX.mono {j k : Nat} {f : Addr} {fd : FuncData} {ps : List Str} {cls : Value} {sp : Addr → Sp} (h : FnX g j f fd ps cls sp) (l : j ≤ k) : FnX g k f fd ps cls sp :=
  ⟨fun A outer s H args us Q E x ob hr => h.run A outer s H args us Q E x ob (hr.mono l)⟩
theorem fnx_of {x qual : Str} {st : Stmt} {f : Addr} {fd : FuncData} {N : List Str} {pn : Str} {k : Nat} {cls : Value} {sp : Addr → Sp} (F : Fun g.K x qual st f fd) (S : FnScope N [pn] (defScope st))
    (hbody : ∀ (cdv : Value) (A : Around) (outer : List Env) (s : Shared) (H : Hp) (Q : VK) (E : XK) (x : Addr) (ob : Obj), L2H.RoomH k (A.deeper (PyProof.Rows.envOfC qual (defScope st) s.heap.objs.size f cdv)) → Zc cls none ob → (∃ vs, ob.data = .fields vs) → sp x [V.ref x] H Q E →
      ∃ t, PSs (L2H.cxH (L2.CX g.P g.w) g.P g.w g.K g.mg g.base N qual (defScope st) f cdv A outer s H E (x, ob)) (defBody st) t ∧ t { nx := fun _ H' => Q .non H', rt := Q } (L2.start N [V.ref x]) H) : FnX g (k + 1) f fd [pn] cls sp := by
  obtain ⟨oc, od, kV, doc, pm, an, cdv, ct, osl, rfl, lk, hcd⟩ := F.ex
  refine ⟨fun A outer s H args us Q E x ob hr hpin hz hf e0 hb r hsp => ?_⟩
  have keep : ∀ b o, g.base.get? b = some o → s.heap.get? b = some o := fun b o e => (e0.bs b o e).1
  have inK : g.K.In s.heap := e0.mod.kin.keeps keep
  refine codeAny_call_function hr.depth (inK _ _ lk) rfl S.co S.gen rfl (PySem.W.codeRec_of inK hcd) (hb _ _ _ _ ?_)
  have kinds : ∀ y ∈ [pn].zip us, (defScope st).names.lookup y.1 = some .local ∨ ((defScope st).names.lookup y.1 = some .cell ∧ ((cellsFrom (s.heap.objs.size + 1) (defScope st).names []).lookup y.1).isSome = true) := fun y hy =>
    (S.par y.1 (List.of_mem_zip (show (y.1, y.2) ∈ _ from hy)).1).imp id fun q => ⟨q, PySem.W.cellsFrom_some _ _ _ (.inl q)⟩
  refine wpAny_newFunctionEnv_cells S.kind kinds fun env he s1 st1 => ?_
  subst he
  obtain ⟨t, ht, hq⟩ := hbody cdv A outer s H Q E x ob (hr.deeper _) hz hf hsp
  refine ⟨(e0.mod.nolimit.keeps keep).keeps st1.toInCall.keep, codeAny_func ?_⟩
  have I := L2H.inv_startH (CX := L2.CX g.P g.w) (E := E) (vs := [V.ref x]) S hpin e0 rfl r st1
  refine wpAny_mono (ht.run [] s1 _ H _ I hq) (fun fl s2 done => ?_) fun _ _ z => z
  cases fl with
  | ret u => obtain ⟨v, σ2, H2, J, rv, q⟩ := done; exact ⟨v, H2, J.os, J.bare, J.base, J.hok, rv, q⟩
  | next => obtain ⟨σ2, H2, J, q⟩ := done; exact ⟨V.non, H2, J.os, J.bare, J.base, J.hok, rfl, q⟩
  | brk => obtain ⟨_, _, _, q⟩ := done; exact q.elim
  | cont => obtain ⟨_, _, _, q⟩ := done; exact q.elim
def semX (x : Addr) (n : Nat) (m : DS) : Sto → R RV := fun S => match m (Sl.x x :: List.replicate (n - 1) Sl.no) S with
  | .nx _ S' => .ok (.val .non) S'
  | .ret r S' => .ok r S'
  | .exc c S' => .exc c S'
  | _ => .stuck
def spX (g : GE) (sem : Addr → Sto → R RV) (x : Addr) : Sp := fun _ H Q E => ∃ W F S, RelH g.K g.mg W F S H ∧ PostC g W F E Q (sem x S)
def GE.heat (g : GE) (x : Addr) (c : Str) : GE := { g with hot := some (x, c) }
theorem fnx_sound {x qual cn : Str} {st : Stmt} {f : Addr} {fd : FuncData} {N : List Str} {pn : Str} {k : Nat} {m : Addr → DS} (F : Fun g.K x qual st f fd) (S : FnScope N [pn] (defScope st)) (h : ∀ x, BOk (g.heat x cn) N (defScope st) k (defBody st) (m x)) :
    FnX g (k + 1) f fd [pn] (clsV g.mg cn) (spX g fun x => semX x N.length (m x)) := by
  refine fnx_of F S fun cdv A outer s H Q E x ob hr hz hf ⟨W, F', S0, rel, post⟩ => ?_
  obtain ⟨t, p, r⟩ := (h x).ex
  have cx : StCtx (g.heat x cn) N (defScope st) k (L2H.cxH (L2.CX g.P g.w) g.P g.w g.K g.mg g.base N qual (defScope st) f cdv A outer s H E (x, ob)) :=
    { hP := rfl, hw := rfl, hK := rfl, hm := rfl, hb := rfl, hN := rfl, hs := rfl, calmC := fun z => (nomatch z), room := hr, hd := fun z => (nomatch z), px := fun a c e => by cases e; exact ⟨ob, hz, hf, List.mem_singleton.mpr rfl⟩, nd := S.nd, stk := rfl, fr := rfl, fn := fun _ => rfl, pass := passes_of rfl }
  have hN : 1 ≤ N.length := by
    have := congrArg List.length S.pre
    rw [List.length_take] at this
    simp at this
    omega
  refine ⟨t E, p _ E cx (takes_of rfl rfl rfl rfl), r E W F' (Sl.x x :: List.replicate (N.length - 1) Sl.no) S0 _ H _ ?_ ?_⟩
  · refine { rel with len := ?_, slot := fun j s o e1 e2 => ?_, sep := fun i j s t a e1 e2 h1 h2 _ _ => ?_ }
    · unfold L2.start; simp
    · cases j with
      | zero => cases e1; unfold L2.start at e2; simp at e2; exact e2.symm
      | succ j =>
        rw [List.getElem?_cons_succ, List.getElem?_replicate] at e1
        split at e1
        · cases e1; trivial
        · cases e1
    · have no : ∀ (j : Nat) (s : Sl), (Sl.x x :: List.replicate (N.length - 1) Sl.no)[j]? = some s → s.isOwn = true → False := fun j s e h => by
        rcases List.mem_cons.mp (List.mem_of_getElem? e) with q | q
        · rw [q] at h; cases h
        · rw [List.mem_replicate] at q; rw [q.2] at h; cases h
      exact (no i s e1 h1).elim
  · dsimp only [semX] at post
    cases q : m x (Sl.x x :: List.replicate (N.length - 1) Sl.no) S0 with
    | nx δ' S' => rw [q] at post; exact fun W' σ' H' l rel' => post W' _ H' l rel'.toRelH .non
    | brk δ' S' => rw [q] at post; exact post.elim
    | cnt δ' S' => rw [q] at post; exact post.elim
    | ret rv S' => rw [q] at post; exact fun W' v H' l rel' p => post W' v H' l rel' p
    | exc c S' => rw [q] at post; exact post
    | stuck => rw [q] at post; exact post
end DM


end
section
set_option Elab.async false
set_option linter.all false
set_option maxRecDepth 100000
set_option autoImplicit false
namespace DM
open PySem PySem.Spec L2
variable {g : GE} {k : Nat} {N : List Str} {sc : Scope} {a b c e o : Expr} {es : List Expr} {ma mb mc mo mi : DM D} {mr mf : DM (List D)} {pos pos' apos tpos : Pos} {sts : List Stmt} {m : DS} {st : Stmt}

/-! ### try -/
/-- 'except P' takes an exception of each of these classes -/
structure TakeAt (g : GE) (P : Str) (cs : List Str) : Prop where
  ex : ∃ C, g.mg P = some (.ref C) ∧ ∀ c ∈ cs, PySem.W.exmOne g.K (clsV g.mg c) (.ref C) = some true
def sTry (hnd : Str → Sto → R RV) (b : DS) : DS := fun δ S => match b δ S with
  | .exc c S' => match hnd c S' with
    | .ok rv S2 => .ret rv S2
    | _ => .stuck
  | r => r
/-- an exception's wish, whatever the slots are -/
def offS (n : Nat) (W : WX) : XK := fun c d H => ∀ σ : St, σ.length = n → W c d σ H
theorem takes_off {X : Cx} {W : WX} (tk : Takes X W) : TakesE X (offS X.N.length W) := fun u s' ⟨a, B, sI, pins, σ, H, cls, d, e, I, nb, up, sky, na, os, ag, w⟩ =>
  tk u s' ⟨a, B, sI, pins, σ, H, cls, d, e, I, nb, up, sky, na, os, ag, w σ I.len⟩
theorem ctx_tr {X : Cx} (cold : g.hot = none) (cx : StCtx g N sc k X) (pn : List (Addr × Obj)) (xe : Value → Shared → Prop) (hp : PassesOwn (model X.prog X.w) X.A X.env xe) : StCtx g N sc k (X.tr pn xe) :=
  { hP := cx.hP, hw := cx.hw, hK := cx.hK, hm := cx.hm, hb := cx.hb, hN := cx.hN, hs := cx.hs, calmC := cx.calmC, room := cx.room, hd := cx.hd, px := fun a c e => (by rw [cold] at e; cases e), nd := cx.nd, stk := cx.stk, fr := cx.fr, fn := cx.fn, pass := hp }
theorem names_of {X : Cx} {P : Str} {C : Addr} (cx : CtxOk g N sc k X) (hm : g.mg P = some (.ref C)) (hg : sc.names.lookup P = some .globalImplicit) (hd : (P == ("__debug__" : Str)) = false) : Names X P (.ref C) :=
  ⟨gl_of cx hg, hd, .inl (by rw [cx.hm]; exact hm)⟩
theorem tryPost {W : Wd} {F : Hp} {E E' : XK} {Dn : Ends} {r : RS} {hnd : Str → Sto → R RV} (post : PostS g W F E Dn (match r with
  | .exc c S' => match hnd c S' with
    | .ok rv S2 => .ret rv S2
    | _ => .stuck
  | r => r)) (hE : ∀ c S', r = .exc c S' → ∀ rv S2, hnd c S' = .ok rv S2 → (∀ W' v H', W.Le W' → RelH g.K g.mg W' F S2 H' → RVV g.K W' F H' rv v → Dn.rt v H') → ∀ W' H', W.Le W' → RelH g.K g.mg W' F S' H' → E' (clsV g.mg c) none H') : PostS g W F E' Dn r := by
  cases r with
  | exc c S' =>
    dsimp only at post
    cases e : hnd c S' with
    | ok rv S2 => rw [e] at post; exact hE c S' rfl rv S2 e post
    | exc _ _ => rw [e] at post; exact post.elim
    | stuck => rw [e] at post; exact post.elim
  | nx δ S => exact post
  | brk δ S => exact post
  | cnt δ S => exact post
  | ret rv S => exact post
  | stuck => exact post
def hndStr (cs : List Str) (x : Str) : Str → Sto → R RV := fun c S => if c ∈ cs then .ok (.val (.str x)) S else .stuck
theorem s_try_str (cold : g.hot = none) {P x : Str} {cs : List Str} {np p1 p2 p3 : Pos} {j : Nat} (hT : TakeAt g P cs) (hg : sc.names.lookup P = some .globalImplicit) (hd : (P == ("__debug__" : Str)) = false) (hb : BOk g N sc k sts m) :
    SOk g N sc k (.Try sts [.ExceptHandler (some (.Name P np)) none [.Return (some (.Constant (.str x) j p1)) p2] p3] [] [] pos) (sTry (hndStr cs x) m) := by
  obtain ⟨t, p, r⟩ := hb.ex
  obtain ⟨C, hC, hcs⟩ := hT.ex
  refine ⟨⟨fun E => fun D σ H => t (offS N.length (wOnly g.K (.ref C) (fun _ _ _ => tRet (tC (.str x))) (fun _ _ _ _ => False) D)) D σ H, fun X E cx tk => ?_, fun E W F δ S σ H Dn rel post => ?_⟩⟩
  · rw [← cx.hK, ← cx.hN]
    exact ps_try_only (tb := fun W => t (offS X.N.length W)) cx.stk cx.fr (names_of cx.toCtxOk hC hg hd) takes0 (fun W pn xe tk' hp => p _ _ (ctx_tr cold cx pn xe hp) (takes_off tk')) (fun a oe cls d pn hz hf => pss_one (ps_ret pe_str))
  · refine r _ W F δ S σ H Dn rel (tryPost (E := E) (hnd := hndStr cs x) post fun c S' _ rv S2 eh done W' H' l q => fun σ' _ => ?_)
    unfold hndStr at eh
    split at eh
    · rename_i hc
      cases eh
      exact ⟨true, hcs c hc, fun _ a ha => done W' _ H' l q (.str x), fun z => nomatch z⟩
    · cases eh
/-- f(n) in the suite, n the exception -/
def tCallX (i : Nat) (sp : Addr → Sp) : TE := fun σ H Q => ∃ x, σ[i]? = some (some (V.ref x)) ∧ sp x [V.ref x] H Q eF
theorem pe_callX {X : Cx} {i : Nat} {x : Addr} {ob : Obj} {cls : Value} {pn : List (Addr × Obj)} {fn n pr : Str} {f : Addr} {fd : FuncData} {sp : Addr → Sp} {q p1 : Pos} {N : List Str} {sc : Scope} {j : Nat} (cx : StCtx g N sc k X) (F : FnX g j f fd [pr] cls sp) (hj : j ≤ k) (hz : Zc cls none ob) (hf : ∃ vs, ob.data = .fields vs)
    (hm : g.mg fn = some (.ref f)) (hk : PySem.W.keepIn g.K (.ref f) = true) (hb : Binds g.K fd [pr] []) (hg : sc.names.lookup fn = some .globalImplicit) (hd : (fn == ("__debug__" : Str)) = false)
    (hi : N[i]? = some n) (hv : visB sc n = true) (h1 : (n == ("__debug__" : Str)) = false) (h2 : (n == ("__classdict__" : Str)) = false) :
    PE (X.suite x ((x, ob) :: pn)) (.Call (.Name fn q) [.Name n p1] [] pos) (fun σ H Q => σ[i]? = some (some (V.ref x)) ∧ sp x [V.ref x] H Q eF) := by
  refine ⟨fun pins s σ H Q I ⟨hs, h⟩ => ?_⟩
  have pv : PE (X.suite x ((x, ob) :: pn)) (.Name n p1) (tVar i) := pe_var (X := X.suite x ((x, ob) :: pn)) (by rw [← cx.hN] at hi; exact hi) (show Vis X.env.scope n by rw [cx.hs]; exact vis_of hv) h1 h2
  refine wpAny_Call_Name_kw (ld_glob I (show Gl X fn from gl_of cx.toCtxOk hg) (show X.mg fn = _ by rw [cx.hm]; exact hm) ?_ hd)
  have pa : PA (X.suite x ((x, ob) :: pn)) [.Name n p1] (tCons (tVar i) tNil) := pa_cons pv pa_nil
  have wish : tCons (tVar i) tNil σ H fun vs H1 => vs = [V.ref x] ∧ sp x [V.ref x] H1 Q eF := ⟨V.ref x, hs, rfl, h⟩
  refine PySem.W.callWith_K (h₀ := X.base) I.ok.mod.kin (show PySem.W.keepIn X.K (.ref f) = true by rw [cx.hK]; exact hk) (thn (pa.run pos pins s σ H _ I wish) fun us s1 ⟨vs, H1, I1, r, ev, q⟩ => ⟨I1.kIn, ?_⟩) rfl rfl
  subst ev
  have hl : us.length = 1 := by rw [← r.length]; rfl
  have bd := hb s1 us (by have := I1.kIn; rw [show (X.suite x ((x, ob) :: pn)).K = X.K from rfl, cx.hK] at this; exact this) (by rw [List.append_nil]; exact hl)
  rw [List.append_nil] at bd
  have P1 := I1.pin (x, ob) (List.mem_append_left _ List.mem_cons_self)
  have hpin : L2H.PinOk X.stack H1 s1 (x, ob) := ⟨P1.1, P1.2.1, fun hm => (List.mem_cons.mp (I1.stkSub x hm)).elim P1.2.2.1 P1.2.2.2.1, P1.2.2.2.2⟩
  have rm : L2H.RoomH j (X.A.mark (some (.ref x))) := ⟨(cx.room.mono hj).dp, (cx.room.mono hj).un⟩
  have e0 := I1.env0
  have run := F.run (X.A.mark (some (.ref x))) X.stack s1 H1 ⟨us, []⟩ us Q eF x ob rm hpin hz hf (by rw [← cx.hP, ← cx.hw, ← cx.hK, ← cx.hm, ← cx.hb]; exact e0) bd r q
  have ep := cx.hP
  have ew := cx.hw
  rw [← ep, ← ew] at run
  refine wpAny_call (codeAny_mono run fun res s' hq => ?_)
  cases res with
  | error e =>
    obtain ⟨_, _, _, _, _, _, _, _, _, _, _, _, z⟩ := hq
    exact z.elim
  | ok fl =>
    cases fl with
    | ret u => exact I1.after hq
    | next => exact hq.elim
    | brk => exact hq.elim
    | cont => exact hq.elim
/-- the def that a handler calls: what it answers to an exception of each class -/
structure WhichAt (g : GE) (k : Nat) (fn : Str) (cs : List Str) (sw : Str → Sto → R RV) : Prop where
  ex : ∃ (f : Addr) (fd : FuncData) (pr : Str), g.mg fn = some (.ref f) ∧ PySem.W.keepIn g.K (.ref f) = true ∧ Binds g.K fd [pr] [] ∧ ∀ c ∈ cs, FnX g k f fd [pr] (clsV g.mg c) (spX g fun _ => sw c)
def hndWhich (cs : List Str) (sw : Str → Sto → R RV) : Str → Sto → R RV := fun c S => if c ∈ cs then sw c S else .stuck
theorem s_try_which (cold : g.hot = none) {P fn n : Str} {cs : List Str} {sw : Str → Sto → R RV} {i j : Nat} {np q p1 p2 p3 p4 : Pos} (hT : TakeAt g P cs) (hW : WhichAt g j fn cs sw) (hj : j ≤ k) (hg : sc.names.lookup P = some .globalImplicit) (hd : (P == ("__debug__" : Str)) = false)
    (hg2 : sc.names.lookup fn = some .globalImplicit) (hd2 : (fn == ("__debug__" : Str)) = false) (hi : N[i]? = some n) (hn : sc.names.lookup n = some .local) (h1 : (n == ("__debug__" : Str)) = false) (h2 : (n == ("__classdict__" : Str)) = false) (hb : BOk g N sc k sts m) :
    SOk g N sc k (.Try sts [.ExceptHandler (some (.Name P np)) (some n) [.Return (some (.Call (.Name fn q) [.Name n p1] [] p2)) p3] p4] [] [] pos) (sTry (hndWhich cs sw) m) := by
  obtain ⟨t, p, r⟩ := hb.ex
  obtain ⟨C, hC, hcs⟩ := hT.ex
  obtain ⟨f, fd, pr, w1, w2, w3, w4⟩ := hW.ex
  have hv : visB sc n = true := by unfold visB; rw [hn]
  let ts : Addr → Value → Option Addr → TS := fun x cls d D σ H => ∃ c ∈ cs, cls = clsV g.mg c ∧ d = none ∧ tRet (fun σ H Q => σ[i]? = some (some (V.ref x)) ∧ spX g (fun _ => sw c) x [V.ref x] H Q eF) D σ H
  refine ⟨⟨fun E => fun D σ H => t (offS N.length (wAs g.K (.ref C) i ts (fun _ _ _ _ => False) D)) D σ H, fun X E cx tk => ?_, fun E W F δ S σ H Dn rel post => ?_⟩⟩
  · rw [← cx.hK, ← cx.hN]
    refine ps_try_as (tb := fun W => t (offS X.N.length W)) cx.stk cx.fr cx.nd (by rw [cx.hN]; exact hi) (show X.env.scope.names.lookup n = _ by rw [cx.hs]; exact hn) (names_of cx.toCtxOk hC hg hd) takes0 (fun W pn xe tk' hp => p _ _ (ctx_tr cold cx pn xe hp) (takes_off tk')) (fun x oe cls d pn hz hf => pss_one ⟨fun pins s σ H D I h => ?_⟩)
    obtain ⟨c, hc, rfl, rfl, h⟩ := h
    exact (ps_ret (pe_callX cx (w4 c hc) hj hz hf w1 w2 w3 hg2 hd2 hi hv h1 h2)).run pins s σ H D I h
  · refine r _ W F δ S σ H Dn rel (tryPost (E := E) (hnd := hndWhich cs sw) post fun c S' _ rv S2 eh done W' H' l q => fun σ' hσ => ?_)
    unfold hndWhich at eh
    split at eh
    · rename_i hc
      refine ⟨true, hcs c hc, fun _ a ha => ⟨c, hc, rfl, rfl, ?_, W', F, S', q, ?_⟩, fun z => nomatch z⟩
      · have hi2 : i < N.length := (List.getElem?_eq_some_iff.mp hi).1
        rw [List.getElem?_set_self (by rw [hσ]; exact hi2)]
      · show PostC g W' F eF _ (sw c S')
        rw [eh]
        exact fun W2 v H2 l2 q2 pv => done W2 v H2 (l.trans l2) q2 pv
    · cases eh
end DM


end
section
set_option Elab.async false
set_option linter.all false
set_option maxRecDepth 100000
set_option autoImplicit false
namespace DM
open PySem PySem.Spec L2
variable {g : GE} {k : Nat} {N : List Str} {sc : Scope} {a b c e o : Expr} {es : List Expr} {ma mb mc mo mi : DM D} {mr mf : DM (List D)} {pos pos' apos tpos : Pos} {sts : List Stmt} {m : DS} {st : Stmt}

/-! ### makers -/
theorem MakeAt.mono {g : GE} {j k : Nat} {C : Str} {n : Nat} {sem : Sem} (h : MakeAt g j C n sem) (l : j ≤ k) : MakeAt g k C n sem := by
  obtain ⟨Ca, f, fd, ps, h1, h2, h3, h4, h5⟩ := h.ex
  exact ⟨⟨Ca, f, fd, ps, h1, h2, h3, h4, h5.mono l⟩⟩
theorem make_post {W1 : Wd} {F H1 : Hp} {δ : List Sl} {S1 : Sto} {σ : St} {E : XK} {Q : VK} {C : Str} {n : Nat} {sem : Sem} {ds : List D} {vs : List V} {Ca : Addr} (hC : g.mg C = some (.ref Ca)) (rel1 : Rel g.K g.mg W1 F δ S1 σ H1) (hxs : VVs g.K W1 σ ds vs)
    (post1 : Post g (VD g σ) W1 F δ σ E Q (match callN (n + 1) sem (.ref S1.nx :: ds) (S1.new (.obj C [])) with
      | .ok (.val .non) S' => .ok (.ref S1.nx) S'
      | .exc c S' => .exc c S'
      | _ => .stuck)) {x dx : Addr} (nx : H1 x = none) (ndx : H1 dx = none) (ne : dx ≠ x) :
    spOf g (n + 1) sem (.ref x :: vs) (upd (upd H1 dx (.own x)) x (.ins Ca dx [])) (fun v H2 => v = .non ∧ Q (.ref x) H2) E := by
  have rel2 := rel1.grow (o := .own x) ndx
  have nx2 : upd H1 dx (.own x) x = none := by rw [upd_ne (Ne.symm ne)]; exact nx
  have rel3 := rel2.grow (o := .ins Ca dx []) nx2
  have own : OwnAt W1 F x := ⟨rel1.pers.free nx, rel1.frame.free nx, fun i e => rel1.mt i x e nx⟩
  have nsl : ∀ (k : Nat) (s : Sl), δ[k]? = some s → s.isOwn = true → σ[k]? ≠ some (some (.ref x)) := fun k s e1 e2 e3 => by
    obtain ⟨a, ea, ne⟩ := slot_ne nx (rel1.slot k s _ e1 e3) e2
    cases ea
    exact ne rfl
  have l2 := le_cell (p := x) rel1.m_none
  have rel4 := rel3.newCell (x := .obj C []) (p := x) (o := .ins Ca dx []) upd_same own ⟨Ca, dx, [], hC, upd_same, .nil⟩ nsl
  have px : PV g.K (W1.cell S1.nx x) (.ref S1.nx) (.ref x) := .ref (by show (if S1.nx = S1.nx then some x else _) = some x; rw [if_pos rfl])
  refine call_sp rel4 (.cons (.inl px) (hxs.mono l2)) (fun z => ?_) ?_
  · rw [z] at post1; exact post1.elim
  · cases hc : callN (n + 1) sem (.ref S1.nx :: ds) (S1.new (.obj C [])) with
    | ok rv S' =>
      rw [hc] at post1
      cases rv with
      | ol ds => exact post1.elim
      | val d =>
        cases d with
        | non =>
          intro W' v H' l q p
          cases p
          exact ⟨rfl, post1 W' _ H' (l2.trans l) (rel4.back l q) (.inl (px.mono l))⟩
        | _ => exact post1.elim
    | exc c S' =>
      rw [hc] at post1
      exact fun W' H' l q => post1 W' H' (l2.trans l) (rel4.toRelH.back q)
    | stuck => rw [hc] at post1; exact post1.elim
theorem e_make0 {C : Str} {sem : Sem} {p : Pos} (cold : g.hot = none) (F : MakeAt g k C 0 sem) (hg : sc.names.lookup C = some .globalImplicit) (hx : (C == ("__debug__" : Str)) = false) : EOk g N sc (k + 1) (.Call (.Name C p) [] [] pos) (dMake C 0 sem dNil) := by
  obtain ⟨Ca, f, fd, ps, h1, h2, h3, h4, h5⟩ := F.ex
  refine ⟨⟨fun E => tMake Ca (spOf g 1 sem) [] E tNil, fun X E cx tk => pe_make0 (by rw [cx.hK]; exact h2) (FnOk.at cx h5) (cx.roomC cold) (gl_of cx hg) (by rw [cx.hm]; exact h1) (by rw [cx.hK]; exact h3) .nil (passE tk) hx, fun E W F δ S σ H Q rel post => ?_⟩⟩
  intro x dx nx ndx ne
  exact make_post h1 rel .nil post nx ndx ne

/-! ### dicts -/
def dDic0 : DM D := fun _ S => .ok (.ref S.nx) (S.new (.dic []))
theorem new_dic {W : Wd} {F H : Hp} {δ : List Sl} {S : Sto} {σ : St} {E : XK} {Q : VK} {kvs : List (Key × D)} {ls : List (Key × V)} {p : Addr} (rel : Rel g.K g.mg W F δ S σ H) (ha : H p = some (.dK ls)) (w : OwnAt W F p) (n : ∀ (k : Nat) (s : Sl), δ[k]? = some s → s.isOwn = true → σ[k]? ≠ some (some (.ref p))) (pv : PVk g.K W kvs ls)
    (post : Post g (VD g σ) W F δ σ E Q (.ok (.ref S.nx) (S.new (.dic kvs)))) : Q (.ref p) H := by
  have l2 := le_cell (p := p) rel.m_none
  exact post (W.cell S.nx p) _ H l2 (rel.newCell ha w ⟨ls, ha, pv.mono l2⟩ n) (.inl (.ref (by show (if S.nx = S.nx then some p else _) = some p; rw [if_pos rfl])))
theorem own_new {W : Wd} {F H : Hp} {δ : List Sl} {S : Sto} {σ : St} {p : Addr} (rel : Rel g.K g.mg W F δ S σ H) (hp : H p = none) : OwnAt W F p ∧ ∀ (k : Nat) (s : Sl), δ[k]? = some s → s.isOwn = true → σ[k]? ≠ some (some (.ref p)) :=
  ⟨⟨rel.pers.free hp, rel.frame.free hp, fun i e => rel.mt i p e hp⟩, fun k s e1 e2 e3 => by
    obtain ⟨a, ea, ne⟩ := slot_ne hp (rel.slot k s _ e1 e3) e2
    cases ea
    exact ne rfl⟩
theorem e_dict0 : EOk g N sc k (.Dict [] [] pos) dDic0 := by
  refine ⟨⟨fun _ => tDNewK, fun X E cx tk => pe_dnewK, fun E W F δ S σ H Q rel post => fun p hp => ?_⟩⟩
  obtain ⟨w, n⟩ := own_new rel hp
  exact new_dic (rel.grow hp) upd_same w n .nil post
/-- the pairs of a written dict, the keys texts -/
structure PsOk (g : GE) (N : List Str) (sc : Scope) (k : Nat) (keys : List (Option Expr)) (vals : List Expr) (m : DM (List (Key × D))) : Prop where
  ex : ∃ t : XK → List (TE × TE), (∀ X E pos, CtxOk g N sc k X → TakesE X E → PPs X pos keys vals (t E)) ∧ (∀ E W F δ S σ H (Q : List (V × V) → Hp → Prop), Rel g.K g.mg W F δ S σ H →
    Post g (fun W kvs (ps : List (V × V)) => ∃ ls : List (Key × V), ps = ls.map (fun kv => (kV kv.1, kv.2)) ∧ PVk g.K W kvs ls) W F δ σ E Q (m δ S) → tPairs (t E) σ H Q)
def dPs0 : DM (List (Key × D)) := fun _ S => .ok [] S
def dPs (x : Str) (m : DM D) (r : DM (List (Key × D))) : DM (List (Key × D)) := dBind m fun d => dBind r fun kvs _ S => if d.isOwn = true then .stuck else .ok ((.inr x, d) :: kvs) S
theorem ps_nil : PsOk g N sc k [] [] dPs0 := ⟨⟨fun _ => [], fun X E pos cx tk => pps_nil, fun E W F δ S σ H Q rel post => post W [] H (.refl _) rel ⟨[], rfl, .nil⟩⟩⟩
theorem ps_cons {x : Str} {j : Nat} {p : Pos} {keys : List (Option Expr)} {vals : List Expr} {mm : DM (List (Key × D))} (h : EOk g N sc k e ma) (r : PsOk g N sc k keys vals mm) : PsOk g N sc k (some (.Constant (.str x) j p) :: keys) (e :: vals) (dPs x ma mm) := by
  obtain ⟨t, pt, rt⟩ := h.ex
  obtain ⟨u, pu, ru⟩ := r.ex
  refine ⟨⟨fun E => (tC (.str x), t E) :: u E, fun X E pos cx tk => pps_cons pe_str (pt X E cx tk) (pu X E pos cx tk), fun E W F δ S σ H Q rel post => ?_⟩⟩
  refine rt E W F δ S σ H _ rel (post_bind post fun d S1 W1 v H1 _ l1 rel1 hx post1 => ?_)
  refine ru E W1 F δ S1 σ H1 _ rel1 (post_bind post1 fun kvs S2 W2 ps H2 _ l2 rel2 hps post2 => ?_)
  obtain ⟨ls, rfl, pv⟩ := hps
  cases ho : d.isOwn with
  | true => rw [ho] at post2; exact post2.elim
  | false =>
    rw [ho] at post2
    exact post2 W2 _ H2 (.refl _) rel2 ⟨(.inr x, v) :: ls, rfl, .cons ((hx.mono l2).pv ho) pv⟩
def mergeD (kvs more : List (Key × D)) : List (Key × D) := more.foldl (fun acc kv => putD acc kv.1 kv.2) kvs
theorem PVk.merge {K : PySem.W.Frag} {W : Wd} : ∀ {m : List (Key × D)} {l : List (Key × V)} {kvs : List (Key × D)} {ls : List (Key × V)}, PVk K W m l → PVk K W kvs ls → PVk K W (mergeD kvs m) (mergeK ls l)
  | _, _, _, _, .nil, h => h
  | (k, d) :: m, (_, v) :: l, kvs, ls, .cons p q, h => by
    show PVk K W (mergeD (putD kvs k d) m) (mergeK (putK ls k v) l)
    exact PVk.merge q (h.put p k)
def dDic (m : DM (List (Key × D))) : DM D := dBind m fun kvs _ S => if kvs.length ≤ 15 then .ok (.ref S.nx) (S.new (.dic (mergeD [] kvs))) else .stuck
theorem e_dict {keys : List (Option Expr)} {vals : List Expr} {mm : DM (List (Key × D))} (h : PsOk g N sc k keys vals mm) (hall : keys.all (·.isSome) = true) (hl : keys.length = vals.length) (h0 : keys ≠ []) (h15 : keys.length ≤ 15) : EOk g N sc k (.Dict keys vals pos) (dDic mm) := by
  obtain ⟨t, pt, rt⟩ := h.ex
  refine ⟨⟨fun E => tDisp (t E), fun X E cx tk => pe_disp (pt X E pos cx tk) hall hl h0 h15, fun E W F δ S σ H Q rel post => fun p hp => ?_⟩⟩
  have rel1 := rel.fix (o := .dK []) hp
  refine rt E W _ δ S σ _ _ rel1 ?_
  have post0 : Post g (VD g σ) W F δ σ E Q ((mm δ S).bind fun kvs S => if kvs.length ≤ 15 then .ok (.ref S.nx) (S.new (.dic (mergeD [] kvs))) else .stuck) := post
  cases em : mm δ S with
  | stuck => rw [em] at post0; exact post0.elim
  | exc c S1 =>
    rw [em] at post0
    intro W1 H1 l1 r1
    have fp : F p = none := rel.frame.free hp
    exact post0 W1 H1 l1 { pers := r1.pers, frame := fun b u e => r1.frame _ _ (by rw [upd_ne (ne_of_none e fp)]; exact e), cell := r1.cell, mF := fun i b e => (by
      have := r1.mF i b e
      by_cases h : b = p
      · subst h; exact fp
      · rw [upd_ne h] at this; exact this), fb := fun b u e => r1.fb b u (by rw [upd_ne (ne_of_none e fp)]; exact e), inj := r1.inj, nxm := r1.nxm, mt := r1.mt }
  | ok kvs S1 =>
    rw [em] at post0
    intro W1 ps H1 l1 rel2 hps
    obtain ⟨ls, rfl, pv⟩ := hps
    have post1 : Post g (VD g σ) W F δ σ E Q (if kvs.length ≤ 15 then .ok (.ref S1.nx) (S1.new (.dic (mergeD [] kvs))) else .stuck) := post0
    split at post1
    · rename_i h15'
      have hl' : ls.length ≤ 15 := by rw [pv.length]; exact h15'
      refine ⟨rel2.frame _ _ upd_same, ls, rfl, hl', ?_⟩
      have rel3 := rel2.refix (o' := .dK (mergeK [] ls))
      obtain ⟨r1, r2, r3, r4⟩ := rel.unfix (vs := []) hp rfl l1 rel3
      exact new_dic (E := E) r1 r4 r2 r3 (pv.merge .nil) (Post.mono (r := R.ok (D.ref S1.nx) (S1.new (.dic (mergeD [] kvs)))) post1 l1)
    · exact post1.elim

/-! ### list(range(n)) -/
def rgD (n : Int) : List D := (List.range n.toNat).map fun i => D.int (i : Nat)
def fRg (m : DM D) : DM (List D) := dBind m fun x _ S => match x with
  | .int n => if (okI n && Nat.ble n.toNat 16777216) = true then .ok (rgD n) S else .stuck
  | _ => .stuck
theorem rg_pv {K : PySem.W.Frag} {W : Wd} (n : Int) : PVs K W (rgD n) (rgV 0 n) := by
  unfold rgD rgV
  rw [Int.sub_zero]
  generalize n.toNat = j
  have h : ∀ l : List Nat, PVs K W (l.map fun i => D.int (i : Nat)) (l.map fun i => V.int (0 + (i : Nat))) := fun l => by
    induction l with
    | nil => exact .nil
    | cons i l ih => refine .cons ?_ ih; show PV K W (.int _) (.int (0 + _)); rw [Int.zero_add]; exact .int _
  exact h _
theorem f_listRg {p p2 pos2 : Pos} (cold : g.hot = none) (hb : BiAt g "list" (.type "list")) (hb2 : BiAt g "range" (.type "range")) (hg : sc.names.lookup ("list" : Str) = some .globalImplicit) (hg2 : sc.names.lookup ("range" : Str) = some .globalImplicit) (ha : EOk g N sc k a ma) (hs : notStar a = true) :
    FOk g N sc k (.Call (.Name "list" p) [.Call (.Name "range" p2) [a] [] pos2] [] pos) (fRg ma) := by
  obtain ⟨t, pt, rt⟩ := ha.ex
  refine ⟨⟨fun E => tLstRg (tRg1 (t E)), fun X E cx tk => pe_listRg (cx.calm cold) (gl_of cx hg) (by rw [cx.hm]; exact hb.free) (prg_1 (gl_of cx hg2) (by rw [cx.hm]; exact hb2.free) (pt X E cx tk) (star_of hs _)), fun E W F δ S σ H Q rel post => ?_⟩⟩
  refine rt E W F δ S σ H _ rel (postF_bind post fun x S1 W1 v H1 _ l1 rel1 hx post1 => ?_)
  try dsimp only at post1
  cases x with
  | int n =>
    cases hx.pv rfl
    try dsimp only at post1
    split at post1
    · rename_i h
      obtain ⟨h1, h2⟩ := Bool.and_eq_true_iff.mp h
      obtain ⟨h3, h4⟩ := okI_ok h1
      have h5 := Nat.le_of_ble_eq_true h2
      refine ⟨n, rfl, ⟨by omega, by omega, h3, h4, by omega⟩, fun q hq => post1 W1 _ _ (.refl _) (rel1.grow hq) (fresh_new rel1 hq (rg_pv n))⟩
    · exact post1.elim
  | _ => exact post1.elim

/-! ### defs by the head -/
structure DefAt (g : GE) (x : Str) (st : Stmt) : Prop where
  ex : ∃ f fd, g.mg x = some (.ref f) ∧ Fun g.K x x st f fd
theorem fun_of {K : PySem.W.Frag} {x qual : Str} {st : Stmt} {f : Addr} {fd : FuncData} (h : FunD K x qual (defArgs st) (defBody st) (defScope st) [] [] f fd) : Fun K x qual st f fd := by
  obtain ⟨⟨oc, od, dV, kV, doc, pm, an, cdv, ct, osl, h1, h2, h3, h4, h5⟩, kp⟩ := h
  have e : dV = .none := by
    rcases h4 with ⟨_, e⟩ | ⟨n, _⟩
    · exact e
    · exact absurd rfl n
  subst e
  exact ⟨⟨oc, od, kV, doc, pm, an, cdv, ct, osl, h1, h2, h3⟩, kp⟩
theorem fnAt_of {x : Str} {ps : List Str} {n : Nat} (cold : g.hot = none) (h : DefAt g x st) (S : FnScope N ps (defScope st)) (hn : ps.length = n) (bd : ∀ f fd, Fun g.K x x st f fd → Binds g.K fd ps []) (hb : BOk g N (defScope st) k (defBody st) m) : FnAt g (k + 1) x n (semOf n N.length m) := by
  obtain ⟨f, fd, h1, F⟩ := h.ex
  exact ⟨⟨f, fd, ps, h1, F.kp, bd f fd F, hn, fn_sound cold F S hn hb⟩⟩
structure MethDef (g : GE) (C x qual : Str) (st : Stmt) : Prop where
  ex : ∃ Ca f fd, g.mg C = some (.ref Ca) ∧ Cls g.K Ca ∧ Meth g.K Ca x f ∧ Fun g.K x qual st f fd
theorem methAt_of {C x qual : Str} {ps : List Str} {n : Nat} (cold : g.hot = none) (h : MethDef g C x qual st) (S : FnScope N ps (defScope st)) (hn : ps.length = n) (bd : ∀ f fd, Fun g.K x qual st f fd → Binds g.K fd ps []) (hb : BOk g N (defScope st) k (defBody st) m) : MethAt g (k + 1) C x n (semOf n N.length m) := by
  obtain ⟨Ca, f, fd, h1, h2, h3, F⟩ := h.ex
  exact ⟨⟨Ca, f, fd, ps, h1, h2, h3, bd f fd F, hn, fn_sound cold F S hn hb⟩⟩
structure MakeDef (g : GE) (C qual : Str) (st : Stmt) : Prop where
  ex : ∃ Ca f fd, g.mg C = some (.ref Ca) ∧ Mk g.K Ca f ∧ Fun g.K "__init__" qual st f fd
theorem makeAt_of {C qual : Str} {ps : List Str} {n : Nat} (cold : g.hot = none) (h : MakeDef g C qual st) (S : FnScope N ps (defScope st)) (hn : ps.length = n + 1) (bd : ∀ f fd, Fun g.K "__init__" qual st f fd → Binds g.K fd ps []) (hb : BOk g N (defScope st) k (defBody st) m) : MakeAt g (k + 1) C n (semOf (n + 1) N.length m) := by
  obtain ⟨Ca, f, fd, h1, h2, F⟩ := h.ex
  exact ⟨⟨Ca, f, fd, ps, h1, h2, bd f fd F, hn, fn_sound cold F S hn hb⟩⟩
end DM



end
section
set_option Elab.async false
set_option linter.all false
set_option maxRecDepth 100000
set_option autoImplicit false
namespace DM
open PySem PySem.Spec L2
variable {g : GE} {k : Nat} {N : List Str} {sc : Scope} {e : Expr} {es : List Expr} {sts : List Stmt} {st : Stmt}
/-! ### what is not read -/
def dStuck {α : Type} : DM α := fun _ _ => .stuck
def sStuck : DS := fun _ _ => .stuck
theorem e_stuck : EOk g N sc k e dStuck := ⟨⟨fun _ _ _ _ => False, fun X E cx tk => ⟨fun _ _ _ _ _ _ h => h.elim⟩, fun E W F δ S σ H Q rel post => post⟩⟩
theorem t_stuck : TOk g N sc k e dStuck := ⟨⟨fun _ _ _ _ => False, fun X E cx tk => ⟨fun _ _ _ _ _ _ h => h.elim⟩, fun E W F δ S σ H Q rel post => post⟩⟩
theorem f_stuck : FOk g N sc k e dStuck := ⟨⟨fun _ _ _ _ => False, fun X E cx tk => ⟨fun _ _ _ _ _ _ h => h.elim⟩, fun E W F δ S σ H Q rel post => post⟩⟩
theorem s_stuck : SOk g N sc k st sStuck := ⟨⟨fun _ _ _ _ => False, fun X E cx tk => ⟨fun _ _ _ _ _ _ h => h.elim⟩, fun E W F δ S σ H Dn rel post => post⟩⟩
theorem b_stuck : BOk g N sc k sts sStuck := ⟨⟨fun _ _ _ _ => False, fun X E cx tk => ⟨fun _ _ _ _ _ _ h => h.elim⟩, fun E W F δ S σ H Dn rel post => post⟩⟩
end DM


end
section
set_option Elab.async false
set_option linter.all false
set_option maxRecDepth 100000
set_option autoImplicit false
namespace DM
open PySem PySem.Spec L2
theorem BiAt.heat {g : GE} {x : Str} {v : Value} {a : Addr} {c : Str} (h : BiAt g x v) : BiAt (g.heat a c) x v := ⟨h.free, h.boot, h.n1, h.n2⟩
theorem ClsN.heat {g : GE} {T : Str} {v : Value} {a : Addr} {c : Str} (h : ClsN g T v) : ClsN (g.heat a c) T v := by
  cases h with
  | own C h => exact .own C h
  | bi t h => exact .bi t h.heat
theorem clsV_of {mg : Str → Option Value} {c : Str} {D : Addr} (h : mg c = some (.ref D)) : clsV mg c = .ref D := by unfold clsV; rw [h]; rfl
theorem whichAt_of {g : GE} {x pr : Str} {N : List Str} {st : Stmt} {cs : List Str} {k : Nat} {m : Addr → Str → DS} {sw : Str → Sto → R RV} (h : DefAt g x st) (S : FnScope N [pr] (defScope st)) (bd : ∀ f fd, Fun g.K x x st f fd → Binds g.K fd [pr] [])
    (w : ∀ c ∈ cs, ∀ a, BOk (g.heat a c) N (defScope st) k (defBody st) (m a c)) (e : ∀ c ∈ cs, ∀ a S, semX a N.length (m a c) S = sw c S) : WhichAt g (k + 1) x cs sw := by
  obtain ⟨f, fd, h1, F⟩ := h.ex
  refine ⟨⟨f, fd, pr, h1, F.kp, bd f fd F, fun c hc => ?_⟩⟩
  have q := fnx_sound (cn := c) F S (w c hc)
  have e2 : (fun a => semX a N.length (m a c)) = fun _ => sw c := funext fun a => funext fun S => e c hc a S
  rw [e2] at q
  exact q
end DM


end
section
set_option Elab.async false
set_option linter.all false
set_option maxRecDepth 100000
set_option autoImplicit false
namespace DM
open PySem PySem.Spec L2
/-! ### facts off the head -/
theorem allAt {bs : List Bool} (h : bs.all (fun b => b) = true) (i : Nat) {b : Bool} (e : bs[i]? = some b) : b = true :=
  List.all_eq_true.mp h b (List.mem_of_getElem? e)
def dvD : He.Dv → D
  | .int i => .int i
  | .str x => .str x
  | .bl b => .bl b
  | _ => .non
def dvOk : He.Dv → Bool
  | .int _ => true
  | .str _ => true
  | .bl _ => true
  | _ => false
def excCB (K : PySem.W.Frag) (x : Str) : Bool :=
  decide (PySem.W.findIn K (.ref (He.ga K x)) "__getattribute__" = some (some (.builtin "BaseException.__getattribute__"))) && (decide (PySem.W.findIn K (.ref (He.ga K x)) "__getattr__" = some none) &&
  (decide (PySem.W.subIn K (.ref (He.ga K x)) (.type "BaseException") = some true) && (PySem.W.hasDictIn K (He.ga K x) && (decide (PySem.W.findIn K (.ref (He.ga K x)) "__class__" = some (some (.builtin "object.__class__"))) &&
  (decide (PySem.W.specialIn K (.builtin "object.__class__") "__get__" = some (some (.builtin "getset_descriptor.__get__"))) && (decide (PySem.W.takesIn K (.builtin "object.__class__") = some true) && decide (PySem.W.mroIn K (He.ga K x) (.type "object") = some true)))))))
/-- the class that a name means -/
def clsOf (K : PySem.W.Frag) (T : Str) (t : Option String) : Value := match t with
  | some t => .type t
  | none => .ref (He.ga K T)
section
variable {K : PySem.W.Frag} {h : Heap} {mg : Str → Option Value} {P : Program} {w : World} {base : Heap} {x : Str}
theorem ev_int {i : Int} (X : K.In h) (G : h.Ns mainGlobals mg) (c : (He.Fa.int x i).ok K = true) : GConst (GE.mk P w K mg base none) x (.int i) := by
  obtain ⟨t, e⟩ := He.int_ok X G c
  exact ⟨_, .int i, e, ⟨t, rfl⟩, fun W => .int i⟩
theorem ev_str {z : Str} (X : K.In h) (G : h.Ns mainGlobals mg) (c : (He.Fa.str x z).ok K = true) : GConst (GE.mk P w K mg base none) x (.str z) := by
  obtain ⟨t, e⟩ := He.str_ok X G c
  exact ⟨_, .str z, e, ⟨t, rfl⟩, fun W => .str z⟩
theorem dvs_pv {W : Wd} : ∀ {vs : List He.Dv}, vs.all dvOk = true → PVs K W (vs.map dvD) (vs.map (He.Dv.v K))
  | [], _ => .nil
  | v :: vs, e => by
    simp only [List.all_cons, Bool.and_eq_true] at e
    refine .cons ?_ (dvs_pv e.2)
    cases v with
    | int i => exact .int i
    | str i => exact .str i
    | bl i => exact .bl i
    | _ => cases e.1
theorem ev_tup {vs : List He.Dv} {ds : List D} (X : K.In h) (G : h.Ns mainGlobals mg) (c : (He.Fa.glo x).ok K = true) (c2 : He.tupB K x vs = true) (ho : vs.all dvOk = true) (e : ds = vs.map dvD) : GConst (GE.mk P w K mg base none) x (.tup ds) := by
  subst e
  exact ⟨_, .ref (He.ga K x), He.glo_ok X G c, rfl, fun W => .tup (He.tupB_ok c2 W.B) (dvs_pv ho)⟩
theorem ev_bi {v : Value} (X : K.In h) (G : h.Ns mainGlobals mg) (c : (He.Fa.free x).ok K = true) (b : bootBuiltins x = some v) (n1 : x ≠ "__name__") (n2 : (x == ("__debug__" : Str)) = false) : BiAt (GE.mk P w K mg base none) x v := ⟨He.free_ok X G c, b, n1, n2⟩
theorem ev_exc (X : K.In h) (G : h.Ns mainGlobals mg) (c1 : (He.Fa.glo x).ok K = true) (c : (He.Fa.exc x).ok K = true) : ExcAt (GE.mk P w K mg base none) x := by
  obtain ⟨h1, h2, h3, h4⟩ := He.exc_ok c
  exact ⟨⟨_, He.glo_ok X G c1, h1, h2, h3, h4⟩⟩
theorem ev_at {f : Str} (X : K.In h) (G : h.Ns mainGlobals mg) (c1 : (He.Fa.glo x).ok K = true) (c2 : (He.Fa.cls x).ok K = true) (c3 : (He.Fa.noat x f).ok K = true) : AttrAt (GE.mk P w K mg base none) x f := ⟨⟨_, He.glo_ok X G c1, He.cls_ok c2, He.noat_ok c3⟩⟩
def takeB (K : PySem.W.Frag) (P : Str) (cs : List Str) : Bool := cs.all fun c => (He.Fa.glo c).ok K && (He.Fa.exm c P true).ok K
theorem takeB_ok {cs : List Str} (X : K.In h) (G : h.Ns mainGlobals mg) (c : takeB K x cs = true) : ∀ c ∈ cs, mg c = some (.ref (He.ga K c)) ∧ PySem.W.exmOne K (.ref (He.ga K c)) (.ref (He.ga K x)) = some true := fun y hy => by
  obtain ⟨h1, h2⟩ := Bool.and_eq_true_iff.mp (List.all_eq_true.mp c y hy)
  exact ⟨He.glo_ok X G h1, He.exm_ok h2⟩
theorem ev_take {cs : List Str} (X : K.In h) (G : h.Ns mainGlobals mg) (c1 : (He.Fa.glo x).ok K = true) (c2 : takeB K x cs = true) : TakeAt (GE.mk P w K mg base none) x cs := ⟨⟨_, He.glo_ok X G c1, fun y hy => by
  obtain ⟨h1, h2⟩ := takeB_ok X G c2 y hy
  show PySem.W.exmOne K (clsV mg y) _ = _
  rw [clsV_of h1]
  exact h2⟩⟩
theorem ev_def {st : Stmt} {fd : FuncData} (X : K.In h) (G : h.Ns mainGlobals mg) (c1 : (He.Fa.glo x).ok K = true) (F : FunD K x x (defArgs st) (defBody st) (defScope st) [] [] (He.fAd K (x, none)) fd) : DefAt (GE.mk P w K mg base none) x st := ⟨⟨_, fd, He.glo_ok X G c1, fun_of F⟩⟩
theorem ev_meth {st : Stmt} {fd : FuncData} {m q : Str} (X : K.In h) (G : h.Ns mainGlobals mg) (c1 : (He.Fa.glo x).ok K = true) (c2 : (He.Fa.cls x).ok K = true) (c3 : (He.Fa.meth x m).ok K = true) (F : FunD K m q (defArgs st) (defBody st) (defScope st) [] [] (He.fAd K (x, some m)) fd) : MethDef (GE.mk P w K mg base none) x m q st :=
  ⟨⟨_, _, fd, He.glo_ok X G c1, He.cls_ok c2, He.meth_ok c3, fun_of F⟩⟩
theorem ev_make {st : Stmt} {fd : FuncData} {q : Str} (X : K.In h) (G : h.Ns mainGlobals mg) (c1 : (He.Fa.glo x).ok K = true) (c2 : (He.Fa.mkr x).ok K = true) (F : FunD K "__init__" q (defArgs st) (defBody st) (defScope st) [] [] (He.fAd K (x, some "__init__")) fd) : MakeDef (GE.mk P w K mg base none) x q st :=
  ⟨⟨_, _, fd, He.glo_ok X G c1, He.mkr_ok c2, fun_of F⟩⟩
theorem excC_ok (c : excCB K x = true) : ExcC K (He.ga K x) := by
  unfold excCB at c
  simp only [Bool.and_eq_true, decide_eq_true_eq] at c
  obtain ⟨h1, h2, h3, h4, h5, h6, h7, h8⟩ := c
  exact ⟨h1, h2, h3, h4, h5, h6, h7, h8⟩
def xcB (K : PySem.W.Frag) (cs : List Str) : Bool := cs.all fun c => (He.Fa.glo c).ok K && excCB K c
theorem ev_xc {cs : List Str} (X : K.In h) (G : h.Ns mainGlobals mg) (c : xcB K cs = true) : ∀ c ∈ cs, ∃ D, mg c = some (.ref D) ∧ ExcC K D := fun y hy => by
  obtain ⟨h1, h2⟩ := Bool.and_eq_true_iff.mp (List.all_eq_true.mp c y hy)
  exact ⟨_, He.glo_ok X G h1, excC_ok h2⟩
def xkB (K : PySem.W.Frag) (T : Str) (t : Option String) (cs sub : List Str) : Bool := cs.all fun c => (He.Fa.glo c).ok K && decide (PySem.W.kitOne K (.ref (He.ga K c)) (clsOf K T t) = some (decide (c ∈ sub)))
theorem ev_xk {T : Str} {cs sub : List Str} (X : K.In h) (G : h.Ns mainGlobals mg) (c1 : (He.Fa.glo T).ok K = true) (c : xkB K T none cs sub = true) : ∃ cv, ClsN (GE.mk P w K mg base none) T cv ∧ ∀ c ∈ cs, PySem.W.kitOne K (clsV mg c) cv = some (decide (c ∈ sub)) :=
  ⟨_, .own _ (He.glo_ok X G c1), fun y hy => by
    obtain ⟨h1, h2⟩ := Bool.and_eq_true_iff.mp (List.all_eq_true.mp c y hy)
    rw [clsV_of (He.glo_ok X G h1)]
    exact of_decide_eq_true h2⟩
theorem ev_xkb {T : Str} {t : String} {cs sub : List Str} (X : K.In h) (G : h.Ns mainGlobals mg) (b : BiAt (GE.mk P w K mg base none) T (.type t)) (c : xkB K T (some t) cs sub = true) : ∃ cv, ClsN (GE.mk P w K mg base none) T cv ∧ ∀ c ∈ cs, PySem.W.kitOne K (clsV mg c) cv = some (decide (c ∈ sub)) :=
  ⟨_, .bi t b, fun y hy => by
    obtain ⟨h1, h2⟩ := Bool.and_eq_true_iff.mp (List.all_eq_true.mp c y hy)
    rw [clsV_of (He.glo_ok X G h1)]
    exact of_decide_eq_true h2⟩
end
/-! ### a law's end -/
def sto0 : Sto := ⟨fun _ => none, 0⟩
theorem walk_dm {l : PySem.W.OpenLaw} {n k hh : Nat} {q : Program} {loose : List Str} {XP : (Str → Option Value) → Heap → Prop} {fa : List He.Fa} {fn : List He.DefD} {ts : List He.Tab} {ex : PySem.W.Frag → Bool} {d : DefRec} {st : Stmt} {N : List Str} {x : Str} {m : DS} {Evp : GE → Prop}
    (hn : l.most = some n) (hn2 : n ≤ sizeLine) (hdf : d.params.defaults = []) (hr : Room (k + 1) callerA) (hname : d.name = ("law" : Str))
    (ev : ∀ (w : World) (K : PySem.W.Frag) (mg : Str → Option Value) (h base : Heap), K.In h → h.Ns mainGlobals mg → He.SaysX fa fn ts [] ex w h K → Evp ⟨l.prog, w, K, mg, base, none⟩)
    (df : ∀ g, Evp g → DefAt g "law" st) (wl : ∀ g, Evp g → BOk g N (defScope st) k (defBody st) m) (S : FnScope N [x] (defScope st))
    (bd : ∀ (kV doc pm : Value) (an : Option Addr) (cdv ct u : Value), bindArgs (PySem.W.fnOf "law" "law" (defArgs st) (defBody st) (defScope st) .none kV doc pm an cdv ct) ⟨[u], []⟩ = pure [(x, u)])
    (law : ∀ ns : List Int, ns.length ≤ n → ∃ S', semOf 1 N.length m [.scr (ns.map D.int)] sto0 = .ok (.val (.bl true)) S') :
    PySem.W.WalkO q loose XP (He.hookX hh fa fn ts [] ex).says l.row.toRowW d [] (fun f vs => PySem.call f vs) := by
  refine Att.attach_call hn hdf fun w s0 s1 mg mb fa' o pm cd doc a vs ns G Y ho hd hcd hmg hobj hints hlen hg => ?_
  obtain ⟨K, KX, c⟩ := Y
  have hmg2 : mg ("law" : Str) = some (.ref fa') := by rw [← hname]; exact hmg
  obtain ⟨f, fd, e1, F⟩ := (df _ (ev w K mg _ s0.heap KX G.T.g c)).ex
  have e2 : mg ("law" : Str) = some (.ref f) := e1
  have e3 : f = fa' := by rw [hmg2] at e2; cases e2; rfl
  subst e3
  have hF : ∀ base : Heap, K.In base → base.Ns mainGlobals mg → FnOk l.prog w K mg base (L2.CX l.prog w) (k + 1) f fd [x] (spOf ⟨l.prog, w, K, mg, s0.heap, none⟩ 1 (semOf 1 N.length m)) := fun base _ _ =>
    (fn_sound (g := ⟨l.prog, w, K, mg, base, none⟩) (n := 1) rfl F S rfl (wl _ (ev w K mg _ base KX G.T.g c))).imp fun _ _ _ _ z => z
  have hb : ∀ (s : Shared) (u : Value), BindsTo s fd ⟨[u], []⟩ [(x, u)] := fun s u => by
    obtain ⟨oc, od, kV, doc, pm, an, cdv, ct, osl, rfl, lk, hcd⟩ := F.ex
    exact .of_eq (bd kV doc pm an cdv ct u)
  refine law_call KX G.T.g G.T.b G.T.builtins G.T.nolimit hg hobj hints (Nat.le_trans hlen hn2) hr hF hb (fun H hO hS => ?_) fun H e s' z => ?_
  · refine ⟨rfl, ⟨H, fun _ => none⟩, fun _ => none, [.scr (ns.map D.int)], sto0, ⟨Same.refl _, fun _ _ e => (nomatch e), fun _ _ e => (nomatch e), fun _ _ e => (nomatch e), fun _ _ e => (nomatch e), fun _ _ _ e => (nomatch e), fun _ _ e => (nomatch e), fun _ _ e => (nomatch e)⟩, .cons (.scr hS (ints_pv ns)) .nil, ?_⟩
    obtain ⟨S', es⟩ := law ns hlen
    rw [es]
    intro W' v H' _ _ p
    cases p
    rfl
  · obtain ⟨_, _, _, _, _, _, _, _, _, _, _, _, q⟩ := z
    exact q
end DM


end
section
set_option Elab.async false
set_option linter.all false
set_option maxRecDepth 100000
set_option autoImplicit false
namespace DM
open PySem PySem.Spec L2
variable {g : GE} {k : Nat} {N : List Str} {sc : Scope} {a b c e o : Expr} {es : List Expr} {ma mb mc mo : DM D} {mr : DM (List D)} {pos apos : Pos}
/-! ### a table of the module with text keys: its get -/
structure GDict (g : GE) (x : Str) (tbl : List (Str × Option Int)) : Prop where
  ex : ∃ (d : Addr) (es : Array DictEntry) (n : Nat), g.mg x = some (.ref d) ∧ KDict g.K g.w d es n ∧ ∀ p ∈ tbl, ∃ r, PySem.W.nsIn g.K d p.1 = some r ∧ (match p.2 with
    | none => r = none
    | some i => ∃ u, r = some u ∧ RelV (.int i) u)
def dGGet (tbl : List (Str × Option Int)) (m : DM (List D)) : DM D := dBind m fun ds _ S => match ds with
  | [.str w, z] => if z.isOwn = true then .stuck else (match tbl.lookup w with
    | some (some i) => .ok (.int i) S
    | some none => .ok z S
    | none => .stuck)
  | _ => .stuck
def rKGet (K : PySem.W.Frag) (d : Addr) : V → List V → Hp → VK → Prop := fun x xs H Q => x = .ref d ∧ ∃ (w : Str) (z : V) (r : Option Value), xs = [.str w, z] ∧ PySem.W.nsIn K d w = some r ∧ (r = none → Q z H) ∧ ∀ u, r = some u → ∃ v, RelV v u ∧ Q v H
theorem mt_kget {X : Cx} {d : Addr} {es : Array DictEntry} {n : Nat} (D : KDict X.K X.w d es n) : MtR X "dict.get" (rKGet X.K d) := by
  intro pins s σ H x xs v us Q I rx rs ⟨e1, w, z, r, e2, hn, q1, q2⟩
  subst e1 e2
  cases rx
  obtain ⟨u, u2, rfl, ru, ru2⟩ := rs.two
  obtain ⟨t, rfl⟩ := ru
  refine call_meetsIn PySem.F.slot_dict_get (kd_type D I) PySem.F.entry_dict_get (PySem.F.args_dict_get_3 _ _ _) (meets_dict_get_default (strKind X.prog X.w) d (PySem.strKind_is X.prog X.w w t) D.low u2) ⟨_, PySem.W.mapOf_K (prog := X.prog) I.kIn D.at_ D.lit, ?_⟩
  rw [PySem.W.find_K D.at_ hn]
  cases r with
  | none => exact ⟨z, H, I.tok _, ru2, q1 rfl⟩
  | some u =>
    obtain ⟨v, rv, q⟩ := q2 u rfl
    exact ⟨v, H, I.tok _, rv, q⟩
def tKG (K : PySem.W.Frag) (d : Addr) (t : TA) : TE := fun σ H Q => t σ H fun xs H2 => rKGet K d (.ref d) xs H2 Q
theorem pe_kg {X : Cx} {x : Str} {d : Addr} {ed : Array DictEntry} {n : Nat} {t : TA} {p cpos : Pos} (D : KDict X.K X.w d ed n) (ho : PE X (.Name x p) (tC (.ref d))) (ha : PA X es t)
    (hl : (apos.endLine == cpos.line) = true) (hs : es.all notStar = true) (hlen : es.length < 29) (hne : es ≠ []) : PE X (.Call (.Attribute (.Name x p) "get" apos) es [] cpos) (tKG X.K d t) := by
  refine ⟨fun pins s σ H Q I h => ?_⟩
  have few := few_of X.env cpos hs hlen
  unfold methodCallForm at few
  refine wpAny_Call_method_late (base_of (o := .Name x p) rfl _ _ _) few hl rfl (thn (ho.run pins s σ H (fun y H1 => y = .ref d ∧ H1 = H) I ⟨rfl, rfl⟩) fun v s1 ⟨y, H1, I1, r1, q1⟩ => ?_)
  · obtain ⟨rfl, rfl⟩ := q1
    cases r1
    refine ⟨"dict", "dict.get", PySem.F.plainAttrs_dict, PySem.F.slot_dict_get, PySem.F.type_dict_get, kd_type D I1, fun a e => ?_, ?_⟩
    · cases e
      exact ⟨_, I1.kIn _ _ D.at_, rfl⟩
    · have hA := ha.run cpos pins s1 σ H1 _ I1 h
      cases es with
      | nil => exact absurd rfl hne
      | cons e es =>
        simp only [List.all_cons, Bool.and_eq_true] at hs
        rw [star_of hs.1] at hA ⊢
        exact Calls.callWith_builtin (by show (false || (backTo cpos (starEach es X.env)).any (·.1)) = false; rw [noStar_any X.env cpos hs.2]; rfl) (Calls.evalArgs_plain (thn hA fun us s2 ⟨vs, H2, I2, r2, q2⟩ => mt_kget D pins s2 σ H2 (.ref d) vs (.ref d) us Q I2 rfl r2 q2))
theorem e_gget {x : Str} {tbl : List (Str × Option Int)} {p : Pos} (G : GDict g x tbl) (hg : sc.names.lookup x = some .globalImplicit) (hx : (x == ("__debug__" : Str)) = false) (ha : AOk g N sc k es mr)
    (hl : (apos.endLine == pos.line) = true) (hs : es.all notStar = true) (hlen : es.length < 29) (hne : es ≠ []) : EOk g N sc k (.Call (.Attribute (.Name x p) "get" apos) es [] pos) (dGGet tbl mr) := by
  obtain ⟨d, ed, n, hm, D, hv⟩ := G.ex
  obtain ⟨t, pt, rt⟩ := ha.ex
  refine ⟨⟨fun E => tKG g.K d (t E), fun X E cx tk => by rw [← cx.hK]; exact pe_kg (by rw [cx.hK, cx.hw]; exact D) (pe_glob (gl_of cx hg) (by rw [cx.hm]; exact hm) rfl hx) (pt X E cx tk) hl hs hlen hne, fun E W F δ S σ H Q rel post => ?_⟩⟩
  refine rt E W F δ S σ H _ rel (post_bind post fun ds S2 W2 vs H2 _ l2 rel2 hxs post2 => ?_)
  dsimp only at post2
  split at post2
  · rename_i w z _
    obtain ⟨v1, v2, rfl, h1, h2⟩ := hxs.two
    cases h1.pv rfl
    split at post2
    · exact post2.elim
    · rename_i ho
      refine ⟨rfl, w, v2, ?_⟩
      have key : ∀ (tb : List (Str × Option Int)) (o : Option Int), tb.lookup w = some o → (w, o) ∈ tb := by
        intro tb
        induction tb with
        | nil => intro o h; cases h
        | cons q tb ih =>
          intro o h
          obtain ⟨q1, q2⟩ := q
          rw [List.lookup_cons] at h
          cases hq : w == q1 with
          | true =>
            rw [hq] at h
            cases h
            rw [beq_iff_eq.mp hq]
            exact List.mem_cons_self
          | false =>
            rw [hq] at h
            exact List.mem_cons_of_mem _ (ih o h)
      cases hk : tbl.lookup w with
      | none => rw [hk] at post2; exact post2.elim
      | some o =>
        rw [hk] at post2
        obtain ⟨r, hr, hp⟩ := hv _ (key _ _ hk)
        refine ⟨r, rfl, hr, ?_, ?_⟩
        · intro er
          cases o with
          | none => exact post2 W2 v2 H2 (.refl _) rel2 (.inl (h2.pv (by simpa using ho)))
          | some i =>
            obtain ⟨u, eu, _⟩ := hp
            rw [er] at eu; cases eu
        · intro u eu
          cases o with
          | none => rw [show r = none from hp] at eu; cases eu
          | some i =>
            obtain ⟨u', eu', ru⟩ := hp
            rw [eu] at eu'
            cases eu'
            exact ⟨_, ru, post2 W2 (.int i) H2 (.refl _) rel2 (.inl (.int i))⟩
  · exact post2.elim
/-- off the head -/
def tblB (K : PySem.W.Frag) (x : Str) (tbl : List (Str × Option Int)) : Bool := tbl.all fun p => match p.2 with
  | none => He.eqO (PySem.W.nsIn K (He.ga K x) p.1) (some none)
  | some i => (match PySem.W.nsIn K (He.ga K x) p.1 with
    | some (some u) => He.relB (.int i) u
    | _ => false)
theorem ev_gdict {K : PySem.W.Frag} {h base : Heap} {mg : Str → Option Value} {P : Program} {w : World} {x : Str} {tbl : List (Str × Option Int)} (X : K.In h) (G : h.Ns mainGlobals mg) (c1 : (He.Fa.glo x).ok K = true) (c2 : ∃ es n, KDict K w (He.ga K x) es n) (c3 : tblB K x tbl = true) : GDict (GE.mk P w K mg base none) x tbl := by
  obtain ⟨es, n, D⟩ := c2
  refine ⟨⟨_, es, n, He.glo_ok X G c1, D, fun p hp => ?_⟩⟩
  have h1 := List.all_eq_true.mp c3 p hp
  obtain ⟨p1, p2⟩ := p
  cases p2 with
  | none => exact ⟨none, He.eqO_ok h1, rfl⟩
  | some i =>
    dsimp only at h1
    cases e : PySem.W.nsIn K (He.ga K x) p1 with
    | none => rw [e] at h1; cases h1
    | some r =>
      rw [e] at h1
      cases r with
      | none => cases h1
      | some u => exact ⟨_, rfl, u, rfl, He.relB_ok h1⟩
end DM


end
section
set_option Elab.async false
set_option linter.all false
set_option maxRecDepth 100000
set_option autoImplicit false
namespace DM
open PySem PySem.Spec L2
variable {g : GE} {k : Nat} {N : List Str} {sc : Scope} {a b c e o : Expr} {es : List Expr} {ma mb mc mo : DM D} {mr : DM (List D)} {pos apos tpos : Pos}
theorem par_names {x y : Str} {px py : Pos} {kt k2 : Nat} {pt2 : Pos} {env : Env} (he : env.scope = sc) (h2 : sc.kind = .function) (hx : sc.names.lookup x = some .local) (hy : sc.names.lookup y = some .local) (hl : (py.line == px.line) = true) (hne : (x == y) = false)
    (hs : (notStar a && notStar b) = true) (hf : [a, b].all (foldedForSure 8) = false) (hc : [a, b].all (constantsAlone 8) = false) : swappedStores [.Tuple [.Name x px, .Name y py] kt tpos] (.Tuple [a, b] k2 pt2) env = pure (some [x, y]) := by
  subst he
  have hb : env.blockKind = .function := by unfold Env.blockKind; rw [h2]; rfl
  have kx : env.kindOf x = some .local := hx
  have ky : env.kindOf y = some .local := hy
  have hnd : [x, y].eraseDups = [x, y] := by
    have e : (y == x) = false := by rw [beq_eq_false_iff_ne] at hne ⊢; exact fun z => hne z.symm
    simp [List.eraseDups_cons, e]
  have st : ∀ e : Expr, notStar e = true → (match e with | .Starred .. => true | _ => false) = false := fun e h => by cases e <;> first | rfl | cases h
  obtain ⟨h1, h3⟩ := Bool.and_eq_true_iff.mp hs
  unfold swappedStores
  dsimp only
  refine (if_neg (by rw [hb]; exact Bool.false_ne_true)).trans ?_
  refine (if_neg (fun h => ?_)).trans ?_
  · obtain ⟨e, he, h⟩ := List.any_eq_true.mp h
    have hn : notStar e = true := by
      rcases List.mem_cons.mp he with rfl | he
      · exact h1
      · rw [List.mem_singleton.mp he]; exact h3
    clear hs hf hc h1 h3 st he
    cases e <;> first | (exact Bool.noConfusion h; done) | (cases hn; done)
  · rw [hf, hc]
    have l1 : (px.line == px.line) = true := beq_self_eq_true _
    have hl' : py.line = px.line := eq_of_beq hl
    simp [kx, ky, hl', hnd, Expr.pos]
theorem s_par2 {i j : Nat} {x y : Str} {px py : Pos} {kt k2 : Nat} {pt2 : Pos} (cold : g.hot = none) (hi : N[i]? = some x) (hj : N[j]? = some y) (hij : i ≠ j) (hx : sc.names.lookup x = some .local) (hy : sc.names.lookup y = some .local) (ha : AOk g N sc k [a, b] mr)
    (hk : sc.kind = .function) (hl : (py.line == px.line) = true) (hne : (x == y) = false) (hs : (notStar a && notStar b) = true) (hf : [a, b].all (foldedForSure 8) = false) (hc : [a, b].all (constantsAlone 8) = false) :
    SOk g N sc k (.Assign [.Tuple [.Name x px, .Name y py] kt tpos] (.Tuple [a, b] k2 pt2) pos) (sPar i j mr) :=
  s_par cold hi hj hij hx hy ha hk (fun env h => par_names h hk hx hy hl hne hs hf hc) (fun env h => rfl)
end DM


end
section
set_option Elab.async false
set_option linter.all false
set_option maxRecDepth 100000
set_option autoImplicit false
namespace DM
open PySem
/-! ### what is true behind a reading -/
class Ko (α : Type) where
  q : α → Prop
class Kp (α : Type) where
  q : α → Sto → Prop
  e : Str → Sto → Prop
class Ks where
  n : List Sl → Sto → Prop
  t : RV → Sto → Prop
  e : Str → Sto → Prop
class K2 where
  a : Prop
  b : Prop
def woK {α : Type} (o : Option α) [k : Ko α] : Prop := match o with
  | some a => k.q a
  | none => False
def wpK {α : Type} (r : R α) [k : Kp α] : Prop := match r with
  | .ok a S => k.q a S
  | .exc c S => k.e c S
  | .stuck => False
def wsK (r : RS) [k : Ks] : Prop := match r with
  | .nx δ S => k.n δ S
  | .ret v S => k.t v S
  | .exc c S => k.e c S
  | _ => False
def wifK (c : Bool) [k : K2] : Prop := if c = true then k.a else k.b
def wslK (i : Nat) (o : Option Sl) [k : Ko D] : Prop := match o with
  | some (.v d) => k.q d
  | some (.ol _) => k.q (.own i)
  | some (.od _) => k.q (.own i)
  | _ => False
def wblK (x : D) [k : Ko Bool] : Prop := match x with
  | .bl b => k.q b
  | _ => False
def wintK (x : D) [k : Ko Int] : Prop := match x with
  | .int b => k.q b
  | _ => False
def wvalK (x : RV) [k : Ko D] : Prop := match x with
  | .val d => k.q d
  | .ol ds => k.q (.lst ds)
def wolK (x : RV) [k : Ko (List D)] : Prop := match x with
  | .val _ => False
  | .ol ds => k.q ds
end DM
namespace DM
open PySem
theorem wif_t {A B : Prop} : ((@DM.wifK true ⟨A, B⟩)) = A := rfl
theorem wif_f {A B : Prop} : ((@DM.wifK false ⟨A, B⟩)) = B := rfl
theorem wif_split {c : Bool} {A B : Prop} (h1 : c = true → A) (h2 : c = false → B) : (@DM.wifK c ⟨A, B⟩) := by cases c; exact h2 rfl; exact h1 rfl
theorem wsl_v {i : Nat} {d : D} {Q : D → Prop} : ((@DM.wslK i (some (.v d)) ⟨Q⟩)) = Q d := rfl
theorem wsl_ol {i : Nat} {ds : List D} {Q : D → Prop} : ((@DM.wslK i (some (.ol ds)) ⟨Q⟩)) = Q (.own i) := rfl
theorem wbl_bl {b : Bool} {Q : Bool → Prop} : ((@DM.wblK (.bl b) ⟨Q⟩)) = Q b := rfl
theorem wint_int {b : Int} {Q : Int → Prop} : ((@DM.wintK (.int b) ⟨Q⟩)) = Q b := rfl
theorem wval_val {d : D} {Q : D → Prop} : ((@DM.wvalK (.val d) ⟨Q⟩)) = Q d := rfl
theorem wval_ol {d : List D} {Q : D → Prop} : ((@DM.wvalK (.ol d) ⟨Q⟩)) = Q (.lst d) := rfl
theorem wol_ol {d : List D} {Q : List D → Prop} : ((@DM.wolK (.ol d) ⟨Q⟩)) = Q d := rfl
section
variable {α β : Type} {Q : α → Sto → Prop} {E : Str → Sto → Prop} {δ : List Sl} {S : Sto}
theorem wo_some {a : α} {Q : α → Prop} : (@DM.woK _ (some a) ⟨Q⟩) = Q a := rfl
theorem wo_none {Q : α → Prop} : (@DM.woK _ (none : Option α) ⟨Q⟩) = False := rfl
theorem wo_map {o : Option β} {f : β → α} {Q : α → Prop} : (@DM.woK _ (o.map f) ⟨Q⟩) = (@DM.woK _ o ⟨(fun b => Q (f b))⟩) := by cases o <;> rfl
theorem wo_bind {o : Option β} {f : β → Option α} {Q : α → Prop} : (@DM.woK _ (o.bind f) ⟨Q⟩) = (@DM.woK _ o ⟨(fun b => (@DM.woK _ (f b) ⟨Q⟩))⟩) := by cases o <;> rfl
theorem wo_ite {c : Prop} [Decidable c] {a b : Option α} {Q : α → Prop} : (@DM.woK _ (if c then a else b) ⟨Q⟩) = ((c → (@DM.woK _ a ⟨Q⟩)) ∧ (¬ c → (@DM.woK _ b ⟨Q⟩))) := by by_cases h : c <;> simp [h]
theorem wp_ok {a : α} : (@DM.wpK _ (.ok a S) ⟨Q, E⟩) = Q a S := rfl
theorem wp_exc {c : Str} : (@DM.wpK _ (.exc c S : R α) ⟨Q, E⟩) = E c S := rfl
theorem wp_st : (@DM.wpK _ (.stuck : R α) ⟨Q, E⟩) = False := rfl
theorem wp_bind {m : DM β} {f : β → DM α} : (@DM.wpK _ (dBind m f δ S) ⟨Q, E⟩) = (@DM.wpK _ (m δ S) ⟨(fun a S' => (@DM.wpK _ (f a δ S') ⟨Q, E⟩)), E⟩) := by
  unfold dBind R.bind wpK; cases m δ S <;> rfl
theorem wp_bind' {r : R β} {f : β → Sto → R α} : (@DM.wpK _ (r.bind f) ⟨Q, E⟩) = (@DM.wpK _ r ⟨(fun a S' => (@DM.wpK _ (f a S') ⟨Q, E⟩)), E⟩) := by cases r <;> rfl
theorem wp_lift {o : Option α} : (@DM.wpK _ (lift o S) ⟨Q, E⟩) = (@DM.woK _ o ⟨(fun a => Q a S)⟩) := by cases o <;> rfl
theorem wp_const {d : D} {Q : D → Sto → Prop} : (@DM.wpK _ (dConst d δ S) ⟨Q, E⟩) = Q d S := rfl
theorem wp_var {i : Nat} {Q : D → Sto → Prop} : (@DM.wpK _ (dVar i δ S) ⟨Q, E⟩) = (@DM.wslK i δ[i]? ⟨fun d => Q d S ⟩):= by
  unfold dVar
  cases δ[i]? with
  | none => rfl
  | some s => cases s <;> rfl
theorem wp_op2 {h : Op2} {a b : DM D} {Q : D → Sto → Prop} : (@DM.wpK _ (dOp2 h a b δ S) ⟨Q, E⟩) = (@DM.wpK _ (a δ S) ⟨(fun x S1 => (@DM.wpK _ (b δ S1) ⟨(fun y S2 => (@DM.woK _ (h δ S2 x y) ⟨fun z => Q z S2⟩)), E⟩)), E⟩) := by
  unfold dOp2; rw [wp_bind]; congr; funext x S1; rw [wp_bind]; congr; funext y S2; rw [wp_lift]
theorem wp_cmp {h : Cmp2} {a b : DM D} {Q : Bool → Sto → Prop} : (@DM.wpK _ (dCmp h a b δ S) ⟨Q, E⟩) = (@DM.wpK _ (a δ S) ⟨(fun x S1 => (@DM.wpK _ (b δ S1) ⟨(fun y S2 => (@DM.woK _ (h δ S2 x y) ⟨fun z => Q z S2⟩)), E⟩)), E⟩) := by
  unfold dCmp; rw [wp_bind]; congr; funext x S1; rw [wp_bind]; congr; funext y S2; rw [wp_lift]
theorem wp_chain {h h' : Cmp2} {a b c : DM D} {Q : Bool → Sto → Prop} : (@DM.wpK _ (dChain h h' a b c δ S) ⟨Q, E⟩) = (@DM.wpK _ (a δ S) ⟨(fun x S1 => (@DM.wpK _ (b δ S1) ⟨(fun y S2 => (@DM.woK _ (h δ S2 x y) ⟨fun z => (@DM.wifK z ⟨((@DM.wpK _ (c δ S2) ⟨(fun u S3 => (@DM.woK _ (h' δ S3 y u) ⟨fun z' => Q z' S3⟩)), E⟩)), (Q false S2)⟩)⟩)), E⟩)), E⟩) := by
  unfold dChain; rw [wp_bind]; congr; funext x S1; rw [wp_bind]; congr; funext y S2; rw [wp_bind', wp_lift]; congr; funext z
  cases z with
  | true => show (@DM.wpK _ (dBind c (fun u δ S => lift (h' δ S y u) S) δ S2) ⟨Q, E⟩) = _; rw [wp_bind, wif_t]; congr; funext u S3; rw [wp_lift]
  | false => rfl
theorem wp_bl {m : DM Bool} {Q : D → Sto → Prop} : (@DM.wpK _ (dBl m δ S) ⟨Q, E⟩) = (@DM.wpK _ (m δ S) ⟨(fun b S1 => Q (.bl b) S1), E⟩) := by unfold dBl; rw [wp_bind]; rfl
theorem wp_test {m : DM D} {Q : Bool → Sto → Prop} : (@DM.wpK _ (dTest m δ S) ⟨Q, E⟩) = (@DM.wpK _ (m δ S) ⟨(fun x S1 => (@DM.wblK x ⟨fun b => Q b S1⟩)), E⟩) := by
  unfold dTest; rw [wp_bind]; congr; funext x S1; cases x <;> rfl
theorem wp_not {m : DM Bool} {Q : Bool → Sto → Prop} : (@DM.wpK _ (dNot m δ S) ⟨Q, E⟩) = (@DM.wpK _ (m δ S) ⟨(fun x S1 => Q (!x) S1), E⟩) := by unfold dNot; rw [wp_bind]; rfl
theorem wp_and {a b : DM Bool} {Q : Bool → Sto → Prop} : (@DM.wpK _ (dAnd a b δ S) ⟨Q, E⟩) = (@DM.wpK _ (a δ S) ⟨(fun x S1 => (@DM.wifK x ⟨((@DM.wpK _ (b δ S1) ⟨Q, E⟩)), (Q false S1)⟩)), E⟩) := by
  unfold dAnd; rw [wp_bind]; congr; funext x S1; cases x <;> rfl
theorem wp_or {a b : DM Bool} {Q : Bool → Sto → Prop} : (@DM.wpK _ (dOr a b δ S) ⟨Q, E⟩) = (@DM.wpK _ (a δ S) ⟨(fun x S1 => (@DM.wifK x ⟨(Q true S1), ((@DM.wpK _ (b δ S1) ⟨Q, E⟩))⟩)), E⟩) := by
  unfold dOr; rw [wp_bind]; congr; funext x S1; cases x <;> rfl
theorem wp_andV {a b : DM D} {Q : D → Sto → Prop} : (@DM.wpK _ (dAndV a b δ S) ⟨Q, E⟩) = (@DM.wpK _ (a δ S) ⟨(fun x S1 => (@DM.wblK x ⟨fun c => (@DM.wifK c ⟨((@DM.wpK _ (b δ S1) ⟨Q, E⟩)), (Q (.bl false) S1)⟩)⟩)), E⟩) := by
  unfold dAndV; rw [wp_bind, wp_test]; congr; funext x S1
  cases x with
  | bl b => cases b <;> rfl
  | _ => rfl
theorem wp_orV {a b : DM D} {Q : D → Sto → Prop} : (@DM.wpK _ (dOrV a b δ S) ⟨Q, E⟩) = (@DM.wpK _ (a δ S) ⟨(fun x S1 => (@DM.wblK x ⟨fun c => (@DM.wifK c ⟨(Q (.bl true) S1), ((@DM.wpK _ (b δ S1) ⟨Q, E⟩))⟩)⟩)), E⟩) := by
  unfold dOrV; rw [wp_bind, wp_test]; congr; funext x S1
  cases x with
  | bl b => cases b <;> rfl
  | _ => rfl
theorem wp_if {c : DM Bool} {a b : DM D} {Q : D → Sto → Prop} : (@DM.wpK _ (dIf c a b δ S) ⟨Q, E⟩) = (@DM.wpK _ (c δ S) ⟨(fun x S1 => (@DM.wifK x ⟨((@DM.wpK _ (a δ S1) ⟨Q, E⟩)), ((@DM.wpK _ (b δ S1) ⟨Q, E⟩))⟩)), E⟩) := by
  unfold dIf; rw [wp_bind]; congr; funext x S1; cases x <;> rfl
theorem wp_nil {Q : List D → Sto → Prop} : (@DM.wpK _ (dNil δ S) ⟨Q, E⟩) = Q [] S := rfl
theorem wp_cons {a : DM D} {r : DM (List D)} {Q : List D → Sto → Prop} : (@DM.wpK _ (dCons a r δ S) ⟨Q, E⟩) = (@DM.wpK _ (a δ S) ⟨(fun x S1 => (@DM.wpK _ (r δ S1) ⟨(fun xs S2 => Q (x :: xs) S2), E⟩)), E⟩) := by
  unfold dCons; rw [wp_bind]; congr; funext x S1; rw [wp_bind]; rfl
theorem wp_tup {m : DM (List D)} {Q : D → Sto → Prop} : (@DM.wpK _ (dTup m δ S) ⟨Q, E⟩) = (@DM.wpK _ (m δ S) ⟨(fun ds S1 => (noOwns ds && okLen ds) = true ∧ Q (.tup ds) S1), E⟩) := by
  unfold dTup; rw [wp_bind]; congr; funext ds S1
  cases h : noOwns ds && okLen ds with
  | true => simp [wpK, h]
  | false => simp [wpK, h]
theorem wp_lst {m : DM (List D)} {Q : D → Sto → Prop} : (@DM.wpK _ (dLst m δ S) ⟨Q, E⟩) = (@DM.wpK _ (m δ S) ⟨(fun ds S1 => (noOwns ds && okLen ds) = true ∧ Q (.lst ds) S1), E⟩) := by
  unfold dLst; rw [wp_bind]; congr; funext ds S1
  cases h : noOwns ds && okLen ds with
  | true => simp [wpK, h]
  | false => simp [wpK, h]
theorem wp_disp {m : DM (List D)} {Q : List D → Sto → Prop} : (@DM.wpK _ (fDisp m δ S) ⟨Q, E⟩) = (@DM.wpK _ (m δ S) ⟨(fun ds S1 => (noOwns ds && okLen ds) = true ∧ Q ds S1), E⟩) := by
  unfold fDisp; rw [wp_bind]; congr; funext ds S1
  cases h : noOwns ds && okLen ds with
  | true => simp [wpK, h]
  | false => simp [wpK, h]
theorem wp_frz {m : DM (List D)} {Q : D → Sto → Prop} : (@DM.wpK _ (dFrz m δ S) ⟨Q, E⟩) = (@DM.wpK _ (m δ S) ⟨(fun ds S1 => Q (.lst ds) S1), E⟩) := by unfold dFrz; rw [wp_bind]; rfl
theorem wp_cell {m : DM (List D)} {Q : D → Sto → Prop} : (@DM.wpK _ (dCell m δ S) ⟨Q, E⟩) = (@DM.wpK _ (m δ S) ⟨(fun ds S1 => Q (.ref S1.nx) (S1.new (.lst ds))), E⟩) := by unfold dCell; rw [wp_bind]; rfl
theorem wp_b {h : HB} {m : DM (List D)} {Q : D → Sto → Prop} : (@DM.wpK _ (dB h m δ S) ⟨Q, E⟩) = (@DM.wpK _ (m δ S) ⟨(fun ds S1 => (@DM.woK _ (h δ S1 ds) ⟨fun z => Q z S1⟩)), E⟩) := by unfold dB; rw [wp_bind]; congr; funext ds S1; rw [wp_lift]
theorem wp_fb {h : HF} {m : DM (List D)} {Q : List D → Sto → Prop} : (@DM.wpK _ (fB h m δ S) ⟨Q, E⟩) = (@DM.wpK _ (m δ S) ⟨(fun ds S1 => (@DM.woK _ (h δ S1 ds) ⟨fun z => Q z S1⟩)), E⟩) := by unfold fB; rw [wp_bind]; congr; funext ds S1; rw [wp_lift]
theorem wp_isi {T : String} {m : DM D} {Q : D → Sto → Prop} : (@DM.wpK _ (dIsi T m δ S) ⟨Q, E⟩) = (@DM.wpK _ (m δ S) ⟨(fun x S1 => (@DM.woK _ ((tyD δ S1 x).bind fun t => subTy t T) ⟨fun r => Q (.bl r) S1⟩)), E⟩) := by
  unfold dIsi; rw [wp_bind]; congr; funext ds S1; rw [wp_lift, wo_map]
theorem wp_neg {m : DM D} {Q : D → Sto → Prop} : (@DM.wpK _ (dNeg m δ S) ⟨Q, E⟩) = (@DM.wpK _ (m δ S) ⟨(fun x S1 => (@DM.wintK x ⟨fun i => Q (.int (-i)) S1⟩)), E⟩) := by
  unfold dNeg; rw [wp_bind]; congr; funext x S1; cases x <;> rfl
/-- a def's answer as a value, as a fresh list -/
theorem wp_toD {r : R RV} {Q : D → Sto → Prop} : (@DM.wpK _ r.toD ⟨Q, E⟩) = (@DM.wpK _ r ⟨(fun v S => (@DM.wvalK v ⟨fun d => Q d S⟩)), E⟩) := by
  cases r with
  | ok v S => cases v <;> rfl
  | exc c S => rfl
  | stuck => rfl
theorem wp_toF {r : R RV} {Q : List D → Sto → Prop} : (@DM.wpK _ r.toF ⟨Q, E⟩) = (@DM.wpK _ r ⟨(fun v S => (@DM.wolK v ⟨fun ds => Q ds S⟩)), E⟩) := by
  cases r with
  | ok v S => cases v <;> rfl
  | exc c S => rfl
  | stuck => rfl
theorem wp_callN {n : Nat} {sem : Sem} {ds : List D} {Q : RV → Sto → Prop} : (@DM.wpK _ (callN n sem ds S) ⟨Q, E⟩) = ((noOwns ds && decide (ds.length = n)) = true ∧ (@DM.wpK _ (sem ds S) ⟨Q, E⟩)) := by
  unfold callN
  cases h : noOwns ds && decide (ds.length = n) with
  | true => simp
  | false => simp [wpK]
theorem wp_call {n : Nat} {sem : Sem} {m : DM (List D)} {Q : D → Sto → Prop} : (@DM.wpK _ (dCall n sem m δ S) ⟨Q, E⟩) = (@DM.wpK _ (m δ S) ⟨(fun ds S1 => (noOwns ds && decide (ds.length = n)) = true ∧ (@DM.wpK _ (sem ds S1) ⟨(fun v S => (@DM.wvalK v ⟨fun d => Q d S⟩)), E⟩)), E⟩) := by
  unfold dCall; rw [wp_bind]; congr; funext ds S1; rw [wp_toD, wp_callN]
theorem wp_fcall {n : Nat} {sem : Sem} {m : DM (List D)} {Q : List D → Sto → Prop} : (@DM.wpK _ (fCall n sem m δ S) ⟨Q, E⟩) = (@DM.wpK _ (m δ S) ⟨(fun ds S1 => (noOwns ds && decide (ds.length = n)) = true ∧ (@DM.wpK _ (sem ds S1) ⟨(fun v S => (@DM.wolK v ⟨fun ds => Q ds S⟩)), E⟩)), E⟩) := by
  unfold fCall; rw [wp_bind]; congr; funext ds S1; rw [wp_toF, wp_callN]
theorem wp_nopart {Q : Option Int → Sto → Prop} : (@DM.wpK _ (dNoPart δ S) ⟨Q, E⟩) = Q none S := rfl
theorem wp_part {m : DM D} {Q : Option Int → Sto → Prop} : (@DM.wpK _ (dPart m δ S) ⟨Q, E⟩) = (@DM.wpK _ (m δ S) ⟨(fun x S1 => (@DM.wintK x ⟨fun i => Q (some i) S1⟩)), E⟩) := by
  unfold dPart; rw [wp_bind]; congr; funext x S1; cases x <;> rfl
theorem wp_sl {a : DM D} {l h : DM (Option Int)} {Q : D → Sto → Prop} : (@DM.wpK _ (dSl a l h δ S) ⟨Q, E⟩) = (@DM.wpK _ (a δ S) ⟨(fun x S1 => (@DM.wpK _ (l δ S1) ⟨(fun lo S2 => (@DM.wpK _ (h δ S2) ⟨(fun hi S3 => (@DM.woK _ (oSl δ S3 x lo hi) ⟨fun z => Q z S3⟩)), E⟩)), E⟩)), E⟩) := by
  unfold dSl; rw [wp_bind]; congr; funext x S1; rw [wp_bind]; congr; funext l S2; rw [wp_bind]; congr; funext h S3; rw [wp_lift]
theorem wp_attr {C f : Str} {m : DM D} {Q : D → Sto → Prop} : (@DM.wpK _ (dAttr C f m δ S) ⟨Q, E⟩) = (@DM.wpK _ (m δ S) ⟨(fun x S1 => (@DM.woK _ (attrOf S1 C f x) ⟨fun z => Q z S1⟩)), E⟩) := by
  unfold dAttr; rw [wp_bind]; congr; funext x S1; rw [wp_lift]
theorem wp_src {m : DM D} {Q : Src → Sto → Prop} : (@DM.wpK _ (dSrc m δ S) ⟨Q, E⟩) = (@DM.wpK _ (m δ S) ⟨(fun x S1 => (@DM.woK _ (srcOf S1 x) ⟨fun z => Q z S1⟩)), E⟩) := by
  unfold dSrc; rw [wp_bind]; congr; funext x S1; rw [wp_lift]
theorem wp_rng {f : List D → Option Src} {m : DM (List D)} {Q : Src → Sto → Prop} : (@DM.wpK _ (dRng f m δ S) ⟨Q, E⟩) = (@DM.wpK _ (m δ S) ⟨(fun x S1 => (@DM.woK _ (f x) ⟨fun z => Q z S1⟩)), E⟩) := by
  unfold dRng; rw [wp_bind]; congr; funext x S1; rw [wp_lift]
end
section
variable {N : List Sl → Sto → Prop} {T : RV → Sto → Prop} {E : Str → Sto → Prop} {δ : List Sl} {S : Sto}
theorem ws_nx : (@DM.wsK (sNext δ S) ⟨N, T, E⟩) = N δ S := rfl
theorem ws_seq {a b : DS} : (@DM.wsK (sSeq a b δ S) ⟨N, T, E⟩) = (@DM.wsK (a δ S) ⟨(fun δ' S' => (@DM.wsK (b δ' S') ⟨N, T, E⟩)), T, E⟩) := by
  unfold sSeq wsK; cases a δ S <;> rfl
theorem ws_bind {α : Type} {m : DM α} {f : α → DS} : (@DM.wsK (sBind m f δ S) ⟨N, T, E⟩) = (@DM.wpK _ (m δ S) ⟨(fun a S' => (@DM.wsK (f a δ S') ⟨N, T, E⟩)), E⟩) := by
  unfold sBind wpK; cases m δ S <;> rfl
theorem ws_ret {m : DM D} : (@DM.wsK (sRet m δ S) ⟨N, T, E⟩) = (@DM.wpK _ (m δ S) ⟨(fun d S' => (@DM.wsK (retOf δ S' d) ⟨N, T, E⟩)), E⟩) := by unfold sRet; rw [ws_bind]
theorem ws_retF {m : DM (List D)} : (@DM.wsK (sRetF m δ S) ⟨N, T, E⟩) = (@DM.wpK _ (m δ S) ⟨(fun ds S' => T (.ol ds) S'), E⟩) := by unfold sRetF; rw [ws_bind]; rfl
theorem ws_if {c : DM Bool} {a b : DS} : (@DM.wsK (sIf c a b δ S) ⟨N, T, E⟩) = (@DM.wpK _ (c δ S) ⟨(fun x S' => (@DM.wifK x ⟨((@DM.wsK (a δ S') ⟨N, T, E⟩)), ((@DM.wsK (b δ S') ⟨N, T, E⟩))⟩)), E⟩) := by
  unfold sIf; rw [ws_bind]; congr; funext x S'; cases x <;> rfl
theorem ws_set {i : Nat} {m : DM D} : (@DM.wsK (sSet i m δ S) ⟨N, T, E⟩) = (@DM.wpK _ (m δ S) ⟨(fun d S' => d.isOwn = false ∧ N (δ.set i (.v d)) S'), E⟩) := by
  unfold sSet; rw [ws_bind]; congr; funext d S'
  cases h : d.isOwn <;> simp [wsK, h]
theorem ws_setF {i : Nat} {m : DM (List D)} : (@DM.wsK (sSetF i m δ S) ⟨N, T, E⟩) = (@DM.wpK _ (m δ S) ⟨(fun d S' => N (δ.set i (.ol d)) S'), E⟩) := by
  unfold sSetF; rw [ws_bind]; rfl
theorem ws_raise {c : Str} : (@DM.wsK (sRaise c δ S) ⟨N, T, E⟩) = E c S := rfl
theorem ws_expr {m : DM D} : (@DM.wsK (sExpr m δ S) ⟨N, T, E⟩) = (@DM.wpK _ (m δ S) ⟨(fun _ S' => N δ S'), E⟩) := by unfold sExpr; rw [ws_bind]; rfl
theorem ws_retOf {d : D} (h : d.isOwn = false) : (@DM.wsK (retOf δ S d) ⟨N, T, E⟩) = T (.val d) S := by cases d <;> first | rfl | cases h
theorem ws_mut {Ty : String} {h : HX} {o : DM D} {m : DM (List D)} : (@DM.wsK (sMut Ty h o m δ S) ⟨N, T, E⟩) = (@DM.wpK _ (o δ S) ⟨(fun x S1 => tyD δ S1 x = some Ty ∧ (@DM.wpK _ (m δ S1) ⟨(fun ds S2 => (@DM.woK _ (h δ S2 x ds) ⟨fun p => N p.1 p.2⟩)), E⟩)), E⟩) := by
  unfold sMut; rw [ws_bind]; congr; funext x S1
  by_cases hc : tyD δ S1 x = some Ty
  · simp only [hc, if_true, true_and]; rw [ws_bind]; congr; funext ds S2
    cases h δ S2 x ds <;> rfl
  · simp only [hc, if_false, false_and]; rfl
theorem ws_unp {t : Bool × List (Str × Nat)} {m : DM D} : (@DM.wsK (sUnp t m δ S) ⟨N, T, E⟩) = (@DM.wpK _ (m δ S) ⟨(fun d S1 => d.isOwn = false ∧ (@DM.woK _ (bindT t d δ) ⟨fun δ' => N δ' S1⟩)), E⟩) := by
  unfold sUnp; rw [ws_bind]; congr; funext d S1
  cases h : d.isOwn with
  | true => simp [wsK]
  | false => cases hb : bindT t d δ <;> simp [wsK, woK, hb]
/-- a def's answer by its body -/
theorem wp_sem {n M : Nat} {m : DS} {ds : List D} {Q : RV → Sto → Prop} : (@DM.wpK _ (semOf n M m ds S) ⟨Q, E⟩) = (ds.length = n ∧ (@DM.wsK (m (ds.map Sl.v ++ List.replicate (M - n) Sl.no) S) ⟨(fun _ S' => Q (.val .non) S'), Q, E⟩)) := by
  unfold semOf
  by_cases h : ds.length = n
  · rw [if_pos h]
    cases m (ds.map Sl.v ++ List.replicate (M - n) Sl.no) S <;> simp [wpK, wsK, h]
  · rw [if_neg h]
    simp [wpK, h]
end
theorem wp_mono {α : Type} {r : R α} {Q Q' : α → Sto → Prop} {E E' : Str → Sto → Prop} (h : (@DM.wpK _ r ⟨Q, E⟩)) (hq : ∀ a S, Q a S → Q' a S) (he : ∀ c S, E c S → E' c S) : (@DM.wpK _ r ⟨Q', E'⟩) := by
  cases r with
  | ok a S => exact hq _ _ h
  | exc c S => exact he _ _ h
  | stuck => exact h
/-! ### leaves -/
section
variable {δ : List Sl} {S : Sto} {ds es : List D} {i j : Int} {x y : Str} {b : Bool}
theorem l_len_tup : hLen δ S [.tup ds] = some (.int ds.length) := rfl
theorem l_len_lst : hLen δ S [.lst ds] = some (.int ds.length) := rfl
theorem l_len_scr : hLen δ S [.scr ds] = some (.int ds.length) := rfl
theorem l_len_ref {k : Nat} (h : S.c k = some (.lst ds)) : hLen δ S [.ref k] = some (.int ds.length) := by
  unfold hLen
  simp only [seqOf, lstOf, h, Option.map_some]
theorem l_ord {p : Int → Int → Bool} : cOrd p δ S (.int i) (.int j) = some (p i j) := rfl
theorem l_add : oAdd δ S (.int i) (.int j) = some (.int (i + j)) := rfl
theorem l_sub : oSub δ S (.int i) (.int j) = some (.int (i - j)) := rfl
theorem l_mul (h : mulOk i j = true) : oMul δ S (.int i) (.int j) = some (.int (i * j)) := by show (if mulOk i j = true then _ else _) = _; rw [if_pos h]
theorem l_mod (h : 0 < j) : oMod δ S (.int i) (.int j) = some (.int (i % j)) := by show (if 0 < j then _ else _) = _; rw [if_pos h]
theorem l_ix_tup : oIx δ S (.tup ds) (.int i) = L2.atI ds i := rfl
theorem l_ix_lst : oIx δ S (.lst ds) (.int i) = L2.atI ds i := rfl
theorem l_ix_scr : oIx δ S (.scr ds) (.int i) = L2.atI ds i := rfl
theorem l_ix_ref {k : Nat} (h : S.c k = some (.lst ds)) : oIx δ S (.ref k) (.int i) = L2.atI ds i := by
  unfold oIx ixSeq
  simp only [seqOf, lstOf, h, Option.map_some]
theorem l_at {α : Type} {l : List α} (h0 : 0 ≤ i) (h1 : i < l.length) : L2.atI l i = l[i.toNat]? := by
  unfold L2.atI L2.ixN
  rw [if_pos h0, if_pos h1, Option.bind_some]
theorem l_ty_non : tyD δ S .non = some "NoneType" := rfl
theorem l_ty_bl : tyD δ S (.bl b) = some "bool" := rfl
theorem l_ty_int : tyD δ S (.int i) = some "int" := rfl
theorem l_ty_str : tyD δ S (.str x) = some "str" := rfl
theorem l_ty_tup : tyD δ S (.tup ds) = some "tuple" := rfl
theorem l_ty_lst : tyD δ S (.lst ds) = some "list" := rfl
theorem l_ty_scr : tyD δ S (.scr ds) = some "list" := rfl
theorem l_ty_ref {k : Nat} (h : S.c k = some (.lst ds)) : tyD δ S (.ref k) = some "list" := by
  unfold tyD
  simp only [seqOf, lstOf, h, Option.map_some]
theorem st_NoneType_bool : subTy "NoneType" "bool" = some false := rfl
theorem st_NoneType_int : subTy "NoneType" "int" = some false := rfl
theorem st_NoneType_str : subTy "NoneType" "str" = some false := rfl
theorem st_NoneType_tuple : subTy "NoneType" "tuple" = some false := rfl
theorem st_NoneType_list : subTy "NoneType" "list" = some false := rfl
theorem st_bool_bool : subTy "bool" "bool" = some true := rfl
theorem st_bool_int : subTy "bool" "int" = some true := rfl
theorem st_bool_str : subTy "bool" "str" = some false := rfl
theorem st_bool_tuple : subTy "bool" "tuple" = some false := rfl
theorem st_bool_list : subTy "bool" "list" = some false := rfl
theorem st_int_bool : subTy "int" "bool" = some false := rfl
theorem st_int_int : subTy "int" "int" = some true := rfl
theorem st_int_str : subTy "int" "str" = some false := rfl
theorem st_int_tuple : subTy "int" "tuple" = some false := rfl
theorem st_int_list : subTy "int" "list" = some false := rfl
theorem st_str_bool : subTy "str" "bool" = some false := rfl
theorem st_str_int : subTy "str" "int" = some false := rfl
theorem st_str_str : subTy "str" "str" = some true := rfl
theorem st_str_tuple : subTy "str" "tuple" = some false := rfl
theorem st_str_list : subTy "str" "list" = some false := rfl
theorem st_tuple_bool : subTy "tuple" "bool" = some false := rfl
theorem st_tuple_int : subTy "tuple" "int" = some false := rfl
theorem st_tuple_str : subTy "tuple" "str" = some false := rfl
theorem st_tuple_tuple : subTy "tuple" "tuple" = some true := rfl
theorem st_tuple_list : subTy "tuple" "list" = some false := rfl
theorem st_list_bool : subTy "list" "bool" = some false := rfl
theorem st_list_int : subTy "list" "int" = some false := rfl
theorem st_list_str : subTy "list" "str" = some false := rfl
theorem st_list_tuple : subTy "list" "tuple" = some false := rfl
theorem st_list_list : subTy "list" "list" = some true := rfl
theorem st_dict_bool : subTy "dict" "bool" = some false := rfl
theorem st_dict_int : subTy "dict" "int" = some false := rfl
theorem st_dict_str : subTy "dict" "str" = some false := rfl
theorem st_dict_tuple : subTy "dict" "tuple" = some false := rfl
theorem st_dict_list : subTy "dict" "list" = some false := rfl
variable {N : List Sl → Sto → Prop} {T : RV → Sto → Prop} {E : Str → Sto → Prop}
theorem l_ret {v : RV} : (@DM.wsK (.ret v S) ⟨N, T, E⟩) = T v S := rfl
theorem l_ret_non : retOf δ S .non = .ret (.val .non) S := rfl
theorem l_ret_bl : retOf δ S (.bl b) = .ret (.val (.bl b)) S := rfl
theorem l_ret_int : retOf δ S (.int i) = .ret (.val (.int i)) S := rfl
theorem l_ret_str : retOf δ S (.str x) = .ret (.val (.str x)) S := rfl
theorem l_ret_tup : retOf δ S (.tup ds) = .ret (.val (.tup ds)) S := rfl
theorem l_ret_lst : retOf δ S (.lst ds) = .ret (.val (.lst ds)) S := rfl
theorem l_ret_ref {k : Nat} : retOf δ S (.ref k) = .ret (.val (.ref k)) S := rfl
theorem l_ret_own {k : Nat} (h : δ[k]? = some (.ol ds)) : retOf δ S (.own k) = .ret (.ol ds) S := by show (match δ[k]? with | some (.ol ds) => _ | _ => _) = _; rw [h]
end
theorem l_eq_int {δ : List Sl} {S : Sto} {i j : Int} : cEq δ S (.int i) (.int j) = some (i == j) := rfl
theorem l_ne_int {δ : List Sl} {S : Sto} {i j : Int} : cNe δ S (.int i) (.int j) = some (!(i == j)) := rfl
theorem l_eq_str {δ : List Sl} {S : Sto} {i j : Str} : cEq δ S (.str i) (.str j) = some (i == j) := rfl
/-! ### the def that tells an exception's kind -/
theorem eq_of_wp {r : R RV} {v : RV} {S : Sto} (h : (@DM.wpK _ r ⟨(fun w S' => w = v ∧ S' = S), (fun _ _ => False)⟩)) : r = .ok v S := by
  cases r with
  | ok a S1 => obtain ⟨rfl, rfl⟩ := h; rfl
  | exc _ _ => exact h.elim
  | stuck => exact h.elim
theorem wp_semX {x : Addr} {n : Nat} {m : DS} {S : Sto} {Q : RV → Sto → Prop} {E : Str → Sto → Prop} : ((@DM.wpK _ (semX x n m S) ⟨Q, E⟩)) = (@DM.wsK (m (Sl.x x :: List.replicate (n - 1) Sl.no) S) ⟨(fun _ S' => Q (.val .non) S'), Q, E⟩) := by
  unfold semX
  cases m (Sl.x x :: List.replicate (n - 1) Sl.no) S <;> rfl
theorem wp_isE {x : Addr} {r : Bool} {δ : List Sl} {S : Sto} {Q : D → Sto → Prop} {E : Str → Sto → Prop} : ((@DM.wpK _ (dIsE x 0 r (.x x :: δ) S) ⟨Q, E⟩)) = Q (.bl r) S := by
  unfold dIsE
  simp only [List.getElem?_cons_zero, if_true]
  rfl
theorem wp_mth {T1 T2 : String} {h1 h2 : HM} {o : DM D} {m : DM (List D)} {δ : List Sl} {S : Sto} {Q : D → Sto → Prop} {E : Str → Sto → Prop} : ((@DM.wpK _ (dMth T1 T2 h1 h2 o m δ S) ⟨Q, E⟩)) = (@DM.wpK _ (o δ S) ⟨(fun x S1 => (@DM.woK _ (tyD δ S1 x) ⟨fun T => if T = T1 then (@DM.wpK _ (m δ S1) ⟨(fun ds S2 => (@DM.woK _ (h1 δ S2 x ds) ⟨fun p => Q p.1 p.2⟩)), E⟩) else if T = T2 then (@DM.wpK _ (m δ S1) ⟨(fun ds S2 => (@DM.woK _ (h2 δ S2 x ds) ⟨fun p => Q p.1 p.2⟩)), E⟩) else False⟩)), E⟩) := by
  unfold dMth; rw [wp_bind]; congr; funext x S1
  cases tyD δ S1 x with
  | none => rfl
  | some T =>
    show (@DM.wpK _ ((if T = T1 then dBind m (fun ds δ S => match h1 δ S x ds with | some (z, S') => .ok z S' | none => .stuck) δ S1 else if T = T2 then dBind m (fun ds δ S => match h2 δ S x ds with | some (z, S') => .ok z S' | none => .stuck) δ S1 else .stuck : R D)) ⟨Q, E⟩) = (if T = T1 then _ else _)
    by_cases c1 : T = T1
    · rw [if_pos c1, if_pos c1, wp_bind]; congr; funext ds S2
      cases h1 δ S2 x ds with
      | none => rfl
      | some p => rfl
    · rw [if_neg c1, if_neg c1]
      by_cases c2 : T = T2
      · rw [if_pos c2, if_pos c2, wp_bind]; congr; funext ds S2
        cases h2 δ S2 x ds with
        | none => rfl
        | some p => rfl
      · rw [if_neg c2, if_neg c2]; rfl
theorem wo_of {α : Type} {o : Option α} {a : α} {Q : α → Prop} (e : o = some a) (q : Q a) : (@DM.woK _ o ⟨Q⟩) := by rw [e]; exact q
theorem ext_own {x : Sl} {xs ys : List D} {S : Sto} (h : decide (xs.length + ys.length ≤ 16777216) = true) : hExtend [x, .ol xs] S (.own 1) [.lst ys] = some ([x, .ol (xs ++ ys)], S) := by
  show (if decide (xs.length + ys.length ≤ 16777216) = true then some (updL [x, .ol xs] S (.own 1) (xs ++ ys)) else none) = _
  rw [if_pos h]; rfl
end DM


end
local macro_rules | `(tactic| walk_at "dm_wp") => `(tactic| simp only [DM.wp_bind, DM.wp_const, DM.wp_var, DM.wp_op2, DM.wp_cmp, DM.wp_chain, DM.wp_bl, DM.wp_test, DM.wp_not, DM.wp_and, DM.wp_or, DM.wp_andV, DM.wp_orV, DM.wp_if, DM.wp_nil, DM.wp_cons, DM.wp_tup, DM.wp_lst, DM.wp_disp, DM.wp_frz, DM.wp_cell, DM.wp_b, DM.wp_fb, DM.wp_isi, DM.wp_neg, DM.wp_call, DM.wp_fcall, DM.wp_nopart, DM.wp_part, DM.wp_sl, DM.wp_attr, DM.wp_src, DM.wp_rng, DM.ws_nx, DM.ws_seq, DM.ws_bind, DM.ws_ret, DM.ws_retF, DM.ws_if, DM.ws_set, DM.ws_setF, DM.ws_raise, DM.ws_expr, DM.ws_mut, DM.ws_unp, DM.wif_t, DM.wif_f, DM.wsl_v, DM.wsl_ol, DM.wbl_bl, DM.wint_int, DM.wval_val, DM.wval_ol, DM.wol_ol, DM.wo_some, List.map_cons, List.map_nil, List.cons_append, List.nil_append, List.getElem?_cons_zero, List.getElem?_cons_succ, List.set_cons_zero, List.set_cons_succ, List.replicate, List.replicate_succ, List.replicate_zero, Nat.reduceSub, DM.l_len_tup, DM.l_len_lst, DM.l_len_scr, DM.l_ord, DM.l_add, DM.l_sub, DM.l_ix_tup, DM.l_ix_lst, DM.l_ix_scr, DM.l_ty_non, DM.l_ty_bl, DM.l_ty_int, DM.l_ty_str, DM.l_ty_tup, DM.l_ty_lst, DM.l_ty_scr, DM.l_ret, DM.l_ret_non, DM.l_ret_bl, DM.l_ret_int, DM.l_ret_str, DM.l_ret_tup, DM.l_ret_lst, DM.l_ret_ref, Option.bind_some, DM.st_NoneType_bool, DM.st_NoneType_int, DM.st_NoneType_str, DM.st_NoneType_tuple, DM.st_NoneType_list, DM.st_bool_bool, DM.st_bool_int, DM.st_bool_str, DM.st_bool_tuple, DM.st_bool_list, DM.st_int_bool, DM.st_int_int, DM.st_int_str, DM.st_int_tuple, DM.st_int_list, DM.st_str_bool, DM.st_str_int, DM.st_str_str, DM.st_str_tuple, DM.st_str_list, DM.st_tuple_bool, DM.st_tuple_int, DM.st_tuple_str, DM.st_tuple_tuple, DM.st_tuple_list, DM.st_list_bool, DM.st_list_int, DM.st_list_str, DM.st_list_tuple, DM.st_list_list, DM.st_dict_bool, DM.st_dict_int, DM.st_dict_str, DM.st_dict_tuple, DM.st_dict_list])
local macro_rules | `(tactic| k_call_by "dm_wp" ⟨$xs,*⟩) => `(tactic| simp only [$[$xs:term],*, DM.wp_bind, DM.wp_const, DM.wp_var, DM.wp_op2, DM.wp_cmp, DM.wp_chain, DM.wp_bl, DM.wp_test, DM.wp_not, DM.wp_and, DM.wp_or, DM.wp_andV, DM.wp_orV, DM.wp_if, DM.wp_nil, DM.wp_cons, DM.wp_tup, DM.wp_lst, DM.wp_disp, DM.wp_frz, DM.wp_cell, DM.wp_b, DM.wp_fb, DM.wp_isi, DM.wp_neg, DM.wp_call, DM.wp_fcall, DM.wp_nopart, DM.wp_part, DM.wp_sl, DM.wp_attr, DM.wp_src, DM.wp_rng, DM.ws_nx, DM.ws_seq, DM.ws_bind, DM.ws_ret, DM.ws_retF, DM.ws_if, DM.ws_set, DM.ws_setF, DM.ws_raise, DM.ws_expr, DM.ws_mut, DM.ws_unp, DM.wif_t, DM.wif_f, DM.wsl_v, DM.wsl_ol, DM.wbl_bl, DM.wint_int, DM.wval_val, DM.wval_ol, DM.wol_ol, DM.wo_some, List.map_cons, List.map_nil, List.cons_append, List.nil_append, List.getElem?_cons_zero, List.getElem?_cons_succ, List.set_cons_zero, List.set_cons_succ, List.replicate, List.replicate_succ, List.replicate_zero, Nat.reduceSub, DM.l_len_tup, DM.l_len_lst, DM.l_len_scr, DM.l_ord, DM.l_add, DM.l_sub, DM.l_ix_tup, DM.l_ix_lst, DM.l_ix_scr, DM.l_ty_non, DM.l_ty_bl, DM.l_ty_int, DM.l_ty_str, DM.l_ty_tup, DM.l_ty_lst, DM.l_ty_scr, DM.l_ret, DM.l_ret_non, DM.l_ret_bl, DM.l_ret_int, DM.l_ret_str, DM.l_ret_tup, DM.l_ret_lst, DM.l_ret_ref, Option.bind_some, DM.st_NoneType_bool, DM.st_NoneType_int, DM.st_NoneType_str, DM.st_NoneType_tuple, DM.st_NoneType_list, DM.st_bool_bool, DM.st_bool_int, DM.st_bool_str, DM.st_bool_tuple, DM.st_bool_list, DM.st_int_bool, DM.st_int_int, DM.st_int_str, DM.st_int_tuple, DM.st_int_list, DM.st_str_bool, DM.st_str_int, DM.st_str_str, DM.st_str_tuple, DM.st_str_list, DM.st_tuple_bool, DM.st_tuple_int, DM.st_tuple_str, DM.st_tuple_tuple, DM.st_tuple_list, DM.st_list_bool, DM.st_list_int, DM.st_list_str, DM.st_list_tuple, DM.st_list_list, DM.st_dict_bool, DM.st_dict_int, DM.st_dict_str, DM.st_dict_tuple, DM.st_dict_list])
section
set_option Elab.async false
set_option linter.all false
set_option maxRecDepth 100000
set_option autoImplicit false
namespace DM
open PySem
/-! ### loops -/
section
variable {α β : Type} {E : Str → Sto → Prop} {δ : List Sl} {S : Sto}
theorem wp_flc {t : Bool × List (Str × Nat)} {vs : List Nat} {ms : DM Src} {test : DM Bool} {elt : DM D} {Q : List D → Sto → Prop} : ((@DM.wpK _ (fLc t vs ms test elt δ S) ⟨Q, E⟩)) = (@DM.wpK _ (ms δ S) ⟨(fun src S1 => noOwnAt δ vs = true ∧ (@DM.wpK _ (lcL src (bindT t) test elt (srcLen S1 src + 1) 0 [] (wipeD δ vs) S1) ⟨Q, E⟩)), E⟩) := by
  unfold fLc; rw [wp_bind]; congr; funext src S1
  cases h : noOwnAt δ vs with
  | true => simp
  | false => simp [wpK]
theorem ws_for {t : Bool × List (Str × Nat)} {ms : DM Src} {body : DS} {N : List Sl → Sto → Prop} {T : RV → Sto → Prop} : ((@DM.wsK (sFor t ms body δ S) ⟨N, T, E⟩)) = (@DM.wpK _ (ms δ S) ⟨(fun src S1 => (@DM.wsK (forL src (bindT t) body (srcLen S1 src + 1) 0 δ S1) ⟨N, T, E⟩)), E⟩) := by
  unfold sFor; rw [ws_bind]
theorem wp_lcL {src : Src} {bind : D → List Sl → Option (List Sl)} {test : DM Bool} {elt : DM D} (ds : List D) (I : Nat → List D → Sto → Prop) (hs : ∀ i acc S, I i acc S → srcAt S src i = some (ds[i]?))
    (step : ∀ i acc S d, I i acc S → ds[i]? = some d → ∃ δ1, bind d δ = some δ1 ∧ (@DM.wpK _ (test δ1 S) ⟨(fun b S1 => (@DM.wifK b ⟨((@DM.wpK _ (elt δ1 S1) ⟨(fun y S2 => (!y.isOwn && decide (acc.length < 16777216)) = true ∧ I (i + 1) (acc ++ [y]) S2), (fun _ _ => False)⟩)), (I (i + 1) acc S1)⟩)), (fun _ _ => False)⟩)) :
    ∀ (n i : Nat) (acc : List D) (S : Sto), ds.length - i < n → i ≤ ds.length → I i acc S → (@DM.wpK _ (lcL src bind test elt n i acc δ S) ⟨(fun acc S => I ds.length acc S), E⟩)
  | 0, i, acc, S, h, _, _ => absurd h (Nat.not_lt_zero _)
  | n + 1, i, acc, S, h, hi, inv => by
    unfold lcL
    rw [hs i acc S inv]
    cases hd : ds[i]? with
    | none =>
      have : i = ds.length := by have := List.getElem?_eq_none_iff.mp hd; omega
      subst this
      exact inv
    | some d =>
      have hi2 : i < ds.length := (List.getElem?_eq_some_iff.mp hd).1
      obtain ⟨δ1, eb, w⟩ := step i acc S d inv hd
      dsimp only
      rw [eb]
      dsimp only
      cases et : test δ1 S with
      | stuck => rw [et] at w; exact w.elim
      | exc c S1 => rw [et] at w; exact w.elim
      | ok b S1 =>
        rw [et] at w
        cases b with
        | false => exact wp_lcL ds I hs step n (i + 1) acc S1 (by omega) hi2 w
        | true =>
          dsimp only
          have w : (@DM.wpK _ (elt δ1 S1) ⟨(fun y S2 => (!y.isOwn && decide (acc.length < 16777216)) = true ∧ I (i + 1) (acc ++ [y]) S2), (fun _ _ => False)⟩) := w
          cases ee : elt δ1 S1 with
          | stuck => rw [ee] at w; exact w.elim
          | exc c S1 => rw [ee] at w; exact w.elim
          | ok y S2 =>
            rw [ee] at w
            obtain ⟨w1, w2⟩ := w
            dsimp only
            rw [if_pos w1]
            exact wp_lcL ds I hs step n (i + 1) (acc ++ [y]) S2 (by omega) hi2 w2
theorem ws_forL {src : Src} {bind : D → List Sl → Option (List Sl)} {body : DS} {T : RV → Sto → Prop} (ds : List D) (I : Nat → List Sl → Sto → Prop) (hs : ∀ i δ S, I i δ S → srcAt S src i = some (ds[i]?))
    (step : ∀ i δ S d, I i δ S → ds[i]? = some d → ∃ δ1, bind d δ = some δ1 ∧ (@DM.wsK (body δ1 S) ⟨(I (i + 1)), T, E⟩)) :
    ∀ (n i : Nat) (δ : List Sl) (S : Sto), ds.length - i < n → i ≤ ds.length → I i δ S → (@DM.wsK (forL src bind body n i δ S) ⟨(fun δ S => I ds.length δ S), T, E⟩)
  | 0, i, δ, S, h, _, _ => absurd h (Nat.not_lt_zero _)
  | n + 1, i, δ, S, h, hi, inv => by
    unfold forL
    rw [hs i δ S inv]
    cases hd : ds[i]? with
    | none =>
      have : i = ds.length := by have := List.getElem?_eq_none_iff.mp hd; omega
      subst this
      exact inv
    | some d =>
      have hi2 : i < ds.length := (List.getElem?_eq_some_iff.mp hd).1
      obtain ⟨δ1, eb, w⟩ := step i δ S d inv hd
      dsimp only
      rw [eb]
      dsimp only
      cases em : body δ1 S with
      | nx δ2 S2 => rw [em] at w; exact ws_forL ds I hs step n (i + 1) δ2 S2 (by omega) hi2 w
      | ret v S2 => rw [em] at w; exact w
      | exc c S2 => rw [em] at w; exact w
      | brk δ2 S2 => rw [em] at w; exact w.elim
      | cnt δ2 S2 => rw [em] at w; exact w.elim
      | stuck => rw [em] at w; exact w.elim
/-- a reading that changes nothing, over a tuple -/
theorem wp_lc_map {k : Nat} {x : Str} {elt : DM D} {ds : List D} {f : D → D} {Q : List D → Sto → Prop} (hl : ds.length < 16777216) (hd : ∀ d ∈ ds, d.isOwn = false) (hf : ∀ d ∈ ds, (f d).isOwn = false ∧ (@DM.wpK _ (elt (δ.set k (.v d)) S) ⟨(fun y S' => S' = S ∧ y = f d), (fun _ _ => False)⟩)) (q : Q (ds.map f) S) :
    (@DM.wpK _ (lcL (.seq (.tup ds)) (bindT (false, [(x, k)])) dYes elt (ds.length + 1) 0 [] δ S) ⟨Q, E⟩) := by
  refine wp_mono (wp_lcL (E := E) ds (fun i acc S' => S' = S ∧ acc = (ds.map f).take i) (fun i acc S' _ => rfl) (fun i acc S' d inv e => ?_) (ds.length + 1) 0 [] S (by omega) (Nat.zero_le _) ⟨rfl, rfl⟩) (fun acc S' z => ?_) (fun c S' z => z)
  · obtain ⟨rfl, rfl⟩ := inv
    have hi : i < ds.length := (List.getElem?_eq_some_iff.mp e).1
    have hm : d ∈ ds := List.mem_of_getElem? e
    obtain ⟨h1, h2⟩ := hf d hm
    refine ⟨δ.set k (.v d), ?_, ?_⟩
    · show (if d.isOwn = true then none else some (δ.set k (.v d))) = _
      rw [hd d hm]; rfl
    · show (@DM.wpK _ (elt (δ.set k (.v d)) S') ⟨_, _⟩)
      refine wp_mono h2 (fun y S2 z => ?_) (fun _ _ z => z)
      obtain ⟨rfl, rfl⟩ := z
      refine ⟨?_, rfl, ?_⟩
      · rw [h1]; simp; omega
      · have hi' : i < (ds.map f).length := by simpa using hi
        rw [List.take_succ_eq_append_getElem hi']
        congr 2
        rw [List.getElem_map]
        congr 1
        exact (List.getElem?_eq_some_iff.mp e).2.symm
  · obtain ⟨rfl, rfl⟩ := z
    rw [List.take_of_length_le (by simp)]
    exact q
end
end DM


end
section
set_option Elab.async false
set_option linter.all false
set_option maxRecDepth 100000
set_option autoImplicit false
namespace DM
open PySem
abbrev scrD (ns : List Int) : D := .scr (ns.map D.int)
theorem len_scr (ns : List Int) : (ns.map D.int).length = ns.length := by simp
theorem at_scr {ns : List Int} {k : Int} (h0 : 0 ≤ k) (h1 : k < ns.length) : L2.atI (ns.map D.int) k = some (.int (ns.getD k.toNat 0)) := by
  rw [l_at h0 (by simpa using h1)]
  have : k.toNat < ns.length := by omega
  simp [this, List.getD]
theorem eq_nil_scr {δ : List Sl} {S : Sto} {ns : List Int} : cEq δ S (scrD ns) (.lst []) = some (decide (ns = [])) := by
  have h1 : ∀ l : List Int, (l.map D.int).all (okD 59) = true := fun l => by induction l with
    | nil => rfl
    | cons a l ih => simp [ih, okD]
  unfold cEq
  have e1 : snap δ S (scrD ns) = scrD ns := rfl
  have e2 : snap δ S (.lst []) = .lst [] := rfl
  have e0 : lenNe δ S (scrD ns) (.lst []) = false := rfl
  rw [e1, e2, e0]
  have e3 : okD 60 (scrD ns) = true := h1 ns
  have e4 : okD 60 (.lst []) = true := rfl
  rw [e3, e4]
  cases ns with
  | nil => rfl
  | cons a l => rfl
theorem mul_small {i j : Int} (h : -(2 ^ 64) < j) (h2 : j < 2 ^ 64) : mulOk i j = true := by
  unfold mulOk
  rw [Bool.or_eq_true_iff]
  exact .inr (Nat.ble_eq_true_of_le (by omega))
theorem wp_use {α : Type} {r : R α} {Q Q' : α → Sto → Prop} {E' : PySem.Str → Sto → Prop} (h : (@DM.wpK _ r ⟨Q, (fun _ _ => False)⟩)) (hq : ∀ a S, Q a S → Q' a S) : (@DM.wpK _ r ⟨Q', E'⟩) := wp_mono h hq fun _ _ z => z.elim
theorem set_c {S : Sto} {i j : Nat} {x : Option Cell} : (S.set i x).c j = if j = i then x else S.c j := rfl
theorem new_c {S : Sto} {j : Nat} {x : Cell} : (S.new x).c j = if j = S.nx then some x else S.c j := rfl
theorem set_nx {S : Sto} {i : Nat} {x : Option Cell} : (S.set i x).nx = S.nx := rfl
theorem new_nx {S : Sto} {x : Cell} : (S.new x).nx = S.nx + 1 := rfl
theorem set_same {S : Sto} {i : Nat} {x : Option Cell} : (S.set i x).c i = x := if_pos rfl
theorem set_other {S : Sto} {i j : Nat} {x : Option Cell} (h : j ≠ i) : (S.set i x).c j = S.c j := if_neg h
theorem new_same {S : Sto} {x : Cell} : (S.new x).c S.nx = some x := if_pos rfl
theorem new_other {S : Sto} {j : Nat} {x : Cell} (h : j ≠ S.nx) : (S.new x).c j = S.c j := if_neg h
theorem l_app_ref {δ : List Sl} {S : Sto} {k : Nat} {l : List D} {y : D} (h : S.c k = some (.lst l)) (hy : y.isOwn = false) (hl : l.length < 16777216) : hAppend δ S (.ref k) [y] = some (δ, S.set k (some (.lst (l ++ [y])))) := by
  unfold hAppend
  simp only [mutL, h, hy, decide_eq_true hl]
  rfl
theorem wp_of_eq {α : Type} {r : R α} {a : α} {S : Sto} {Q : α → Sto → Prop} {E : Str → Sto → Prop} (h : r = .ok a S) : ((@DM.wpK _ r ⟨Q, E⟩)) = Q a S := by rw [h]; rfl
/-- the cell of draws: so many are gone -/
def zeros (n : Nat) : List D := List.replicate n (.int 0)
theorem zeros_len (n : Nat) : (zeros n).length = n := List.length_replicate
theorem zeros_succ (n : Nat) : zeros n ++ [.int 0] = zeros (n + 1) := List.replicate_succ'.symm
def TownAt (S : Sto) (t n : Nat) : Prop := S.c t = some (.lst (zeros n))
def tick (S : Sto) (t n : Nat) : Sto := S.set t (some (.lst (zeros (n + 1))))
theorem getD_of {α : Type} {l : List α} {i : Nat} {d : α} (h : i < l.length) : l.getD i d = l[i] := by simp [List.getD, h]
theorem tick_at {S : Sto} {t n : Nat} : TownAt (tick S t n) t (n + 1) := set_same
theorem tick_nx {S : Sto} {t n : Nat} : (tick S t n).nx = S.nx := rfl
theorem tick_c {S : Sto} {t n j : Nat} (h : j ≠ t) : (tick S t n).c j = S.c j := set_other h
def cellV (ns : List Int) (k : Int) : Int := if k < ns.length then ns.getD k.toNat 0 else if ns = [] then 0 else ns.getD (k % ns.length).toNat 0 * 31 + k
end DM


end
section
/-! ### tables as plain data (a mirror of the program's classes) -/
namespace TB
inductive Who | mine | others | all deriving DecidableEq, Repr
inductive Evn | comes | goes | hurt | mended deriving DecidableEq, Repr
inductive Lay | set | add | cap deriving DecidableEq, Repr
inductive An | hit (w : Who) (n : Int) | mend (w : Who) (n : Int) | bring (n : Int) deriving DecidableEq, Repr
inductive Tg | seat (s : Int) | who (w : Who) deriving DecidableEq, Repr
inductive Cd | hit (t : Tg) (n : Int) | mend (t : Tg) (n : Int) | strike (u n : Int) | bring (n : Int) (w : Option (Evn × An)) | bar (i : Int) | stand (l : Lay) (w : Who) (m : Int) | lift (s : Int) deriving DecidableEq, Repr
inductive Nt | turn (s : Int) | done (i : Int) | void (i : Int) | hurt (s l : Int) | mended (s l : Int) | comes (u : Int) | goes (u : Int) | stands (s : Int) | waits (i : Int) deriving DecidableEq, Repr
def An.cd : An → Cd
  | .hit w n => .hit (.who w) n
  | .mend w n => .mend (.who w) n
  | .bring n => .bring n none
structure Man where
  owner : Int
  size : Int
  wh : Option (Evn × An)
  harm : Int
  deriving DecidableEq, Repr
structure Tb where
  lives : List Int
  hands : List (List Cd)
  men : List (Int × Man)
  stays : List (Int × Int × Cd)
  coming : Int
  stack : List (Int × Int × Cd)
  count : Int
  turner : Int
  asked : Int
  passes : Int
  due : List (Int × Cd)
  deriving DecidableEq, Repr
def Tb.new (lives : List Int) (hands : List (List Cd)) : Tb := ⟨lives, hands, [], [], 0, [], 0, 0, 0, 0, []⟩
def touches (w : Who) (mine owner : Int) : Bool := match w with
  | .all => true
  | .mine => mine == owner
  | .others => !(mine == owner)
namespace Tb
def n (T : Tb) : Nat := T.lives.length
def life (T : Tb) (s : Int) : Int := T.lives.getD s.toNat 0
def hand (T : Tb) (s : Int) : List Cd := T.hands.getD s.toNat []
def seats (T : Tb) : List Int := (List.range T.n).map fun (i : Nat) => (i : Int)
def alive (T : Tb) : List Int := T.seats.filter fun s => decide (0 < T.life s)
def isOver (T : Tb) : Bool := decide (T.alive.length < 2)
def seatsFrom (T : Tb) (s : Int) : List Int := ((List.range T.n).map fun (k : Nat) => (s + k) % T.n).filter fun s => decide (0 < T.life s)
def behind (T : Tb) (s : Int) : Int := (T.seatsFrom (s + 1) ++ [s]).headD s
def put (T : Tb) (owner : Int) (c : Cd) : Tb := { T with stack := T.stack ++ [(T.count, owner, c)], count := T.count + 1 }
def hasMan (T : Tb) (u : Int) : Bool := T.men.any fun m => decide (m.1 = u)
def hasStay (T : Tb) (u : Int) : Bool := T.stays.any fun m => decide (m.1 = u)
def hasItem (T : Tb) (u : Int) : Bool := T.stack.any fun m => decide (m.1 = u)
def hasTarget (T : Tb) : Cd → Bool
  | .strike u _ => T.hasMan u
  | .bar i => T.hasItem i
  | .lift s => T.hasStay s
  | .hit (.seat s) _ => decide (0 < T.life s)
  | .mend (.seat s) _ => decide (0 < T.life s)
  | _ => true
def isThere (T : Tb) : Cd → Bool
  | .bring _ _ => decide (T.men.length < 20)
  | c => T.hasTarget c
def playOk (T : Tb) (seat place : Int) : Tb := ({ T with passes := 0, hands := T.hands.set seat.toNat ((T.hand seat).eraseIdx place.toNat) } : Tb).put seat ((T.hand seat).getD place.toNat (.bar 0))
/-- which refusal, if any, of a play by the seat that is asked -/
def playNo (T : Tb) (seat place : Int) : Option Nat :=
  if ¬ (0 ≤ place ∧ place < (T.hand seat).length) then some 3
  else if T.hasTarget ((T.hand seat).getD place.toNat (.bar 0)) = false then some 4
  else if T.stack.length = 40 then some 8
  else none
def dueOf (T : Tb) (ev : Evn) : List (Int × Cd) := T.men.filterMap fun m => match m.2.wh with
  | some (e, a) => if e = ev then some (m.2.owner, a.cd) else none
  | none => none
def happens (T : Tb) (ev : Evn) : Tb := { T with due := T.due ++ T.dueOf ev }
def hitOne (T : Tb) (s n : Int) : List Nt × Tb :=
  let l := max 0 (T.life s - n)
  ([.hurt s l], ({ T with lives := T.lives.set s.toNat l } : Tb).happens .hurt)
def mendOne (T : Tb) (s n : Int) : List Nt × Tb :=
  let l := min 99 (T.life s + n)
  ([.mended s l], ({ T with lives := T.lives.set s.toNat l } : Tb).happens .mended)
def each (f : Tb → Int → List Nt × Tb) : List Int → Tb → List Nt × Tb
  | [], T => ([], T)
  | s :: r, T => ((f T s).1 ++ (each f r (f T s).2).1, (each f r (f T s).2).2)
def targets (T : Tb) (owner : Int) : Tg → List Int
  | .seat s => [s]
  | .who w => (T.seatsFrom owner).filter fun s => touches w owner s
def harmed (T : Tb) (u n : Int) : Tb := { T with men := T.men.map fun m => if m.1 = u then (m.1, { m.2 with harm := m.2.harm + n }) else m }
def resolve (T : Tb) (num owner : Int) (c : Cd) : List Nt × Tb :=
  if T.isThere c = false then ([.void num], T) else match c with
  | .hit t n => let r := each (fun T s => T.hitOne s n) (T.targets owner t) T; (.done num :: r.1, r.2)
  | .mend t n => let r := each (fun T s => T.mendOne s n) (T.targets owner t) T; (.done num :: r.1, r.2)
  | .strike u n => ([.done num], T.harmed u n)
  | .bring n w => ([.done num, .comes T.coming], ({ T with men := T.men ++ [(T.coming, ⟨owner, n, w, 0⟩)], coming := T.coming + 1 } : Tb).happens .comes)
  | .stand l w m => ([.done num, .stands T.coming], { T with stays := T.stays ++ [(T.coming, owner, .stand l w m)], coming := T.coming + 1 })
  | .bar i => ([.done num], { T with stack := T.stack.filter fun x => decide (x.1 ≠ i) })
  | .lift s => ([.done num], { T with stays := T.stays.filter fun x => decide (x.1 ≠ s) })
def layer (T : Tb) (l : Lay) (owner : Int) : List Int := T.stays.filterMap fun x => match x.2.2 with
  | .stand l' w m => if l' = l ∧ touches w x.2.1 owner = true then some m else none
  | _ => none
def minL : Int → List Int → Int
  | m, [] => m
  | m, i :: r => minL (if i < m then i else m) r
def power (T : Tb) (m : Man) : Int := minL ((m.size :: T.layer .set m.owner).getLastD 0 + (T.layer .add m.owner).sum) (T.layer .cap m.owner)
def fails (T : Tb) (m : Man) : Bool := decide (T.power m ≤ m.harm) || decide (T.life m.owner = 0)
def failing (T : Tb) : List Int := (T.men.filter fun m => T.fails m.2).map (·.1)
def rep (f : Tb → Tb) : Nat → Tb → Tb
  | 0, T => T
  | k + 1, T => rep f k (f T)
def fallOnce (T : Tb) : Tb := let T1 := rep (fun T => T.happens .goes) T.failing.length T; { T1 with men := T1.men.filter fun m => !T.fails m.2 }
def fall : Nat → Tb → List Nt × Tb
  | 0, T => ([], T)
  | k + 1, T => if T.failing = [] then ([], T) else let r := fall k T.fallOnce; (T.failing.map Nt.goes ++ r.1, r.2)
def clearOut (T : Tb) : Tb := { T with stack := T.stack.filter fun x => decide (0 < T.life x.2.1), stays := T.stays.filter fun x => decide (T.life x.2.1 ≠ 0) }
def waitOne (s : Int) (T : Tb) (d : Int × Cd) : List Nt × Tb := if d.1 = s ∧ T.stack.length < 40 then ([.waits T.count], T.put d.1 d.2) else ([], T)
def waitRow (s : Int) : List (Int × Cd) → Tb → List Nt × Tb
  | [], T => ([], T)
  | d :: r, T => ((waitOne s T d).1 ++ (waitRow s r (waitOne s T d).2).1, (waitRow s r (waitOne s T d).2).2)
def waitAll (due : List (Int × Cd)) : List Int → Tb → List Nt × Tb
  | [], T => ([], T)
  | s :: r, T => ((waitRow s due T).1 ++ (waitAll due r (waitRow s due T).2).1, (waitAll due r (waitRow s due T).2).2)
def settleDown (T : Tb) : List Nt × Tb :=
  let r := fall (T.men.length + 1) T
  let T2 := r.2.clearOut
  let q := waitAll T2.due (T2.seatsFrom T2.turner) T2
  (r.1 ++ q.1, { q.2 with due := [] })
/-- whose turn it is then -/
def ask (T : Tb) : Tb := if T.isOver then T else { T with asked := (T.seatsFrom T.turner).headD 0, turner := (T.seatsFrom T.turner).headD 0 }
def afterDone (r : List Nt × Tb) : List Nt × Tb := (r.1 ++ r.2.settleDown.1, r.2.settleDown.2.ask)
/-- a passing by the seat that is asked -/
def goBy (T : Tb) : List Nt × Tb :=
  if T.passes + 1 < T.alive.length then ([], { T with passes := T.passes + 1, asked := T.behind T.asked })
  else match T.stack.getLast? with
    | none => ([.turn (T.behind T.turner)], { T with passes := 0, turner := T.behind T.turner, asked := T.behind T.turner })
    | some x => afterDone (({ T with passes := 0, stack := T.stack.dropLast } : Tb).resolve x.1 x.2.1 x.2.2)
def units (T : Tb) : List (Int × Int × Int × Int) := T.men.map fun m => (m.1, m.2.owner, T.power m.2, m.2.harm)
end Tb
end TB


end
section
set_option Elab.async false
set_option linter.all false
set_option maxRecDepth 100000
set_option autoImplicit false
namespace TB
open PySem DM
/-! ### how tables stand in the store -/
def Who.s : Who → Str
  | .mine => "mine"
  | .others => "others"
  | .all => "all"
def Evn.s : Evn → Str
  | .comes => "comes"
  | .goes => "goes"
  | .hurt => "hurt"
  | .mended => "mended"
def Lay.s : Lay → Str
  | .set => "set"
  | .add => "add"
  | .cap => "cap"
def An.d : An → D
  | .hit w n => .tup [.str "hit", .str w.s, .int n]
  | .mend w n => .tup [.str "mend", .str w.s, .int n]
  | .bring n => .tup [.str "bring", .int n, .non]
def whD : Option (Evn × An) → D
  | none => .non
  | some (e, a) => .tup [.str e.s, a.d]
def Tg.d : Tg → D
  | .seat s => .int s
  | .who w => .str w.s
def Cd.d : Cd → D
  | .hit t n => .tup [.str "hit", t.d, .int n]
  | .mend t n => .tup [.str "mend", t.d, .int n]
  | .strike u n => .tup [.str "strike", .int u, .int n]
  | .bring n w => .tup [.str "bring", .int n, whD w]
  | .bar i => .tup [.str "bar", .int i]
  | .stand l w m => .tup [.str "stand", .str l.s, .str w.s, .int m]
  | .lift s => .tup [.str "lift", .int s]
theorem An.cd_d (a : An) : a.cd.d = a.d := by cases a <;> rfl
def Nt.d : Nt → D
  | .turn s => .tup [.str "turn", .int s]
  | .done s => .tup [.str "done", .int s]
  | .void s => .tup [.str "void", .int s]
  | .hurt s l => .tup [.str "hurt", .int s, .int l]
  | .mended s l => .tup [.str "mended", .int s, .int l]
  | .comes s => .tup [.str "comes", .int s]
  | .goes s => .tup [.str "goes", .int s]
  | .stands s => .tup [.str "stands", .int s]
  | .waits s => .tup [.str "waits", .int s]
def Man.c (m : Man) : Cell := .dic [(.inr "owner", .int m.owner), (.inr "size", .int m.size), (.inr "when", whD m.wh), (.inr "harm", .int m.harm)]
def itC (x : Int × Int × Cd) : Cell := .dic [(.inr "number", .int x.1), (.inr "owner", .int x.2.1), (.inr "card", x.2.2.d)]
def stD (x : Int × Int × Cd) : D := .tup [.int x.2.1, x.2.2.d]
def duD (x : Int × Cd) : D := .tup [.int x.1, x.2.d]
inductive Ro | obj | lv | hd | hand (k : Nat) | fl | mn | man (k : Int) | sy | st | item (k : Int) | du
  deriving DecidableEq
def flds (A : Ro → Nat) (T : Tb) : List (Str × D) := [("lives", .ref (A .lv)), ("hands", .ref (A .hd)), ("floor", .ref (A .fl)), ("stack", .ref (A .st)), ("count", .int T.count), ("turner", .int T.turner), ("asked", .int T.asked), ("passes", .int T.passes), ("due", .ref (A .du))]
def flFs (A : Ro → Nat) (T : Tb) : List (Str × D) := [("men", .ref (A .mn)), ("stays", .ref (A .sy)), ("coming", .int T.coming)]
def content (A : Ro → Nat) (T : Tb) : Ro → Option Cell
  | .obj => some (.obj "Table" (flds A T))
  | .lv => some (.lst (T.lives.map .int))
  | .hd => some (.lst ((List.range T.hands.length).map fun k => .ref (A (.hand k))))
  | .hand k => (T.hands[k]?).map fun h => .lst (h.map Cd.d)
  | .fl => some (.obj "Floor" (flFs A T))
  | .mn => some (.dic (T.men.map fun m => (.inl m.1, .ref (A (.man m.1)))))
  | .man k => (T.men.find? fun m => decide (m.1 = k)).map fun m => m.2.c
  | .sy => some (.dic (T.stays.map fun x => (.inl x.1, stD x)))
  | .st => some (.lst (T.stack.map fun x => .ref (A (.item x.1))))
  | .item k => (T.stack.find? fun m => decide (m.1 = k)).map itC
  | .du => some (.lst (T.due.map duD))
def live (T : Tb) (r : Ro) : Prop := (content (fun _ => 0) T r).isSome = true
theorem live_of {A : Ro → Nat} {T : Tb} {r : Ro} : live T r ↔ (content A T r).isSome = true := by
  unfold live; cases r <;> simp [content]
theorem live_c {A : Ro → Nat} {T : Tb} {r : Ro} {c : Cell} (h : content A T r = some c) : live T r := by rw [live_of (A := A), h]; rfl
structure Rep (S : Sto) (A : Ro → Nat) (T : Tb) : Prop where
  eq : ∀ r c, content A T r = some c → S.c (A r) = some c
  lt : ∀ r, live T r → A r < S.nx
  inj : ∀ r r', live T r → live T r' → A r = A r' → r = r'
/-- the table has become another one; nothing else is touched -/
structure Upd (S : Sto) (A : Ro → Nat) (T : Tb) (S' : Sto) (A' : Ro → Nat) (T' : Tb) : Prop where
  rep : Rep S' A' T'
  obj : A' .obj = A .obj
  nx : S.nx ≤ S'.nx
  keep : ∀ j, j < S.nx → (∀ r, live T r → A r ≠ j) → S'.c j = S.c j
  fp : ∀ r, live T' r → (∃ r0, live T r0 ∧ A r0 = A' r) ∨ S.nx ≤ A' r
section
variable {S S1 S2 : Sto} {A A1 A2 : Ro → Nat} {T T1 T2 : Tb}
theorem Upd.refl (h : Rep S A T) : Upd S A T S A T := ⟨h, rfl, Nat.le_refl _, fun _ _ _ => rfl, fun r l => .inl ⟨r, l, rfl⟩⟩
theorem Upd.trans (a : Upd S A T S1 A1 T1) (b : Upd S1 A1 T1 S2 A2 T2) : Upd S A T S2 A2 T2 := by
  refine ⟨b.rep, b.obj.trans a.obj, Nat.le_trans a.nx b.nx, fun j hj n => ?_, fun r l => ?_⟩
  · rw [b.keep j (Nat.lt_of_lt_of_le hj a.nx) fun r l e => ?_, a.keep j hj n]
    rcases a.fp r l with ⟨r0, l0, e0⟩ | h
    · exact n r0 l0 (e0.trans e)
    · omega
  · rcases b.fp r l with ⟨r1, l1, e1⟩ | h
    · rcases a.fp r1 l1 with ⟨r0, l0, e0⟩ | h
      · exact .inl ⟨r0, l0, e0.trans e1⟩
      · right; omega
    · right; have := a.nx; omega
/-- what stood elsewhere -/
theorem Rep.ext (h : Rep S A T) (nx : S.nx ≤ S1.nx) (k : ∀ r, live T r → S1.c (A r) = S.c (A r)) : Rep S1 A T :=
  ⟨fun r c e => (k r (live_c e)).trans (h.eq r c e), fun r l => Nat.lt_of_lt_of_le (h.lt r l) nx, h.inj⟩
/-- a cell of it is written -/
theorem Rep.set (h : Rep S A T) (r0 : Ro) {c : Cell} (h0 : live T r0) (hc : content A T1 r0 = some c) (ho : ∀ r, r ≠ r0 → content A T1 r = content A T r ∨ content A T1 r = none) : Upd S A T (S.set (A r0) (some c)) A T1 := by
  have lv : ∀ r, live T1 r → live T r := fun r l => by
    by_cases e : r = r0
    · rw [e]; exact h0
    · rcases ho r e with q | q
      · rw [live_of (A := A), ← q, ← live_of]; exact l
      · rw [live_of (A := A), q] at l; cases l
  refine ⟨⟨fun r c' e => ?_, fun r l => h.lt r (lv r l), fun r r' l l' => h.inj r r' (lv r l) (lv r' l')⟩, rfl, Nat.le_refl _, fun j hj n => set_other (Ne.symm (n r0 h0)), fun r l => .inl ⟨r, lv r l, rfl⟩⟩
  by_cases er : r = r0
  · subst er; rw [hc] at e; cases e; exact set_same
  · rcases ho r er with q | q
    · rw [q] at e
      rw [set_other fun z => er (h.inj r r0 (live_c e) h0 z)]
      exact h.eq r c' e
    · rw [q] at e; cases e
def put (A : Ro → Nat) (r0 : Ro) (i : Nat) : Ro → Nat := fun r => if r = r0 then i else A r
theorem put_same {r0 : Ro} {i : Nat} : put A r0 i r0 = i := if_pos rfl
theorem put_other {r r0 : Ro} {i : Nat} (h : r ≠ r0) : put A r0 i r = A r := if_neg h
/-- a new cell, and one that names it -/
theorem Rep.renew (h : Rep S A T) (r0 r1 : Ro) {c0 c1 : Cell} (hn : r1 ≠ r0) (h1 : live T r1) (e0 : content (put A r0 S.nx) T1 r0 = some c0) (e1 : content (put A r0 S.nx) T1 r1 = some c1)
    (ho : ∀ r, r ≠ r0 → r ≠ r1 → content (put A r0 S.nx) T1 r = content A T r ∨ content (put A r0 S.nx) T1 r = none) (hobj : r0 ≠ .obj) : Upd S A T ((S.new c0).set (A r1) (some c1)) (put A r0 S.nx) T1 := by
  have lv : ∀ r, r ≠ r0 → live T1 r → live T r := fun r er l => by
    by_cases e : r = r1
    · rw [e]; exact h1
    · rcases ho r er e with q | q
      · rw [live_of (A := A), ← q, ← live_of]; exact l
      · rw [live_of (A := put A r0 S.nx), q] at l; cases l
  have n1 := h.lt r1 h1
  refine ⟨⟨fun r c' e => ?_, fun r l => ?_, fun r r' l l' e => ?_⟩, put_other (Ne.symm hobj), Nat.le_succ _, fun j hj n => ?_, fun r l => ?_⟩
  · by_cases er : r = r0
    · subst er; rw [e0] at e; cases e
      rw [put_same, set_other (by omega)]; exact new_same
    · rw [put_other er]
      by_cases e1' : r = r1
      · subst e1'; rw [e1] at e; cases e; exact set_same
      · rcases ho r er e1' with q | q
        · rw [q] at e
          have l := live_c e
          rw [set_other fun z => e1' (h.inj r r1 l h1 z), new_other (by have := h.lt r l; omega)]
          exact h.eq r c' e
        · rw [q] at e; cases e
  · by_cases er : r = r0
    · subst er; rw [put_same]; exact Nat.lt_succ_self _
    · rw [put_other er]; exact Nat.lt_succ_of_lt (h.lt r (lv r er l))
  · by_cases er : r = r0
    · by_cases er' : r' = r0
      · rw [er, er']
      · rw [er, put_same, put_other er'] at e
        have := h.lt r' (lv r' er' l'); omega
    · by_cases er' : r' = r0
      · rw [er', put_same, put_other er] at e
        have := h.lt r (lv r er l); omega
      · rw [put_other er, put_other er'] at e
        exact h.inj r r' (lv r er l) (lv r' er' l') e
  · rw [set_other (Ne.symm (n r1 h1)), new_other (by omega)]
  · by_cases er : r = r0
    · subst er; right; rw [put_same]; exact Nat.le_refl _
    · left; exact ⟨r, lv r er l, (put_other er).symm⟩
end
theorem se_hit_mend : ((Str.ofString "hit") == (Str.ofString "mend")) = false := by kernel_rfl
theorem se_hit_strike : ((Str.ofString "hit") == (Str.ofString "strike")) = false := by kernel_rfl
theorem se_hit_bring : ((Str.ofString "hit") == (Str.ofString "bring")) = false := by kernel_rfl
theorem se_hit_bar : ((Str.ofString "hit") == (Str.ofString "bar")) = false := by kernel_rfl
theorem se_hit_stand : ((Str.ofString "hit") == (Str.ofString "stand")) = false := by kernel_rfl
theorem se_hit_lift : ((Str.ofString "hit") == (Str.ofString "lift")) = false := by kernel_rfl
theorem se_mend_hit : ((Str.ofString "mend") == (Str.ofString "hit")) = false := by kernel_rfl
theorem se_mend_strike : ((Str.ofString "mend") == (Str.ofString "strike")) = false := by kernel_rfl
theorem se_mend_bring : ((Str.ofString "mend") == (Str.ofString "bring")) = false := by kernel_rfl
theorem se_mend_bar : ((Str.ofString "mend") == (Str.ofString "bar")) = false := by kernel_rfl
theorem se_mend_stand : ((Str.ofString "mend") == (Str.ofString "stand")) = false := by kernel_rfl
theorem se_mend_lift : ((Str.ofString "mend") == (Str.ofString "lift")) = false := by kernel_rfl
theorem se_strike_hit : ((Str.ofString "strike") == (Str.ofString "hit")) = false := by kernel_rfl
theorem se_strike_mend : ((Str.ofString "strike") == (Str.ofString "mend")) = false := by kernel_rfl
theorem se_strike_bring : ((Str.ofString "strike") == (Str.ofString "bring")) = false := by kernel_rfl
theorem se_strike_bar : ((Str.ofString "strike") == (Str.ofString "bar")) = false := by kernel_rfl
theorem se_strike_stand : ((Str.ofString "strike") == (Str.ofString "stand")) = false := by kernel_rfl
theorem se_strike_lift : ((Str.ofString "strike") == (Str.ofString "lift")) = false := by kernel_rfl
theorem se_bring_hit : ((Str.ofString "bring") == (Str.ofString "hit")) = false := by kernel_rfl
theorem se_bring_mend : ((Str.ofString "bring") == (Str.ofString "mend")) = false := by kernel_rfl
theorem se_bring_strike : ((Str.ofString "bring") == (Str.ofString "strike")) = false := by kernel_rfl
theorem se_bring_bar : ((Str.ofString "bring") == (Str.ofString "bar")) = false := by kernel_rfl
theorem se_bring_stand : ((Str.ofString "bring") == (Str.ofString "stand")) = false := by kernel_rfl
theorem se_bring_lift : ((Str.ofString "bring") == (Str.ofString "lift")) = false := by kernel_rfl
theorem se_bar_hit : ((Str.ofString "bar") == (Str.ofString "hit")) = false := by kernel_rfl
theorem se_bar_mend : ((Str.ofString "bar") == (Str.ofString "mend")) = false := by kernel_rfl
theorem se_bar_strike : ((Str.ofString "bar") == (Str.ofString "strike")) = false := by kernel_rfl
theorem se_bar_bring : ((Str.ofString "bar") == (Str.ofString "bring")) = false := by kernel_rfl
theorem se_bar_stand : ((Str.ofString "bar") == (Str.ofString "stand")) = false := by kernel_rfl
theorem se_bar_lift : ((Str.ofString "bar") == (Str.ofString "lift")) = false := by kernel_rfl
theorem se_stand_hit : ((Str.ofString "stand") == (Str.ofString "hit")) = false := by kernel_rfl
theorem se_stand_mend : ((Str.ofString "stand") == (Str.ofString "mend")) = false := by kernel_rfl
theorem se_stand_strike : ((Str.ofString "stand") == (Str.ofString "strike")) = false := by kernel_rfl
theorem se_stand_bring : ((Str.ofString "stand") == (Str.ofString "bring")) = false := by kernel_rfl
theorem se_stand_bar : ((Str.ofString "stand") == (Str.ofString "bar")) = false := by kernel_rfl
theorem se_stand_lift : ((Str.ofString "stand") == (Str.ofString "lift")) = false := by kernel_rfl
theorem se_lift_hit : ((Str.ofString "lift") == (Str.ofString "hit")) = false := by kernel_rfl
theorem se_lift_mend : ((Str.ofString "lift") == (Str.ofString "mend")) = false := by kernel_rfl
theorem se_lift_strike : ((Str.ofString "lift") == (Str.ofString "strike")) = false := by kernel_rfl
theorem se_lift_bring : ((Str.ofString "lift") == (Str.ofString "bring")) = false := by kernel_rfl
theorem se_lift_bar : ((Str.ofString "lift") == (Str.ofString "bar")) = false := by kernel_rfl
theorem se_lift_stand : ((Str.ofString "lift") == (Str.ofString "stand")) = false := by kernel_rfl
theorem se_set_add : ((Str.ofString "set") == (Str.ofString "add")) = false := by kernel_rfl
theorem se_set_cap : ((Str.ofString "set") == (Str.ofString "cap")) = false := by kernel_rfl
theorem se_add_set : ((Str.ofString "add") == (Str.ofString "set")) = false := by kernel_rfl
theorem se_add_cap : ((Str.ofString "add") == (Str.ofString "cap")) = false := by kernel_rfl
theorem se_cap_set : ((Str.ofString "cap") == (Str.ofString "set")) = false := by kernel_rfl
theorem se_cap_add : ((Str.ofString "cap") == (Str.ofString "add")) = false := by kernel_rfl
theorem se_mine_others : ((Str.ofString "mine") == (Str.ofString "others")) = false := by kernel_rfl
theorem se_mine_all : ((Str.ofString "mine") == (Str.ofString "all")) = false := by kernel_rfl
theorem se_others_mine : ((Str.ofString "others") == (Str.ofString "mine")) = false := by kernel_rfl
theorem se_others_all : ((Str.ofString "others") == (Str.ofString "all")) = false := by kernel_rfl
theorem se_all_mine : ((Str.ofString "all") == (Str.ofString "mine")) = false := by kernel_rfl
theorem se_all_others : ((Str.ofString "all") == (Str.ofString "others")) = false := by kernel_rfl
theorem se_comes_goes : ((Str.ofString "comes") == (Str.ofString "goes")) = false := by kernel_rfl
theorem se_comes_hurt : ((Str.ofString "comes") == (Str.ofString "hurt")) = false := by kernel_rfl
theorem se_comes_mended : ((Str.ofString "comes") == (Str.ofString "mended")) = false := by kernel_rfl
theorem se_goes_comes : ((Str.ofString "goes") == (Str.ofString "comes")) = false := by kernel_rfl
theorem se_goes_hurt : ((Str.ofString "goes") == (Str.ofString "hurt")) = false := by kernel_rfl
theorem se_goes_mended : ((Str.ofString "goes") == (Str.ofString "mended")) = false := by kernel_rfl
theorem se_hurt_comes : ((Str.ofString "hurt") == (Str.ofString "comes")) = false := by kernel_rfl
theorem se_hurt_goes : ((Str.ofString "hurt") == (Str.ofString "goes")) = false := by kernel_rfl
theorem se_hurt_mended : ((Str.ofString "hurt") == (Str.ofString "mended")) = false := by kernel_rfl
theorem se_mended_comes : ((Str.ofString "mended") == (Str.ofString "comes")) = false := by kernel_rfl
theorem se_mended_goes : ((Str.ofString "mended") == (Str.ofString "goes")) = false := by kernel_rfl
theorem se_mended_hurt : ((Str.ofString "mended") == (Str.ofString "hurt")) = false := by kernel_rfl
end TB


end
section
set_option Elab.async false
set_option linter.all false
set_option maxRecDepth 100000
set_option autoImplicit false
namespace DM
open PySem L2 PySem.Spec
section
variable {E : Str → Sto → Prop} {δ : List Sl} {S : Sto} {N : List Sl → Sto → Prop} {T : RV → Sto → Prop}
theorem ws_try {hnd : Str → Sto → R RV} {b : DS} : ((@DM.wsK (sTry hnd b δ S) ⟨N, T, E⟩)) = (@DM.wsK (b δ S) ⟨N, T, (fun c S' => (@DM.wpK _ (hnd c S') ⟨(fun rv S2 => T rv S2), (fun _ _ => False)⟩))⟩) := by
  unfold sTry
  cases b δ S with
  | exc c S' => cases h : hnd c S' <;> simp [wsK, wpK, h]
  | _ => rfl
theorem wp_make {C : Str} {n : Nat} {sem : Sem} {m : DM (List D)} {Q : D → Sto → Prop} : ((@DM.wpK _ (dMake C n sem m δ S) ⟨Q, E⟩)) = (@DM.wpK _ (m δ S) ⟨(fun ds S1 => (noOwns (.ref S1.nx :: ds) && decide ((D.ref S1.nx :: ds).length = n + 1)) = true ∧ (@DM.wpK _ (sem (.ref S1.nx :: ds) (S1.new (.obj C []))) ⟨(fun rv S2 => rv = .val .non ∧ Q (.ref S1.nx) S2), E⟩)), E⟩) := by
  unfold dMake; rw [wp_bind]; congr; funext ds S1
  show (@DM.wpK _ (match callN (n + 1) sem (.ref S1.nx :: ds) (S1.new (.obj C [])) with
    | .ok (.val .non) S' => .ok (.ref S1.nx) S'
    | .exc c S' => .exc c S'
    | _ => .stuck : R D) ⟨Q, E⟩) = _
  unfold callN
  cases h : noOwns (.ref S1.nx :: ds) && decide ((D.ref S1.nx :: ds).length = n + 1) with
  | false => simp [wpK]
  | true =>
    simp only [if_true]
    cases sem (.ref S1.nx :: ds) (S1.new (.obj C [])) with
    | ok rv S' =>
      cases rv with
      | ol ds => simp [wpK]
      | val d => cases d <;> simp [wpK]
    | exc c S' => simp [wpK]
    | stuck => simp [wpK]
theorem wp_meth {C x : Str} {n : Nat} {sem : Sem} {o : DM D} {r : DM (List D)} {Q : D → Sto → Prop} : ((@DM.wpK _ (dMeth C x n sem o r δ S) ⟨Q, E⟩)) = (@DM.wpK _ (o δ S) ⟨(fun v S1 => isObj S1 C x v = true ∧ (@DM.wpK _ (r δ S1) ⟨(fun ds S2 => (noOwns (v :: ds) && decide ((v :: ds).length = n)) = true ∧ (@DM.wpK _ (sem (v :: ds) S2) ⟨(fun w S => (@DM.wvalK w ⟨fun d => Q d S⟩)), E⟩)), E⟩)), E⟩) := by
  unfold dMeth; rw [wp_bind]; congr; funext v S1
  cases h : isObj S1 C x v with
  | false => simp [wpK]
  | true =>
    simp only [if_true, true_and]
    rw [wp_bind]; congr; funext ds S2
    rw [wp_toD, wp_callN]
theorem wp_fmeth {C x : Str} {n : Nat} {sem : Sem} {o : DM D} {r : DM (List D)} {Q : List D → Sto → Prop} : ((@DM.wpK _ (fMeth C x n sem o r δ S) ⟨Q, E⟩)) = (@DM.wpK _ (o δ S) ⟨(fun v S1 => isObj S1 C x v = true ∧ (@DM.wpK _ (r δ S1) ⟨(fun ds S2 => (noOwns (v :: ds) && decide ((v :: ds).length = n)) = true ∧ (@DM.wpK _ (sem (v :: ds) S2) ⟨(fun w S => (@DM.wolK w ⟨fun d => Q d S⟩)), E⟩)), E⟩)), E⟩) := by
  unfold fMeth; rw [wp_bind]; congr; funext v S1
  cases h : isObj S1 C x v with
  | false => simp [wpK]
  | true =>
    simp only [if_true, true_and]
    rw [wp_bind]; congr; funext ds S2
    rw [wp_toF, wp_callN]
def fldP (S : Sto) (C f : Str) (x y : D) : Option Sto := match x with
  | .ref i => match S.c i with
    | some (.obj C' fs) => if (decide (C' = C) && !y.isOwn && decide (fs.length < 1000)) = true then some (S.set i (some (.obj C (putA f y fs)))) else none
    | _ => none
  | _ => none
theorem ws_fld {C f : Str} {o v : DM D} : ((@DM.wsK (sFldD C f o v δ S) ⟨N, T, E⟩)) = (@DM.wpK _ (v δ S) ⟨(fun y S1 => (@DM.wpK _ (o δ S1) ⟨(fun x S2 => (@DM.woK _ (fldP S2 C f x y) ⟨fun S3 => N δ S3⟩)), E⟩)), E⟩) := by
  unfold sFldD; rw [ws_bind]; congr; funext y S1; rw [ws_bind]; congr; funext x S2
  unfold fldP
  cases x with
  | ref i =>
    dsimp only
    cases h : S2.c i with
    | none => rfl
    | some c =>
      cases c with
      | obj C' fs =>
        dsimp only
        cases h2 : (decide (C' = C) && !y.isOwn && decide (fs.length < 1000)) <;> rfl
      | _ => rfl
  | _ => rfl
theorem l_fld {C f : Str} {i : Nat} {y : D} {fs : List (Str × D)} (h : S.c i = some (.obj C fs)) (hy : y.isOwn = false) (hl : fs.length < 1000) : fldP S C f (.ref i) y = some (S.set i (some (.obj C (putA f y fs)))) := by
  unfold fldP
  simp only [h]
  rw [if_pos (by simp [hy, hl])]
theorem wp_dic0 {Q : D → Sto → Prop} : ((@DM.wpK _ (dDic0 δ S) ⟨Q, E⟩)) = Q (.ref S.nx) (S.new (.dic [])) := rfl
theorem wp_ps0 {Q : List (Key × D) → Sto → Prop} : ((@DM.wpK _ (dPs0 δ S) ⟨Q, E⟩)) = Q [] S := rfl
theorem wp_ps {x : Str} {m : DM D} {r : DM (List (Key × D))} {Q : List (Key × D) → Sto → Prop} : ((@DM.wpK _ (dPs x m r δ S) ⟨Q, E⟩)) = (@DM.wpK _ (m δ S) ⟨(fun d S1 => (@DM.wpK _ (r δ S1) ⟨(fun kvs S2 => d.isOwn = false ∧ Q ((.inr x, d) :: kvs) S2), E⟩)), E⟩) := by
  unfold dPs; rw [wp_bind]; congr; funext d S1; rw [wp_bind]; congr; funext kvs S2
  cases h : d.isOwn <;> simp [wpK]
theorem wp_dic {m : DM (List (Key × D))} {Q : D → Sto → Prop} : ((@DM.wpK _ (dDic m δ S) ⟨Q, E⟩)) = (@DM.wpK _ (m δ S) ⟨(fun kvs S1 => decide (kvs.length ≤ 15) = true ∧ Q (.ref S1.nx) (S1.new (.dic (mergeD [] kvs)))), E⟩) := by
  unfold dDic; rw [wp_bind]; congr; funext kvs S1
  by_cases h : kvs.length ≤ 15 <;> simp [wpK, h]
theorem ws_putix {o i v : DM D} : ((@DM.wsK (sPutIx o i v δ S) ⟨N, T, E⟩)) = (@DM.wpK _ (v δ S) ⟨(fun y S1 => (@DM.wpK _ (o δ S1) ⟨(fun x S2 => (@DM.wpK _ (i δ S2) ⟨(fun j S3 => (@DM.woK _ (putIx δ S3 x j y) ⟨fun p => N p.1 p.2⟩)), E⟩)), E⟩)), E⟩) := by
  unfold sPutIx; rw [ws_bind]; congr; funext y S1; rw [ws_bind]; congr; funext x S2; rw [ws_bind]; congr; funext j S3
  cases putIx δ S3 x j y <;> rfl
theorem wp_yes {Q : Bool → Sto → Prop} : ((@DM.wpK _ (dYes δ S) ⟨Q, E⟩)) = Q true S := rfl
theorem ws_retN : ((@DM.wsK (sRetN δ S) ⟨N, T, E⟩)) = T (.val .non) S := rfl
theorem ws_brk : ((@DM.wsK (sBrk δ S) ⟨N, T, E⟩)) = False := rfl
theorem ws_cnt : ((@DM.wsK (sCnt δ S) ⟨N, T, E⟩)) = False := rfl
theorem noOwns_nil : noOwns [] = true := rfl
theorem noOwns_cons {d : D} {ds : List D} : noOwns (d :: ds) = (!d.isOwn && noOwns ds) := rfl
theorem own_non : D.isOwn .non = false := rfl
theorem own_bl {b : Bool} : D.isOwn (.bl b) = false := rfl
theorem own_int {b : Int} : D.isOwn (.int b) = false := rfl
theorem own_str {b : Str} : D.isOwn (.str b) = false := rfl
theorem own_tup {b : List D} : D.isOwn (.tup b) = false := rfl
theorem own_lst {b : List D} : D.isOwn (.lst b) = false := rfl
theorem own_ref {b : Nat} : D.isOwn (.ref b) = false := rfl
theorem own_scr {b : List D} : D.isOwn (.scr b) = false := rfl
theorem okLen_def {ds : List D} : okLen ds = decide (ds.length ≤ 16777216) := rfl
theorem l_ne_str {i j : Str} : cNe δ S (.str i) (.str j) = some (!(i == j)) := rfl
theorem at0 {α : Type} {a : α} {l : List α} : L2.atI (a :: l) 0 = some a := by
  rw [l_at (Int.le_refl 0) (by simp only [List.length_cons]; omega)]; rfl
theorem at1 {α : Type} {a b : α} {l : List α} : L2.atI (a :: b :: l) 1 = some b := by
  rw [l_at (by decide) (by simp; omega)]; rfl
theorem at2 {α : Type} {a b c : α} {l : List α} : L2.atI (a :: b :: c :: l) 2 = some c := by
  rw [l_at (by decide) (by simp; omega)]; rfl
theorem at3 {α : Type} {a b c d : α} {l : List α} : L2.atI (a :: b :: c :: d :: l) 3 = some d := by
  rw [l_at (by decide) (by simp; omega)]; rfl
theorem l_is_any {x : D} : cIs δ S x .non = if x.isOwn = true then none else some x.isNon := rfl
theorem l_isnot_any {x : D} : cIsNot δ S x .non = (cIs δ S x .non).map fun b => !b := rfl
theorem nn_non : D.isNon .non = true := rfl
theorem nn_bl {b : Bool} : D.isNon (.bl b) = false := rfl
theorem nn_int {b : Int} : D.isNon (.int b) = false := rfl
theorem nn_str {b : Str} : D.isNon (.str b) = false := rfl
theorem nn_tup {b : List D} : D.isNon (.tup b) = false := rfl
theorem nn_lst {b : List D} : D.isNon (.lst b) = false := rfl
theorem nn_ref {b : Nat} : D.isNon (.ref b) = false := rfl
/-- a comprehension that only reads -/
theorem wp_lcP {α : Type} {src : Src} {bind : D → List Sl → Option (List Sl)} {test : DM Bool} {elt : DM D} (xs : List α) (enc : α → D) (p : α → Bool) (f : α → D) {Q : List D → Sto → Prop} {n : Nat}
    (hs : ∀ i, srcAt S src i = some ((xs.map enc)[i]?)) (hn : xs.length < n) (hl : xs.length < 16777216)
    (step : ∀ x ∈ xs, ∃ δ1, bind (enc x) δ = some δ1 ∧ (@DM.wpK _ (test δ1 S) ⟨(fun b S1 => b = p x ∧ S1 = S), (fun _ _ => False)⟩) ∧ (p x = true → (@DM.wpK _ (elt δ1 S) ⟨(fun y S1 => y = f x ∧ S1 = S), (fun _ _ => False)⟩) ∧ (f x).isOwn = false))
    (q : Q ((xs.filter p).map f) S) : (@DM.wpK _ (lcL src bind test elt n 0 [] δ S) ⟨Q, E⟩) := by
  refine wp_mono (wp_lcL (E := E) (xs.map enc) (fun i acc S' => S' = S ∧ acc = ((xs.take i).filter p).map f) (fun i acc S' h => by rw [h.1]; exact hs i) (fun i acc S' d inv e => ?_) n 0 [] S (by simpa using hn) (Nat.zero_le _) ⟨rfl, rfl⟩) (fun acc S' z => ?_) (fun c S' z => z)
  · obtain ⟨rfl, rfl⟩ := inv
    rw [List.getElem?_map] at e
    cases ex : xs[i]? with
    | none => rw [ex] at e; cases e
    | some x =>
      rw [ex] at e
      cases e
      have hi : i < xs.length := (List.getElem?_eq_some_iff.mp ex).1
      have ht : xs.take (i + 1) = xs.take i ++ [x] := by rw [List.take_succ, ex]; rfl
      obtain ⟨δ1, b1, w1, w2⟩ := step x (List.mem_of_getElem? ex)
      refine ⟨δ1, b1, wp_mono w1 (fun b S1 z => ?_) fun _ _ z => z⟩
      obtain ⟨rfl, rfl⟩ := z
      cases hp : p x with
      | false =>
        refine ⟨rfl, ?_⟩
        rw [ht, List.filter_append, List.filter_cons_of_neg (by rw [hp]; decide)]; simp
      | true =>
        obtain ⟨w3, w4⟩ := w2 hp
        refine wp_mono w3 (fun y S2 z => ?_) fun _ _ z => z
        obtain ⟨rfl, rfl⟩ := z
        refine ⟨?_, rfl, ?_⟩
        · rw [w4]
          have := List.length_filter_le p (xs.take i)
          rw [List.length_take] at this
          simp only [Bool.not_false, Bool.true_and, decide_eq_true_eq, List.length_map]
          omega
        · rw [ht, List.filter_append, List.filter_cons_of_pos hp]; simp
  · obtain ⟨rfl, rfl⟩ := z
    rw [List.take_of_length_le (by simp)]
    exact q
theorem filter_tt {α : Type} (xs : List α) : (xs.filter fun _ => true) = xs := List.filter_eq_self.mpr fun _ _ => rfl
theorem wp_lcA {α : Type} {src : Src} {bind : D → List Sl → Option (List Sl)} {elt : DM D} (xs : List α) (enc : α → D) (f : α → D) {Q : List D → Sto → Prop} {n : Nat}
    (hs : ∀ i, srcAt S src i = some ((xs.map enc)[i]?)) (hn : xs.length < n) (hl : xs.length < 16777216)
    (step : ∀ x ∈ xs, ∃ δ1, bind (enc x) δ = some δ1 ∧ (@DM.wpK _ (elt δ1 S) ⟨(fun y S1 => y = f x ∧ S1 = S), (fun _ _ => False)⟩) ∧ (f x).isOwn = false)
    (q : Q (xs.map f) S) : (@DM.wpK _ (lcL src bind dYes elt n 0 [] δ S) ⟨Q, E⟩) :=
  wp_lcP xs enc (fun _ => true) f hs hn hl (fun x hx => by
    obtain ⟨δ1, h1, h2, h3⟩ := step x hx
    exact ⟨δ1, h1, ⟨rfl, rfl⟩, fun _ => ⟨h2, h3⟩⟩) (by rw [filter_tt]; exact q)
theorem src_seq {ds : List D} {x : D} (h : seqN S x = some (false, ds)) (i : Nat) : srcAt S (.seq x) i = some (ds[i]?) := by
  show (seqN S x).map (fun p => p.2[i]?) = _
  rw [h]; rfl
theorem src_rgn (n : Nat) (i : Nat) : srcAt S (.rng 0 1 n) i = some (((List.range n).map fun (k : Nat) => D.int (k : Int))[i]?) := by
  show some (if i < n then some (D.int (0 + (i : Int) * 1)) else none) = _
  by_cases h : i < n
  · rw [if_pos h, List.getElem?_map, List.getElem?_range h]; simp
  · rw [if_neg h, List.getElem?_eq_none (by simpa using h)]
theorem okI_small {n : Nat} (h : n ≤ 16777216) : okI (n : Nat) = true := Nat.ble_eq_true_of_le (by simp; omega)
theorem rng1_ok {j : Int} (h : okI j = true) : rng1Of [.int j] = some (.rng 0 1 j.toNat) := by
  unfold rng1Of
  simp only [h, if_true]
theorem l_attr {C f : Str} {i : Nat} {fs : List (Str × D)} (h : S.c i = some (.obj C fs)) : attrOf S C f (.ref i) = fs.lookup f := by
  unfold attrOf
  simp only [h, if_true]
theorem l_isObj {C m : Str} {i : Nat} {fs : List (Str × D)} (h : S.c i = some (.obj C fs)) : isObj S C m (.ref i) = (fs.lookup m).isNone := by
  unfold isObj
  simp only [h, decide_true, Bool.true_and]
theorem l_len_ref' {k : Nat} {ds : List D} (h : S.c k = some (.lst ds)) : hLen δ S [.ref k] = some (.int ds.length) := l_len_ref h
theorem l_len_dic {k : Nat} {ds : List (Key × D)} (h : S.c k = some (.dic ds)) : hLen δ S [.ref k] = some (.int ds.length) := by
  unfold hLen
  simp only [seqOf, lstOf, dicOf, h, Option.map_none, Option.map_some]
end
end DM
namespace TB
open PySem DM
theorem own_cd {c : Cd} : c.d.isOwn = false := by cases c <;> rfl
theorem own_an {c : An} : c.d.isOwn = false := by cases c <;> rfl
theorem own_wh {c : Option (Evn × An)} : (whD c).isOwn = false := by cases c <;> rfl
theorem own_tg {c : Tg} : c.d.isOwn = false := by cases c <;> rfl
theorem own_nt {c : Nt} : c.d.isOwn = false := by cases c <;> rfl
/-! ### names -/
section
variable {A : Ro → Nat} {T : Tb}
theorem tN_need_seat : ((flds A T).lookup (Str.ofString "need_seat")).isNone = true := by kernel_rfl
theorem tN_need_asked : ((flds A T).lookup (Str.ofString "need_asked")).isNone = true := by kernel_rfl
theorem tN_alive : ((flds A T).lookup (Str.ofString "alive")).isNone = true := by kernel_rfl
theorem tN_is_over : ((flds A T).lookup (Str.ofString "is_over")).isNone = true := by kernel_rfl
theorem tN_seats_from : ((flds A T).lookup (Str.ofString "seats_from")).isNone = true := by kernel_rfl
theorem tN_behind : ((flds A T).lookup (Str.ofString "behind")).isNone = true := by kernel_rfl
theorem tN_put : ((flds A T).lookup (Str.ofString "put")).isNone = true := by kernel_rfl
theorem tN_has_target : ((flds A T).lookup (Str.ofString "has_target")).isNone = true := by kernel_rfl
theorem tN_play : ((flds A T).lookup (Str.ofString "play")).isNone = true := by kernel_rfl
theorem tN_go_by : ((flds A T).lookup (Str.ofString "go_by")).isNone = true := by kernel_rfl
theorem tN_resolve : ((flds A T).lookup (Str.ofString "resolve")).isNone = true := by kernel_rfl
theorem tN_is_there : ((flds A T).lookup (Str.ofString "is_there")).isNone = true := by kernel_rfl
theorem tN_targets : ((flds A T).lookup (Str.ofString "targets")).isNone = true := by kernel_rfl
theorem tN_touch : ((flds A T).lookup (Str.ofString "touch")).isNone = true := by kernel_rfl
theorem tN_happens : ((flds A T).lookup (Str.ofString "happens")).isNone = true := by kernel_rfl
theorem tN_settle_down : ((flds A T).lookup (Str.ofString "settle_down")).isNone = true := by kernel_rfl
theorem tN_failing : ((flds A T).lookup (Str.ofString "failing")).isNone = true := by kernel_rfl
theorem tN_clear_out : ((flds A T).lookup (Str.ofString "clear_out")).isNone = true := by kernel_rfl
theorem tN_life : ((flds A T).lookup (Str.ofString "life")).isNone = true := by kernel_rfl
theorem tN_hand : ((flds A T).lookup (Str.ofString "hand")).isNone = true := by kernel_rfl
theorem tN_pile : ((flds A T).lookup (Str.ofString "pile")).isNone = true := by kernel_rfl
theorem tN_units : ((flds A T).lookup (Str.ofString "units")).isNone = true := by kernel_rfl
theorem tN_unit : ((flds A T).lookup (Str.ofString "unit")).isNone = true := by kernel_rfl
theorem tN_standing : ((flds A T).lookup (Str.ofString "standing")).isNone = true := by kernel_rfl
theorem tN_now : ((flds A T).lookup (Str.ofString "now")).isNone = true := by kernel_rfl
theorem tN_winner : ((flds A T).lookup (Str.ofString "winner")).isNone = true := by kernel_rfl
theorem tN_saved : ((flds A T).lookup (Str.ofString "saved")).isNone = true := by kernel_rfl
theorem fN_new_number : ((flFs A T).lookup (Str.ofString "new_number")).isNone = true := by kernel_rfl
theorem fN_bring : ((flFs A T).lookup (Str.ofString "bring")).isNone = true := by kernel_rfl
theorem fN_stand : ((flFs A T).lookup (Str.ofString "stand")).isNone = true := by kernel_rfl
theorem fN_layer : ((flFs A T).lookup (Str.ofString "layer")).isNone = true := by kernel_rfl
theorem fN_power : ((flFs A T).lookup (Str.ofString "power")).isNone = true := by kernel_rfl
theorem fN_failing : ((flFs A T).lookup (Str.ofString "failing")).isNone = true := by kernel_rfl
theorem fN_of : ((flFs A T).lookup (Str.ofString "of")).isNone = true := by kernel_rfl
theorem tF_lives : (flds A T).lookup (Str.ofString "lives") = some (.ref (A .lv)) := by kernel_rfl
theorem tF_hands : (flds A T).lookup (Str.ofString "hands") = some (.ref (A .hd)) := by kernel_rfl
theorem tF_floor : (flds A T).lookup (Str.ofString "floor") = some (.ref (A .fl)) := by kernel_rfl
theorem tF_stack : (flds A T).lookup (Str.ofString "stack") = some (.ref (A .st)) := by kernel_rfl
theorem tF_count : (flds A T).lookup (Str.ofString "count") = some (.int T.count) := by kernel_rfl
theorem tF_turner : (flds A T).lookup (Str.ofString "turner") = some (.int T.turner) := by kernel_rfl
theorem tF_asked : (flds A T).lookup (Str.ofString "asked") = some (.int T.asked) := by kernel_rfl
theorem tF_passes : (flds A T).lookup (Str.ofString "passes") = some (.int T.passes) := by kernel_rfl
theorem tF_due : (flds A T).lookup (Str.ofString "due") = some (.ref (A .du)) := by kernel_rfl
theorem fF_men : (flFs A T).lookup (Str.ofString "men") = some (.ref (A .mn)) := by kernel_rfl
theorem fF_stays : (flFs A T).lookup (Str.ofString "stays") = some (.ref (A .sy)) := by kernel_rfl
theorem fF_coming : (flFs A T).lookup (Str.ofString "coming") = some (.int T.coming) := by kernel_rfl
end
section
variable {S : Sto} {A : Ro → Nat} {T : Tb}
theorem Rep.cobj (h : Rep S A T) : S.c (A .obj) = some (.obj "Table" (flds A T)) := h.eq .obj _ rfl
theorem Rep.cfl (h : Rep S A T) : S.c (A .fl) = some (.obj "Floor" (flFs A T)) := h.eq .fl _ rfl
theorem Rep.isT (h : Rep S A T) {m : Str} : isObj S "Table" m (.ref (A .obj)) = ((flds A T).lookup m).isNone := l_isObj h.cobj
theorem Rep.isF (h : Rep S A T) {m : Str} : isObj S "Floor" m (.ref (A .fl)) = ((flFs A T).lookup m).isNone := l_isObj h.cfl
theorem Rep.at (h : Rep S A T) {f : Str} : attrOf S "Table" f (.ref (A .obj)) = (flds A T).lookup f := l_attr h.cobj
theorem Rep.atF (h : Rep S A T) {f : Str} : attrOf S "Floor" f (.ref (A .fl)) = (flFs A T).lookup f := l_attr h.cfl
theorem Rep.clv (h : Rep S A T) : S.c (A .lv) = some (.lst (T.lives.map .int)) := h.eq .lv _ rfl
end
end TB


end
local macro_rules | `(tactic| walk_at "tw") => `(tactic| simp only [DM.wp_bind, DM.wp_const, DM.wp_var, DM.wp_op2, DM.wp_cmp, DM.wp_chain, DM.wp_bl, DM.wp_test, DM.wp_not, DM.wp_and, DM.wp_or, DM.wp_andV, DM.wp_orV, DM.wp_if, DM.wp_nil, DM.wp_cons, DM.wp_tup, DM.wp_lst, DM.wp_disp, DM.wp_frz, DM.wp_cell, DM.wp_b, DM.wp_fb, DM.wp_isi, DM.wp_neg, DM.wp_call, DM.wp_fcall, DM.wp_nopart, DM.wp_part, DM.wp_sl, DM.wp_attr, DM.wp_src, DM.wp_rng, DM.ws_nx, DM.ws_seq, DM.ws_bind, DM.ws_ret, DM.ws_retF, DM.ws_if, DM.ws_set, DM.ws_setF, DM.ws_raise, DM.ws_expr, DM.ws_mut, DM.ws_unp, DM.wif_t, DM.wif_f, DM.wsl_v, DM.wsl_ol, DM.wbl_bl, DM.wint_int, DM.wval_val, DM.wval_ol, DM.wol_ol, DM.wo_some, List.map_cons, List.map_nil, List.cons_append, List.nil_append, List.getElem?_cons_zero, List.getElem?_cons_succ, List.set_cons_zero, List.set_cons_succ, List.replicate, List.replicate_succ, List.replicate_zero, Nat.reduceSub, DM.l_len_tup, DM.l_len_lst, DM.l_len_scr, DM.l_ord, DM.l_add, DM.l_sub, DM.l_ix_tup, DM.l_ix_lst, DM.l_ix_scr, DM.l_ty_non, DM.l_ty_bl, DM.l_ty_int, DM.l_ty_str, DM.l_ty_tup, DM.l_ty_lst, DM.l_ty_scr, DM.l_ret, DM.l_ret_non, DM.l_ret_bl, DM.l_ret_int, DM.l_ret_str, DM.l_ret_tup, DM.l_ret_lst, DM.l_ret_ref, Option.bind_some, DM.st_NoneType_bool, DM.st_NoneType_int, DM.st_NoneType_str, DM.st_NoneType_tuple, DM.st_NoneType_list, DM.st_bool_bool, DM.st_bool_int, DM.st_bool_str, DM.st_bool_tuple, DM.st_bool_list, DM.st_int_bool, DM.st_int_int, DM.st_int_str, DM.st_int_tuple, DM.st_int_list, DM.st_str_bool, DM.st_str_int, DM.st_str_str, DM.st_str_tuple, DM.st_str_list, DM.st_tuple_bool, DM.st_tuple_int, DM.st_tuple_str, DM.st_tuple_tuple, DM.st_tuple_list, DM.st_list_bool, DM.st_list_int, DM.st_list_str, DM.st_list_tuple, DM.st_list_list, DM.st_dict_bool, DM.st_dict_int, DM.st_dict_str, DM.st_dict_tuple, DM.st_dict_list, DM.wp_meth, DM.wp_fmeth, DM.wp_flc, DM.ws_for, DM.ws_fld, DM.wp_make, DM.wp_mth, DM.ws_try, DM.wp_dic0, DM.wp_dic, DM.wp_ps0, DM.wp_ps, DM.ws_putix, DM.wp_yes, DM.ws_retN, DM.ws_brk, DM.ws_cnt, DM.noOwns_nil, DM.noOwns_cons, DM.own_non, DM.own_bl, DM.own_int, DM.own_str, DM.own_tup, DM.own_lst, DM.own_ref, DM.own_scr, TB.own_cd, TB.own_an, TB.own_wh, TB.own_tg, TB.own_nt, Bool.not_false, Bool.not_true, Bool.and_true, Bool.true_and, Bool.and_false, Bool.false_and, Bool.or_false, Bool.false_or, Bool.or_true, Bool.true_or, decide_true, decide_false, decide_eq_true_eq, Bool.and_eq_true, true_and, and_true, List.length_cons, List.length_nil, Nat.reduceAdd, Nat.reduceLeDiff, Nat.reduceEqDiff, Nat.reduceBEq, DM.okLen_def, if_true, if_false, Bool.false_eq_true, eq_self, DM.l_eq_str, DM.l_ne_str, DM.l_eq_int, DM.l_ne_int, DM.at0, DM.at1, DM.at2, DM.at3, DM.l_is_any, DM.l_isnot_any, DM.nn_non, DM.nn_bl, DM.nn_int, DM.nn_str, DM.nn_tup, DM.nn_lst, DM.nn_ref, Option.map_some, Option.map_none, Bool.not_eq_true', Bool.not_not, beq_self_eq_true, TB.se_add_cap, TB.se_add_set, TB.se_all_mine, TB.se_all_others, TB.se_bar_bring, TB.se_bar_hit, TB.se_bar_lift, TB.se_bar_mend, TB.se_bar_stand, TB.se_bar_strike, TB.se_bring_bar, TB.se_bring_hit, TB.se_bring_lift, TB.se_bring_mend, TB.se_bring_stand, TB.se_bring_strike, TB.se_cap_add, TB.se_cap_set, TB.se_comes_goes, TB.se_comes_hurt, TB.se_comes_mended, TB.se_goes_comes, TB.se_goes_hurt, TB.se_goes_mended, TB.se_hit_bar, TB.se_hit_bring, TB.se_hit_lift, TB.se_hit_mend, TB.se_hit_stand, TB.se_hit_strike, TB.se_hurt_comes, TB.se_hurt_goes, TB.se_hurt_mended, TB.se_lift_bar, TB.se_lift_bring, TB.se_lift_hit, TB.se_lift_mend, TB.se_lift_stand, TB.se_lift_strike, TB.se_mend_bar, TB.se_mend_bring, TB.se_mend_hit, TB.se_mend_lift, TB.se_mend_stand, TB.se_mend_strike, TB.se_mended_comes, TB.se_mended_goes, TB.se_mended_hurt, TB.se_mine_all, TB.se_mine_others, TB.se_others_all, TB.se_others_mine, TB.se_set_add, TB.se_set_cap, TB.se_stand_bar, TB.se_stand_bring, TB.se_stand_hit, TB.se_stand_lift, TB.se_stand_mend, TB.se_stand_strike, TB.se_strike_bar, TB.se_strike_bring, TB.se_strike_hit, TB.se_strike_lift, TB.se_strike_mend, TB.se_strike_stand, TB.tN_need_seat, TB.tN_need_asked, TB.tN_alive, TB.tN_is_over, TB.tN_seats_from, TB.tN_behind, TB.tN_put, TB.tN_has_target, TB.tN_play, TB.tN_go_by, TB.tN_resolve, TB.tN_is_there, TB.tN_targets, TB.tN_touch, TB.tN_happens, TB.tN_settle_down, TB.tN_failing, TB.tN_clear_out, TB.tN_life, TB.tN_hand, TB.tN_pile, TB.tN_units, TB.tN_unit, TB.tN_standing, TB.tN_now, TB.tN_winner, TB.tN_saved, TB.fN_new_number, TB.fN_bring, TB.fN_stand, TB.fN_layer, TB.fN_power, TB.fN_failing, TB.fN_of, TB.tF_lives, TB.tF_hands, TB.tF_floor, TB.tF_stack, TB.tF_count, TB.tF_turner, TB.tF_asked, TB.tF_passes, TB.tF_due, TB.fF_men, TB.fF_stays, TB.fF_coming])
local macro_rules | `(tactic| k_call_by "tw" ⟨$xs,*⟩) => `(tactic| simp only [$[$xs:term],*, DM.wp_bind, DM.wp_const, DM.wp_var, DM.wp_op2, DM.wp_cmp, DM.wp_chain, DM.wp_bl, DM.wp_test, DM.wp_not, DM.wp_and, DM.wp_or, DM.wp_andV, DM.wp_orV, DM.wp_if, DM.wp_nil, DM.wp_cons, DM.wp_tup, DM.wp_lst, DM.wp_disp, DM.wp_frz, DM.wp_cell, DM.wp_b, DM.wp_fb, DM.wp_isi, DM.wp_neg, DM.wp_call, DM.wp_fcall, DM.wp_nopart, DM.wp_part, DM.wp_sl, DM.wp_attr, DM.wp_src, DM.wp_rng, DM.ws_nx, DM.ws_seq, DM.ws_bind, DM.ws_ret, DM.ws_retF, DM.ws_if, DM.ws_set, DM.ws_setF, DM.ws_raise, DM.ws_expr, DM.ws_mut, DM.ws_unp, DM.wif_t, DM.wif_f, DM.wsl_v, DM.wsl_ol, DM.wbl_bl, DM.wint_int, DM.wval_val, DM.wval_ol, DM.wol_ol, DM.wo_some, List.map_cons, List.map_nil, List.cons_append, List.nil_append, List.getElem?_cons_zero, List.getElem?_cons_succ, List.set_cons_zero, List.set_cons_succ, List.replicate, List.replicate_succ, List.replicate_zero, Nat.reduceSub, DM.l_len_tup, DM.l_len_lst, DM.l_len_scr, DM.l_ord, DM.l_add, DM.l_sub, DM.l_ix_tup, DM.l_ix_lst, DM.l_ix_scr, DM.l_ty_non, DM.l_ty_bl, DM.l_ty_int, DM.l_ty_str, DM.l_ty_tup, DM.l_ty_lst, DM.l_ty_scr, DM.l_ret, DM.l_ret_non, DM.l_ret_bl, DM.l_ret_int, DM.l_ret_str, DM.l_ret_tup, DM.l_ret_lst, DM.l_ret_ref, Option.bind_some, DM.st_NoneType_bool, DM.st_NoneType_int, DM.st_NoneType_str, DM.st_NoneType_tuple, DM.st_NoneType_list, DM.st_bool_bool, DM.st_bool_int, DM.st_bool_str, DM.st_bool_tuple, DM.st_bool_list, DM.st_int_bool, DM.st_int_int, DM.st_int_str, DM.st_int_tuple, DM.st_int_list, DM.st_str_bool, DM.st_str_int, DM.st_str_str, DM.st_str_tuple, DM.st_str_list, DM.st_tuple_bool, DM.st_tuple_int, DM.st_tuple_str, DM.st_tuple_tuple, DM.st_tuple_list, DM.st_list_bool, DM.st_list_int, DM.st_list_str, DM.st_list_tuple, DM.st_list_list, DM.st_dict_bool, DM.st_dict_int, DM.st_dict_str, DM.st_dict_tuple, DM.st_dict_list, DM.wp_meth, DM.wp_fmeth, DM.wp_flc, DM.ws_for, DM.ws_fld, DM.wp_make, DM.wp_mth, DM.ws_try, DM.wp_dic0, DM.wp_dic, DM.wp_ps0, DM.wp_ps, DM.ws_putix, DM.wp_yes, DM.ws_retN, DM.ws_brk, DM.ws_cnt, DM.noOwns_nil, DM.noOwns_cons, DM.own_non, DM.own_bl, DM.own_int, DM.own_str, DM.own_tup, DM.own_lst, DM.own_ref, DM.own_scr, TB.own_cd, TB.own_an, TB.own_wh, TB.own_tg, TB.own_nt, Bool.not_false, Bool.not_true, Bool.and_true, Bool.true_and, Bool.and_false, Bool.false_and, Bool.or_false, Bool.false_or, Bool.or_true, Bool.true_or, decide_true, decide_false, decide_eq_true_eq, Bool.and_eq_true, true_and, and_true, List.length_cons, List.length_nil, Nat.reduceAdd, Nat.reduceLeDiff, Nat.reduceEqDiff, Nat.reduceBEq, DM.okLen_def, if_true, if_false, Bool.false_eq_true, eq_self, DM.l_eq_str, DM.l_ne_str, DM.l_eq_int, DM.l_ne_int, DM.at0, DM.at1, DM.at2, DM.at3, DM.l_is_any, DM.l_isnot_any, DM.nn_non, DM.nn_bl, DM.nn_int, DM.nn_str, DM.nn_tup, DM.nn_lst, DM.nn_ref, Option.map_some, Option.map_none, Bool.not_eq_true', Bool.not_not, beq_self_eq_true, TB.se_add_cap, TB.se_add_set, TB.se_all_mine, TB.se_all_others, TB.se_bar_bring, TB.se_bar_hit, TB.se_bar_lift, TB.se_bar_mend, TB.se_bar_stand, TB.se_bar_strike, TB.se_bring_bar, TB.se_bring_hit, TB.se_bring_lift, TB.se_bring_mend, TB.se_bring_stand, TB.se_bring_strike, TB.se_cap_add, TB.se_cap_set, TB.se_comes_goes, TB.se_comes_hurt, TB.se_comes_mended, TB.se_goes_comes, TB.se_goes_hurt, TB.se_goes_mended, TB.se_hit_bar, TB.se_hit_bring, TB.se_hit_lift, TB.se_hit_mend, TB.se_hit_stand, TB.se_hit_strike, TB.se_hurt_comes, TB.se_hurt_goes, TB.se_hurt_mended, TB.se_lift_bar, TB.se_lift_bring, TB.se_lift_hit, TB.se_lift_mend, TB.se_lift_stand, TB.se_lift_strike, TB.se_mend_bar, TB.se_mend_bring, TB.se_mend_hit, TB.se_mend_lift, TB.se_mend_stand, TB.se_mend_strike, TB.se_mended_comes, TB.se_mended_goes, TB.se_mended_hurt, TB.se_mine_all, TB.se_mine_others, TB.se_others_all, TB.se_others_mine, TB.se_set_add, TB.se_set_cap, TB.se_stand_bar, TB.se_stand_bring, TB.se_stand_hit, TB.se_stand_lift, TB.se_stand_mend, TB.se_stand_strike, TB.se_strike_bar, TB.se_strike_bring, TB.se_strike_hit, TB.se_strike_lift, TB.se_strike_mend, TB.se_strike_stand, TB.tN_need_seat, TB.tN_need_asked, TB.tN_alive, TB.tN_is_over, TB.tN_seats_from, TB.tN_behind, TB.tN_put, TB.tN_has_target, TB.tN_play, TB.tN_go_by, TB.tN_resolve, TB.tN_is_there, TB.tN_targets, TB.tN_touch, TB.tN_happens, TB.tN_settle_down, TB.tN_failing, TB.tN_clear_out, TB.tN_life, TB.tN_hand, TB.tN_pile, TB.tN_units, TB.tN_unit, TB.tN_standing, TB.tN_now, TB.tN_winner, TB.tN_saved, TB.fN_new_number, TB.fN_bring, TB.fN_stand, TB.fN_layer, TB.fN_power, TB.fN_failing, TB.fN_of, TB.tF_lives, TB.tF_hands, TB.tF_floor, TB.tF_stack, TB.tF_count, TB.tF_turner, TB.tF_asked, TB.tF_passes, TB.tF_due, TB.fF_men, TB.fF_stays, TB.fF_coming])
section
set_option Elab.async false
set_option linter.all false
set_option maxRecDepth 100000
set_option maxHeartbeats 0
namespace PR
open PySem DM
def c_BEGINS : D := .tup [.str "turn", .str "done", .str "void"]
def c_EVENTS : D := .tup [.str "comes", .str "goes", .str "hurt", .str "mended"]
def c_FIGURES : D := .str "0123456789"
def c_HAND : D := .int 8
def c_ITEMS : D := .int 40
def c_LAYERS : D := .tup [.str "set", .str "add", .str "cap"]
def c_LIFE : D := .int 99
def c_MOST : D := .int 2000
def c_SEATED : D := .tup [.str "turn", .str "hurt", .str "mended"]
def c_SEATS : D := .int 4
def c_SIZE : D := .int 20
def c_UNITS : D := .int 20
def c_WHOSE : D := .tup [.str "mine", .str "others", .str "all"]
def c_WORDS : D := .tup [.str "turn", .str "done", .str "void", .str "hurt", .str "mended", .str "comes", .str "goes", .str "stands", .str "waits"]
def tbl_SIZES : List (Str × Option Int) := [("play", some 3), ("pass", some 2), ("go", none)]
def takes_P : List Str := ["NoSeat", "NotYet", "NoCard", "NoTarget", "Over", "Full"]
def m_is_whole : DS :=
  (sRet (dAndV (dIsi "int" (dVar 0)) (dAndV (dBl (dNot (dTest (dIsi "bool" (dVar 0))))) (dBl (dChain (cOrd pLe) (cOrd pLe) (dVar 1) (dVar 0) (dVar 2))))))
def sem_is_whole : Sem := semOf 3 3 m_is_whole
def m_is_one_of : DS :=
  (sRet (dAndV (dIsi "str" (dVar 0)) (dBl (dCmp cIn (dVar 0) (dVar 1)))))
def sem_is_one_of : Sem := semOf 2 2 m_is_one_of
def m_is_answer : DS :=
  (sSeq (sIf (dOr (dNot (dTest (dIsi "tuple" (dVar 0)))) (dOr (dCmp cNe (dB hLen (dCons (dVar 0) dNil)) (dConst (.int 3))) (dNot (dTest (dCall 2 sem_is_one_of (dCons (dOp2 oIx (dVar 0) (dConst (.int 0))) (dCons (dTup (dCons (dConst (.str "hit")) (dCons (dConst (.str "mend")) (dCons (dConst (.str "bring")) dNil)))) dNil)))))))
    (sRet (dConst (.bl false)))
    sNext)
    (sSeq (sIf (dCmp cEq (dOp2 oIx (dVar 0) (dConst (.int 0))) (dConst (.str "bring")))
    (sRet (dAndV (dCall 3 sem_is_whole (dCons (dOp2 oIx (dVar 0) (dConst (.int 1))) (dCons (dConst (.int 1)) (dCons (dConst c_SIZE) dNil)))) (dBl (dCmp cIs (dOp2 oIx (dVar 0) (dConst (.int 2))) (dConst .non)))))
    sNext)
    (sRet (dAndV (dCall 2 sem_is_one_of (dCons (dOp2 oIx (dVar 0) (dConst (.int 1))) (dCons (dConst c_WHOSE) dNil))) (dCall 3 sem_is_whole (dCons (dOp2 oIx (dVar 0) (dConst (.int 2))) (dCons (dConst (.int 1)) (dCons (dConst c_SIZE) dNil))))))))
def sem_is_answer : Sem := semOf 1 1 m_is_answer
def m_is_when : DS :=
  (sRet (dAndV (dIsi "tuple" (dVar 0)) (dAndV (dBl (dCmp cEq (dB hLen (dCons (dVar 0) dNil)) (dConst (.int 2)))) (dAndV (dCall 2 sem_is_one_of (dCons (dOp2 oIx (dVar 0) (dConst (.int 0))) (dCons (dConst c_EVENTS) dNil))) (dCall 1 sem_is_answer (dCons (dOp2 oIx (dVar 0) (dConst (.int 1))) dNil))))))
def sem_is_when : Sem := semOf 1 1 m_is_when
def m_is_card : DS :=
  (sSeq (sIf (dOr (dNot (dTest (dIsi "tuple" (dVar 0)))) (dOr (dCmp (cOrd pLt) (dB hLen (dCons (dVar 0) dNil)) (dConst (.int 2))) (dNot (dTest (dIsi "str" (dOp2 oIx (dVar 0) (dConst (.int 0))))))))
    (sRet (dConst (.bl false)))
    sNext)
    (sSeq (sIf (dCmp cIn (dOp2 oIx (dVar 0) (dConst (.int 0))) (dTup (dCons (dConst (.str "hit")) (dCons (dConst (.str "mend")) dNil))))
    (sRet (dAndV (dBl (dCmp cEq (dB hLen (dCons (dVar 0) dNil)) (dConst (.int 3)))) (dAndV (dCall 3 sem_is_whole (dCons (dOp2 oIx (dVar 0) (dConst (.int 1))) (dCons (dConst (.int 0)) (dCons (dOp2 oSub (dVar 1) (dConst (.int 1))) dNil)))) (dCall 3 sem_is_whole (dCons (dOp2 oIx (dVar 0) (dConst (.int 2))) (dCons (dConst (.int 1)) (dCons (dConst c_SIZE) dNil)))))))
    sNext)
    (sSeq (sIf (dCmp cEq (dOp2 oIx (dVar 0) (dConst (.int 0))) (dConst (.str "strike")))
    (sRet (dAndV (dBl (dCmp cEq (dB hLen (dCons (dVar 0) dNil)) (dConst (.int 3)))) (dAndV (dCall 3 sem_is_whole (dCons (dOp2 oIx (dVar 0) (dConst (.int 1))) (dCons (dConst (.int 0)) (dCons (dConst (.int 9999)) dNil)))) (dCall 3 sem_is_whole (dCons (dOp2 oIx (dVar 0) (dConst (.int 2))) (dCons (dConst (.int 1)) (dCons (dConst c_SIZE) dNil)))))))
    sNext)
    (sSeq (sIf (dCmp cEq (dOp2 oIx (dVar 0) (dConst (.int 0))) (dConst (.str "bring")))
    (sRet (dAndV (dBl (dCmp cEq (dB hLen (dCons (dVar 0) dNil)) (dConst (.int 3)))) (dAndV (dCall 3 sem_is_whole (dCons (dOp2 oIx (dVar 0) (dConst (.int 1))) (dCons (dConst (.int 1)) (dCons (dConst c_SIZE) dNil)))) (dOrV (dBl (dCmp cIs (dOp2 oIx (dVar 0) (dConst (.int 2))) (dConst .non))) (dCall 1 sem_is_when (dCons (dOp2 oIx (dVar 0) (dConst (.int 2))) dNil))))))
    sNext)
    (sSeq (sIf (dCmp cEq (dOp2 oIx (dVar 0) (dConst (.int 0))) (dConst (.str "stand")))
    (sSeq (sIf (dOr (dCmp cNe (dB hLen (dCons (dVar 0) dNil)) (dConst (.int 4))) (dOr (dNot (dTest (dCall 2 sem_is_one_of (dCons (dOp2 oIx (dVar 0) (dConst (.int 1))) (dCons (dConst c_LAYERS) dNil))))) (dNot (dTest (dCall 2 sem_is_one_of (dCons (dOp2 oIx (dVar 0) (dConst (.int 2))) (dCons (dConst c_WHOSE) dNil)))))))
    (sRet (dConst (.bl false)))
    sNext)
    (sRet (dCall 3 sem_is_whole (dCons (dOp2 oIx (dVar 0) (dConst (.int 3))) (dCons (dConst (.int 0)) (dCons (dConst c_SIZE) dNil))))))
    sNext)
    (sRet (dAndV (dBl (dCmp cIn (dOp2 oIx (dVar 0) (dConst (.int 0))) (dTup (dCons (dConst (.str "bar")) (dCons (dConst (.str "lift")) dNil))))) (dAndV (dBl (dCmp cEq (dB hLen (dCons (dVar 0) dNil)) (dConst (.int 2)))) (dCall 3 sem_is_whole (dCons (dOp2 oIx (dVar 0) (dConst (.int 1))) (dCons (dConst (.int 0)) (dCons (dConst (.int 9999)) dNil))))))))))))
def sem_is_card : Sem := semOf 2 2 m_is_card
def m_are_hands : DS :=
  (sSeq (sIf (dOr (dNot (dTest (dIsi "tuple" (dVar 0)))) (dCmp cNe (dB hLen (dCons (dVar 0) dNil)) (dVar 1)))
    (sRet (dConst (.bl false)))
    sNext)
    (sSeq (sFor (false, [("hand", 2)]) (dSrc (dVar 0))
    (sIf (dOr (dNot (dTest (dIsi "tuple" (dVar 2)))) (dOr (dCmp (cOrd pGt) (dB hLen (dCons (dVar 2) dNil)) (dConst c_HAND)) (dNot (dTest (dB hAll (dCons (dFrz (fLc (false, [("card", 3)]) (List.map (fun x : Str × Nat => x.2) [("card", 3)]) (dSrc (dVar 2)) dYes (dCall 2 sem_is_card (dCons (dVar 3) (dCons (dVar 1) dNil))))) dNil))))))
    (sRet (dConst (.bl false)))
    sNext))
    (sRet (dConst (.bl true)))))
def sem_are_hands : Sem := semOf 2 4 m_are_hands
def m_Floor___init__ : DS :=
  (sSeq (sFldD "Floor" "men" (dVar 0) dDic0)
    (sSeq (sFldD "Floor" "stays" (dVar 0) dDic0)
    (sFldD "Floor" "coming" (dVar 0) (dConst (.int 0)))))
def sem_Floor___init__ : Sem := semOf 1 1 m_Floor___init__
def m_Table___init__ : DS :=
  (sSeq (sIf (dOr (dNot (dTest (dIsi "tuple" (dVar 1)))) (dNot (dChain (cOrd pLe) (cOrd pLe) (dConst (.int 2)) (dB hLen (dCons (dVar 1) dNil)) (dConst c_SEATS))))
    (sRaise "NoTable")
    sNext)
    (sSeq (sIf (dOr (dNot (dTest (dB hAll (dCons (dFrz (fLc (false, [("life", 4)]) (List.map (fun x : Str × Nat => x.2) [("life", 4)]) (dSrc (dVar 1)) dYes (dCall 3 sem_is_whole (dCons (dVar 4) (dCons (dConst (.int 1)) (dCons (dConst c_LIFE) dNil)))))) dNil)))) (dNot (dTest (dCall 2 sem_are_hands (dCons (dVar 2) (dCons (dB hLen (dCons (dVar 1) dNil)) dNil))))))
    (sRaise "NoTable")
    sNext)
    (sSeq (sFldD "Table" "lives" (dVar 0) (dCell (fB hList (dCons (dVar 1) dNil))))
    (sSeq (sFldD "Table" "hands" (dVar 0) (dCell (fLc (false, [("hand", 3)]) (List.map (fun x : Str × Nat => x.2) [("hand", 3)]) (dSrc (dVar 2)) dYes (dCell (fB hList (dCons (dVar 3) dNil))))))
    (sSeq (sFldD "Table" "floor" (dVar 0) (dMake "Floor" 0 sem_Floor___init__ dNil))
    (sSeq (sFldD "Table" "stack" (dVar 0) (dCell (fDisp dNil)))
    (sSeq (sFldD "Table" "count" (dVar 0) (dConst (.int 0)))
    (sSeq (sFldD "Table" "turner" (dVar 0) (dConst (.int 0)))
    (sSeq (sFldD "Table" "asked" (dVar 0) (dConst (.int 0)))
    (sSeq (sFldD "Table" "passes" (dVar 0) (dConst (.int 0)))
    (sFldD "Table" "due" (dVar 0) (dCell (fDisp dNil)))))))))))))
def sem_Table___init__ : Sem := semOf 3 5 m_Table___init__
def m_woken : DS :=
  (sSeq (sUnp (true, [("lives", 2), ("hands", 3), ("units", 4), ("standing", 5), ("coming", 6), ("pile", 7), ("count", 8), ("turner", 9), ("asked", 10), ("passes", 11)]) (dVar 0))
    (sSeq (sSet 1 (dMake "Table" 2 sem_Table___init__ (dCons (dOp2 oMul (dTup (dCons (dConst (.int 1)) dNil)) (dB hLen (dCons (dVar 2) dNil))) (dCons (dOp2 oMul (dTup (dCons (dTup dNil) dNil)) (dB hLen (dCons (dVar 2) dNil))) dNil))))
    (sSeq (sFldD "Table" "lives" (dVar 1) (dCell (fB hList (dCons (dVar 2) dNil))))
    (sSeq (sFldD "Table" "hands" (dVar 1) (dCell (fLc (false, [("hand", 18)]) (List.map (fun x : Str × Nat => x.2) [("hand", 18)]) (dSrc (dVar 3)) dYes (dCell (fB hList (dCons (dVar 18) dNil))))))
    (sSeq (sFor (true, [("number", 12), ("owner", 13), ("size", 14), ("when", 15), ("harm", 16)]) (dSrc (dVar 4))
    (sPutIx (dAttr "Floor" "men" (dAttr "Table" "floor" (dVar 1))) (dVar 12) (dDic (dPs "owner" (dVar 13) (dPs "size" (dVar 14) (dPs "when" (dVar 15) (dPs "harm" (dVar 16) dPs0)))))))
    (sSeq (sFor (true, [("number", 12), ("owner", 13), ("card", 17)]) (dSrc (dVar 5))
    (sPutIx (dAttr "Floor" "stays" (dAttr "Table" "floor" (dVar 1))) (dVar 12) (dTup (dCons (dVar 13) (dCons (dVar 17) dNil)))))
    (sSeq (sFldD "Floor" "coming" (dAttr "Table" "floor" (dVar 1)) (dVar 6))
    (sSeq (sFldD "Table" "stack" (dVar 1) (dCell (fLc (true, [("number", 12), ("owner", 13), ("card", 17)]) (List.map (fun x : Str × Nat => x.2) [("number", 12), ("owner", 13), ("card", 17)]) (dSrc (dVar 7)) dYes (dDic (dPs "number" (dVar 12) (dPs "owner" (dVar 13) (dPs "card" (dVar 17) dPs0)))))))
    (sSeq (sFldD "Table" "count" (dVar 1) (dVar 8))
    (sSeq (sFldD "Table" "turner" (dVar 1) (dVar 9))
    (sSeq (sFldD "Table" "asked" (dVar 1) (dVar 10))
    (sSeq (sFldD "Table" "passes" (dVar 1) (dVar 11))
    (sRet (dVar 1))))))))))))))
def sem_woken : Sem := semOf 1 19 m_woken
def m_Table_standing : DS :=
  (sRetF (fLc (false, [("number", 1)]) (List.map (fun x : Str × Nat => x.2) [("number", 1)]) (dSrc (dFrz (fB hSortI (dCons (dFrz (fB hList (dCons (dAttr "Floor" "stays" (dAttr "Table" "floor" (dVar 0))) dNil))) dNil)))) dYes (dOp2 oAdd (dTup (dCons (dVar 1) dNil)) (dOp2 oIx (dAttr "Floor" "stays" (dAttr "Table" "floor" (dVar 0))) (dVar 1)))))
def sem_Table_standing : Sem := semOf 1 2 m_Table_standing
def m_Table_pile : DS :=
  (sRetF (fLc (false, [("item", 1)]) (List.map (fun x : Str × Nat => x.2) [("item", 1)]) (dSrc (dAttr "Table" "stack" (dVar 0))) dYes (dTup (dCons (dOp2 oIx (dVar 1) (dConst (.str "number"))) (dCons (dOp2 oIx (dVar 1) (dConst (.str "owner"))) (dCons (dOp2 oIx (dVar 1) (dConst (.str "card"))) dNil))))))
def sem_Table_pile : Sem := semOf 1 2 m_Table_pile
def m_Table_saved : DS :=
  (sSeq (sSet 1 (dAttr "Table" "floor" (dVar 0)))
    (sSeq (sSetF 2 (fDisp dNil))
    (sSeq (sFor (false, [("number", 3)]) (dSrc (dFrz (fB hSortI (dCons (dFrz (fB hList (dCons (dAttr "Floor" "men" (dVar 1)) dNil))) dNil))))
    (sSeq (sSet 6 (dOp2 oIx (dAttr "Floor" "men" (dVar 1)) (dVar 3)))
    (sMut "list" hAppend (dVar 2) (dCons (dTup (dCons (dVar 3) (dCons (dOp2 oIx (dVar 6) (dConst (.str "owner"))) (dCons (dOp2 oIx (dVar 6) (dConst (.str "size"))) (dCons (dOp2 oIx (dVar 6) (dConst (.str "when"))) (dCons (dOp2 oIx (dVar 6) (dConst (.str "harm"))) dNil)))))) dNil))))
    (sSeq (sSet 4 (dB hTuple (dCons (dFrz (fLc (false, [("hand", 7)]) (List.map (fun x : Str × Nat => x.2) [("hand", 7)]) (dSrc (dAttr "Table" "hands" (dVar 0))) dYes (dB hTuple (dCons (dVar 7) dNil)))) dNil)))
    (sSeq (sSet 5 (dTup (dCons (dB hTuple (dCons (dAttr "Table" "lives" (dVar 0)) dNil)) (dCons (dVar 4) (dCons (dB hTuple (dCons (dVar 2) dNil)) (dCons (dB hTuple (dCons (dMeth "Table" "standing" 1 sem_Table_standing (dVar 0) dNil) dNil)) (dCons (dAttr "Floor" "coming" (dVar 1)) dNil)))))))
    (sRet (dOp2 oAdd (dVar 5) (dTup (dCons (dB hTuple (dCons (dMeth "Table" "pile" 1 sem_Table_pile (dVar 0) dNil) dNil)) (dCons (dAttr "Table" "count" (dVar 0)) (dCons (dAttr "Table" "turner" (dVar 0)) (dCons (dAttr "Table" "asked" (dVar 0)) (dCons (dAttr "Table" "passes" (dVar 0)) dNil)))))))))))))
def sem_Table_saved : Sem := semOf 1 8 m_Table_saved
def m_Table_alive : DS :=
  (sRetF (fLc (false, [("seat", 1)]) (List.map (fun x : Str × Nat => x.2) [("seat", 1)]) (dRng rng1Of (dCons (dB hLen (dCons (dAttr "Table" "lives" (dVar 0)) dNil)) dNil)) (dCmp (cOrd pGt) (dOp2 oIx (dAttr "Table" "lives" (dVar 0)) (dVar 1)) (dConst (.int 0))) (dVar 1)))
def sem_Table_alive : Sem := semOf 1 2 m_Table_alive
def m_Table_is_over : DS :=
  (sRet (dBl (dCmp (cOrd pLt) (dB hLen (dCons (dMeth "Table" "alive" 1 sem_Table_alive (dVar 0) dNil) dNil)) (dConst (.int 2)))))
def sem_Table_is_over : Sem := semOf 1 1 m_Table_is_over
def m_Table_need_seat : DS :=
  (sIf (dNot (dTest (dCall 3 sem_is_whole (dCons (dVar 1) (dCons (dConst (.int 0)) (dCons (dOp2 oSub (dB hLen (dCons (dAttr "Table" "lives" (dVar 0)) dNil)) (dConst (.int 1))) dNil))))))
    (sRaise "NoSeat")
    sNext)
def sem_Table_need_seat : Sem := semOf 2 2 m_Table_need_seat
def m_Table_need_asked : DS :=
  (sSeq (sIf (dTest (dMeth "Table" "is_over" 1 sem_Table_is_over (dVar 0) dNil))
    (sRaise "Over")
    sNext)
    (sSeq (sExpr (dMeth "Table" "need_seat" 2 sem_Table_need_seat (dVar 0) (dCons (dVar 1) dNil)))
    (sIf (dCmp cNe (dVar 1) (dAttr "Table" "asked" (dVar 0)))
    (sRaise "NotYet")
    sNext)))
def sem_Table_need_asked : Sem := semOf 2 2 m_Table_need_asked
def m_Table_seats_from : DS :=
  (sSeq (sSet 2 (dB hLen (dCons (dAttr "Table" "lives" (dVar 0)) dNil)))
    (sSeq (sSet 3 (dFrz (fLc (false, [("k", 4)]) (List.map (fun x : Str × Nat => x.2) [("k", 4)]) (dRng rng1Of (dCons (dVar 2) dNil)) dYes (dOp2 oMod (dOp2 oAdd (dVar 1) (dVar 4)) (dVar 2)))))
    (sRetF (fLc (false, [("other", 5)]) (List.map (fun x : Str × Nat => x.2) [("other", 5)]) (dSrc (dVar 3)) (dCmp (cOrd pGt) (dOp2 oIx (dAttr "Table" "lives" (dVar 0)) (dVar 5)) (dConst (.int 0))) (dVar 5)))))
def sem_Table_seats_from : Sem := semOf 2 6 m_Table_seats_from
def m_Table_behind : DS :=
  (sRet (dOp2 oIx (dOp2 oAdd (dMeth "Table" "seats_from" 2 sem_Table_seats_from (dVar 0) (dCons (dOp2 oAdd (dVar 1) (dConst (.int 1))) dNil)) (dLst (dCons (dVar 1) dNil))) (dConst (.int 0))))
def sem_Table_behind : Sem := semOf 2 2 m_Table_behind
def m_Table_has_target : DS :=
  (sSeq (sIf (dCmp cEq (dOp2 oIx (dVar 1) (dConst (.int 0))) (dConst (.str "strike")))
    (sRet (dBl (dCmp cIn (dOp2 oIx (dVar 1) (dConst (.int 1))) (dAttr "Floor" "men" (dAttr "Table" "floor" (dVar 0))))))
    sNext)
    (sSeq (sIf (dCmp cEq (dOp2 oIx (dVar 1) (dConst (.int 0))) (dConst (.str "bar")))
    (sRet (dBl (dCmp cIn (dOp2 oIx (dVar 1) (dConst (.int 1))) (dFrz (fLc (false, [("item", 2)]) (List.map (fun x : Str × Nat => x.2) [("item", 2)]) (dSrc (dAttr "Table" "stack" (dVar 0))) dYes (dOp2 oIx (dVar 2) (dConst (.str "number"))))))))
    sNext)
    (sSeq (sIf (dCmp cEq (dOp2 oIx (dVar 1) (dConst (.int 0))) (dConst (.str "lift")))
    (sRet (dBl (dCmp cIn (dOp2 oIx (dVar 1) (dConst (.int 1))) (dAttr "Floor" "stays" (dAttr "Table" "floor" (dVar 0))))))
    sNext)
    (sRet (dOrV (dBl (dCmp cNotIn (dOp2 oIx (dVar 1) (dConst (.int 0))) (dTup (dCons (dConst (.str "hit")) (dCons (dConst (.str "mend")) dNil))))) (dBl (dCmp (cOrd pGt) (dOp2 oIx (dAttr "Table" "lives" (dVar 0)) (dOp2 oIx (dVar 1) (dConst (.int 1)))) (dConst (.int 0)))))))))
def sem_Table_has_target : Sem := semOf 2 3 m_Table_has_target
def m_Table_is_there : DS :=
  (sSeq (sIf (dCmp cEq (dOp2 oIx (dVar 1) (dConst (.int 0))) (dConst (.str "bring")))
    (sRet (dBl (dCmp (cOrd pLt) (dB hLen (dCons (dAttr "Floor" "men" (dAttr "Table" "floor" (dVar 0))) dNil)) (dConst c_UNITS))))
    sNext)
    (sRet (dOrV (dIsi "str" (dOp2 oIx (dVar 1) (dConst (.int 1)))) (dMeth "Table" "has_target" 2 sem_Table_has_target (dVar 0) (dCons (dVar 1) dNil)))))
def sem_Table_is_there : Sem := semOf 2 2 m_Table_is_there
def m_touches : DS :=
  (sSeq (sIf (dCmp cEq (dVar 0) (dConst (.str "all")))
    (sRet (dConst (.bl true)))
    sNext)
    (sRet (dBl (dCmp cEq (dBl (dCmp cEq (dVar 1) (dVar 2))) (dBl (dCmp cEq (dVar 0) (dConst (.str "mine"))))))))
def sem_touches : Sem := semOf 3 3 m_touches
def m_Table_targets : DS :=
  (sSeq (sIf (dNot (dTest (dIsi "str" (dVar 2))))
    (sRetF (fDisp (dCons (dVar 2) dNil)))
    sNext)
    (sRetF (fLc (false, [("seat", 3)]) (List.map (fun x : Str × Nat => x.2) [("seat", 3)]) (dSrc (dMeth "Table" "seats_from" 2 sem_Table_seats_from (dVar 0) (dCons (dVar 1) dNil))) (dTest (dCall 3 sem_touches (dCons (dVar 2) (dCons (dVar 1) (dCons (dVar 3) dNil))))) (dVar 3))))
def sem_Table_targets : Sem := semOf 3 4 m_Table_targets
def m_Table_happens : DS :=
  (sFor (false, [("number", 2)]) (dSrc (dFrz (fB hSortI (dCons (dFrz (fB hList (dCons (dAttr "Floor" "men" (dAttr "Table" "floor" (dVar 0))) dNil))) dNil))))
    (sSeq (sSet 3 (dOp2 oIx (dAttr "Floor" "men" (dAttr "Table" "floor" (dVar 0))) (dVar 2)))
    (sIf (dAnd (dCmp cIsNot (dOp2 oIx (dVar 3) (dConst (.str "when"))) (dConst .non)) (dCmp cEq (dOp2 oIx (dOp2 oIx (dVar 3) (dConst (.str "when"))) (dConst (.int 0))) (dVar 1)))
    (sMut "list" hAppend (dAttr "Table" "due" (dVar 0)) (dCons (dTup (dCons (dOp2 oIx (dVar 3) (dConst (.str "owner"))) (dCons (dOp2 oIx (dOp2 oIx (dVar 3) (dConst (.str "when"))) (dConst (.int 1))) dNil))) dNil))
    sNext)))
def sem_Table_happens : Sem := semOf 2 4 m_Table_happens
def m_Table_touch : DS :=
  (sSeq (sIf (dCmp cEq (dVar 1) (dConst (.str "hit")))
    (sSeq (sPutIx (dAttr "Table" "lives" (dVar 0)) (dVar 2) (dB hMax (dCons (dConst (.int 0)) (dCons (dOp2 oSub (dOp2 oIx (dAttr "Table" "lives" (dVar 0)) (dVar 2)) (dVar 3)) dNil))))
    (sSeq (sExpr (dMeth "Table" "happens" 2 sem_Table_happens (dVar 0) (dCons (dConst (.str "hurt")) dNil)))
    (sRetF (fDisp (dCons (dTup (dCons (dConst (.str "hurt")) (dCons (dVar 2) (dCons (dOp2 oIx (dAttr "Table" "lives" (dVar 0)) (dVar 2)) dNil)))) dNil)))))
    sNext)
    (sSeq (sPutIx (dAttr "Table" "lives" (dVar 0)) (dVar 2) (dB hMin (dCons (dConst c_LIFE) (dCons (dOp2 oAdd (dOp2 oIx (dAttr "Table" "lives" (dVar 0)) (dVar 2)) (dVar 3)) dNil))))
    (sSeq (sExpr (dMeth "Table" "happens" 2 sem_Table_happens (dVar 0) (dCons (dConst (.str "mended")) dNil)))
    (sRetF (fDisp (dCons (dTup (dCons (dConst (.str "mended")) (dCons (dVar 2) (dCons (dOp2 oIx (dAttr "Table" "lives" (dVar 0)) (dVar 2)) dNil)))) dNil))))))
def sem_Table_touch : Sem := semOf 4 4 m_Table_touch
def m_Floor_new_number : DS :=
  (sSeq (sFldD "Floor" "coming" (dVar 0) (dOp2 oAdd (dAttr "Floor" "coming" (dVar 0)) (dConst (.int 1))))
    (sRet (dOp2 oSub (dAttr "Floor" "coming" (dVar 0)) (dConst (.int 1)))))
def sem_Floor_new_number : Sem := semOf 1 1 m_Floor_new_number
def m_Floor_bring : DS :=
  (sSeq (sSet 4 (dMeth "Floor" "new_number" 1 sem_Floor_new_number (dVar 0) dNil))
    (sSeq (sPutIx (dAttr "Floor" "men" (dVar 0)) (dVar 4) (dDic (dPs "owner" (dVar 1) (dPs "size" (dVar 2) (dPs "when" (dVar 3) (dPs "harm" (dConst (.int 0)) dPs0))))))
    (sRet (dVar 4))))
def sem_Floor_bring : Sem := semOf 4 5 m_Floor_bring
def m_Floor_stand : DS :=
  (sSeq (sSet 3 (dMeth "Floor" "new_number" 1 sem_Floor_new_number (dVar 0) dNil))
    (sSeq (sPutIx (dAttr "Floor" "stays" (dVar 0)) (dVar 3) (dTup (dCons (dVar 1) (dCons (dVar 2) dNil))))
    (sRet (dVar 3))))
def sem_Floor_stand : Sem := semOf 3 4 m_Floor_stand
def m_Table_resolve : DS :=
  (sSeq (sSet 2 (dOp2 oIx (dVar 1) (dConst (.str "card"))))
    (sSeq (sIf (dNot (dTest (dMeth "Table" "is_there" 2 sem_Table_is_there (dVar 0) (dCons (dVar 2) dNil))))
    (sRetF (fDisp (dCons (dTup (dCons (dConst (.str "void")) (dCons (dOp2 oIx (dVar 1) (dConst (.str "number"))) dNil))) dNil)))
    sNext)
    (sSeq (sSetF 3 (fDisp (dCons (dTup (dCons (dConst (.str "done")) (dCons (dOp2 oIx (dVar 1) (dConst (.str "number"))) dNil))) dNil)))
    (sSeq (sIf (dCmp cIn (dOp2 oIx (dVar 2) (dConst (.int 0))) (dTup (dCons (dConst (.str "hit")) (dCons (dConst (.str "mend")) dNil))))
    (sFor (false, [("seat", 4)]) (dSrc (dMeth "Table" "targets" 3 sem_Table_targets (dVar 0) (dCons (dOp2 oIx (dVar 1) (dConst (.str "owner"))) (dCons (dOp2 oIx (dVar 2) (dConst (.int 1))) dNil))))
    (sMut "list" hExtend (dVar 3) (dCons (dMeth "Table" "touch" 4 sem_Table_touch (dVar 0) (dCons (dOp2 oIx (dVar 2) (dConst (.int 0))) (dCons (dVar 4) (dCons (dOp2 oIx (dVar 2) (dConst (.int 2))) dNil)))) dNil)))
    (sIf (dCmp cEq (dOp2 oIx (dVar 2) (dConst (.int 0))) (dConst (.str "strike")))
    (sPutIx (dOp2 oIx (dAttr "Floor" "men" (dAttr "Table" "floor" (dVar 0))) (dOp2 oIx (dVar 2) (dConst (.int 1)))) (dConst (.str "harm")) (dOp2 oAdd (dOp2 oIx (dOp2 oIx (dAttr "Floor" "men" (dAttr "Table" "floor" (dVar 0))) (dOp2 oIx (dVar 2) (dConst (.int 1)))) (dConst (.str "harm"))) (dOp2 oIx (dVar 2) (dConst (.int 2)))))
    (sIf (dCmp cEq (dOp2 oIx (dVar 2) (dConst (.int 0))) (dConst (.str "bring")))
    (sSeq (sSet 5 (dMeth "Floor" "bring" 4 sem_Floor_bring (dAttr "Table" "floor" (dVar 0)) (dCons (dOp2 oIx (dVar 1) (dConst (.str "owner"))) (dCons (dOp2 oIx (dVar 2) (dConst (.int 1))) (dCons (dOp2 oIx (dVar 2) (dConst (.int 2))) dNil)))))
    (sSeq (sMut "list" hAppend (dVar 3) (dCons (dTup (dCons (dConst (.str "comes")) (dCons (dVar 5) dNil))) dNil))
    (sExpr (dMeth "Table" "happens" 2 sem_Table_happens (dVar 0) (dCons (dConst (.str "comes")) dNil)))))
    (sIf (dCmp cEq (dOp2 oIx (dVar 2) (dConst (.int 0))) (dConst (.str "stand")))
    (sMut "list" hAppend (dVar 3) (dCons (dTup (dCons (dConst (.str "stands")) (dCons (dMeth "Floor" "stand" 3 sem_Floor_stand (dAttr "Table" "floor" (dVar 0)) (dCons (dOp2 oIx (dVar 1) (dConst (.str "owner"))) (dCons (dVar 2) dNil))) dNil))) dNil))
    (sIf (dCmp cEq (dOp2 oIx (dVar 2) (dConst (.int 0))) (dConst (.str "bar")))
    (sFldD "Table" "stack" (dVar 0) (dCell (fLc (false, [("other", 6)]) (List.map (fun x : Str × Nat => x.2) [("other", 6)]) (dSrc (dAttr "Table" "stack" (dVar 0))) (dCmp cNe (dOp2 oIx (dVar 6) (dConst (.str "number"))) (dOp2 oIx (dVar 2) (dConst (.int 1)))) (dVar 6))))
    (sExpr (dMth "dict" "dict" hDPop hDPop (dAttr "Floor" "stays" (dAttr "Table" "floor" (dVar 0))) (dCons (dOp2 oIx (dVar 2) (dConst (.int 1))) dNil))))))))
    (sRet (dVar 3))))))
def sem_Table_resolve : Sem := semOf 2 7 m_Table_resolve
def m_Floor_layer : DS :=
  (sSeq (sSetF 3 (fDisp dNil))
    (sSeq (sFor (false, [("number", 4)]) (dSrc (dFrz (fB hSortI (dCons (dFrz (fB hList (dCons (dAttr "Floor" "stays" (dVar 0)) dNil))) dNil))))
    (sSeq (sUnp (true, [("mine", 5), ("card", 6)]) (dOp2 oIx (dAttr "Floor" "stays" (dVar 0)) (dVar 4)))
    (sIf (dAnd (dCmp cEq (dOp2 oIx (dVar 6) (dConst (.int 1))) (dVar 1)) (dTest (dCall 3 sem_touches (dCons (dOp2 oIx (dVar 6) (dConst (.int 2))) (dCons (dVar 5) (dCons (dVar 2) dNil))))))
    (sMut "list" hAppend (dVar 3) (dCons (dOp2 oIx (dVar 6) (dConst (.int 3))) dNil))
    sNext)))
    (sRet (dVar 3))))
def sem_Floor_layer : Sem := semOf 3 7 m_Floor_layer
def m_Floor_power : DS :=
  (sSeq (sSet 2 (dOp2 oIx (dAttr "Floor" "men" (dVar 0)) (dVar 1)))
    (sSeq (sSet 3 (dOp2 oIx (dOp2 oAdd (dLst (dCons (dOp2 oIx (dVar 2) (dConst (.str "size"))) dNil)) (dMeth "Floor" "layer" 3 sem_Floor_layer (dVar 0) (dCons (dConst (.str "set")) (dCons (dOp2 oIx (dVar 2) (dConst (.str "owner"))) dNil)))) (dNeg (dConst (.int 1)))))
    (sSeq (sSet 3 (dOp2 oAdd (dVar 3) (dB hSum (dCons (dMeth "Floor" "layer" 3 sem_Floor_layer (dVar 0) (dCons (dConst (.str "add")) (dCons (dOp2 oIx (dVar 2) (dConst (.str "owner"))) dNil))) dNil))))
    (sRet (dB hMin (dCons (dOp2 oAdd (dLst (dCons (dVar 3) dNil)) (dMeth "Floor" "layer" 3 sem_Floor_layer (dVar 0) (dCons (dConst (.str "cap")) (dCons (dOp2 oIx (dVar 2) (dConst (.str "owner"))) dNil)))) dNil))))))
def sem_Floor_power : Sem := semOf 2 4 m_Floor_power
def m_Floor_failing : DS :=
  (sRetF (fLc (false, [("number", 1)]) (List.map (fun x : Str × Nat => x.2) [("number", 1)]) (dSrc (dFrz (fB hSortI (dCons (dFrz (fB hList (dCons (dAttr "Floor" "men" (dVar 0)) dNil))) dNil)))) (dCmp (cOrd pGe) (dOp2 oIx (dOp2 oIx (dAttr "Floor" "men" (dVar 0)) (dVar 1)) (dConst (.str "harm"))) (dMeth "Floor" "power" 2 sem_Floor_power (dVar 0) (dCons (dVar 1) dNil))) (dVar 1)))
def sem_Floor_failing : Sem := semOf 1 2 m_Floor_failing
def m_Floor_of : DS :=
  (sRetF (fLc (false, [("number", 2)]) (List.map (fun x : Str × Nat => x.2) [("number", 2)]) (dSrc (dFrz (fB hSortI (dCons (dFrz (fB hList (dCons (dAttr "Floor" "men" (dVar 0)) dNil))) dNil)))) (dCmp cEq (dOp2 oIx (dOp2 oIx (dAttr "Floor" "men" (dVar 0)) (dVar 2)) (dConst (.str "owner"))) (dVar 1)) (dVar 2)))
def sem_Floor_of : Sem := semOf 2 3 m_Floor_of
def m_Table_failing : DS :=
  (sSeq (sSetF 1 (fMeth "Floor" "failing" 1 sem_Floor_failing (dAttr "Table" "floor" (dVar 0)) dNil))
    (sSeq (sFor (false, [("seat", 2)]) (dRng rng1Of (dCons (dB hLen (dCons (dAttr "Table" "lives" (dVar 0)) dNil)) dNil))
    (sIf (dCmp cEq (dOp2 oIx (dAttr "Table" "lives" (dVar 0)) (dVar 2)) (dConst (.int 0)))
    (sMut "list" hExtend (dVar 1) (dCons (dFrz (fLc (false, [("number", 3)]) (List.map (fun x : Str × Nat => x.2) [("number", 3)]) (dSrc (dMeth "Floor" "of" 2 sem_Floor_of (dAttr "Table" "floor" (dVar 0)) (dCons (dVar 2) dNil))) (dCmp cNotIn (dVar 3) (dVar 1)) (dVar 3))) dNil))
    sNext))
    (sRetF (fB hSortI (dCons (dVar 1) dNil)))))
def sem_Table_failing : Sem := semOf 1 4 m_Table_failing
def m_Table_clear_out : DS :=
  (sSeq (sFldD "Table" "stack" (dVar 0) (dCell (fLc (false, [("item", 2)]) (List.map (fun x : Str × Nat => x.2) [("item", 2)]) (dSrc (dAttr "Table" "stack" (dVar 0))) (dCmp (cOrd pGt) (dOp2 oIx (dAttr "Table" "lives" (dVar 0)) (dOp2 oIx (dVar 2) (dConst (.str "owner")))) (dConst (.int 0))) (dVar 2))))
    (sFor (false, [("number", 1)]) (dSrc (dFrz (fB hSortI (dCons (dFrz (fB hList (dCons (dAttr "Floor" "stays" (dAttr "Table" "floor" (dVar 0))) dNil))) dNil))))
    (sIf (dCmp cEq (dOp2 oIx (dAttr "Table" "lives" (dVar 0)) (dOp2 oIx (dOp2 oIx (dAttr "Floor" "stays" (dAttr "Table" "floor" (dVar 0))) (dVar 1)) (dConst (.int 0)))) (dConst (.int 0)))
    (sExpr (dMth "dict" "dict" hDPop hDPop (dAttr "Floor" "stays" (dAttr "Table" "floor" (dVar 0))) (dCons (dVar 1) dNil)))
    sNext)))
def sem_Table_clear_out : Sem := semOf 1 3 m_Table_clear_out
def m_Table_put : DS :=
  (sSeq (sMut "list" hAppend (dAttr "Table" "stack" (dVar 0)) (dCons (dDic (dPs "number" (dAttr "Table" "count" (dVar 0)) (dPs "owner" (dVar 1) (dPs "card" (dVar 2) dPs0)))) dNil))
    (sSeq (sFldD "Table" "count" (dVar 0) (dOp2 oAdd (dAttr "Table" "count" (dVar 0)) (dConst (.int 1))))
    (sRet (dOp2 oSub (dAttr "Table" "count" (dVar 0)) (dConst (.int 1))))))
def sem_Table_put : Sem := semOf 3 3 m_Table_put
def m_Table_settle_down : DS :=
  (sSeq (sSetF 1 (fDisp dNil))
    (sSeq (sSet 2 (dMeth "Table" "failing" 1 sem_Table_failing (dVar 0) dNil))
    (sSeq (sWhile (dCmp cNe (dVar 2) (dLst dNil))
    (sSeq (sFor (false, [("number", 5)]) (dSrc (dVar 2))
    (sExpr (dMeth "Table" "happens" 2 sem_Table_happens (dVar 0) (dCons (dConst (.str "goes")) dNil))))
    (sSeq (sFor (false, [("number", 5)]) (dSrc (dVar 2))
    (sSeq (sExpr (dMth "dict" "dict" hDPop hDPop (dAttr "Floor" "men" (dAttr "Table" "floor" (dVar 0))) (dCons (dVar 5) dNil)))
    (sMut "list" hAppend (dVar 1) (dCons (dTup (dCons (dConst (.str "goes")) (dCons (dVar 5) dNil))) dNil))))
    (sSet 2 (dMeth "Table" "failing" 1 sem_Table_failing (dVar 0) dNil)))))
    (sSeq (sExpr (dMeth "Table" "clear_out" 1 sem_Table_clear_out (dVar 0) dNil))
    (sSeq (sSet 3 (dMeth "Table" "seats_from" 2 sem_Table_seats_from (dVar 0) (dCons (dAttr "Table" "turner" (dVar 0)) dNil)))
    (sSeq (sFor (false, [("seat", 4)]) (dSrc (dVar 3))
    (sFor (true, [("owner", 6), ("answer", 7)]) (dSrc (dAttr "Table" "due" (dVar 0)))
    (sIf (dAnd (dCmp cEq (dVar 6) (dVar 4)) (dCmp (cOrd pLt) (dB hLen (dCons (dAttr "Table" "stack" (dVar 0)) dNil)) (dConst c_ITEMS)))
    (sMut "list" hAppend (dVar 1) (dCons (dTup (dCons (dConst (.str "waits")) (dCons (dMeth "Table" "put" 3 sem_Table_put (dVar 0) (dCons (dVar 6) (dCons (dVar 7) dNil))) dNil))) dNil))
    sNext)))
    (sSeq (sFldD "Table" "due" (dVar 0) (dCell (fDisp dNil)))
    (sRet (dVar 1)))))))))
def sem_Table_settle_down : Sem := semOf 1 8 m_Table_settle_down
def m_Table_go_by : DS :=
  (sSeq (sExpr (dMeth "Table" "need_asked" 2 sem_Table_need_asked (dVar 0) (dCons (dVar 1) dNil)))
    (sSeq (sFldD "Table" "passes" (dVar 0) (dOp2 oAdd (dAttr "Table" "passes" (dVar 0)) (dConst (.int 1))))
    (sSeq (sIf (dCmp (cOrd pLt) (dAttr "Table" "passes" (dVar 0)) (dB hLen (dCons (dMeth "Table" "alive" 1 sem_Table_alive (dVar 0) dNil) dNil)))
    (sSeq (sFldD "Table" "asked" (dVar 0) (dMeth "Table" "behind" 2 sem_Table_behind (dVar 0) (dCons (dVar 1) dNil)))
    (sRetF (fDisp dNil)))
    sNext)
    (sSeq (sFldD "Table" "passes" (dVar 0) (dConst (.int 0)))
    (sSeq (sIf (dCmp cEq (dAttr "Table" "stack" (dVar 0)) (dLst dNil))
    (sSeq (sFldD "Table" "turner" (dVar 0) (dMeth "Table" "behind" 2 sem_Table_behind (dVar 0) (dCons (dAttr "Table" "turner" (dVar 0)) dNil)))
    (sSeq (sFldD "Table" "asked" (dVar 0) (dAttr "Table" "turner" (dVar 0)))
    (sRetF (fDisp (dCons (dTup (dCons (dConst (.str "turn")) (dCons (dAttr "Table" "turner" (dVar 0)) dNil))) dNil)))))
    sNext)
    (sSeq (sSetF 2 (fMeth "Table" "resolve" 2 sem_Table_resolve (dVar 0) (dCons (dMth "list" "list" hPop hPop (dAttr "Table" "stack" (dVar 0)) dNil) dNil)))
    (sSeq (sMut "list" hExtend (dVar 2) (dCons (dMeth "Table" "settle_down" 1 sem_Table_settle_down (dVar 0) dNil) dNil))
    (sSeq (sIf (dNot (dTest (dMeth "Table" "is_over" 1 sem_Table_is_over (dVar 0) dNil)))
    (sSeq (sFldD "Table" "asked" (dVar 0) (dOp2 oIx (dMeth "Table" "seats_from" 2 sem_Table_seats_from (dVar 0) (dCons (dAttr "Table" "turner" (dVar 0)) dNil)) (dConst (.int 0))))
    (sFldD "Table" "turner" (dVar 0) (dAttr "Table" "asked" (dVar 0))))
    sNext)
    (sRet (dVar 2))))))))))
def sem_Table_go_by : Sem := semOf 2 3 m_Table_go_by
def m_ahead : DS :=
  (sSeq (sIf (dNot (dTest (dCall 3 sem_is_whole (dCons (dVar 1) (dCons (dConst (.int 0)) (dCons (dConst c_MOST) dNil))))))
    (sRaise "NoCount")
    sNext)
    (sSeq (sSet 2 (dCall 1 sem_woken (dCons (dMeth "Table" "saved" 1 sem_Table_saved (dVar 0) dNil) dNil)))
    (sSeq (sSetF 3 (fDisp dNil))
    (sSeq (sWhile (dAnd (dCmp (cOrd pLt) (dB hLen (dCons (dVar 3) dNil)) (dVar 1)) (dNot (dTest (dMeth "Table" "is_over" 1 sem_Table_is_over (dVar 2) dNil))))
    (sMut "list" hAppend (dVar 3) (dCons (dMeth "Table" "go_by" 2 sem_Table_go_by (dVar 2) (dCons (dAttr "Table" "asked" (dVar 2)) dNil)) dNil)))
    (sRet (dVar 3))))))
def sem_ahead : Sem := semOf 2 4 m_ahead
def m_barred_by : DS :=
  (sSeq (sSet 2 (dFrz (fLc (true, [("number", 3), ("owner", 4), ("card", 5)]) (List.map (fun x : Str × Nat => x.2) [("number", 3), ("owner", 4), ("card", 5)]) (dSrc (dMeth "Table" "pile" 1 sem_Table_pile (dVar 0) dNil)) dYes (dVar 3))))
    (sSeq (sIf (dOr (dNot (dTest (dIsi "int" (dVar 1)))) (dOr (dTest (dIsi "bool" (dVar 1))) (dCmp cNotIn (dVar 1) (dVar 2))))
    (sRaise "NoTarget")
    sNext)
    (sRetF (fLc (true, [("number", 3), ("owner", 4), ("card", 5)]) (List.map (fun x : Str × Nat => x.2) [("number", 3), ("owner", 4), ("card", 5)]) (dSrc (dMeth "Table" "pile" 1 sem_Table_pile (dVar 0) dNil)) (dCmp cEq (dSl (dVar 5) dNoPart (dPart (dConst (.int 2)))) (dTup (dCons (dConst (.str "bar")) (dCons (dVar 1) dNil)))) (dVar 3)))))
def sem_barred_by : Sem := semOf 2 6 m_barred_by
def m_is_deed : DS :=
  (sSeq (sIf (dOr (dNot (dTest (dIsi "tuple" (dVar 0)))) (dOr (dCmp cEq (dB hLen (dCons (dVar 0) dNil)) (dConst (.int 0))) (dNot (dTest (dIsi "str" (dOp2 oIx (dVar 0) (dConst (.int 0))))))))
    (sRet (dConst (.bl false)))
    sNext)
    (sRet (dBl (dCmp cEq (dB hLen (dCons (dVar 0) dNil)) (dGGet tbl_SIZES (dCons (dOp2 oIx (dVar 0) (dConst (.int 0))) (dCons (dConst (.int 0)) dNil)))))))
def sem_is_deed : Sem := semOf 1 1 m_is_deed
def m_need_deeds : DS :=
  (sIf (dOr (dNot (dTest (dIsi "list" (dVar 0)))) (dNot (dTest (dB hAll (dCons (dFrz (fLc (false, [("deed", 1)]) (List.map (fun x : Str × Nat => x.2) [("deed", 1)]) (dSrc (dVar 0)) dYes (dCall 1 sem_is_deed (dCons (dVar 1) dNil)))) dNil)))))
    (sRaise "NoDeed")
    sNext)
def sem_need_deeds : Sem := semOf 1 2 m_need_deeds
def m_Table_play : DS :=
  (sSeq (sExpr (dMeth "Table" "need_asked" 2 sem_Table_need_asked (dVar 0) (dCons (dVar 1) dNil)))
    (sSeq (sIf (dNot (dTest (dCall 3 sem_is_whole (dCons (dVar 2) (dCons (dConst (.int 0)) (dCons (dOp2 oSub (dB hLen (dCons (dOp2 oIx (dAttr "Table" "hands" (dVar 0)) (dVar 1)) dNil)) (dConst (.int 1))) dNil))))))
    (sRaise "NoCard")
    sNext)
    (sSeq (sIf (dNot (dTest (dMeth "Table" "has_target" 2 sem_Table_has_target (dVar 0) (dCons (dOp2 oIx (dOp2 oIx (dAttr "Table" "hands" (dVar 0)) (dVar 1)) (dVar 2)) dNil))))
    (sRaise "NoTarget")
    sNext)
    (sSeq (sIf (dCmp cEq (dB hLen (dCons (dAttr "Table" "stack" (dVar 0)) dNil)) (dConst c_ITEMS))
    (sRaise "Full")
    sNext)
    (sSeq (sFldD "Table" "passes" (dVar 0) (dConst (.int 0)))
    (sRet (dMeth "Table" "put" 3 sem_Table_put (dVar 0) (dCons (dVar 1) (dCons (dMth "list" "list" hPopAt hPopAt (dOp2 oIx (dAttr "Table" "hands" (dVar 0)) (dVar 1)) (dCons (dVar 2) dNil)) dNil)))))))))
def sem_Table_play : Sem := semOf 3 3 m_Table_play
def m_do : DS :=
  (sSeq (sIf (dNot (dTest (dCall 1 sem_is_deed (dCons (dVar 1) dNil))))
    (sRaise "NoDeed")
    sNext)
    (sTry (hndStr takes_P "refused")
    (sSeq (sIf (dCmp cEq (dOp2 oIx (dVar 1) (dConst (.int 0))) (dConst (.str "play")))
    (sRet (dMeth "Table" "play" 3 sem_Table_play (dVar 0) (dCons (dOp2 oIx (dVar 1) (dConst (.int 1))) (dCons (dOp2 oIx (dVar 1) (dConst (.int 2))) dNil))))
    sNext)
    (sRet (dMeth "Table" "go_by" 2 sem_Table_go_by (dVar 0) (dCons (dOp2 oIx (dVar 1) (dConst (.int 1))) dNil))))))
def sem_do : Sem := semOf 2 2 m_do
def m_behind : DS :=
  (sSeq (sExpr (dCall 1 sem_need_deeds (dCons (dVar 1) dNil)))
    (sSeq (sSet 2 (dCall 1 sem_woken (dCons (dMeth "Table" "saved" 1 sem_Table_saved (dVar 0) dNil) dNil)))
    (sSeq (sFor (false, [("deed", 3)]) (dSrc (dVar 1))
    (sExpr (dCall 2 sem_do (dCons (dVar 2) (dCons (dVar 3) dNil)))))
    (sRet (dVar 2)))))
def sem_behind : Sem := semOf 2 4 m_behind
def m_playable : DS :=
  (sSeq (sExpr (dMeth "Table" "need_seat" 2 sem_Table_need_seat (dVar 0) (dCons (dVar 1) dNil)))
    (sSeq (sIf (dOr (dTest (dMeth "Table" "is_over" 1 sem_Table_is_over (dVar 0) dNil)) (dCmp cEq (dB hLen (dCons (dAttr "Table" "stack" (dVar 0)) dNil)) (dConst c_ITEMS)))
    (sRetF (fDisp dNil))
    sNext)
    (sSeq (sSet 2 (dOp2 oIx (dAttr "Table" "hands" (dVar 0)) (dVar 1)))
    (sRetF (fLc (false, [("place", 3)]) (List.map (fun x : Str × Nat => x.2) [("place", 3)]) (dRng rng1Of (dCons (dB hLen (dCons (dVar 2) dNil)) dNil)) (dTest (dMeth "Table" "has_target" 2 sem_Table_has_target (dVar 0) (dCons (dOp2 oIx (dVar 2) (dVar 3)) dNil))) (dVar 3))))))
def sem_playable : Sem := semOf 2 4 m_playable
def m_shape : DS :=
  (sSeq (sUnp (true, [("lives", 7), ("hands", 8), ("units", 9), ("standing", 10), ("coming", 11), ("pile", 12), ("count", 13), ("turner", 14), ("asked", 15), ("passes", 16)]) (dMeth "Table" "saved" 1 sem_Table_saved (dVar 0) dNil))
    (sSeq (sSet 1 dDic0)
    (sSeq (sFor (false, [("row", 2)]) (dSrc (dOp2 oAdd (dVar 9) (dVar 10)))
    (sPutIx (dVar 1) (dOp2 oIx (dVar 2) (dConst (.int 0))) (dB hLen (dCons (dVar 1) dNil))))
    (sSeq (sSet 3 dStuck)
    (sSeq (sSetF 4 (fDisp dNil))
    (sSeq (sFor (true, [("number", 17), ("owner", 18), ("card", 19)]) (dSrc (dVar 12))
    (sSeq (sIf (dCmp cIn (dOp2 oIx (dVar 19) (dConst (.int 0))) (dTup (dCons (dConst (.str "strike")) (dCons (dConst (.str "lift")) dNil))))
    (sSet 19 (dOp2 oAdd (dTup (dCons (dOp2 oIx (dVar 19) (dConst (.int 0))) (dCons (dMth "dict" "dict" hGet hGet (dVar 1) (dCons (dOp2 oIx (dVar 19) (dConst (.int 1))) dNil)) dNil))) (dSl (dVar 19) (dPart (dConst (.int 2))) dNoPart)))
    sNext)
    (sSeq (sIf (dCmp cEq (dOp2 oIx (dVar 19) (dConst (.int 0))) (dConst (.str "bar")))
    (sSet 19 (dTup (dCons (dOp2 oIx (dVar 19) (dConst (.int 0))) (dCons (dMth "dict" "dict" hGet hGet (dVar 3) (dCons (dOp2 oIx (dVar 19) (dConst (.int 1))) dNil)) dNil))))
    sNext)
    (sMut "list" hAppend (dVar 4) (dCons (dTup (dCons (dVar 18) (dCons (dVar 19) dNil))) dNil)))))
    (sSeq (sSet 5 (dB hTuple (dCons (dFrz (fLc (false, [("row", 2)]) (List.map (fun x : Str × Nat => x.2) [("row", 2)]) (dSrc (dVar 9)) dYes (dSl (dVar 2) (dPart (dConst (.int 1))) dNoPart))) dNil)))
    (sSeq (sSet 6 (dB hTuple (dCons (dFrz (fLc (false, [("row", 2)]) (List.map (fun x : Str × Nat => x.2) [("row", 2)]) (dSrc (dVar 10)) dYes (dSl (dVar 2) (dPart (dConst (.int 1))) dNoPart))) dNil)))
    (sRet (dTup (dCons (dVar 7) (dCons (dVar 5) (dCons (dVar 6) (dCons (dB hTuple (dCons (dVar 4) dNil)) (dCons (dVar 14) (dCons (dVar 15) (dCons (dVar 16) dNil)))))))))))))))))
def sem_shape : Sem := semOf 1 21 m_shape
def m_run_down : DS :=
  (sSeq (sSet 1 (dCell (fDisp dNil)))
    (sSeq (sSet 2 dDic0)
    (sSeq (sWhile (dAnd (dCmp cNe (dAttr "Table" "stack" (dVar 0)) (dLst dNil)) (dNot (dTest (dMeth "Table" "is_over" 1 sem_Table_is_over (dVar 0) dNil))))
    (sSeq (sSet 3 (dCall 1 sem_shape (dCons (dVar 0) dNil)))
    (sSeq (sIf (dCmp cIn (dVar 3) (dVar 2))
    (sRet (dTup (dCons (dVar 1) (dCons (dOp2 oSub (dB hLen (dCons (dVar 1) dNil)) (dOp2 oIx (dVar 2) (dVar 3))) dNil))))
    sNext)
    (sSeq (sIf (dCmp cEq (dB hLen (dCons (dVar 1) dNil)) (dConst c_MOST))
    (sRaise "TooMany")
    sNext)
    (sSeq (sPutIx (dVar 2) (dVar 3) (dB hLen (dCons (dVar 1) dNil)))
    (sMut "list" hAppend (dVar 1) (dCons (dMeth "Table" "go_by" 2 sem_Table_go_by (dVar 0) (dCons (dAttr "Table" "asked" (dVar 0)) dNil)) dNil)))))))
    (sRet (dTup (dCons (dVar 1) (dCons (dConst .non) dNil)))))))
def sem_run_down : Sem := semOf 1 4 m_run_down
def m_settle : DS :=
  (sSeq (sIf (dTest (dMeth "Table" "is_over" 1 sem_Table_is_over (dVar 0) dNil))
    (sRaise "Over")
    sNext)
    (sSeq (sSet 1 (dCall 1 sem_woken (dCons (dMeth "Table" "saved" 1 sem_Table_saved (dVar 0) dNil) dNil)))
    (sSeq (sUnp (true, [("told", 2), ("length", 3)]) (dCall 1 sem_run_down (dCons (dVar 1) dNil)))
    (sSeq (sIf (dCmp cIsNot (dVar 3) (dConst .non))
    (sRet (dConst .non))
    sNext)
    (sRet (dFrz (fLc (false, [("one", 4)]) (List.map (fun x : Str × Nat => x.2) [("one", 4)]) (dSrc (dVar 2)) dYes (dMeth "Table" "go_by" 2 sem_Table_go_by (dVar 0) (dCons (dAttr "Table" "asked" (dVar 0)) dNil)))))))))
def sem_settle : Sem := semOf 1 5 m_settle
def m_lives_then : DS :=
  (sSeq (sSet 1 (dCall 1 sem_woken (dCons (dMeth "Table" "saved" 1 sem_Table_saved (dVar 0) dNil) dNil)))
    (sSeq (sIf (dAnd (dNot (dTest (dMeth "Table" "is_over" 1 sem_Table_is_over (dVar 1) dNil))) (dCmp cIs (dCall 1 sem_settle (dCons (dVar 1) dNil)) (dConst .non)))
    (sRet (dConst .non))
    sNext)
    (sRet (dB hTuple (dCons (dAttr "Table" "lives" (dVar 1)) dNil)))))
def sem_lives_then : Sem := semOf 1 2 m_lives_then
def m_lives_behind : DS :=
  (sRet (dCall 1 sem_lives_then (dCons (dCall 2 sem_behind (dCons (dVar 0) (dCons (dVar 1) dNil))) dNil)))
def sem_lives_behind : Sem := semOf 2 2 m_lives_behind
def m_best_place : DS :=
  (sSeq (sExpr (dMeth "Table" "need_asked" 2 sem_Table_need_asked (dVar 0) (dCons (dVar 1) dNil)))
    (sSeq (sExpr (dMeth "Table" "need_seat" 2 sem_Table_need_seat (dVar 0) (dCons (dVar 2) dNil)))
    (sSeq (sSetF 3 (fDisp dNil))
    (sSeq (sFor (false, [("place", 4)]) (dSrc (dCall 2 sem_playable (dCons (dVar 0) (dCons (dVar 1) dNil))))
    (sSeq (sSet 5 (dCall 2 sem_lives_behind (dCons (dVar 0) (dCons (dLst (dCons (dTup (dCons (dConst (.str "play")) (dCons (dVar 1) (dCons (dVar 4) dNil)))) dNil)) dNil))))
    (sIf (dCmp cIsNot (dVar 5) (dConst .non))
    (sMut "list" hAppend (dVar 3) (dCons (dTup (dCons (dOp2 oIx (dVar 5) (dVar 2)) (dCons (dVar 4) dNil))) dNil))
    sNext)))
    (sRet (dIf (dCmp cNe (dVar 3) (dLst dNil)) (dOp2 oIx (dB hMin (dCons (dVar 3) dNil)) (dConst (.int 1))) (dConst .non)))))))
def sem_best_place : Sem := semOf 3 6 m_best_place
def m_number_in : DS :=
  (sSeq (sIf (dOr (dNot (dChain (cOrd pLe) (cOrd pLe) (dConst (.int 1)) (dB hLen (dCons (dVar 0) dNil)) (dConst (.int 4)))) (dNot (dTest (dB hAll (dCons (dFrz (fLc (false, [("sign", 1)]) (List.map (fun x : Str × Nat => x.2) [("sign", 1)]) (dSrc (dVar 0)) dYes (dBl (dCmp cIn (dVar 1) (dConst c_FIGURES))))) dNil)))))
    (sRet (dVar 0))
    sNext)
    (sRet (dB hInt (dCons (dVar 0) dNil))))
def sem_number_in : Sem := semOf 1 2 m_number_in
def m_card_in : DS :=
  (sSeq (sSet 1 (dMth "str" "str" hSplit hSplit (dVar 0) (dCons (dConst (.str " ")) dNil)))
    (sSeq (sIf (dCmp cNe (dOp2 oIx (dVar 1) (dConst (.int 0))) (dConst (.str "bring")))
    (sRet (dB hTuple (dCons (dFrz (fLc (false, [("word", 3)]) (List.map (fun x : Str × Nat => x.2) [("word", 3)]) (dSrc (dVar 1)) dYes (dCall 1 sem_number_in (dCons (dVar 3) dNil)))) dNil)))
    sNext)
    (sSeq (sIf (dCmp cEq (dB hLen (dCons (dVar 1) dNil)) (dConst (.int 2)))
    (sRet (dTup (dCons (dConst (.str "bring")) (dCons (dCall 1 sem_number_in (dCons (dOp2 oIx (dVar 1) (dConst (.int 1))) dNil)) (dCons (dConst .non) dNil)))))
    sNext)
    (sSeq (sIf (dOr (dCmp (cOrd pLt) (dB hLen (dCons (dVar 1) dNil)) (dConst (.int 4))) (dCmp cNotIn (dOp2 oIx (dVar 1) (dConst (.int 2))) (dConst c_EVENTS)))
    (sRet (dTup dNil))
    sNext)
    (sSeq (sSet 2 (dB hTuple (dCons (dFrz (fLc (false, [("word", 3)]) (List.map (fun x : Str × Nat => x.2) [("word", 3)]) (dSrc (dSl (dVar 1) (dPart (dConst (.int 3))) dNoPart)) dYes (dCall 1 sem_number_in (dCons (dVar 3) dNil)))) dNil)))
    (sSeq (sIf (dCmp cEq (dOp2 oIx (dVar 1) (dConst (.int 3))) (dConst (.str "bring")))
    (sSet 2 (dOp2 oAdd (dVar 2) (dTup (dCons (dConst .non) dNil))))
    sNext)
    (sRet (dTup (dCons (dConst (.str "bring")) (dCons (dCall 1 sem_number_in (dCons (dOp2 oIx (dVar 1) (dConst (.int 1))) dNil)) (dCons (dTup (dCons (dOp2 oIx (dVar 1) (dConst (.int 2))) (dCons (dVar 2) dNil))) dNil)))))))))))
def sem_card_in : Sem := semOf 1 4 m_card_in
def m_need_card : DS :=
  (sIf (dNot (dTest (dCall 2 sem_is_card (dCons (dVar 0) (dCons (dConst c_SEATS) dNil)))))
    (sRaise "NoCard")
    sNext)
def sem_need_card : Sem := semOf 1 1 m_need_card
def m_words_of : DS :=
  (sSeq (sSetF 1 (fLc (false, [("part", 2)]) (List.map (fun x : Str × Nat => x.2) [("part", 2)]) (dSrc (dVar 0)) (dAnd (dCmp cIsNot (dVar 2) (dConst .non)) (dNot (dTest (dIsi "tuple" (dVar 2))))) (dB hStr (dCons (dVar 2) dNil))))
    (sSeq (sIf (dAnd (dCmp cEq (dOp2 oIx (dVar 0) (dConst (.int 0))) (dConst (.str "bring"))) (dTest (dIsi "tuple" (dOp2 oIx (dVar 0) (dConst (.int 2))))))
    (sSeq (sUnp (true, [("event", 3), ("answer", 4)]) (dOp2 oIx (dVar 0) (dConst (.int 2))))
    (sMut "list" hExtend (dVar 1) (dCons (dOp2 oAdd (dLst (dCons (dVar 3) dNil)) (dFrz (fLc (false, [("part", 2)]) (List.map (fun x : Str × Nat => x.2) [("part", 2)]) (dSrc (dVar 4)) (dCmp cIsNot (dVar 2) (dConst .non)) (dB hStr (dCons (dVar 2) dNil))))) dNil)))
    sNext)
    (sRet (dVar 1))))
def sem_words_of : Sem := semOf 1 5 m_words_of
def m_text_of : DS :=
  (sRet (dMth "str" "str" hJoin hJoin (dConst (.str " ")) (dCons (dCall 1 sem_words_of (dCons (dVar 0) dNil)) dNil)))
def sem_text_of : Sem := semOf 1 1 m_text_of
def m_card_text : DS :=
  (sSeq (sExpr (dCall 1 sem_need_card (dCons (dVar 0) dNil)))
    (sRet (dCall 1 sem_text_of (dCons (dVar 0) dNil))))
def sem_card_text : Sem := semOf 1 1 m_card_text
def m_is_note : DS :=
  (sSeq (sIf (dOr (dNot (dTest (dIsi "tuple" (dVar 0)))) (dOr (dCmp (cOrd pLt) (dB hLen (dCons (dVar 0) dNil)) (dConst (.int 2))) (dOr (dNot (dTest (dIsi "str" (dOp2 oIx (dVar 0) (dConst (.int 0)))))) (dCmp cNotIn (dOp2 oIx (dVar 0) (dConst (.int 0))) (dConst c_WORDS)))))
    (sRet (dConst (.bl false)))
    sNext)
    (sSeq (sIf (dNot (dTest (dCall 3 sem_is_whole (dCons (dOp2 oIx (dVar 0) (dConst (.int 1))) (dCons (dConst (.int 0)) (dCons (dIf (dCmp cIn (dOp2 oIx (dVar 0) (dConst (.int 0))) (dConst c_SEATED)) (dOp2 oSub (dConst c_SEATS) (dConst (.int 1))) (dConst (.int 9999))) dNil))))))
    (sRet (dConst (.bl false)))
    sNext)
    (sSeq (sIf (dCmp cIn (dOp2 oIx (dVar 0) (dConst (.int 0))) (dTup (dCons (dConst (.str "hurt")) (dCons (dConst (.str "mended")) dNil))))
    (sRet (dAndV (dBl (dCmp cEq (dB hLen (dCons (dVar 0) dNil)) (dConst (.int 3)))) (dCall 3 sem_is_whole (dCons (dOp2 oIx (dVar 0) (dConst (.int 2))) (dCons (dConst (.int 0)) (dCons (dConst c_LIFE) dNil))))))
    sNext)
    (sRet (dBl (dCmp cEq (dB hLen (dCons (dVar 0) dNil)) (dConst (.int 2))))))))
def sem_is_note : Sem := semOf 1 1 m_is_note
def m_need_notes : DS :=
  (sIf (dOr (dNot (dTest (dIsi "list" (dVar 0)))) (dNot (dTest (dB hAll (dCons (dFrz (fLc (false, [("note", 1)]) (List.map (fun x : Str × Nat => x.2) [("note", 1)]) (dSrc (dVar 0)) dYes (dCall 1 sem_is_note (dCons (dVar 1) dNil)))) dNil)))))
    (sRaise "NoTold")
    sNext)
def sem_need_notes : Sem := semOf 1 2 m_need_notes
def m_counted : DS :=
  (sSeq (sExpr (dCall 1 sem_need_notes (dCons (dVar 0) dNil)))
    (sSeq (sSet 1 (dFrz (fLc (false, [("note", 2)]) (List.map (fun x : Str × Nat => x.2) [("note", 2)]) (dSrc (dVar 0)) dYes (dOp2 oIx (dVar 2) (dConst (.int 0))))))
    (sRetF (fLc (false, [("word", 3)]) (List.map (fun x : Str × Nat => x.2) [("word", 3)]) (dSrc dStuck) dYes (dTup (dCons (dVar 3) (dCons (dMth "list" "list" hCount hCount (dVar 1) (dCons (dVar 3) dNil)) dNil)))))))
def sem_counted : Sem := semOf 1 4 m_counted
def m_dealt : DS :=
  (sSeq (sIf (dNot (dTest (dCall 3 sem_is_whole (dCons (dVar 1) (dCons (dConst (.int 2)) (dCons (dConst c_SEATS) dNil))))))
    (sRaise "NoCount")
    sNext)
    (sSeq (sIf (dOr (dNot (dTest (dIsi "list" (dVar 0)))) (dNot (dTest (dB hAll (dCons (dFrz (fLc (false, [("card", 3)]) (List.map (fun x : Str × Nat => x.2) [("card", 3)]) (dSrc (dVar 0)) dYes (dCall 2 sem_is_card (dCons (dVar 3) (dCons (dVar 1) dNil))))) dNil)))))
    (sRaise "NoCard")
    sNext)
    (sSeq (sIf (dCmp (cOrd pGt) (dB hLen (dCons (dVar 0) dNil)) (dOp2 oMul (dConst c_HAND) (dVar 1)))
    (sRaise "TooMany")
    sNext)
    (sRet (dB hTuple (dCons (dFrz (fLc (false, [("seat", 2)]) (List.map (fun x : Str × Nat => x.2) [("seat", 2)]) (dRng rng1Of (dCons (dVar 1) dNil)) dYes (dB hTuple (dCons dStuck dNil)))) dNil))))))
def sem_dealt : Sem := semOf 2 4 m_dealt
def m_endless : DS :=
  (sSeq (sIf (dTest (dMeth "Table" "is_over" 1 sem_Table_is_over (dVar 0) dNil))
    (sRaise "Over")
    sNext)
    (sRet (dOp2 oIx (dCall 1 sem_run_down (dCons (dCall 1 sem_woken (dCons (dMeth "Table" "saved" 1 sem_Table_saved (dVar 0) dNil) dNil)) dNil)) (dConst (.int 1)))))
def sem_endless : Sem := semOf 1 1 m_endless
def m_need_hand : DS :=
  (sIf (dOr (dNot (dTest (dIsi "tuple" (dVar 0)))) (dOr (dCmp (cOrd pGt) (dB hLen (dCons (dVar 0) dNil)) (dConst c_HAND)) (dNot (dTest (dB hAll (dCons (dFrz (fLc (false, [("card", 1)]) (List.map (fun x : Str × Nat => x.2) [("card", 1)]) (dSrc (dVar 0)) dYes (dCall 2 sem_is_card (dCons (dVar 1) (dCons (dConst c_SEATS) dNil))))) dNil))))))
    (sRaise "NoCard")
    sNext)
def sem_need_hand : Sem := semOf 1 2 m_need_hand
def m_gathered : DS :=
  (sSeq (sIf (dOr (dNot (dTest (dIsi "tuple" (dVar 0)))) (dNot (dChain (cOrd pLe) (cOrd pLe) (dConst (.int 2)) (dB hLen (dCons (dVar 0) dNil)) (dConst c_SEATS))))
    (sRaise "NoCard")
    sNext)
    (sSeq (sFor (false, [("hand", 1)]) (dSrc (dVar 0))
    (sExpr (dCall 1 sem_need_hand (dCons (dVar 1) dNil))))
    (sSeq (sSetF 2 (fDisp dNil))
    (sSeq (sFor (false, [("turn", 3)]) (dRng rng1Of (dCons (dConst c_HAND) dNil))
    (sMut "list" hExtend (dVar 2) (dCons (dFrz (fLc (false, [("hand", 1)]) (List.map (fun x : Str × Nat => x.2) [("hand", 1)]) (dSrc (dVar 0)) (dCmp (cOrd pGt) (dB hLen (dCons (dVar 1) dNil)) (dVar 3)) (dOp2 oIx (dVar 1) (dVar 3)))) dNil)))
    (sRet (dVar 2))))))
def sem_gathered : Sem := semOf 1 4 m_gathered
def m_hands_text : DS :=
  (sSeq (sIf (dOr (dNot (dTest (dIsi "tuple" (dVar 0)))) (dOr (dNot (dChain (cOrd pLe) (cOrd pLe) (dConst (.int 2)) (dB hLen (dCons (dVar 0) dNil)) (dConst c_SEATS))) (dNot (dTest (dCall 2 sem_are_hands (dCons (dVar 0) (dCons (dB hLen (dCons (dVar 0) dNil)) dNil)))))))
    (sRaise "NoCard")
    sNext)
    (sRet (dMth "str" "str" hJoin hJoin (dConst (.str "")) (dCons (dFrz (fLc (false, [("hand", 1)]) (List.map (fun x : Str × Nat => x.2) [("hand", 1)]) (dSrc (dVar 0)) dYes (dOp2 oAdd (dMth "str" "str" hJoin hJoin (dConst (.str "; ")) (dCons (dFrz (fLc (false, [("card", 2)]) (List.map (fun x : Str × Nat => x.2) [("card", 2)]) (dSrc (dVar 1)) dYes (dCall 1 sem_text_of (dCons (dVar 2) dNil)))) dNil)) (dConst (.str "\n"))))) dNil))))
def sem_hands_text : Sem := semOf 1 3 m_hands_text
def m_Table_units : DS :=
  (sSeq (sSetF 1 (fDisp dNil))
    (sSeq (sFor (false, [("number", 2)]) (dSrc (dFrz (fB hSortI (dCons (dFrz (fB hList (dCons (dAttr "Floor" "men" (dAttr "Table" "floor" (dVar 0))) dNil))) dNil))))
    (sSeq (sSet 3 (dOp2 oIx (dAttr "Floor" "men" (dAttr "Table" "floor" (dVar 0))) (dVar 2)))
    (sMut "list" hAppend (dVar 1) (dCons (dTup (dCons (dVar 2) (dCons (dOp2 oIx (dVar 3) (dConst (.str "owner"))) (dCons (dMeth "Floor" "power" 2 sem_Floor_power (dAttr "Table" "floor" (dVar 0)) (dCons (dVar 2) dNil)) (dCons (dOp2 oIx (dVar 3) (dConst (.str "harm"))) dNil))))) dNil))))
    (sRet (dVar 1))))
def sem_Table_units : Sem := semOf 1 4 m_Table_units
def m_harm_left : DS :=
  (sRetF (fB hSortI (dCons (dFrz (fLc (true, [("number", 1), ("owner", 2), ("power", 3), ("harm", 4)]) (List.map (fun x : Str × Nat => x.2) [("number", 1), ("owner", 2), ("power", 3), ("harm", 4)]) (dSrc (dMeth "Table" "units" 1 sem_Table_units (dVar 0) dNil)) dYes (dTup (dCons (dOp2 oSub (dVar 3) (dVar 4)) (dCons (dVar 1) dNil))))) dNil)))
def sem_harm_left : Sem := semOf 1 5 m_harm_left
def m_Table_hand : DS :=
  (sSeq (sExpr (dMeth "Table" "need_seat" 2 sem_Table_need_seat (dVar 0) (dCons (dVar 1) dNil)))
    (sRet (dB hTuple (dCons (dOp2 oIx (dAttr "Table" "hands" (dVar 0)) (dVar 1)) dNil))))
def sem_Table_hand : Sem := semOf 2 2 m_Table_hand
def m_has_all : DS :=
  (sSeq (sExpr (dMeth "Table" "need_seat" 2 sem_Table_need_seat (dVar 0) (dCons (dVar 1) dNil)))
    (sSeq (sSet 2 (dFrz (fLc (false, [("row", 4)]) (List.map (fun x : Str × Nat => x.2) [("row", 4)]) (dSrc (dMeth "Table" "units" 1 sem_Table_units (dVar 0) dNil)) (dCmp cEq (dOp2 oIx (dVar 4) (dConst (.int 1))) (dVar 1)) (dVar 4))))
    (sSeq (sSet 3 (dFrz (fLc (false, [("row", 4)]) (List.map (fun x : Str × Nat => x.2) [("row", 4)]) (dSrc (dMeth "Table" "pile" 1 sem_Table_pile (dVar 0) dNil)) (dCmp cEq (dOp2 oIx (dVar 4) (dConst (.int 1))) (dVar 1)) (dVar 4))))
    (sRet (dTup (dCons (dB hLen (dCons (dMeth "Table" "hand" 2 sem_Table_hand (dVar 0) (dCons (dVar 1) dNil)) dNil)) (dCons (dB hLen (dCons (dVar 3) dNil)) (dCons (dB hLen (dCons (dVar 2) dNil)) (dCons (dB hSum (dCons (dFrz (fLc (false, [("row", 4)]) (List.map (fun x : Str × Nat => x.2) [("row", 4)]) (dSrc (dVar 2)) dYes (dOp2 oIx (dVar 4) (dConst (.int 2))))) dNil)) dNil)))))))))
def sem_has_all : Sem := semOf 2 5 m_has_all
def m_lives_by : DS :=
  (sSeq (sIf (dOr (dNot (dTest (dIsi "tuple" (dVar 0)))) (dNot (dChain (cOrd pLe) (cOrd pLe) (dConst (.int 2)) (dB hLen (dCons (dVar 0) dNil)) (dConst c_SEATS))))
    (sRaise "NoTable")
    sNext)
    (sSeq (sIf (dNot (dTest (dB hAll (dCons (dFrz (fLc (false, [("life", 4)]) (List.map (fun x : Str × Nat => x.2) [("life", 4)]) (dSrc (dVar 0)) dYes (dCall 3 sem_is_whole (dCons (dVar 4) (dCons (dConst (.int 0)) (dCons (dConst c_LIFE) dNil)))))) dNil))))
    (sRaise "NoTable")
    sNext)
    (sSeq (sExpr (dCall 1 sem_need_notes (dCons (dVar 1) dNil)))
    (sSeq (sSetF 2 (fB hList (dCons (dVar 0) dNil)))
    (sSeq (sFor (false, [("note", 3)]) (dSrc (dVar 1))
    (sIf (dCmp cIn (dOp2 oIx (dVar 3) (dConst (.int 0))) (dTup (dCons (dConst (.str "hurt")) (dCons (dConst (.str "mended")) dNil))))
    (sSeq (sIf (dCmp (cOrd pGe) (dOp2 oIx (dVar 3) (dConst (.int 1))) (dB hLen (dCons (dVar 2) dNil)))
    (sRaise "NoTold")
    sNext)
    (sPutIx (dVar 2) (dOp2 oIx (dVar 3) (dConst (.int 1))) (dOp2 oIx (dVar 3) (dConst (.int 2)))))
    sNext))
    (sRet (dB hTuple (dCons (dVar 2) dNil))))))))
def sem_lives_by : Sem := semOf 2 5 m_lives_by
def m_of_word : DS :=
  (sSeq (sExpr (dCall 1 sem_need_notes (dCons (dVar 0) dNil)))
    (sSeq (sIf (dOr (dNot (dTest (dIsi "str" (dVar 1)))) (dCmp cNotIn (dVar 1) (dConst c_WORDS)))
    (sRaise "NoTold")
    sNext)
    (sRetF (fLc (false, [("note", 2)]) (List.map (fun x : Str × Nat => x.2) [("note", 2)]) (dSrc (dVar 0)) (dCmp cEq (dOp2 oIx (dVar 2) (dConst (.int 0))) (dVar 1)) (dVar 2)))))
def sem_of_word : Sem := semOf 2 3 m_of_word
def m_parted : DS :=
  (sSeq (sExpr (dCall 1 sem_need_notes (dCons (dVar 0) dNil)))
    (sSeq (sSetF 1 (fDisp dNil))
    (sSeq (sFor (false, [("note", 2)]) (dSrc (dVar 0))
    (sSeq (sIf (dOr (dCmp cEq (dVar 1) (dLst dNil)) (dCmp cIn (dOp2 oIx (dVar 2) (dConst (.int 0))) (dConst c_BEGINS)))
    (sMut "list" hAppend (dVar 1) (dCons (dLst dNil) dNil))
    sNext)
    (sMut "list" hAppend (dOp2 oIx (dVar 1) (dNeg (dConst (.int 1)))) (dCons (dVar 2) dNil))))
    (sRet (dVar 1)))))
def sem_parted : Sem := semOf 1 3 m_parted
def m_read_card : DS :=
  (sSeq (sIf (dNot (dTest (dIsi "str" (dVar 0))))
    (sRaise "NoText")
    sNext)
    (sSeq (sSet 1 (dCall 1 sem_card_in (dCons (dVar 0) dNil)))
    (sSeq (sIf (dOr (dNot (dTest (dCall 2 sem_is_card (dCons (dVar 1) (dCons (dConst c_SEATS) dNil))))) (dCmp cNe (dCall 1 sem_text_of (dCons (dVar 1) dNil)) (dVar 0)))
    (sRaise "NoText")
    sNext)
    (sRet (dVar 1)))))
def sem_read_card : Sem := semOf 1 2 m_read_card
def m_read_hands : DS :=
  (sSeq (sIf (dNot (dTest (dIsi "str" (dVar 0))))
    (sRaise "NoText")
    sNext)
    (sSeq (sSet 1 (dMth "str" "str" hSplit hSplit (dVar 0) (dCons (dConst (.str "\n")) dNil)))
    (sSeq (sIf (dOr (dNot (dChain (cOrd pLe) (cOrd pLe) (dConst (.int 3)) (dB hLen (dCons (dVar 1) dNil)) (dOp2 oAdd (dConst c_SEATS) (dConst (.int 1))))) (dCmp cNe (dOp2 oIx (dVar 1) (dNeg (dConst (.int 1)))) (dConst (.str ""))))
    (sRaise "NoText")
    sNext)
    (sSeq (sSetF 2 (fDisp dNil))
    (sSeq (sFor (false, [("line", 3)]) (dSrc (dSl (dVar 1) dNoPart (dPart (dNeg (dConst (.int 1))))))
    (sMut "list" hAppend (dVar 2) (dCons (dIf (dCmp cNe (dVar 3) (dConst (.str ""))) (dB hTuple (dCons (dFrz (fLc (false, [("part", 4)]) (List.map (fun x : Str × Nat => x.2) [("part", 4)]) (dSrc (dMth "str" "str" hSplit hSplit (dVar 3) (dCons (dConst (.str "; ")) dNil))) dYes (dCall 1 sem_read_card (dCons (dVar 4) dNil)))) dNil)) (dTup dNil)) dNil)))
    (sSeq (sIf (dNot (dTest (dCall 2 sem_are_hands (dCons (dB hTuple (dCons (dVar 2) dNil)) (dCons (dB hLen (dCons (dVar 2) dNil)) dNil)))))
    (sRaise "NoText")
    sNext)
    (sRet (dB hTuple (dCons (dVar 2) dNil)))))))))
def sem_read_hands : Sem := semOf 1 5 m_read_hands
def m_run : DS :=
  (sSeq (sSet 3 (dMake "Table" 2 sem_Table___init__ (dCons (dVar 0) (dCons (dVar 1) dNil))))
    (sSeq (sIf (dOr (dNot (dTest (dIsi "list" (dVar 2)))) (dNot (dTest (dB hAll (dCons (dFrz (fLc (false, [("deed", 4)]) (List.map (fun x : Str × Nat => x.2) [("deed", 4)]) (dSrc (dVar 2)) dYes (dCall 1 sem_is_deed (dCons (dVar 4) dNil)))) dNil)))))
    (sRaise "NoDeed")
    sNext)
    (sRet (dTup (dCons (dVar 3) (dCons (dFrz (fLc (false, [("deed", 4)]) (List.map (fun x : Str × Nat => x.2) [("deed", 4)]) (dSrc (dVar 2)) dYes (dCall 2 sem_do (dCons (dVar 3) (dCons (dVar 4) dNil))))) dNil))))))
def sem_run : Sem := semOf 3 5 m_run
def m_sorted_hand : DS :=
  (sSeq (sExpr (dCall 1 sem_need_hand (dCons (dVar 0) dNil)))
    (sRet (dB hTuple (dCons (dFrz (fLc (true, [("text", 1), ("number", 2), ("card", 3)]) (List.map (fun x : Str × Nat => x.2) [("text", 1), ("number", 2), ("card", 3)]) (dSrc (dFrz (fB hSortI (dCons (dFrz (fLc (true, [("k", 4), ("card", 3)]) (List.map (fun x : Str × Nat => x.2) [("k", 4), ("card", 3)]) (dSrcs enmOf (dCons (dVar 0) dNil)) dYes (dTup (dCons (dCall 1 sem_text_of (dCons (dVar 3) dNil)) (dCons (dVar 4) (dCons (dVar 3) dNil)))))) dNil)))) dYes (dVar 3))) dNil))))
def sem_sorted_hand : Sem := semOf 1 5 m_sorted_hand
def m_still_there : DS :=
  (sSeq (sExpr (dCall 1 sem_need_notes (dCons (dVar 0) dNil)))
    (sSeq (sSet 1 (dFrz (fLc (false, [("note", 2)]) (List.map (fun x : Str × Nat => x.2) [("note", 2)]) (dSrc (dVar 0)) (dCmp cEq (dOp2 oIx (dVar 2) (dConst (.int 0))) (dConst (.str "goes"))) (dOp2 oIx (dVar 2) (dConst (.int 1))))))
    (sRetF dStuck)))
def sem_still_there : Sem := semOf 1 3 m_still_there
def m_strongest : DS :=
  (sSeq (sSet 1 (dMeth "Table" "units" 1 sem_Table_units (dVar 0) dNil))
    (sSeq (sSet 2 (dB hMax (dCons (dOp2 oAdd (dFrz (fLc (false, [("row", 3)]) (List.map (fun x : Str × Nat => x.2) [("row", 3)]) (dSrc (dVar 1)) dYes (dOp2 oIx (dVar 3) (dConst (.int 2))))) (dLst (dCons (dConst (.int 0)) dNil))) dNil)))
    (sRetF (fLc (false, [("row", 3)]) (List.map (fun x : Str × Nat => x.2) [("row", 3)]) (dSrc (dVar 1)) (dCmp cEq (dOp2 oIx (dVar 3) (dConst (.int 2))) (dVar 2)) (dOp2 oIx (dVar 3) (dConst (.int 0)))))))
def sem_strongest : Sem := semOf 1 4 m_strongest
def m_tried : DS :=
  (sSeq (sExpr (dCall 1 sem_need_deeds (dCons (dVar 1) dNil)))
    (sSeq (sSet 2 (dCall 1 sem_woken (dCons (dMeth "Table" "saved" 1 sem_Table_saved (dVar 0) dNil) dNil)))
    (sRetF (fLc (false, [("deed", 3)]) (List.map (fun x : Str × Nat => x.2) [("deed", 3)]) (dSrc (dVar 1)) dYes (dCall 2 sem_do (dCons (dVar 2) (dCons (dVar 3) dNil)))))))
def sem_tried : Sem := semOf 2 4 m_tried
def m_Table_life : DS :=
  (sSeq (sExpr (dMeth "Table" "need_seat" 2 sem_Table_need_seat (dVar 0) (dCons (dVar 1) dNil)))
    (sRet (dOp2 oIx (dAttr "Table" "lives" (dVar 0)) (dVar 1))))
def sem_Table_life : Sem := semOf 2 2 m_Table_life
def m_weakest_seats : DS :=
  (sSeq (sSet 1 (dMeth "Table" "alive" 1 sem_Table_alive (dVar 0) dNil))
    (sSeq (sSet 2 (dB hMin (dCons (dOp2 oAdd (dFrz (fLc (false, [("seat", 3)]) (List.map (fun x : Str × Nat => x.2) [("seat", 3)]) (dSrc (dVar 1)) dYes (dMeth "Table" "life" 2 sem_Table_life (dVar 0) (dCons (dVar 3) dNil)))) (dLst (dCons (dConst (.int 99)) dNil))) dNil)))
    (sRetF (fLc (false, [("seat", 3)]) (List.map (fun x : Str × Nat => x.2) [("seat", 3)]) (dSrc (dVar 1)) (dCmp cEq (dMeth "Table" "life" 2 sem_Table_life (dVar 0) (dCons (dVar 3) dNil)) (dVar 2)) (dVar 3)))))
def sem_weakest_seats : Sem := semOf 1 4 m_weakest_seats
def m_with_card : DS :=
  (sSeq (sExpr (dCall 1 sem_need_hand (dCons (dVar 0) dNil)))
    (sSeq (sExpr (dCall 1 sem_need_card (dCons (dVar 1) dNil)))
    (sSeq (sIf (dCmp cEq (dB hLen (dCons (dVar 0) dNil)) (dConst c_HAND))
    (sRaise "Full")
    sNext)
    (sRet (dOp2 oAdd (dVar 0) (dTup (dCons (dVar 1) dNil)))))))
def sem_with_card : Sem := semOf 2 2 m_with_card
def m_without_card : DS :=
  (sSeq (sExpr (dCall 1 sem_need_hand (dCons (dVar 0) dNil)))
    (sSeq (sIf (dNot (dTest (dCall 3 sem_is_whole (dCons (dVar 1) (dCons (dConst (.int 0)) (dCons (dOp2 oSub (dB hLen (dCons (dVar 0) dNil)) (dConst (.int 1))) dNil))))))
    (sRaise "NoCount")
    sNext)
    (sRet (dOp2 oAdd (dSl (dVar 0) dNoPart (dPart (dVar 1))) (dSl (dVar 0) (dPart (dOp2 oAdd (dVar 1) (dConst (.int 1)))) dNoPart)))))
def sem_without_card : Sem := semOf 2 2 m_without_card
def m_words_in : DS :=
  (sSeq (sExpr (dCall 1 sem_need_hand (dCons (dVar 0) dNil)))
    (sSeq (sSet 1 (dFrz (fLc (false, [("card", 2)]) (List.map (fun x : Str × Nat => x.2) [("card", 2)]) (dSrc (dVar 0)) dYes (dOp2 oIx (dVar 2) (dConst (.int 0))))))
    (sRetF (fLc (false, [("word", 3)]) (List.map (fun x : Str × Nat => x.2) [("word", 3)]) (dSrc dStuck) dYes (dTup (dCons (dVar 3) (dCons (dMth "list" "list" hCount hCount (dVar 1) (dCons (dVar 3) dNil)) dNil)))))))
def sem_words_in : Sem := semOf 1 4 m_words_in
def m_Table_unit : DS :=
  (sSeq (sIf (dOr (dNot (dTest (dCall 3 sem_is_whole (dCons (dVar 1) (dCons (dConst (.int 0)) (dCons (dAttr "Floor" "coming" (dAttr "Table" "floor" (dVar 0))) dNil)))))) (dCmp cNotIn (dVar 1) (dAttr "Floor" "men" (dAttr "Table" "floor" (dVar 0)))))
    (sRaise "NoUnit")
    sNext)
    (sSeq (sSet 2 (dOp2 oIx (dAttr "Floor" "men" (dAttr "Table" "floor" (dVar 0))) (dVar 1)))
    (sRet (dTup (dCons (dOp2 oIx (dVar 2) (dConst (.str "owner"))) (dCons (dOp2 oIx (dVar 2) (dConst (.str "size"))) (dCons (dOp2 oIx (dVar 2) (dConst (.str "when"))) dNil)))))))
def sem_Table_unit : Sem := semOf 2 3 m_Table_unit
def m_Table_now : DS :=
  (sSeq (sIf (dTest (dMeth "Table" "is_over" 1 sem_Table_is_over (dVar 0) dNil))
    (sRet (dConst .non))
    sNext)
    (sRet (dTup (dCons (dAttr "Table" "turner" (dVar 0)) (dCons (dAttr "Table" "asked" (dVar 0)) (dCons (dAttr "Table" "passes" (dVar 0)) dNil))))))
def sem_Table_now : Sem := semOf 1 1 m_Table_now
def m_Table_winner : DS :=
  (sSeq (sIf (dCmp cNe (dB hLen (dCons (dMeth "Table" "alive" 1 sem_Table_alive (dVar 0) dNil) dNil)) (dConst (.int 1)))
    (sRet (dConst .non))
    sNext)
    (sRet (dOp2 oIx (dMeth "Table" "alive" 1 sem_Table_alive (dVar 0) dNil) (dConst (.int 0)))))
def sem_Table_winner : Sem := semOf 1 1 m_Table_winner
def m_Past___init__ : DS :=
  (sSeq (sFldD "Past" "here" (dVar 0) (dMake "Table" 2 sem_Table___init__ (dCons (dVar 1) (dCons (dVar 2) dNil))))
    (sSeq (sFldD "Past" "done" (dVar 0) (dCell (fDisp dNil)))
    (sFldD "Past" "later" (dVar 0) (dCell (fDisp dNil)))))
def sem_Past___init__ : Sem := semOf 3 3 m_Past___init__
def m_Past_kept : DS :=
  (sSeq (sMut "list" hAppend (dAttr "Past" "done" (dVar 0)) (dCons (dTup (dCons (dVar 1) (dCons (dVar 2) (dCons (dVar 3) dNil)))) dNil))
    (sFldD "Past" "later" (dVar 0) (dCell (fDisp dNil))))
def sem_Past_kept : Sem := semOf 4 4 m_Past_kept
def m_Past_play : DS :=
  (sSeq (sSet 3 (dMeth "Table" "saved" 1 sem_Table_saved (dAttr "Past" "here" (dVar 0)) dNil))
    (sSeq (sSet 4 (dMeth "Table" "play" 3 sem_Table_play (dAttr "Past" "here" (dVar 0)) (dCons (dVar 1) (dCons (dVar 2) dNil))))
    (sSeq (sExpr (dMeth "Past" "kept" 4 sem_Past_kept (dVar 0) (dCons (dTup (dCons (dConst (.str "play")) (dCons (dVar 1) (dCons (dVar 2) dNil)))) (dCons (dVar 4) (dCons (dVar 3) dNil)))))
    (sRet (dVar 4)))))
def sem_Past_play : Sem := semOf 3 5 m_Past_play
def m_Past_go_by : DS :=
  (sSeq (sSet 2 (dMeth "Table" "saved" 1 sem_Table_saved (dAttr "Past" "here" (dVar 0)) dNil))
    (sSeq (sSet 3 (dMeth "Table" "go_by" 2 sem_Table_go_by (dAttr "Past" "here" (dVar 0)) (dCons (dVar 1) dNil)))
    (sSeq (sExpr (dMeth "Past" "kept" 4 sem_Past_kept (dVar 0) (dCons (dTup (dCons (dConst (.str "pass")) (dCons (dVar 1) dNil))) (dCons (dB hTuple (dCons (dVar 3) dNil)) (dCons (dVar 2) dNil)))))
    (sRet (dVar 3)))))
def sem_Past_go_by : Sem := semOf 2 4 m_Past_go_by
def m_Past_undo : DS :=
  (sSeq (sIf (dCmp cEq (dAttr "Past" "done" (dVar 0)) (dLst dNil))
    (sRaise "NoStep")
    sNext)
    (sSeq (sUnp (true, [("deed", 1), ("told", 2), ("before", 3)]) (dMth "list" "list" hPop hPop (dAttr "Past" "done" (dVar 0)) dNil))
    (sSeq (sMut "list" hAppend (dAttr "Past" "later" (dVar 0)) (dCons (dTup (dCons (dVar 1) (dCons (dVar 2) (dCons (dMeth "Table" "saved" 1 sem_Table_saved (dAttr "Past" "here" (dVar 0)) dNil) dNil)))) dNil))
    (sFldD "Past" "here" (dVar 0) (dCall 1 sem_woken (dCons (dVar 3) dNil))))))
def sem_Past_undo : Sem := semOf 1 4 m_Past_undo
def m_Past_redo : DS :=
  (sSeq (sIf (dCmp cEq (dAttr "Past" "later" (dVar 0)) (dLst dNil))
    (sRaise "NoStep")
    sNext)
    (sSeq (sUnp (true, [("deed", 1), ("told", 2), ("behind", 3)]) (dMth "list" "list" hPop hPop (dAttr "Past" "later" (dVar 0)) dNil))
    (sSeq (sMut "list" hAppend (dAttr "Past" "done" (dVar 0)) (dCons (dTup (dCons (dVar 1) (dCons (dVar 2) (dCons (dMeth "Table" "saved" 1 sem_Table_saved (dAttr "Past" "here" (dVar 0)) dNil) dNil)))) dNil))
    (sFldD "Past" "here" (dVar 0) (dCall 1 sem_woken (dCons (dVar 3) dNil))))))
def sem_Past_redo : Sem := semOf 1 4 m_Past_redo
def m_Past_table : DS :=
  (sRet (dCall 1 sem_woken (dCons (dMeth "Table" "saved" 1 sem_Table_saved (dAttr "Past" "here" (dVar 0)) dNil) dNil)))
def sem_Past_table : Sem := semOf 1 1 m_Past_table
def m_Past_deeds : DS :=
  (sRetF (fLc (true, [("deed", 1), ("told", 2), ("before", 3)]) (List.map (fun x : Str × Nat => x.2) [("deed", 1), ("told", 2), ("before", 3)]) (dSrc (dAttr "Past" "done" (dVar 0))) dYes (dVar 1)))
def sem_Past_deeds : Sem := semOf 1 4 m_Past_deeds
def m_Past_all_told : DS :=
  (sSeq (sSetF 1 (fDisp dNil))
    (sSeq (sFor (true, [("deed", 2), ("told", 3), ("before", 4)]) (dSrc (dAttr "Past" "done" (dVar 0)))
    (sIf (dCmp cEq (dOp2 oIx (dVar 2) (dConst (.int 0))) (dConst (.str "pass")))
    (sMut "list" hExtend (dVar 1) (dCons (dVar 3) dNil))
    sNext))
    (sRet (dVar 1))))
def sem_Past_all_told : Sem := semOf 1 5 m_Past_all_told
end PR


end
section
set_option Elab.async false
set_option linter.all false
set_option maxRecDepth 100000
set_option autoImplicit false
namespace TB
open PySem DM PR
variable {S : Sto} {A : Ro → Nat} {T : Tb} {δ : List Sl}
theorem whole_eq {x lo hi : Int} : sem_is_whole [.int x, .int lo, .int hi] S = .ok (.val (.bl (decide (lo ≤ x) && decide (x ≤ hi)))) S := by
  refine eq_of_wp ?_
  unfold sem_is_whole
  rw [wp_sem]
  refine ⟨rfl, ?_⟩
  unfold m_is_whole
  walk_at "tw"
  refine wif_split (fun h => ?_) (fun h => ?_)
  · rw [show decide (lo ≤ x) = true from h]; exact ⟨rfl, rfl⟩
  · rw [show decide (lo ≤ x) = false from h]; exact ⟨rfl, rfl⟩
theorem wp_whole {x lo hi : Int} {Q : RV → Sto → Prop} {E : Str → Sto → Prop} : ((@DM.wpK _ (sem_is_whole [.int x, .int lo, .int hi] S) ⟨Q, E⟩)) = Q (.val (.bl (decide (lo ≤ x) && decide (x ≤ hi)))) S := wp_of_eq whole_eq
theorem lives_at {s : Int} (h0 : 0 ≤ s) (h1 : s < T.n) : L2.atI (T.lives.map D.int) s = some (.int (T.life s)) := by
  rw [l_at h0 (by simpa [Tb.n] using h1)]
  have : s.toNat < T.lives.length := by unfold Tb.n at h1; omega
  simp [Tb.life, List.getD, this]
theorem alive_eq (h : Rep S A T) (h4 : T.n ≤ 4) : sem_Table_alive [.ref (A .obj)] S = .ok (.ol (T.alive.map .int)) S := by
  refine eq_of_wp ?_
  unfold sem_Table_alive
  rw [wp_sem]
  refine ⟨rfl, ?_⟩
  unfold m_Table_alive
  k_call_by "tw" ⟨h.at, l_len_ref h.clv, List.length_map, rng1_ok (okI_small (show T.lives.length ≤ 16777216 by unfold Tb.n at h4; omega))⟩
  refine ⟨rfl, wp_lcP T.seats D.int (fun s => decide (0 < T.life s)) D.int (fun i => ?_) ?_ ?_ (fun x hx => ⟨_, rfl, ?_, fun _ => ⟨?_, rfl⟩⟩) ?_⟩
  · rw [Int.toNat_natCast, src_rgn]; simp [Tb.seats, Tb.n, List.map_map]; rfl
  · show T.seats.length < T.lives.length + 1; simp [Tb.seats, Tb.n]
  · simp [Tb.seats]; omega
  · simp only [Tb.seats, List.mem_map, List.mem_range] at hx
    obtain ⟨k, hk, rfl⟩ := hx
    k_call_by "tw" ⟨wipeD, h.at, l_ix_ref h.clv, lives_at (T := T) (s := (k : Int)) (by omega) (by omega)⟩
  · k_call_by "tw" ⟨wipeD⟩
  · exact ⟨rfl, rfl⟩
theorem wp_alive (h : Rep S A T) (h4 : T.n ≤ 4) {Q : RV → Sto → Prop} {E : Str → Sto → Prop} : ((@DM.wpK _ (sem_Table_alive [.ref (A .obj)] S) ⟨Q, E⟩)) = Q (.ol (T.alive.map .int)) S := wp_of_eq (alive_eq h h4)
theorem over_eq (h : Rep S A T) (h4 : T.n ≤ 4) : sem_Table_is_over [.ref (A .obj)] S = .ok (.val (.bl T.isOver)) S := by
  refine eq_of_wp ?_
  unfold sem_Table_is_over
  rw [wp_sem]
  refine ⟨rfl, ?_⟩
  unfold m_Table_is_over
  k_call_by "tw" ⟨h.isT, wp_alive h h4, List.length_map⟩
  congr 2
  unfold Tb.isOver
  simp
  omega
theorem wp_over (h : Rep S A T) (h4 : T.n ≤ 4) {Q : RV → Sto → Prop} {E : Str → Sto → Prop} : ((@DM.wpK _ (sem_Table_is_over [.ref (A .obj)] S) ⟨Q, E⟩)) = Q (.val (.bl T.isOver)) S := wp_of_eq (over_eq h h4)
theorem mod_in {n : Nat} {s : Int} (h : 0 < n) : 0 ≤ s % (n : Int) ∧ s % (n : Int) < n := ⟨Int.emod_nonneg _ (by omega), Int.emod_lt_of_pos _ (by omega)⟩
theorem from_eq (h : Rep S A T) (h4 : T.n ≤ 4) (h0 : 0 < T.n) (s : Int) : sem_Table_seats_from [.ref (A .obj), .int s] S = .ok (.ol ((T.seatsFrom s).map .int)) S := by
  refine eq_of_wp ?_
  unfold sem_Table_seats_from
  rw [wp_sem]
  refine ⟨rfl, ?_⟩
  unfold m_Table_seats_from
  k_call_by "tw" ⟨h.at, l_len_ref h.clv, List.length_map, rng1_ok (okI_small (show T.lives.length ≤ 16777216 by unfold Tb.n at h4; omega))⟩
  have hm : (0 : Int) < (T.lives.length : Nat) := by unfold Tb.n at h0; omega
  refine ⟨rfl, wp_lcA (List.range T.n) (fun (k : Nat) => D.int (k : Int)) (fun (k : Nat) => D.int ((s + k) % (T.n : Int))) (fun i => ?_) ?_ ?_ (fun x hx => ⟨_, rfl, ?_, rfl⟩) ?_⟩
  · rw [Int.toNat_natCast, src_rgn]; rfl
  · show (List.range T.n).length < T.lives.length + 1; simp [Tb.n]
  · simp; omega
  · k_call_by "tw" ⟨wipeD, l_mod hm⟩
    rfl
  · have sq : srcOf S (.lst ((List.range T.n).map fun (k : Nat) => D.int ((s + k) % (T.n : Int)))) = some (.seq (.lst ((List.range T.n).map fun (k : Nat) => D.int ((s + k) % (T.n : Int))))) := rfl
    k_call_by "tw" ⟨wipeD, sq⟩
    refine ⟨rfl, wp_lcP ((List.range T.n).map fun (k : Nat) => (s + k) % (T.n : Int)) D.int (fun s => decide (0 < T.life s)) D.int (fun i => ?_) ?_ ?_ (fun x hx => ⟨_, rfl, ?_, fun _ => ⟨?_, rfl⟩⟩) ?_⟩
    · rw [src_seq (ds := (List.range T.n).map fun (k : Nat) => D.int ((s + k) % (T.n : Int))) rfl, List.map_map]; rfl
    · show ((List.range T.n).map fun (k : Nat) => (s + k) % (T.n : Int)).length < ((List.range T.n).map fun (k : Nat) => D.int ((s + k) % (T.n : Int))).length + 1; simp
    · simp; omega
    · simp only [List.mem_map, List.mem_range] at hx
      obtain ⟨k, hk, rfl⟩ := hx
      have := mod_in (s := s + k) h0
      k_call_by "tw" ⟨wipeD, h.at, l_ix_ref h.clv, lives_at this.1 this.2⟩
    · k_call_by "tw" ⟨wipeD⟩
    · exact ⟨rfl, rfl⟩
theorem wp_from (h : Rep S A T) (h4 : T.n ≤ 4) (h0 : 0 < T.n) {s : Int} {Q : RV → Sto → Prop} {E : Str → Sto → Prop} : ((@DM.wpK _ (sem_Table_seats_from [.ref (A .obj), .int s] S) ⟨Q, E⟩)) = Q (.ol ((T.seatsFrom s).map .int)) S := wp_of_eq (from_eq h h4 h0 s)
theorem l_add_lst {xs ys : List D} (hl : xs.length + ys.length ≤ 16777216) : oAdd δ S (.lst xs) (.lst ys) = some (.lst (xs ++ ys)) := by
  show (if xs.length + ys.length ≤ 16777216 then some (D.lst (xs ++ ys)) else none) = _
  rw [if_pos hl]
theorem from_len {s : Int} : (T.seatsFrom s).length ≤ T.n := by
  unfold Tb.seatsFrom
  refine Nat.le_trans (List.length_filter_le _ _) (by simp)
theorem behind_eq (h : Rep S A T) (h4 : T.n ≤ 4) (h0 : 0 < T.n) (s : Int) : sem_Table_behind [.ref (A .obj), .int s] S = .ok (.val (.int (T.behind s))) S := by
  refine eq_of_wp ?_
  unfold sem_Table_behind
  rw [wp_sem]
  refine ⟨rfl, ?_⟩
  unfold m_Table_behind
  have hl : ((T.seatsFrom (s + 1)).map D.int).length + [D.int s].length ≤ 16777216 := by
    have := from_len (T := T) (s := s + 1)
    simp only [List.length_map, List.length_cons, List.length_nil]; omega
  k_call_by "tw" ⟨h.isT, wp_from h h4 h0, l_add_lst hl⟩
  have e : (T.seatsFrom (s + 1)).map D.int ++ [D.int s] = .int (T.behind s) :: ((T.seatsFrom (s + 1) ++ [s]).map D.int).tail := by
    unfold Tb.behind
    cases T.seatsFrom (s + 1) <;> simp
  rw [e]
  walk_at "tw"
theorem wp_behind (h : Rep S A T) (h4 : T.n ≤ 4) (h0 : 0 < T.n) {s : Int} {Q : RV → Sto → Prop} {E : Str → Sto → Prop} : ((@DM.wpK _ (sem_Table_behind [.ref (A .obj), .int s] S) ⟨Q, E⟩)) = Q (.val (.int (T.behind s))) S := wp_of_eq (behind_eq h h4 h0 s)
theorem need_seat_eq (h : Rep S A T) {s : Int} (h0 : 0 ≤ s) (h1 : s < T.n) : sem_Table_need_seat [.ref (A .obj), .int s] S = .ok (.val .non) S := by
  refine eq_of_wp ?_
  unfold sem_Table_need_seat
  rw [wp_sem]
  refine ⟨rfl, ?_⟩
  unfold m_Table_need_seat
  have e1 : decide (0 ≤ s) = true := decide_eq_true h0
  have e2 : decide (s ≤ (T.lives.length : Int) - 1) = true := decide_eq_true (by unfold Tb.n at h1; omega)
  k_call_by "tw" ⟨h.at, l_len_ref h.clv, List.length_map, wp_whole, e1, e2⟩
theorem wp_need_seat (h : Rep S A T) {s : Int} (h0 : 0 ≤ s) (h1 : s < T.n) {Q : RV → Sto → Prop} {E : Str → Sto → Prop} : ((@DM.wpK _ (sem_Table_need_seat [.ref (A .obj), .int s] S) ⟨Q, E⟩)) = Q (.val .non) S := wp_of_eq (need_seat_eq h h0 h1)
theorem need_asked_eq (h : Rep S A T) (h4 : T.n ≤ 4) (ho : T.isOver = false) (h0 : 0 ≤ T.asked) (h1 : T.asked < T.n) : sem_Table_need_asked [.ref (A .obj), .int T.asked] S = .ok (.val .non) S := by
  refine eq_of_wp ?_
  unfold sem_Table_need_asked
  rw [wp_sem]
  refine ⟨rfl, ?_⟩
  unfold m_Table_need_asked
  k_call_by "tw" ⟨h.isT, wp_over h h4, ho, wp_need_seat h h0 h1, h.at⟩
theorem wp_need_asked (h : Rep S A T) (h4 : T.n ≤ 4) (ho : T.isOver = false) (h0 : 0 ≤ T.asked) (h1 : T.asked < T.n) {Q : RV → Sto → Prop} {E : Str → Sto → Prop} : ((@DM.wpK _ (sem_Table_need_asked [.ref (A .obj), .int T.asked] S) ⟨Q, E⟩)) = Q (.val .non) S := wp_of_eq (need_asked_eq h h4 ho h0 h1)
end TB


end
section
set_option Elab.async false
set_option linter.all false
set_option maxRecDepth 100000
set_option autoImplicit false
namespace TB
open PySem DM PR L2 PySem.Spec
/-! ### keys -/
section
variable {α β : Type}
def lookI (l : List (Int × α)) (k : Int) : Option (Int × α) := l.find? fun m => decide (m.1 = k)
theorem look_filter {l : List (Int × α)} {p : Int × α → Bool} (hp : l.Pairwise fun a b => a.1 ≠ b.1) (k : Int) : lookI (l.filter p) k = lookI l k ∨ lookI (l.filter p) k = none := by
  induction l with
  | nil => exact .inl rfl
  | cons a l ih =>
    obtain ⟨h1, h2⟩ := List.pairwise_cons.mp hp
    have ih := ih h2
    unfold lookI at ih ⊢
    by_cases hk : a.1 = k
    · have hn : (l.filter p).find? (fun m => decide (m.1 = k)) = none := by
        rw [List.find?_eq_none]
        intro b hb
        have := h1 b (List.mem_filter.mp hb).1
        simp only [decide_eq_true_eq]
        intro e; exact this (hk.trans e.symm)
      cases hpa : p a with
      | true => rw [List.filter_cons_of_pos hpa]; left; simp [hk]
      | false => rw [List.filter_cons_of_neg (by rw [hpa]; decide)]; exact .inr hn
    · cases hpa : p a with
      | true => rw [List.filter_cons_of_pos hpa]; simpa [hk] using ih
      | false => rw [List.filter_cons_of_neg (by rw [hpa]; decide)]; simpa [hk] using ih
theorem look_some {l : List (Int × α)} {k : Int} {x : Int × α} (h : lookI l k = some x) : x ∈ l ∧ x.1 = k := by
  have := List.find?_some h
  exact ⟨List.mem_of_find?_eq_some h, by simpa using this⟩
theorem look_none {l : List (Int × α)} {k : Int} : lookI l k = none ↔ ∀ x ∈ l, x.1 ≠ k := by
  unfold lookI
  rw [List.find?_eq_none]
  simp
theorem look_of {l : List (Int × α)} (hp : l.Pairwise fun a b => a.1 ≠ b.1) {x : Int × α} (hx : x ∈ l) : lookI l x.1 = some x := by
  induction l with
  | nil => cases hx
  | cons a l ih =>
    obtain ⟨h1, h2⟩ := List.pairwise_cons.mp hp
    unfold lookI
    rcases List.mem_cons.mp hx with rfl | hx
    · simp
    · have := h1 x hx
      rw [List.find?_cons_of_neg (by simpa using this)]
      exact ih h2 hx
theorem look_app {l : List (Int × α)} {x : Int × α} {k : Int} : lookI (l ++ [x]) k = (lookI l k).or (if x.1 = k then some x else none) := by
  unfold lookI
  rw [List.find?_append]
  congr 1
  by_cases h : x.1 = k <;> simp [h]
theorem valD_map {l : List (Int × α)} {f : Int × α → D} {k : Int} : valD (l.map fun m => ((Sum.inl m.1 : Key), f m)) (.inl k) = (lookI l k).map f := by
  unfold valD lookI
  induction l with
  | nil => rfl
  | cons a l ih =>
    by_cases h : a.1 = k
    · simp [h]
    · have : ¬ ((Sum.inl a.1 : Key) = Sum.inl k) := fun z => h (by cases z; rfl)
      simp only [List.map_cons]
      rw [List.find?_cons_of_neg (by simpa using h), List.find?_cons_of_neg (by simpa using this)]
      exact ih
theorem any_map {l : List (Int × α)} {f : Int × α → D} {k : Int} : ((l.map fun m => ((Sum.inl m.1 : Key), f m)).any fun kv => decide (kv.1 = .inl k)) = l.any fun m => decide (m.1 = k) := by
  induction l with
  | nil => rfl
  | cons a l ih =>
    rw [List.map_cons, List.any_cons, List.any_cons, ih]
    congr 1
    by_cases h : a.1 = k
    · simp [h]
    · have : ¬ ((Sum.inl a.1 : Key) = Sum.inl k) := fun z => h (by cases z; rfl)
      rw [decide_eq_false h, decide_eq_false this]
theorem any_look {l : List (Int × α)} {k : Int} : (l.any fun m => decide (m.1 = k)) = (lookI l k).isSome := by
  unfold lookI
  induction l with
  | nil => rfl
  | cons a l ih =>
    by_cases h : a.1 = k
    · simp [h]
    · rw [List.any_cons, decide_eq_false h, List.find?_cons_of_neg (by simpa using h), Bool.false_or]; exact ih
theorem putD_new {l : List (Int × α)} {f : Int × α → D} {k : Int} {d : D} (h : ∀ x ∈ l, x.1 ≠ k) : putD (l.map fun m => ((Sum.inl m.1 : Key), f m)) (.inl k) d = (l.map fun m => ((Sum.inl m.1 : Key), f m)) ++ [(.inl k, d)] := by
  unfold putD
  rw [any_map, if_neg]
  rw [List.any_eq_true]
  rintro ⟨x, hx, e⟩
  exact h x hx (by simpa using e)
theorem dropD_map {l : List (Int × α)} {f : Int × α → D} {k : Int} : dropD (l.map fun m => ((Sum.inl m.1 : Key), f m)) (.inl k) = (l.filter fun m => decide (m.1 ≠ k)).map fun m => ((Sum.inl m.1 : Key), f m) := by
  unfold dropD
  induction l with
  | nil => rfl
  | cons a l ih =>
    rw [List.map_cons]
    by_cases h : a.1 = k
    · rw [List.filter_cons_of_neg (by simp [h]), List.filter_cons_of_neg (by simp [h])]; exact ih
    · have : ¬ ((Sum.inl a.1 : Key) = Sum.inl k) := fun z => h (by cases z; rfl)
      rw [List.filter_cons_of_pos (by simpa using this), List.filter_cons_of_pos (by simpa using h), List.map_cons, ih]
end
def Cd.isStand : Cd → Bool
  | .stand _ _ _ => true
  | _ => false
/-- all that an invariant of a table's keys says -/
structure Ks (T : Tb) : Prop where
  menL : T.men.Pairwise fun a b => a.1 < b.1
  stayL : T.stays.Pairwise fun a b => a.1 < b.1
  stackL : T.stack.Pairwise fun a b => a.1 < b.1
  menc : ∀ m ∈ T.men, m.1 < T.coming
  stayc : ∀ m ∈ T.stays, m.1 < T.coming
  stackc : ∀ m ∈ T.stack, m.1 < T.count
  menN : T.men.length ≤ 20
  stackN : T.stack.length ≤ 40
  stayN : T.stays.length ≤ 1000000
  n4 : T.n ≤ 4
  n0 : 0 < T.n
  hn : T.hands.length = T.n
  stayK : ∀ x ∈ T.stays, x.2.2.isStand = true
  manO : ∀ m ∈ T.men, 0 ≤ m.2.owner ∧ m.2.owner < T.n
  stayO : ∀ x ∈ T.stays, 0 ≤ x.2.1 ∧ x.2.1 < T.n
  itO : ∀ x ∈ T.stack, 0 ≤ x.2.1 ∧ x.2.1 < T.n
theorem Ks.men {T : Tb} (k : Ks T) : T.men.Pairwise fun a b => a.1 ≠ b.1 := k.menL.imp fun h => Int.ne_of_lt h
theorem Ks.stack {T : Tb} (k : Ks T) : T.stack.Pairwise fun a b => a.1 ≠ b.1 := k.stackL.imp fun h => Int.ne_of_lt h
theorem Ks.stays {T : Tb} (k : Ks T) : T.stays.Pairwise fun a b => a.1 ≠ b.1 := k.stayL.imp fun h => Int.ne_of_lt h
variable {S0 S : Sto} {A0 A : Ro → Nat} {T0 T : Tb} {δ : List Sl}
section
variable (u : Upd S0 A0 T0 S A T)
include u
theorem Upd.fldI {T1 : Tb} {f : Str} {v : D} {Q : Sto → Prop} (e : putA f v (flds A T) = flds A T1) (hv : v.isOwn = false) (same : ∀ r, r ≠ .obj → content A T1 r = content A T r) (q : ∀ S', Upd S0 A0 T0 S' A T1 → Q S') : (@DM.woK _ (fldP S "Table" f (.ref (A .obj)) v) ⟨Q⟩) := by
  rw [l_fld u.rep.cobj hv (show _ < _ from Nat.le_of_ble_eq_true rfl), e]
  exact q _ (u.trans (u.rep.set .obj rfl rfl fun r hr => .inl (same r hr)))
theorem Upd.fPasses {v : Int} {Q : Sto → Prop} (q : ∀ S', Upd S0 A0 T0 S' A { T with passes := v } → Q S') : (@DM.woK _ (fldP S "Table" "passes" (.ref (A .obj)) (.int v)) ⟨Q⟩) :=
  u.fldI (by kernel_rfl) rfl (fun r hr => by cases r <;> first | rfl | exact absurd rfl hr) q
theorem Upd.fCount {v : Int} {Q : Sto → Prop} (q : ∀ S', Upd S0 A0 T0 S' A { T with count := v } → Q S') : (@DM.woK _ (fldP S "Table" "count" (.ref (A .obj)) (.int v)) ⟨Q⟩) :=
  u.fldI (by kernel_rfl) rfl (fun r hr => by cases r <;> first | rfl | exact absurd rfl hr) q
theorem Upd.fAsked {v : Int} {Q : Sto → Prop} (q : ∀ S', Upd S0 A0 T0 S' A { T with asked := v } → Q S') : (@DM.woK _ (fldP S "Table" "asked" (.ref (A .obj)) (.int v)) ⟨Q⟩) :=
  u.fldI (by kernel_rfl) rfl (fun r hr => by cases r <;> first | rfl | exact absurd rfl hr) q
theorem Upd.fTurner {v : Int} {Q : Sto → Prop} (q : ∀ S', Upd S0 A0 T0 S' A { T with turner := v } → Q S') : (@DM.woK _ (fldP S "Table" "turner" (.ref (A .obj)) (.int v)) ⟨Q⟩) :=
  u.fldI (by kernel_rfl) rfl (fun r hr => by cases r <;> first | rfl | exact absurd rfl hr) q
theorem Upd.fComing {v : Int} {Q : Sto → Prop} (q : ∀ S', Upd S0 A0 T0 S' A { T with coming := v } → Q S') : (@DM.woK _ (fldP S "Floor" "coming" (.ref (A .fl)) (.int v)) ⟨Q⟩) := by
  have e : putA ("coming" : Str) (.int v) (flFs A T) = flFs A { T with coming := v } := by kernel_rfl
  rw [l_fld u.rep.cfl rfl (show _ < _ from Nat.le_of_ble_eq_true rfl), e]
  exact q _ (u.trans (u.rep.set .fl rfl rfl fun r hr => .inl (by cases r <;> first | rfl | exact absurd rfl hr)))
theorem Upd.nDue {Q : Sto → Prop} (q : ∀ S' A', Upd S0 A0 T0 S' A' { T with due := [] } → A' .obj = A .obj → Q S') : (@DM.woK _ (fldP (S.new (.lst [])) "Table" "due" (.ref (A .obj)) (.ref S.nx)) ⟨Q⟩) := by
  have ne := Nat.ne_of_lt (u.rep.lt .obj rfl)
  have e : putA ("due" : Str) (.ref S.nx) (flds A T) = flds (put A .du S.nx) { T with due := [] } := by kernel_rfl
  rw [l_fld (fs := flds A T) (by rw [new_other ne]; exact u.rep.cobj) rfl (show _ < _ from Nat.le_of_ble_eq_true rfl), e]
  have u2 := u.rep.renew (T1 := { T with due := [] }) .du .obj (c0 := .lst []) (fun h => nomatch h) rfl rfl rfl (fun r h1 h2 => .inl (by cases r <;> first | rfl | exact absurd rfl h1 | exact absurd rfl h2)) (fun h => nomatch h)
  have eo : put A .du S.nx .obj = A .obj := put_other (fun h => nomatch h)
  exact q _ _ (u.trans u2) eo
/-- another pile: some of the items -/
theorem Upd.nStack (k : Ks T) (p : Int × Int × Cd → Bool) {Q : Sto → Prop} (q : ∀ S' A', Upd S0 A0 T0 S' A' { T with stack := T.stack.filter p } → A' .obj = A .obj → Q S') : (@DM.woK _ (fldP (S.new (.lst ((T.stack.filter p).map fun x => .ref (A (.item x.1))))) "Table" "stack" (.ref (A .obj)) (.ref S.nx)) ⟨Q⟩) := by
  have ne := Nat.ne_of_lt (u.rep.lt .obj rfl)
  have e : putA ("stack" : Str) (.ref S.nx) (flds A T) = flds (put A .st S.nx) { T with stack := T.stack.filter p } := by kernel_rfl
  rw [l_fld (fs := flds A T) (by rw [new_other ne]; exact u.rep.cobj) rfl (show _ < _ from Nat.le_of_ble_eq_true rfl), e]
  have u2 := u.rep.renew (T1 := { T with stack := T.stack.filter p }) .st .obj (c0 := .lst ((T.stack.filter p).map fun x => .ref (A (.item x.1)))) (fun h => nomatch h) rfl rfl rfl (fun r h1 h2 => by
    cases r with
    | item n =>
      rcases look_filter (p := p) k.stack n with h | h <;> unfold lookI at h <;> simp only [content, h] <;> simp
    | obj => exact absurd rfl h2
    | st => exact absurd rfl h1
    | _ => exact .inl rfl) (fun h => nomatch h)
  have eo : put A .st S.nx .obj = A .obj := put_other (fun h => nomatch h)
  exact q _ _ (u.trans u2) eo
theorem Upd.putLife {s v : Int} (h0 : 0 ≤ s) (h1 : s < T.n) {Q : List Sl × Sto → Prop} (q : ∀ S', Upd S0 A0 T0 S' A { T with lives := T.lives.set s.toNat v } → Q (δ, S')) : (@DM.woK _ (putIx δ S (.ref (A .lv)) (.int s) (.int v)) ⟨Q⟩) := by
  have e : putIx δ S (.ref (A .lv)) (.int s) (.int v) = some (δ, S.set (A .lv) (some (.lst ((T.lives.map D.int).set s.toNat (.int v))))) := by
    unfold putIx
    have hm : mutL δ S (.ref (A .lv)) = some (T.lives.map .int) := by simp only [mutL, u.rep.clv]
    have hi : ixN (T.lives.map D.int).length s = some s.toNat := by
      unfold ixN
      rw [if_pos h0, if_pos (by simpa [Tb.n] using h1)]
    rw [hm]
    simp only [hi]
    rfl
  rw [e]
  refine q _ (u.trans (u.rep.set .lv rfl ?_ fun r hr => .inl (by cases r <;> first | rfl | exact absurd rfl hr)))
  show some (Cell.lst ((T.lives.set s.toNat v).map D.int)) = _
  rw [List.map_set]
theorem Upd.addDue {x : Int × Cd} (hl : T.due.length < 16777216) {Q : List Sl × Sto → Prop} (q : ∀ S', Upd S0 A0 T0 S' A { T with due := T.due ++ [x] } → Q (δ, S')) : (@DM.woK _ (hAppend δ S (.ref (A .du)) [duD x]) ⟨Q⟩) := by
  have c : S.c (A .du) = some (.lst (T.due.map duD)) := u.rep.eq .du _ rfl
  rw [l_app_ref c rfl (by simpa using hl)]
  refine q _ (u.trans (u.rep.set .du rfl ?_ fun r hr => .inl (by cases r <;> first | rfl | exact absurd rfl hr)))
  show some (Cell.lst ((T.due ++ [x]).map duD)) = _
  simp
/-- an item comes on the pile -/
theorem Upd.addItem (k : Ks T) {o : Int} {c : Cd} (hl : T.stack.length < 16777216) {Q : List Sl × Sto → Prop} (q : ∀ S' A', Upd S0 A0 T0 S' A' { T with stack := T.stack ++ [(T.count, o, c)] } → (∀ r, (∀ n, r ≠ .item n) → A' r = A r) → Q (δ, S')) : (@DM.woK _ (hAppend δ (S.new (itC (T.count, o, c))) (.ref (A .st)) [.ref S.nx]) ⟨Q⟩) := by
  have ne := Nat.ne_of_lt (u.rep.lt .st rfl)
  have hc : S.c (A .st) = some (.lst (T.stack.map fun x => .ref (A (.item x.1)))) := u.rep.eq .st _ rfl
  rw [l_app_ref (l := T.stack.map fun x => .ref (A (.item x.1))) (by rw [new_other ne]; exact hc) rfl (by simpa using hl)]
  have nk : lookI T.stack T.count = none := look_none.mpr fun x hx => by have := k.stackc x hx; omega
  have u2 := u.rep.renew (T1 := { T with stack := T.stack ++ [(T.count, o, c)] }) (.item T.count) .st (c0 := itC (T.count, o, c)) (c1 := .lst ((T.stack.map fun x => .ref (A (.item x.1))) ++ [.ref S.nx])) (fun h => nomatch h) rfl
    (by
      show ((T.stack ++ [(T.count, o, c)]).find? fun m => decide (m.1 = T.count)).map itC = _
      have := look_app (l := T.stack) (x := (T.count, o, c)) (k := T.count)
      unfold lookI at this nk
      rw [this, nk]; simp)
    (by
      show some (Cell.lst ((T.stack ++ [(T.count, o, c)]).map fun x => D.ref (put A (.item T.count) S.nx (.item x.1)))) = _
      rw [List.map_append]
      congr 3
      · refine List.map_congr_left fun x hx => ?_
        rw [put_other]
        intro e
        have := k.stackc x hx
        have := Ro.item.inj e; omega
      · show [D.ref (put A (.item T.count) S.nx (.item T.count))] = _
        rw [put_same])
    (fun r h1 h2 => .inl (by
      cases r with
      | item n =>
        have hn : ¬ T.count = n := fun e => h1 (by rw [e])
        show ((T.stack ++ [(T.count, o, c)]).find? fun m => decide (m.1 = n)).map itC = (T.stack.find? fun m => decide (m.1 = n)).map itC
        have := look_app (l := T.stack) (x := (T.count, o, c)) (k := n)
        unfold lookI at this
        rw [this, if_neg hn, Option.or_none]
      | st => exact absurd rfl h2
      | _ => rfl)) (fun h => nomatch h)
  exact q _ _ (u.trans u2) fun r hr => put_other (hr _)
end
end TB


end
section
set_option Elab.async false
set_option linter.all false
set_option maxRecDepth 100000
set_option autoImplicit false
namespace TB
open PySem DM PR L2 PySem.Spec
variable {S0 S : Sto} {A0 A : Ro → Nat} {T0 T : Tb} {δ : List Sl}
theorem erase_map {α β : Type} (f : α → β) : ∀ (l : List α) (i : Nat), (l.map f).eraseIdx i = (l.eraseIdx i).map f
  | [], _ => rfl
  | _ :: _, 0 => rfl
  | a :: l, i + 1 => by
    show f a :: (l.map f).eraseIdx i = f a :: (l.eraseIdx i).map f
    rw [erase_map f l i]
theorem Rep.cmn (h : Rep S A T) : S.c (A .mn) = some (.dic (T.men.map fun m => (.inl m.1, .ref (A (.man m.1))))) := h.eq .mn _ rfl
theorem Rep.csy (h : Rep S A T) : S.c (A .sy) = some (.dic (T.stays.map fun x => (.inl x.1, stD x))) := h.eq .sy _ rfl
theorem Rep.cst (h : Rep S A T) : S.c (A .st) = some (.lst (T.stack.map fun x => .ref (A (.item x.1)))) := h.eq .st _ rfl
theorem Rep.cdu (h : Rep S A T) : S.c (A .du) = some (.lst (T.due.map duD)) := h.eq .du _ rfl
theorem Rep.chd (h : Rep S A T) : S.c (A .hd) = some (.lst ((List.range T.hands.length).map fun k => .ref (A (.hand k)))) := h.eq .hd _ rfl
theorem Rep.cman (h : Rep S A T) (k : Ks T) {m : Int × Man} (hm : m ∈ T.men) : S.c (A (.man m.1)) = some m.2.c := h.eq (.man m.1) _ (by
  have := look_of k.men hm
  unfold lookI at this
  show (T.men.find? fun x => decide (x.1 = m.1)).map (fun m => m.2.c) = _
  rw [this]; rfl)
theorem Rep.citem (h : Rep S A T) (k : Ks T) {m : Int × Int × Cd} (hm : m ∈ T.stack) : S.c (A (.item m.1)) = some (itC m) := h.eq (.item m.1) _ (by
  have := look_of k.stack hm
  unfold lookI at this
  show (T.stack.find? fun x => decide (x.1 = m.1)).map itC = _
  rw [this]; rfl)
theorem Rep.chand (h : Rep S A T) {k : Nat} {x : List Cd} (hk : T.hands[k]? = some x) : S.c (A (.hand k)) = some (.lst (x.map Cd.d)) := h.eq (.hand k) _ (by
  show (T.hands[k]?).map _ = _
  rw [hk]; rfl)
theorem l_dicOf {k : Nat} {kvs : List (Key × D)} (h : S.c k = some (.dic kvs)) : dicOf δ S (.ref k) = some kvs := by simp only [dicOf, h]
theorem ix_dic {k : Nat} {kvs : List (Key × D)} {d : D} (h : S.c k = some (.dic kvs)) : oIx δ S (.ref k) d = (keyOf d).bind fun k => valD kvs k := by
  unfold oIx ixSeq
  simp only [seqOf, lstOf, dicOf, h, Option.map_none]
theorem ix_men (h : Rep S A T) {k : Int} : oIx δ S (.ref (A .mn)) (.int k) = (lookI T.men k).map fun m => .ref (A (.man m.1)) := by
  rw [ix_dic h.cmn]; show valD _ (.inl k) = _; rw [valD_map (f := fun m => .ref (A (.man m.1)))]
theorem ix_stays (h : Rep S A T) {k : Int} : oIx δ S (.ref (A .sy)) (.int k) = (lookI T.stays k).map stD := by
  rw [ix_dic h.csy]; show valD _ (.inl k) = _; rw [valD_map (f := stD)]
theorem man_owner {k : Nat} {m : Man} (h : S.c k = some m.c) : oIx δ S (.ref k) (.str (Str.ofString "owner")) = some (.int m.owner) := by rw [ix_dic h]; kernel_rfl
theorem man_size {k : Nat} {m : Man} (h : S.c k = some m.c) : oIx δ S (.ref k) (.str (Str.ofString "size")) = some (.int m.size) := by rw [ix_dic h]; kernel_rfl
theorem man_when {k : Nat} {m : Man} (h : S.c k = some m.c) : oIx δ S (.ref k) (.str (Str.ofString "when")) = some (whD m.wh) := by rw [ix_dic h]; kernel_rfl
theorem man_harm {k : Nat} {m : Man} (h : S.c k = some m.c) : oIx δ S (.ref k) (.str (Str.ofString "harm")) = some (.int m.harm) := by rw [ix_dic h]; kernel_rfl
theorem it_number {k : Nat} {m : Int × Int × Cd} (h : S.c k = some (itC m)) : oIx δ S (.ref k) (.str (Str.ofString "number")) = some (.int m.1) := by rw [ix_dic h]; kernel_rfl
theorem it_owner {k : Nat} {m : Int × Int × Cd} (h : S.c k = some (itC m)) : oIx δ S (.ref k) (.str (Str.ofString "owner")) = some (.int m.2.1) := by rw [ix_dic h]; kernel_rfl
theorem it_card {k : Nat} {m : Int × Int × Cd} (h : S.c k = some (itC m)) : oIx δ S (.ref k) (.str (Str.ofString "card")) = some m.2.2.d := by rw [ix_dic h]; kernel_rfl
theorem in_men (h : Rep S A T) {k : Int} : cIn δ S (.int k) (.ref (A .mn)) = some (T.hasMan k) := by
  unfold cIn
  simp only [l_dicOf h.cmn]
  show some (valD _ (.inl k)).isSome = _
  rw [valD_map (f := fun m => .ref (A (.man m.1))), Option.isSome_map, ← any_look]; rfl
theorem in_stays (h : Rep S A T) {k : Int} : cIn δ S (.int k) (.ref (A .sy)) = some (T.hasStay k) := by
  unfold cIn
  simp only [l_dicOf h.csy]
  show some (valD _ (.inl k)).isSome = _
  rw [valD_map (f := stD), Option.isSome_map, ← any_look]; rfl
theorem len_men (h : Rep S A T) : hLen δ S [.ref (A .mn)] = some (.int T.men.length) := by rw [l_len_dic h.cmn, List.length_map]
theorem len_stack (h : Rep S A T) : hLen δ S [.ref (A .st)] = some (.int T.stack.length) := by rw [l_len_ref h.cst, List.length_map]
section
variable (u : Upd S0 A0 T0 S A T)
include u
/-- a unit comes -/
theorem Upd.addMan {m : Man} (hl : T.men.length < 16777216) {Q : List Sl × Sto → Prop} {c : Int} (nk : ∀ x ∈ T.men, x.1 ≠ c) (q : ∀ S' A', Upd S0 A0 T0 S' A' { T with men := T.men ++ [(c, m)] } → A' .obj = A .obj → A' .fl = A .fl → Q (δ, S')) : (@DM.woK _ (putIx δ (S.new m.c) (.ref (A .mn)) (.int c) (.ref S.nx)) ⟨Q⟩) := by
  have ne := Nat.ne_of_lt (u.rep.lt .mn rfl)
  have nk2 := look_none.mpr nk
  have e : putIx δ (S.new m.c) (.ref (A .mn)) (.int c) (.ref S.nx) = some (δ, (S.new m.c).set (A .mn) (some (.dic ((T.men.map fun m => ((Sum.inl m.1 : Key), D.ref (A (.man m.1)))) ++ [(.inl c, .ref S.nx)])))) := by
    unfold putIx
    have h1 : (S.new m.c).c (A .mn) = some (.dic (T.men.map fun m => (.inl m.1, .ref (A (.man m.1))))) := by rw [new_other ne]; exact u.rep.cmn
    have h2 : mutL δ (S.new m.c) (.ref (A .mn)) = none := by simp only [mutL, h1]
    have h3 : mutD δ (S.new m.c) (.ref (A .mn)) = some (T.men.map fun m => (.inl m.1, .ref (A (.man m.1)))) := by simp only [mutD, h1]
    rw [h2, h3]
    simp only [own_ref, Bool.false_eq_true, if_false, List.length_map, decide_eq_true hl, if_true]
    show some (updD δ (S.new m.c) (.ref (A .mn)) (putD _ (.inl c) (.ref S.nx))) = _
    rw [putD_new (f := fun m => .ref (A (.man m.1))) nk]
    rfl
  rw [e]
  have u2 := u.rep.renew (T1 := { T with men := T.men ++ [(c, m)] }) (.man c) .mn (c0 := m.c) (c1 := .dic ((T.men.map fun m => ((Sum.inl m.1 : Key), D.ref (A (.man m.1)))) ++ [(.inl c, .ref S.nx)])) (fun h => nomatch h) rfl
    (by
      show ((T.men ++ [(c, m)]).find? fun m => decide (m.1 = c)).map (fun m => m.2.c) = _
      have := look_app (l := T.men) (x := (c, m)) (k := c)
      unfold lookI at this nk2
      rw [this, nk2]; simp)
    (by
      show some (Cell.dic ((T.men ++ [(c, m)]).map fun x => ((Sum.inl x.1 : Key), D.ref (put A (.man c) S.nx (.man x.1))))) = _
      rw [List.map_append]
      congr 3
      · refine List.map_congr_left fun x hx => ?_
        rw [put_other fun e => nk x hx (Ro.man.inj e)]
      · show [((Sum.inl c : Key), D.ref (put A (.man c) S.nx (.man c)))] = _
        rw [put_same])
    (fun r h1 h2 => .inl (by
      cases r with
      | man n =>
        have hn : ¬ c = n := fun e => h1 (by rw [e])
        show ((T.men ++ [(c, m)]).find? fun m => decide (m.1 = n)).map (fun m => m.2.c) = (T.men.find? fun m => decide (m.1 = n)).map fun m => m.2.c
        have := look_app (l := T.men) (x := (c, m)) (k := n)
        unfold lookI at this
        rw [this, if_neg hn, Option.or_none]
      | mn => exact absurd rfl h2
      | _ => rfl)) (fun h => nomatch h)
  exact q _ _ (u.trans u2) (put_other (fun h => nomatch h)) (put_other (fun h => nomatch h))
theorem Upd.addStay {x : Int × Cd} (hl : T.stays.length < 16777216) {Q : List Sl × Sto → Prop} {c : Int} (nk : ∀ y ∈ T.stays, y.1 ≠ c) (q : ∀ S', Upd S0 A0 T0 S' A { T with stays := T.stays ++ [(c, x)] } → Q (δ, S')) : (@DM.woK _ (putIx δ S (.ref (A .sy)) (.int c) (.tup [.int x.1, x.2.d])) ⟨Q⟩) := by
  have e : putIx δ S (.ref (A .sy)) (.int c) (.tup [.int x.1, x.2.d]) = some (δ, S.set (A .sy) (some (.dic ((T.stays.map fun x => ((Sum.inl x.1 : Key), stD x)) ++ [(.inl c, .tup [.int x.1, x.2.d])])))) := by
    unfold putIx
    have h1 := u.rep.csy
    have h2 : mutL δ S (.ref (A .sy)) = none := by simp only [mutL, h1]
    have h3 : mutD δ S (.ref (A .sy)) = some (T.stays.map fun x => (.inl x.1, stD x)) := by simp only [mutD, h1]
    rw [h2, h3]
    simp only [own_tup, Bool.false_eq_true, if_false, List.length_map, decide_eq_true hl, if_true]
    show some (updD δ S (.ref (A .sy)) (putD _ (.inl c) _)) = _
    rw [putD_new (f := stD) nk]
    rfl
  rw [e]
  refine q _ (u.trans (u.rep.set .sy rfl ?_ fun r hr => .inl (by cases r <;> first | rfl | exact absurd rfl hr)))
  show some (Cell.dic ((T.stays ++ [(c, x)]).map fun x => ((Sum.inl x.1 : Key), stD x))) = _
  rw [List.map_append]; rfl
theorem Upd.dropStay {c : Int} {x : Int × Int × Cd} (hx : lookI T.stays c = some x) {Q : D × Sto → Prop} (q : ∀ S', Upd S0 A0 T0 S' A { T with stays := T.stays.filter fun x => decide (x.1 ≠ c) } → Q (stD x, S')) : (@DM.woK _ (hDPop δ S (.ref (A .sy)) [.int c]) ⟨Q⟩) := by
  have e : hDPop δ S (.ref (A .sy)) [.int c] = some (stD x, S.set (A .sy) (some (.dic ((T.stays.filter fun x => decide (x.1 ≠ c)).map fun x => ((Sum.inl x.1 : Key), stD x))))) := by
    unfold hDPop
    simp only [u.rep.csy]
    show (valD _ (.inl c)).map _ = _
    rw [valD_map (f := stD), hx, dropD_map (f := stD)]; rfl
  rw [e]
  exact q _ (u.trans (u.rep.set .sy rfl rfl fun r hr => .inl (by cases r <;> first | rfl | exact absurd rfl hr)))
theorem Upd.dropMan (k : Ks T) {c : Int} {x : Int × Man} (hx : lookI T.men c = some x) {Q : D × Sto → Prop} (q : ∀ S', Upd S0 A0 T0 S' A { T with men := T.men.filter fun x => decide (x.1 ≠ c) } → Q (.ref (A (.man x.1)), S')) : (@DM.woK _ (hDPop δ S (.ref (A .mn)) [.int c]) ⟨Q⟩) := by
  have e : hDPop δ S (.ref (A .mn)) [.int c] = some (.ref (A (.man x.1)), S.set (A .mn) (some (.dic ((T.men.filter fun x => decide (x.1 ≠ c)).map fun m => ((Sum.inl m.1 : Key), .ref (A (.man m.1))))))) := by
    unfold hDPop
    simp only [u.rep.cmn]
    show (valD _ (.inl c)).map _ = _
    rw [valD_map (f := fun m => .ref (A (.man m.1))), hx, dropD_map (f := fun m => .ref (A (.man m.1)))]; rfl
  rw [e]
  refine q _ (u.trans (u.rep.set .mn rfl rfl fun r hr => ?_))
  cases r with
  | man n =>
    rcases look_filter (p := fun x => decide (x.1 ≠ c)) k.men n with h | h <;> unfold lookI at h <;> simp only [content, h] <;> simp
  | mn => exact absurd rfl hr
  | _ => exact .inl rfl
theorem Upd.harm (k : Ks T) {c n : Int} {m : Man} (hm : (c, m) ∈ T.men) {Q : List Sl × Sto → Prop} (q : ∀ S', Upd S0 A0 T0 S' A (T.harmed c n) → Q (δ, S')) : (@DM.woK _ (putIx δ S (.ref (A (.man c))) (.str (Str.ofString "harm")) (.int (m.harm + n))) ⟨Q⟩) := by
  have h1 := u.rep.cman k hm
  have e : putIx δ S (.ref (A (.man c))) (.str (Str.ofString "harm")) (.int (m.harm + n)) = some (δ, S.set (A (.man c)) (some (Man.c { m with harm := m.harm + n }))) := by
    unfold putIx
    have h2 : mutL δ S (.ref (A (.man c))) = none := by simp only [mutL, h1]; rfl
    have h3 : mutD δ S (.ref (A (.man c))) = some [(.inr "owner", .int m.owner), (.inr "size", .int m.size), (.inr "when", whD m.wh), (.inr "harm", .int m.harm)] := by simp only [mutD, h1]; rfl
    rw [h2, h3]
    kernel_rfl
  rw [e]
  have lk : lookI T.men c = some (c, m) := look_of k.men hm
  have hh : ∀ n', lookI (T.harmed c n).men n' = (lookI T.men n').map fun x => if x.1 = c then (x.1, { x.2 with harm := x.2.harm + n }) else x := fun n' => by
    unfold lookI Tb.harmed
    rw [List.find?_map]
    congr 1
    congr 1
    funext x
    show decide ((if x.1 = c then (x.1, _) else x).1 = n') = _
    split <;> rfl
  refine q _ (u.trans (u.rep.set (.man c) (by
      show ((T.men.find? fun m => decide (m.1 = c)).map fun m => m.2.c).isSome = true
      unfold lookI at lk; rw [lk]; rfl) ?_ fun r hr => .inl ?_))
  · have := hh c
    unfold lookI at this lk
    show ((T.harmed c n).men.find? fun m => decide (m.1 = c)).map (fun m => m.2.c) = _
    rw [this, lk]; simp
  · cases r with
    | man n' =>
      have := hh n'
      unfold lookI at this
      show ((T.harmed c n).men.find? fun m => decide (m.1 = n')).map (fun m => m.2.c) = (T.men.find? fun m => decide (m.1 = n')).map fun m => m.2.c
      rw [this]
      cases hz : T.men.find? fun m => decide (m.1 = n') with
      | none => rfl
      | some z =>
        have hz' : z.1 = n' := by have := List.find?_some hz; simpa using this
        have : ¬ z.1 = c := fun e => hr (by rw [← e, hz'])
        simp [this]
    | mn =>
      show some (Cell.dic ((T.harmed c n).men.map _)) = some (Cell.dic (T.men.map _))
      congr 2
      unfold Tb.harmed
      rw [List.map_map]
      refine List.map_congr_left fun x hx => ?_
      show ((Sum.inl (if x.1 = c then (x.1, _) else x).1 : Key), D.ref (A (.man (if x.1 = c then (x.1, _) else x).1))) = _
      split <;> rfl
    | _ => rfl
theorem Upd.popItem (k : Ks T) {x : Int × Int × Cd} (hx : T.stack.getLast? = some x) {Q : D × Sto → Prop} (q : ∀ S', Upd S0 A0 T0 S' A { T with stack := T.stack.dropLast } → S'.c (A (.item x.1)) = some (itC x) → (∀ r, live { T with stack := T.stack.dropLast } r → A r ≠ A (.item x.1)) → A (.item x.1) < S'.nx → Q (.ref (A (.item x.1)), S')) : (@DM.woK _ (hPop δ S (.ref (A .st)) []) ⟨Q⟩) := by
  have hne : T.stack ≠ [] := fun e => by rw [e] at hx; cases hx
  have hxm : x ∈ T.stack := List.mem_of_getLast? hx
  have e : hPop δ S (.ref (A .st)) [] = some (.ref (A (.item x.1)), S.set (A .st) (some (.lst (T.stack.dropLast.map fun x => .ref (A (.item x.1)))))) := by
    unfold hPop
    simp only [u.rep.cst]
    rw [List.getElem?_map, List.length_map, ← List.getLast?_eq_getElem?, hx, ← List.map_dropLast]; rfl
  rw [e]
  have sp : T.stack = T.stack.dropLast ++ [x] := by
    rw [← List.dropLast_concat_getLast hne]
    rw [List.getLast?_eq_some_getLast hne] at hx
    cases hx
    simp
  have lk : lookI T.stack.dropLast x.1 = none := look_none.mpr fun y hy => by
    have := k.stack
    rw [sp] at this
    exact (List.pairwise_append.mp this).2.2 y hy x (List.mem_singleton.mpr rfl)
  have li : live T (.item x.1) := by
    have := look_of k.stack hxm
    unfold lookI at this
    show ((T.stack.find? fun m => decide (m.1 = x.1)).map itC).isSome = true
    rw [this]; rfl
  have lv : ∀ r, live { T with stack := T.stack.dropLast } r → live T r ∧ r ≠ .item x.1 := fun r l => by
    constructor
    · cases r with
      | item n =>
        have e1 : ((T.stack.dropLast.find? fun m => decide (m.1 = n)).map itC).isSome = true := l
        show ((T.stack.find? fun m => decide (m.1 = n)).map itC).isSome = true
        rw [sp, List.find?_append]
        cases hz : T.stack.dropLast.find? fun m => decide (m.1 = n) with
        | none => rw [hz] at e1; cases e1
        | some z => simp
      | _ => exact l
    · rintro rfl
      have e1 : ((T.stack.dropLast.find? fun m => decide (m.1 = x.1)).map itC).isSome = true := l
      unfold lookI at lk
      rw [lk] at e1; cases e1
  refine q _ (u.trans (u.rep.set .st rfl rfl fun r hr => ?_)) ?_ (fun r l e => (lv r l).2 (u.rep.inj r _ (lv r l).1 li e)) (u.rep.lt _ li)
  · cases r with
    | item n =>
      show (T.stack.dropLast.find? fun m => decide (m.1 = n)).map itC = (T.stack.find? fun m => decide (m.1 = n)).map itC ∨ (T.stack.dropLast.find? fun m => decide (m.1 = n)).map itC = none
      cases hz : T.stack.dropLast.find? fun m => decide (m.1 = n) with
      | none => exact .inr rfl
      | some z => left; conv => rhs; rw [sp, List.find?_append, hz]
                  rfl
    | st => exact absurd rfl hr
    | _ => exact .inl rfl
  · rw [set_other]
    · exact u.rep.citem k hxm
    · intro e
      exact nomatch (u.rep.inj (.item x.1) .st li rfl e)
theorem Upd.popCard {s p : Nat} {h : List Cd} {c : Cd} (hs : T.hands[s]? = some h) (hp : h[p]? = some c) (hl : h.length < 1000) {Q : D × Sto → Prop} (q : ∀ S', Upd S0 A0 T0 S' A { T with hands := T.hands.set s (h.eraseIdx p) } → Q (c.d, S')) : (@DM.woK _ (hPopAt δ S (.ref (A (.hand s))) [.int p]) ⟨Q⟩) := by
  have hp1 : p < h.length := (List.getElem?_eq_some_iff.mp hp).1
  have hs1 : s < T.hands.length := (List.getElem?_eq_some_iff.mp hs).1
  have e : hPopAt δ S (.ref (A (.hand s))) [.int p] = some (c.d, S.set (A (.hand s)) (some (.lst ((h.eraseIdx p).map Cd.d)))) := by
    unfold hPopAt
    simp only [u.rep.chand hs]
    rw [if_pos (by omega)]
    have : seqIndex? (p : Int) (h.map Cd.d).length = some p := by
      unfold seqIndex?
      rw [List.length_map]
      have h1 : ¬ ((p : Int) < 0) := by omega
      have h2 : (p : Int) < h.length := by omega
      simp [h1, hp1]
    rw [this]
    simp only [Option.bind_some]
    rw [List.getElem?_map, hp, erase_map]; rfl
  rw [e]
  refine q _ (u.trans (u.rep.set (.hand s) (by
      show ((T.hands[s]?).map _).isSome = true
      rw [hs]; rfl) ?_ fun r hr => .inl ?_))
  · show ((T.hands.set s (h.eraseIdx p))[s]?).map _ = _
    rw [List.getElem?_set_self hs1]; rfl
  · cases r with
    | hand k =>
      have : s ≠ k := fun e => hr (by rw [e])
      show ((T.hands.set s (h.eraseIdx p))[k]?).map _ = (T.hands[k]?).map _
      rw [List.getElem?_set_ne this]
    | hd =>
      show some (Cell.lst ((List.range (T.hands.set s (h.eraseIdx p)).length).map _)) = some (Cell.lst ((List.range T.hands.length).map _))
      rw [List.length_set]
    | _ => rfl
end
end TB


end
section
set_option Elab.async false
set_option linter.all false
set_option maxRecDepth 100000
set_option autoImplicit false
namespace DM
open PySem
variable {δ : List Sl} {S : Sto} {E : Str → Sto → Prop} {N : List Sl → Sto → Prop} {T : RV → Sto → Prop}
theorem ws_forT {α : Type} {src : Src} {bind : D → List Sl → Option (List Sl)} {body : DS} (xs : List α) (enc : α → D) (I : Nat → List Sl → Sto → Prop) {n : Nat}
    (hs : ∀ i δ S, I i δ S → srcAt S src i = some ((xs.map enc)[i]?)) (hn : xs.length < n) (h0 : I 0 δ S)
    (step : ∀ i δ S x, I i δ S → xs[i]? = some x → ∃ δ1, bind (enc x) δ = some δ1 ∧ (@DM.wsK (body δ1 S) ⟨(I (i + 1)), T, E⟩)) (q : ∀ δ S, I xs.length δ S → N δ S) :
    (@DM.wsK (forL src bind body n 0 δ S) ⟨N, T, E⟩) := by
  have w := ws_forL (E := E) (T := T) (src := src) (bind := bind) (body := body) (xs.map enc) I hs (fun i δ S d inv e => by
    rw [List.getElem?_map] at e
    cases ex : xs[i]? with
    | none => rw [ex] at e; cases e
    | some x =>
      rw [ex] at e
      cases e
      exact step i δ S x inv ex) n 0 δ S (by simpa using hn) (Nat.zero_le _) h0
  revert w
  generalize forL src bind body n 0 δ S = r
  intro w
  cases r with
  | nx δ' S' => exact q _ _ (by have : I (xs.map enc).length δ' S' := w; rw [List.length_map] at this; exact this)
  | ret v S' => exact w
  | exc c S' => exact w
  | brk _ _ => exact w.elim
  | cnt _ _ => exact w.elim
  | stuck => exact w.elim
theorem src_ref {k : Nat} {ds : List D} (h : S.c k = some (.lst ds)) : srcOf S (.ref k) = some (.seq (.ref k)) := by
  unfold srcOf seqN
  simp only [own_ref, Bool.false_eq_true, if_false, seqOf, lstOf, h, Option.map_some]
theorem seqN_ref {k : Nat} {ds : List D} (h : S.c k = some (.lst ds)) : seqN S (.ref k) = some (false, ds) := by
  unfold seqN
  simp only [own_ref, Bool.false_eq_true, if_false, seqOf, lstOf, h, Option.map_some]
theorem srcLen_ref {k : Nat} {ds : List D} (h : S.c k = some (.lst ds)) : srcLen S (.seq (.ref k)) = ds.length := by
  unfold srcLen; simp only [seqN_ref h]
theorem src_lst {ds : List D} : srcOf S (.lst ds) = some (.seq (.lst ds)) := rfl
theorem seqN_lst {ds : List D} : seqN S (.lst ds) = some (false, ds) := rfl
theorem srcLen_lst {ds : List D} : srcLen S (.seq (.lst ds)) = ds.length := rfl
theorem okD_ints {n : Nat} : ∀ xs : List Int, (xs.map D.int).all (okD n) = true
  | [] => rfl
  | a :: xs => by rw [List.map_cons, List.all_cons, okD_ints xs]; cases n <;> rfl
theorem in_ints {xs : List Int} {i : Int} : cIn δ S (.int i) (.lst (xs.map D.int)) = some (xs.any fun x => decide (x = i)) := by
  have : (okD 60 (.int i) && (xs.map D.int).all (okD 60)) = true := by rw [okD_ints]; rfl
  show (if (okD 60 (.int i) && (xs.map D.int).all (okD 60)) = true then some ((xs.map D.int).any fun y => eqD y (.int i)) else none) = _
  rw [if_pos this, List.any_map]
  congr 1
theorem notin_str2 {a b c : Str} : cNotIn δ S (.str a) (.tup [.str b, .str c]) = some (!(b == a || (c == a || false))) := rfl
theorem in_str2 {a b c : Str} : cIn δ S (.str a) (.tup [.str b, .str c]) = some (b == a || (c == a || false)) := rfl
theorem intsOf_map : ∀ xs : List Int, intsOf (xs.map D.int) = some xs
  | [] => rfl
  | a :: xs => by show (intsOf (xs.map D.int)).map _ = _; rw [intsOf_map xs]; rfl
theorem sort_map {xs : List Int} : hSortI δ S [.lst (xs.map D.int)] = some ((sortI xs).map D.int) := by
  show (intsOf (xs.map D.int)).map _ = _
  rw [intsOf_map]; rfl
theorem sort_id : ∀ {xs : List Int}, xs.Pairwise (· < ·) → sortI xs = xs
  | [], _ => rfl
  | a :: xs, h => by
    obtain ⟨h1, h2⟩ := List.pairwise_cons.mp h
    show insI a (sortI xs) = _
    rw [sort_id h2]
    cases xs with
    | nil => rfl
    | cons b xs =>
      show (if a ≤ b then _ else _) = _
      rw [if_pos (Int.le_of_lt (h1 b (List.mem_cons_self ..)))]
theorem l_ext_own {δ : List Sl} {S : Sto} {k : Nat} {xs ys : List D} (h : δ[k]? = some (.ol xs)) (hl : xs.length + ys.length ≤ 16777216) : hExtend δ S (.own k) [.lst ys] = some (δ.set k (.ol (xs ++ ys)), S) := by
  unfold hExtend
  simp only [mutL, h, lstOf, decide_eq_true hl]
  rfl
theorem l_app_own {δ : List Sl} {S : Sto} {k : Nat} {xs : List D} {y : D} (h : δ[k]? = some (.ol xs)) (hy : y.isOwn = false) (hl : xs.length < 16777216) : hAppend δ S (.own k) [y] = some (δ.set k (.ol (xs ++ [y])), S) := by
  unfold hAppend
  simp only [mutL, h, decide_eq_true hl, hy]
  rfl
theorem l_ty_own {δ : List Sl} {S : Sto} {k : Nat} {xs : List D} (h : δ[k]? = some (.ol xs)) : tyD δ S (.own k) = some "list" := by
  unfold tyD
  simp only [seqOf, lstOf, h, Option.map_some]
theorem l_max {i j : Int} : hMax δ S [.int i, .int j] = some (.int (max i j)) := by
  show some (D.int (if j > i then j else i)) = _
  congr 2
  by_cases h : j > i
  · rw [if_pos h]; omega
  · rw [if_neg h]; omega
theorem l_min {i j : Int} : hMin δ S [.int i, .int j] = some (.int (min i j)) := by
  show some (D.int (if j < i then j else i)) = _
  congr 2
  by_cases h : j < i
  · rw [if_pos h]; omega
  · rw [if_neg h]; omega
theorem wp_eqr {α : Type} {r r' : R α} {Q : α → Sto → Prop} (h : r = r') : ((@DM.wpK _ r ⟨Q, E⟩)) = (@DM.wpK _ r' ⟨Q, E⟩) := by rw [h]
end DM
namespace TB
open PySem DM PR L2 PySem.Spec
variable {S0 S : Sto} {A0 A : Ro → Nat} {T0 T : Tb} {δ : List Sl}
theorem touches_eq (w : Who) (a b : Int) : sem_touches [.str w.s, .int a, .int b] S = .ok (.val (.bl (touches w a b))) S := by
  refine eq_of_wp ?_
  unfold sem_touches
  rw [wp_sem]
  refine ⟨rfl, ?_⟩
  unfold m_touches
  have eb : ∀ (δ : List Sl) (x y : Bool), cEq δ S (.bl x) (.bl y) = some (x == y) := fun _ _ _ => rfl
  cases w with
  | mine =>
    k_call_by "tw" ⟨Who.s, eb, touches⟩
    cases (a == b) <;> rfl
  | others =>
    k_call_by "tw" ⟨Who.s, eb, touches⟩
    cases (a == b) <;> rfl
  | all => k_call_by "tw" ⟨Who.s, eb, touches⟩
theorem wp_touches {w : Who} {a b : Int} {Q : RV → Sto → Prop} {E : Str → Sto → Prop} : ((@DM.wpK _ (sem_touches [.str w.s, .int a, .int b] S) ⟨Q, E⟩)) = Q (.val (.bl (touches w a b))) S := wp_of_eq (touches_eq w a b)
theorem put_w (u : Upd S0 A0 T0 S A T) (k : Ks T) {o : Int} {c : Cd} :
    (@DM.wpK _ (sem_Table_put [.ref (A .obj), .int o, c.d] S) ⟨(fun v S' => v = .val (.int T.count) ∧ ∃ A', Upd S0 A0 T0 S' A' (T.put o c) ∧ ∀ r, (∀ n, r ≠ .item n) → A' r = A r), (fun _ _ => False)⟩) := by
  unfold sem_Table_put
  rw [wp_sem]
  refine ⟨rfl, ?_⟩
  unfold m_Table_put
  have em : mergeD [] [(Sum.inr (Str.ofString "number"), D.int T.count), (Sum.inr (Str.ofString "owner"), .int o), (Sum.inr (Str.ofString "card"), c.d)] = [(.inr "number", .int T.count), (.inr "owner", .int o), (.inr "card", c.d)] := by kernel_rfl
  k_call_by "tw" ⟨u.rep.at, l_ty_ref u.rep.cst, em⟩
  refine u.addItem k (by have := k.stackN; omega) fun S1 A1 u1 e1 => ?_
  have eo := e1 .obj (fun _ h => nomatch h)
  simp only [← eo, u1.rep.at, DM.wp_bind, DM.wp_const, DM.wp_var, DM.wp_op2, DM.wp_cmp, DM.wp_chain, DM.wp_bl, DM.wp_test, DM.wp_not, DM.wp_and, DM.wp_or, DM.wp_andV, DM.wp_orV, DM.wp_if, DM.wp_nil, DM.wp_cons, DM.wp_tup, DM.wp_lst, DM.wp_disp, DM.wp_frz, DM.wp_cell, DM.wp_b, DM.wp_fb, DM.wp_isi, DM.wp_neg, DM.wp_call, DM.wp_fcall, DM.wp_nopart, DM.wp_part, DM.wp_sl, DM.wp_attr, DM.wp_src, DM.wp_rng, DM.ws_nx, DM.ws_seq, DM.ws_bind, DM.ws_ret, DM.ws_retF, DM.ws_if, DM.ws_set, DM.ws_setF, DM.ws_raise, DM.ws_expr, DM.ws_mut, DM.ws_unp, DM.wif_t, DM.wif_f, DM.wsl_v, DM.wsl_ol, DM.wbl_bl, DM.wint_int, DM.wval_val, DM.wval_ol, DM.wol_ol, DM.wo_some, List.map_cons, List.map_nil, List.cons_append, List.nil_append, List.getElem?_cons_zero, List.getElem?_cons_succ, List.set_cons_zero, List.set_cons_succ, List.replicate, List.replicate_succ, List.replicate_zero, Nat.reduceSub, DM.l_len_tup, DM.l_len_lst, DM.l_len_scr, DM.l_ord, DM.l_add, DM.l_sub, DM.l_ix_tup, DM.l_ix_lst, DM.l_ix_scr, DM.l_ty_non, DM.l_ty_bl, DM.l_ty_int, DM.l_ty_str, DM.l_ty_tup, DM.l_ty_lst, DM.l_ty_scr, DM.l_ret, DM.l_ret_non, DM.l_ret_bl, DM.l_ret_int, DM.l_ret_str, DM.l_ret_tup, DM.l_ret_lst, DM.l_ret_ref, Option.bind_some, DM.st_NoneType_bool, DM.st_NoneType_int, DM.st_NoneType_str, DM.st_NoneType_tuple, DM.st_NoneType_list, DM.st_bool_bool, DM.st_bool_int, DM.st_bool_str, DM.st_bool_tuple, DM.st_bool_list, DM.st_int_bool, DM.st_int_int, DM.st_int_str, DM.st_int_tuple, DM.st_int_list, DM.st_str_bool, DM.st_str_int, DM.st_str_str, DM.st_str_tuple, DM.st_str_list, DM.st_tuple_bool, DM.st_tuple_int, DM.st_tuple_str, DM.st_tuple_tuple, DM.st_tuple_list, DM.st_list_bool, DM.st_list_int, DM.st_list_str, DM.st_list_tuple, DM.st_list_list, DM.st_dict_bool, DM.st_dict_int, DM.st_dict_str, DM.st_dict_tuple, DM.st_dict_list, DM.wp_meth, DM.wp_fmeth, DM.wp_flc, DM.ws_for, DM.ws_fld, DM.wp_make, DM.wp_mth, DM.ws_try, DM.wp_dic0, DM.wp_dic, DM.wp_ps0, DM.wp_ps, DM.ws_putix, DM.wp_yes, DM.ws_retN, DM.ws_brk, DM.ws_cnt, DM.noOwns_nil, DM.noOwns_cons, DM.own_non, DM.own_bl, DM.own_int, DM.own_str, DM.own_tup, DM.own_lst, DM.own_ref, DM.own_scr, TB.own_cd, TB.own_an, TB.own_wh, TB.own_tg, TB.own_nt, Bool.not_false, Bool.not_true, Bool.and_true, Bool.true_and, Bool.and_false, Bool.false_and, Bool.or_false, Bool.false_or, Bool.or_true, Bool.true_or, decide_true, decide_false, decide_eq_true_eq, Bool.and_eq_true, true_and, and_true, List.length_cons, List.length_nil, Nat.reduceAdd, Nat.reduceLeDiff, Nat.reduceEqDiff, Nat.reduceBEq, DM.okLen_def, if_true, if_false, Bool.false_eq_true, eq_self, DM.l_eq_str, DM.l_ne_str, DM.l_eq_int, DM.l_ne_int, DM.at0, DM.at1, DM.at2, DM.at3, DM.l_is_any, DM.l_isnot_any, DM.nn_non, DM.nn_bl, DM.nn_int, DM.nn_str, DM.nn_tup, DM.nn_lst, DM.nn_ref, Option.map_some, Option.map_none, Bool.not_eq_true', Bool.not_not, beq_self_eq_true, TB.se_add_cap, TB.se_add_set, TB.se_all_mine, TB.se_all_others, TB.se_bar_bring, TB.se_bar_hit, TB.se_bar_lift, TB.se_bar_mend, TB.se_bar_stand, TB.se_bar_strike, TB.se_bring_bar, TB.se_bring_hit, TB.se_bring_lift, TB.se_bring_mend, TB.se_bring_stand, TB.se_bring_strike, TB.se_cap_add, TB.se_cap_set, TB.se_comes_goes, TB.se_comes_hurt, TB.se_comes_mended, TB.se_goes_comes, TB.se_goes_hurt, TB.se_goes_mended, TB.se_hit_bar, TB.se_hit_bring, TB.se_hit_lift, TB.se_hit_mend, TB.se_hit_stand, TB.se_hit_strike, TB.se_hurt_comes, TB.se_hurt_goes, TB.se_hurt_mended, TB.se_lift_bar, TB.se_lift_bring, TB.se_lift_hit, TB.se_lift_mend, TB.se_lift_stand, TB.se_lift_strike, TB.se_mend_bar, TB.se_mend_bring, TB.se_mend_hit, TB.se_mend_lift, TB.se_mend_stand, TB.se_mend_strike, TB.se_mended_comes, TB.se_mended_goes, TB.se_mended_hurt, TB.se_mine_all, TB.se_mine_others, TB.se_others_all, TB.se_others_mine, TB.se_set_add, TB.se_set_cap, TB.se_stand_bar, TB.se_stand_bring, TB.se_stand_hit, TB.se_stand_lift, TB.se_stand_mend, TB.se_stand_strike, TB.se_strike_bar, TB.se_strike_bring, TB.se_strike_hit, TB.se_strike_lift, TB.se_strike_mend, TB.se_strike_stand, TB.tN_need_seat, TB.tN_need_asked, TB.tN_alive, TB.tN_is_over, TB.tN_seats_from, TB.tN_behind, TB.tN_put, TB.tN_has_target, TB.tN_play, TB.tN_go_by, TB.tN_resolve, TB.tN_is_there, TB.tN_targets, TB.tN_touch, TB.tN_happens, TB.tN_settle_down, TB.tN_failing, TB.tN_clear_out, TB.tN_life, TB.tN_hand, TB.tN_pile, TB.tN_units, TB.tN_unit, TB.tN_standing, TB.tN_now, TB.tN_winner, TB.tN_saved, TB.fN_new_number, TB.fN_bring, TB.fN_stand, TB.fN_layer, TB.fN_power, TB.fN_failing, TB.fN_of, TB.tF_lives, TB.tF_hands, TB.tF_floor, TB.tF_stack, TB.tF_count, TB.tF_turner, TB.tF_asked, TB.tF_passes, TB.tF_due, TB.fF_men, TB.fF_stays, TB.fF_coming]
  refine u1.fCount fun S2 u2 => ?_
  k_call_by "tw" ⟨u2.rep.at⟩
  exact ⟨by rw [Int.add_sub_cancel], A1, u2, e1⟩
/-- a card that a seat may play, or what waits -/
def Cd.seatOk (n : Nat) : Cd → Prop
  | .hit (.seat s) _ => 0 ≤ s ∧ s < n
  | .mend (.seat s) _ => 0 ≤ s ∧ s < n
  | _ => True
def Cd.isWho : Cd → Bool
  | .hit (.who _) _ => true
  | .mend (.who _) _ => true
  | _ => false
theorem numbers_at (h : Rep S A T) (k : Ks T) {δ : List Sl} {Q : D → Sto → Prop} {E : Str → Sto → Prop} {i : Nat} {x : Str} (hi : i < δ.length) (hw : noOwnAt δ [i] = true) (hd : δ[0]? = some (.v (.ref (A .obj)))) (h0 : i ≠ 0)
    (q : Q (.lst (T.stack.map fun x => .int x.1)) S) : (@DM.wpK _ (dFrz (fLc (false, [(x, i)]) [i] (dSrc (dAttr "Table" "stack" (dVar 0))) dYes (dOp2 oIx (dVar i) (dConst (.str "number")))) δ S) ⟨Q, E⟩) := by
  k_call_by "tw" ⟨hd, h.at, src_ref h.cst⟩
  refine ⟨hw, wp_lcA T.stack (fun x => .ref (A (.item x.1))) (fun x => .int x.1) (fun j => src_seq (seqN_ref h.cst) j) (by rw [srcLen_ref h.cst, List.length_map]; exact Nat.lt_succ_self _) ?_ (fun y hy => ⟨_, rfl, ?_, rfl⟩) q⟩
  · have := k.stackN; omega
  · have e : (wipeD δ [i])[i]? = some .no := by unfold wipeD wipeD; rw [List.getElem?_set_self hi]
    have e2 : ((wipeD δ [i]).set i (.v (.ref (A (.item y.1)))))[i]? = some (.v (.ref (A (.item y.1)))) := List.getElem?_set_self (by unfold wipeD wipeD; rw [List.length_set]; exact hi)
    k_call_by "tw" ⟨e2, it_number (h.citem k hy)⟩
end TB


end
section
set_option Elab.async false
set_option linter.all false
set_option maxRecDepth 100000
set_option autoImplicit false
namespace TB
open PySem DM PR L2 PySem.Spec
variable {S0 S : Sto} {A0 A : Ro → Nat} {T0 T : Tb} {δ : List Sl}
theorem target_eq (h : Rep S A T) (k : Ks T) {c : Cd} (hw : c.isWho = false) (hs : c.seatOk T.n) : sem_Table_has_target [.ref (A .obj), c.d] S = .ok (.val (.bl (T.hasTarget c))) S := by
  refine eq_of_wp ?_
  unfold sem_Table_has_target
  rw [wp_sem]
  refine ⟨rfl, ?_⟩
  unfold m_Table_has_target
  cases c with
  | hit t n =>
    cases t with
    | who w => cases hw
    | seat s => k_call_by "tw" ⟨Cd.d, Tg.d, h.at, notin_str2, l_ix_ref h.clv, lives_at hs.1 hs.2, Tb.hasTarget⟩
  | mend t n =>
    cases t with
    | who w => cases hw
    | seat s => k_call_by "tw" ⟨Cd.d, Tg.d, h.at, notin_str2, l_ix_ref h.clv, lives_at hs.1 hs.2, Tb.hasTarget⟩
  | strike u n => k_call_by "tw" ⟨Cd.d, h.at, h.atF, in_men h, Tb.hasTarget⟩
  | bring n w => k_call_by "tw" ⟨Cd.d, notin_str2, Tb.hasTarget⟩
  | bar i =>
    k_call_by "tw" ⟨Cd.d, h.at, src_ref h.cst, Tb.hasTarget⟩
    refine ⟨rfl, wp_lcA T.stack (fun x => .ref (A (.item x.1))) (fun x => .int x.1) (fun j => src_seq (seqN_ref h.cst) j) (by rw [srcLen_ref h.cst, List.length_map]; exact Nat.lt_succ_self _) (by have := k.stackN; omega) (fun y hy => ⟨_, rfl, ?_, rfl⟩) ?_⟩
    · k_call_by "tw" ⟨wipeD, it_number (h.citem k hy)⟩
    · have e : (T.stack.map fun x => D.int x.1) = (T.stack.map (·.1)).map D.int := by rw [List.map_map]; rfl
      rw [e]
      k_call_by "tw" ⟨in_ints⟩
      rw [List.any_map]; rfl
  | stand l w m => k_call_by "tw" ⟨Cd.d, notin_str2, Tb.hasTarget⟩
  | lift s => k_call_by "tw" ⟨Cd.d, h.at, h.atF, in_stays h, Tb.hasTarget⟩
theorem wp_target (h : Rep S A T) (k : Ks T) {c : Cd} (hw : c.isWho = false) (hs : c.seatOk T.n) {Q : RV → Sto → Prop} {E : Str → Sto → Prop} : ((@DM.wpK _ (sem_Table_has_target [.ref (A .obj), c.d] S) ⟨Q, E⟩)) = Q (.val (.bl (T.hasTarget c))) S := wp_of_eq (target_eq h k hw hs)
theorem c_UNITS_eq : c_UNITS = .int 20 := rfl
theorem c_ITEMS_eq : c_ITEMS = .int 40 := rfl
theorem c_LIFE_eq : c_LIFE = .int 99 := rfl
theorem there_eq (h : Rep S A T) (k : Ks T) {c : Cd} (hs : c.seatOk T.n) : sem_Table_is_there [.ref (A .obj), c.d] S = .ok (.val (.bl (T.isThere c))) S := by
  refine eq_of_wp ?_
  unfold sem_Table_is_there
  rw [wp_sem]
  refine ⟨rfl, ?_⟩
  unfold m_Table_is_there
  by_cases hw : c.isWho = true
  · cases c with
    | hit t n =>
      cases t with
      | who w => k_call_by "tw" ⟨Cd.d, Tg.d, Tb.isThere, Tb.hasTarget⟩
      | seat s => cases hw
    | mend t n =>
      cases t with
      | who w => k_call_by "tw" ⟨Cd.d, Tg.d, Tb.isThere, Tb.hasTarget⟩
      | seat s => cases hw
    | _ => cases hw
  · have hw : c.isWho = false := by simpa using hw
    have wt := fun (Q : RV → Sto → Prop) (E : Str → Sto → Prop) => wp_target (Q := Q) (E := E) h k hw hs
    cases c with
    | hit t n =>
      cases t with
      | who w => cases hw
      | seat s =>
        simp only [Cd.d, Tg.d] at wt
        k_call_by "tw" ⟨Cd.d, Tg.d, Tb.isThere, h.isT, wt⟩
    | mend t n =>
      cases t with
      | who w => cases hw
      | seat s =>
        simp only [Cd.d, Tg.d] at wt
        k_call_by "tw" ⟨Cd.d, Tg.d, Tb.isThere, h.isT, wt⟩
    | strike u n =>
      simp only [Cd.d] at wt
      k_call_by "tw" ⟨Cd.d, Tb.isThere, h.isT, wt⟩
    | bring n w =>
      k_call_by "tw" ⟨Cd.d, Tb.isThere, h.at, h.atF, len_men h, c_UNITS_eq⟩
      congr 2
      exact decide_eq_decide.mpr (by omega)
    | bar i =>
      simp only [Cd.d] at wt
      k_call_by "tw" ⟨Cd.d, Tb.isThere, h.isT, wt⟩
    | stand l w m => k_call_by "tw" ⟨Cd.d, Tb.isThere, Tb.hasTarget⟩
    | lift s =>
      simp only [Cd.d] at wt
      k_call_by "tw" ⟨Cd.d, Tb.isThere, h.isT, wt⟩
theorem wp_there (h : Rep S A T) (k : Ks T) {c : Cd} (hs : c.seatOk T.n) {Q : RV → Sto → Prop} {E : Str → Sto → Prop} : ((@DM.wpK _ (sem_Table_is_there [.ref (A .obj), c.d] S) ⟨Q, E⟩)) = Q (.val (.bl (T.isThere c))) S := wp_of_eq (there_eq h k hs)
theorem targets_eq (h : Rep S A T) (k : Ks T) {o : Int} {t : Tg} : sem_Table_targets [.ref (A .obj), .int o, t.d] S = .ok (.ol ((T.targets o t).map .int)) S := by
  refine eq_of_wp ?_
  unfold sem_Table_targets
  rw [wp_sem]
  refine ⟨rfl, ?_⟩
  unfold m_Table_targets
  cases t with
  | seat s => k_call_by "tw" ⟨Tg.d, Tb.targets⟩
  | who w =>
    k_call_by "tw" ⟨Tg.d, Tb.targets, h.isT, wp_from h k.n4 k.n0, src_lst⟩
    refine ⟨rfl, wp_lcP (T.seatsFrom o) D.int (fun s => touches w o s) D.int (fun j => src_seq seqN_lst j) (by rw [srcLen_lst, List.length_map]; exact Nat.lt_succ_self _) (by have := from_len (T := T) (s := o); have := k.n4; omega) (fun y hy => ⟨_, rfl, ?_, fun _ => ⟨?_, rfl⟩⟩) ?_⟩
    · k_call_by "tw" ⟨wipeD, wp_touches⟩
    · k_call_by "tw" ⟨wipeD⟩
    · exact ⟨rfl, rfl⟩
theorem wp_targets (h : Rep S A T) (k : Ks T) {o : Int} {t : Tg} {Q : RV → Sto → Prop} {E : Str → Sto → Prop} : ((@DM.wpK _ (sem_Table_targets [.ref (A .obj), .int o, t.d] S) ⟨Q, E⟩)) = Q (.ol ((T.targets o t).map .int)) S := wp_of_eq (targets_eq h k)
/-- the numbers of the units -/
theorem keys_list (h : Rep S A T) : hList δ S [.ref (A .mn)] = some ((T.men.map (·.1)).map D.int) := by
  unfold hList
  have e : seqOf δ S (.ref (A .mn)) = none := by simp only [seqOf, lstOf, h.cmn, Option.map_none]
  simp only [e, l_dicOf h.cmn, Option.map_some]
  rw [List.map_map, List.map_map]; rfl
theorem keysY_list (h : Rep S A T) : hList δ S [.ref (A .sy)] = some ((T.stays.map (·.1)).map D.int) := by
  unfold hList
  have e : seqOf δ S (.ref (A .sy)) = none := by simp only [seqOf, lstOf, h.csy, Option.map_none]
  simp only [e, l_dicOf h.csy, Option.map_some]
  rw [List.map_map, List.map_map]; rfl
theorem Ks.menS (k : Ks T) : sortI (T.men.map (·.1)) = T.men.map (·.1) := sort_id (List.pairwise_map.mpr k.menL)
theorem Ks.stayS (k : Ks T) : sortI (T.stays.map (·.1)) = T.stays.map (·.1) := sort_id (List.pairwise_map.mpr k.stayL)
def dueL (ev : Evn) (l : List (Int × Man)) : List (Int × Cd) := l.filterMap fun m => match m.2.wh with
  | some (e, a) => if e = ev then some (m.2.owner, a.cd) else none
  | none => none
theorem evs_eq (a b : Evn) : (a.s == b.s) = decide (a = b) := by cases a <;> cases b <;> first | rfl | (simp only [Evn.s]; kernel_rfl)
/-- the same table but for what is due -/
theorem happens_w (u : Upd S0 A0 T0 S A T) (k : Ks T) (ev : Evn) (hd : T.due.length + 20 < 16777216) :
    (@DM.wpK _ (sem_Table_happens [.ref (A .obj), .str ev.s] S) ⟨(fun v S' => v = .val .non ∧ Upd S0 A0 T0 S' A (T.happens ev)), (fun _ _ => False)⟩) := by
  unfold sem_Table_happens
  rw [wp_sem]
  refine ⟨rfl, ?_⟩
  unfold m_Table_happens
  k_call_by "tw" ⟨u.rep.at, u.rep.atF, keys_list u.rep, sort_map, k.menS, src_lst, srcLen_lst⟩
  refine ws_forT T.men (fun m => .int m.1) (fun i δ S' => ∃ a b, δ = [.v (.ref (A .obj)), .v (.str ev.s), a, b] ∧ Upd S0 A0 T0 S' A { T with due := T.due ++ dueL ev (T.men.take i) }) (fun i δ S' _ => ?_) (by simp) ⟨_, _, rfl, ?_⟩ (fun i δ S' m inv hm => ?_) (fun δ S' inv => ?_)
  · rw [src_seq (S := S') seqN_lst, List.map_map]; rfl
  · simp only [List.take_zero, dueL, List.filterMap_nil, List.append_nil]; exact u
  · obtain ⟨a, b, rfl, u1⟩ := inv
    have hmem := List.mem_of_getElem? hm
    have hi : i < T.men.length := (List.getElem?_eq_some_iff.mp hm).1
    have ht : T.men.take (i + 1) = T.men.take i ++ [m] := by rw [List.take_succ, hm]; rfl
    have k1 : Ks { T with due := T.due ++ dueL ev (T.men.take i) } := ⟨k.menL, k.stayL, k.stackL, k.menc, k.stayc, k.stackc, k.menN, k.stackN, k.stayN, k.n4, k.n0, k.hn, k.stayK, k.manO, k.stayO, k.itO⟩
    have hlk : lookI T.men m.1 = some m := look_of k.men hmem
    have cm := u1.rep.cman k1 (m := m) hmem
    refine ⟨_, rfl, ?_⟩
    k_call_by "tw" ⟨u1.rep.at, u1.rep.atF, ix_men u1.rep, hlk, man_when cm⟩
    have hdl : dueL ev (T.men.take (i + 1)) = dueL ev (T.men.take i) ++ dueL ev [m] := by rw [ht]; unfold dueL; rw [List.filterMap_append]
    cases hwh : m.2.wh with
    | none =>
      k_call_by "tw" ⟨whD⟩
      refine ⟨_, _, rfl, ?_⟩
      rw [hdl, show dueL ev [m] = [] by unfold dueL; simp [hwh], List.append_nil]
      exact u1
    | some p =>
      obtain ⟨e, an⟩ := p
      k_call_by "tw" ⟨whD, man_when cm, hwh, evs_eq⟩
      by_cases he : e = ev
      · k_call_by "tw" ⟨decide_eq_true he, u1.rep.at, l_ty_ref u1.rep.cdu, man_when cm, man_owner cm, hwh, whD⟩
        have en : an.d = an.cd.d := (An.cd_d an).symm
        rw [en]
        refine u1.addDue (x := (m.2.owner, an.cd)) ?_ fun S2 u2 => ?_
        · show (T.due ++ dueL ev (T.men.take i)).length < 16777216
          have h1 : (dueL ev (T.men.take i)).length ≤ (T.men.take i).length := List.length_filterMap_le _ _
          rw [List.length_take] at h1
          have := k.menN
          rw [List.length_append]; omega
        · refine ⟨_, _, rfl, ?_⟩
          rw [hdl, show dueL ev [m] = [(m.2.owner, an.cd)] by unfold dueL; simp [hwh, he]]
          rw [← List.append_assoc]
          exact u2
      · k_call_by "tw" ⟨decide_eq_false he⟩
        refine ⟨_, _, rfl, ?_⟩
        rw [hdl, show dueL ev [m] = [] by unfold dueL; simp [hwh, he], List.append_nil]
        exact u1
  · obtain ⟨a, b, rfl, u1⟩ := inv
    rw [List.take_length] at u1
    exact ⟨rfl, u1⟩
end TB


end
section
set_option Elab.async false
set_option linter.all false
set_option maxRecDepth 100000
set_option autoImplicit false
namespace TB
open PySem DM PR L2 PySem.Spec
variable {S0 S : Sto} {A0 A : Ro → Nat} {T0 T : Tb} {δ : List Sl}
theorem Ks.same {T T' : Tb} (k : Ks T) (e1 : T'.men = T.men) (e2 : T'.stays = T.stays) (e3 : T'.stack = T.stack) (e4 : T'.coming = T.coming) (e5 : T'.count = T.count) (e6 : T'.lives.length = T.lives.length) (e7 : T'.hands.length = T.hands.length) : Ks T' := by
  refine ⟨?_, ?_, ?_, ?_, ?_, ?_, ?_, ?_, ?_, ?_, ?_, ?_, ?_, ?_, ?_, ?_⟩ <;> (try unfold Tb.n) <;> simp only [e1, e2, e3, e4, e5, e6, e7]
  · exact k.menL
  · exact k.stayL
  · exact k.stackL
  · exact k.menc
  · exact k.stayc
  · exact k.stackc
  · exact k.menN
  · exact k.stackN
  · exact k.stayN
  · exact k.n4
  · exact k.n0
  · exact k.hn
  · exact k.stayK
  · exact k.manO
  · exact k.stayO
  · exact k.itO
theorem due_len (k : Ks T) (ev : Evn) : (T.happens ev).due.length ≤ T.due.length + 20 := by
  have h1 : (T.dueOf ev).length ≤ T.men.length := List.length_filterMap_le _ _
  have := k.menN
  show (T.due ++ T.dueOf ev).length ≤ _
  rw [List.length_append]; omega
theorem life_set {s v : Int} (h0 : 0 ≤ s) (h1 : s < T.n) : ({ T with lives := T.lives.set s.toNat v } : Tb).life s = v := by
  have : s.toNat < T.lives.length := by unfold Tb.n at h1; omega
  simp [Tb.life, List.getD, this]
theorem hit_w (u : Upd S0 A0 T0 S A T) (k : Ks T) {s n : Int} (h0 : 0 ≤ s) (h1 : s < T.n) (hd : T.due.length + 20 < 16777216) :
    (@DM.wpK _ (sem_Table_touch [.ref (A .obj), .str "hit", .int s, .int n] S) ⟨(fun v S' => v = .ol ((T.hitOne s n).1.map Nt.d) ∧ Upd S0 A0 T0 S' A (T.hitOne s n).2), (fun _ _ => False)⟩) := by
  unfold sem_Table_touch
  rw [wp_sem]
  refine ⟨rfl, ?_⟩
  unfold m_Table_touch
  k_call_by "tw" ⟨u.rep.at, l_ix_ref u.rep.clv, lives_at h0 h1, l_max⟩
  refine u.putLife h0 h1 fun S1 u1 => ?_
  have k1 : Ks { T with lives := T.lives.set s.toNat (max 0 (T.life s - n)) } := k.same rfl rfl rfl rfl rfl (List.length_set ..) rfl
  k_call_by "tw" ⟨u1.rep.isT⟩
  refine wp_use (happens_w u1 k1 .hurt hd) fun v S2 z => ?_
  obtain ⟨rfl, u2⟩ := z
  have e2 : oIx [Sl.v (D.ref (A .obj)), Sl.v (.str (Str.ofString "hit")), Sl.v (.int s), Sl.v (.int n)] S2 (.ref (A .lv)) (.int s) = some (.int (max 0 (T.life s - n))) := by
    rw [l_ix_ref u2.rep.clv, lives_at h0 (by show s < ((T.lives.set s.toNat _).length : Nat); rw [List.length_set]; exact h1)]
    congr 2
    exact life_set h0 h1
  k_call_by "tw" ⟨u2.rep.at, e2⟩
  exact ⟨rfl, u2⟩
theorem mend_w (u : Upd S0 A0 T0 S A T) (k : Ks T) {s n : Int} (h0 : 0 ≤ s) (h1 : s < T.n) (hd : T.due.length + 20 < 16777216) :
    (@DM.wpK _ (sem_Table_touch [.ref (A .obj), .str "mend", .int s, .int n] S) ⟨(fun v S' => v = .ol ((T.mendOne s n).1.map Nt.d) ∧ Upd S0 A0 T0 S' A (T.mendOne s n).2), (fun _ _ => False)⟩) := by
  unfold sem_Table_touch
  rw [wp_sem]
  refine ⟨rfl, ?_⟩
  unfold m_Table_touch
  k_call_by "tw" ⟨u.rep.at, l_ix_ref u.rep.clv, lives_at h0 h1, l_min, c_LIFE_eq⟩
  refine u.putLife h0 h1 fun S1 u1 => ?_
  have k1 : Ks { T with lives := T.lives.set s.toNat (min 99 (T.life s + n)) } := k.same rfl rfl rfl rfl rfl (List.length_set ..) rfl
  k_call_by "tw" ⟨u1.rep.isT⟩
  refine wp_use (happens_w u1 k1 .mended hd) fun v S2 z => ?_
  obtain ⟨rfl, u2⟩ := z
  have e2 : oIx [Sl.v (D.ref (A .obj)), Sl.v (.str (Str.ofString "mend")), Sl.v (.int s), Sl.v (.int n)] S2 (.ref (A .lv)) (.int s) = some (.int (min 99 (T.life s + n))) := by
    rw [l_ix_ref u2.rep.clv, lives_at h0 (by show s < ((T.lives.set s.toNat _).length : Nat); rw [List.length_set]; exact h1)]
    congr 2
    exact life_set h0 h1
  k_call_by "tw" ⟨u2.rep.at, e2⟩
  exact ⟨rfl, u2⟩
theorem newnum_w (u : Upd S0 A0 T0 S A T) :
    (@DM.wpK _ (sem_Floor_new_number [.ref (A .fl)] S) ⟨(fun v S' => v = .val (.int T.coming) ∧ Upd S0 A0 T0 S' A { T with coming := T.coming + 1 }), (fun _ _ => False)⟩) := by
  unfold sem_Floor_new_number
  rw [wp_sem]
  refine ⟨rfl, ?_⟩
  unfold m_Floor_new_number
  k_call_by "tw" ⟨u.rep.atF⟩
  refine u.fComing fun S1 u1 => ?_
  k_call_by "tw" ⟨u1.rep.atF⟩
  exact ⟨by rw [Int.add_sub_cancel], u1⟩
theorem bring_w (u : Upd S0 A0 T0 S A T) (k : Ks T) {o n : Int} {w : Option (Evn × An)} :
    (@DM.wpK _ (sem_Floor_bring [.ref (A .fl), .int o, .int n, whD w] S) ⟨(fun v S' => v = .val (.int T.coming) ∧ ∃ A', Upd S0 A0 T0 S' A' { T with men := T.men ++ [(T.coming, ⟨o, n, w, 0⟩)], coming := T.coming + 1 } ∧ A' .obj = A .obj ∧ A' .fl = A .fl), (fun _ _ => False)⟩) := by
  unfold sem_Floor_bring
  rw [wp_sem]
  refine ⟨rfl, ?_⟩
  unfold m_Floor_bring
  k_call_by "tw" ⟨u.rep.isF⟩
  refine wp_use (newnum_w u) fun v S1 z => ?_
  obtain ⟨rfl, u1⟩ := z
  have em : mergeD [] [(Sum.inr (Str.ofString "owner"), D.int o), (Sum.inr (Str.ofString "size"), .int n), (Sum.inr (Str.ofString "when"), whD w), (Sum.inr (Str.ofString "harm"), .int 0)] = [(.inr "owner", .int o), (.inr "size", .int n), (.inr "when", whD w), (.inr "harm", .int 0)] := by kernel_rfl
  have ne : A .fl ≠ S1.nx := Nat.ne_of_lt (u1.rep.lt .fl rfl)
  have ef : attrOf (S1.new (Man.c ⟨o, n, w, 0⟩)) (Str.ofString "Floor") (Str.ofString "men") (.ref (A .fl)) = some (.ref (A .mn)) := by
    rw [l_attr (fs := flFs A { T with coming := T.coming + 1 }) (by rw [new_other ne]; exact u1.rep.cfl)]; kernel_rfl
  k_call_by "tw" ⟨em⟩
  unfold Man.c at ef
  k_call_by "tw" ⟨ef⟩
  refine u1.addMan (m := ⟨o, n, w, 0⟩) (by have := k.menN; show T.men.length < _; omega) (fun x hx => by have := k.menc x hx; omega) fun S2 A2 u2 e1 e2 => ?_
  walk_at "tw"
  exact ⟨A2, u2, e1, e2⟩
theorem stand_w (u : Upd S0 A0 T0 S A T) (k : Ks T) {o : Int} {c : Cd} :
    (@DM.wpK _ (sem_Floor_stand [.ref (A .fl), .int o, c.d] S) ⟨(fun v S' => v = .val (.int T.coming) ∧ Upd S0 A0 T0 S' A { T with stays := T.stays ++ [(T.coming, o, c)], coming := T.coming + 1 }), (fun _ _ => False)⟩) := by
  unfold sem_Floor_stand
  rw [wp_sem]
  refine ⟨rfl, ?_⟩
  unfold m_Floor_stand
  k_call_by "tw" ⟨u.rep.isF⟩
  refine wp_use (newnum_w u) fun v S1 z => ?_
  obtain ⟨rfl, u1⟩ := z
  k_call_by "tw" ⟨u1.rep.atF⟩
  refine u1.addStay (x := (o, c)) (by have := k.stayN; show T.stays.length < _; omega) (fun x hx => by have := k.stayc x hx; omega) fun S2 u2 => ?_
  walk_at "tw"
  exact u2
/-- an item that is off the pile -/
structure ItAt (S : Sto) (A : Ro → Nat) (T : Tb) (j : Nat) (x : Int × Int × Cd) : Prop where
  eq : S.c j = some (itC x)
  lt : j < S.nx
  ne : ∀ r, live T r → A r ≠ j
theorem ItAt.upd {S1 : Sto} {A1 : Ro → Nat} {T1 : Tb} {j : Nat} {x : Int × Int × Cd} (h : ItAt S A T j x) (u : Upd S A T S1 A1 T1) : ItAt S1 A1 T1 j x :=
  ⟨(u.keep j h.lt h.ne).trans h.eq, Nat.lt_of_lt_of_le h.lt u.nx, fun r l e => by
    rcases u.fp r l with ⟨r0, l0, e0⟩ | h1
    · exact h.ne r0 l0 (e0.trans e)
    · have := h.lt; omega⟩
theorem each_snoc (f : Tb → Int → List Nt × Tb) (s : Int) : ∀ (l : List Int) (T : Tb), Tb.each f (l ++ [s]) T = ((Tb.each f l T).1 ++ (f (Tb.each f l T).2 s).1, (f (Tb.each f l T).2 s).2)
  | [], T => by simp [Tb.each]
  | a :: l, T => by
    show ((f T a).1 ++ (Tb.each f (l ++ [s]) (f T a).2).1, (Tb.each f (l ++ [s]) (f T a).2).2) = _
    rw [each_snoc f s l]
    simp [Tb.each]
theorem targets_in (k : Ks T) {o : Int} {t : Tg} (ht : ∀ s, t = .seat s → 0 ≤ s ∧ s < T.n) : ∀ s ∈ T.targets o t, 0 ≤ s ∧ s < T.n := fun s hs => by
  cases t with
  | seat s' =>
    have : s = s' := by simpa [Tb.targets] using hs
    rw [this]; exact ht _ rfl
  | who w =>
    have hs := (List.mem_filter.mp hs).1
    have hs := (List.mem_filter.mp hs).1
    simp only [List.mem_map, List.mem_range] at hs
    obtain ⟨j, hj, rfl⟩ := hs
    exact mod_in k.n0
theorem targets_len (k : Ks T) {o : Int} {t : Tg} : (T.targets o t).length ≤ 4 := by
  cases t with
  | seat s => simp [Tb.targets]
  | who w =>
    have h1 : (T.targets o (.who w)).length ≤ (T.seatsFrom o).length := List.length_filter_le _ _
    have := from_len (T := T) (s := o)
    have := k.n4
    omega
/-- what one touch keeps -/
structure Same (T T' : Tb) : Prop where
  men : T'.men = T.men
  stays : T'.stays = T.stays
  stack : T'.stack = T.stack
  coming : T'.coming = T.coming
  count : T'.count = T.count
  ll : T'.lives.length = T.lives.length
  hands : T'.hands = T.hands
theorem Same.ks {T T' : Tb} (h : Same T T') (k : Ks T) : Ks T' := k.same h.men h.stays h.stack h.coming h.count h.ll (by rw [h.hands])
theorem Same.trans {T T1 T2 : Tb} (a : Same T T1) (b : Same T1 T2) : Same T T2 := ⟨b.men.trans a.men, b.stays.trans a.stays, b.stack.trans a.stack, b.coming.trans a.coming, b.count.trans a.count, b.ll.trans a.ll, b.hands.trans a.hands⟩
theorem Same.hit {s n : Int} : Same T (T.hitOne s n).2 := ⟨rfl, rfl, rfl, rfl, rfl, List.length_set .., rfl⟩
theorem Same.mend {s n : Int} : Same T (T.mendOne s n).2 := ⟨rfl, rfl, rfl, rfl, rfl, List.length_set .., rfl⟩
end TB


end
section
set_option Elab.async false
set_option linter.all false
set_option maxRecDepth 100000
set_option autoImplicit false
namespace TB
open PySem DM PR L2 PySem.Spec
variable {S0 S : Sto} {A0 A : Ro → Nat} {T0 T : Tb} {δ : List Sl}
theorem l_ty_dic {k : Nat} {kvs : List (Key × D)} (h : S.c k = some (.dic kvs)) : tyD δ S (.ref k) = some "dict" := by
  unfold tyD
  simp only [seqOf, lstOf, dicOf, h, Option.map_none, Option.map_some]
theorem resolve_w (u : Upd S0 A0 T0 S A T) (k : Ks T) {j : Nat} {num o : Int} {c : Cd} (it : ItAt S A T j (num, o, c)) (hs : c.seatOk T.n) (ho : 0 ≤ o ∧ o < T.n) (hd : T.due.length ≤ 1000) :
    (@DM.wpK _ (sem_Table_resolve [.ref (A .obj), .ref j] S) ⟨(fun v S' => v = .ol ((T.resolve num o c).1.map Nt.d) ∧ ∃ A', Upd S0 A0 T0 S' A' (T.resolve num o c).2 ∧ A' .obj = A .obj), (fun _ _ => False)⟩) := by
  unfold sem_Table_resolve
  rw [wp_sem]
  refine ⟨rfl, ?_⟩
  unfold m_Table_resolve
  have ec : ∀ δ, oIx δ S (.ref j) (.str (Str.ofString "card")) = some c.d := fun δ => it_card (m := (num, o, c)) it.eq
  have en : ∀ δ, oIx δ S (.ref j) (.str (Str.ofString "number")) = some (.int num) := fun δ => it_number (m := (num, o, c)) it.eq
  have eo : ∀ δ, oIx δ S (.ref j) (.str (Str.ofString "owner")) = some (.int o) := fun δ => it_owner (m := (num, o, c)) it.eq
  k_call_by "tw" ⟨ec, en, u.rep.isT, wp_there u.rep k hs⟩
  cases ht : T.isThere c with
  | false =>
    k_call_by "tw" ⟨en⟩
    unfold Tb.resolve
    rw [ht, if_pos rfl]
    exact ⟨rfl, A, u, rfl⟩
  | true =>
    unfold Tb.resolve
    rw [ht, if_neg (by decide)]
    k_call_by "tw" ⟨en⟩
    cases c with
    | hit t n =>
      have ti := targets_in k (o := o) (t := t) (fun s e => by subst e; exact hs)
      have tl := targets_len k (o := o) (t := t)
      k_call_by "tw" ⟨Cd.d, in_str2, u.rep.isT, wp_targets u.rep k, src_lst, srcLen_lst, eo⟩
      refine ws_forT (T.targets o t) D.int (fun i δ S' => ∃ a, δ = [.v (.ref (A .obj)), .v (.ref j), .v (Cd.hit t n).d, .ol ((Nt.done num :: (Tb.each (fun T s => T.hitOne s n) ((T.targets o t).take i) T).1).map Nt.d), a, .no, .no] ∧
        Upd S0 A0 T0 S' A (Tb.each (fun T s => T.hitOne s n) ((T.targets o t).take i) T).2 ∧ Same T (Tb.each (fun T s => T.hitOne s n) ((T.targets o t).take i) T).2 ∧ (Tb.each (fun T s => T.hitOne s n) ((T.targets o t).take i) T).2.due.length ≤ T.due.length + 20 * i ∧ (Tb.each (fun T s => T.hitOne s n) ((T.targets o t).take i) T).1.length ≤ i)
        (fun i δ S' _ => src_seq seqN_lst i) (by rw [List.length_map]; exact Nat.lt_succ_self _) ⟨_, rfl, u, ⟨rfl, rfl, rfl, rfl, rfl, rfl, rfl⟩, Nat.le_refl _, Nat.le_refl _⟩ (fun i δ S' s inv hm => ?_) (fun δ S' inv => ?_)
      · obtain ⟨a, rfl, u1, sm, dl, ll⟩ := inv
        have hi : i < (T.targets o t).length := (List.getElem?_eq_some_iff.mp hm).1
        have htk : (T.targets o t).take (i + 1) = (T.targets o t).take i ++ [s] := by rw [List.take_succ, hm]; rfl
        obtain ⟨s0, s1⟩ := ti s (List.mem_of_getElem? hm)
        rw [htk, each_snoc]
        generalize Tb.each (fun T s => T.hitOne s n) ((T.targets o t).take i) T = r at u1 sm dl ll ⊢
        have k1 := sm.ks k
        refine ⟨_, rfl, ?_⟩
        k_call_by "tw" ⟨Cd.d, u1.rep.isT⟩
        refine ⟨l_ty_own (k := 3) rfl, ?_⟩
        refine wp_use (hit_w u1 k1 s0 (by show s < (r.2.lives.length : Nat); rw [sm.ll]; exact s1) (by omega)) fun v S2 z => ?_
        obtain ⟨rfl, u2⟩ := z
        walk_at "tw"
        refine wo_of (l_ext_own (k := 3) rfl (by
          have : (r.2.hitOne s n).1.length = 1 := rfl
          simp only [List.length_map, List.length_cons, this]; omega)) ?_
        refine ⟨.v (.int s), by simp [Cd.d], u2, sm.trans .hit, ?_, ?_⟩
        · have h9 : Ks ({ r.2 with lives := r.2.lives.set s.toNat (max 0 (r.2.life s - n)) } : Tb) := k1.same rfl rfl rfl rfl rfl (List.length_set ..) rfl
          have : (r.2.hitOne s n).2.due.length ≤ r.2.due.length + 20 := due_len h9 .hurt
          show (r.2.hitOne s n).2.due.length ≤ _
          omega
        · show (r.1 ++ (r.2.hitOne s n).1).length ≤ _
          rw [List.length_append]
          have : (r.2.hitOne s n).1.length = 1 := rfl
          omega
      · obtain ⟨a, rfl, u1, sm, dl, ll⟩ := inv
        rw [List.take_length] at u1 ⊢
        walk_at "tw"
        rw [l_ret_own (δ := [Sl.v (D.ref (A .obj)), Sl.v (D.ref j), Sl.v (Cd.hit t n).d, Sl.ol _, a, .no, .no]) (k := 3) rfl]
        walk_at "tw"
        exact ⟨A, u1, rfl⟩
    | mend t n =>
      have ti := targets_in k (o := o) (t := t) (fun s e => by subst e; exact hs)
      have tl := targets_len k (o := o) (t := t)
      k_call_by "tw" ⟨Cd.d, in_str2, u.rep.isT, wp_targets u.rep k, src_lst, srcLen_lst, eo⟩
      refine ws_forT (T.targets o t) D.int (fun i δ S' => ∃ a, δ = [.v (.ref (A .obj)), .v (.ref j), .v (Cd.mend t n).d, .ol ((Nt.done num :: (Tb.each (fun T s => T.mendOne s n) ((T.targets o t).take i) T).1).map Nt.d), a, .no, .no] ∧
        Upd S0 A0 T0 S' A (Tb.each (fun T s => T.mendOne s n) ((T.targets o t).take i) T).2 ∧ Same T (Tb.each (fun T s => T.mendOne s n) ((T.targets o t).take i) T).2 ∧ (Tb.each (fun T s => T.mendOne s n) ((T.targets o t).take i) T).2.due.length ≤ T.due.length + 20 * i ∧ (Tb.each (fun T s => T.mendOne s n) ((T.targets o t).take i) T).1.length ≤ i)
        (fun i δ S' _ => src_seq seqN_lst i) (by rw [List.length_map]; exact Nat.lt_succ_self _) ⟨_, rfl, u, ⟨rfl, rfl, rfl, rfl, rfl, rfl, rfl⟩, Nat.le_refl _, Nat.le_refl _⟩ (fun i δ S' s inv hm => ?_) (fun δ S' inv => ?_)
      · obtain ⟨a, rfl, u1, sm, dl, ll⟩ := inv
        have hi : i < (T.targets o t).length := (List.getElem?_eq_some_iff.mp hm).1
        have htk : (T.targets o t).take (i + 1) = (T.targets o t).take i ++ [s] := by rw [List.take_succ, hm]; rfl
        obtain ⟨s0, s1⟩ := ti s (List.mem_of_getElem? hm)
        rw [htk, each_snoc]
        generalize Tb.each (fun T s => T.mendOne s n) ((T.targets o t).take i) T = r at u1 sm dl ll ⊢
        have k1 := sm.ks k
        refine ⟨_, rfl, ?_⟩
        k_call_by "tw" ⟨Cd.d, u1.rep.isT⟩
        refine ⟨l_ty_own (k := 3) rfl, ?_⟩
        refine wp_use (mend_w u1 k1 s0 (by show s < (r.2.lives.length : Nat); rw [sm.ll]; exact s1) (by omega)) fun v S2 z => ?_
        obtain ⟨rfl, u2⟩ := z
        walk_at "tw"
        refine wo_of (l_ext_own (k := 3) rfl (by
          have : (r.2.mendOne s n).1.length = 1 := rfl
          simp only [List.length_map, List.length_cons, this]; omega)) ?_
        refine ⟨.v (.int s), by simp [Cd.d], u2, sm.trans .mend, ?_, ?_⟩
        · have h9 : Ks ({ r.2 with lives := r.2.lives.set s.toNat (min 99 (r.2.life s + n)) } : Tb) := k1.same rfl rfl rfl rfl rfl (List.length_set ..) rfl
          have : (r.2.mendOne s n).2.due.length ≤ r.2.due.length + 20 := due_len h9 .mended
          show (r.2.mendOne s n).2.due.length ≤ _
          omega
        · show (r.1 ++ (r.2.mendOne s n).1).length ≤ _
          rw [List.length_append]
          have : (r.2.mendOne s n).1.length = 1 := rfl
          omega
      · obtain ⟨a, rfl, u1, sm, dl, ll⟩ := inv
        rw [List.take_length] at u1 ⊢
        walk_at "tw"
        rw [l_ret_own (δ := [Sl.v (D.ref (A .obj)), Sl.v (D.ref j), Sl.v (Cd.mend t n).d, Sl.ol _, a, .no, .no]) (k := 3) rfl]
        walk_at "tw"
        exact ⟨A, u1, rfl⟩
    | strike un n =>
      have hm : T.hasMan un = true := ht
      unfold Tb.hasMan at hm
      rw [any_look] at hm
      obtain ⟨m, hm⟩ := Option.isSome_iff_exists.mp hm
      obtain ⟨h1, h2⟩ := look_some hm
      obtain ⟨mu, m⟩ := m
      dsimp only at h2
      subst h2
      k_call_by "tw" ⟨Cd.d, in_str2, u.rep.at, u.rep.atF, ix_men u.rep, hm, man_harm (u.rep.cman k h1)⟩
      refine u.harm k h1 fun S1 u1 => ?_
      walk_at "tw"
      rw [l_ret_own (k := 3) rfl]
      walk_at "tw"
      exact ⟨rfl, A, u1, rfl⟩
    | bring n w =>
      have hm : T.men.length < 20 := of_decide_eq_true ht
      k_call_by "tw" ⟨Cd.d, in_str2, u.rep.at, eo, u.rep.isF⟩
      refine wp_use (bring_w u k) fun v S1 z => ?_
      obtain ⟨rfl, A1, u1, e1, e2⟩ := z
      have k1 : Ks { T with men := T.men ++ [(T.coming, ⟨o, n, w, 0⟩)], coming := T.coming + 1 } := by
        refine ⟨?_, k.stayL, k.stackL, ?_, fun m hm => by have := k.stayc m hm; show m.1 < T.coming + 1; omega, k.stackc, ?_, k.stackN, k.stayN, k.n4, k.n0, k.hn, k.stayK, ?_, k.stayO, k.itO⟩
        · refine List.pairwise_append.mpr ⟨k.menL, List.pairwise_singleton .., fun a ha b hb => ?_⟩
          rw [List.mem_singleton.mp hb]; exact k.menc a ha
        · intro m hm
          show m.1 < T.coming + 1
          rcases List.mem_append.mp hm with h | h
          · have := k.menc m h; omega
          · rw [List.mem_singleton.mp h]; show T.coming < T.coming + 1; omega
        · show (T.men ++ [_]).length ≤ 20
          rw [List.length_append, List.length_singleton]; omega
        · intro m hm
          rcases List.mem_append.mp hm with h | h
          · exact k.manO m h
          · rw [List.mem_singleton.mp h]; exact ho
      walk_at "tw"
      refine ⟨l_ty_own (k := 3) rfl, ?_⟩
      refine wo_of (l_app_own (k := 3) rfl rfl (by simp)) ?_
      simp only [← e1, u1.rep.isT, DM.wp_bind, DM.wp_const, DM.wp_var, DM.wp_op2, DM.wp_cmp, DM.wp_chain, DM.wp_bl, DM.wp_test, DM.wp_not, DM.wp_and, DM.wp_or, DM.wp_andV, DM.wp_orV, DM.wp_if, DM.wp_nil, DM.wp_cons, DM.wp_tup, DM.wp_lst, DM.wp_disp, DM.wp_frz, DM.wp_cell, DM.wp_b, DM.wp_fb, DM.wp_isi, DM.wp_neg, DM.wp_call, DM.wp_fcall, DM.wp_nopart, DM.wp_part, DM.wp_sl, DM.wp_attr, DM.wp_src, DM.wp_rng, DM.ws_nx, DM.ws_seq, DM.ws_bind, DM.ws_ret, DM.ws_retF, DM.ws_if, DM.ws_set, DM.ws_setF, DM.ws_raise, DM.ws_expr, DM.ws_mut, DM.ws_unp, DM.wif_t, DM.wif_f, DM.wsl_v, DM.wsl_ol, DM.wbl_bl, DM.wint_int, DM.wval_val, DM.wval_ol, DM.wol_ol, DM.wo_some, List.map_cons, List.map_nil, List.cons_append, List.nil_append, List.getElem?_cons_zero, List.getElem?_cons_succ, List.set_cons_zero, List.set_cons_succ, List.replicate, List.replicate_succ, List.replicate_zero, Nat.reduceSub, DM.l_len_tup, DM.l_len_lst, DM.l_len_scr, DM.l_ord, DM.l_add, DM.l_sub, DM.l_ix_tup, DM.l_ix_lst, DM.l_ix_scr, DM.l_ty_non, DM.l_ty_bl, DM.l_ty_int, DM.l_ty_str, DM.l_ty_tup, DM.l_ty_lst, DM.l_ty_scr, DM.l_ret, DM.l_ret_non, DM.l_ret_bl, DM.l_ret_int, DM.l_ret_str, DM.l_ret_tup, DM.l_ret_lst, DM.l_ret_ref, Option.bind_some, DM.st_NoneType_bool, DM.st_NoneType_int, DM.st_NoneType_str, DM.st_NoneType_tuple, DM.st_NoneType_list, DM.st_bool_bool, DM.st_bool_int, DM.st_bool_str, DM.st_bool_tuple, DM.st_bool_list, DM.st_int_bool, DM.st_int_int, DM.st_int_str, DM.st_int_tuple, DM.st_int_list, DM.st_str_bool, DM.st_str_int, DM.st_str_str, DM.st_str_tuple, DM.st_str_list, DM.st_tuple_bool, DM.st_tuple_int, DM.st_tuple_str, DM.st_tuple_tuple, DM.st_tuple_list, DM.st_list_bool, DM.st_list_int, DM.st_list_str, DM.st_list_tuple, DM.st_list_list, DM.st_dict_bool, DM.st_dict_int, DM.st_dict_str, DM.st_dict_tuple, DM.st_dict_list, DM.wp_meth, DM.wp_fmeth, DM.wp_flc, DM.ws_for, DM.ws_fld, DM.wp_make, DM.wp_mth, DM.ws_try, DM.wp_dic0, DM.wp_dic, DM.wp_ps0, DM.wp_ps, DM.ws_putix, DM.wp_yes, DM.ws_retN, DM.ws_brk, DM.ws_cnt, DM.noOwns_nil, DM.noOwns_cons, DM.own_non, DM.own_bl, DM.own_int, DM.own_str, DM.own_tup, DM.own_lst, DM.own_ref, DM.own_scr, TB.own_cd, TB.own_an, TB.own_wh, TB.own_tg, TB.own_nt, Bool.not_false, Bool.not_true, Bool.and_true, Bool.true_and, Bool.and_false, Bool.false_and, Bool.or_false, Bool.false_or, Bool.or_true, Bool.true_or, decide_true, decide_false, decide_eq_true_eq, Bool.and_eq_true, true_and, and_true, List.length_cons, List.length_nil, Nat.reduceAdd, Nat.reduceLeDiff, Nat.reduceEqDiff, Nat.reduceBEq, DM.okLen_def, if_true, if_false, Bool.false_eq_true, eq_self, DM.l_eq_str, DM.l_ne_str, DM.l_eq_int, DM.l_ne_int, DM.at0, DM.at1, DM.at2, DM.at3, DM.l_is_any, DM.l_isnot_any, DM.nn_non, DM.nn_bl, DM.nn_int, DM.nn_str, DM.nn_tup, DM.nn_lst, DM.nn_ref, Option.map_some, Option.map_none, Bool.not_eq_true', Bool.not_not, beq_self_eq_true, TB.se_add_cap, TB.se_add_set, TB.se_all_mine, TB.se_all_others, TB.se_bar_bring, TB.se_bar_hit, TB.se_bar_lift, TB.se_bar_mend, TB.se_bar_stand, TB.se_bar_strike, TB.se_bring_bar, TB.se_bring_hit, TB.se_bring_lift, TB.se_bring_mend, TB.se_bring_stand, TB.se_bring_strike, TB.se_cap_add, TB.se_cap_set, TB.se_comes_goes, TB.se_comes_hurt, TB.se_comes_mended, TB.se_goes_comes, TB.se_goes_hurt, TB.se_goes_mended, TB.se_hit_bar, TB.se_hit_bring, TB.se_hit_lift, TB.se_hit_mend, TB.se_hit_stand, TB.se_hit_strike, TB.se_hurt_comes, TB.se_hurt_goes, TB.se_hurt_mended, TB.se_lift_bar, TB.se_lift_bring, TB.se_lift_hit, TB.se_lift_mend, TB.se_lift_stand, TB.se_lift_strike, TB.se_mend_bar, TB.se_mend_bring, TB.se_mend_hit, TB.se_mend_lift, TB.se_mend_stand, TB.se_mend_strike, TB.se_mended_comes, TB.se_mended_goes, TB.se_mended_hurt, TB.se_mine_all, TB.se_mine_others, TB.se_others_all, TB.se_others_mine, TB.se_set_add, TB.se_set_cap, TB.se_stand_bar, TB.se_stand_bring, TB.se_stand_hit, TB.se_stand_lift, TB.se_stand_mend, TB.se_stand_strike, TB.se_strike_bar, TB.se_strike_bring, TB.se_strike_hit, TB.se_strike_lift, TB.se_strike_mend, TB.se_strike_stand, TB.tN_need_seat, TB.tN_need_asked, TB.tN_alive, TB.tN_is_over, TB.tN_seats_from, TB.tN_behind, TB.tN_put, TB.tN_has_target, TB.tN_play, TB.tN_go_by, TB.tN_resolve, TB.tN_is_there, TB.tN_targets, TB.tN_touch, TB.tN_happens, TB.tN_settle_down, TB.tN_failing, TB.tN_clear_out, TB.tN_life, TB.tN_hand, TB.tN_pile, TB.tN_units, TB.tN_unit, TB.tN_standing, TB.tN_now, TB.tN_winner, TB.tN_saved, TB.fN_new_number, TB.fN_bring, TB.fN_stand, TB.fN_layer, TB.fN_power, TB.fN_failing, TB.fN_of, TB.tF_lives, TB.tF_hands, TB.tF_floor, TB.tF_stack, TB.tF_count, TB.tF_turner, TB.tF_asked, TB.tF_passes, TB.tF_due, TB.fF_men, TB.fF_stays, TB.fF_coming]
      refine wp_use (happens_w u1 k1 .comes (by show T.due.length + 20 < _; omega)) fun v S2 z => ?_
      obtain ⟨rfl, u2⟩ := z
      walk_at "tw"
      rw [l_ret_own (k := 3) rfl]
      walk_at "tw"
      exact ⟨rfl, A1, u2, e1⟩
    | bar i =>
      k_call_by "tw" ⟨Cd.d, in_str2, u.rep.at, src_ref u.rep.cst, srcLen_ref u.rep.cst⟩
      have ep : (fun x : Int × Int × Cd => decide (x.1 ≠ i)) = fun x => !(x.1 == i) := funext fun x => by by_cases h : x.1 = i <;> simp [h]
      refine ⟨rfl, wp_lcP T.stack (fun x => .ref (A (.item x.1))) (fun x => !(x.1 == i)) (fun x => .ref (A (.item x.1))) (fun j => src_seq (seqN_ref u.rep.cst) j) (by rw [List.length_map]; exact Nat.lt_succ_self _) (by have := k.stackN; omega) (fun y hy => ⟨_, rfl, ?_, fun _ => ⟨?_, rfl⟩⟩) ?_⟩
      · k_call_by "tw" ⟨wipeD, it_number (u.rep.citem k hy)⟩
      · k_call_by "tw" ⟨wipeD⟩
      · refine u.nStack k (fun x => !(x.1 == i)) fun S1 A1 u1 e1 => ?_
        walk_at "tw"
        rw [l_ret_own (k := 3) rfl]
        walk_at "tw"
        rw [ep]
        exact ⟨rfl, A1, u1, e1⟩
    | stand l w m =>
      k_call_by "tw" ⟨Cd.d, in_str2, u.rep.at, eo, u.rep.isF⟩
      refine ⟨l_ty_own (k := 3) rfl, ?_⟩
      refine wp_use (stand_w u k (c := .stand l w m)) fun v S1 z => ?_
      obtain ⟨rfl, u1⟩ := z
      walk_at "tw"
      refine wo_of (l_app_own (k := 3) rfl rfl (by simp)) ?_
      walk_at "tw"
      rw [l_ret_own (k := 3) rfl]
      walk_at "tw"
      exact ⟨rfl, A, u1, rfl⟩
    | lift s =>
      have hm : T.hasStay s = true := ht
      unfold Tb.hasStay at hm
      rw [any_look] at hm
      obtain ⟨m, hm⟩ := Option.isSome_iff_exists.mp hm
      k_call_by "tw" ⟨Cd.d, in_str2, u.rep.at, u.rep.atF⟩
      refine wo_of (l_ty_dic u.rep.csy) ?_
      walk_at "tw"
      refine u.dropStay hm fun S1 u1 => ?_
      walk_at "tw"
      rw [l_ret_own (k := 3) rfl]
      walk_at "tw"
      exact ⟨rfl, A, u1, rfl⟩
end TB


end
section
set_option Elab.async false
set_option linter.all false
set_option maxRecDepth 100000
set_option autoImplicit false
namespace DM
open PySem
variable {δ : List Sl} {S : Sto} {E : Str → Sto → Prop}
theorem atm1 {α : Type} {l : List α} (h : l ≠ []) : L2.atI l (-1) = some (l.getLast h) := by
  have hp : 0 < l.length := List.length_pos_iff.mpr h
  unfold L2.atI L2.ixN
  rw [if_neg (by decide), if_pos (by omega), Option.bind_some, List.getLast_eq_getElem h, List.getElem?_eq_getElem (by omega)]
  congr 2
  omega
theorem sum_map {xs : List Int} : hSum δ S [.lst (xs.map D.int)] = some (.int xs.sum) := by
  show (intsOf (xs.map D.int)).map _ = _
  rw [intsOf_map]; rfl
theorem min_map {x : Int} {xs : List Int} : hMin δ S [.lst (.int x :: xs.map D.int)] = some (.int (minI x xs)) := by
  show (match ilOf δ S (.lst (.int x :: xs.map D.int)) with | some (i :: r) => some (D.int (minI i r)) | _ => none) = _
  have : ilOf δ S (.lst (.int x :: xs.map D.int)) = some (x :: xs) := by
    show intsOf (.int x :: xs.map D.int) = _
    show (intsOf (xs.map D.int)).map _ = _
    rw [intsOf_map]; rfl
  rw [this]
theorem ins_perm (a : Int) : ∀ l : List Int, (insI a l).Perm (a :: l)
  | [] => .refl _
  | b :: l => by
    unfold insI
    split
    · exact .refl _
    · exact ((ins_perm a l).cons b).trans (.swap ..)
theorem sort_perm : ∀ l : List Int, (sortI l).Perm l
  | [] => .refl _
  | a :: l => (ins_perm a (sortI l)).trans ((sort_perm l).cons a)
theorem ins_sorted (a : Int) : ∀ {l : List Int}, l.Pairwise (· ≤ ·) → (insI a l).Pairwise (· ≤ ·)
  | [], _ => List.pairwise_singleton ..
  | b :: l, h => by
    obtain ⟨h1, h2⟩ := List.pairwise_cons.mp h
    unfold insI
    split
    · rename_i hab
      refine List.pairwise_cons.mpr ⟨fun c hc => ?_, h⟩
      rcases List.mem_cons.mp hc with rfl | hc
      · exact hab
      · exact Int.le_trans hab (h1 c hc)
    · rename_i hab
      refine List.pairwise_cons.mpr ⟨fun c hc => ?_, ins_sorted a h2⟩
      rcases List.mem_cons.mp ((ins_perm a l).mem_iff.mp hc) with rfl | hc
      · omega
      · exact h1 c hc
theorem sort_sorted : ∀ l : List Int, (sortI l).Pairwise (· ≤ ·)
  | [] => .nil
  | a :: l => ins_sorted a (sort_sorted l)
theorem strict_ext : ∀ {xs ys : List Int}, xs.Pairwise (· < ·) → ys.Pairwise (· < ·) → (∀ a, a ∈ xs ↔ a ∈ ys) → xs = ys
  | [], [], _, _, _ => rfl
  | [], y :: ys, _, _, h => nomatch (h y).mpr (List.mem_cons_self ..)
  | x :: xs, [], _, _, h => nomatch (h x).mp (List.mem_cons_self ..)
  | x :: xs, y :: ys, hx, hy, h => by
    obtain ⟨x1, x2⟩ := List.pairwise_cons.mp hx
    obtain ⟨y1, y2⟩ := List.pairwise_cons.mp hy
    have e : x = y := by
      rcases List.mem_cons.mp ((h x).mp (List.mem_cons_self ..)) with e | h1
      · exact e
      · rcases List.mem_cons.mp ((h y).mpr (List.mem_cons_self ..)) with e | h2
        · exact e.symm
        · have := y1 x h1; have := x1 y h2; omega
    subst e
    congr 1
    refine strict_ext x2 y2 fun a => ⟨fun ha => ?_, fun ha => ?_⟩
    · rcases List.mem_cons.mp ((h a).mp (List.mem_cons_of_mem _ ha)) with e | h1
      · have := x1 a ha; omega
      · exact h1
    · rcases List.mem_cons.mp ((h a).mpr (List.mem_cons_of_mem _ ha)) with e | h1
      · have := y1 a ha; omega
      · exact h1
theorem sort_is {xs ys : List Int} (hx : xs.Nodup) (hy : ys.Pairwise (· < ·)) (h : ∀ a, a ∈ xs ↔ a ∈ ys) : sortI xs = ys := by
  have p := sort_perm xs
  have s := sort_sorted xs
  have nd : (sortI xs).Nodup := p.nodup_iff.mpr hx
  refine strict_ext ?_ hy fun a => (p.mem_iff).trans (h a)
  exact (s.and nd).imp fun h => by have := h.1; have := h.2; omega
end DM
namespace TB
open PySem DM PR L2 PySem.Spec
variable {S0 S : Sto} {A0 A : Ro → Nat} {T0 T : Tb} {δ : List Sl}
theorem lays_eq (a b : Lay) : (a.s == b.s) = decide (a = b) := by cases a <;> cases b <;> first | rfl | (simp only [Lay.s]; kernel_rfl)
def layL (l : Lay) (owner : Int) (xs : List (Int × Int × Cd)) : List Int := xs.filterMap fun x => match x.2.2 with
  | .stand l' w m => if l' = l ∧ touches w x.2.1 owner = true then some m else none
  | _ => none
theorem layer_eq (h : Rep S A T) (k : Ks T) (l : Lay) (o : Int) : sem_Floor_layer [.ref (A .fl), .str l.s, .int o] S = .ok (.ol ((T.layer l o).map .int)) S := by
  refine eq_of_wp ?_
  unfold sem_Floor_layer
  rw [wp_sem]
  refine ⟨rfl, ?_⟩
  unfold m_Floor_layer
  k_call_by "tw" ⟨h.atF, keysY_list h, sort_map, k.stayS, src_lst, srcLen_lst⟩
  refine ws_forT T.stays (fun m => .int m.1) (fun i δ S' => S' = S ∧ ∃ a b c, δ = [.v (.ref (A .fl)), .v (.str l.s), .v (.int o), .ol ((layL l o (T.stays.take i)).map .int), a, b, c]) (fun i δ S' h => by rw [src_seq (S := S') seqN_lst, List.map_map]; rfl) (by simp) ⟨rfl, _, _, _, rfl⟩ (fun i δ S' x inv hm => ?_) (fun δ S' inv => ?_)
  · obtain ⟨rfl, a, b, c, rfl⟩ := inv
    have hx := List.mem_of_getElem? hm
    have hi : i < T.stays.length := (List.getElem?_eq_some_iff.mp hm).1
    have ht : T.stays.take (i + 1) = T.stays.take i ++ [x] := by rw [List.take_succ, hm]; rfl
    have hlk : lookI T.stays x.1 = some x := look_of k.stays hx
    obtain ⟨num, ow, cd⟩ := x
    have hk := k.stayK _ hx
    cases cd with
    | stand l' w m =>
      refine ⟨_, rfl, ?_⟩
      have hb : ∀ δ : List Sl, bindT (true, [(Str.ofString "mine", 5), (Str.ofString "card", 6)]) (stD (num, ow, .stand l' w m)) δ = some ((δ.set 5 (.v (.int ow))).set 6 (.v (Cd.stand l' w m).d)) := fun δ => rfl
      have hst : (stD (num, ow, .stand l' w m)).isOwn = false := rfl
      k_call_by "tw" ⟨h.atF, ix_stays h, hlk, hb, hst, Cd.d, lays_eq⟩
      have e1 : layL l o (T.stays.take (i + 1)) = layL l o (T.stays.take i) ++ (if l' = l ∧ touches w ow o = true then [m] else []) := by
        rw [ht]; unfold layL; rw [List.filterMap_append]
        congr 1
        by_cases hc : l' = l ∧ touches w ow o = true
        · simp [hc]
        · rw [if_neg hc]; simp; intro h1; simpa [h1] using hc
      by_cases hl : l' = l
      · k_call_by "tw" ⟨decide_eq_true hl, wp_touches⟩
        cases hc : touches w ow o with
        | true =>
          walk_at "tw"
          refine ⟨l_ty_own (k := 3) rfl, wo_of (l_app_own (k := 3) rfl rfl ?_) ⟨rfl, .v (.int num), .v (.int ow), .v (Cd.stand l' w m).d, ?_⟩⟩
          · have h1 : (layL l o (T.stays.take i)).length ≤ (T.stays.take i).length := List.length_filterMap_le _ _
            rw [List.length_take] at h1
            have := k.stayN
            rw [List.length_map]; omega
          · rw [e1, if_pos ⟨hl, hc⟩]; simp [Cd.d]
        | false =>
          walk_at "tw"
          refine ⟨.v (.int num), .v (.int ow), .v (Cd.stand l' w m).d, ?_⟩
          rw [e1, if_neg (by simp [hc])]; simp [Cd.d]
      · k_call_by "tw" ⟨decide_eq_false hl⟩
        refine ⟨.v (.int num), .v (.int ow), .v (Cd.stand l' w m).d, ?_⟩
        rw [e1, if_neg (by simp [hl])]; simp [Cd.d]
    | _ => cases hk
  · obtain ⟨rfl, a, b, c, rfl⟩ := inv
    walk_at "tw"
    rw [l_ret_own (k := 3) rfl]
    walk_at "tw"
    rw [List.take_length]; rfl
theorem wp_layer (h : Rep S A T) (k : Ks T) {l : Lay} {o : Int} {Q : RV → Sto → Prop} {E : Str → Sto → Prop} : ((@DM.wpK _ (sem_Floor_layer [.ref (A .fl), .str l.s, .int o] S) ⟨Q, E⟩)) = Q (.ol ((T.layer l o).map .int)) S := wp_of_eq (layer_eq h k l o)
theorem lay_len (k : Ks T) {l : Lay} {o : Int} : (T.layer l o).length ≤ 1000000 := Nat.le_trans (List.length_filterMap_le _ _) k.stayN
theorem minL_eq : ∀ (x : Int) (xs : List Int), minI x xs = Tb.minL x xs
  | _, [] => rfl
  | x, i :: xs => minL_eq (if i < x then i else x) xs
theorem power_eq (h : Rep S A T) (k : Ks T) {m : Int × Man} (hm : m ∈ T.men) : sem_Floor_power [.ref (A .fl), .int m.1] S = .ok (.val (.int (T.power m.2))) S := by
  refine eq_of_wp ?_
  unfold sem_Floor_power
  rw [wp_sem]
  refine ⟨rfl, ?_⟩
  unfold m_Floor_power
  have hlk : lookI T.men m.1 = some m := look_of k.men hm
  have cm := h.cman k hm
  have w1 := fun (Q : RV → Sto → Prop) (E : Str → Sto → Prop) => wp_layer h k (l := .set) (o := m.2.owner) (Q := Q) (E := E)
  have w2 := fun (Q : RV → Sto → Prop) (E : Str → Sto → Prop) => wp_layer h k (l := .add) (o := m.2.owner) (Q := Q) (E := E)
  have w3 := fun (Q : RV → Sto → Prop) (E : Str → Sto → Prop) => wp_layer h k (l := .cap) (o := m.2.owner) (Q := Q) (E := E)
  simp only [Lay.s] at w1 w2 w3
  have a1 : ∀ {δ : List Sl} {x : D} {l : Lay}, oAdd δ S (.lst [x]) (.lst ((T.layer l m.2.owner).map D.int)) = some (.lst ([x] ++ (T.layer l m.2.owner).map D.int)) := fun {δ x l} => l_add_lst (by
    have := lay_len k (l := l) (o := m.2.owner)
    simp only [List.length_cons, List.length_nil, List.length_map]; omega)
  k_call_by "tw" ⟨h.atF, ix_men h, hlk, man_size cm, man_owner cm, h.isF, w1, w2, w3, a1⟩
  have hl : L2.atI (D.int m.2.size :: (T.layer .set m.2.owner).map D.int) (-1) = some (.int ((m.2.size :: T.layer .set m.2.owner).getLastD 0)) := by
    rw [atm1 (List.cons_ne_nil _ _)]
    have : (D.int m.2.size :: (T.layer .set m.2.owner).map D.int).getLast (List.cons_ne_nil _ _) = D.int ((m.2.size :: T.layer .set m.2.owner).getLast (List.cons_ne_nil _ _)) := by
      have e : D.int m.2.size :: (T.layer .set m.2.owner).map D.int = (m.2.size :: T.layer .set m.2.owner).map D.int := rfl
      simp only [e]
      rw [List.getLast_map]
    rw [this, List.getLastD_eq_getLast?, List.getLast?_eq_some_getLast (List.cons_ne_nil _ _)]; rfl
  k_call_by "tw" ⟨hl, w2, w3, sum_map, a1, man_owner cm, min_map, h.isF⟩
  congr 2
  exact minL_eq _ _
end TB


end
section
set_option Elab.async false
set_option linter.all false
set_option maxRecDepth 100000
set_option autoImplicit false
namespace TB
open PySem DM PR L2 PySem.Spec
variable {S0 S : Sto} {A0 A : Ro → Nat} {T0 T : Tb} {δ : List Sl}
theorem wp_power (h : Rep S A T) (k : Ks T) {m : Int × Man} (hm : m ∈ T.men) {Q : RV → Sto → Prop} {E : Str → Sto → Prop} : ((@DM.wpK _ (sem_Floor_power [.ref (A .fl), .int m.1] S) ⟨Q, E⟩)) = Q (.val (.int (T.power m.2))) S := wp_of_eq (power_eq h k hm)
theorem ffail_eq (h : Rep S A T) (k : Ks T) : sem_Floor_failing [.ref (A .fl)] S = .ok (.ol ((T.men.filter fun m => decide (T.power m.2 ≤ m.2.harm)).map fun m => .int m.1)) S := by
  refine eq_of_wp ?_
  unfold sem_Floor_failing
  rw [wp_sem]
  refine ⟨rfl, ?_⟩
  unfold m_Floor_failing
  k_call_by "tw" ⟨h.atF, keys_list h, sort_map, k.menS, src_lst, srcLen_lst⟩
  refine ⟨rfl, wp_lcP T.men (fun m => .int m.1) (fun m => decide (T.power m.2 ≤ m.2.harm)) (fun m => .int m.1) (fun i => by rw [src_seq (S := S) seqN_lst, List.map_map]; rfl) (by simp) (by have := k.menN; omega) (fun m hm => ⟨_, rfl, ?_, fun _ => ⟨?_, rfl⟩⟩) ?_⟩
  · have hlk : lookI T.men m.1 = some m := look_of k.men hm
    k_call_by "tw" ⟨wipeD, h.atF, ix_men h, hlk, man_harm (h.cman k hm), h.isF, wp_power h k hm⟩
  · k_call_by "tw" ⟨wipeD⟩
  · exact ⟨rfl, rfl⟩
theorem fof_eq (h : Rep S A T) (k : Ks T) (o : Int) : sem_Floor_of [.ref (A .fl), .int o] S = .ok (.ol ((T.men.filter fun m => decide (m.2.owner = o)).map fun m => .int m.1)) S := by
  refine eq_of_wp ?_
  unfold sem_Floor_of
  rw [wp_sem]
  refine ⟨rfl, ?_⟩
  unfold m_Floor_of
  k_call_by "tw" ⟨h.atF, keys_list h, sort_map, k.menS, src_lst, srcLen_lst⟩
  refine ⟨rfl, wp_lcP T.men (fun m => .int m.1) (fun m => decide (m.2.owner = o)) (fun m => .int m.1) (fun i => by rw [src_seq (S := S) seqN_lst, List.map_map]; rfl) (by simp) (by have := k.menN; omega) (fun m hm => ⟨_, rfl, ?_, fun _ => ⟨?_, rfl⟩⟩) ?_⟩
  · have hlk : lookI T.men m.1 = some m := look_of k.men hm
    k_call_by "tw" ⟨wipeD, h.atF, ix_men h, hlk, man_owner (h.cman k hm)⟩
    by_cases e : m.2.owner = o <;> simp [e]
  · k_call_by "tw" ⟨wipeD⟩
  · exact ⟨rfl, rfl⟩
theorem wp_fof (h : Rep S A T) (k : Ks T) {o : Int} {Q : RV → Sto → Prop} {E : Str → Sto → Prop} : ((@DM.wpK _ (sem_Floor_of [.ref (A .fl), .int o] S) ⟨Q, E⟩)) = Q (.ol ((T.men.filter fun m => decide (m.2.owner = o)).map fun m => .int m.1)) S := wp_of_eq (fof_eq h k o)
theorem wp_ffail (h : Rep S A T) (k : Ks T) {Q : RV → Sto → Prop} {E : Str → Sto → Prop} : ((@DM.wpK _ (sem_Floor_failing [.ref (A .fl)] S) ⟨Q, E⟩)) = Q (.ol ((T.men.filter fun m => decide (T.power m.2 ≤ m.2.harm)).map fun m => .int m.1)) S := wp_of_eq (ffail_eq h k)
theorem notin_ints {xs : List Int} {i : Int} {S : Sto} {δ : List Sl} {k : Nat} (hk : δ[k]? = some (.ol (xs.map D.int))) : cNotIn δ S (.int i) (.own k) = some (!xs.any fun x => decide (x = i)) := by
  unfold cNotIn cIn
  have e1 : dicOf δ S (.own k) = none := by simp only [dicOf, hk]
  have e2 : seqOf δ S (.own k) = some (false, xs.map D.int) := by simp only [seqOf, lstOf, hk, Option.map_some]
  simp only [e1, e2]
  rw [if_pos (by rw [okD_ints]; rfl)]
  show some (!((xs.map D.int).any fun y => eqD y (.int i))) = _
  rw [List.any_map]
  rfl
theorem men_nodup (k : Ks T) {p : Int × Man → Bool} : ((T.men.filter p).map (·.1)).Nodup := by
  refine List.pairwise_map.mpr ((k.men.sublist List.filter_sublist).imp fun h => h)
theorem tfail_eq (h : Rep S A T) (k : Ks T) : sem_Table_failing [.ref (A .obj)] S = .ok (.ol (T.failing.map .int)) S := by
  refine eq_of_wp ?_
  unfold sem_Table_failing
  rw [wp_sem]
  refine ⟨rfl, ?_⟩
  unfold m_Table_failing
  have e0 : ((T.men.filter fun m => decide (T.power m.2 ≤ m.2.harm)).map fun m => D.int m.1) = ((T.men.filter fun m => decide (T.power m.2 ≤ m.2.harm)).map (·.1)).map D.int := by rw [List.map_map]; rfl
  k_call_by "tw" ⟨h.at, h.isF, wp_ffail h k, e0, l_len_ref h.clv, List.length_map, rng1_ok (okI_small (show T.lives.length ≤ 16777216 by have := k.n4; unfold Tb.n at this; omega)), Int.toNat_natCast⟩
  refine ws_forT (List.range T.n) (fun (s : Nat) => .int (s : Int)) (fun i δ S' => S' = S ∧ ∃ (l : List Int) (a b : Sl), δ = [.v (.ref (A .obj)), .ol (l.map .int), a, b] ∧ b.isOwn = false ∧ l.Nodup ∧ l.length ≤ 20 ∧ ∀ x, x ∈ l ↔ ∃ m ∈ T.men, m.1 = x ∧ (T.power m.2 ≤ m.2.harm ∨ ((m.2.owner < i) ∧ T.life m.2.owner = 0)))
    (fun i δ S' h => by rw [src_rgn]; rfl) (by show (List.range T.n).length < T.lives.length + 1; simp [Tb.n]) ⟨rfl, _, _, _, rfl, rfl, men_nodup k, ?_, fun x => ?_⟩ (fun i δ S' x inv hm => ?_) (fun δ S' inv => ?_)
  · rw [List.length_map]; exact Nat.le_trans (List.length_filter_le _ _) k.menN
  · simp only [List.mem_map, List.mem_filter, decide_eq_true_eq]
    constructor
    · rintro ⟨m, ⟨h1, h2⟩, rfl⟩; exact ⟨m, h1, rfl, .inl h2⟩
    · rintro ⟨m, h1, rfl, h2 | ⟨h2, _⟩⟩
      · exact ⟨m, ⟨h1, h2⟩, rfl⟩
      · have := (k.manO m h1).1; omega
  · obtain ⟨rfl, l, a, b, rfl, hb, nd, ll, mem⟩ := inv
    have hi : i < T.n := by have := (List.getElem?_eq_some_iff.mp hm).1; simpa using this
    have hx : x = i := by rw [List.getElem?_range hi] at hm; cases hm; rfl
    subst hx
    refine ⟨_, rfl, ?_⟩
    k_call_by "tw" ⟨h.at, l_ix_ref h.clv, lives_at (T := T) (s := (x : Int)) (by omega) (by omega)⟩
    refine wif_split (fun hz => ?_) (fun hz => ?_)
    · have hz : T.life x = 0 := by simpa using hz
      k_call_by "tw" ⟨h.at, h.isF, wp_fof h k, src_lst, srcLen_lst⟩
      refine ⟨l_ty_own (k := 1) rfl, by simp [noOwnAt, hb], ?_⟩
      refine wp_lcP (T.men.filter fun m => decide (m.2.owner = (x : Int))) (fun m => .int m.1) (fun m => !l.any fun y => decide (y = m.1)) (fun m => .int m.1) (fun i => src_seq seqN_lst i) (by rw [List.length_map]; exact Nat.lt_succ_self _) (by have := k.menN; have := List.length_filter_le (fun m : Int × Man => decide (m.2.owner = (x : Int))) T.men; omega) (fun m hm => ⟨_, rfl, ?_, fun _ => ⟨?_, rfl⟩⟩) ?_
      · k_call_by "tw" ⟨wipeD, notin_ints (δ := [Sl.v (.ref (A .obj)), .ol (l.map .int), .v (.int x), .v (.int m.1)]) (k := 1) (xs := l) rfl⟩
      · k_call_by "tw" ⟨wipeD⟩
      · have hnew : ((T.men.filter fun m => decide (m.2.owner = (x : Int))).filter fun m => !l.any fun y => decide (y = m.1)).map (fun m => D.int m.1) = (((T.men.filter fun m => decide (m.2.owner = (x : Int))).filter fun m => !l.any fun y => decide (y = m.1)).map (·.1)).map D.int := by rw [List.map_map]; rfl
        rw [hnew]
        have hln : (((T.men.filter fun m => decide (m.2.owner = (x : Int))).filter fun m => !l.any fun y => decide (y = m.1)).map (·.1)).length ≤ 20 := by
          rw [List.length_map]
          exact Nat.le_trans (List.length_filter_le _ _) (Nat.le_trans (List.length_filter_le _ _) k.menN)
        have hmm : ∀ z, z ∈ ((T.men.filter fun m => decide (m.2.owner = (x : Int))).filter fun m => !l.any fun y => decide (y = m.1)).map (·.1) ↔ ∃ m ∈ T.men, m.1 = z ∧ m.2.owner = x ∧ z ∉ l := fun z => by
          simp only [List.mem_map, List.mem_filter, decide_eq_true_eq, Bool.not_eq_true', List.any_eq_false]
          constructor
          · rintro ⟨m, ⟨⟨h1, h2⟩, h3⟩, rfl⟩; exact ⟨m, h1, rfl, h2, fun hc => h3 _ hc rfl⟩
          · rintro ⟨m, h1, rfl, h2, h3⟩; exact ⟨m, ⟨⟨h1, h2⟩, fun y hy e => h3 (e ▸ hy)⟩, rfl⟩
        have hnn : (((T.men.filter fun m => decide (m.2.owner = (x : Int))).filter fun m => !l.any fun y => decide (y = m.1)).map (·.1)).Nodup := by
          rw [List.filter_filter]; exact men_nodup k
        generalize ((T.men.filter fun m => decide (m.2.owner = (x : Int))).filter fun m => !l.any fun y => decide (y = m.1)).map (·.1) = nw at hln hmm hnn ⊢
        refine wo_of (l_ext_own (k := 1) rfl (by simp only [List.length_map]; omega)) ⟨rfl, l ++ nw, .v (.int x), b, by simp, hb, ?_, ?_, fun z => ?_⟩
        · exact List.nodup_append.mpr ⟨nd, hnn, fun a ha b hb e => by subst e; obtain ⟨_, _, _, _, h5⟩ := (hmm a).mp hb; exact h5 ha⟩
        · -- all of them are units
          have : (l ++ nw).Nodup := List.nodup_append.mpr ⟨nd, hnn, fun a ha b hb e => by subst e; obtain ⟨_, _, _, _, h5⟩ := (hmm a).mp hb; exact h5 ha⟩
          have sub : (l ++ nw) ⊆ T.men.map (·.1) := fun z hz => by
            rcases List.mem_append.mp hz with h1 | h1
            · obtain ⟨m, h2, h3, _⟩ := (mem z).mp h1; exact List.mem_map.mpr ⟨m, h2, h3⟩
            · obtain ⟨m, h2, h3, _⟩ := (hmm z).mp h1; exact List.mem_map.mpr ⟨m, h2, h3⟩
          have := this.length_le_of_subset sub
          rw [List.length_map] at this
          exact Nat.le_trans this k.menN
        · rw [List.mem_append, mem, hmm]
          constructor
          · rintro (⟨m, h1, h2, h3 | ⟨h3, h4⟩⟩ | ⟨m, h1, h2, h3, h4⟩)
            · exact ⟨m, h1, h2, .inl h3⟩
            · exact ⟨m, h1, h2, .inr ⟨by omega, h4⟩⟩
            · exact ⟨m, h1, h2, .inr ⟨by omega, by rw [h3]; exact hz⟩⟩
          · rintro ⟨m, h1, h2, h3 | ⟨h3, h4⟩⟩
            · exact .inl ⟨m, h1, h2, .inl h3⟩
            · by_cases hc : z ∈ l
              · exact .inl ((mem z).mp hc)
              · by_cases he : m.2.owner = x
                · exact .inr ⟨m, h1, h2, he, hc⟩
                · exact .inl ⟨m, h1, h2, .inr ⟨by omega, h4⟩⟩
    · have hz : ¬ T.life x = 0 := by simpa using hz
      refine ⟨rfl, l, .v (.int x), b, rfl, hb, nd, ll, fun z => (mem z).trans ?_⟩
      constructor
      · rintro ⟨m, h1, h2, h3 | ⟨h3, h4⟩⟩
        · exact ⟨m, h1, h2, .inl h3⟩
        · exact ⟨m, h1, h2, .inr ⟨by omega, h4⟩⟩
      · rintro ⟨m, h1, h2, h3 | ⟨h3, h4⟩⟩
        · exact ⟨m, h1, h2, .inl h3⟩
        · refine ⟨m, h1, h2, .inr ⟨?_, h4⟩⟩
          by_cases he : m.2.owner = x
          · rw [he] at h4; exact absurd h4 hz
          · omega
  · obtain ⟨rfl, l, a, b, rfl, hb, nd, ll, mem⟩ := inv
    have hso : hSortI [Sl.v (.ref (A .obj)), .ol (l.map .int), a, b] S' [.own 1] = some ((sortI l).map D.int) := by
      show (intsOf (l.map D.int)).map _ = _
      rw [intsOf_map]; rfl
    k_call_by "tw" ⟨hso⟩
    congr 2
    refine sort_is nd ?_ fun z => ?_
    · exact List.pairwise_map.mpr (k.menL.sublist List.filter_sublist)
    · rw [mem z]
      unfold Tb.failing
      simp only [List.mem_map, List.mem_filter, List.length_range]
      constructor
      · rintro ⟨m, h1, h2, h3 | ⟨_, h4⟩⟩
        · exact ⟨m, ⟨h1, by unfold Tb.fails; rw [decide_eq_true h3]; rfl⟩, h2⟩
        · exact ⟨m, ⟨h1, by unfold Tb.fails; rw [decide_eq_true h4, Bool.or_true]⟩, h2⟩
      · rintro ⟨m, ⟨h1, h2⟩, h3⟩
        unfold Tb.fails at h2
        rcases Bool.or_eq_true_iff.mp h2 with h4 | h4
        · exact ⟨m, h1, h3, .inl (of_decide_eq_true h4)⟩
        · exact ⟨m, h1, h3, .inr ⟨(k.manO m h1).2, of_decide_eq_true h4⟩⟩
theorem wp_tfail (h : Rep S A T) (k : Ks T) {Q : RV → Sto → Prop} {E : Str → Sto → Prop} : ((@DM.wpK _ (sem_Table_failing [.ref (A .obj)] S) ⟨Q, E⟩)) = Q (.ol (T.failing.map .int)) S := wp_of_eq (tfail_eq h k)
end TB


end
section
set_option Elab.async false
set_option linter.all false
set_option maxRecDepth 100000
set_option autoImplicit false
namespace DM
open PySem
variable {δ : List Sl} {S : Sto} {E : Str → Sto → Prop} {N : List Sl → Sto → Prop} {T : RV → Sto → Prop}
theorem ws_while {c : DM Bool} {body : DS} {N : List Sl → Sto → Prop} {T : RV → Sto → Prop} {E : Str → Sto → Prop} (I : Nat → List Sl → Sto → Prop)
    (step : ∀ m δ S, I m δ S → (@DM.wpK _ (c δ S) ⟨(fun b S1 => (@DM.wifK b ⟨((@DM.wsK (body δ S1) ⟨(fun δ' S' => ∃ m', m' < m ∧ I m' δ' S'), T, E⟩)), (N δ S1)⟩)), E⟩)) :
    ∀ (fuel m : Nat) (δ : List Sl) (S : Sto), m < fuel → I m δ S → (@DM.wsK (whL c body fuel δ S) ⟨N, T, E⟩)
  | 0, m, δ, S, h, _ => absurd h (Nat.not_lt_zero _)
  | fuel + 1, m, δ, S, h, inv => by
    have w := step m δ S inv
    unfold whL
    rw [ws_bind]
    refine wp_mono w (fun b S1 z => ?_) fun _ _ z => z
    cases b with
    | false => exact z
    | true =>
      have z : (@DM.wsK (body δ S1) ⟨(fun δ' S' => ∃ m', m' < m ∧ I m' δ' S'), T, E⟩) := z
      show (@DM.wsK (match body δ S1 with
        | .nx δ2 S2 => whL c body fuel δ2 S2
        | .cnt δ2 S2 => whL c body fuel δ2 S2
        | .brk δ2 S2 => .nx δ2 S2
        | r => r) ⟨N, T, E⟩)
      cases hb : body δ S1 with
      | nx δ2 S2 =>
        rw [hb] at z
        obtain ⟨m', h1, h2⟩ := z
        exact ws_while I step fuel m' δ2 S2 (by omega) h2
      | ret v S2 => rw [hb] at z; exact z
      | exc c S2 => rw [hb] at z; exact z
      | brk _ _ => rw [hb] at z; exact z.elim
      | cnt _ _ => rw [hb] at z; exact z.elim
      | stuck => rw [hb] at z; exact z.elim
theorem ws_whileS {c : DM Bool} {body : DS} : ((@DM.wsK (sWhile c body δ S) ⟨N, T, E⟩)) = (@DM.wsK (whL c body 1000000 δ S) ⟨N, T, E⟩) := rfl
theorem ne_nil {xs : List Int} {δ : List Sl} {S : Sto} : cNe δ S (.lst (xs.map D.int)) (.lst []) = some (decide (xs ≠ [])) := by
  unfold cNe
  cases xs with
  | nil => rfl
  | cons a xs => rfl
end DM
namespace TB
open PySem DM PR L2 PySem.Spec
variable {S0 S : Sto} {A0 A : Ro → Nat} {T0 T : Tb} {δ : List Sl}
theorem Ks.filt (k : Ks T) {p : Int × Man → Bool} {d : List (Int × Cd)} : Ks { T with men := T.men.filter p, due := d } :=
  ⟨k.menL.sublist List.filter_sublist, k.stayL, k.stackL, fun m h => k.menc m (List.mem_filter.mp h).1, k.stayc, k.stackc, Nat.le_trans (List.length_filter_le _ _) k.menN, k.stackN, k.stayN, k.n4, k.n0, k.hn, k.stayK, fun m h => k.manO m (List.mem_filter.mp h).1, k.stayO, k.itO⟩
theorem Ks.fstay (k : Ks T) {l : List (Int × Int × Cd)} (h : l.Sublist T.stays) : Ks { T with stays := l } :=
  ⟨k.menL, k.stayL.sublist h, k.stackL, k.menc, fun m hm => k.stayc m (h.subset hm), k.stackc, k.menN, k.stackN, Nat.le_trans h.length_le k.stayN, k.n4, k.n0, k.hn, fun m hm => k.stayK m (h.subset hm), k.manO, fun m hm => k.stayO m (h.subset hm), k.itO⟩
theorem Ks.fstack (k : Ks T) {l : List (Int × Int × Cd)} (h : l.Sublist T.stack) : Ks { T with stack := l } :=
  ⟨k.menL, k.stayL, k.stackL.sublist h, k.menc, k.stayc, fun m hm => k.stackc m (h.subset hm), k.menN, Nat.le_trans h.length_le k.stackN, k.stayN, k.n4, k.n0, k.hn, k.stayK, k.manO, k.stayO, fun m hm => k.itO m (h.subset hm)⟩
theorem Ks.put (k : Ks T) {o : Int} {c : Cd} (hl : T.stack.length < 40) (ho : 0 ≤ o ∧ o < T.n) : Ks (T.put o c) := by
  refine ⟨k.menL, k.stayL, ?_, k.menc, k.stayc, fun m hm => ?_, k.menN, ?_, k.stayN, k.n4, k.n0, k.hn, k.stayK, k.manO, k.stayO, fun m hm => ?_⟩
  · refine List.pairwise_append.mpr ⟨k.stackL, List.pairwise_singleton .., fun a ha b hb => ?_⟩
    rw [List.mem_singleton.mp hb]; exact k.stackc a ha
  · show m.1 < T.count + 1
    rcases List.mem_append.mp hm with h | h
    · have := k.stackc m h; omega
    · rw [List.mem_singleton.mp h]; show T.count < T.count + 1; omega
  · show (T.stack ++ [_]).length ≤ 40
    rw [List.length_append, List.length_singleton]; omega
  · rcases List.mem_append.mp hm with h | h
    · exact k.itO m h
    · rw [List.mem_singleton.mp h]; exact ho
theorem clear_w (u : Upd S0 A0 T0 S A T) (k : Ks T) :
    (@DM.wpK _ (sem_Table_clear_out [.ref (A .obj)] S) ⟨(fun v S' => v = .val .non ∧ ∃ A', Upd S0 A0 T0 S' A' T.clearOut ∧ A' .obj = A .obj), (fun _ _ => False)⟩) := by
  unfold sem_Table_clear_out
  rw [wp_sem]
  refine ⟨rfl, ?_⟩
  unfold m_Table_clear_out
  k_call_by "tw" ⟨u.rep.at, src_ref u.rep.cst, srcLen_ref u.rep.cst⟩
  refine ⟨rfl, wp_lcP T.stack (fun x => .ref (A (.item x.1))) (fun x => decide (0 < T.life x.2.1)) (fun x => .ref (A (.item x.1))) (fun j => src_seq (seqN_ref u.rep.cst) j) (by rw [List.length_map]; exact Nat.lt_succ_self _) (by have := k.stackN; omega) (fun y hy => ⟨_, rfl, ?_, fun _ => ⟨?_, rfl⟩⟩) ?_⟩
  · k_call_by "tw" ⟨wipeD, it_owner (u.rep.citem k hy), u.rep.at, l_ix_ref u.rep.clv, lives_at (k.itO y hy).1 (k.itO y hy).2⟩
  · k_call_by "tw" ⟨wipeD⟩
  · refine u.nStack k (fun x => decide (0 < T.life x.2.1)) fun S1 A1 u1 e1 => ?_
    have k1 : Ks { T with stack := T.stack.filter fun x => decide (0 < T.life x.2.1) } := k.fstack List.filter_sublist
    rw [← e1]
    k_call_by "tw" ⟨u1.rep.at, u1.rep.atF, keysY_list u1.rep, sort_map, k1.stayS, src_lst, srcLen_lst⟩
    have pd : T.stays.Pairwise fun a b => a.1 ≠ b.1 := k.stays
    refine ws_forT T.stays (fun m => .int m.1) (fun i δ S' => ∃ a b, δ = [.v (.ref (A1 .obj)), a, b] ∧ Upd S0 A0 T0 S' A1 { T with stack := T.stack.filter fun x => decide (0 < T.life x.2.1), stays := ((T.stays.take i).filter fun x => decide (T.life x.2.1 ≠ 0)) ++ T.stays.drop i })
      (fun i δ S' h => by rw [src_seq (S := S') seqN_lst, List.map_map]; rfl) (by simp) ⟨_, _, rfl, u1⟩ (fun i δ S' x inv hm => ?_) (fun δ S' inv => ?_)
    · obtain ⟨a, b, rfl, u2⟩ := inv
      have hi : i < T.stays.length := (List.getElem?_eq_some_iff.mp hm).1
      have hx := List.mem_of_getElem? hm
      have hd : T.stays.drop i = x :: T.stays.drop (i + 1) := by rw [List.drop_eq_getElem_cons hi, (List.getElem?_eq_some_iff.mp hm).2]
      have ht : T.stays.take (i + 1) = T.stays.take i ++ [x] := by rw [List.take_succ, hm]; rfl
      have sub : (((T.stays.take i).filter fun x => decide (T.life x.2.1 ≠ 0)) ++ T.stays.drop i).Sublist T.stays := by
        have := (List.filter_sublist (p := fun x : Int × Int × Cd => decide (T.life x.2.1 ≠ 0)) (l := T.stays.take i)).append (List.Sublist.refl (T.stays.drop i))
        rwa [List.take_append_drop] at this
      have pd2 := pd.sublist sub
      have hlk : lookI (((T.stays.take i).filter fun x => decide (T.life x.2.1 ≠ 0)) ++ T.stays.drop i) x.1 = some x := look_of pd2 (by rw [hd]; simp)
      obtain ⟨o0, o1⟩ := k.stayO x hx
      have hst : ∀ (δ : List Sl), oIx δ S' (stD x) (.int 0) = some (.int x.2.1) := fun δ => by unfold stD; rw [l_ix_tup]; exact at0
      refine ⟨_, rfl, ?_⟩
      k_call_by "tw" ⟨u2.rep.at, u2.rep.atF, ix_stays u2.rep, hlk, hst, l_ix_ref u2.rep.clv⟩
      have hlv : L2.atI (T.lives.map D.int) x.2.1 = some (.int (T.life x.2.1)) := lives_at o0 o1
      k_call_by "tw" ⟨hlv⟩
      refine wif_split (fun hz => ?_) (fun hz => ?_)
      · have hz : T.life x.2.1 = 0 := by simpa using hz
        k_call_by "tw" ⟨u2.rep.at, u2.rep.atF⟩
        refine wo_of (l_ty_dic u2.rep.csy) ?_
        walk_at "tw"
        refine u2.dropStay hlk fun S3 u3 => ?_
        refine ⟨_, _, rfl, ?_⟩
        have e : (((T.stays.take i).filter fun x => decide (T.life x.2.1 ≠ 0)) ++ T.stays.drop i).filter (fun y => decide (y.1 ≠ x.1)) = ((T.stays.take (i + 1)).filter fun x => decide (T.life x.2.1 ≠ 0)) ++ T.stays.drop (i + 1) := by
          rw [hd] at pd2 ⊢
          obtain ⟨_, p2, p3⟩ := List.pairwise_append.mp pd2
          obtain ⟨p4, _⟩ := List.pairwise_cons.mp p2
          rw [List.filter_append, List.filter_cons_of_neg (by simp), ht, List.filter_append, List.filter_cons_of_neg (by simp [hz])]
          rw [List.filter_nil, List.append_nil]
          congr 1
          · exact List.filter_eq_self.mpr fun y hy => by simpa using p3 y hy x (List.mem_cons_self ..)
          · exact List.filter_eq_self.mpr fun y hy => by simpa using (p4 y hy).symm
        have u4 : Upd S0 A0 T0 S3 A1 _ := u3
        dsimp only at u4
        rw [e] at u4
        exact u4
      · have hz : ¬ T.life x.2.1 = 0 := by simpa using hz
        refine ⟨_, _, rfl, ?_⟩
        have e : ((T.stays.take (i + 1)).filter fun x => decide (T.life x.2.1 ≠ 0)) ++ T.stays.drop (i + 1) = ((T.stays.take i).filter fun x => decide (T.life x.2.1 ≠ 0)) ++ T.stays.drop i := by
          rw [hd, ht, List.filter_append, List.filter_cons_of_pos (by simp [hz])]; simp
        rw [e]
        exact u2
    · obtain ⟨a, b, rfl, u2⟩ := inv
      refine ⟨rfl, A1, ?_, rfl⟩
      rw [List.take_length, List.drop_length, List.append_nil] at u2
      exact u2
end TB


end
section
set_option Elab.async false
set_option linter.all false
set_option maxRecDepth 100000
set_option autoImplicit false
namespace TB
open PySem DM PR L2 PySem.Spec
variable {S0 S : Sto} {A0 A : Ro → Nat} {T0 T : Tb} {δ : List Sl}
theorem rep_succ (f : Tb → Tb) : ∀ (i : Nat) (T : Tb), Tb.rep f (i + 1) T = f (Tb.rep f i T)
  | 0, T => rfl
  | i + 1, T => by
    show Tb.rep f (i + 1) (f T) = f (Tb.rep f i (f T))
    exact rep_succ f i (f T)
/-- goes, so many times -/
theorem goes_same : ∀ (i : Nat) (T : Tb), Same T (Tb.rep (fun T => T.happens .goes) i T) ∧ (Tb.rep (fun T => T.happens .goes) i T).lives = T.lives
  | 0, T => ⟨⟨rfl, rfl, rfl, rfl, rfl, rfl, rfl⟩, rfl⟩
  | i + 1, T => by
    obtain ⟨h1, h2⟩ := goes_same i (T.happens .goes)
    exact ⟨(⟨rfl, rfl, rfl, rfl, rfl, rfl, rfl⟩ : Same T (T.happens .goes)).trans h1, h2⟩
theorem goes_due (k : Ks T) : ∀ i : Nat, (Tb.rep (fun T => T.happens .goes) i T).due.length ≤ T.due.length + 20 * i
  | 0 => Nat.le_refl _
  | i + 1 => by
    rw [rep_succ]
    have h1 := goes_due k i
    have k1 := (goes_same i T).1.ks k
    have := due_len k1 .goes
    omega
theorem rep_eta (i : Nat) (T : Tb) : Tb.rep (fun T => T.happens .goes) i T = { T with due := (Tb.rep (fun T => T.happens .goes) i T).due } := by
  induction i generalizing T with
  | zero => rfl
  | succ i ih => exact ih (T.happens .goes)
theorem failing_len (k : Ks T) : T.failing.length ≤ T.men.length := by
  unfold Tb.failing; rw [List.length_map]; exact List.length_filter_le _ _
theorem failing_sub {x : Int} (h : x ∈ T.failing) : ∃ m ∈ T.men, m.1 = x ∧ T.fails m.2 = true := by
  unfold Tb.failing at h
  obtain ⟨m, hm, rfl⟩ := List.mem_map.mp h
  obtain ⟨h1, h2⟩ := List.mem_filter.mp hm
  exact ⟨m, h1, rfl, h2⟩
theorem men_left (k : Ks T) : (T.men.filter fun m => !T.failing.contains m.1) = T.men.filter fun m => !T.fails m.2 := by
  refine List.filter_congr fun m hm => ?_
  congr 1
  cases h : T.fails m.2 with
  | true =>
    rw [List.contains_iff_mem]
    exact List.mem_map.mpr ⟨m, List.mem_filter.mpr ⟨hm, h⟩, rfl⟩
  | false =>
    have : ¬ m.1 ∈ T.failing := fun hc => by
      obtain ⟨m', h1, h2, h3⟩ := failing_sub hc
      have e : m' = m := by
        have a := look_of k.men h1
        have b := look_of k.men hm
        rw [h2, b] at a; exact (Option.some.inj a).symm
      rw [e, h] at h3; cases h3
    simpa using this
theorem flen {α : Type} (p : α → Bool) : ∀ l : List α, (l.filter fun x => !p x).length + (l.filter p).length = l.length
  | [] => rfl
  | a :: l => by
    have := flen p l
    cases h : p a with
    | true => rw [List.filter_cons_of_neg (by simp [h]), List.filter_cons_of_pos h]; simp only [List.length_cons]; omega
    | false => rw [List.filter_cons_of_pos (by simp [h]), List.filter_cons_of_neg (by simp [h])]; simp only [List.length_cons]; omega
theorem fall_men (k : Ks T) (h : T.failing ≠ []) : T.fallOnce.men.length + T.failing.length = T.men.length := by
  have e : T.fallOnce.men = T.men.filter fun m => !T.fails m.2 := by
    unfold Tb.fallOnce
    show (Tb.rep _ _ T).men.filter _ = _
    rw [(goes_same _ T).1.men]
  rw [e]
  unfold Tb.failing
  rw [List.length_map]
  exact flen _ _
theorem fallOnce_ks (k : Ks T) : Ks T.fallOnce := by
  unfold Tb.fallOnce
  dsimp only
  rw [rep_eta]
  exact k.filt
theorem row_snoc (s : Int) (d : Int × Cd) : ∀ (l : List (Int × Cd)) (T : Tb), Tb.waitRow s (l ++ [d]) T = ((Tb.waitRow s l T).1 ++ (Tb.waitOne s (Tb.waitRow s l T).2 d).1, (Tb.waitOne s (Tb.waitRow s l T).2 d).2)
  | [], T => by simp [Tb.waitRow]
  | a :: l, T => by
    show ((Tb.waitOne s T a).1 ++ (Tb.waitRow s (l ++ [d]) (Tb.waitOne s T a).2).1, (Tb.waitRow s (l ++ [d]) (Tb.waitOne s T a).2).2) = _
    rw [row_snoc s d l]
    simp [Tb.waitRow]
theorem all_snoc (due : List (Int × Cd)) (s : Int) : ∀ (l : List Int) (T : Tb), Tb.waitAll due (l ++ [s]) T = ((Tb.waitAll due l T).1 ++ (Tb.waitRow s due (Tb.waitAll due l T).2).1, (Tb.waitRow s due (Tb.waitAll due l T).2).2)
  | [], T => by simp [Tb.waitAll]
  | a :: l, T => by
    show ((Tb.waitRow a due T).1 ++ (Tb.waitAll due (l ++ [s]) (Tb.waitRow a due T).2).1, (Tb.waitAll due (l ++ [s]) (Tb.waitRow a due T).2).2) = _
    rw [all_snoc due s l]
    simp [Tb.waitAll]
/-- what the waits keep -/
structure WI (S0 : Sto) (A0 : Ro → Nat) (T0 : Tb) (A2 : Ro → Nat) (T2 : Tb) (S : Sto) (A : Ro → Nat) (r : List Nt × Tb) : Prop where
  u : Upd S0 A0 T0 S A r.2
  k : Ks r.2
  a : ∀ x, (∀ n, x ≠ .item n) → A x = A2 x
  due : r.2.due = T2.due
  n : r.2.n = T2.n
  len : r.1.length ≤ r.2.stack.length
theorem c_UN : c_ITEMS = .int 40 := rfl
/-- what settle_down's loop keeps -/
structure FallI (S0 : Sto) (A0 : Ro → Nat) (T0 : Tb) (A : Ro → Nat) (T : Tb) (m : Nat) (δ : List Sl) (S : Sto) : Prop where
  ex : ∃ (T1 : Tb) (ns : List Nt) (a3 a4 a5 a6 a7 : Sl), δ = [.v (.ref (A .obj)), .ol (ns.map Nt.d), .v (.lst (T1.failing.map .int)), a3, a4, a5, a6, a7] ∧ Upd S0 A0 T0 S A T1 ∧ Ks T1 ∧
    Tb.fall (T.men.length + 1) T = (ns ++ (Tb.fall m T1).1, (Tb.fall m T1).2) ∧ T1.men.length < m ∧ ns.length + T1.men.length ≤ 20 ∧ T1.due.length + 20 * T1.men.length ≤ T.due.length + 400
theorem settle_w (u : Upd S0 A0 T0 S A T) (k : Ks T) (hd : T.due.length ≤ 1000) :
    (@DM.wpK _ (sem_Table_settle_down [.ref (A .obj)] S) ⟨(fun v S' => v = .ol (T.settleDown.1.map Nt.d) ∧ Ks T.settleDown.2 ∧ T.settleDown.1.length ≤ 60 ∧ ∃ A', Upd S0 A0 T0 S' A' T.settleDown.2 ∧ A' .obj = A .obj), (fun _ _ => False)⟩) := by
  unfold sem_Table_settle_down
  rw [wp_sem]
  refine ⟨rfl, ?_⟩
  unfold m_Table_settle_down
  k_call_by "tw" ⟨u.rep.isT, wp_tfail u.rep k, ws_whileS⟩
  refine ws_while (FallI S0 A0 T0 A T) (fun m δ S1 inv => ?_) 1000000 (T.men.length + 1) _ _ (by have := k.menN; omega) ⟨T, [], .no, .no, .no, .no, .no, rfl, u, k, rfl, Nat.lt_succ_self _, by have := k.menN; simpa using this, by have := k.menN; omega⟩
  obtain ⟨T1, ns, a3, a4, a5, a6, a7, rfl, u1, k1, hf, hm, hn, hdu⟩ := inv
  k_call_by "tw" ⟨ne_nil⟩
  refine wif_split (fun hc => ?_) (fun hc => ?_)
  · -- a round
    have hne : T1.failing ≠ [] := of_decide_eq_true hc
    have hfl := failing_len k1
    have h20 := k1.menN
    k_call_by "tw" ⟨src_lst, srcLen_lst⟩
    refine ws_forT T1.failing D.int (fun i δ S' => ∃ b5, δ = [.v (.ref (A .obj)), .ol (ns.map Nt.d), .v (.lst (T1.failing.map .int)), a3, a4, b5, a6, a7] ∧ Upd S0 A0 T0 S' A (Tb.rep (fun T => T.happens .goes) i T1))
      (fun i δ S' h => src_seq seqN_lst i) (by rw [List.length_map]; exact Nat.lt_succ_self _) ⟨_, rfl, u1⟩ (fun i δ S' x inv hx => ?_) (fun δ S' inv => ?_)
    · obtain ⟨b5, rfl, u2⟩ := inv
      have hi : i < T1.failing.length := (List.getElem?_eq_some_iff.mp hx).1
      refine ⟨_, rfl, ?_⟩
      k_call_by "tw" ⟨u2.rep.isT⟩
      refine wp_use (happens_w u2 ((goes_same i T1).1.ks k1) .goes (by have := goes_due k1 i; omega)) fun v S2 z => ?_
      obtain ⟨rfl, u3⟩ := z
      walk_at "tw"
      refine ⟨.v (.int x), rfl, ?_⟩
      rw [rep_succ]; exact u3
    · obtain ⟨b5, rfl, u2⟩ := inv
      have sm := (goes_same T1.failing.length T1).1
      have lvs := (goes_same T1.failing.length T1).2
      have dd := goes_due k1 T1.failing.length
      have eta := rep_eta T1.failing.length T1
      have fo : T1.fallOnce = { Tb.rep (fun T => T.happens .goes) T1.failing.length T1 with men := (Tb.rep (fun T => T.happens .goes) T1.failing.length T1).men.filter fun m => !T1.fails m.2 } := rfl
      generalize hT2 : Tb.rep (fun T => T.happens .goes) T1.failing.length T1 = T2 at u2 sm lvs dd eta fo
      have k2 := sm.ks k1
      k_call_by "tw" ⟨src_lst, srcLen_lst⟩
      refine ws_forT T1.failing D.int (fun i δ S' => ∃ b5, δ = [.v (.ref (A .obj)), .ol ((ns ++ (T1.failing.take i).map Nt.goes).map Nt.d), .v (.lst (T1.failing.map .int)), a3, a4, b5, a6, a7] ∧ Upd S0 A0 T0 S' A { T2 with men := T2.men.filter fun m => !(T1.failing.take i).contains m.1 })
        (fun i δ S' h => src_seq seqN_lst i) (by rw [List.length_map]; exact Nat.lt_succ_self _) ⟨b5, by simp, ?_⟩ (fun i δ S' x inv hx => ?_) (fun δ S' inv => ?_)
      · have : (T2.men.filter fun m => !(T1.failing.take 0).contains m.1) = T2.men := List.filter_eq_self.mpr fun m hm => by simp
        rw [this]; exact u2
      · obtain ⟨b5, rfl, u3⟩ := inv
        have hi : i < T1.failing.length := (List.getElem?_eq_some_iff.mp hx).1
        have htk : T1.failing.take (i + 1) = T1.failing.take i ++ [x] := by rw [List.take_succ, hx]; rfl
        have k3 : Ks { T2 with men := T2.men.filter fun m => !(T1.failing.take i).contains m.1 } := k2.filt
        obtain ⟨mm, m1, m2, m3⟩ := failing_sub (List.mem_of_getElem? hx)
        have sf : T1.failing.Pairwise (· < ·) := List.pairwise_map.mpr (k1.menL.sublist List.filter_sublist)
        have hnot : x ∉ T1.failing.take i := fun hc => by
          have e : T1.failing = T1.failing.take i ++ x :: T1.failing.drop (i + 1) := by
            conv => lhs; rw [← List.take_append_drop i T1.failing, List.drop_eq_getElem_cons hi, (List.getElem?_eq_some_iff.mp hx).2]
          rw [e] at sf
          have := (List.pairwise_append.mp sf).2.2 x hc x (List.mem_cons_self ..)
          omega
        have hlk : lookI (T2.men.filter fun m => !(T1.failing.take i).contains m.1) x = some mm := by
          rw [← m2]
          refine look_of (k2.men.sublist List.filter_sublist) (List.mem_filter.mpr ⟨by rw [sm.men]; exact m1, ?_⟩)
          rw [m2]
          simpa using hnot
        refine ⟨_, rfl, ?_⟩
        k_call_by "tw" ⟨u3.rep.at, u3.rep.atF⟩
        refine wo_of (l_ty_dic u3.rep.cmn) ?_
        walk_at "tw"
        refine u3.dropMan k3 hlk fun S4 u4 => ?_
        walk_at "tw"
        refine ⟨l_ty_own (k := 1) rfl, wo_of (l_app_own (k := 1) rfl rfl ?_) ?_⟩
        · rw [List.length_map, List.length_append, List.length_map, List.length_take]; omega
        · refine ⟨.v (.int x), by rw [htk]; simp [Nt.d], ?_⟩
          have e : (T2.men.filter fun m => !(T1.failing.take i).contains m.1).filter (fun m => decide (m.1 ≠ x)) = T2.men.filter fun m => !(T1.failing.take (i + 1)).contains m.1 := by
            rw [List.filter_filter, htk]
            refine List.filter_congr fun m hm => ?_
            by_cases hc : m.1 = x
            · simp [hc]
            · simp [hc]
          have u5 : Upd S0 A0 T0 S4 A _ := u4
          dsimp only at u5
          rw [e] at u5
          exact u5
      · obtain ⟨b5, rfl, u3⟩ := inv
        rw [List.take_length] at u3 ⊢
        have em : (T2.men.filter fun m => !T1.failing.contains m.1) = T2.men.filter fun m => !T1.fails m.2 := by
          rw [sm.men]; exact men_left k1
        rw [em] at u3
        have u4 : Upd S0 A0 T0 S' A T1.fallOnce := by rw [fo]; exact u3
        have k4 : Ks T1.fallOnce := fallOnce_ks k1
        k_call_by "tw" ⟨u4.rep.isT, wp_tfail u4.rep k4⟩
        have hml := fall_men k1 hne
        obtain ⟨m', rfl⟩ : ∃ m', m = m' + 1 := ⟨m - 1, by omega⟩
        have hpos : 0 < T1.failing.length := List.length_pos_iff.mpr hne
        refine ⟨m', Nat.lt_succ_self _, T1.fallOnce, ns ++ T1.failing.map Nt.goes, a3, a4, b5, a6, a7, rfl, u4, k4, ?_, by omega, ?_, ?_⟩
        · rw [hf]
          show (ns ++ (if T1.failing = [] then _ else _ : List Nt × Tb).1, (if T1.failing = [] then _ else _ : List Nt × Tb).2) = _
          rw [if_neg hne]
          simp
        · rw [List.length_append, List.length_map]; omega
        · have : T1.fallOnce.due = T2.due := by rw [fo]
          rw [this]
          omega
  · -- none fails
    have hne : T1.failing = [] := by simpa using hc
    obtain ⟨m', rfl⟩ : ∃ m', m = m' + 1 := ⟨m - 1, by omega⟩
    have hfall : Tb.fall (m' + 1) T1 = ([], T1) := by
      show (if T1.failing = [] then _ else _ : List Nt × Tb) = _
      rw [if_pos hne]
    rw [hfall, List.append_nil] at hf
    k_call_by "tw" ⟨u1.rep.isT⟩
    refine wp_use (clear_w u1 k1) fun v S2 z => ?_
    obtain ⟨rfl, A2, u2, e2⟩ := z
    have k2 : Ks T1.clearOut := by
      have := (k1.fstack (l := T1.stack.filter fun x => decide (0 < T1.life x.2.1)) List.filter_sublist).fstay (l := T1.stays.filter fun x => decide (T1.life x.2.1 ≠ 0)) List.filter_sublist
      exact this
    rw [← e2]
    k_call_by "tw" ⟨u2.rep.isT, u2.rep.at, wp_from u2.rep k2.n4 k2.n0, src_lst, srcLen_lst⟩
    have hst : T.settleDown = (ns ++ (Tb.waitAll T1.clearOut.due (T1.clearOut.seatsFrom T1.clearOut.turner) T1.clearOut).1, { (Tb.waitAll T1.clearOut.due (T1.clearOut.seatsFrom T1.clearOut.turner) T1.clearOut).2 with due := [] }) := by
      unfold Tb.settleDown
      rw [hf]
    generalize hT2 : T1.clearOut = T2 at u2 k2 hst ⊢
    have hdu2 : T2.due.length ≤ 1400 := by
      have : T2.due = T1.due := by rw [← hT2]; rfl
      rw [this]; omega
    have hown : ∀ s ∈ T2.seatsFrom T2.turner, 0 ≤ s ∧ s < T2.n := targets_in k2 (o := T2.turner) (t := .who .all) (fun _ h => nomatch h) |> fun h s hs => h s (List.mem_filter.mpr ⟨hs, rfl⟩)
    have hol : (T2.seatsFrom T2.turner).length ≤ 4 := Nat.le_trans from_len k2.n4
    refine ws_forT (T2.seatsFrom T2.turner) D.int (fun i δ S' => ∃ (A3 : Ro → Nat) (b4 b6 b7 : Sl), δ = [.v (.ref (A2 .obj)), .ol ((ns ++ (Tb.waitAll T2.due ((T2.seatsFrom T2.turner).take i) T2).1).map Nt.d), .v (.lst (T1.failing.map .int)), .v (.lst ((T2.seatsFrom T2.turner).map .int)), b4, a5, b6, b7] ∧
      WI S0 A0 T0 A2 T2 S' A3 (Tb.waitAll T2.due ((T2.seatsFrom T2.turner).take i) T2))
      (fun i δ S' h => src_seq seqN_lst i) (by rw [List.length_map]; exact Nat.lt_succ_self _) ⟨A2, a4, a6, a7, by simp [Tb.waitAll], ⟨u2, k2, fun _ _ => rfl, rfl, rfl, Nat.zero_le _⟩⟩ (fun i δ S' s inv hs => ?_) (fun δ S' inv => ?_)
    · obtain ⟨A3, b4, b6, b7, rfl, wi⟩ := inv
      obtain ⟨s0, s1⟩ := hown s (List.mem_of_getElem? hs)
      have htk : (T2.seatsFrom T2.turner).take (i + 1) = (T2.seatsFrom T2.turner).take i ++ [s] := by rw [List.take_succ, hs]; rfl
      rw [htk, all_snoc]
      generalize Tb.waitAll T2.due ((T2.seatsFrom T2.turner).take i) T2 = r at wi ⊢
      have eo := wi.a .obj (fun _ h => nomatch h)
      have ed := wi.a .du (fun _ h => nomatch h)
      refine ⟨_, rfl, ?_⟩
      have cdu : S'.c (A3 .du) = some (.lst (T2.due.map duD)) := by rw [← wi.due]; exact wi.u.rep.cdu
      rw [← eo]
      k_call_by "tw" ⟨wi.u.rep.at, src_ref cdu, srcLen_ref cdu⟩
      refine ws_forT T2.due duD (fun j δ S'' => ∃ (A4 : Ro → Nat) (c6 c7 : Sl), δ = [.v (.ref (A3 .obj)), .ol ((ns ++ (r.1 ++ (Tb.waitRow s (T2.due.take j) r.2).1)).map Nt.d), .v (.lst (T1.failing.map .int)), .v (.lst ((T2.seatsFrom T2.turner).map .int)), .v (.int s), a5, c6, c7] ∧
        WI S0 A0 T0 A2 T2 S'' A4 (r.1 ++ (Tb.waitRow s (T2.due.take j) r.2).1, (Tb.waitRow s (T2.due.take j) r.2).2))
        (fun j δ S'' h => ?_) (by rw [List.length_map]; exact Nat.lt_succ_self _) ⟨A3, b6, b7, by simp [Tb.waitRow], ?_⟩ (fun j δ S'' d inv hdj => ?_) (fun δ S'' inv => ?_)
      · obtain ⟨A4, c6, c7, _, w4⟩ := h
        refine src_seq (seqN_ref (ds := T2.due.map duD) ?_) j
        have e4 := w4.a .du (fun _ h => nomatch h)
        rw [ed, ← e4, ← w4.due]
        exact w4.u.rep.cdu
      · rw [List.take_zero, show Tb.waitRow s [] r.2 = ([], r.2) from rfl, List.append_nil]; exact wi
      · obtain ⟨A4, c6, c7, rfl, w4⟩ := inv
        have htj : T2.due.take (j + 1) = T2.due.take j ++ [d] := by rw [List.take_succ, hdj]; rfl
        rw [htj, row_snoc]
        generalize Tb.waitRow s (T2.due.take j) r.2 = q at w4 ⊢
        have e4 := w4.a .obj (fun _ h => nomatch h)
        have w4l := w4.len
        have w4n := w4.k.stackN
        dsimp only at w4l w4n
        rw [List.length_append] at w4l
        have hb : ∀ δ : List Sl, bindT (true, [(Str.ofString "owner", 6), (Str.ofString "answer", 7)]) (duD d) δ = some ((δ.set 6 (.v (.int d.1))).set 7 (.v d.2.d)) := fun δ => by
          show (if D.isOwn (.int d.1) = true then none else (if D.isOwn d.2.d = true then none else some _)) = _
          rw [own_cd]; rfl
        refine ⟨_, hb _, ?_⟩
        rw [eo, ← e4]
        k_call_by "tw" ⟨w4.u.rep.at, len_stack w4.u.rep, c_UN⟩
        by_cases hc : d.1 = s ∧ q.2.stack.length < 40
        · have h1 : (d.1 == s) = true := by simpa using hc.1
          have h2 : pLt (q.2.stack.length : Nat) 40 = true := decide_eq_true (by have := hc.2; omega)
          k_call_by "tw" ⟨h1, h2, w4.u.rep.isT, w4.u.rep.at, len_stack w4.u.rep, c_UN⟩
          refine ⟨l_ty_own (k := 1) rfl, ?_⟩
          refine wp_use (put_w w4.u w4.k) fun v S5 z => ?_
          obtain ⟨rfl, A5, u5, e5⟩ := z
          walk_at "tw"
          refine wo_of (l_app_own (k := 1) rfl rfl (by rw [List.length_map, List.length_append, List.length_append]; omega)) ?_
          have e6 := e5 .obj (fun _ h => nomatch h)
          have ew : Tb.waitOne s q.2 d = ([.waits q.2.count], q.2.put d.1 d.2) := by unfold Tb.waitOne; rw [if_pos hc]
          rw [ew]
          refine ⟨A5, .v (.int d.1), .v d.2.d, by simp [Nt.d], ⟨u5, w4.k.put hc.2 ?_, fun x hx => (e5 x hx).trans (w4.a x hx), w4.due, w4.n, ?_⟩⟩
          · have hn := w4.n
            dsimp only at hn
            rw [hc.1, hn]; exact ⟨s0, s1⟩
          · show (r.1 ++ (q.1 ++ [_])).length ≤ (q.2.stack ++ [_]).length
            simp only [List.length_append, List.length_singleton]; omega
        · have ew : Tb.waitOne s q.2 d = ([], q.2) := by unfold Tb.waitOne; rw [if_neg hc]
          rw [ew]
          have fin : ∃ (A4' : Ro → Nat) (c6' c7' : Sl), [Sl.v (.ref (A4 .obj)), .ol ((ns ++ (r.1 ++ q.1)).map Nt.d), .v (.lst (T1.failing.map .int)), .v (.lst ((T2.seatsFrom T2.turner).map .int)), .v (.int s), a5, .v (.int d.1), .v d.2.d] = [.v (.ref (A4 .obj)), .ol ((ns ++ (r.1 ++ (q.1 ++ []))).map Nt.d), .v (.lst (T1.failing.map .int)), .v (.lst ((T2.seatsFrom T2.turner).map .int)), .v (.int s), a5, c6', c7'] ∧ WI S0 A0 T0 A2 T2 S'' A4' (r.1 ++ (q.1 ++ []), q.2) :=
            ⟨A4, _, _, by rw [List.append_nil], by rw [List.append_nil]; exact w4⟩
          by_cases h1 : d.1 = s
          · have h1' : (d.1 == s) = true := by simpa using h1
            have h2 : pLt (q.2.stack.length : Nat) 40 = false := decide_eq_false (by have : ¬ q.2.stack.length < 40 := fun h => hc ⟨h1, h⟩; omega)
            k_call_by "tw" ⟨h1', h2, w4.u.rep.at, len_stack w4.u.rep, c_UN⟩
            exact fin
          · have h1' : (d.1 == s) = false := by simpa using h1
            k_call_by "tw" ⟨h1'⟩
            exact fin
      · obtain ⟨A4, c6, c7, rfl, w4⟩ := inv
        rw [List.take_length] at w4 ⊢
        exact ⟨A4, .v (.int s), c6, c7, by rw [eo], w4⟩
    · obtain ⟨A3, b4, b6, b7, rfl, wi⟩ := inv
      rw [List.take_length] at wi ⊢
      have eo := wi.a .obj (fun _ h => nomatch h)
      rw [← eo]
      walk_at "tw"
      refine wi.u.nDue fun S5 A5 u5 e5 => ?_
      walk_at "tw"
      rw [l_ret_own (k := 1) rfl]
      walk_at "tw"
      rw [hst]
      have w1 := wi.len
      have w2 := wi.k.stackN
      refine ⟨rfl, wi.k.same rfl rfl rfl rfl rfl rfl rfl, ?_, A5, u5, e5⟩
      show (ns ++ _).length ≤ 60
      rw [List.length_append]; omega
end TB


end
section
set_option Elab.async false
set_option linter.all false
set_option maxRecDepth 100000
set_option autoImplicit false
namespace TB
open PySem DM PR L2 PySem.Spec
variable {S0 S : Sto} {A0 A : Ro → Nat} {T0 T : Tb} {δ : List Sl}
/-- an invariant of tables: between two deeds, and within one -/
structure WF (T : Tb) : Prop extends Ks T where
  n2 : 2 ≤ T.n
  lvs : ∀ l ∈ T.lives, 0 ≤ l ∧ l ≤ 99
  tu : 0 ≤ T.turner ∧ T.turner < T.n
  as : 0 ≤ T.asked ∧ T.asked < T.n
  hds : ∀ h ∈ T.hands, h.length ≤ 8 ∧ ∀ c ∈ h, c.isWho = false ∧ c.seatOk T.n
  its : ∀ x ∈ T.stack, x.2.2.seatOk T.n
  du : T.due = []
  cnt : 0 ≤ T.count ∧ 0 ≤ T.coming
theorem refs_ne {xs : List Nat} {δ : List Sl} {S : Sto} {k : Nat} (h : S.c k = some (.lst (xs.map D.ref))) : cEq δ S (.ref k) (.lst []) = some (decide (xs = [])) := by
  unfold cEq lenNe snap
  simp only [lstOf, h]
  cases xs with
  | nil => rfl
  | cons a xs => rfl
theorem st_refs (h : Rep S A T) : S.c (A .st) = some (.lst ((T.stack.map fun x => A (.item x.1)).map D.ref)) := by
  rw [h.cst, List.map_map]; rfl
theorem last_split {α : Type} {l : List α} {x : α} (h : l.getLast? = some x) : l = l.dropLast ++ [x] := by
  have hne : l ≠ [] := fun e => by rw [e] at h; cases h
  rw [List.getLast?_eq_some_getLast hne] at h
  cases h
  exact (List.dropLast_concat_getLast hne).symm
theorem harmed_ks (k : Ks T) {un n : Int} : Ks (T.harmed un n) := by
  have hm : ∀ m ∈ (T.harmed un n).men, ∃ m' ∈ T.men, m'.1 = m.1 ∧ m'.2.owner = m.2.owner := fun m h => by
    obtain ⟨m', h1, rfl⟩ := List.mem_map.mp h
    refine ⟨m', h1, ?_⟩
    split <;> exact ⟨rfl, rfl⟩
  refine ⟨?_, k.stayL, k.stackL, fun m h => ?_, k.stayc, k.stackc, ?_, k.stackN, k.stayN, k.n4, k.n0, k.hn, k.stayK, fun m h => ?_, k.stayO, k.itO⟩
  · refine List.pairwise_map.mpr (k.menL.imp fun {a b} h => ?_)
    show (if a.1 = un then _ else a).1 < (if b.1 = un then _ else b).1
    split <;> split <;> exact h
  · obtain ⟨m', h1, h2, h3⟩ := hm m h; have := k.menc m' h1; rw [h2] at this; exact this
  · show (T.men.map _).length ≤ 20
    rw [List.length_map]; exact k.menN
  · obtain ⟨m', h1, h2, h3⟩ := hm m h; have := k.manO m' h1; rw [h3] at this; exact this
theorem each_same {f : Tb → Int → List Nt × Tb} (hf : ∀ T s, Same T (f T s).2) : ∀ (l : List Int) (T : Tb), Same T (Tb.each f l T).2
  | [], T => ⟨rfl, rfl, rfl, rfl, rfl, rfl, rfl⟩
  | s :: l, T => (hf T s).trans (each_same hf l (f T s).2)
theorem each_due {f : Tb → Int → List Nt × Tb} (hf : ∀ T s, Same T (f T s).2) (hd : ∀ T s, Ks T → (f T s).2.due.length ≤ T.due.length + 20) : ∀ (l : List Int) (T : Tb), Ks T → (Tb.each f l T).2.due.length ≤ T.due.length + 20 * l.length
  | [], T, _ => Nat.le_refl _
  | s :: l, T, k => by
    have h1 := hd T s k
    have h2 := each_due hf hd l (f T s).2 ((hf T s).ks k)
    show (Tb.each f l (f T s).2).2.due.length ≤ _
    rw [List.length_cons]; omega
theorem resolve_ks (k : Ks T) {num o : Int} {c : Cd} (ho : 0 ≤ o ∧ o < T.n) (hstay : c.isStand = true → T.stays.length < 1000000) : Ks (T.resolve num o c).2 := by
  unfold Tb.resolve
  split
  · exact k
  · rename_i ht
    cases c with
    | hit t n => exact (each_same (fun T s => Same.hit) _ T).ks k
    | mend t n => exact (each_same (fun T s => Same.mend) _ T).ks k
    | strike un n => exact harmed_ks k
    | bring n w =>
      have ht' : T.isThere (.bring n w) = true := by simpa using ht
      have hm : T.men.length < 20 := of_decide_eq_true ht'
      refine Ks.same (T := { T with men := T.men ++ [(T.coming, ⟨o, n, w, 0⟩)], coming := T.coming + 1 }) ?_ rfl rfl rfl rfl rfl rfl rfl
      refine ⟨?_, k.stayL, k.stackL, ?_, fun m hm => by have := k.stayc m hm; show m.1 < T.coming + 1; omega, k.stackc, ?_, k.stackN, k.stayN, k.n4, k.n0, k.hn, k.stayK, ?_, k.stayO, k.itO⟩
      · refine List.pairwise_append.mpr ⟨k.menL, List.pairwise_singleton .., fun a ha b hb => ?_⟩
        rw [List.mem_singleton.mp hb]; exact k.menc a ha
      · intro m hm
        show m.1 < T.coming + 1
        rcases List.mem_append.mp hm with h | h
        · have := k.menc m h; omega
        · rw [List.mem_singleton.mp h]; show T.coming < T.coming + 1; omega
      · show (T.men ++ [_]).length ≤ 20
        rw [List.length_append, List.length_singleton]; omega
      · intro m hm
        rcases List.mem_append.mp hm with h | h
        · exact k.manO m h
        · rw [List.mem_singleton.mp h]; exact ho
    | stand l w m =>
      refine ⟨k.menL, ?_, k.stackL, fun m hm => by have := k.menc m hm; show m.1 < T.coming + 1; omega, fun x hx => ?_, k.stackc, k.menN, k.stackN, ?_, k.n4, k.n0, k.hn, fun x hx => ?_, k.manO, fun x hx => ?_, k.itO⟩
      · refine List.pairwise_append.mpr ⟨k.stayL, List.pairwise_singleton .., fun a ha b hb => ?_⟩
        rw [List.mem_singleton.mp hb]; exact k.stayc a ha
      · show x.1 < T.coming + 1
        rcases List.mem_append.mp hx with h | h
        · have := k.stayc x h; omega
        · rw [List.mem_singleton.mp h]; show T.coming < T.coming + 1; omega
      · show (T.stays ++ [_]).length ≤ 1000000
        have := hstay rfl
        rw [List.length_append, List.length_singleton]; omega
      · rcases List.mem_append.mp hx with h | h
        · exact k.stayK x h
        · rw [List.mem_singleton.mp h]; rfl
      · rcases List.mem_append.mp hx with h | h
        · exact k.stayO x h
        · rw [List.mem_singleton.mp h]; exact ho
    | bar i => exact k.fstack List.filter_sublist
    | lift s => exact k.fstay List.filter_sublist
theorem resolve_due (k : Ks T) {num o : Int} {c : Cd} (hs : c.seatOk T.n) : (T.resolve num o c).2.due.length ≤ T.due.length + 80 := by
  unfold Tb.resolve
  split
  · exact Nat.le_add_right _ _
  · rename_i ht
    cases c with
    | hit t n =>
      have h1 := each_due (f := fun T s => T.hitOne s n) (fun T s => Same.hit) (fun T s k => by
        have h9 : Ks ({ T with lives := T.lives.set s.toNat (max 0 (T.life s - n)) } : Tb) := k.same rfl rfl rfl rfl rfl (List.length_set ..) rfl
        exact due_len h9 .hurt) (T.targets o t) T k
      have := targets_len k (o := o) (t := t)
      show (Tb.each _ _ T).2.due.length ≤ _
      omega
    | mend t n =>
      have h1 := each_due (f := fun T s => T.mendOne s n) (fun T s => Same.mend) (fun T s k => by
        have h9 : Ks ({ T with lives := T.lives.set s.toNat (min 99 (T.life s + n)) } : Tb) := k.same rfl rfl rfl rfl rfl (List.length_set ..) rfl
        exact due_len h9 .mended) (T.targets o t) T k
      have := targets_len k (o := o) (t := t)
      show (Tb.each _ _ T).2.due.length ≤ _
      omega
    | strike un n => exact Nat.le_add_right _ _
    | bring n w =>
      have ht' : T.isThere (.bring n w) = true := by simpa using ht
      have hm : T.men.length < 20 := of_decide_eq_true ht'
      show (T.due ++ Tb.dueOf _ _).length ≤ _
      have h1 : (Tb.dueOf { T with men := T.men ++ [(T.coming, ⟨o, n, w, 0⟩)], coming := T.coming + 1 } .comes).length ≤ (T.men ++ [(T.coming, (⟨o, n, w, 0⟩ : Man))]).length := List.length_filterMap_le _ _
      rw [List.length_append, List.length_singleton] at h1
      rw [List.length_append]; omega
    | stand l w m => exact Nat.le_add_right _ _
    | bar i => exact Nat.le_add_right _ _
    | lift s => exact Nat.le_add_right _ _
theorem resolve_len (k : Ks T) {num o : Int} {c : Cd} : (T.resolve num o c).1.length ≤ 5 := by
  have el : ∀ (f : Tb → Int → List Nt × Tb), (∀ T s, (f T s).1.length = 1) → ∀ (l : List Int) (T : Tb), (Tb.each f l T).1.length = l.length := fun f hf l => by
    induction l with
    | nil => intro T; rfl
    | cons s l ih => intro T; show ((f T s).1 ++ _).length = _; rw [List.length_append, hf, ih, List.length_cons]; omega
  unfold Tb.resolve
  split
  · exact Nat.le_add_left _ _
  · cases c with
    | hit t n =>
      have := targets_len k (o := o) (t := t)
      show (_ :: (Tb.each _ _ T).1).length ≤ 5
      rw [List.length_cons, el _ fun T s => rfl]; omega
    | mend t n =>
      have := targets_len k (o := o) (t := t)
      show (_ :: (Tb.each _ _ T).1).length ≤ 5
      rw [List.length_cons, el _ fun T s => rfl]; omega
    | strike un n => exact Nat.le_add_left _ _
    | bring n w => exact Nat.le_add_left _ _
    | stand l w m => exact Nat.le_add_left _ _
    | bar i => exact Nat.le_add_left _ _
    | lift s => exact Nat.le_add_left _ _
end TB


end
section
set_option Elab.async false
set_option linter.all false
set_option maxRecDepth 100000
set_option autoImplicit false
namespace TB
open PySem DM PR L2 PySem.Spec
variable {S0 S : Sto} {A0 A : Ro → Nat} {T0 T : Tb} {δ : List Sl}
theorem alive_mem {s : Int} : s ∈ T.alive ↔ 0 ≤ s ∧ s < T.n ∧ 0 < T.life s := by
  unfold Tb.alive Tb.seats
  simp only [List.mem_filter, List.mem_map, List.mem_range, decide_eq_true_eq]
  constructor
  · rintro ⟨⟨k, hk, rfl⟩, h⟩; exact ⟨by omega, by omega, h⟩
  · rintro ⟨h1, h2, h3⟩; exact ⟨⟨s.toNat, by omega, by omega⟩, h3⟩
theorem from_mem (h0 : 0 < T.n) {s x : Int} : x ∈ T.seatsFrom s ↔ 0 ≤ x ∧ x < T.n ∧ 0 < T.life x := by
  unfold Tb.seatsFrom
  simp only [List.mem_filter, List.mem_map, List.mem_range, decide_eq_true_eq]
  constructor
  · rintro ⟨⟨k, hk, rfl⟩, h⟩
    have := mod_in (s := s + k) h0
    exact ⟨this.1, this.2, h⟩
  · rintro ⟨h1, h2, h3⟩
    refine ⟨⟨((x - s) % (T.n : Int)).toNat, ?_, ?_⟩, h3⟩
    · have := mod_in (s := x - s) h0; omega
    · have h4 := (mod_in (s := x - s) h0).1
      rw [Int.toNat_of_nonneg h4, Int.add_emod, Int.emod_emod, ← Int.add_emod]
      have : s + (x - s) = x := by omega
      rw [this]
      exact Int.emod_eq_of_lt h1 h2
theorem from_ne (h0 : 0 < T.n) (ho : T.isOver = false) (s : Int) : T.seatsFrom s ≠ [] := fun e => by
  have h : ¬ T.alive.length < 2 := by simpa [Tb.isOver] using ho
  cases ha : T.alive with
  | nil => rw [ha] at h; exact h (by decide)
  | cons x l =>
    have := alive_mem.mp (show x ∈ T.alive by rw [ha]; exact List.mem_cons_self ..)
    have := (from_mem h0 (s := s)).mpr this
    rw [e] at this; cases this
/-- of an item that is taken off, Ks of the rest -/
theorem goBy_w (u : Upd S0 A0 T0 S A T) (w : WF T) (ho : T.isOver = false) (hst : T.stays.length < 1000000) :
    (@DM.wpK _ (sem_Table_go_by [.ref (A .obj), .int T.asked] S) ⟨(fun v S' => v = .ol (T.goBy.1.map Nt.d) ∧ Ks T.goBy.2 ∧ T.goBy.1.length ≤ 65 ∧ ∃ A', Upd S0 A0 T0 S' A' T.goBy.2 ∧ A' .obj = A .obj), (fun _ _ => False)⟩) := by
  have k := w.toKs
  unfold sem_Table_go_by
  rw [wp_sem]
  refine ⟨rfl, ?_⟩
  unfold m_Table_go_by
  k_call_by "tw" ⟨u.rep.isT, wp_need_asked u.rep k.n4 ho w.as.1 w.as.2, u.rep.at⟩
  refine u.fPasses fun S1 u1 => ?_
  k_call_by "tw" ⟨u1.rep.at, u1.rep.isT, wp_alive u1.rep k.n4, List.length_map⟩
  have k1 : Ks { T with passes := T.passes + 1 } := k.same rfl rfl rfl rfl rfl rfl rfl
  refine wif_split (fun hc => ?_) (fun hc => ?_)
  · have hc : T.passes + 1 < T.alive.length := of_decide_eq_true hc
    k_call_by "tw" ⟨u1.rep.isT, wp_behind u1.rep k1.n4 k1.n0⟩
    refine u1.fAsked fun S2 u2 => ?_
    walk_at "tw"
    have e : T.goBy = ([], { T with passes := T.passes + 1, asked := T.behind T.asked }) := if_pos hc
    rw [e]
    exact ⟨rfl, k.same rfl rfl rfl rfl rfl rfl rfl, Nat.zero_le _, A, u2, rfl⟩
  · have hc : ¬ T.passes + 1 < T.alive.length := of_decide_eq_false hc
    walk_at "tw"
    refine u1.fPasses fun S2 u2 => ?_
    have k2 : Ks { T with passes := 0 } := k.same rfl rfl rfl rfl rfl rfl rfl
    have u2 : Upd S0 A0 T0 S2 A { T with passes := 0 } := u2
    k_call_by "tw" ⟨u2.rep.at, refs_ne (st_refs u2.rep), List.map_eq_nil_iff⟩
    refine wif_split (fun hs => ?_) (fun hs => ?_)
    · have hs : T.stack = [] := of_decide_eq_true hs
      k_call_by "tw" ⟨u2.rep.at, u2.rep.isT, wp_behind u2.rep k2.n4 k2.n0⟩
      refine u2.fTurner fun S3 u3 => ?_
      k_call_by "tw" ⟨u3.rep.at⟩
      refine u3.fAsked fun S4 u4 => ?_
      k_call_by "tw" ⟨u4.rep.at⟩
      have e : T.goBy = ([.turn (T.behind T.turner)], { T with passes := 0, turner := T.behind T.turner, asked := T.behind T.turner }) := by
        unfold Tb.goBy
        rw [if_neg hc, hs]; rfl
      rw [e]
      exact ⟨rfl, k.same rfl rfl rfl rfl rfl rfl rfl, by simp, A, u4, rfl⟩
    · have hs : T.stack ≠ [] := of_decide_eq_false hs
      obtain ⟨x, hx⟩ : ∃ x, T.stack.getLast? = some x := by rw [List.getLast?_eq_some_getLast hs]; exact ⟨_, rfl⟩
      have hxm : x ∈ T.stack := List.mem_of_getLast? hx
      k_call_by "tw" ⟨u2.rep.isT, u2.rep.at⟩
      refine wo_of (l_ty_ref u2.rep.cst) ?_
      walk_at "tw"
      refine u2.popItem k2 hx fun S3 u3 i1 i2 i3 => ?_
      have k3 : Ks { T with passes := 0, stack := T.stack.dropLast } := k2.fstack (List.dropLast_sublist _)
      have u3 : Upd S0 A0 T0 S3 A { T with passes := 0, stack := T.stack.dropLast } := u3
      walk_at "tw"
      have seatOk := w.its x hxm
      have ow := k.itO x hxm
      have dz : ({ T with passes := 0, stack := T.stack.dropLast } : Tb).due.length ≤ 1000 := by show T.due.length ≤ 1000; rw [w.du]; exact Nat.zero_le _
      refine wp_use (resolve_w u3 k3 (j := A (.item x.1)) (num := x.1) (o := x.2.1) (c := x.2.2) ⟨i1, i3, i2⟩ seatOk ow dz) fun v S4 z => ?_
      obtain ⟨rfl, A4, u4, e4⟩ := z
      have k4 : Ks (({ T with passes := 0, stack := T.stack.dropLast } : Tb).resolve x.1 x.2.1 x.2.2).2 := resolve_ks k3 ow fun _ => hst
      have d4 := resolve_due k3 (num := x.1) (o := x.2.1) (c := x.2.2) seatOk
      have l4 := resolve_len k3 (num := x.1) (o := x.2.1) (c := x.2.2)
      have eg : T.goBy = Tb.afterDone (({ T with passes := 0, stack := T.stack.dropLast } : Tb).resolve x.1 x.2.1 x.2.2) := by
        unfold Tb.goBy
        rw [if_neg hc, hx]
      rw [eg]
      generalize ({ T with passes := 0, stack := T.stack.dropLast } : Tb).resolve x.1 x.2.1 x.2.2 = r at u4 k4 d4 l4 ⊢
      unfold Tb.afterDone
      rw [← e4]
      k_call_by "tw" ⟨u4.rep.isT⟩
      refine ⟨l_ty_own (k := 2) rfl, ?_⟩
      refine wp_use (settle_w u4 k4 (by have : ({ T with passes := 0, stack := T.stack.dropLast } : Tb).due.length = 0 := by show T.due.length = 0; rw [w.du]; rfl
                                        omega)) fun v S5 z => ?_
      obtain ⟨rfl, k5, l5, A5, u5, e5⟩ := z
      generalize r.2.settleDown = q at u5 k5 l5 ⊢
      walk_at "tw"
      refine wo_of (l_ext_own (k := 2) rfl (by simp only [List.length_map]; omega)) ?_
      rw [← e5]
      k_call_by "tw" ⟨u5.rep.isT, wp_over u5.rep k5.n4⟩
      cases hov : q.2.isOver with
      | true =>
        have ea : q.2.ask = q.2 := by unfold Tb.ask; rw [hov, if_pos rfl]
        rw [ea]
        walk_at "tw"
        rw [l_ret_own (k := 2) rfl]
        walk_at "tw"
        refine ⟨by rw [List.map_append], k5, by rw [List.length_append]; omega, A5, u5, rfl⟩
      | false =>
        have hne := from_ne k5.n0 hov q.2.turner
        obtain ⟨y, l, hl⟩ := List.exists_cons_of_ne_nil hne
        have ea : q.2.ask = { q.2 with asked := y, turner := y } := by unfold Tb.ask; rw [hov, if_neg (by decide), hl]; rfl
        rw [ea]
        k_call_by "tw" ⟨u5.rep.at, u5.rep.isT, wp_from u5.rep k5.n4 k5.n0⟩
        simp only [hl]
        walk_at "tw"
        refine u5.fAsked fun S6 u6 => ?_
        k_call_by "tw" ⟨u6.rep.at⟩
        refine u6.fTurner fun S7 u7 => ?_
        walk_at "tw"
        rw [l_ret_own (k := 2) rfl]
        walk_at "tw"
        refine ⟨by rw [List.map_append], ?_, by rw [List.length_append]; omega, A5, u7, rfl⟩
        exact k5.same rfl rfl rfl rfl rfl rfl rfl
end TB


end
section
set_option Elab.async false
set_option linter.all false
set_option maxRecDepth 100000
set_option autoImplicit false
namespace TB
open PySem DM PR L2 PySem.Spec
variable {S0 S : Sto} {A0 A : Ro → Nat} {T0 T : Tb} {δ : List Sl}
theorem ix_hands (h : Rep S A T) (k : Ks T) {s : Int} (h0 : 0 ≤ s) (h1 : s < T.n) : oIx δ S (.ref (A .hd)) (.int s) = some (.ref (A (.hand s.toNat))) := by
  have hl := k.hn
  rw [l_ix_ref h.chd, l_at h0 (by simp; omega)]
  rw [List.getElem?_map, List.getElem?_range (by omega)]; rfl
theorem hand_some (k : Ks T) {s : Int} (h0 : 0 ≤ s) (h1 : s < T.n) : T.hands[s.toNat]? = some (T.hand s) := by
  have hl := k.hn
  have : s.toNat < T.hands.length := by omega
  unfold Tb.hand
  simp [List.getD, this]
def refName : Nat → Str
  | 3 => "NoCard"
  | 4 => "NoTarget"
  | _ => "Full"
theorem play_w (u : Upd S0 A0 T0 S A T) (w : WF T) (ho : T.isOver = false) {p : Int} :
    (@DM.wpK _ (sem_Table_play [.ref (A .obj), .int T.asked, .int p] S) ⟨(fun v S' => T.playNo T.asked p = none ∧ v = .val (.int T.count) ∧ ∃ A', Upd S0 A0 T0 S' A' (T.playOk T.asked p) ∧ A' .obj = A .obj), (fun c S' => S' = S ∧ ∃ n, T.playNo T.asked p = some n ∧ c = refName n)⟩) := by
  have k := w.toKs
  have hs := hand_some k w.as.1 w.as.2
  have hwf := w.hds (T.hand T.asked) (List.mem_of_getElem? hs)
  unfold sem_Table_play
  rw [wp_sem]
  refine ⟨rfl, ?_⟩
  unfold m_Table_play
  k_call_by "tw" ⟨u.rep.isT, wp_need_asked u.rep k.n4 ho w.as.1 w.as.2, u.rep.at, ix_hands u.rep k w.as.1 w.as.2, l_len_ref (u.rep.chand hs), List.length_map, wp_whole⟩
  by_cases hp : 0 ≤ p ∧ p < (T.hand T.asked).length
  · have e1 : decide (0 ≤ p) = true := decide_eq_true hp.1
    have e2 : decide (p ≤ ((T.hand T.asked).length : Int) - 1) = true := decide_eq_true (by omega)
    have hpl : p.toNat < (T.hand T.asked).length := by omega
    have hc : (T.hand T.asked)[p.toNat]? = some ((T.hand T.asked).getD p.toNat (.bar 0)) := by simp [List.getD, hpl]
    obtain ⟨cw, cs⟩ := hwf.2 _ (List.mem_of_getElem? hc)
    have ia : ∀ δ, oIx δ S (.ref (A (.hand T.asked.toNat))) (.int p) = some ((T.hand T.asked).getD p.toNat (.bar 0)).d := fun δ => by
      rw [l_ix_ref (u.rep.chand hs), l_at hp.1 (by rw [List.length_map]; exact hp.2), List.getElem?_map, hc]; rfl
    k_call_by "tw" ⟨e1, e2, u.rep.isT, u.rep.at, ix_hands u.rep k w.as.1 w.as.2, ia, wp_target u.rep k cw cs⟩
    have n3 : ∀ x, T.playNo T.asked p = x ↔ (if T.hasTarget ((T.hand T.asked).getD p.toNat (.bar 0)) = false then some 4 else if T.stack.length = 40 then some 8 else none) = x := fun x => by
      unfold Tb.playNo
      rw [if_neg (by simpa using hp)]
    cases ht : T.hasTarget ((T.hand T.asked).getD p.toNat (.bar 0)) with
    | false =>
      walk_at "tw"
      exact ⟨4, (n3 _).mpr (if_pos ht), rfl⟩
    | true =>
      k_call_by "tw" ⟨u.rep.at, len_stack u.rep, c_UN⟩
      refine wif_split (fun hf => ?_) (fun hf => ?_)
      · have hf : T.stack.length = 40 := by have : (T.stack.length : Int) = 40 := by simpa using hf
                                            omega
        walk_at "tw"
        exact ⟨8, (n3 _).mpr (by rw [if_neg (by rw [ht]; decide), if_pos hf]), rfl⟩
      · have hf : ¬ T.stack.length = 40 := fun h => by rw [h] at hf; exact absurd hf (by decide)
        k_call_by "tw" ⟨u.rep.at⟩
        refine u.fPasses fun S1 u1 => ?_
        have k1 : Ks { T with passes := 0 } := k.same rfl rfl rfl rfl rfl rfl rfl
        k_call_by "tw" ⟨u1.rep.isT, u1.rep.at, ix_hands u1.rep k1 w.as.1 w.as.2⟩
        refine wo_of (l_ty_ref (u1.rep.chand (T := { T with passes := 0 }) hs)) ?_
        walk_at "tw"
        have ep : D.int p = .int (p.toNat : Int) := by rw [Int.toNat_of_nonneg hp.1]
        rw [ep]
        refine u1.popCard (T := { T with passes := 0 }) hs hc (by omega) fun S2 u2 => ?_
        have k2 : Ks { T with passes := 0, hands := T.hands.set T.asked.toNat ((T.hand T.asked).eraseIdx p.toNat) } := k1.same rfl rfl rfl rfl rfl rfl (List.length_set ..)
        walk_at "tw"
        have eo : D.int T.asked = .int ({ T with passes := 0, hands := T.hands.set T.asked.toNat ((T.hand T.asked).eraseIdx p.toNat) } : Tb).asked := rfl
        refine wp_use (put_w u2 k2) fun v S3 z => ?_
        obtain ⟨rfl, A3, u3, e3⟩ := z
        walk_at "tw"
        refine ⟨(n3 _).mpr (by rw [if_neg (by rw [ht]; decide), if_neg hf]), A3, u3, e3 .obj (fun _ h => nomatch h)⟩
  · have n3 : T.playNo T.asked p = some 3 := if_pos hp
    have e2 : (decide (0 ≤ p) && decide (p ≤ ((T.hand T.asked).length : Int) - 1)) = false := by
      by_cases h0 : 0 ≤ p
      · have : ¬ p ≤ ((T.hand T.asked).length : Int) - 1 := by omega
        rw [decide_eq_false this, Bool.and_false]
      · rw [decide_eq_false h0, Bool.false_and]
    k_call_by "tw" ⟨e2⟩
    exact ⟨3, n3, rfl⟩
theorem life_eq (h : Rep S A T) {s : Int} (h0 : 0 ≤ s) (h1 : s < T.n) : sem_Table_life [.ref (A .obj), .int s] S = .ok (.val (.int (T.life s))) S := by
  refine eq_of_wp ?_
  unfold sem_Table_life
  rw [wp_sem]
  refine ⟨rfl, ?_⟩
  unfold m_Table_life
  k_call_by "tw" ⟨h.isT, wp_need_seat h h0 h1, h.at, l_ix_ref h.clv, lives_at h0 h1⟩
theorem hand_eq (h : Rep S A T) (k : Ks T) {s : Int} (h0 : 0 ≤ s) (h1 : s < T.n) : sem_Table_hand [.ref (A .obj), .int s] S = .ok (.val (.tup ((T.hand s).map Cd.d))) S := by
  refine eq_of_wp ?_
  unfold sem_Table_hand
  rw [wp_sem]
  refine ⟨rfl, ?_⟩
  unfold m_Table_hand
  have ht : ∀ δ, hTuple δ S [.ref (A (.hand s.toNat))] = some (.tup ((T.hand s).map Cd.d)) := fun δ => by
    unfold hTuple
    simp only [seqOf, lstOf, h.chand (hand_some k h0 h1), Option.map_some]
  k_call_by "tw" ⟨h.isT, wp_need_seat h h0 h1, h.at, ix_hands h k h0 h1, ht⟩
def pileD (x : Int × Int × Cd) : D := .tup [.int x.1, .int x.2.1, x.2.2.d]
theorem pile_eq (h : Rep S A T) (k : Ks T) : sem_Table_pile [.ref (A .obj)] S = .ok (.ol (T.stack.map pileD)) S := by
  refine eq_of_wp ?_
  unfold sem_Table_pile
  rw [wp_sem]
  refine ⟨rfl, ?_⟩
  unfold m_Table_pile
  k_call_by "tw" ⟨h.at, src_ref h.cst, srcLen_ref h.cst⟩
  refine ⟨rfl, wp_lcA T.stack (fun x => .ref (A (.item x.1))) pileD (fun j => src_seq (seqN_ref h.cst) j) (by rw [List.length_map]; exact Nat.lt_succ_self _) (by have := k.stackN; omega) (fun y hy => ⟨_, rfl, ?_, rfl⟩) ?_⟩
  · have c := h.citem k hy
    k_call_by "tw" ⟨wipeD, it_number c, it_owner c, it_card c⟩
    rfl
  · exact ⟨rfl, rfl⟩
def unitD (x : Int × Int × Int × Int) : D := .tup [.int x.1, .int x.2.1, .int x.2.2.1, .int x.2.2.2]
theorem units_eq (h : Rep S A T) (k : Ks T) : sem_Table_units [.ref (A .obj)] S = .ok (.ol (T.units.map unitD)) S := by
  refine eq_of_wp ?_
  unfold sem_Table_units
  rw [wp_sem]
  refine ⟨rfl, ?_⟩
  unfold m_Table_units
  k_call_by "tw" ⟨h.at, h.atF, keys_list h, sort_map, k.menS, src_lst, srcLen_lst⟩
  refine ws_forT T.men (fun m => .int m.1) (fun i δ S' => S' = S ∧ ∃ a b, δ = [.v (.ref (A .obj)), .ol ((T.units.take i).map unitD), a, b]) (fun i δ S' h => by rw [src_seq (S := S') seqN_lst, List.map_map]; rfl) (by simp) ⟨rfl, _, _, rfl⟩ (fun i δ S' m inv hm => ?_) (fun δ S' inv => ?_)
  · obtain ⟨rfl, a, b, rfl⟩ := inv
    have hmem := List.mem_of_getElem? hm
    have hlk : lookI T.men m.1 = some m := look_of k.men hmem
    have c := h.cman k hmem
    have hu : T.units[i]? = some (m.1, m.2.owner, T.power m.2, m.2.harm) := by unfold Tb.units; rw [List.getElem?_map, hm]; rfl
    have ht : T.units.take (i + 1) = T.units.take i ++ [(m.1, m.2.owner, T.power m.2, m.2.harm)] := by rw [List.take_succ, hu]; rfl
    refine ⟨_, rfl, ?_⟩
    k_call_by "tw" ⟨h.at, h.atF, ix_men h, hlk, h.isF, man_owner c, man_harm c, wp_power h k hmem⟩
    refine ⟨l_ty_own (k := 1) rfl, wo_of (l_app_own (k := 1) rfl rfl ?_) ⟨rfl, .v (.int m.1), .v (.ref (A (.man m.1))), ?_⟩⟩
    · have := k.menN
      rw [List.length_map, List.length_take]
      have : T.units.length = T.men.length := by unfold Tb.units; rw [List.length_map]
      omega
    · rw [ht]; simp [unitD]
  · obtain ⟨rfl, a, b, rfl⟩ := inv
    walk_at "tw"
    rw [l_ret_own (k := 1) rfl]
    walk_at "tw"
    rw [List.take_of_length_le (by unfold Tb.units; rw [List.length_map]; exact Nat.le_refl _)]
def standD (x : Int × Int × Cd) : D := .tup [.int x.1, .int x.2.1, x.2.2.d]
theorem standing_eq (h : Rep S A T) (k : Ks T) : sem_Table_standing [.ref (A .obj)] S = .ok (.ol (T.stays.map pileD)) S := by
  refine eq_of_wp ?_
  unfold sem_Table_standing
  rw [wp_sem]
  refine ⟨rfl, ?_⟩
  unfold m_Table_standing
  k_call_by "tw" ⟨h.at, h.atF, keysY_list h, sort_map, k.stayS, src_lst, srcLen_lst⟩
  refine ⟨rfl, wp_lcA T.stays (fun m => .int m.1) pileD (fun j => by rw [src_seq (S := S) seqN_lst, List.map_map]; rfl) (by simp) (by have := k.stayN; omega) (fun y hy => ⟨_, rfl, ?_, rfl⟩) ?_⟩
  · have hlk : lookI T.stays y.1 = some y := look_of k.stays hy
    have ha : ∀ δ, oAdd δ S (.tup [.int y.1]) (stD y) = some (pileD y) := fun δ => rfl
    k_call_by "tw" ⟨wipeD, h.at, h.atF, ix_stays h, hlk, ha⟩
  · exact ⟨rfl, rfl⟩
theorem now_eq (h : Rep S A T) (k : Ks T) : sem_Table_now [.ref (A .obj)] S = .ok (.val (if T.isOver then .non else .tup [.int T.turner, .int T.asked, .int T.passes])) S := by
  refine eq_of_wp ?_
  unfold sem_Table_now
  rw [wp_sem]
  refine ⟨rfl, ?_⟩
  unfold m_Table_now
  k_call_by "tw" ⟨h.isT, wp_over h k.n4⟩
  cases T.isOver with
  | true => walk_at "tw"
  | false => k_call_by "tw" ⟨h.at⟩
def manD (m : Man) : D := .tup [.int m.owner, .int m.size, whD m.wh]
theorem unit_eq (h : Rep S A T) (k : Ks T) {m : Int × Man} (hm : m ∈ T.men) (h0 : 0 ≤ m.1) : sem_Table_unit [.ref (A .obj), .int m.1] S = .ok (.val (manD m.2)) S := by
  refine eq_of_wp ?_
  unfold sem_Table_unit
  rw [wp_sem]
  refine ⟨rfl, ?_⟩
  unfold m_Table_unit
  have hlk : lookI T.men m.1 = some m := look_of k.men hm
  have e1 : decide (0 ≤ m.1) = true := decide_eq_true h0
  have e2 : decide (m.1 ≤ T.coming) = true := decide_eq_true (Int.le_of_lt (k.menc m hm))
  have e3 : ∀ δ, cNotIn δ S (.int m.1) (.ref (A .mn)) = some false := fun δ => by
    unfold cNotIn
    rw [in_men h]
    unfold Tb.hasMan
    rw [any_look, hlk]; rfl
  have c := h.cman k hm
  k_call_by "tw" ⟨h.at, h.atF, wp_whole, e1, e2, e3, ix_men h, hlk, man_owner c, man_size c, man_when c⟩
  rfl
theorem winner_eq (h : Rep S A T) (k : Ks T) : sem_Table_winner [.ref (A .obj)] S = .ok (.val (match T.alive with | [s] => .int s | _ => .non)) S := by
  refine eq_of_wp ?_
  unfold sem_Table_winner
  rw [wp_sem]
  refine ⟨rfl, ?_⟩
  unfold m_Table_winner
  match ha : T.alive with
  | [] => k_call_by "tw" ⟨h.isT, wp_alive h k.n4, ha⟩; exact ⟨rfl, rfl⟩
  | [s] =>
    k_call_by "tw" ⟨h.isT, wp_alive h k.n4, ha⟩
    refine wif_split (fun hf => absurd hf (by decide)) (fun _ => ?_)
    k_call_by "tw" ⟨h.isT, wp_alive h k.n4, ha⟩
  | a :: b :: l =>
    k_call_by "tw" ⟨h.isT, wp_alive h k.n4, ha⟩
    refine wif_split (fun _ => ?_) (fun hf => ?_)
    · walk_at "tw"
    · exfalso
      simp only [List.map_cons, List.length_cons, Bool.not_eq_false', beq_iff_eq] at hf
      omega
end TB


end
section
set_option Elab.async false
set_option linter.all false
set_option maxRecDepth 100000
set_option autoImplicit false
namespace TB
open PySem DM PR L2 PySem.Spec
variable {S0 S : Sto} {A0 A : Ro → Nat} {T0 T : Tb} {δ : List Sl}
def inB (x lo hi : Int) : Bool := decide (lo ≤ x) && decide (x ≤ hi)
def An.valid : An → Bool
  | .hit _ n => inB n 1 20
  | .mend _ n => inB n 1 20
  | .bring n => inB n 1 20
def Cd.valid (s : Int) : Cd → Bool
  | .hit (.seat x) n => inB x 0 (s - 1) && inB n 1 20
  | .mend (.seat x) n => inB x 0 (s - 1) && inB n 1 20
  | .strike u n => inB u 0 9999 && inB n 1 20
  | .bring n none => inB n 1 20
  | .bring n (some (_, a)) => inB n 1 20 && a.valid
  | .bar i => inB i 0 9999
  | .stand _ _ m => inB m 0 20
  | .lift i => inB i 0 9999
  | _ => false
theorem in_strs {us : List Str} {s : Str} : cIn δ S (.str s) (.tup (us.map D.str)) = some (us.any fun u => u == s) := by
  have h : ∀ us : List Str, (us.map D.str).all (okD 60) = true := fun us => by induction us with
    | nil => rfl
    | cons a us ih => rw [List.map_cons, List.all_cons, ih]; rfl
  have : (okD 60 (.str s) && (us.map D.str).all (okD 60)) = true := by rw [h]; rfl
  show (if (okD 60 (.str s) && (us.map D.str).all (okD 60)) = true then some ((us.map D.str).any fun y => eqD y (.str s)) else none) = _
  rw [if_pos this, List.any_map]
  rfl
theorem one_eq {us : List Str} {s : Str} : sem_is_one_of [.str s, .tup (us.map D.str)] S = .ok (.val (.bl (us.any fun u => u == s))) S := by
  refine eq_of_wp ?_
  unfold sem_is_one_of
  rw [wp_sem]
  refine ⟨rfl, ?_⟩
  unfold m_is_one_of
  k_call_by "tw" ⟨in_strs⟩
theorem wp_one {us : List Str} {s : Str} {Q : RV → Sto → Prop} {E : Str → Sto → Prop} : ((@DM.wpK _ (sem_is_one_of [.str s, .tup (us.map D.str)] S) ⟨Q, E⟩)) = Q (.val (.bl (us.any fun u => u == s))) S := wp_of_eq one_eq
theorem wp_one3 {a b c s : Str} {Q : RV → Sto → Prop} {E : Str → Sto → Prop} : ((@DM.wpK _ (sem_is_one_of [.str s, .tup [.str a, .str b, .str c]] S) ⟨Q, E⟩)) = Q (.val (.bl (a == s || (b == s || (c == s || false))))) S := wp_one (us := [a, b, c])
theorem wp_one4 {a b c d s : Str} {Q : RV → Sto → Prop} {E : Str → Sto → Prop} : ((@DM.wpK _ (sem_is_one_of [.str s, .tup [.str a, .str b, .str c, .str d]] S) ⟨Q, E⟩)) = Q (.val (.bl (a == s || (b == s || (c == s || (d == s || false)))))) S := wp_one (us := [a, b, c, d])
theorem cW : c_WHOSE = .tup [.str "mine", .str "others", .str "all"] := rfl
theorem cL : c_LAYERS = .tup [.str "set", .str "add", .str "cap"] := rfl
theorem cE : c_EVENTS = .tup [.str "comes", .str "goes", .str "hurt", .str "mended"] := rfl
theorem cS : c_SIZE = .int 20 := rfl
theorem cSE : c_SEATS = .int 4 := rfl
theorem cH : c_HAND = .int 8 := rfl
theorem who_in (w : Who) : ((Str.ofString "mine") == w.s || ((Str.ofString "others") == w.s || (Str.ofString "all") == w.s)) = true := by cases w <;> kernel_rfl
theorem lay_in (w : Lay) : ((Str.ofString "set") == w.s || ((Str.ofString "add") == w.s || (Str.ofString "cap") == w.s)) = true := by cases w <;> kernel_rfl
theorem evn_in (w : Evn) : ((Str.ofString "comes") == w.s || ((Str.ofString "goes") == w.s || ((Str.ofString "hurt") == w.s || (Str.ofString "mended") == w.s))) = true := by cases w <;> kernel_rfl
theorem wp_wholeB {x lo hi : Int} {Q : RV → Sto → Prop} {E : Str → Sto → Prop} : ((@DM.wpK _ (sem_is_whole [.int x, .int lo, .int hi] S) ⟨Q, E⟩)) = Q (.val (.bl (inB x lo hi))) S := wp_whole
theorem answer_eq {a : An} (h : a.valid = true) : sem_is_answer [a.d] S = .ok (.val (.bl true)) S := by
  refine eq_of_wp ?_
  unfold sem_is_answer
  rw [wp_sem]
  refine ⟨rfl, ?_⟩
  unfold m_is_answer
  have e3 : ∀ δ, cNe δ S (.int ((0 : Nat) + 1 + 1 + 1 : Nat)) (.int 3) = some false := fun δ => rfl
  have e33 : (((0 + 1 + 1 + 1 : Nat) : Int) == 3) = true := rfl
  have e34 : (((3 : Nat) : Int) == 3) = true := rfl
  cases a with
  | hit w n =>
    have h : inB n 1 20 = true := h
    k_call_by "tw" ⟨An.d, e3, e33, e34, wp_one3, cW, who_in, cS, wp_wholeB, h⟩
  | mend w n =>
    have h : inB n 1 20 = true := h
    k_call_by "tw" ⟨An.d, e3, e33, e34, wp_one3, cW, who_in, cS, wp_wholeB, h⟩
  | bring n =>
    have h : inB n 1 20 = true := h
    k_call_by "tw" ⟨An.d, e3, e33, e34, wp_one3, cW, cS, wp_wholeB, h⟩
theorem when_eq {e : Evn} {a : An} (h : a.valid = true) : sem_is_when [whD (some (e, a))] S = .ok (.val (.bl true)) S := by
  refine eq_of_wp ?_
  unfold sem_is_when
  rw [wp_sem]
  refine ⟨rfl, ?_⟩
  unfold m_is_when
  have e34 : (((2 : Nat) : Int) == 2) = true := rfl
  have wa := fun (Q : RV → Sto → Prop) (E : Str → Sto → Prop) => wp_of_eq (Q := Q) (E := E) (answer_eq (S := S) h)
  k_call_by "tw" ⟨whD, e34, wp_one4, cE, evn_in, wa⟩
theorem card_eq {c : Cd} {s : Int} (h : c.valid s = true) : sem_is_card [c.d, .int s] S = .ok (.val (.bl true)) S := by
  refine eq_of_wp ?_
  unfold sem_is_card
  rw [wp_sem]
  refine ⟨rfl, ?_⟩
  unfold m_is_card
  have e3 : (((3 : Nat) : Int) == 3) = true := rfl
  have e2 : (((2 : Nat) : Int) == 2) = true := rfl
  have e4 : (((4 : Nat) : Int) == 4) = true := rfl
  have l3 : pLt ((3 : Nat) : Int) 2 = false := rfl
  have l2 : pLt ((2 : Nat) : Int) 2 = false := rfl
  have l4 : pLt ((4 : Nat) : Int) 2 = false := rfl
  cases c with
  | hit t n =>
    cases t with
    | who w => cases h
    | seat x =>
      obtain ⟨h1, h2⟩ := Bool.and_eq_true_iff.mp (show (inB x 0 (s - 1) && inB n 1 20) = true from h)
      k_call_by "tw" ⟨Cd.d, Tg.d, in_str2, e3, e2, e4, l3, l2, l4, wp_wholeB, cS, h1, h2⟩
  | mend t n =>
    cases t with
    | who w => cases h
    | seat x =>
      obtain ⟨h1, h2⟩ := Bool.and_eq_true_iff.mp (show (inB x 0 (s - 1) && inB n 1 20) = true from h)
      k_call_by "tw" ⟨Cd.d, Tg.d, in_str2, e3, e2, e4, l3, l2, l4, wp_wholeB, cS, h1, h2⟩
  | strike u n =>
    obtain ⟨h1, h2⟩ := Bool.and_eq_true_iff.mp (show (inB u 0 9999 && inB n 1 20) = true from h)
    k_call_by "tw" ⟨Cd.d, in_str2, e3, e2, e4, l3, l2, l4, wp_wholeB, cS, h1, h2⟩
  | bring n w =>
    cases w with
    | none =>
      have h1 : inB n 1 20 = true := h
      k_call_by "tw" ⟨Cd.d, whD, in_str2, e3, e2, e4, l3, l2, l4, wp_wholeB, cS, h1⟩
    | some p =>
      obtain ⟨e, a⟩ := p
      obtain ⟨h1, h2⟩ := Bool.and_eq_true_iff.mp (show (inB n 1 20 && a.valid) = true from h)
      have ww := fun (Q : RV → Sto → Prop) (E : Str → Sto → Prop) => wp_of_eq (Q := Q) (E := E) (when_eq (S := S) (e := e) h2)
      simp only [whD] at ww
      k_call_by "tw" ⟨Cd.d, whD, in_str2, e3, e2, e4, l3, l2, l4, wp_wholeB, cS, h1, ww⟩
  | bar i =>
    have h1 : inB i 0 9999 = true := h
    k_call_by "tw" ⟨Cd.d, in_str2, e3, e2, e4, l3, l2, l4, wp_wholeB, cS, h1⟩
  | stand l w m =>
    have h1 : inB m 0 20 = true := h
    k_call_by "tw" ⟨Cd.d, in_str2, e3, e2, e4, l3, l2, l4, wp_wholeB, cS, cL, cW, wp_one3, who_in, lay_in, h1, at3⟩
  | lift i =>
    have h1 : inB i 0 9999 = true := h
    k_call_by "tw" ⟨Cd.d, in_str2, e3, e2, e4, l3, l2, l4, wp_wholeB, cS, h1⟩
end TB


end
section
set_option Elab.async false
set_option linter.all false
set_option maxRecDepth 100000
set_option autoImplicit false
namespace TB
open PySem DM PR L2 PySem.Spec
variable {S0 S : Sto} {A0 A : Ro → Nat} {T0 T : Tb} {δ : List Sl}
theorem bls_map {α : Type} {p : α → Bool} : ∀ cs : List α, blsOf (cs.map fun c => .bl (p c)) = some (cs.map p)
  | [] => rfl
  | c :: cs => by show (blsOf (cs.map fun c => .bl (p c))).map _ = _; rw [bls_map cs]; rfl
theorem all_map {α : Type} {p : α → Bool} {cs : List α} : hAll δ S [.lst (cs.map fun c => .bl (p c))] = some (.bl (cs.all p)) := by
  show (blsOf (cs.map fun c => .bl (p c))).map _ = _
  rw [bls_map]
  show some (D.bl ((cs.map p).all id)) = _
  rw [List.all_map]; rfl
def handD (h : List Cd) : D := .tup (h.map Cd.d)
theorem src_tup {ds : List D} : srcOf S (.tup ds) = some (.seq (.tup ds)) := rfl
theorem srcLen_tup {ds : List D} : srcLen S (.seq (.tup ds)) = ds.length := rfl
theorem srcAt_tup {ds : List D} (i : Nat) : srcAt S (.seq (.tup ds)) i = some (ds[i]?) := rfl
theorem hands_eq {hs : List (List Cd)} (hn : hs.length ≤ 1000) (h8 : ∀ h ∈ hs, h.length ≤ 8) (hv : ∀ h ∈ hs, ∀ c ∈ h, c.valid hs.length = true) : sem_are_hands [.tup (hs.map handD), .int hs.length] S = .ok (.val (.bl true)) S := by
  refine eq_of_wp ?_
  unfold sem_are_hands
  rw [wp_sem]
  refine ⟨rfl, ?_⟩
  unfold m_are_hands
  have en : (((hs.length : Nat) : Int) == (hs.length : Int)) = true := by simp
  k_call_by "tw" ⟨List.length_map, en, src_tup, srcLen_tup⟩
  refine ws_forT hs handD (fun i δ S' => S' = S ∧ ∃ a b, δ = [.v (.tup (hs.map handD)), .v (.int hs.length), a, b] ∧ b.isOwn = false) (fun i δ S' _ => srcAt_tup i) (Nat.lt_succ_self _) ⟨rfl, _, _, rfl, rfl⟩ (fun i δ S' h inv hm => ?_) (fun δ S' inv => ?_)
  · obtain ⟨rfl, a, b, rfl, hb⟩ := inv
    have hx := List.mem_of_getElem? hm
    have l8 : pGt ((h.length : Nat) : Int) 8 = false := decide_eq_false (by have := h8 h hx; omega)
    refine ⟨_, rfl, ?_⟩
    k_call_by "tw" ⟨handD, List.length_map, cH, l8, src_tup, srcLen_tup⟩
    refine ⟨by simp [noOwnAt, hb], wp_lcA h Cd.d (fun c => .bl (c.valid hs.length)) (fun i => srcAt_tup i) (Nat.lt_succ_self _) (by have := h8 h hx; omega) (fun c hc => ⟨(wipeD [Sl.v (.tup (hs.map handD)), .v (.int hs.length), .v (handD h), b] [3]).set 3 (.v c.d), ?_, ?_, rfl⟩) ?_⟩
    · show (if c.d.isOwn = true then none else _) = _
      rw [own_cd]; rfl
    · have wc := fun (Q : RV → Sto → Prop) (E : Str → Sto → Prop) => wp_of_eq (Q := Q) (E := E) (card_eq (S := S') (hv h hx c hc))
      k_call_by "tw" ⟨wipeD, wc, hv h hx c hc⟩
    · have ha : h.all (fun c => c.valid hs.length) = true := List.all_eq_true.mpr fun c hc => hv h hx c hc
      k_call_by "tw" ⟨all_map, ha⟩
      exact ⟨.v (handD h), b, rfl, hb⟩
  · obtain ⟨rfl, a, b, rfl, hb⟩ := inv
    walk_at "tw"
/-- a table in the making -/
structure Bld (S S' : Sto) (n0 m : Nat) (fs : List (Str × D)) (l : List (Nat × Cell)) : Prop where
  base : ∀ j, j < n0 → S'.c j = S.c j
  obj : S'.c n0 = some (.obj "Table" fs)
  nx : S'.nx = n0 + m
  m0 : 0 < m
  all : ∀ p ∈ l, n0 < p.1 ∧ p.1 < S'.nx ∧ S'.c p.1 = some p.2
section
variable {S' : Sto} {n0 m : Nat} {fs : List (Str × D)} {l : List (Nat × Cell)}
theorem Bld.new (b : Bld S S' n0 m fs l) (c : Cell) : Bld S (S'.new c) n0 (m + 1) fs ((n0 + m, c) :: l) := by
  have nx := b.nx
  have m0 := b.m0
  refine ⟨fun j hj => by rw [new_other (by omega)]; exact b.base j hj, by rw [new_other (by omega)]; exact b.obj, by rw [new_nx, nx]; omega, by omega, fun p hp => ?_⟩
  rcases List.mem_cons.mp hp with rfl | hp
  · refine ⟨by show n0 < n0 + m; omega, by rw [new_nx, nx]; show n0 + m < n0 + m + 1; omega, ?_⟩
    show (S'.new c).c (n0 + m) = some c
    rw [← nx]; exact new_same
  · obtain ⟨h1, h2, h3⟩ := b.all p hp
    exact ⟨h1, by rw [new_nx]; omega, by rw [new_other (by omega)]; exact h3⟩
theorem Bld.fld (b : Bld S S' n0 m fs l) (f : Str) (y : D) : Bld S (S'.set n0 (some (.obj "Table" (putA f y fs)))) n0 m (putA f y fs) l := by
  refine ⟨fun j hj => by rw [set_other (by omega)]; exact b.base j hj, set_same, b.nx, b.m0, fun p hp => ?_⟩
  obtain ⟨h1, h2, h3⟩ := b.all p hp
  exact ⟨h1, h2, by rw [set_other (by omega)]; exact h3⟩
theorem Bld.step (b : Bld S S' n0 m fs l) {f : Str} {y : D} {Q : Sto → Prop} (hy : y.isOwn = false) (hl : fs.length < 1000) (q : ∀ S2, Bld S S2 n0 m (putA f y fs) l → Q S2) : (@DM.woK _ (fldP S' "Table" f (.ref n0) y) ⟨Q⟩) := by
  rw [l_fld b.obj hy hl]
  exact q _ (b.fld f y)
end
theorem floor_w {i : Nat} (h : S.c i = some (.obj "Floor" [])) (hi : S.nx = i + 1) : (@DM.wpK _ (sem_Floor___init__ [.ref i] S) ⟨(fun v S' => v = .val .non ∧ S'.nx = i + 3 ∧ (∀ j, j < i → S'.c j = S.c j) ∧ S'.c i = some (.obj "Floor" [("men", .ref (i + 1)), ("stays", .ref (i + 2)), ("coming", .int 0)]) ∧ S'.c (i + 1) = some (.dic []) ∧ S'.c (i + 2) = some (.dic [])), (fun _ _ => False)⟩) := by
  unfold sem_Floor___init__
  rw [wp_sem]
  refine ⟨rfl, ?_⟩
  unfold m_Floor___init__
  k_call_by "tw" ⟨hi⟩
  rw [l_fld (fs := []) (by rw [new_other (by omega)]; exact h) rfl (by decide)]
  k_call_by "tw" ⟨set_nx, new_nx, hi⟩
  rw [l_fld (fs := [(Str.ofString "men", .ref (i + 1))]) (by rw [new_other (by show i ≠ S.nx + 1; omega), set_same]; rfl) rfl (by simp)]
  k_call_by "tw" ⟨set_nx, new_nx, hi⟩
  rw [l_fld (fs := [(Str.ofString "men", .ref (i + 1)), (Str.ofString "stays", .ref (i + 1 + 1))]) (by rw [set_same]; kernel_rfl) rfl (by simp)]
  walk_at "tw"
  have e2 : (S.new (.dic [])).nx = i + 2 := by rw [new_nx, hi]
  refine ⟨by rw [set_nx, set_nx, new_nx, set_nx, new_nx, hi], fun j hj => ?_, ?_, ?_, ?_⟩
  · rw [set_other (by omega), set_other (by omega), new_other (by show j ≠ S.nx + 1; omega), set_other (by omega), new_other (by omega)]
  · rw [set_same]; kernel_rfl
  · rw [set_other (by omega), set_other (by omega), new_other (by show i + 1 ≠ S.nx + 1; omega), set_other (by omega), ← hi]; exact new_same
  · rw [set_other (by omega), set_other (by omega)]
    have : i + 2 = (((S.new (.dic [])).set i (some (.obj "Floor" (putA "men" (.ref (i + 1)) []))))).nx := by rw [set_nx, e2]
    rw [this]; exact new_same
theorem cells_w {hs : List (List Cd)} {δ : List Sl} {k : Nat} {Q : List D → Sto → Prop} {E : Str → Sto → Prop} (hl : hs.length ≤ 1000) (hk : k < δ.length)
    (q : ∀ S', S'.nx = S.nx + hs.length → (∀ j, j < S.nx → S'.c j = S.c j) → (∀ j h, hs[j]? = some h → S'.c (S.nx + j) = some (.lst (h.map Cd.d))) → Q ((List.range hs.length).map fun j => .ref (S.nx + j)) S') :
    (@DM.wpK _ (lcL (.seq (.tup (hs.map handD))) (bindT (false, [(Str.ofString "hand", k)])) dYes (dCell (fB hList (dCons (dVar k) dNil))) ((hs.map handD).length + 1) 0 [] δ S) ⟨Q, E⟩) := by
  refine wp_mono (wp_lcL (E := E) (hs.map handD) (fun i acc S' => acc = (List.range i).map (fun j => .ref (S.nx + j)) ∧ S'.nx = S.nx + i ∧ (∀ j, j < S.nx → S'.c j = S.c j) ∧ (∀ j h, j < i → hs[j]? = some h → S'.c (S.nx + j) = some (.lst (h.map Cd.d)))) (fun i acc S' _ => srcAt_tup i) (fun i acc S' d inv e => ?_) _ 0 [] S (by omega) (Nat.zero_le _) ⟨rfl, rfl, fun _ _ => rfl, fun j h hj => absurd hj (Nat.not_lt_zero _)⟩) (fun acc S' z => ?_) (fun c S' z => z)
  · obtain ⟨rfl, nx, keep, cl⟩ := inv
    rw [List.getElem?_map] at e
    cases eh : hs[i]? with
    | none => rw [eh] at e; cases e
    | some h =>
      rw [eh] at e
      cases e
      have hi : i < hs.length := (List.getElem?_eq_some_iff.mp eh).1
      refine ⟨δ.set k (.v (handD h)), rfl, ?_⟩
      have e0 : (δ.set k (.v (handD h)))[k]? = some (.v (handD h)) := List.getElem?_set_self hk
      have ht : ∀ δ, hList δ S' [handD h] = some (h.map Cd.d) := fun δ => rfl
      k_call_by "tw" ⟨e0, ht⟩
      refine ⟨by simp; omega, by rw [List.range_succ, List.map_append, nx]; rfl, by rw [new_nx, nx]; omega, fun j hj => by rw [new_other (by omega)]; exact keep j hj, fun j h' hj eh' => ?_⟩
      by_cases hji : j = i
      · subst hji
        rw [eh] at eh'; cases eh'
        rw [← nx]; exact new_same
      · rw [new_other (by omega)]; exact cl j h' (by omega) eh'
  · obtain ⟨rfl, nx, keep, cl⟩ := z
    rw [List.length_map] at nx cl
    rw [List.length_map]
    exact q S' nx keep fun j h e => cl j h ((List.getElem?_eq_some_iff.mp e).1) e
end TB


end
section
set_option Elab.async false
set_option linter.all false
set_option maxRecDepth 100000
set_option autoImplicit false
namespace TB
open PySem DM PR L2 PySem.Spec
variable {S0 S : Sto} {A0 A : Ro → Nat} {T0 T : Tb} {δ : List Sl}
/-- lives and hands of which a table is made -/
structure OkNew (ls : List Int) (hs : List (List Cd)) : Prop where
  n2 : 2 ≤ ls.length
  n4 : ls.length ≤ 4
  lv : ∀ l ∈ ls, 1 ≤ l ∧ l ≤ 99
  hn : hs.length = ls.length
  h8 : ∀ h ∈ hs, h.length ≤ 8
  hv : ∀ h ∈ hs, ∀ c ∈ h, c.valid ls.length = true
def newA (n0 k : Nat) : Ro → Nat
  | .obj => n0
  | .lv => n0 + 1
  | .hand j => n0 + 2 + j
  | .hd => n0 + (2 + k)
  | .fl => n0 + (2 + k + 1)
  | .mn => n0 + (2 + k + 1) + 1
  | .sy => n0 + (2 + k + 1) + 2
  | .st => n0 + (2 + k + 4)
  | .du => n0 + (2 + k + 4 + 1)
  | .man _ => 0
  | .item _ => 0
theorem Rep.ofNew {n0 k : Nat} {S' : Sto} {ls : List Int} {hs : List (List Cd)} (hk : hs.length = k) (hnx : n0 + 8 + k ≤ S'.nx) (h : ∀ r c, content (newA n0 k) (Tb.new ls hs) r = some c → S'.c (newA n0 k r) = some c) : Rep S' (newA n0 k) (Tb.new ls hs) ∧ ∀ r, live (Tb.new ls hs) r → n0 ≤ newA n0 k r := by
  have hl : ∀ r, live (Tb.new ls hs) r → match r with
      | .hand j => j < k
      | .man _ => False
      | .item _ => False
      | _ => True := fun r l => by
    cases r with
    | hand j =>
      have l : ((hs[j]?).map fun h => Cell.lst (h.map Cd.d)).isSome = true := l
      rw [Option.isSome_map] at l
      have := List.getElem?_eq_some_iff.mp (Option.isSome_iff_exists.mp l).choose_spec
      rw [← hk]; exact this.1
    | man n => cases l
    | item n => cases l
    | _ => trivial
  refine ⟨⟨h, fun r l => ?_, fun r r' l l' e => ?_⟩, fun r l => ?_⟩
  · have := hl r l
    cases r <;> simp only [newA] at this ⊢ <;> first | omega | exact this.elim
  · have h1 := hl r l
    have h2 := hl r' l'
    cases r <;> cases r' <;> simp only [newA] at h1 h2 e ⊢ <;> first | rfl | (exfalso; omega) | exact h1.elim | exact h2.elim | (congr 1; omega)
  · have := hl r l
    cases r <;> simp only [newA] at this ⊢ <;> first | omega | exact this.elim
theorem init_w {n0 : Nat} {ls : List Int} {hs : List (List Cd)} (o : OkNew ls hs) (hS : S.c n0 = some (.obj "Table" [])) (hnx : S.nx = n0 + 1) :
    (@DM.wpK _ (sem_Table___init__ [.ref n0, .tup (ls.map .int), .tup (hs.map handD)] S) ⟨(fun v S' => v = .val .non ∧ ∃ A, Rep S' A (Tb.new ls hs) ∧ A .obj = n0 ∧ (∀ r, live (Tb.new ls hs) r → n0 ≤ A r) ∧ n0 < S'.nx ∧ ∀ j, j < n0 → S'.c j = S.c j), (fun _ _ => False)⟩) := by
  have n2 := o.n2
  have n4 := o.n4
  have hn := o.hn
  unfold sem_Table___init__
  rw [wp_sem]
  refine ⟨rfl, ?_⟩
  unfold m_Table___init__
  have p1 : pLe 2 ((ls.length : Nat) : Int) = true := decide_eq_true (by omega)
  have p2 : pLe ((ls.length : Nat) : Int) 4 = true := decide_eq_true (by omega)
  k_call_by "tw" ⟨List.length_map, cSE, p1, p2, src_tup, srcLen_tup⟩
  refine ⟨rfl, wp_lcA ls D.int (fun x => .bl (inB x 1 99)) (fun i => srcAt_tup i) (Nat.lt_succ_self _) (by omega) (fun x hx => ⟨_, rfl, ?_, rfl⟩) ?_⟩
  · k_call_by "tw" ⟨wipeD, c_LIFE_eq, wp_wholeB⟩
  · have ha : ls.all (fun x => inB x 1 99) = true := List.all_eq_true.mpr fun x hx => by
      unfold inB
      rw [decide_eq_true (o.lv x hx).1, decide_eq_true (o.lv x hx).2]; rfl
    have eh : D.int (ls.length : Nat) = .int (hs.length : Nat) := by rw [hn]
    have wh := fun (Q : RV → Sto → Prop) (E : Str → Sto → Prop) => wp_of_eq (Q := Q) (E := E) (hands_eq (S := S) (hs := hs) (by omega) o.h8 (fun h hh c hc => by rw [hn]; exact o.hv h hh c hc))
    have el : ∀ (δ : List Sl) (S : Sto), hList δ S [.tup (ls.map D.int)] = some (ls.map D.int) := fun _ _ => rfl
    k_call_by "tw" ⟨all_map, ha, List.length_map, eh, wh, el⟩
    have b0 : Bld S S n0 1 [] [] := ⟨fun _ _ => rfl, hS, hnx, by omega, fun p hp => nomatch hp⟩
    have b1 := b0.new (.lst (ls.map D.int))
    rw [hnx]
    refine b1.step rfl (by decide) fun S1 b1 => ?_
    k_call_by "tw" ⟨src_tup, srcLen_tup⟩
    refine ⟨rfl, cells_w (by omega) (by simp [wipeD]) fun S2 nx2 k2 c2 => ?_⟩
    have nx1 := b1.nx
    have b2 : Bld S S2 n0 (2 + hs.length) (putA "lives" (.ref (n0 + 1)) []) ((n0 + 1, .lst (ls.map D.int)) :: (List.range hs.length).map fun j => (n0 + 2 + j, Cell.lst ((hs.getD j []).map Cd.d))) := by
      refine ⟨fun j hj => by rw [k2 j (by omega)]; exact b1.base j hj, by rw [k2 n0 (by omega)]; exact b1.obj, by rw [nx2, nx1]; omega, by omega, fun p hp => ?_⟩
      rcases List.mem_cons.mp hp with rfl | hp
      · obtain ⟨h1, h2, h3⟩ := b1.all (n0 + 1, .lst (ls.map D.int)) (List.mem_cons_self ..)
        exact ⟨h1, by rw [nx2]; omega, by rw [k2 _ h2]; exact h3⟩
      · obtain ⟨j, hj, rfl⟩ := List.mem_map.mp hp
        have hj := List.mem_range.mp hj
        refine ⟨by show n0 < n0 + 2 + j; omega, by show n0 + 2 + j < _; rw [nx2, nx1]; omega, ?_⟩
        have := c2 j (hs.getD j []) (by simp [List.getD, hj])
        rw [nx1] at this
        exact this
    rw [nx1]
    have b3 := b2.new (.lst ((List.range hs.length).map fun j => .ref (n0 + 2 + j)))
    have e3 : (2 + hs.length) = hs.length + 2 := by omega
    k_call_by "tw" ⟨b2.nx⟩
    refine b3.step rfl (show _ < _ from Nat.le_of_ble_eq_true (by kernel_rfl)) fun S4 b4 => ?_
    walk_at "tw"
    refine wp_use (floor_w (S := S4.new (.obj "Floor" [])) (i := S4.nx) new_same rfl) fun v S5 z => ?_
    obtain ⟨rfl, nx5, k5, f1, f2, f3⟩ := z
    have nx4 := b4.nx
    rw [nx4] at nx5 k5 f1 f2 f3
    have b5 : Bld S S5 n0 (2 + hs.length + 4) (putA "hands" (.ref (n0 + (2 + hs.length))) (putA "lives" (.ref (n0 + 1)) [])) ((n0 + (2 + hs.length + 1), .obj "Floor" [("men", .ref (n0 + (2 + hs.length + 1) + 1)), ("stays", .ref (n0 + (2 + hs.length + 1) + 2)), ("coming", .int 0)]) :: (n0 + (2 + hs.length + 1) + 1, .dic []) :: (n0 + (2 + hs.length + 1) + 2, .dic []) :: ((n0 + (2 + hs.length), Cell.lst ((List.range hs.length).map fun j => .ref (n0 + 2 + j))) :: (n0 + 1, .lst (ls.map D.int)) :: (List.range hs.length).map fun j => (n0 + 2 + j, Cell.lst ((hs.getD j []).map Cd.d)))) := by
      have kk : ∀ j, j < n0 + (2 + hs.length + 1) → S5.c j = S4.c j := fun j hj => by rw [k5 j hj, new_other (by omega)]
      refine ⟨fun j hj => by rw [kk j (by omega)]; exact b4.base j hj, by rw [kk n0 (by omega)]; exact b4.obj, by rw [nx5]; omega, by omega, fun p hp => ?_⟩
      rcases List.mem_cons.mp hp with rfl | hp
      · exact ⟨by show n0 < n0 + (2 + hs.length + 1); omega, by show n0 + (2 + hs.length + 1) < _; rw [nx5]; omega, f1⟩
      · rcases List.mem_cons.mp hp with rfl | hp
        · exact ⟨by show n0 < n0 + (2 + hs.length + 1) + 1; omega, by show n0 + (2 + hs.length + 1) + 1 < _; rw [nx5]; omega, f2⟩
        · rcases List.mem_cons.mp hp with rfl | hp
          · exact ⟨by show n0 < n0 + (2 + hs.length + 1) + 2; omega, by show n0 + (2 + hs.length + 1) + 2 < _; rw [nx5]; omega, f3⟩
          · obtain ⟨h1, h2, h3⟩ := b4.all p hp
            exact ⟨h1, by rw [nx5]; omega, by rw [kk _ (by omega)]; exact h3⟩
    refine ⟨rfl, ?_⟩
    rw [nx4]
    refine b5.step rfl (show _ < _ from Nat.le_of_ble_eq_true (by kernel_rfl)) fun S6 b6 => ?_
    k_call_by "tw" ⟨b6.nx⟩
    refine (b6.new (.lst [])).step rfl (show _ < _ from Nat.le_of_ble_eq_true (by kernel_rfl)) fun S7 b7 => ?_
    walk_at "tw"
    refine b7.step rfl (show _ < _ from Nat.le_of_ble_eq_true (by kernel_rfl)) fun S8 b8 => ?_
    walk_at "tw"
    refine b8.step rfl (show _ < _ from Nat.le_of_ble_eq_true (by kernel_rfl)) fun S9 b9 => ?_
    walk_at "tw"
    refine b9.step rfl (show _ < _ from Nat.le_of_ble_eq_true (by kernel_rfl)) fun S10 b10 => ?_
    walk_at "tw"
    refine b10.step rfl (show _ < _ from Nat.le_of_ble_eq_true (by kernel_rfl)) fun S11 b11 => ?_
    k_call_by "tw" ⟨b11.nx⟩
    refine (b11.new (.lst [])).step rfl (show _ < _ from Nat.le_of_ble_eq_true (by kernel_rfl)) fun S12 b12 => ?_
    have nx12 := b12.nx
    have rr := Rep.ofNew (n0 := n0) (k := hs.length) (S' := S12) (ls := ls) (hs := hs) rfl (by rw [nx12]; omega) (fun r c e => by
      have al := b12.all
      cases r with
      | obj =>
        cases e
        refine b12.obj.trans ?_
        kernel_rfl
      | lv => cases e; exact (al (n0 + 1, .lst (ls.map D.int)) (by simp)).2.2
      | hd =>
        cases e
        exact (al (n0 + (2 + hs.length), Cell.lst ((List.range hs.length).map fun j => .ref (n0 + 2 + j))) (by simp)).2.2
      | hand j =>
        have e : ((hs[j]?).map fun h => Cell.lst (h.map Cd.d)) = some c := e
        cases hj : hs[j]? with
        | none => rw [hj] at e; cases e
        | some h =>
          rw [hj] at e
          cases e
          have hlt := (List.getElem?_eq_some_iff.mp hj).1
          have := (al (n0 + 2 + j, Cell.lst ((hs.getD j []).map Cd.d)) (List.mem_cons_of_mem _ (List.mem_cons_of_mem _ (List.mem_cons_of_mem _ (List.mem_cons_of_mem _ (List.mem_cons_of_mem _ (List.mem_cons_of_mem _ (List.mem_cons_of_mem _ (List.mem_map.mpr ⟨j, List.mem_range.mpr hlt, rfl⟩))))))))).2.2
          have eh : hs.getD j [] = h := by simp [List.getD, hj]
          rw [eh] at this
          exact this
      | fl => cases e; exact (al (n0 + (2 + hs.length + 1), .obj "Floor" [("men", .ref (n0 + (2 + hs.length + 1) + 1)), ("stays", .ref (n0 + (2 + hs.length + 1) + 2)), ("coming", .int 0)]) (by simp)).2.2
      | mn => cases e; exact (al (n0 + (2 + hs.length + 1) + 1, .dic []) (by simp)).2.2
      | sy => cases e; exact (al (n0 + (2 + hs.length + 1) + 2, .dic []) (by simp)).2.2
      | st => cases e; exact (al (n0 + (2 + hs.length + 4), .lst []) (by simp)).2.2
      | du => cases e; exact (al (n0 + (2 + hs.length + 4 + 1), .lst []) (by simp)).2.2
      | man n => cases e
      | item n => cases e)
    exact ⟨rfl, _, rr.1, rfl, rr.2, by rw [nx12]; omega, b12.base⟩
end TB


end
section
set_option Elab.async false
set_option linter.all false
set_option maxRecDepth 100000
set_option autoImplicit false
namespace TB
open PySem DM PR L2 PySem.Spec
variable {T T' : Tb} {n : Nat}
/-- the numbers of a card that are not less than 0 -/
def An.nn : An → Prop
  | .hit _ m => 0 ≤ m
  | .mend _ m => 0 ≤ m
  | .bring _ => True
def Cd.nn : Cd → Prop
  | .hit _ m => 0 ≤ m
  | .mend _ m => 0 ≤ m
  | .bring _ w => ∀ e a, w = some (e, a) → a.nn
  | _ => True
/-- what holds within a deed, too -/
structure In (n : Nat) (T : Tb) : Prop where
  nn : T.n = n
  lvs : ∀ l ∈ T.lives, 0 ≤ l ∧ l ≤ 99
  tu : 0 ≤ T.turner ∧ T.turner < n
  as : 0 ≤ T.asked ∧ T.asked < n
  hds : ∀ h ∈ T.hands, h.length ≤ 8 ∧ ∀ c ∈ h, (c.isWho = false ∧ c.seatOk n) ∧ c.nn
  its : ∀ x ∈ T.stack, x.2.2.seatOk n ∧ x.2.2.nn
  mnn : ∀ m ∈ T.men, ∀ e a, m.2.wh = some (e, a) → a.nn
  duA : ∀ d ∈ T.due, ∃ a : An, d.2 = a.cd ∧ a.nn
  cnt : 0 ≤ T.count ∧ 0 ≤ T.coming
  sc : (T.stays.length : Int) ≤ T.coming
theorem In.wf (i : In n T) (k : Ks T) (n2 : 2 ≤ n) (hd : T.due = []) : WF T := by
  have e := i.nn
  subst e
  exact { k with n2 := n2, lvs := i.lvs, tu := i.tu, as := i.as, hds := fun h hh => ⟨(i.hds h hh).1, fun c hc => ((i.hds h hh).2 c hc).1⟩, its := fun x hx => (i.its x hx).1, du := hd, cnt := i.cnt }
theorem In.happens (i : In n T) (ev : Evn) : In n (T.happens ev) := ⟨i.nn, i.lvs, i.tu, i.as, i.hds, i.its, i.mnn, fun d hd => (by
  rcases List.mem_append.mp hd with h | h
  · exact i.duA d h
  · obtain ⟨m, hm, e⟩ := List.mem_filterMap.mp h
    cases hw : m.2.wh with
    | none => rw [hw] at e; cases e
    | some p =>
      have hn := i.mnn m hm p.1 p.2 hw
      rw [hw] at e
      dsimp only at e
      split at e
      · cases e; exact ⟨p.2, rfl, hn⟩
      · cases e), i.cnt, i.sc⟩
theorem In.lives (i : In n T) {s v : Int} (hv : 0 ≤ v ∧ v ≤ 99) : In n { T with lives := T.lives.set s.toNat v } := ⟨(List.length_set ..).trans i.nn, fun l hl => (by
  rcases List.mem_or_eq_of_mem_set hl with h | h
  · exact i.lvs l h
  · rw [h]; exact hv), i.tu, i.as, i.hds, i.its, i.mnn, i.duA, i.cnt, i.sc⟩
theorem life_le (i : In n T) (s : Int) : 0 ≤ T.life s ∧ T.life s ≤ 99 := by
  unfold Tb.life
  rw [List.getD_eq_getElem?_getD]
  cases h : T.lives[s.toNat]? with
  | none => exact ⟨by decide, by decide⟩
  | some x => exact i.lvs x (List.mem_of_getElem? h)
theorem In.hit (i : In n T) {s m : Int} (hm : 0 ≤ m) : In n (T.hitOne s m).2 := (i.lives (s := s) (v := max 0 (T.life s - m)) (by have := life_le i s; omega)).happens .hurt
theorem In.mend (i : In n T) {s m : Int} (hm : 0 ≤ m) : In n (T.mendOne s m).2 := (i.lives (s := s) (v := min 99 (T.life s + m)) (by have := life_le i s; omega)).happens .mended
theorem In.each {f : Tb → Int → List Nt × Tb} (hf : ∀ T s, In n T → In n (f T s).2) : ∀ (l : List Int) {T : Tb}, In n T → In n (Tb.each f l T).2
  | [], _, i => i
  | s :: l, _, i => In.each hf l (hf _ s i)
theorem In.resolve (i : In n T) {num o : Int} {c : Cd} (hc : c.nn) : In n (T.resolve num o c).2 := by
  unfold Tb.resolve
  split
  · exact i
  · cases c with
    | hit t m => exact In.each (fun T s i => i.hit hc) _ i
    | mend t m => exact In.each (fun T s i => i.mend hc) _ i
    | strike un m => exact ⟨i.nn, i.lvs, i.tu, i.as, i.hds, i.its, fun x hx e a ha => (by
        obtain ⟨y, hy, rfl⟩ := List.mem_map.mp hx
        refine i.mnn y hy e a ?_
        revert ha
        dsimp only
        split <;> exact id), i.duA, i.cnt, i.sc⟩
    | bring m w => exact In.happens (T := { T with men := T.men ++ [(T.coming, ⟨o, m, w, 0⟩)], coming := T.coming + 1 }) ⟨i.nn, i.lvs, i.tu, i.as, i.hds, i.its, fun x hx e a ha => (by
        rcases List.mem_append.mp hx with h | h
        · exact i.mnn x h e a ha
        · rw [List.mem_singleton.mp h] at ha; exact hc e a ha), i.duA, ⟨i.cnt.1, by have := i.cnt.2; show 0 ≤ T.coming + 1; omega⟩, by have := i.sc; show (T.stays.length : Int) ≤ T.coming + 1; omega⟩ .comes
    | stand l w m => exact ⟨i.nn, i.lvs, i.tu, i.as, i.hds, i.its, i.mnn, i.duA, ⟨i.cnt.1, by have := i.cnt.2; show 0 ≤ T.coming + 1; omega⟩, by have := i.sc; show ((T.stays ++ [_]).length : Int) ≤ T.coming + 1; rw [List.length_append, List.length_singleton]; omega⟩
    | bar j => exact ⟨i.nn, i.lvs, i.tu, i.as, i.hds, fun x hx => i.its x (List.mem_filter.mp hx).1, i.mnn, i.duA, i.cnt, i.sc⟩
    | lift s => exact ⟨i.nn, i.lvs, i.tu, i.as, i.hds, i.its, i.mnn, i.duA, i.cnt, by have := i.sc; have := List.length_filter_le (fun x : Int × Int × Cd => decide (x.1 ≠ s)) T.stays; show ((T.stays.filter _).length : Int) ≤ T.coming; omega⟩
theorem In.goes : ∀ (k : Nat) {T : Tb}, In n T → In n (Tb.rep (fun T => T.happens .goes) k T)
  | 0, _, i => i
  | k + 1, _, i => In.goes k (i.happens .goes)
theorem In.fallOnce (i : In n T) : In n T.fallOnce := by
  have h := In.goes T.failing.length i
  exact ⟨h.nn, h.lvs, h.tu, h.as, h.hds, h.its, fun m hm => h.mnn m (List.mem_filter.mp hm).1, h.duA, h.cnt, h.sc⟩
theorem In.fall : ∀ (k : Nat) {T : Tb}, In n T → In n (Tb.fall k T).2
  | 0, _, i => i
  | k + 1, T, i => by
    unfold Tb.fall
    split
    · exact i
    · exact In.fall k i.fallOnce
theorem In.clear (i : In n T) : In n T.clearOut := ⟨i.nn, i.lvs, i.tu, i.as, i.hds, fun x hx => i.its x (List.mem_filter.mp hx).1, i.mnn, i.duA, i.cnt, by
  have := i.sc
  have := List.length_filter_le (fun x : Int × Int × Cd => decide (T.life x.2.1 ≠ 0)) T.stays
  show ((T.stays.filter _).length : Int) ≤ T.coming; omega⟩
theorem An.seatOk (a : An) : a.cd.seatOk n := by cases a <;> trivial
theorem An.cdnn {a : An} (h : a.nn) : a.cd.nn := by
  cases a with
  | hit w m => exact h
  | mend w m => exact h
  | bring m => intro e a h; cases h
theorem In.put (i : In n T) {o : Int} {c : Cd} (hc : c.seatOk n ∧ c.nn) : In n (T.put o c) := ⟨i.nn, i.lvs, i.tu, i.as, i.hds, fun x hx => (by
  rcases List.mem_append.mp hx with h | h
  · exact i.its x h
  · rw [List.mem_singleton.mp h]; exact hc), i.mnn, i.duA, ⟨by have := i.cnt.1; show 0 ≤ T.count + 1; omega, i.cnt.2⟩, i.sc⟩
theorem In.waitRow {s : Int} : ∀ (l : List (Int × Cd)) {T : Tb}, (∀ d ∈ l, ∃ a : An, d.2 = a.cd ∧ a.nn) → In n T → In n (Tb.waitRow s l T).2
  | [], _, _, i => i
  | d :: l, T, h, i => by
    refine In.waitRow l (fun x hx => h x (List.mem_cons_of_mem _ hx)) ?_
    unfold Tb.waitOne
    split
    · obtain ⟨a, e, hn⟩ := h d (List.mem_cons_self ..)
      exact i.put (by rw [e]; exact ⟨a.seatOk, An.cdnn hn⟩)
    · exact i
theorem In.waitAll {due : List (Int × Cd)} (h : ∀ d ∈ due, ∃ a : An, d.2 = a.cd ∧ a.nn) : ∀ (l : List Int) {T : Tb}, In n T → In n (Tb.waitAll due l T).2
  | [], _, i => i
  | s :: l, _, i => In.waitAll h l (In.waitRow due h i)
theorem In.settle (i : In n T) : In n T.settleDown.2 := by
  have h1 := (In.fall (T.men.length + 1) i).clear
  have h2 := In.waitAll (due := (Tb.fall (T.men.length + 1) T).2.clearOut.due) h1.duA ((Tb.fall (T.men.length + 1) T).2.clearOut.seatsFrom (Tb.fall (T.men.length + 1) T).2.clearOut.turner) h1
  exact ⟨h2.nn, h2.lvs, h2.tu, h2.as, h2.hds, h2.its, h2.mnn, fun d hd => (nomatch hd), h2.cnt, h2.sc⟩
theorem head_in {l : List Int} {P : Int → Prop} {d : Int} (h : ∀ x ∈ l, P x) (hd : P d) : P (l.headD d) := by
  cases l with
  | nil => exact hd
  | cons a l => exact h a (List.mem_cons_self ..)
theorem behind_in (h0 : 0 < T.n) {s : Int} (hs : 0 ≤ s ∧ s < T.n) : 0 ≤ T.behind s ∧ T.behind s < T.n := by
  refine head_in (P := fun x => 0 ≤ x ∧ x < T.n) (fun x hx => ?_) hs
  rcases List.mem_append.mp hx with h | h
  · have := (from_mem h0).mp h; exact ⟨this.1, this.2.1⟩
  · rw [List.mem_singleton.mp h]; exact hs
theorem In.ask (i : In n T) (h0 : 0 < n) : In n T.ask := by
  unfold Tb.ask
  split
  · exact i
  · have hh : 0 ≤ (T.seatsFrom T.turner).headD 0 ∧ (T.seatsFrom T.turner).headD 0 < n := head_in (P := fun x => 0 ≤ x ∧ x < (n : Int)) (fun x hx => by
      have := (from_mem (by rw [i.nn]; exact h0)).mp hx
      rw [i.nn] at this; exact ⟨this.1, this.2.1⟩) ⟨by decide, by omega⟩
    exact ⟨i.nn, i.lvs, hh, hh, i.hds, i.its, i.mnn, i.duA, i.cnt, i.sc⟩
theorem after_fst (r : List Nt × Tb) : (Tb.afterDone r).1 = r.1 ++ r.2.settleDown.1 := by simp only [Tb.afterDone]
theorem after_snd (r : List Nt × Tb) : (Tb.afterDone r).2 = r.2.settleDown.2.ask := by simp only [Tb.afterDone]
theorem In.after {r : List Nt × Tb} (i : In n r.2) (h0 : 0 < n) : In n (Tb.afterDone r).2 := by
  rw [after_snd]
  have j := In.settle (T := r.2) i
  generalize r.2.settleDown.2 = x at j ⊢
  exact In.ask j h0
theorem In.goBy (i : In n T) (h0 : 0 < n) : In n T.goBy.2 := by
  have e := i.nn
  unfold Tb.goBy
  split
  · have := behind_in (T := T) (by omega) (s := T.asked) (by rw [e]; exact i.as)
    rw [e] at this
    exact ⟨i.nn, i.lvs, i.tu, this, i.hds, i.its, i.mnn, i.duA, i.cnt, i.sc⟩
  · split
    · have := behind_in (T := T) (by omega) (s := T.turner) (by rw [e]; exact i.tu)
      rw [e] at this
      exact ⟨i.nn, i.lvs, this, this, i.hds, i.its, i.mnn, i.duA, i.cnt, i.sc⟩
    · rename_i x hx
      have i1 : In n { T with passes := 0, stack := T.stack.dropLast } := ⟨i.nn, i.lvs, i.tu, i.as, i.hds, fun x hx => i.its x (List.dropLast_subset _ hx), i.mnn, i.duA, i.cnt, i.sc⟩
      have i2 := i1.resolve (num := x.1) (o := x.2.1) (i.its x (List.mem_of_getLast? hx)).2
      exact In.after i2 h0
theorem goBy_due : T.due = [] → T.goBy.2.due = [] := fun h => by
  unfold Tb.goBy
  split
  · exact h
  · split
    · exact h
    · rw [after_snd]
      unfold Tb.ask
      split <;> rfl
theorem In.play (i : In n T) {p : Int} (h : T.playNo T.asked p = none) (hn : T.hands.length = T.n) : In n (T.playOk T.asked p) := by
  have hp : 0 ≤ p ∧ p < (T.hand T.asked).length := by
    unfold Tb.playNo at h
    by_cases hc : 0 ≤ p ∧ p < (T.hand T.asked).length
    · exact hc
    · rw [if_pos hc] at h; cases h
  have hl : T.asked.toNat < T.hands.length := by have := i.as; have := i.nn; omega
  have hm : T.hand T.asked ∈ T.hands := by unfold Tb.hand; rw [getD_of hl]; exact List.getElem_mem hl
  have hw := i.hds _ hm
  have hpl : p.toNat < (T.hand T.asked).length := by omega
  have hc : (T.hand T.asked).getD p.toNat (.bar 0) ∈ T.hand T.asked := by rw [getD_of hpl]; exact List.getElem_mem hpl
  refine In.put (T := { T with passes := 0, hands := T.hands.set T.asked.toNat ((T.hand T.asked).eraseIdx p.toNat) }) ⟨i.nn, i.lvs, i.tu, i.as, fun x hx => ?_, i.its, i.mnn, i.duA, i.cnt, i.sc⟩ ⟨(hw.2 _ hc).1.2, (hw.2 _ hc).2⟩
  rcases List.mem_or_eq_of_mem_set hx with h | h
  · exact i.hds x h
  · rw [h]
    exact ⟨Nat.le_trans (List.eraseIdx_sublist ..).length_le hw.1, fun c hc => hw.2 c ((List.eraseIdx_sublist ..).subset hc)⟩
theorem play_ks (k : Ks T) (i : In n T) {p : Int} (h : T.playNo T.asked p = none) : Ks (T.playOk T.asked p) := by
  have hs : T.stack.length < 40 := by
    unfold Tb.playNo at h
    have := k.stackN
    by_cases h1 : 0 ≤ p ∧ p < (T.hand T.asked).length
    · rw [if_neg (by simpa using h1)] at h
      split at h
      · cases h
      · split at h
        · cases h
        · omega
    · rw [if_pos h1] at h; cases h
  have k1 : Ks { T with passes := 0, hands := T.hands.set T.asked.toNat ((T.hand T.asked).eraseIdx p.toNat) } := k.same rfl rfl rfl rfl rfl rfl (List.length_set ..)
  exact k1.put hs (by have := i.as; have e := i.nn; show 0 ≤ T.asked ∧ T.asked < T.n; omega)
theorem new_wf {ls : List Int} {hs : List (List Cd)} (o : OkNew ls hs) : WF (Tb.new ls hs) := by
  have sv : ∀ h ∈ hs, ∀ c ∈ h, c.isWho = false ∧ c.seatOk ls.length := fun h hh c hc => by
    have := o.hv h hh c hc
    cases c with
    | hit t n =>
      cases t with
      | who w => cases this
      | seat x =>
        have h1 := (Bool.and_eq_true_iff.mp (show (inB x 0 ((ls.length : Int) - 1) && inB n 1 20) = true from this)).1
        unfold inB at h1
        have h2 := Bool.and_eq_true_iff.mp h1
        have a := of_decide_eq_true h2.1
        have b := of_decide_eq_true h2.2
        exact ⟨rfl, a, by omega⟩
    | mend t n =>
      cases t with
      | who w => cases this
      | seat x =>
        have h1 := (Bool.and_eq_true_iff.mp (show (inB x 0 ((ls.length : Int) - 1) && inB n 1 20) = true from this)).1
        unfold inB at h1
        have h2 := Bool.and_eq_true_iff.mp h1
        have a := of_decide_eq_true h2.1
        have b := of_decide_eq_true h2.2
        exact ⟨rfl, a, by omega⟩
    | strike u n => exact ⟨rfl, trivial⟩
    | bring n w => exact ⟨rfl, trivial⟩
    | bar i => exact ⟨rfl, trivial⟩
    | stand l w m => exact ⟨rfl, trivial⟩
    | lift s => exact ⟨rfl, trivial⟩
  have n2 := o.n2
  exact { menL := .nil, stayL := .nil, stackL := .nil, menc := fun _ h => (nomatch h), stayc := fun _ h => (nomatch h), stackc := fun _ h => (nomatch h), menN := Nat.zero_le _, stackN := Nat.zero_le _, stayN := Nat.zero_le _, n4 := o.n4, n0 := (by show 0 < ls.length; omega), hn := o.hn, stayK := fun _ h => (nomatch h), manO := fun _ h => (nomatch h), stayO := fun _ h => (nomatch h), itO := fun _ h => (nomatch h), n2 := o.n2, lvs := fun l hl => (by have := o.lv l hl; omega), tu := ⟨Int.le_refl 0, (by show (0 : Int) < ls.length; omega)⟩, as := ⟨Int.le_refl 0, (by show (0 : Int) < ls.length; omega)⟩, hds := fun h hh => ⟨o.h8 h hh, sv h hh⟩, its := fun _ h => (nomatch h), du := rfl, cnt := ⟨Int.le_refl 0, Int.le_refl 0⟩ }
theorem new_in {ls : List Int} {hs : List (List Cd)} (o : OkNew ls hs) : In ls.length (Tb.new ls hs) := by
  have w := new_wf o
  refine ⟨rfl, w.lvs, w.tu, w.as, fun h hh => ⟨(w.hds h hh).1, fun c hc => ⟨(w.hds h hh).2 c hc, ?_⟩⟩, fun _ h => (nomatch h), fun _ h => (nomatch h), fun _ h => (nomatch h), w.cnt, Int.le_refl 0⟩
  have v := o.hv h hh c hc
  cases c with
  | hit t n =>
    cases t with
    | who w => cases v
    | seat x =>
      have h2 := (Bool.and_eq_true_iff.mp (show (inB x 0 ((ls.length : Int) - 1) && inB n 1 20) = true from v)).2
      have := of_decide_eq_true (Bool.and_eq_true_iff.mp (show (decide (1 ≤ n) && decide (n ≤ 20)) = true from h2)).1
      show 0 ≤ n; omega
  | mend t n =>
    cases t with
    | who w => cases v
    | seat x =>
      have h2 := (Bool.and_eq_true_iff.mp (show (inB x 0 ((ls.length : Int) - 1) && inB n 1 20) = true from v)).2
      have := of_decide_eq_true (Bool.and_eq_true_iff.mp (show (decide (1 ≤ n) && decide (n ≤ 20)) = true from h2)).1
      show 0 ≤ n; omega
  | bring n w =>
    intro e a ha
    subst ha
    have h2 := (Bool.and_eq_true_iff.mp (show (inB n 1 20 && a.valid) = true from v)).2
    cases a with
    | hit w m =>
      have := of_decide_eq_true (Bool.and_eq_true_iff.mp (show (decide (1 ≤ m) && decide (m ≤ 20)) = true from h2)).1
      show 0 ≤ m; omega
    | mend w m =>
      have := of_decide_eq_true (Bool.and_eq_true_iff.mp (show (decide (1 ≤ m) && decide (m ≤ 20)) = true from h2)).1
      show 0 ≤ m; omega
    | bring m => trivial
  | strike u n => trivial
  | bar i => trivial
  | stand l w m => trivial
  | lift s => trivial
end TB


end
section
set_option Elab.async false
set_option linter.all false
set_option maxRecDepth 100000
set_option autoImplicit false
namespace TB
open PySem DM PR L2 PySem.Spec
variable {T T' : Tb} {n : Nat}
theorem resolve_coming {num o : Int} {c : Cd} : (T.resolve num o c).2.coming ≤ T.coming + 1 := by
  unfold Tb.resolve
  split
  · exact Int.le_add_one (Int.le_refl _)
  · cases c with
    | hit t m =>
      have := (each_same (f := fun T s => T.hitOne s m) (fun T s => Same.hit) (T.targets o t) T).coming
      show (Tb.each _ _ T).2.coming ≤ _
      rw [this]; omega
    | mend t m =>
      have := (each_same (f := fun T s => T.mendOne s m) (fun T s => Same.mend) (T.targets o t) T).coming
      show (Tb.each _ _ T).2.coming ≤ _
      rw [this]; omega
    | strike un m => exact Int.le_add_one (Int.le_refl _)
    | bring m w => exact Int.le_refl _
    | stand l w m => exact Int.le_refl _
    | bar j => exact Int.le_add_one (Int.le_refl _)
    | lift s => exact Int.le_add_one (Int.le_refl _)
theorem fallOnce_coming : T.fallOnce.coming = T.coming := (goes_same T.failing.length T).1.coming
theorem fall_coming : ∀ (k : Nat) (T : Tb), (Tb.fall k T).2.coming = T.coming
  | 0, T => rfl
  | k + 1, T => by
    unfold Tb.fall
    split
    · rfl
    · exact (fall_coming k T.fallOnce).trans fallOnce_coming
theorem waitOne_coming {s : Int} {d : Int × Cd} : (Tb.waitOne s T d).2.coming = T.coming := by
  unfold Tb.waitOne; split <;> rfl
theorem waitRow_coming {s : Int} : ∀ (l : List (Int × Cd)) (T : Tb), (Tb.waitRow s l T).2.coming = T.coming
  | [], T => rfl
  | d :: l, T => (waitRow_coming l _).trans waitOne_coming
theorem waitAll_coming {due : List (Int × Cd)} : ∀ (l : List Int) (T : Tb), (Tb.waitAll due l T).2.coming = T.coming
  | [], T => rfl
  | s :: l, T => (waitAll_coming l _).trans (waitRow_coming _ _)
theorem settle_coming : T.settleDown.2.coming = T.coming := by
  unfold Tb.settleDown
  dsimp only
  rw [waitAll_coming]
  exact fall_coming _ T
theorem ask_coming : T.ask.coming = T.coming := by unfold Tb.ask; split <;> rfl
theorem goBy_coming : T.goBy.2.coming ≤ T.coming + 1 := by
  unfold Tb.goBy
  split
  · exact Int.le_add_one (Int.le_refl _)
  · split
    · exact Int.le_add_one (Int.le_refl _)
    · rw [after_snd, ask_coming, settle_coming]
      exact resolve_coming
/-- a table of a law: how it stands, its invariants -/
structure TbAt (S0 : Sto) (A0 : Ro → Nat) (T0 : Tb) (S : Sto) (A : Ro → Nat) (T : Tb) (n b : Nat) : Prop where
  u : Upd S0 A0 T0 S A T
  k : Ks T
  i : In n T
  due : T.due = []
  n2 : 2 ≤ n
  b : T.coming ≤ b
section
variable {S0 S : Sto} {A0 A : Ro → Nat} {T0 : Tb} {b : Nat} {δ : List Sl}
theorem TbAt.wf (t : TbAt S0 A0 T0 S A T n b) : WF T := t.i.wf t.k t.n2 t.due
theorem TbAt.goBy (t : TbAt S0 A0 T0 S A T n b) (ho : T.isOver = false) (hb : b < 1000000) :
    (@DM.wpK _ (sem_Table_go_by [.ref (A .obj), .int T.asked] S) ⟨(fun v S' => v = .ol (T.goBy.1.map Nt.d) ∧ T.goBy.1.length ≤ 65 ∧ ∃ A', TbAt S0 A0 T0 S' A' T.goBy.2 n (b + 1) ∧ A' .obj = A .obj), (fun _ _ => False)⟩) :=
  wp_use (goBy_w t.u t.wf ho (by have := t.i.sc; have := t.b; omega)) fun v S' z => by
    obtain ⟨h1, h2, h3, A', h4, h5⟩ := z
    exact ⟨h1, h3, A', ⟨h4, h2, t.i.goBy (by have := t.n2; omega), goBy_due t.due, t.n2, by have := goBy_coming (T := T); have := t.b; omega⟩, h5⟩
theorem TbAt.play (t : TbAt S0 A0 T0 S A T n b) (ho : T.isOver = false) {p : Int} :
    (@DM.wpK _ (sem_Table_play [.ref (A .obj), .int T.asked, .int p] S) ⟨(fun v S' => T.playNo T.asked p = none ∧ v = .val (.int T.count) ∧ ∃ A', TbAt S0 A0 T0 S' A' (T.playOk T.asked p) n b ∧ A' .obj = A .obj), (fun c S' => S' = S ∧ ∃ m, T.playNo T.asked p = some m ∧ c = refName m)⟩) :=
  wp_mono (play_w t.u t.wf ho) (fun v S' z => by
    obtain ⟨h1, h2, A', h3, h4⟩ := z
    exact ⟨h1, h2, A', ⟨h3, play_ks t.k t.i h1, t.i.play h1 t.k.hn, t.due, t.n2, t.b⟩, h4⟩) (fun c S' z => z)
theorem TbAt.ext (t : TbAt S0 A0 T0 S A T n b) {S' : Sto} (hn : S.nx ≤ S'.nx) (hc : ∀ j, (S0.nx ≤ j ∨ ∃ r, live T0 r ∧ A0 r = j) → j < S.nx → S'.c j = S.c j) (hk : ∀ j, j < S0.nx → (∀ r, live T0 r → A0 r ≠ j) → S'.c j = S0.c j) : TbAt S0 A0 T0 S' A T n b := by
  refine ⟨⟨t.u.rep.ext hn fun r l => hc _ ?_ (t.u.rep.lt r l), t.u.obj, Nat.le_trans t.u.nx hn, hk, t.u.fp⟩, t.k, t.i, t.due, t.n2, t.b⟩
  rcases t.u.fp r l with ⟨r0, h1, h2⟩ | h
  · exact .inr ⟨r0, h1, h2⟩
  · exact .inl h
/-- a run of passings till nothing is on the pile, or it is over -/
def Tb.stops : Nat → Tb → Bool
  | 0, T => decide (T.stack = []) || T.isOver
  | k + 1, T => (decide (T.stack = []) || T.isOver) || Tb.stops k T.goBy.2
def Tb.runs : Nat → Tb → List Nt × Tb
  | 0, T => ([], T)
  | k + 1, T => if (decide (T.stack = []) || T.isOver) = true then ([], T) else (T.goBy.1 ++ (Tb.runs k T.goBy.2).1, (Tb.runs k T.goBy.2).2)
theorem pile_ne {xs : List D} : cNe δ S (.lst xs) (.lst []) = some (decide (xs ≠ [])) := by
  unfold cNe
  cases xs with
  | nil => rfl
  | cons a xs => rfl
theorem nt_inj : ∀ {a b : Nt}, eqD a.d b.d = decide (a = b) := by
  have se : ∀ (x y : Str) (i j : Int), eqD (.tup [.str x, .int i]) (.tup [.str y, .int j]) = ((x == y) && ((i == j) && true)) := fun _ _ _ _ => rfl
  have se3 : ∀ (x y : Str) (i j k l : Int), eqD (.tup [.str x, .int i, .int k]) (.tup [.str y, .int j, .int l]) = ((x == y) && ((i == j) && ((k == l) && true))) := fun _ _ _ _ _ _ => rfl
  have s23 : ∀ (x y : Str) (i j l : Int), eqD (.tup [.str x, .int i]) (.tup [.str y, .int j, .int l]) = ((x == y) && ((i == j) && false)) := fun _ _ _ _ _ => rfl
  have s32 : ∀ (x y : Str) (i j l : Int), eqD (.tup [.str y, .int j, .int l]) (.tup [.str x, .int i]) = ((y == x) && ((j == i) && false)) := fun _ _ _ _ _ => rfl
  have w : ∀ (f : Int → Nt) (x : Str), (∀ i, (f i).d = .tup [.str x, .int i]) → True := fun _ _ _ => trivial
  intro a b
  cases a <;> cases b <;> simp only [Nt.d, se, se3, s23, s32, Bool.and_true, Bool.and_false] <;> first
    | (simp only [beq_self_eq_true, Bool.true_and, Nt.turn.injEq, Nt.done.injEq, Nt.void.injEq, Nt.hurt.injEq, Nt.mended.injEq, Nt.comes.injEq, Nt.goes.injEq, Nt.stands.injEq, Nt.waits.injEq, Bool.decide_and]; done)
    | (simp only [beq_self_eq_true, Bool.true_and, Nt.turn.injEq, Nt.done.injEq, Nt.void.injEq, Nt.hurt.injEq, Nt.mended.injEq, Nt.comes.injEq, Nt.goes.injEq, Nt.stands.injEq, Nt.waits.injEq, Bool.decide_and]; rfl)
    | (rw [show ∀ (p : Bool), (false && p) = false from fun _ => rfl]; rfl)
    | (refine Eq.trans ?_ (decide_eq_false (fun h => nomatch h)).symm; refine Bool.and_eq_false_iff.mpr (.inl ?_); kernel_rfl)
    | (refine (decide_eq_false (fun h => nomatch h)).symm)
theorem nts_eq : ∀ {a b : List Nt}, eqDs (a.map Nt.d) (b.map Nt.d) = decide (a = b)
  | [], [] => rfl
  | [], b :: bs => rfl
  | a :: as, [] => rfl
  | a :: as, b :: bs => by
    show (eqD a.d b.d && eqDs (as.map Nt.d) (bs.map Nt.d)) = _
    rw [nt_inj, nts_eq]
    by_cases h1 : a = b <;> by_cases h2 : as = bs <;> simp [h1, h2]
theorem nt_ok (a : Nt) : okD 5 a.d = true := by cases a <;> rfl
theorem nts_ok (a : List Nt) : okD 60 (.lst (a.map Nt.d)) = true := by
  show (a.map Nt.d).all (okD 59) = true
  rw [List.all_map]
  refine List.all_eq_true.mpr fun x _ => ?_
  cases x <;> rfl
theorem eqDs_len : ∀ {xs ys : List D}, xs.length ≠ ys.length → eqDs xs ys = false
  | [], [], h => absurd rfl h
  | [], _ :: _, _ => rfl
  | _ :: _, [], _ => rfl
  | x :: xs, y :: ys, h => by
    show (eqD x y && eqDs xs ys) = false
    rw [eqDs_len (fun e => h (by simp only [List.length_cons, e])), Bool.and_false]
theorem eq_lsts {xs ys : List D} (h1 : okD 60 (.lst xs) = true) (h2 : okD 60 (.lst ys) = true) : cEq δ S (.lst xs) (.lst ys) = some (eqDs xs ys) := by
  show (match (!Nat.beq xs.length ys.length) with
    | true => some false
    | false => if (okD 60 (.lst xs) && okD 60 (.lst ys)) = true then some (eqD (.lst xs) (.lst ys)) else none) = _
  cases hb : Nat.beq xs.length ys.length with
  | true =>
    show (if _ then _ else _) = _
    rw [if_pos (by rw [h1, h2]; rfl)]; rfl
  | false =>
    rw [eqDs_len fun e => by rw [e, Nat.beq_refl] at hb; cases hb]; rfl
theorem notes_eq {a b : List Nt} : cEq δ S (.lst (a.map Nt.d)) (.lst (b.map Nt.d)) = some (decide (a = b)) := by
  rw [eq_lsts (nts_ok a) (nts_ok b), nts_eq]
theorem notes_ne {a b : List Nt} : cNe δ S (.lst (a.map Nt.d)) (.lst (b.map Nt.d)) = some (decide (a ≠ b)) := by
  unfold cNe
  rw [notes_eq]
  by_cases h : a = b <;> simp [h]
end
end TB


end
section
set_option Elab.async false
set_option linter.all false
set_option maxRecDepth 100000
set_option maxHeartbeats 0
namespace QA
open PySem DM PR
def m__law_cell_at : DS :=
  (sSeq (sIf (dCmp (cOrd pLt) (dVar 1) (dB hLen (dCons (dVar 0) dNil)))
    (sRet (dOp2 oIx (dVar 0) (dVar 1)))
    sNext)
    (sSeq (sIf (dCmp cEq (dVar 0) (dLst dNil))
    (sRet (dConst (.int 0)))
    sNext)
    (sRet (dOp2 oAdd (dOp2 oMul (dOp2 oIx (dVar 0) (dOp2 oMod (dVar 1) (dB hLen (dCons (dVar 0) dNil)))) (dConst (.int 31))) (dVar 1)))))
def sem__law_cell_at : Sem := semOf 2 2 m__law_cell_at
def m__law_mixed : DS :=
  (sSeq (sSet 3 (dOp2 oMod (dOp2 oMul (dOp2 oAdd (dOp2 oAdd (dCall 2 sem__law_cell_at (dCons (dVar 0) (dCons (dVar 1) dNil))) (dOp2 oMul (dConst (.int 7919)) (dVar 1))) (dConst (.int 1))) (dConst (.int 48271))) (dConst (.int 2147483647))))
    (sRet (dOp2 oMod (dOp2 oMod (dOp2 oAdd (dOp2 oAdd (dOp2 oMul (dVar 3) (dVar 3)) (dOp2 oMul (dConst (.int 7)) (dVar 3))) (dVar 1)) (dConst (.int 2147483629))) (dVar 2))))
def sem__law_mixed : Sem := semOf 3 4 m__law_mixed
def m__law_draw : DS :=
  (sSeq (sMut "list" hAppend (dVar 1) (dCons (dConst (.int 0)) dNil))
    (sRet (dCall 3 sem__law_mixed (dCons (dVar 0) (dCons (dB hLen (dCons (dVar 1) dNil)) (dCons (dVar 2) dNil))))))
def sem__law_draw : Sem := semOf 3 3 m__law_draw
def m__law_pick : DS :=
  (sRet (dOp2 oIx (dVar 2) (dCall 3 sem__law_draw (dCons (dVar 0) (dCons (dVar 1) (dCons (dB hLen (dCons (dVar 2) dNil)) dNil))))))
def sem__law_pick : Sem := semOf 3 3 m__law_pick
def m__law_answer : DS :=
  (sSeq (sSet 2 (dCall 3 sem__law_pick (dCons (dVar 0) (dCons (dVar 1) (dCons (dLst (dCons (dConst (.str "mine")) (dCons (dConst (.str "others")) (dCons (dConst (.str "all")) dNil)))) dNil)))))
    (sSeq (sSet 3 (dCell (fDisp (dCons (dTup (dCons (dConst (.str "hit")) (dCons (dVar 2) (dCons (dOp2 oAdd (dConst (.int 1)) (dCall 3 sem__law_draw (dCons (dVar 0) (dCons (dVar 1) (dCons (dConst (.int 9)) dNil))))) dNil)))) (dCons (dTup (dCons (dConst (.str "mend")) (dCons (dVar 2) (dCons (dOp2 oAdd (dConst (.int 1)) (dCall 3 sem__law_draw (dCons (dVar 0) (dCons (dVar 1) (dCons (dConst (.int 20)) dNil))))) dNil)))) dNil)))))
    (sSeq (sMut "list" hAppend (dVar 3) (dCons (dTup (dCons (dConst (.str "bring")) (dCons (dOp2 oAdd (dConst (.int 1)) (dCall 3 sem__law_draw (dCons (dVar 0) (dCons (dVar 1) (dCons (dConst (.int 4)) dNil))))) (dCons (dConst .non) dNil)))) dNil))
    (sRet (dCall 3 sem__law_pick (dCons (dVar 0) (dCons (dVar 1) (dCons (dVar 3) dNil))))))))
def sem__law_answer : Sem := semOf 2 4 m__law_answer
def m__law_card : DS :=
  (sSeq (sSet 3 (dCall 3 sem__law_draw (dCons (dVar 0) (dCons (dVar 1) (dCons (dConst (.int 12)) dNil)))))
    (sSeq (sSet 4 (dOp2 oAdd (dConst (.int 1)) (dCall 3 sem__law_draw (dCons (dVar 0) (dCons (dVar 1) (dCons (dConst (.int 12)) dNil))))))
    (sSeq (sIf (dCmp (cOrd pLt) (dVar 3) (dConst (.int 2)))
    (sRet (dTup (dCons (dOp2 oIx (dLst (dCons (dConst (.str "hit")) (dCons (dConst (.str "mend")) dNil))) (dVar 3)) (dCons (dCall 3 sem__law_draw (dCons (dVar 0) (dCons (dVar 1) (dCons (dVar 2) dNil)))) (dCons (dVar 4) dNil)))))
    sNext)
    (sSeq (sIf (dCmp (cOrd pLt) (dVar 3) (dConst (.int 4)))
    (sRet (dTup (dCons (dConst (.str "strike")) (dCons (dCall 3 sem__law_draw (dCons (dVar 0) (dCons (dVar 1) (dCons (dConst (.int 5)) dNil)))) (dCons (dVar 4) dNil)))))
    sNext)
    (sSeq (sIf (dCmp (cOrd pLt) (dVar 3) (dConst (.int 7)))
    (sSeq (sSet 6 (dTup (dCons (dCall 3 sem__law_pick (dCons (dVar 0) (dCons (dVar 1) (dCons (dLst (dCons (dConst (.str "comes")) (dCons (dConst (.str "goes")) (dCons (dConst (.str "hurt")) (dCons (dConst (.str "mended")) dNil))))) dNil)))) (dCons (dCall 2 sem__law_answer (dCons (dVar 0) (dCons (dVar 1) dNil))) dNil))))
    (sRet (dTup (dCons (dConst (.str "bring")) (dCons (dVar 4) (dCons (dOp2 oIx (dLst (dCons (dVar 6) (dCons (dVar 6) (dCons (dConst .non) dNil)))) (dCall 3 sem__law_draw (dCons (dVar 0) (dCons (dVar 1) (dCons (dConst (.int 3)) dNil))))) dNil))))))
    sNext)
    (sSeq (sIf (dCmp (cOrd pLt) (dVar 3) (dConst (.int 9)))
    (sRet (dTup (dCons (dConst (.str "bar")) (dCons (dCall 3 sem__law_draw (dCons (dVar 0) (dCons (dVar 1) (dCons (dConst (.int 8)) dNil)))) dNil))))
    sNext)
    (sSeq (sIf (dCmp cEq (dVar 3) (dConst (.int 9)))
    (sRet (dTup (dCons (dConst (.str "lift")) (dCons (dCall 3 sem__law_draw (dCons (dVar 0) (dCons (dVar 1) (dCons (dConst (.int 5)) dNil)))) dNil))))
    sNext)
    (sSeq (sSet 5 (dCall 3 sem__law_pick (dCons (dVar 0) (dCons (dVar 1) (dCons (dLst (dCons (dConst (.str "mine")) (dCons (dConst (.str "others")) (dCons (dConst (.str "all")) dNil)))) dNil)))))
    (sRet (dTup (dCons (dConst (.str "stand")) (dCons (dCall 3 sem__law_pick (dCons (dVar 0) (dCons (dVar 1) (dCons (dLst (dCons (dConst (.str "set")) (dCons (dConst (.str "add")) (dCons (dConst (.str "cap")) dNil)))) dNil)))) (dCons (dVar 5) (dCons (dCall 3 sem__law_draw (dCons (dVar 0) (dCons (dVar 1) (dCons (dConst (.int 9)) dNil)))) dNil))))))))))))))
def sem__law_card : Sem := semOf 3 7 m__law_card
def m__law_table : DS :=
  (sSeq (sSet 2 (dOp2 oAdd (dConst (.int 2)) (dCall 3 sem__law_draw (dCons (dVar 0) (dCons (dVar 1) (dCons (dConst (.int 3)) dNil))))))
    (sSeq (sSet 3 (dB hTuple (dCons (dFrz (fLc (false, [("_law_seat", 5)]) (List.map (fun x : Str × Nat => x.2) [("_law_seat", 5)]) (dRng rng1Of (dCons (dVar 2) dNil)) dYes (dCall 3 sem__law_pick (dCons (dVar 0) (dCons (dVar 1) (dCons (dLst (dCons (dConst (.int 1)) (dCons (dConst (.int 5)) (dCons (dConst (.int 20)) (dCons (dConst (.int 99)) dNil))))) dNil)))))) dNil)))
    (sSeq (sSetF 4 (fDisp dNil))
    (sSeq (sFor (false, [("_law_seat", 5)]) (dRng rng1Of (dCons (dVar 2) dNil))
    (sMut "list" hAppend (dVar 4) (dCons (dB hTuple (dCons (dFrz (fLc (false, [("_law_k", 6)]) (List.map (fun x : Str × Nat => x.2) [("_law_k", 6)]) (dRng rng1Of (dCons (dCall 3 sem__law_draw (dCons (dVar 0) (dCons (dVar 1) (dCons (dConst (.int 9)) dNil)))) dNil)) dYes (dCall 3 sem__law_card (dCons (dVar 0) (dCons (dVar 1) (dCons (dVar 2) dNil)))))) dNil)) dNil)))
    (sRet (dTup (dCons (dVar 3) (dCons (dB hTuple (dCons (dVar 4) dNil)) dNil))))))))
def sem__law_table : Sem := semOf 2 7 m__law_table
end QA


end
section
set_option Elab.async false
set_option linter.all false
set_option maxRecDepth 100000
set_option autoImplicit false
namespace QA
open PySem DM PR
variable {Q : RV → Sto → Prop} {E : Str → Sto → Prop}
theorem wp_cell_at (ns : List Int) (k : Int) (S : Sto) (hk : 0 ≤ k) : (@DM.wpK _ (sem__law_cell_at [scrD ns, .int k] S) ⟨(fun v S' => v = .val (.int (cellV ns k)) ∧ S' = S), (fun _ _ => False)⟩) := by
  unfold sem__law_cell_at
  rw [wp_sem]
  refine ⟨rfl, ?_⟩
  unfold m__law_cell_at
  walk_at "dm_wp"
  refine wif_split (fun h => ?_) (fun h => ?_)
  · have h := of_decide_eq_true h
    rw [len_scr] at h
    k_call_by "dm_wp" ⟨at_scr hk h⟩
    refine ⟨?_, ?_⟩
    · unfold cellV; rw [if_pos h]
    · trivial
  · have h := of_decide_eq_false h
    rw [len_scr] at h
    walk_at "dm_wp"
    refine ⟨rfl, ?_⟩
    k_call_by "dm_wp" ⟨eq_nil_scr⟩
    refine wif_split (fun h2 => ?_) (fun h2 => ?_)
    · refine ⟨?_, rfl⟩
      unfold cellV; rw [if_neg h, if_pos (of_decide_eq_true h2)]
    · have hn : ns ≠ [] := of_decide_eq_false h2
      have hp : 0 < ns.length := List.length_pos_iff.mpr hn
      have hm : (0 : Int) < ((ns.map D.int).length : Nat) := by rw [len_scr]; omega
      have e := at_scr (ns := ns) (k := k % ((ns.map D.int).length : Nat)) (Int.emod_nonneg _ (by omega)) (by rw [len_scr] at hm ⊢; exact Int.emod_lt_of_pos _ hm)
      k_call_by "dm_wp" ⟨l_mod hm, e, l_mul (mul_small (i := ns.getD (k % ((ns.map D.int).length : Nat)).toNat 0) (j := 31) (by decide) (by decide))⟩
      refine ⟨?_, trivial⟩
      unfold cellV; rw [if_neg h, if_neg hn, len_scr]
def uV (ns : List Int) (k : Nat) : Int :=
  let d := (cellV ns k + 7919 * k + 1) * 48271 % 2147483647
  (d * d + 7 * d + k) % 2147483629
theorem wp_mixed (ns : List Int) (k : Nat) (many : Int) (S : Sto) (hk2 : k < 17000000) (hm : 0 < many) : (@DM.wpK _ (sem__law_mixed [scrD ns, .int k, .int many] S) ⟨(fun v S' => v = .val (.int (uV ns k % many)) ∧ S' = S), (fun _ _ => False)⟩) := by
  unfold sem__law_mixed
  rw [wp_sem]
  refine ⟨rfl, ?_⟩
  unfold m__law_mixed
  walk_at "dm_wp"
  refine ⟨rfl, wp_use (wp_cell_at ns k S (by omega)) fun v S' h => ?_⟩
  obtain ⟨rfl, rfl⟩ := h
  k_call_by "dm_wp" ⟨l_mul (mul_small (i := 7919) (j := k) (by omega) (by omega)), l_mul (mul_small (i := cellV ns k + 7919 * k + 1) (j := 48271) (by decide) (by decide)), l_mod (i := (cellV ns k + 7919 * k + 1) * 48271) (j := 2147483647) (by decide)⟩
  have hu : uV ns k = (((cellV ns k + 7919 * k + 1) * 48271 % 2147483647) * ((cellV ns k + 7919 * k + 1) * 48271 % 2147483647) + 7 * ((cellV ns k + 7919 * k + 1) * 48271 % 2147483647) + k) % 2147483629 := rfl
  rw [hu]
  generalize hd : (cellV ns k + 7919 * k + 1) * 48271 % 2147483647 = d
  have d1 : 0 ≤ d := by rw [← hd]; exact Int.emod_nonneg _ (by decide)
  have d2 : d < 2147483647 := by rw [← hd]; exact Int.emod_lt_of_pos _ (by decide)
  refine ⟨rfl, ?_⟩
  k_call_by "dm_wp" ⟨l_mul (mul_small (i := d) (j := d) (by omega) (by omega)), l_mul (mul_small (i := 7) (j := d) (by omega) (by omega)), l_mod (i := d * d + 7 * d + k) (j := 2147483629) (by decide), l_mod (i := (d * d + 7 * d + k) % 2147483629) hm⟩
  exact ⟨trivial, trivial⟩
theorem draw_eq {ns : List Int} {many : Int} {S : Sto} {t n : Nat} (h : TownAt S t n) (hn : n < 16000000) (hm : 0 < many) : sem__law_draw [scrD ns, .ref t, .int many] S = .ok (.val (.int (uV ns (n + 1) % many))) (tick S t n) := by
  refine eq_of_wp ?_
  unfold sem__law_draw
  rw [wp_sem]
  refine ⟨rfl, ?_⟩
  unfold m__law_draw
  walk_at "dm_wp"
  refine ⟨l_ty_ref h, ?_⟩
  have ea := l_app_ref (δ := [Sl.v (scrD ns), Sl.v (D.ref t), Sl.v (D.int many)]) (y := .int 0) h rfl (by rw [zeros_len]; omega)
  rw [zeros_succ] at ea
  have e2 : (S.set t (some (.lst (zeros (n + 1))))).c t = some (.lst (zeros (n + 1))) := set_same
  k_call_by "dm_wp" ⟨ea, l_len_ref e2⟩
  refine ⟨rfl, wp_use (wp_mixed ns (zeros (n + 1)).length many _ (by rw [zeros_len]; omega) hm) fun v S' h => ?_⟩
  obtain ⟨rfl, rfl⟩ := h
  rw [zeros_len]
  walk_at "dm_wp"
  exact ⟨trivial, rfl⟩
theorem wp_draw {ns : List Int} {many : Int} {S : Sto} {t n : Nat} (h : TownAt S t n) (hn : n < 16000000) (hm : 0 < many) : ((@DM.wpK _ (sem__law_draw [scrD ns, .ref t, .int many] S) ⟨Q, E⟩)) = Q (.val (.int (uV ns (n + 1) % many))) (tick S t n) := wp_of_eq (draw_eq h hn hm)
theorem pick_eq {ns : List Int} {ds : List D} {S : Sto} {t n : Nat} (h : TownAt S t n) (hn : n < 16000000) (hd : ds ≠ []) (ho : ∀ d ∈ ds, d.isOwn = false) : sem__law_pick [scrD ns, .ref t, .lst ds] S = .ok (.val (ds.getD (uV ns (n + 1) % ds.length).toNat .non)) (tick S t n) := by
  refine eq_of_wp ?_
  unfold sem__law_pick
  rw [wp_sem]
  refine ⟨rfl, ?_⟩
  unfold m__law_pick
  walk_at "dm_wp"
  have hp : 0 < ds.length := List.length_pos_iff.mpr hd
  rw [wp_draw h hn (by omega)]
  have h1 : 0 ≤ uV ns (n + 1) % ds.length := Int.emod_nonneg _ (by omega)
  have h2 : uV ns (n + 1) % ds.length < ds.length := Int.emod_lt_of_pos _ (by omega)
  have : (uV ns (n + 1) % ds.length).toNat < ds.length := by omega
  refine ⟨rfl, ?_⟩
  k_call_by "dm_wp" ⟨l_at h1 h2⟩
  rw [List.getElem?_eq_getElem this]
  walk_at "dm_wp"
  rw [ws_retOf (ho _ (List.getElem_mem this))]
  exact ⟨by rw [getD_of this], rfl⟩
theorem pickR_eq {ns : List Int} {ds : List D} {S : Sto} {t n k : Nat} (h : TownAt S t n) (hn : n < 16000000) (hd : ds ≠ []) (ho : ∀ d ∈ ds, d.isOwn = false) (hk : k ≠ t) (e : S.c k = some (.lst ds)) : sem__law_pick [scrD ns, .ref t, .ref k] S = .ok (.val (ds.getD (uV ns (n + 1) % ds.length).toNat .non)) (tick S t n) := by
  refine eq_of_wp ?_
  unfold sem__law_pick
  rw [wp_sem]
  refine ⟨rfl, ?_⟩
  unfold m__law_pick
  k_call_by "dm_wp" ⟨l_len_ref e⟩
  have hp : 0 < ds.length := List.length_pos_iff.mpr hd
  rw [wp_draw h hn (by omega)]
  have h1 : 0 ≤ uV ns (n + 1) % ds.length := Int.emod_nonneg _ (by omega)
  have h2 : uV ns (n + 1) % ds.length < ds.length := Int.emod_lt_of_pos _ (by omega)
  have : (uV ns (n + 1) % ds.length).toNat < ds.length := by omega
  have e' : (tick S t n).c k = some (.lst ds) := (tick_c hk).trans e
  refine ⟨rfl, ?_⟩
  k_call_by "dm_wp" ⟨l_ix_ref e', l_at h1 h2⟩
  rw [List.getElem?_eq_getElem this]
  walk_at "dm_wp"
  rw [ws_retOf (ho _ (List.getElem_mem this))]
  exact ⟨by rw [getD_of this], rfl⟩
end QA


end
section
set_option Elab.async false
set_option linter.all false
set_option maxRecDepth 100000
set_option maxHeartbeats 0
namespace A17
open PySem PySem.Spec L2 DM PR QA
def tp (i : Nat) : Stmt := PySem.Challenge.pw_answerpile_k17_runs.main.body.getD i (.Pass ⟨0, 0, 0, 0⟩)
def inn (s : Stmt) (i : Nat) : Stmt := match s with
  | .ClassDef _ _ _ b _ _ _ _ _ _ _ => b.getD i (.Pass ⟨0, 0, 0, 0⟩)
  | _ => .Pass ⟨0, 0, 0, 0⟩
def takes_PileError : List Str := ["PileError", "NoTable", "NoSeat", "NotYet", "NoCard", "NoTarget", "NoUnit", "Over", "NoCount", "Full", "TooMany", "NoDeed"]
def sub_NoCard : List Str := ["NoCard"]
def sub_NotYet : List Str := ["NotYet"]
def sub_NoSeat : List Str := ["NoSeat"]
def sub_NoTable : List Str := ["NoTable"]
def sub_NoCount : List Str := ["NoCount"]
def sub_Over : List Str := ["Over"]
def sub_NoUnit : List Str := ["NoUnit"]
def sub_NoTarget : List Str := ["NoTarget"]
def sub_NoDeed : List Str := ["NoDeed"]
def sub_TooMany : List Str := ["TooMany"]
def sub_Full : List Str := ["Full"]
def sub_ValueError : List Str := ["PileError", "NoTable", "NoSeat", "NotYet", "NoCard", "NoTarget", "NoUnit", "Over", "NoCount", "Full", "TooMany", "NoDeed"]
def whichIx : List (Str × Int) := [("PileError", -1), ("NoTable", 0), ("NoSeat", 1), ("NotYet", 2), ("NoCard", 3), ("NoTarget", 4), ("NoUnit", 5), ("Over", 6), ("NoCount", 7), ("Full", 8), ("TooMany", 9), ("NoDeed", 10)]
def which (c : Str) : Sto → R RV := fun S => .ok (.val (.tup [.str "refused", .int ((whichIx.lookup c).getD 0)])) S
def m_which (a : Addr) (c : Str) : DS :=
  (sSeq (sSetF 1 (fDisp (dCons (dIsE a 0 (decide (c ∈ sub_NoTable))) (dCons (dIsE a 0 (decide (c ∈ sub_NoSeat))) (dCons (dIsE a 0 (decide (c ∈ sub_NotYet))) (dCons (dIsE a 0 (decide (c ∈ sub_NoCard))) dNil))))))
    (sSeq (sMut "list" hExtend (dVar 1) (dCons (dLst (dCons (dIsE a 0 (decide (c ∈ sub_NoTarget))) (dCons (dIsE a 0 (decide (c ∈ sub_NoUnit))) (dCons (dIsE a 0 (decide (c ∈ sub_Over))) (dCons (dIsE a 0 (decide (c ∈ sub_NoCount))) dNil))))) dNil))
    (sSeq (sMut "list" hExtend (dVar 1) (dCons (dLst (dCons (dIsE a 0 (decide (c ∈ sub_Full))) (dCons (dIsE a 0 (decide (c ∈ sub_TooMany))) (dCons (dIsE a 0 (decide (c ∈ sub_NoDeed))) dNil)))) dNil))
    (sSeq (sIf (dOr (dCmp cNe (dMth "list" "list" hCount hCount (dVar 1) (dCons (dConst (.bl true)) dNil)) (dConst (.int 1))) (dNot (dTest (dIsE a 0 (decide (c ∈ sub_ValueError))))))
    (sRet (dTup (dCons (dConst (.str "refused")) (dCons (dNeg (dConst (.int 1))) dNil))))
    sNext)
    (sRet (dTup (dCons (dConst (.str "refused")) (dCons (dMth "list" "list" hIndex hIndex (dVar 1) (dCons (dConst (.bl true)) dNil)) dNil))))))))
def m__law_play : DS :=
  (sTry (hndWhich takes_PileError which)
    (sRet (dMeth "Table" "play" 3 sem_Table_play (dVar 0) (dCons (dVar 1) (dCons (dVar 2) dNil)))))
def sem__law_play : Sem := semOf 3 4 m__law_play
def m__law_pass : DS :=
  (sTry (hndWhich takes_PileError which)
    (sRet (dMeth "Table" "go_by" 2 sem_Table_go_by (dVar 0) (dCons (dVar 1) dNil))))
def sem__law_pass : Sem := semOf 2 3 m__law_pass
def m__law_asked : DS :=
  (sTry (hndWhich takes_PileError which)
    (sSeq (sIf (dCmp cEq (dVar 0) (dConst (.int 0)))
    (sRet (dCall 3 sem_run (dCons (dVar 1) (dCons (dVar 2) (dCons (dVar 3) dNil)))))
    sNext)
    (sRet (dCall 2 sem_do (dCons (dVar 1) (dCons (dVar 2) dNil))))))
def sem__law_asked : Sem := semOf 4 5 m__law_asked
def m_law : DS :=
  (sSeq (sSet 1 (dCell (fDisp dNil)))
    (sSeq (sUnp (true, [("_law_lives", 8), ("_law_hands", 9)]) (dCall 2 sem__law_table (dCons (dVar 0) (dCons (dVar 1) dNil))))
    (sSeq (sSet 2 (dMake "Table" 2 sem_Table___init__ (dCons (dVar 8) (dCons (dVar 9) dNil))))
    (sSeq (sSet 3 (dCell (fDisp dNil)))
    (sSeq (sSetF 4 (fDisp dNil))
    (sSeq (sFor (false, [("_law_k", 5)]) (dRng rng1Of (dCons (dCall 3 sem__law_draw (dCons (dVar 0) (dCons (dVar 1) (dCons (dConst (.int 31)) dNil)))) dNil))
    (sSeq (sSet 10 (dCall 3 sem__law_draw (dCons (dVar 0) (dCons (dVar 1) (dCons (dOp2 oAdd (dB hLen (dCons (dVar 8) dNil)) (dConst (.int 1))) dNil)))))
    (sSeq (sIf (dAnd (dNot (dTest (dMeth "Table" "is_over" 1 sem_Table_is_over (dVar 2) dNil))) (dCmp (cOrd pGt) (dCall 3 sem__law_draw (dCons (dVar 0) (dCons (dVar 1) (dCons (dConst (.int 5)) dNil)))) (dConst (.int 0))))
    (sSet 10 (dOp2 oIx (dMeth "Table" "now" 1 sem_Table_now (dVar 2) dNil) (dConst (.int 1))))
    sNext)
    (sSeq (sSet 11 (dTup (dCons (dConst (.str "pass")) (dCons (dVar 10) dNil))))
    (sSeq (sSet 12 (dConst .non))
    (sSeq (sIf (dCmp cEq (dCall 3 sem__law_draw (dCons (dVar 0) (dCons (dVar 1) (dCons (dConst (.int 2)) dNil)))) (dConst (.int 0)))
    (sSeq (sSet 11 (dTup (dCons (dConst (.str "play")) (dCons (dVar 10) (dCons (dCall 3 sem__law_draw (dCons (dVar 0) (dCons (dVar 1) (dCons (dConst (.int 4)) dNil)))) dNil)))))
    (sSet 12 (dCall 3 sem__law_play (dCons (dVar 2) (dCons (dVar 10) (dCons (dOp2 oIx (dVar 11) (dConst (.int 2))) dNil))))))
    (sSet 12 (dCall 2 sem__law_pass (dCons (dVar 2) (dCons (dVar 10) dNil)))))
    (sSeq (sMut "list" hAppend (dVar 3) (dCons (dVar 11) dNil))
    (sMut "list" hAppend (dVar 4) (dCons (dOp2 oIx (dLst (dCons (dConst (.str "refused")) (dCons (dVar 12) dNil))) (dB hInt (dCons (dOrV (dIsi "int" (dVar 12)) (dIsi "list" (dVar 12))) dNil))) dNil)))))))))
    (sSeq (sUnp (true, [("_law_here", 13), ("_law_told", 12)]) (dCall 3 sem_run (dCons (dVar 8) (dCons (dVar 9) (dCons (dVar 3) dNil)))))
    (sSeq (sSet 6 (dMake "Table" 2 sem_Table___init__ (dCons (dVar 8) (dCons (dVar 9) dNil))))
    (sSeq (sIf (dOr (dCmp cNe (dVar 12) (dVar 4)) (dCmp cNe (dFrz (fLc (false, [("_law_deed", 11)]) (List.map (fun x : Str × Nat => x.2) [("_law_deed", 11)]) (dSrc (dVar 3)) dYes (dCall 4 sem__law_asked (dCons (dConst (.int 1)) (dCons (dVar 6) (dCons (dVar 11) (dCons (dConst .non) dNil))))))) (dVar 4)))
    (sRet (dConst (.bl false)))
    sNext)
    (sSeq (sIf (dOr (dCmp cNe (dMeth "Table" "pile" 1 sem_Table_pile (dVar 13) dNil) (dMeth "Table" "pile" 1 sem_Table_pile (dVar 2) dNil)) (dOr (dCmp cNe (dMeth "Table" "units" 1 sem_Table_units (dVar 13) dNil) (dMeth "Table" "units" 1 sem_Table_units (dVar 2) dNil)) (dCmp cNe (dMeth "Table" "now" 1 sem_Table_now (dVar 13) dNil) (dMeth "Table" "now" 1 sem_Table_now (dVar 2) dNil))))
    (sRet (dConst (.bl false)))
    sNext)
    (sSeq (sSet 7 (dCall 3 sem__law_pick (dCons (dVar 0) (dCons (dVar 1) (dCons (dLst (dCons (dConst .non) (dCons (dTup dNil) (dCons (dTup (dCons (dConst (.str "play")) (dCons (dConst (.int 0)) dNil))) (dCons (dTup (dCons (dConst (.str "pass")) dNil)) (dCons (dTup (dCons (dConst (.str "go")) (dCons (dConst (.int 0)) dNil))) (dCons (dLst (dCons (dConst (.str "pass")) (dCons (dConst (.int 0)) dNil))) (dCons (dConst (.str "pass")) dNil)))))))) dNil)))))
    (sSeq (sIf (dCmp cNe (dCall 4 sem__law_asked (dCons (dConst (.int 0)) (dCons (dVar 8) (dCons (dVar 9) (dCons (dOp2 oAdd (dVar 3) (dLst (dCons (dVar 7) dNil))) dNil))))) (dTup (dCons (dConst (.str "refused")) (dCons (dConst (.int 10)) dNil))))
    (sRet (dConst (.bl false)))
    sNext)
    (sRet (dBl (dCmp cEq (dCall 4 sem__law_asked (dCons (dConst (.int 0)) (dCons (dVar 8) (dCons (dVar 9) (dCons (dB hTuple (dCons (dVar 3) dNil)) dNil))))) (dTup (dCons (dConst (.str "refused")) (dCons (dConst (.int 10)) dNil))))))))))))))))))
def sem_law : Sem := semOf 1 14 m_law
structure Ev (g : GE) : Prop where
  cold : g.hot = none
  b_all : BiAt g "all" (.builtin "all")
  b_bool : BiAt g "bool" (.type "bool")
  b_int : BiAt g "int" (.type "int")
  b_isinstance : BiAt g "isinstance" (.builtin "isinstance")
  b_len : BiAt g "len" (.builtin "len")
  b_list : BiAt g "list" (.type "list")
  b_max : BiAt g "max" (.builtin "max")
  b_min : BiAt g "min" (.builtin "min")
  b_range : BiAt g "range" (.type "range")
  b_sorted : BiAt g "sorted" (.builtin "sorted")
  b_str : BiAt g "str" (.type "str")
  b_sum : BiAt g "sum" (.builtin "sum")
  b_tuple : BiAt g "tuple" (.type "tuple")
  c_EVENTS : GConst g "EVENTS" c_EVENTS
  c_HAND : GConst g "HAND" c_HAND
  c_ITEMS : GConst g "ITEMS" c_ITEMS
  c_LAYERS : GConst g "LAYERS" c_LAYERS
  c_LIFE : GConst g "LIFE" c_LIFE
  c_SEATS : GConst g "SEATS" c_SEATS
  c_SIZE : GConst g "SIZE" c_SIZE
  c_UNITS : GConst g "UNITS" c_UNITS
  c_WHOSE : GConst g "WHOSE" c_WHOSE
  x_Full : ExcAt g "Full"
  x_NoCard : ExcAt g "NoCard"
  x_NoDeed : ExcAt g "NoDeed"
  x_NoSeat : ExcAt g "NoSeat"
  x_NoTable : ExcAt g "NoTable"
  x_NoTarget : ExcAt g "NoTarget"
  x_NotYet : ExcAt g "NotYet"
  x_Over : ExcAt g "Over"
  at_Floor_coming : AttrAt g "Floor" "coming"
  at_Floor_men : AttrAt g "Floor" "men"
  at_Floor_stays : AttrAt g "Floor" "stays"
  at_Table_asked : AttrAt g "Table" "asked"
  at_Table_count : AttrAt g "Table" "count"
  at_Table_due : AttrAt g "Table" "due"
  at_Table_floor : AttrAt g "Table" "floor"
  at_Table_hands : AttrAt g "Table" "hands"
  at_Table_lives : AttrAt g "Table" "lives"
  at_Table_passes : AttrAt g "Table" "passes"
  at_Table_stack : AttrAt g "Table" "stack"
  at_Table_turner : AttrAt g "Table" "turner"
  t_PileError : TakeAt g "PileError" takes_PileError
  tb_SIZES : GDict g "SIZES" tbl_SIZES
  tP : TakeAt g "PileError" takes_P
  d__law_cell_at : DefAt g "_law_cell_at" (tp 41)
  d__law_mixed : DefAt g "_law_mixed" (tp 42)
  d__law_draw : DefAt g "_law_draw" (tp 43)
  d__law_pick : DefAt g "_law_pick" (tp 44)
  d__law_answer : DefAt g "_law_answer" (tp 45)
  d__law_card : DefAt g "_law_card" (tp 46)
  d__law_table : DefAt g "_law_table" (tp 47)
  d_is_whole : DefAt g "is_whole" (tp 22)
  d_is_one_of : DefAt g "is_one_of" (tp 23)
  d_is_answer : DefAt g "is_answer" (tp 24)
  d_is_when : DefAt g "is_when" (tp 25)
  d_is_card : DefAt g "is_card" (tp 26)
  d_are_hands : DefAt g "are_hands" (tp 27)
  d_Floor___init__ : MakeDef g "Floor" "Floor.__init__" (inn (tp 29) 0)
  d_Table___init__ : MakeDef g "Table" "Table.__init__" (inn (tp 34) 0)
  d_Table_alive : MethDef g "Table" "alive" "Table.alive" (inn (tp 34) 1)
  d_Table_is_over : MethDef g "Table" "is_over" "Table.is_over" (inn (tp 34) 2)
  d_Table_now : MethDef g "Table" "now" "Table.now" (inn (tp 34) 25)
  d_Table_need_seat : MethDef g "Table" "need_seat" "Table.need_seat" (inn (tp 34) 5)
  d_Table_need_asked : MethDef g "Table" "need_asked" "Table.need_asked" (inn (tp 34) 6)
  d_Table_has_target : MethDef g "Table" "has_target" "Table.has_target" (inn (tp 34) 8)
  d_Table_put : MethDef g "Table" "put" "Table.put" (inn (tp 34) 7)
  d_Table_play : MethDef g "Table" "play" "Table.play" (inn (tp 34) 9)
  d__law_play : DefAt g "_law_play" (tp 49)
  d_Table_seats_from : MethDef g "Table" "seats_from" "Table.seats_from" (inn (tp 34) 3)
  d_Table_behind : MethDef g "Table" "behind" "Table.behind" (inn (tp 34) 4)
  d_Table_is_there : MethDef g "Table" "is_there" "Table.is_there" (inn (tp 34) 12)
  d_touches : DefAt g "touches" (tp 30)
  d_Table_targets : MethDef g "Table" "targets" "Table.targets" (inn (tp 34) 13)
  d_Table_happens : MethDef g "Table" "happens" "Table.happens" (inn (tp 34) 15)
  d_Table_touch : MethDef g "Table" "touch" "Table.touch" (inn (tp 34) 14)
  d_Floor_new_number : MethDef g "Floor" "new_number" "Floor.new_number" (inn (tp 29) 1)
  d_Floor_bring : MethDef g "Floor" "bring" "Floor.bring" (inn (tp 29) 2)
  d_Floor_stand : MethDef g "Floor" "stand" "Floor.stand" (inn (tp 29) 3)
  d_Table_resolve : MethDef g "Table" "resolve" "Table.resolve" (inn (tp 34) 11)
  d_Floor_layer : MethDef g "Floor" "layer" "Floor.layer" (inn (tp 29) 4)
  d_Floor_power : MethDef g "Floor" "power" "Floor.power" (inn (tp 29) 5)
  d_Floor_failing : MethDef g "Floor" "failing" "Floor.failing" (inn (tp 29) 6)
  d_Floor_of : MethDef g "Floor" "of" "Floor.of" (inn (tp 29) 7)
  d_Table_failing : MethDef g "Table" "failing" "Table.failing" (inn (tp 34) 17)
  d_Table_clear_out : MethDef g "Table" "clear_out" "Table.clear_out" (inn (tp 34) 18)
  d_Table_settle_down : MethDef g "Table" "settle_down" "Table.settle_down" (inn (tp 34) 16)
  d_Table_go_by : MethDef g "Table" "go_by" "Table.go_by" (inn (tp 34) 10)
  d__law_pass : DefAt g "_law_pass" (tp 50)
  d_is_deed : DefAt g "is_deed" (tp 37)
  d_do : DefAt g "do" (tp 38)
  d_run : DefAt g "run" (tp 39)
  d__law_asked : DefAt g "_law_asked" (tp 51)
  d_Table_units : MethDef g "Table" "units" "Table.units" (inn (tp 34) 22)
  d_Table_pile : MethDef g "Table" "pile" "Table.pile" (inn (tp 34) 21)
  d_law : DefAt g "law" (tp 52)
  xc : ∀ c ∈ takes_PileError, ∃ D, g.mg c = some (.ref D) ∧ ExcC g.K D
  xk_NoTable : ∃ cv, ClsN g "NoTable" cv ∧ ∀ c ∈ takes_PileError, PySem.W.kitOne g.K (clsV g.mg c) cv = some (decide (c ∈ sub_NoTable))
  xk_NoSeat : ∃ cv, ClsN g "NoSeat" cv ∧ ∀ c ∈ takes_PileError, PySem.W.kitOne g.K (clsV g.mg c) cv = some (decide (c ∈ sub_NoSeat))
  xk_NotYet : ∃ cv, ClsN g "NotYet" cv ∧ ∀ c ∈ takes_PileError, PySem.W.kitOne g.K (clsV g.mg c) cv = some (decide (c ∈ sub_NotYet))
  xk_NoCard : ∃ cv, ClsN g "NoCard" cv ∧ ∀ c ∈ takes_PileError, PySem.W.kitOne g.K (clsV g.mg c) cv = some (decide (c ∈ sub_NoCard))
  xk_NoTarget : ∃ cv, ClsN g "NoTarget" cv ∧ ∀ c ∈ takes_PileError, PySem.W.kitOne g.K (clsV g.mg c) cv = some (decide (c ∈ sub_NoTarget))
  xk_NoUnit : ∃ cv, ClsN g "NoUnit" cv ∧ ∀ c ∈ takes_PileError, PySem.W.kitOne g.K (clsV g.mg c) cv = some (decide (c ∈ sub_NoUnit))
  xk_Over : ∃ cv, ClsN g "Over" cv ∧ ∀ c ∈ takes_PileError, PySem.W.kitOne g.K (clsV g.mg c) cv = some (decide (c ∈ sub_Over))
  xk_NoCount : ∃ cv, ClsN g "NoCount" cv ∧ ∀ c ∈ takes_PileError, PySem.W.kitOne g.K (clsV g.mg c) cv = some (decide (c ∈ sub_NoCount))
  xk_Full : ∃ cv, ClsN g "Full" cv ∧ ∀ c ∈ takes_PileError, PySem.W.kitOne g.K (clsV g.mg c) cv = some (decide (c ∈ sub_Full))
  xk_TooMany : ∃ cv, ClsN g "TooMany" cv ∧ ∀ c ∈ takes_PileError, PySem.W.kitOne g.K (clsV g.mg c) cv = some (decide (c ∈ sub_TooMany))
  xk_NoDeed : ∃ cv, ClsN g "NoDeed" cv ∧ ∀ c ∈ takes_PileError, PySem.W.kitOne g.K (clsV g.mg c) cv = some (decide (c ∈ sub_NoDeed))
  xk_ValueError : ∃ cv, ClsN g "ValueError" cv ∧ ∀ c ∈ takes_PileError, PySem.W.kitOne g.K (clsV g.mg c) cv = some (decide (c ∈ sub_ValueError))
  d_which : DefAt g "_law_which" (tp 48)
variable {g : GE} (X : Ev g)
include X
omit X in
theorem s_which : FnScope ["_law_e", "_law_own"] ["_law_e"] (defScope (tp 48)) := ⟨rfl, rfl, rfl, by decide +kernel, rfl, by decide +kernel, by decide +kernel⟩
theorem w_which (c : Str) (hc : c ∈ takes_PileError) (a : Addr) : BOk (g.heat a c) ["_law_e", "_law_own"] (defScope (tp 48)) 0 (defBody (tp 48)) (m_which a c) := by
  obtain ⟨D, hD, xC⟩ := X.xc c hc
  obtain ⟨v_NoTable, n_NoTable, k_NoTable⟩ := X.xk_NoTable
  have k_NoTable := k_NoTable c hc
  rw [clsV_of hD] at k_NoTable
  obtain ⟨v_NoSeat, n_NoSeat, k_NoSeat⟩ := X.xk_NoSeat
  have k_NoSeat := k_NoSeat c hc
  rw [clsV_of hD] at k_NoSeat
  obtain ⟨v_NotYet, n_NotYet, k_NotYet⟩ := X.xk_NotYet
  have k_NotYet := k_NotYet c hc
  rw [clsV_of hD] at k_NotYet
  obtain ⟨v_NoCard, n_NoCard, k_NoCard⟩ := X.xk_NoCard
  have k_NoCard := k_NoCard c hc
  rw [clsV_of hD] at k_NoCard
  obtain ⟨v_NoTarget, n_NoTarget, k_NoTarget⟩ := X.xk_NoTarget
  have k_NoTarget := k_NoTarget c hc
  rw [clsV_of hD] at k_NoTarget
  obtain ⟨v_NoUnit, n_NoUnit, k_NoUnit⟩ := X.xk_NoUnit
  have k_NoUnit := k_NoUnit c hc
  rw [clsV_of hD] at k_NoUnit
  obtain ⟨v_Over, n_Over, k_Over⟩ := X.xk_Over
  have k_Over := k_Over c hc
  rw [clsV_of hD] at k_Over
  obtain ⟨v_NoCount, n_NoCount, k_NoCount⟩ := X.xk_NoCount
  have k_NoCount := k_NoCount c hc
  rw [clsV_of hD] at k_NoCount
  obtain ⟨v_Full, n_Full, k_Full⟩ := X.xk_Full
  have k_Full := k_Full c hc
  rw [clsV_of hD] at k_Full
  obtain ⟨v_TooMany, n_TooMany, k_TooMany⟩ := X.xk_TooMany
  have k_TooMany := k_TooMany c hc
  rw [clsV_of hD] at k_TooMany
  obtain ⟨v_NoDeed, n_NoDeed, k_NoDeed⟩ := X.xk_NoDeed
  have k_NoDeed := k_NoDeed c hc
  rw [clsV_of hD] at k_NoDeed
  obtain ⟨v_ValueError, n_ValueError, k_ValueError⟩ := X.xk_ValueError
  have k_ValueError := k_ValueError c hc
  rw [clsV_of hD] at k_ValueError
  exact (b_cons (s_asg_own (asg_f (i := 1) rfl (by kernel_rfl) (f_disp (a_cons (e_isE (i := 0) rfl hD xC k_NoTable n_NoTable.heat X.b_isinstance.heat (by kernel_rfl) (by kernel_rfl) (by kernel_rfl) rfl (by kernel_rfl) (by kernel_rfl) (by kernel_rfl)) (a_cons (e_isE (i := 0) rfl hD xC k_NoSeat n_NoSeat.heat X.b_isinstance.heat (by kernel_rfl) (by kernel_rfl) (by kernel_rfl) rfl (by kernel_rfl) (by kernel_rfl) (by kernel_rfl)) (a_cons (e_isE (i := 0) rfl hD xC k_NotYet n_NotYet.heat X.b_isinstance.heat (by kernel_rfl) (by kernel_rfl) (by kernel_rfl) rfl (by kernel_rfl) (by kernel_rfl) (by kernel_rfl)) (a_cons (e_isE (i := 0) rfl hD xC k_NoCard n_NoCard.heat X.b_isinstance.heat (by kernel_rfl) (by kernel_rfl) (by kernel_rfl) rfl (by kernel_rfl) (by kernel_rfl) (by kernel_rfl)) a_nil rfl) rfl) rfl) rfl)) rfl))
    (b_cons (s_mut rfl mu_extend ((DM.e_var (i := 1) rfl (by kernel_rfl) (by kernel_rfl) (by kernel_rfl))) (a_cons (e_lst (a_cons (e_isE (i := 0) rfl hD xC k_NoTarget n_NoTarget.heat X.b_isinstance.heat (by kernel_rfl) (by kernel_rfl) (by kernel_rfl) rfl (by kernel_rfl) (by kernel_rfl) (by kernel_rfl)) (a_cons (e_isE (i := 0) rfl hD xC k_NoUnit n_NoUnit.heat X.b_isinstance.heat (by kernel_rfl) (by kernel_rfl) (by kernel_rfl) rfl (by kernel_rfl) (by kernel_rfl) (by kernel_rfl)) (a_cons (e_isE (i := 0) rfl hD xC k_Over n_Over.heat X.b_isinstance.heat (by kernel_rfl) (by kernel_rfl) (by kernel_rfl) rfl (by kernel_rfl) (by kernel_rfl) (by kernel_rfl)) (a_cons (e_isE (i := 0) rfl hD xC k_NoCount n_NoCount.heat X.b_isinstance.heat (by kernel_rfl) (by kernel_rfl) (by kernel_rfl) rfl (by kernel_rfl) (by kernel_rfl) (by kernel_rfl)) a_nil rfl) rfl) rfl) rfl)) a_nil rfl) rfl rfl rfl (by decide))
    (b_cons (s_mut rfl mu_extend ((DM.e_var (i := 1) rfl (by kernel_rfl) (by kernel_rfl) (by kernel_rfl))) (a_cons (e_lst (a_cons (e_isE (i := 0) rfl hD xC k_Full n_Full.heat X.b_isinstance.heat (by kernel_rfl) (by kernel_rfl) (by kernel_rfl) rfl (by kernel_rfl) (by kernel_rfl) (by kernel_rfl)) (a_cons (e_isE (i := 0) rfl hD xC k_TooMany n_TooMany.heat X.b_isinstance.heat (by kernel_rfl) (by kernel_rfl) (by kernel_rfl) rfl (by kernel_rfl) (by kernel_rfl) (by kernel_rfl)) (a_cons (e_isE (i := 0) rfl hD xC k_NoDeed n_NoDeed.heat X.b_isinstance.heat (by kernel_rfl) (by kernel_rfl) (by kernel_rfl) rfl (by kernel_rfl) (by kernel_rfl) (by kernel_rfl)) a_nil rfl) rfl) rfl)) a_nil rfl) rfl rfl rfl (by decide))
    (b_cons (s_if (WOk.t (w_or (t_cmp cmp_ne (e_mth rfl m_count m_count ((DM.e_var (i := 1) rfl (by kernel_rfl) (by kernel_rfl) (by kernel_rfl))) (a_cons e_bl a_nil rfl) rfl rfl rfl (by decide)) e_int rfl) (w_or1 (t_not (t_val (e_isE (i := 0) rfl hD xC k_ValueError n_ValueError.heat X.b_isinstance.heat (by kernel_rfl) (by kernel_rfl) (by kernel_rfl) rfl (by kernel_rfl) (by kernel_rfl) (by kernel_rfl)) rfl)))))
    (b_one (s_ret (e_tup (a_cons e_str (a_cons (e_neg e_int) a_nil rfl) rfl))))
    b_nil)
    (b_one (s_ret (e_tup (a_cons e_str (a_cons (e_mth rfl m_index m_index ((DM.e_var (i := 1) rfl (by kernel_rfl) (by kernel_rfl) (by kernel_rfl))) (a_cons e_bl a_nil rfl) rfl rfl rfl (by decide)) a_nil rfl) rfl))))))))
omit X in
theorem which_eq : ∀ c ∈ takes_PileError, ∀ a S, semX a 2 (m_which a c) S = which c S := by
  intro c hc a S
  refine eq_of_wp ?_
  rw [wp_semX]
  unfold m_which
  k_call_by "dm_wp" ⟨wp_isE⟩
  refine ⟨rfl, ?_⟩
  repeat (refine ⟨rfl, rfl, wo_of (ext_own rfl) ?_⟩; k_call_by "dm_wp" ⟨wp_isE, wp_mth⟩)
  refine wo_of (a := "list") rfl ?_
  rw [if_pos rfl]
  walk_at "dm_wp"
  unfold takes_PileError at hc
  simp only [List.mem_cons, List.not_mem_nil, or_false] at hc
  rcases hc with rfl | rfl | rfl | rfl | rfl | rfl | rfl | rfl | rfl | rfl | rfl | rfl
  · refine wo_of (a := (.int 0, S)) (by kernel_rfl) ?_
    k_call_by "dm_wp" ⟨l_ne_int⟩
    refine wif_split (fun h => ?_) (fun h => absurd h (by decide))
    walk_at "dm_wp"
    refine ⟨?_, ?_, ?_⟩ <;> first | rfl | trivial
  · refine wo_of (a := (.int 1, S)) (by kernel_rfl) ?_
    k_call_by "dm_wp" ⟨l_ne_int⟩
    refine wif_split (fun h => absurd h (by decide)) (fun h => ?_)
    k_call_by "dm_wp" ⟨wp_isE⟩
    refine wif_split (fun h => absurd h (by decide)) (fun h => ?_)
    k_call_by "dm_wp" ⟨wp_isE, wp_mth⟩
    refine wo_of (a := "list") rfl ?_
    rw [if_pos rfl]
    walk_at "dm_wp"
    refine wo_of (a := (.int ((whichIx.lookup ("NoTable" : Str)).getD 0), S)) (by kernel_rfl) ?_
    refine ⟨?_, ?_, ?_⟩ <;> first | rfl | trivial
  · refine wo_of (a := (.int 1, S)) (by kernel_rfl) ?_
    k_call_by "dm_wp" ⟨l_ne_int⟩
    refine wif_split (fun h => absurd h (by decide)) (fun h => ?_)
    k_call_by "dm_wp" ⟨wp_isE⟩
    refine wif_split (fun h => absurd h (by decide)) (fun h => ?_)
    k_call_by "dm_wp" ⟨wp_isE, wp_mth⟩
    refine wo_of (a := "list") rfl ?_
    rw [if_pos rfl]
    walk_at "dm_wp"
    refine wo_of (a := (.int ((whichIx.lookup ("NoSeat" : Str)).getD 0), S)) (by kernel_rfl) ?_
    refine ⟨?_, ?_, ?_⟩ <;> first | rfl | trivial
  · refine wo_of (a := (.int 1, S)) (by kernel_rfl) ?_
    k_call_by "dm_wp" ⟨l_ne_int⟩
    refine wif_split (fun h => absurd h (by decide)) (fun h => ?_)
    k_call_by "dm_wp" ⟨wp_isE⟩
    refine wif_split (fun h => absurd h (by decide)) (fun h => ?_)
    k_call_by "dm_wp" ⟨wp_isE, wp_mth⟩
    refine wo_of (a := "list") rfl ?_
    rw [if_pos rfl]
    walk_at "dm_wp"
    refine wo_of (a := (.int ((whichIx.lookup ("NotYet" : Str)).getD 0), S)) (by kernel_rfl) ?_
    refine ⟨?_, ?_, ?_⟩ <;> first | rfl | trivial
  · refine wo_of (a := (.int 1, S)) (by kernel_rfl) ?_
    k_call_by "dm_wp" ⟨l_ne_int⟩
    refine wif_split (fun h => absurd h (by decide)) (fun h => ?_)
    k_call_by "dm_wp" ⟨wp_isE⟩
    refine wif_split (fun h => absurd h (by decide)) (fun h => ?_)
    k_call_by "dm_wp" ⟨wp_isE, wp_mth⟩
    refine wo_of (a := "list") rfl ?_
    rw [if_pos rfl]
    walk_at "dm_wp"
    refine wo_of (a := (.int ((whichIx.lookup ("NoCard" : Str)).getD 0), S)) (by kernel_rfl) ?_
    refine ⟨?_, ?_, ?_⟩ <;> first | rfl | trivial
  · refine wo_of (a := (.int 1, S)) (by kernel_rfl) ?_
    k_call_by "dm_wp" ⟨l_ne_int⟩
    refine wif_split (fun h => absurd h (by decide)) (fun h => ?_)
    k_call_by "dm_wp" ⟨wp_isE⟩
    refine wif_split (fun h => absurd h (by decide)) (fun h => ?_)
    k_call_by "dm_wp" ⟨wp_isE, wp_mth⟩
    refine wo_of (a := "list") rfl ?_
    rw [if_pos rfl]
    walk_at "dm_wp"
    refine wo_of (a := (.int ((whichIx.lookup ("NoTarget" : Str)).getD 0), S)) (by kernel_rfl) ?_
    refine ⟨?_, ?_, ?_⟩ <;> first | rfl | trivial
  · refine wo_of (a := (.int 1, S)) (by kernel_rfl) ?_
    k_call_by "dm_wp" ⟨l_ne_int⟩
    refine wif_split (fun h => absurd h (by decide)) (fun h => ?_)
    k_call_by "dm_wp" ⟨wp_isE⟩
    refine wif_split (fun h => absurd h (by decide)) (fun h => ?_)
    k_call_by "dm_wp" ⟨wp_isE, wp_mth⟩
    refine wo_of (a := "list") rfl ?_
    rw [if_pos rfl]
    walk_at "dm_wp"
    refine wo_of (a := (.int ((whichIx.lookup ("NoUnit" : Str)).getD 0), S)) (by kernel_rfl) ?_
    refine ⟨?_, ?_, ?_⟩ <;> first | rfl | trivial
  · refine wo_of (a := (.int 1, S)) (by kernel_rfl) ?_
    k_call_by "dm_wp" ⟨l_ne_int⟩
    refine wif_split (fun h => absurd h (by decide)) (fun h => ?_)
    k_call_by "dm_wp" ⟨wp_isE⟩
    refine wif_split (fun h => absurd h (by decide)) (fun h => ?_)
    k_call_by "dm_wp" ⟨wp_isE, wp_mth⟩
    refine wo_of (a := "list") rfl ?_
    rw [if_pos rfl]
    walk_at "dm_wp"
    refine wo_of (a := (.int ((whichIx.lookup ("Over" : Str)).getD 0), S)) (by kernel_rfl) ?_
    refine ⟨?_, ?_, ?_⟩ <;> first | rfl | trivial
  · refine wo_of (a := (.int 1, S)) (by kernel_rfl) ?_
    k_call_by "dm_wp" ⟨l_ne_int⟩
    refine wif_split (fun h => absurd h (by decide)) (fun h => ?_)
    k_call_by "dm_wp" ⟨wp_isE⟩
    refine wif_split (fun h => absurd h (by decide)) (fun h => ?_)
    k_call_by "dm_wp" ⟨wp_isE, wp_mth⟩
    refine wo_of (a := "list") rfl ?_
    rw [if_pos rfl]
    walk_at "dm_wp"
    refine wo_of (a := (.int ((whichIx.lookup ("NoCount" : Str)).getD 0), S)) (by kernel_rfl) ?_
    refine ⟨?_, ?_, ?_⟩ <;> first | rfl | trivial
  · refine wo_of (a := (.int 1, S)) (by kernel_rfl) ?_
    k_call_by "dm_wp" ⟨l_ne_int⟩
    refine wif_split (fun h => absurd h (by decide)) (fun h => ?_)
    k_call_by "dm_wp" ⟨wp_isE⟩
    refine wif_split (fun h => absurd h (by decide)) (fun h => ?_)
    k_call_by "dm_wp" ⟨wp_isE, wp_mth⟩
    refine wo_of (a := "list") rfl ?_
    rw [if_pos rfl]
    walk_at "dm_wp"
    refine wo_of (a := (.int ((whichIx.lookup ("Full" : Str)).getD 0), S)) (by kernel_rfl) ?_
    refine ⟨?_, ?_, ?_⟩ <;> first | rfl | trivial
  · refine wo_of (a := (.int 1, S)) (by kernel_rfl) ?_
    k_call_by "dm_wp" ⟨l_ne_int⟩
    refine wif_split (fun h => absurd h (by decide)) (fun h => ?_)
    k_call_by "dm_wp" ⟨wp_isE⟩
    refine wif_split (fun h => absurd h (by decide)) (fun h => ?_)
    k_call_by "dm_wp" ⟨wp_isE, wp_mth⟩
    refine wo_of (a := "list") rfl ?_
    rw [if_pos rfl]
    walk_at "dm_wp"
    refine wo_of (a := (.int ((whichIx.lookup ("TooMany" : Str)).getD 0), S)) (by kernel_rfl) ?_
    refine ⟨?_, ?_, ?_⟩ <;> first | rfl | trivial
  · refine wo_of (a := (.int 1, S)) (by kernel_rfl) ?_
    k_call_by "dm_wp" ⟨l_ne_int⟩
    refine wif_split (fun h => absurd h (by decide)) (fun h => ?_)
    k_call_by "dm_wp" ⟨wp_isE⟩
    refine wif_split (fun h => absurd h (by decide)) (fun h => ?_)
    k_call_by "dm_wp" ⟨wp_isE, wp_mth⟩
    refine wo_of (a := "list") rfl ?_
    rw [if_pos rfl]
    walk_at "dm_wp"
    refine wo_of (a := (.int ((whichIx.lookup ("NoDeed" : Str)).getD 0), S)) (by kernel_rfl) ?_
    refine ⟨?_, ?_, ?_⟩ <;> first | rfl | trivial
theorem k_which : WhichAt g 1 "_law_which" takes_PileError which := whichAt_of X.d_which s_which (fun f fd F => F.binds fun _ _ _ _ _ _ us hl => match us, hl with | [_], _ => rfl) (fun c hc a => w_which X c hc a) which_eq
omit X in
theorem s__law_cell_at : FnScope ["_law_script", "_law_k"] ["_law_script", "_law_k"] (defScope (tp 41)) := ⟨rfl, rfl, rfl, by decide +kernel, rfl, by decide +kernel, by decide +kernel⟩
theorem w__law_cell_at : BOk g ["_law_script", "_law_k"] (defScope (tp 41)) 0 (defBody (tp 41)) m__law_cell_at :=
  (b_cons (s_if (t_cmp cmp_lt ((DM.e_var (i := 1) rfl (by kernel_rfl) (by kernel_rfl) (by kernel_rfl))) (e_b X.b_len (.inl ⟨_, rfl⟩) b_len (by kernel_rfl) (a_cons ((DM.e_var (i := 0) rfl (by kernel_rfl) (by kernel_rfl) (by kernel_rfl))) a_nil rfl) rfl (fun h => nomatch h)) rfl)
    (b_one (s_ret (e_ix ((DM.e_var (i := 0) rfl (by kernel_rfl) (by kernel_rfl) (by kernel_rfl))) ((DM.e_var (i := 1) rfl (by kernel_rfl) (by kernel_rfl) (by kernel_rfl))) rfl)))
    b_nil)
    (b_cons (s_if (t_cmp cmp_eq ((DM.e_var (i := 0) rfl (by kernel_rfl) (by kernel_rfl) (by kernel_rfl))) (e_lst a_nil) rfl)
    (b_one (s_ret e_int))
    b_nil)
    (b_one (s_ret (e_op2 op_add_ok (e_op2 op_mul_ok (e_ix ((DM.e_var (i := 0) rfl (by kernel_rfl) (by kernel_rfl) (by kernel_rfl))) (e_op2 op_mod_ok ((DM.e_var (i := 1) rfl (by kernel_rfl) (by kernel_rfl) (by kernel_rfl))) (e_b X.b_len (.inl ⟨_, rfl⟩) b_len (by kernel_rfl) (a_cons ((DM.e_var (i := 0) rfl (by kernel_rfl) (by kernel_rfl) (by kernel_rfl))) a_nil rfl) rfl (fun h => nomatch h))) rfl) e_int) ((DM.e_var (i := 1) rfl (by kernel_rfl) (by kernel_rfl) (by kernel_rfl))))))))
theorem k__law_cell_at : FnAt g 1 "_law_cell_at" 2 sem__law_cell_at := fnAt_of X.cold X.d__law_cell_at s__law_cell_at rfl (fun f fd F => F.binds fun _ _ _ _ _ _ us hl => match us, hl with | [_, _], _ => rfl) (w__law_cell_at X)
omit X in
theorem s__law_mixed : FnScope ["_law_script", "_law_k", "_law_many", "_law_drawn"] ["_law_script", "_law_k", "_law_many"] (defScope (tp 42)) := ⟨rfl, rfl, rfl, by decide +kernel, rfl, by decide +kernel, by decide +kernel⟩
theorem w__law_mixed : BOk g ["_law_script", "_law_k", "_law_many", "_law_drawn"] (defScope (tp 42)) 1 (defBody (tp 42)) m__law_mixed :=
  (b_cons (s_set (i := 3) rfl (by kernel_rfl) (e_op2 op_mod_ok (e_op2 op_mul_ok (e_op2 op_add_ok (e_op2 op_add_ok (e_call X.cold ((k__law_cell_at X).mono (by decide)) (by kernel_rfl) (by kernel_rfl) (a_cons ((DM.e_var (i := 0) rfl (by kernel_rfl) (by kernel_rfl) (by kernel_rfl))) (a_cons ((DM.e_var (i := 1) rfl (by kernel_rfl) (by kernel_rfl) (by kernel_rfl))) a_nil rfl) rfl) rfl (fun h => nomatch h)) (e_op2 op_mul_ok e_int ((DM.e_var (i := 1) rfl (by kernel_rfl) (by kernel_rfl) (by kernel_rfl))))) e_int) e_int) e_int) rfl)
    (b_one (s_ret (e_op2 op_mod_ok (e_op2 op_mod_ok (e_op2 op_add_ok (e_op2 op_add_ok (e_op2 op_mul_ok ((DM.e_var (i := 3) rfl (by kernel_rfl) (by kernel_rfl) (by kernel_rfl))) ((DM.e_var (i := 3) rfl (by kernel_rfl) (by kernel_rfl) (by kernel_rfl)))) (e_op2 op_mul_ok e_int ((DM.e_var (i := 3) rfl (by kernel_rfl) (by kernel_rfl) (by kernel_rfl))))) ((DM.e_var (i := 1) rfl (by kernel_rfl) (by kernel_rfl) (by kernel_rfl)))) e_int) ((DM.e_var (i := 2) rfl (by kernel_rfl) (by kernel_rfl) (by kernel_rfl)))))))
theorem k__law_mixed : FnAt g 2 "_law_mixed" 3 sem__law_mixed := fnAt_of X.cold X.d__law_mixed s__law_mixed rfl (fun f fd F => F.binds fun _ _ _ _ _ _ us hl => match us, hl with | [_, _, _], _ => rfl) (w__law_mixed X)
omit X in
theorem s__law_draw : FnScope ["_law_script", "_law_town", "_law_many"] ["_law_script", "_law_town", "_law_many"] (defScope (tp 43)) := ⟨rfl, rfl, rfl, by decide +kernel, rfl, by decide +kernel, by decide +kernel⟩
theorem w__law_draw : BOk g ["_law_script", "_law_town", "_law_many"] (defScope (tp 43)) 2 (defBody (tp 43)) m__law_draw :=
  (b_cons (s_mut rfl mu_append ((DM.e_var (i := 1) rfl (by kernel_rfl) (by kernel_rfl) (by kernel_rfl))) (a_cons e_int a_nil rfl) rfl rfl rfl (by decide))
    (b_one (s_ret (e_call X.cold ((k__law_mixed X).mono (by decide)) (by kernel_rfl) (by kernel_rfl) (a_cons ((DM.e_var (i := 0) rfl (by kernel_rfl) (by kernel_rfl) (by kernel_rfl))) (a_cons (e_b X.b_len (.inl ⟨_, rfl⟩) b_len (by kernel_rfl) (a_cons ((DM.e_var (i := 1) rfl (by kernel_rfl) (by kernel_rfl) (by kernel_rfl))) a_nil rfl) rfl (fun h => nomatch h)) (a_cons ((DM.e_var (i := 2) rfl (by kernel_rfl) (by kernel_rfl) (by kernel_rfl))) a_nil rfl) rfl) rfl) rfl (fun h => nomatch h)))))
theorem k__law_draw : FnAt g 3 "_law_draw" 3 sem__law_draw := fnAt_of X.cold X.d__law_draw s__law_draw rfl (fun f fd F => F.binds fun _ _ _ _ _ _ us hl => match us, hl with | [_, _, _], _ => rfl) (w__law_draw X)
omit X in
theorem s__law_pick : FnScope ["_law_script", "_law_town", "_law_some"] ["_law_script", "_law_town", "_law_some"] (defScope (tp 44)) := ⟨rfl, rfl, rfl, by decide +kernel, rfl, by decide +kernel, by decide +kernel⟩
theorem w__law_pick : BOk g ["_law_script", "_law_town", "_law_some"] (defScope (tp 44)) 3 (defBody (tp 44)) m__law_pick :=
  (b_one (s_ret (e_ix ((DM.e_var (i := 2) rfl (by kernel_rfl) (by kernel_rfl) (by kernel_rfl))) (e_call X.cold ((k__law_draw X).mono (by decide)) (by kernel_rfl) (by kernel_rfl) (a_cons ((DM.e_var (i := 0) rfl (by kernel_rfl) (by kernel_rfl) (by kernel_rfl))) (a_cons ((DM.e_var (i := 1) rfl (by kernel_rfl) (by kernel_rfl) (by kernel_rfl))) (a_cons (e_b X.b_len (.inl ⟨_, rfl⟩) b_len (by kernel_rfl) (a_cons ((DM.e_var (i := 2) rfl (by kernel_rfl) (by kernel_rfl) (by kernel_rfl))) a_nil rfl) rfl (fun h => nomatch h)) a_nil rfl) rfl) rfl) rfl (fun h => nomatch h)) rfl)))
theorem k__law_pick : FnAt g 4 "_law_pick" 3 sem__law_pick := fnAt_of X.cold X.d__law_pick s__law_pick rfl (fun f fd F => F.binds fun _ _ _ _ _ _ us hl => match us, hl with | [_, _, _], _ => rfl) (w__law_pick X)
omit X in
theorem s__law_answer : FnScope ["_law_script", "_law_town", "_law_whose", "_law_some"] ["_law_script", "_law_town"] (defScope (tp 45)) := ⟨rfl, rfl, rfl, by decide +kernel, rfl, by decide +kernel, by decide +kernel⟩
theorem w__law_answer : BOk g ["_law_script", "_law_town", "_law_whose", "_law_some"] (defScope (tp 45)) 4 (defBody (tp 45)) m__law_answer :=
  (b_cons (s_set (i := 2) rfl (by kernel_rfl) (e_call X.cold ((k__law_pick X).mono (by decide)) (by kernel_rfl) (by kernel_rfl) (a_cons ((DM.e_var (i := 0) rfl (by kernel_rfl) (by kernel_rfl) (by kernel_rfl))) (a_cons ((DM.e_var (i := 1) rfl (by kernel_rfl) (by kernel_rfl) (by kernel_rfl))) (a_cons (e_lst (a_cons e_str (a_cons e_str (a_cons e_str a_nil rfl) rfl) rfl)) a_nil rfl) rfl) rfl) rfl (fun h => nomatch h)) rfl)
    (b_cons (s_asg_cell (asg_f (i := 3) rfl (by kernel_rfl) (f_disp (a_cons (e_tup (a_cons e_str (a_cons ((DM.e_var (i := 2) rfl (by kernel_rfl) (by kernel_rfl) (by kernel_rfl))) (a_cons (e_op2 op_add_ok e_int (e_call X.cold ((k__law_draw X).mono (by decide)) (by kernel_rfl) (by kernel_rfl) (a_cons ((DM.e_var (i := 0) rfl (by kernel_rfl) (by kernel_rfl) (by kernel_rfl))) (a_cons ((DM.e_var (i := 1) rfl (by kernel_rfl) (by kernel_rfl) (by kernel_rfl))) (a_cons e_int a_nil rfl) rfl) rfl) rfl (fun h => nomatch h))) a_nil rfl) rfl) rfl)) (a_cons (e_tup (a_cons e_str (a_cons ((DM.e_var (i := 2) rfl (by kernel_rfl) (by kernel_rfl) (by kernel_rfl))) (a_cons (e_op2 op_add_ok e_int (e_call X.cold ((k__law_draw X).mono (by decide)) (by kernel_rfl) (by kernel_rfl) (a_cons ((DM.e_var (i := 0) rfl (by kernel_rfl) (by kernel_rfl) (by kernel_rfl))) (a_cons ((DM.e_var (i := 1) rfl (by kernel_rfl) (by kernel_rfl) (by kernel_rfl))) (a_cons e_int a_nil rfl) rfl) rfl) rfl (fun h => nomatch h))) a_nil rfl) rfl) rfl)) a_nil rfl) rfl)) rfl))
    (b_cons (s_mut rfl mu_append ((DM.e_var (i := 3) rfl (by kernel_rfl) (by kernel_rfl) (by kernel_rfl))) (a_cons (e_tup (a_cons e_str (a_cons (e_op2 op_add_ok e_int (e_call X.cold ((k__law_draw X).mono (by decide)) (by kernel_rfl) (by kernel_rfl) (a_cons ((DM.e_var (i := 0) rfl (by kernel_rfl) (by kernel_rfl) (by kernel_rfl))) (a_cons ((DM.e_var (i := 1) rfl (by kernel_rfl) (by kernel_rfl) (by kernel_rfl))) (a_cons e_int a_nil rfl) rfl) rfl) rfl (fun h => nomatch h))) (a_cons e_non a_nil rfl) rfl) rfl)) a_nil rfl) rfl rfl rfl (by decide))
    (b_one (s_ret (e_call X.cold ((k__law_pick X).mono (by decide)) (by kernel_rfl) (by kernel_rfl) (a_cons ((DM.e_var (i := 0) rfl (by kernel_rfl) (by kernel_rfl) (by kernel_rfl))) (a_cons ((DM.e_var (i := 1) rfl (by kernel_rfl) (by kernel_rfl) (by kernel_rfl))) (a_cons ((DM.e_var (i := 3) rfl (by kernel_rfl) (by kernel_rfl) (by kernel_rfl))) a_nil rfl) rfl) rfl) rfl (fun h => nomatch h)))))))
theorem k__law_answer : FnAt g 5 "_law_answer" 2 sem__law_answer := fnAt_of X.cold X.d__law_answer s__law_answer rfl (fun f fd F => F.binds fun _ _ _ _ _ _ us hl => match us, hl with | [_, _], _ => rfl) (w__law_answer X)
omit X in
theorem s__law_card : FnScope ["_law_script", "_law_town", "_law_seats", "_law_kind", "_law_size", "_law_whose", "_law_when"] ["_law_script", "_law_town", "_law_seats"] (defScope (tp 46)) := ⟨rfl, rfl, rfl, by decide +kernel, rfl, by decide +kernel, by decide +kernel⟩
theorem w__law_card : BOk g ["_law_script", "_law_town", "_law_seats", "_law_kind", "_law_size", "_law_whose", "_law_when"] (defScope (tp 46)) 5 (defBody (tp 46)) m__law_card :=
  (b_cons (s_set (i := 3) rfl (by kernel_rfl) (e_call X.cold ((k__law_draw X).mono (by decide)) (by kernel_rfl) (by kernel_rfl) (a_cons ((DM.e_var (i := 0) rfl (by kernel_rfl) (by kernel_rfl) (by kernel_rfl))) (a_cons ((DM.e_var (i := 1) rfl (by kernel_rfl) (by kernel_rfl) (by kernel_rfl))) (a_cons e_int a_nil rfl) rfl) rfl) rfl (fun h => nomatch h)) rfl)
    (b_cons (s_set (i := 4) rfl (by kernel_rfl) (e_op2 op_add_ok e_int (e_call X.cold ((k__law_draw X).mono (by decide)) (by kernel_rfl) (by kernel_rfl) (a_cons ((DM.e_var (i := 0) rfl (by kernel_rfl) (by kernel_rfl) (by kernel_rfl))) (a_cons ((DM.e_var (i := 1) rfl (by kernel_rfl) (by kernel_rfl) (by kernel_rfl))) (a_cons e_int a_nil rfl) rfl) rfl) rfl (fun h => nomatch h))) rfl)
    (b_cons (s_if (t_cmp cmp_lt ((DM.e_var (i := 3) rfl (by kernel_rfl) (by kernel_rfl) (by kernel_rfl))) e_int rfl)
    (b_one (s_ret (e_tup (a_cons (e_ix (e_lst (a_cons e_str (a_cons e_str a_nil rfl) rfl)) ((DM.e_var (i := 3) rfl (by kernel_rfl) (by kernel_rfl) (by kernel_rfl))) rfl) (a_cons (e_call X.cold ((k__law_draw X).mono (by decide)) (by kernel_rfl) (by kernel_rfl) (a_cons ((DM.e_var (i := 0) rfl (by kernel_rfl) (by kernel_rfl) (by kernel_rfl))) (a_cons ((DM.e_var (i := 1) rfl (by kernel_rfl) (by kernel_rfl) (by kernel_rfl))) (a_cons ((DM.e_var (i := 2) rfl (by kernel_rfl) (by kernel_rfl) (by kernel_rfl))) a_nil rfl) rfl) rfl) rfl (fun h => nomatch h)) (a_cons ((DM.e_var (i := 4) rfl (by kernel_rfl) (by kernel_rfl) (by kernel_rfl))) a_nil rfl) rfl) rfl))))
    b_nil)
    (b_cons (s_if (t_cmp cmp_lt ((DM.e_var (i := 3) rfl (by kernel_rfl) (by kernel_rfl) (by kernel_rfl))) e_int rfl)
    (b_one (s_ret (e_tup (a_cons e_str (a_cons (e_call X.cold ((k__law_draw X).mono (by decide)) (by kernel_rfl) (by kernel_rfl) (a_cons ((DM.e_var (i := 0) rfl (by kernel_rfl) (by kernel_rfl) (by kernel_rfl))) (a_cons ((DM.e_var (i := 1) rfl (by kernel_rfl) (by kernel_rfl) (by kernel_rfl))) (a_cons e_int a_nil rfl) rfl) rfl) rfl (fun h => nomatch h)) (a_cons ((DM.e_var (i := 4) rfl (by kernel_rfl) (by kernel_rfl) (by kernel_rfl))) a_nil rfl) rfl) rfl))))
    b_nil)
    (b_cons (s_if (t_cmp cmp_lt ((DM.e_var (i := 3) rfl (by kernel_rfl) (by kernel_rfl) (by kernel_rfl))) e_int rfl)
    (b_cons (s_set (i := 6) rfl (by kernel_rfl) (e_tup (a_cons (e_call X.cold ((k__law_pick X).mono (by decide)) (by kernel_rfl) (by kernel_rfl) (a_cons ((DM.e_var (i := 0) rfl (by kernel_rfl) (by kernel_rfl) (by kernel_rfl))) (a_cons ((DM.e_var (i := 1) rfl (by kernel_rfl) (by kernel_rfl) (by kernel_rfl))) (a_cons (e_lst (a_cons e_str (a_cons e_str (a_cons e_str (a_cons e_str a_nil rfl) rfl) rfl) rfl)) a_nil rfl) rfl) rfl) rfl (fun h => nomatch h)) (a_cons (e_call X.cold ((k__law_answer X).mono (by decide)) (by kernel_rfl) (by kernel_rfl) (a_cons ((DM.e_var (i := 0) rfl (by kernel_rfl) (by kernel_rfl) (by kernel_rfl))) (a_cons ((DM.e_var (i := 1) rfl (by kernel_rfl) (by kernel_rfl) (by kernel_rfl))) a_nil rfl) rfl) rfl (fun h => nomatch h)) a_nil rfl) rfl)) rfl)
    (b_one (s_ret (e_tup (a_cons e_str (a_cons ((DM.e_var (i := 4) rfl (by kernel_rfl) (by kernel_rfl) (by kernel_rfl))) (a_cons (e_ix (e_lst (a_cons ((DM.e_var (i := 6) rfl (by kernel_rfl) (by kernel_rfl) (by kernel_rfl))) (a_cons ((DM.e_var (i := 6) rfl (by kernel_rfl) (by kernel_rfl) (by kernel_rfl))) (a_cons e_non a_nil rfl) rfl) rfl)) (e_call X.cold ((k__law_draw X).mono (by decide)) (by kernel_rfl) (by kernel_rfl) (a_cons ((DM.e_var (i := 0) rfl (by kernel_rfl) (by kernel_rfl) (by kernel_rfl))) (a_cons ((DM.e_var (i := 1) rfl (by kernel_rfl) (by kernel_rfl) (by kernel_rfl))) (a_cons e_int a_nil rfl) rfl) rfl) rfl (fun h => nomatch h)) rfl) a_nil rfl) rfl) rfl)))))
    b_nil)
    (b_cons (s_if (t_cmp cmp_lt ((DM.e_var (i := 3) rfl (by kernel_rfl) (by kernel_rfl) (by kernel_rfl))) e_int rfl)
    (b_one (s_ret (e_tup (a_cons e_str (a_cons (e_call X.cold ((k__law_draw X).mono (by decide)) (by kernel_rfl) (by kernel_rfl) (a_cons ((DM.e_var (i := 0) rfl (by kernel_rfl) (by kernel_rfl) (by kernel_rfl))) (a_cons ((DM.e_var (i := 1) rfl (by kernel_rfl) (by kernel_rfl) (by kernel_rfl))) (a_cons e_int a_nil rfl) rfl) rfl) rfl (fun h => nomatch h)) a_nil rfl) rfl))))
    b_nil)
    (b_cons (s_if (t_cmp cmp_eq ((DM.e_var (i := 3) rfl (by kernel_rfl) (by kernel_rfl) (by kernel_rfl))) e_int rfl)
    (b_one (s_ret (e_tup (a_cons e_str (a_cons (e_call X.cold ((k__law_draw X).mono (by decide)) (by kernel_rfl) (by kernel_rfl) (a_cons ((DM.e_var (i := 0) rfl (by kernel_rfl) (by kernel_rfl) (by kernel_rfl))) (a_cons ((DM.e_var (i := 1) rfl (by kernel_rfl) (by kernel_rfl) (by kernel_rfl))) (a_cons e_int a_nil rfl) rfl) rfl) rfl (fun h => nomatch h)) a_nil rfl) rfl))))
    b_nil)
    (b_cons (s_set (i := 5) rfl (by kernel_rfl) (e_call X.cold ((k__law_pick X).mono (by decide)) (by kernel_rfl) (by kernel_rfl) (a_cons ((DM.e_var (i := 0) rfl (by kernel_rfl) (by kernel_rfl) (by kernel_rfl))) (a_cons ((DM.e_var (i := 1) rfl (by kernel_rfl) (by kernel_rfl) (by kernel_rfl))) (a_cons (e_lst (a_cons e_str (a_cons e_str (a_cons e_str a_nil rfl) rfl) rfl)) a_nil rfl) rfl) rfl) rfl (fun h => nomatch h)) rfl)
    (b_one (s_ret (e_tup (a_cons e_str (a_cons (e_call X.cold ((k__law_pick X).mono (by decide)) (by kernel_rfl) (by kernel_rfl) (a_cons ((DM.e_var (i := 0) rfl (by kernel_rfl) (by kernel_rfl) (by kernel_rfl))) (a_cons ((DM.e_var (i := 1) rfl (by kernel_rfl) (by kernel_rfl) (by kernel_rfl))) (a_cons (e_lst (a_cons e_str (a_cons e_str (a_cons e_str a_nil rfl) rfl) rfl)) a_nil rfl) rfl) rfl) rfl (fun h => nomatch h)) (a_cons ((DM.e_var (i := 5) rfl (by kernel_rfl) (by kernel_rfl) (by kernel_rfl))) (a_cons (e_call X.cold ((k__law_draw X).mono (by decide)) (by kernel_rfl) (by kernel_rfl) (a_cons ((DM.e_var (i := 0) rfl (by kernel_rfl) (by kernel_rfl) (by kernel_rfl))) (a_cons ((DM.e_var (i := 1) rfl (by kernel_rfl) (by kernel_rfl) (by kernel_rfl))) (a_cons e_int a_nil rfl) rfl) rfl) rfl (fun h => nomatch h)) a_nil rfl) rfl) rfl) rfl))))))))))))
theorem k__law_card : FnAt g 6 "_law_card" 3 sem__law_card := fnAt_of X.cold X.d__law_card s__law_card rfl (fun f fd F => F.binds fun _ _ _ _ _ _ us hl => match us, hl with | [_, _, _], _ => rfl) (w__law_card X)
omit X in
theorem s__law_table : FnScope ["_law_script", "_law_town", "_law_seats", "_law_lives", "_law_hands", "_law_seat", "_law_k"] ["_law_script", "_law_town"] (defScope (tp 47)) := ⟨rfl, rfl, rfl, by decide +kernel, rfl, by decide +kernel, by decide +kernel⟩
theorem w__law_table : BOk g ["_law_script", "_law_town", "_law_seats", "_law_lives", "_law_hands", "_law_seat", "_law_k"] (defScope (tp 47)) 6 (defBody (tp 47)) m__law_table :=
  (b_cons (s_set (i := 2) rfl (by kernel_rfl) (e_op2 op_add_ok e_int (e_call X.cold ((k__law_draw X).mono (by decide)) (by kernel_rfl) (by kernel_rfl) (a_cons ((DM.e_var (i := 0) rfl (by kernel_rfl) (by kernel_rfl) (by kernel_rfl))) (a_cons ((DM.e_var (i := 1) rfl (by kernel_rfl) (by kernel_rfl) (by kernel_rfl))) (a_cons e_int a_nil rfl) rfl) rfl) rfl (fun h => nomatch h))) rfl)
    (b_cons (s_set (i := 3) rfl (by kernel_rfl) (e_b X.b_tuple (.inr ⟨_, rfl⟩) b_tuple (by kernel_rfl) (a_cons (e_frz (f_lc X.cold (own := [("_law_seat", 5)]) (i_range1 X.b_range (by kernel_rfl) (a_cons ((DM.e_var (i := 2) rfl (by kernel_rfl) (by kernel_rfl) (by kernel_rfl))) a_nil rfl) rfl) (by kernel_rfl) (by kernel_rfl) ifs_nil (e_call X.cold ((k__law_pick X).mono (by decide)) (by kernel_rfl) (by kernel_rfl) (a_cons ((DM.e_var (i := 0) rfl (by kernel_rfl) (by kernel_rfl) (by kernel_rfl))) (a_cons ((DM.e_var (i := 1) rfl (by kernel_rfl) (by kernel_rfl) (by kernel_rfl))) (a_cons (e_lst (a_cons e_int (a_cons e_int (a_cons e_int (a_cons e_int a_nil rfl) rfl) rfl) rfl)) a_nil rfl) rfl) rfl) rfl (fun h => nomatch h)) (by kernel_rfl) (by kernel_rfl) rfl)) a_nil rfl) rfl (fun h => nomatch h)) rfl)
    (b_cons (s_asg_own (asg_f (i := 4) rfl (by kernel_rfl) (f_disp a_nil) rfl))
    (b_cons (s_for X.cold (i_range1 X.b_range (by kernel_rfl) (a_cons ((DM.e_var (i := 2) rfl (by kernel_rfl) (by kernel_rfl) (by kernel_rfl))) a_nil rfl) rfl) (by kernel_rfl) (by kernel_rfl)
    (b_one (s_mut rfl mu_append ((DM.e_var (i := 4) rfl (by kernel_rfl) (by kernel_rfl) (by kernel_rfl))) (a_cons (e_b X.b_tuple (.inr ⟨_, rfl⟩) b_tuple (by kernel_rfl) (a_cons (e_frz (f_lc X.cold (own := [("_law_k", 6)]) (i_range1 X.b_range (by kernel_rfl) (a_cons (e_call X.cold ((k__law_draw X).mono (by decide)) (by kernel_rfl) (by kernel_rfl) (a_cons ((DM.e_var (i := 0) rfl (by kernel_rfl) (by kernel_rfl) (by kernel_rfl))) (a_cons ((DM.e_var (i := 1) rfl (by kernel_rfl) (by kernel_rfl) (by kernel_rfl))) (a_cons e_int a_nil rfl) rfl) rfl) rfl (fun h => nomatch h)) a_nil rfl) rfl) (by kernel_rfl) (by kernel_rfl) ifs_nil (e_call X.cold ((k__law_card X).mono (by decide)) (by kernel_rfl) (by kernel_rfl) (a_cons ((DM.e_var (i := 0) rfl (by kernel_rfl) (by kernel_rfl) (by kernel_rfl))) (a_cons ((DM.e_var (i := 1) rfl (by kernel_rfl) (by kernel_rfl) (by kernel_rfl))) (a_cons ((DM.e_var (i := 2) rfl (by kernel_rfl) (by kernel_rfl) (by kernel_rfl))) a_nil rfl) rfl) rfl) rfl (fun h => nomatch h)) (by kernel_rfl) (by kernel_rfl) rfl)) a_nil rfl) rfl (fun h => nomatch h)) a_nil rfl) rfl rfl rfl (by decide))) rfl)
    (b_one (s_ret (e_tup (a_cons ((DM.e_var (i := 3) rfl (by kernel_rfl) (by kernel_rfl) (by kernel_rfl))) (a_cons (e_b X.b_tuple (.inr ⟨_, rfl⟩) b_tuple (by kernel_rfl) (a_cons ((DM.e_var (i := 4) rfl (by kernel_rfl) (by kernel_rfl) (by kernel_rfl))) a_nil rfl) rfl (fun h => nomatch h)) a_nil rfl) rfl))))))))
theorem k__law_table : FnAt g 7 "_law_table" 2 sem__law_table := fnAt_of X.cold X.d__law_table s__law_table rfl (fun f fd F => F.binds fun _ _ _ _ _ _ us hl => match us, hl with | [_, _], _ => rfl) (w__law_table X)
omit X in
theorem s_is_whole : FnScope ["thing", "low", "most"] ["thing", "low", "most"] (defScope (tp 22)) := ⟨rfl, rfl, rfl, by decide +kernel, rfl, by decide +kernel, by decide +kernel⟩
theorem w_is_whole : BOk g ["thing", "low", "most"] (defScope (tp 22)) 0 (defBody (tp 22)) m_is_whole :=
  (b_one (s_ret (e_and (e_isi (T := "int") X.b_isinstance X.b_int (by kernel_rfl) (by kernel_rfl) ((DM.e_var (i := 0) rfl (by kernel_rfl) (by kernel_rfl) (by kernel_rfl))) rfl) (e_and (e_not (e_isi (T := "bool") X.b_isinstance X.b_bool (by kernel_rfl) (by kernel_rfl) ((DM.e_var (i := 0) rfl (by kernel_rfl) (by kernel_rfl) (by kernel_rfl))) rfl)) (e_one (e_chain cmp_le cmp_le ((DM.e_var (i := 1) rfl (by kernel_rfl) (by kernel_rfl) (by kernel_rfl))) ((DM.e_var (i := 0) rfl (by kernel_rfl) (by kernel_rfl) (by kernel_rfl))) ((DM.e_var (i := 2) rfl (by kernel_rfl) (by kernel_rfl) (by kernel_rfl))) rfl))))))
theorem k_is_whole : FnAt g 1 "is_whole" 3 sem_is_whole := fnAt_of X.cold X.d_is_whole s_is_whole rfl (fun f fd F => F.binds fun _ _ _ _ _ _ us hl => match us, hl with | [_, _, _], _ => rfl) (w_is_whole X)
omit X in
theorem s_is_one_of : FnScope ["thing", "words"] ["thing", "words"] (defScope (tp 23)) := ⟨rfl, rfl, rfl, by decide +kernel, rfl, by decide +kernel, by decide +kernel⟩
theorem w_is_one_of : BOk g ["thing", "words"] (defScope (tp 23)) 0 (defBody (tp 23)) m_is_one_of :=
  (b_one (s_ret (e_and (e_isi (T := "str") X.b_isinstance X.b_str (by kernel_rfl) (by kernel_rfl) ((DM.e_var (i := 0) rfl (by kernel_rfl) (by kernel_rfl) (by kernel_rfl))) rfl) (e_one (e_cmp cmp_in ((DM.e_var (i := 0) rfl (by kernel_rfl) (by kernel_rfl) (by kernel_rfl))) ((DM.e_var (i := 1) rfl (by kernel_rfl) (by kernel_rfl) (by kernel_rfl))) rfl)))))
theorem k_is_one_of : FnAt g 1 "is_one_of" 2 sem_is_one_of := fnAt_of X.cold X.d_is_one_of s_is_one_of rfl (fun f fd F => F.binds fun _ _ _ _ _ _ us hl => match us, hl with | [_, _], _ => rfl) (w_is_one_of X)
omit X in
theorem s_is_answer : FnScope ["thing"] ["thing"] (defScope (tp 24)) := ⟨rfl, rfl, rfl, by decide +kernel, rfl, by decide +kernel, by decide +kernel⟩
theorem w_is_answer : BOk g ["thing"] (defScope (tp 24)) 1 (defBody (tp 24)) m_is_answer :=
  (b_cons (s_if (WOk.t (w_or (t_not (t_val (e_isi (T := "tuple") X.b_isinstance X.b_tuple (by kernel_rfl) (by kernel_rfl) ((DM.e_var (i := 0) rfl (by kernel_rfl) (by kernel_rfl) (by kernel_rfl))) rfl) rfl)) (w_or (t_cmp cmp_ne (e_b X.b_len (.inl ⟨_, rfl⟩) b_len (by kernel_rfl) (a_cons ((DM.e_var (i := 0) rfl (by kernel_rfl) (by kernel_rfl) (by kernel_rfl))) a_nil rfl) rfl (fun h => nomatch h)) e_int rfl) (w_or1 (t_not (t_val (e_call X.cold ((k_is_one_of X).mono (by decide)) (by kernel_rfl) (by kernel_rfl) (a_cons (e_ix ((DM.e_var (i := 0) rfl (by kernel_rfl) (by kernel_rfl) (by kernel_rfl))) e_int rfl) (a_cons (e_tup (a_cons e_str (a_cons e_str (a_cons e_str a_nil rfl) rfl) rfl)) a_nil rfl) rfl) rfl (fun h => nomatch h)) rfl))))))
    (b_one (s_ret e_bl))
    b_nil)
    (b_cons (s_if (t_cmp cmp_eq (e_ix ((DM.e_var (i := 0) rfl (by kernel_rfl) (by kernel_rfl) (by kernel_rfl))) e_int rfl) e_str rfl)
    (b_one (s_ret (e_and (e_call X.cold ((k_is_whole X).mono (by decide)) (by kernel_rfl) (by kernel_rfl) (a_cons (e_ix ((DM.e_var (i := 0) rfl (by kernel_rfl) (by kernel_rfl) (by kernel_rfl))) e_int rfl) (a_cons e_int (a_cons (e_glob X.c_SIZE (by kernel_rfl) (by kernel_rfl)) a_nil rfl) rfl) rfl) rfl (fun h => nomatch h)) (e_one (e_cmp cmp_is (e_ix ((DM.e_var (i := 0) rfl (by kernel_rfl) (by kernel_rfl) (by kernel_rfl))) e_int rfl) e_non rfl)))))
    b_nil)
    (b_one (s_ret (e_and (e_call X.cold ((k_is_one_of X).mono (by decide)) (by kernel_rfl) (by kernel_rfl) (a_cons (e_ix ((DM.e_var (i := 0) rfl (by kernel_rfl) (by kernel_rfl) (by kernel_rfl))) e_int rfl) (a_cons (e_glob X.c_WHOSE (by kernel_rfl) (by kernel_rfl)) a_nil rfl) rfl) rfl (fun h => nomatch h)) (e_one (e_call X.cold ((k_is_whole X).mono (by decide)) (by kernel_rfl) (by kernel_rfl) (a_cons (e_ix ((DM.e_var (i := 0) rfl (by kernel_rfl) (by kernel_rfl) (by kernel_rfl))) e_int rfl) (a_cons e_int (a_cons (e_glob X.c_SIZE (by kernel_rfl) (by kernel_rfl)) a_nil rfl) rfl) rfl) rfl (fun h => nomatch h))))))))
theorem k_is_answer : FnAt g 2 "is_answer" 1 sem_is_answer := fnAt_of X.cold X.d_is_answer s_is_answer rfl (fun f fd F => F.binds fun _ _ _ _ _ _ us hl => match us, hl with | [_], _ => rfl) (w_is_answer X)
omit X in
theorem s_is_when : FnScope ["thing"] ["thing"] (defScope (tp 25)) := ⟨rfl, rfl, rfl, by decide +kernel, rfl, by decide +kernel, by decide +kernel⟩
theorem w_is_when : BOk g ["thing"] (defScope (tp 25)) 2 (defBody (tp 25)) m_is_when :=
  (b_one (s_ret (e_and (e_isi (T := "tuple") X.b_isinstance X.b_tuple (by kernel_rfl) (by kernel_rfl) ((DM.e_var (i := 0) rfl (by kernel_rfl) (by kernel_rfl) (by kernel_rfl))) rfl) (e_and (e_cmp cmp_eq (e_b X.b_len (.inl ⟨_, rfl⟩) b_len (by kernel_rfl) (a_cons ((DM.e_var (i := 0) rfl (by kernel_rfl) (by kernel_rfl) (by kernel_rfl))) a_nil rfl) rfl (fun h => nomatch h)) e_int rfl) (e_and (e_call X.cold ((k_is_one_of X).mono (by decide)) (by kernel_rfl) (by kernel_rfl) (a_cons (e_ix ((DM.e_var (i := 0) rfl (by kernel_rfl) (by kernel_rfl) (by kernel_rfl))) e_int rfl) (a_cons (e_glob X.c_EVENTS (by kernel_rfl) (by kernel_rfl)) a_nil rfl) rfl) rfl (fun h => nomatch h)) (e_one (e_call X.cold ((k_is_answer X).mono (by decide)) (by kernel_rfl) (by kernel_rfl) (a_cons (e_ix ((DM.e_var (i := 0) rfl (by kernel_rfl) (by kernel_rfl) (by kernel_rfl))) e_int rfl) a_nil rfl) rfl (fun h => nomatch h))))))))
theorem k_is_when : FnAt g 3 "is_when" 1 sem_is_when := fnAt_of X.cold X.d_is_when s_is_when rfl (fun f fd F => F.binds fun _ _ _ _ _ _ us hl => match us, hl with | [_], _ => rfl) (w_is_when X)
omit X in
theorem s_is_card : FnScope ["thing", "seats"] ["thing", "seats"] (defScope (tp 26)) := ⟨rfl, rfl, rfl, by decide +kernel, rfl, by decide +kernel, by decide +kernel⟩
theorem w_is_card : BOk g ["thing", "seats"] (defScope (tp 26)) 3 (defBody (tp 26)) m_is_card :=
  (b_cons (s_if (WOk.t (w_or (t_not (t_val (e_isi (T := "tuple") X.b_isinstance X.b_tuple (by kernel_rfl) (by kernel_rfl) ((DM.e_var (i := 0) rfl (by kernel_rfl) (by kernel_rfl) (by kernel_rfl))) rfl) rfl)) (w_or (t_cmp cmp_lt (e_b X.b_len (.inl ⟨_, rfl⟩) b_len (by kernel_rfl) (a_cons ((DM.e_var (i := 0) rfl (by kernel_rfl) (by kernel_rfl) (by kernel_rfl))) a_nil rfl) rfl (fun h => nomatch h)) e_int rfl) (w_or1 (t_not (t_val (e_isi (T := "str") X.b_isinstance X.b_str (by kernel_rfl) (by kernel_rfl) (e_ix ((DM.e_var (i := 0) rfl (by kernel_rfl) (by kernel_rfl) (by kernel_rfl))) e_int rfl) rfl) rfl))))))
    (b_one (s_ret e_bl))
    b_nil)
    (b_cons (s_if (t_cmp cmp_in (e_ix ((DM.e_var (i := 0) rfl (by kernel_rfl) (by kernel_rfl) (by kernel_rfl))) e_int rfl) (e_tup (a_cons e_str (a_cons e_str a_nil rfl) rfl)) rfl)
    (b_one (s_ret (e_and (e_cmp cmp_eq (e_b X.b_len (.inl ⟨_, rfl⟩) b_len (by kernel_rfl) (a_cons ((DM.e_var (i := 0) rfl (by kernel_rfl) (by kernel_rfl) (by kernel_rfl))) a_nil rfl) rfl (fun h => nomatch h)) e_int rfl) (e_and (e_call X.cold ((k_is_whole X).mono (by decide)) (by kernel_rfl) (by kernel_rfl) (a_cons (e_ix ((DM.e_var (i := 0) rfl (by kernel_rfl) (by kernel_rfl) (by kernel_rfl))) e_int rfl) (a_cons e_int (a_cons (e_op2 op_sub_ok ((DM.e_var (i := 1) rfl (by kernel_rfl) (by kernel_rfl) (by kernel_rfl))) e_int) a_nil rfl) rfl) rfl) rfl (fun h => nomatch h)) (e_one (e_call X.cold ((k_is_whole X).mono (by decide)) (by kernel_rfl) (by kernel_rfl) (a_cons (e_ix ((DM.e_var (i := 0) rfl (by kernel_rfl) (by kernel_rfl) (by kernel_rfl))) e_int rfl) (a_cons e_int (a_cons (e_glob X.c_SIZE (by kernel_rfl) (by kernel_rfl)) a_nil rfl) rfl) rfl) rfl (fun h => nomatch h)))))))
    b_nil)
    (b_cons (s_if (t_cmp cmp_eq (e_ix ((DM.e_var (i := 0) rfl (by kernel_rfl) (by kernel_rfl) (by kernel_rfl))) e_int rfl) e_str rfl)
    (b_one (s_ret (e_and (e_cmp cmp_eq (e_b X.b_len (.inl ⟨_, rfl⟩) b_len (by kernel_rfl) (a_cons ((DM.e_var (i := 0) rfl (by kernel_rfl) (by kernel_rfl) (by kernel_rfl))) a_nil rfl) rfl (fun h => nomatch h)) e_int rfl) (e_and (e_call X.cold ((k_is_whole X).mono (by decide)) (by kernel_rfl) (by kernel_rfl) (a_cons (e_ix ((DM.e_var (i := 0) rfl (by kernel_rfl) (by kernel_rfl) (by kernel_rfl))) e_int rfl) (a_cons e_int (a_cons e_int a_nil rfl) rfl) rfl) rfl (fun h => nomatch h)) (e_one (e_call X.cold ((k_is_whole X).mono (by decide)) (by kernel_rfl) (by kernel_rfl) (a_cons (e_ix ((DM.e_var (i := 0) rfl (by kernel_rfl) (by kernel_rfl) (by kernel_rfl))) e_int rfl) (a_cons e_int (a_cons (e_glob X.c_SIZE (by kernel_rfl) (by kernel_rfl)) a_nil rfl) rfl) rfl) rfl (fun h => nomatch h)))))))
    b_nil)
    (b_cons (s_if (t_cmp cmp_eq (e_ix ((DM.e_var (i := 0) rfl (by kernel_rfl) (by kernel_rfl) (by kernel_rfl))) e_int rfl) e_str rfl)
    (b_one (s_ret (e_and (e_cmp cmp_eq (e_b X.b_len (.inl ⟨_, rfl⟩) b_len (by kernel_rfl) (a_cons ((DM.e_var (i := 0) rfl (by kernel_rfl) (by kernel_rfl) (by kernel_rfl))) a_nil rfl) rfl (fun h => nomatch h)) e_int rfl) (e_and (e_call X.cold ((k_is_whole X).mono (by decide)) (by kernel_rfl) (by kernel_rfl) (a_cons (e_ix ((DM.e_var (i := 0) rfl (by kernel_rfl) (by kernel_rfl) (by kernel_rfl))) e_int rfl) (a_cons e_int (a_cons (e_glob X.c_SIZE (by kernel_rfl) (by kernel_rfl)) a_nil rfl) rfl) rfl) rfl (fun h => nomatch h)) (e_one (e_or (e_cmp cmp_is (e_ix ((DM.e_var (i := 0) rfl (by kernel_rfl) (by kernel_rfl) (by kernel_rfl))) e_int rfl) e_non rfl) (e_one (e_call X.cold ((k_is_when X).mono (by decide)) (by kernel_rfl) (by kernel_rfl) (a_cons (e_ix ((DM.e_var (i := 0) rfl (by kernel_rfl) (by kernel_rfl) (by kernel_rfl))) e_int rfl) a_nil rfl) rfl (fun h => nomatch h)))))))))
    b_nil)
    (b_cons (s_if (t_cmp cmp_eq (e_ix ((DM.e_var (i := 0) rfl (by kernel_rfl) (by kernel_rfl) (by kernel_rfl))) e_int rfl) e_str rfl)
    (b_cons (s_if (WOk.t (w_or (t_cmp cmp_ne (e_b X.b_len (.inl ⟨_, rfl⟩) b_len (by kernel_rfl) (a_cons ((DM.e_var (i := 0) rfl (by kernel_rfl) (by kernel_rfl) (by kernel_rfl))) a_nil rfl) rfl (fun h => nomatch h)) e_int rfl) (w_or (t_not (t_val (e_call X.cold ((k_is_one_of X).mono (by decide)) (by kernel_rfl) (by kernel_rfl) (a_cons (e_ix ((DM.e_var (i := 0) rfl (by kernel_rfl) (by kernel_rfl) (by kernel_rfl))) e_int rfl) (a_cons (e_glob X.c_LAYERS (by kernel_rfl) (by kernel_rfl)) a_nil rfl) rfl) rfl (fun h => nomatch h)) rfl)) (w_or1 (t_not (t_val (e_call X.cold ((k_is_one_of X).mono (by decide)) (by kernel_rfl) (by kernel_rfl) (a_cons (e_ix ((DM.e_var (i := 0) rfl (by kernel_rfl) (by kernel_rfl) (by kernel_rfl))) e_int rfl) (a_cons (e_glob X.c_WHOSE (by kernel_rfl) (by kernel_rfl)) a_nil rfl) rfl) rfl (fun h => nomatch h)) rfl))))))
    (b_one (s_ret e_bl))
    b_nil)
    (b_one (s_ret (e_call X.cold ((k_is_whole X).mono (by decide)) (by kernel_rfl) (by kernel_rfl) (a_cons (e_ix ((DM.e_var (i := 0) rfl (by kernel_rfl) (by kernel_rfl) (by kernel_rfl))) e_int rfl) (a_cons e_int (a_cons (e_glob X.c_SIZE (by kernel_rfl) (by kernel_rfl)) a_nil rfl) rfl) rfl) rfl (fun h => nomatch h)))))
    b_nil)
    (b_one (s_ret (e_and (e_cmp cmp_in (e_ix ((DM.e_var (i := 0) rfl (by kernel_rfl) (by kernel_rfl) (by kernel_rfl))) e_int rfl) (e_tup (a_cons e_str (a_cons e_str a_nil rfl) rfl)) rfl) (e_and (e_cmp cmp_eq (e_b X.b_len (.inl ⟨_, rfl⟩) b_len (by kernel_rfl) (a_cons ((DM.e_var (i := 0) rfl (by kernel_rfl) (by kernel_rfl) (by kernel_rfl))) a_nil rfl) rfl (fun h => nomatch h)) e_int rfl) (e_one (e_call X.cold ((k_is_whole X).mono (by decide)) (by kernel_rfl) (by kernel_rfl) (a_cons (e_ix ((DM.e_var (i := 0) rfl (by kernel_rfl) (by kernel_rfl) (by kernel_rfl))) e_int rfl) (a_cons e_int (a_cons e_int a_nil rfl) rfl) rfl) rfl (fun h => nomatch h))))))))))))
theorem k_is_card : FnAt g 4 "is_card" 2 sem_is_card := fnAt_of X.cold X.d_is_card s_is_card rfl (fun f fd F => F.binds fun _ _ _ _ _ _ us hl => match us, hl with | [_, _], _ => rfl) (w_is_card X)
omit X in
theorem s_are_hands : FnScope ["thing", "seats", "hand", "card"] ["thing", "seats"] (defScope (tp 27)) := ⟨rfl, rfl, rfl, by decide +kernel, rfl, by decide +kernel, by decide +kernel⟩
theorem w_are_hands : BOk g ["thing", "seats", "hand", "card"] (defScope (tp 27)) 4 (defBody (tp 27)) m_are_hands :=
  (b_cons (s_if (WOk.t (w_or (t_not (t_val (e_isi (T := "tuple") X.b_isinstance X.b_tuple (by kernel_rfl) (by kernel_rfl) ((DM.e_var (i := 0) rfl (by kernel_rfl) (by kernel_rfl) (by kernel_rfl))) rfl) rfl)) (w_or1 (t_cmp cmp_ne (e_b X.b_len (.inl ⟨_, rfl⟩) b_len (by kernel_rfl) (a_cons ((DM.e_var (i := 0) rfl (by kernel_rfl) (by kernel_rfl) (by kernel_rfl))) a_nil rfl) rfl (fun h => nomatch h)) ((DM.e_var (i := 1) rfl (by kernel_rfl) (by kernel_rfl) (by kernel_rfl))) rfl))))
    (b_one (s_ret e_bl))
    b_nil)
    (b_cons (s_for X.cold (i_any ((DM.e_var (i := 0) rfl (by kernel_rfl) (by kernel_rfl) (by kernel_rfl)))) (by kernel_rfl) (by kernel_rfl)
    (b_one (s_if (WOk.t (w_or (t_not (t_val (e_isi (T := "tuple") X.b_isinstance X.b_tuple (by kernel_rfl) (by kernel_rfl) ((DM.e_var (i := 2) rfl (by kernel_rfl) (by kernel_rfl) (by kernel_rfl))) rfl) rfl)) (w_or (t_cmp cmp_gt (e_b X.b_len (.inl ⟨_, rfl⟩) b_len (by kernel_rfl) (a_cons ((DM.e_var (i := 2) rfl (by kernel_rfl) (by kernel_rfl) (by kernel_rfl))) a_nil rfl) rfl (fun h => nomatch h)) (e_glob X.c_HAND (by kernel_rfl) (by kernel_rfl)) rfl) (w_or1 (t_not (t_val (e_b X.b_all (.inl ⟨_, rfl⟩) (b_all X.cold) (by kernel_rfl) (a_cons (e_frz (f_lc X.cold (own := [("card", 3)]) (i_any ((DM.e_var (i := 2) rfl (by kernel_rfl) (by kernel_rfl) (by kernel_rfl)))) (by kernel_rfl) (by kernel_rfl) ifs_nil (e_call X.cold ((k_is_card X).mono (by decide)) (by kernel_rfl) (by kernel_rfl) (a_cons ((DM.e_var (i := 3) rfl (by kernel_rfl) (by kernel_rfl) (by kernel_rfl))) (a_cons ((DM.e_var (i := 1) rfl (by kernel_rfl) (by kernel_rfl) (by kernel_rfl))) a_nil rfl) rfl) rfl (fun h => nomatch h)) (by kernel_rfl) (by kernel_rfl) rfl)) a_nil rfl) rfl (fun h => nomatch h)) rfl))))))
    (b_one (s_ret e_bl))
    b_nil)) rfl)
    (b_one (s_ret e_bl))))
theorem k_are_hands : FnAt g 5 "are_hands" 2 sem_are_hands := fnAt_of X.cold X.d_are_hands s_are_hands rfl (fun f fd F => F.binds fun _ _ _ _ _ _ us hl => match us, hl with | [_, _], _ => rfl) (w_are_hands X)
omit X in
theorem s_Floor___init__ : FnScope ["self"] ["self"] (defScope (inn (tp 29) 0)) := ⟨rfl, rfl, rfl, by decide +kernel, rfl, by decide +kernel, by decide +kernel⟩
theorem w_Floor___init__ : BOk g ["self"] (defScope (inn (tp 29) 0)) 0 (defBody (inn (tp 29) 0)) m_Floor___init__ :=
  (b_cons (s_fld X.at_Floor_men ((DM.e_var (i := 0) rfl (by kernel_rfl) (by kernel_rfl) (by kernel_rfl))) e_dict0)
    (b_cons (s_fld X.at_Floor_stays ((DM.e_var (i := 0) rfl (by kernel_rfl) (by kernel_rfl) (by kernel_rfl))) e_dict0)
    (b_one (s_fld X.at_Floor_coming ((DM.e_var (i := 0) rfl (by kernel_rfl) (by kernel_rfl) (by kernel_rfl))) e_int))))
theorem k_Floor___init__ : MakeAt g 1 "Floor" 0 sem_Floor___init__ := makeAt_of X.cold X.d_Floor___init__ s_Floor___init__ rfl (fun f fd F => F.binds fun _ _ _ _ _ _ us hl => match us, hl with | [_], _ => rfl) (w_Floor___init__ X)
omit X in
theorem s_Table___init__ : FnScope ["self", "lives", "hands", "hand", "life"] ["self", "lives", "hands"] (defScope (inn (tp 34) 0)) := ⟨rfl, rfl, rfl, by decide +kernel, rfl, by decide +kernel, by decide +kernel⟩
theorem w_Table___init__ : BOk g ["self", "lives", "hands", "hand", "life"] (defScope (inn (tp 34) 0)) 5 (defBody (inn (tp 34) 0)) m_Table___init__ :=
  (b_cons (s_if (WOk.t (w_or (t_not (t_val (e_isi (T := "tuple") X.b_isinstance X.b_tuple (by kernel_rfl) (by kernel_rfl) ((DM.e_var (i := 1) rfl (by kernel_rfl) (by kernel_rfl) (by kernel_rfl))) rfl) rfl)) (w_or1 (t_not (t_chain cmp_le cmp_le e_int (e_b X.b_len (.inl ⟨_, rfl⟩) b_len (by kernel_rfl) (a_cons ((DM.e_var (i := 1) rfl (by kernel_rfl) (by kernel_rfl) (by kernel_rfl))) a_nil rfl) rfl (fun h => nomatch h)) (e_glob X.c_SEATS (by kernel_rfl) (by kernel_rfl)) rfl)))))
    (b_one (s_raise X.cold X.x_NoTable (by kernel_rfl) (by kernel_rfl)))
    b_nil)
    (b_cons (s_if (WOk.t (w_or (t_not (t_val (e_b X.b_all (.inl ⟨_, rfl⟩) (b_all X.cold) (by kernel_rfl) (a_cons (e_frz (f_lc X.cold (own := [("life", 4)]) (i_any ((DM.e_var (i := 1) rfl (by kernel_rfl) (by kernel_rfl) (by kernel_rfl)))) (by kernel_rfl) (by kernel_rfl) ifs_nil (e_call X.cold ((k_is_whole X).mono (by decide)) (by kernel_rfl) (by kernel_rfl) (a_cons ((DM.e_var (i := 4) rfl (by kernel_rfl) (by kernel_rfl) (by kernel_rfl))) (a_cons e_int (a_cons (e_glob X.c_LIFE (by kernel_rfl) (by kernel_rfl)) a_nil rfl) rfl) rfl) rfl (fun h => nomatch h)) (by kernel_rfl) (by kernel_rfl) rfl)) a_nil rfl) rfl (fun h => nomatch h)) rfl)) (w_or1 (t_not (t_val (e_call X.cold ((k_are_hands X).mono (by decide)) (by kernel_rfl) (by kernel_rfl) (a_cons ((DM.e_var (i := 2) rfl (by kernel_rfl) (by kernel_rfl) (by kernel_rfl))) (a_cons (e_b X.b_len (.inl ⟨_, rfl⟩) b_len (by kernel_rfl) (a_cons ((DM.e_var (i := 1) rfl (by kernel_rfl) (by kernel_rfl) (by kernel_rfl))) a_nil rfl) rfl (fun h => nomatch h)) a_nil rfl) rfl) rfl (fun h => nomatch h)) rfl)))))
    (b_one (s_raise X.cold X.x_NoTable (by kernel_rfl) (by kernel_rfl)))
    b_nil)
    (b_cons (s_fld X.at_Table_lives ((DM.e_var (i := 0) rfl (by kernel_rfl) (by kernel_rfl) (by kernel_rfl))) (e_cell (f_b X.b_list (.inr ⟨_, rfl⟩) (b_list X.cold) (by kernel_rfl) (a_cons ((DM.e_var (i := 1) rfl (by kernel_rfl) (by kernel_rfl) (by kernel_rfl))) a_nil rfl) rfl (fun h => nomatch h))))
    (b_cons (s_fld X.at_Table_hands ((DM.e_var (i := 0) rfl (by kernel_rfl) (by kernel_rfl) (by kernel_rfl))) (e_cell (f_lc X.cold (own := [("hand", 3)]) (i_any ((DM.e_var (i := 2) rfl (by kernel_rfl) (by kernel_rfl) (by kernel_rfl)))) (by kernel_rfl) (by kernel_rfl) ifs_nil (e_cell (f_b X.b_list (.inr ⟨_, rfl⟩) (b_list X.cold) (by kernel_rfl) (a_cons ((DM.e_var (i := 3) rfl (by kernel_rfl) (by kernel_rfl) (by kernel_rfl))) a_nil rfl) rfl (fun h => nomatch h))) (by kernel_rfl) (by kernel_rfl) rfl)))
    (b_cons (s_fld X.at_Table_floor ((DM.e_var (i := 0) rfl (by kernel_rfl) (by kernel_rfl) (by kernel_rfl))) (e_make0 X.cold ((k_Floor___init__ X).mono (by decide)) (by kernel_rfl) (by kernel_rfl)))
    (b_cons (s_fld X.at_Table_stack ((DM.e_var (i := 0) rfl (by kernel_rfl) (by kernel_rfl) (by kernel_rfl))) (e_cell (f_disp a_nil)))
    (b_cons (s_fld X.at_Table_count ((DM.e_var (i := 0) rfl (by kernel_rfl) (by kernel_rfl) (by kernel_rfl))) e_int)
    (b_cons (s_fld X.at_Table_turner ((DM.e_var (i := 0) rfl (by kernel_rfl) (by kernel_rfl) (by kernel_rfl))) e_int)
    (b_cons (s_fld X.at_Table_asked ((DM.e_var (i := 0) rfl (by kernel_rfl) (by kernel_rfl) (by kernel_rfl))) e_int)
    (b_cons (s_fld X.at_Table_passes ((DM.e_var (i := 0) rfl (by kernel_rfl) (by kernel_rfl) (by kernel_rfl))) e_int)
    (b_one (s_fld X.at_Table_due ((DM.e_var (i := 0) rfl (by kernel_rfl) (by kernel_rfl) (by kernel_rfl))) (e_cell (f_disp a_nil))))))))))))))
theorem k_Table___init__ : MakeAt g 6 "Table" 2 sem_Table___init__ := makeAt_of X.cold X.d_Table___init__ s_Table___init__ rfl (fun f fd F => F.binds fun _ _ _ _ _ _ us hl => match us, hl with | [_, _, _], _ => rfl) (w_Table___init__ X)
omit X in
theorem s_Table_alive : FnScope ["self", "seat"] ["self"] (defScope (inn (tp 34) 1)) := ⟨rfl, rfl, rfl, by decide +kernel, rfl, by decide +kernel, by decide +kernel⟩
theorem w_Table_alive : BOk g ["self", "seat"] (defScope (inn (tp 34) 1)) 0 (defBody (inn (tp 34) 1)) m_Table_alive :=
  (b_one (s_retF (f_lc X.cold (own := [("seat", 1)]) (i_range1 X.b_range (by kernel_rfl) (a_cons (e_b X.b_len (.inl ⟨_, rfl⟩) b_len (by kernel_rfl) (a_cons (e_attr X.at_Table_lives ((DM.e_var (i := 0) rfl (by kernel_rfl) (by kernel_rfl) (by kernel_rfl))) rfl) a_nil rfl) rfl (fun h => nomatch h)) a_nil rfl) rfl) (by kernel_rfl) (by kernel_rfl) (ifs_one (t_cmp cmp_gt (e_ix (e_attr X.at_Table_lives ((DM.e_var (i := 0) rfl (by kernel_rfl) (by kernel_rfl) (by kernel_rfl))) rfl) ((DM.e_var (i := 1) rfl (by kernel_rfl) (by kernel_rfl) (by kernel_rfl))) rfl) e_int rfl)) ((DM.e_var (i := 1) rfl (by kernel_rfl) (by kernel_rfl) (by kernel_rfl))) (by kernel_rfl) (by kernel_rfl) rfl)))
theorem k_Table_alive : MethAt g 1 "Table" "alive" 1 sem_Table_alive := methAt_of X.cold X.d_Table_alive s_Table_alive rfl (fun f fd F => F.binds fun _ _ _ _ _ _ us hl => match us, hl with | [_], _ => rfl) (w_Table_alive X)
omit X in
theorem s_Table_is_over : FnScope ["self"] ["self"] (defScope (inn (tp 34) 2)) := ⟨rfl, rfl, rfl, by decide +kernel, rfl, by decide +kernel, by decide +kernel⟩
theorem w_Table_is_over : BOk g ["self"] (defScope (inn (tp 34) 2)) 1 (defBody (inn (tp 34) 2)) m_Table_is_over :=
  (b_one (s_ret (e_cmp cmp_lt (e_b X.b_len (.inl ⟨_, rfl⟩) b_len (by kernel_rfl) (a_cons (e_meth X.cold ((k_Table_alive X).mono (by decide)) ((DM.e_var (i := 0) rfl (by kernel_rfl) (by kernel_rfl) (by kernel_rfl))) a_nil rfl rfl rfl (by decide) (fun _ => rfl)) a_nil rfl) rfl (fun h => nomatch h)) e_int rfl)))
theorem k_Table_is_over : MethAt g 2 "Table" "is_over" 1 sem_Table_is_over := methAt_of X.cold X.d_Table_is_over s_Table_is_over rfl (fun f fd F => F.binds fun _ _ _ _ _ _ us hl => match us, hl with | [_], _ => rfl) (w_Table_is_over X)
omit X in
theorem s_Table_now : FnScope ["self"] ["self"] (defScope (inn (tp 34) 25)) := ⟨rfl, rfl, rfl, by decide +kernel, rfl, by decide +kernel, by decide +kernel⟩
theorem w_Table_now : BOk g ["self"] (defScope (inn (tp 34) 25)) 2 (defBody (inn (tp 34) 25)) m_Table_now :=
  (b_cons (s_if (t_val (e_meth X.cold ((k_Table_is_over X).mono (by decide)) ((DM.e_var (i := 0) rfl (by kernel_rfl) (by kernel_rfl) (by kernel_rfl))) a_nil rfl rfl rfl (by decide) (fun _ => rfl)) rfl)
    (b_one (s_ret e_non))
    b_nil)
    (b_one (s_ret (e_tup (a_cons (e_attr X.at_Table_turner ((DM.e_var (i := 0) rfl (by kernel_rfl) (by kernel_rfl) (by kernel_rfl))) rfl) (a_cons (e_attr X.at_Table_asked ((DM.e_var (i := 0) rfl (by kernel_rfl) (by kernel_rfl) (by kernel_rfl))) rfl) (a_cons (e_attr X.at_Table_passes ((DM.e_var (i := 0) rfl (by kernel_rfl) (by kernel_rfl) (by kernel_rfl))) rfl) a_nil rfl) rfl) rfl)))))
theorem k_Table_now : MethAt g 3 "Table" "now" 1 sem_Table_now := methAt_of X.cold X.d_Table_now s_Table_now rfl (fun f fd F => F.binds fun _ _ _ _ _ _ us hl => match us, hl with | [_], _ => rfl) (w_Table_now X)
omit X in
theorem s_Table_need_seat : FnScope ["self", "seat"] ["self", "seat"] (defScope (inn (tp 34) 5)) := ⟨rfl, rfl, rfl, by decide +kernel, rfl, by decide +kernel, by decide +kernel⟩
theorem w_Table_need_seat : BOk g ["self", "seat"] (defScope (inn (tp 34) 5)) 1 (defBody (inn (tp 34) 5)) m_Table_need_seat :=
  (b_one (s_if (t_not (t_val (e_call X.cold ((k_is_whole X).mono (by decide)) (by kernel_rfl) (by kernel_rfl) (a_cons ((DM.e_var (i := 1) rfl (by kernel_rfl) (by kernel_rfl) (by kernel_rfl))) (a_cons e_int (a_cons (e_op2 op_sub_ok (e_b X.b_len (.inl ⟨_, rfl⟩) b_len (by kernel_rfl) (a_cons (e_attr X.at_Table_lives ((DM.e_var (i := 0) rfl (by kernel_rfl) (by kernel_rfl) (by kernel_rfl))) rfl) a_nil rfl) rfl (fun h => nomatch h)) e_int) a_nil rfl) rfl) rfl) rfl (fun h => nomatch h)) rfl))
    (b_one (s_raise X.cold X.x_NoSeat (by kernel_rfl) (by kernel_rfl)))
    b_nil))
theorem k_Table_need_seat : MethAt g 2 "Table" "need_seat" 2 sem_Table_need_seat := methAt_of X.cold X.d_Table_need_seat s_Table_need_seat rfl (fun f fd F => F.binds fun _ _ _ _ _ _ us hl => match us, hl with | [_, _], _ => rfl) (w_Table_need_seat X)
omit X in
theorem s_Table_need_asked : FnScope ["self", "seat"] ["self", "seat"] (defScope (inn (tp 34) 6)) := ⟨rfl, rfl, rfl, by decide +kernel, rfl, by decide +kernel, by decide +kernel⟩
theorem w_Table_need_asked : BOk g ["self", "seat"] (defScope (inn (tp 34) 6)) 2 (defBody (inn (tp 34) 6)) m_Table_need_asked :=
  (b_cons (s_if (t_val (e_meth X.cold ((k_Table_is_over X).mono (by decide)) ((DM.e_var (i := 0) rfl (by kernel_rfl) (by kernel_rfl) (by kernel_rfl))) a_nil rfl rfl rfl (by decide) (fun _ => rfl)) rfl)
    (b_one (s_raise X.cold X.x_Over (by kernel_rfl) (by kernel_rfl)))
    b_nil)
    (b_cons (s_expr (e_meth X.cold ((k_Table_need_seat X).mono (by decide)) ((DM.e_var (i := 0) rfl (by kernel_rfl) (by kernel_rfl) (by kernel_rfl))) (a_cons ((DM.e_var (i := 1) rfl (by kernel_rfl) (by kernel_rfl) (by kernel_rfl))) a_nil rfl) rfl rfl rfl (by decide) (fun h => nomatch h)) rfl)
    (b_one (s_if (t_cmp cmp_ne ((DM.e_var (i := 1) rfl (by kernel_rfl) (by kernel_rfl) (by kernel_rfl))) (e_attr X.at_Table_asked ((DM.e_var (i := 0) rfl (by kernel_rfl) (by kernel_rfl) (by kernel_rfl))) rfl) rfl)
    (b_one (s_raise X.cold X.x_NotYet (by kernel_rfl) (by kernel_rfl)))
    b_nil))))
theorem k_Table_need_asked : MethAt g 3 "Table" "need_asked" 2 sem_Table_need_asked := methAt_of X.cold X.d_Table_need_asked s_Table_need_asked rfl (fun f fd F => F.binds fun _ _ _ _ _ _ us hl => match us, hl with | [_, _], _ => rfl) (w_Table_need_asked X)
omit X in
theorem s_Table_has_target : FnScope ["self", "card", "item"] ["self", "card"] (defScope (inn (tp 34) 8)) := ⟨rfl, rfl, rfl, by decide +kernel, rfl, by decide +kernel, by decide +kernel⟩
theorem w_Table_has_target : BOk g ["self", "card", "item"] (defScope (inn (tp 34) 8)) 0 (defBody (inn (tp 34) 8)) m_Table_has_target :=
  (b_cons (s_if (t_cmp cmp_eq (e_ix ((DM.e_var (i := 1) rfl (by kernel_rfl) (by kernel_rfl) (by kernel_rfl))) e_int rfl) e_str rfl)
    (b_one (s_ret (e_cmp cmp_in (e_ix ((DM.e_var (i := 1) rfl (by kernel_rfl) (by kernel_rfl) (by kernel_rfl))) e_int rfl) (e_attr X.at_Floor_men (e_attr X.at_Table_floor ((DM.e_var (i := 0) rfl (by kernel_rfl) (by kernel_rfl) (by kernel_rfl))) rfl) rfl) rfl)))
    b_nil)
    (b_cons (s_if (t_cmp cmp_eq (e_ix ((DM.e_var (i := 1) rfl (by kernel_rfl) (by kernel_rfl) (by kernel_rfl))) e_int rfl) e_str rfl)
    (b_one (s_ret (e_cmp cmp_in (e_ix ((DM.e_var (i := 1) rfl (by kernel_rfl) (by kernel_rfl) (by kernel_rfl))) e_int rfl) (e_frz (f_lc X.cold (own := [("item", 2)]) (i_any (e_attr X.at_Table_stack ((DM.e_var (i := 0) rfl (by kernel_rfl) (by kernel_rfl) (by kernel_rfl))) rfl)) (by kernel_rfl) (by kernel_rfl) ifs_nil (e_ix ((DM.e_var (i := 2) rfl (by kernel_rfl) (by kernel_rfl) (by kernel_rfl))) e_str rfl) (by kernel_rfl) (by kernel_rfl) rfl)) rfl)))
    b_nil)
    (b_cons (s_if (t_cmp cmp_eq (e_ix ((DM.e_var (i := 1) rfl (by kernel_rfl) (by kernel_rfl) (by kernel_rfl))) e_int rfl) e_str rfl)
    (b_one (s_ret (e_cmp cmp_in (e_ix ((DM.e_var (i := 1) rfl (by kernel_rfl) (by kernel_rfl) (by kernel_rfl))) e_int rfl) (e_attr X.at_Floor_stays (e_attr X.at_Table_floor ((DM.e_var (i := 0) rfl (by kernel_rfl) (by kernel_rfl) (by kernel_rfl))) rfl) rfl) rfl)))
    b_nil)
    (b_one (s_ret (e_or (e_cmp cmp_notin (e_ix ((DM.e_var (i := 1) rfl (by kernel_rfl) (by kernel_rfl) (by kernel_rfl))) e_int rfl) (e_tup (a_cons e_str (a_cons e_str a_nil rfl) rfl)) rfl) (e_one (e_cmp cmp_gt (e_ix (e_attr X.at_Table_lives ((DM.e_var (i := 0) rfl (by kernel_rfl) (by kernel_rfl) (by kernel_rfl))) rfl) (e_ix ((DM.e_var (i := 1) rfl (by kernel_rfl) (by kernel_rfl) (by kernel_rfl))) e_int rfl) rfl) e_int rfl))))))))
theorem k_Table_has_target : MethAt g 1 "Table" "has_target" 2 sem_Table_has_target := methAt_of X.cold X.d_Table_has_target s_Table_has_target rfl (fun f fd F => F.binds fun _ _ _ _ _ _ us hl => match us, hl with | [_, _], _ => rfl) (w_Table_has_target X)
omit X in
theorem s_Table_put : FnScope ["self", "owner", "card"] ["self", "owner", "card"] (defScope (inn (tp 34) 7)) := ⟨rfl, rfl, rfl, by decide +kernel, rfl, by decide +kernel, by decide +kernel⟩
theorem w_Table_put : BOk g ["self", "owner", "card"] (defScope (inn (tp 34) 7)) 0 (defBody (inn (tp 34) 7)) m_Table_put :=
  (b_cons (s_mut rfl mu_append (e_attr X.at_Table_stack ((DM.e_var (i := 0) rfl (by kernel_rfl) (by kernel_rfl) (by kernel_rfl))) rfl) (a_cons (e_dict (ps_cons (e_attr X.at_Table_count ((DM.e_var (i := 0) rfl (by kernel_rfl) (by kernel_rfl) (by kernel_rfl))) rfl) (ps_cons ((DM.e_var (i := 1) rfl (by kernel_rfl) (by kernel_rfl) (by kernel_rfl))) (ps_cons ((DM.e_var (i := 2) rfl (by kernel_rfl) (by kernel_rfl) (by kernel_rfl))) ps_nil))) rfl rfl (fun h => nomatch h) (by decide)) a_nil rfl) rfl rfl rfl (by decide))
    (b_cons (s_fld X.at_Table_count ((DM.e_var (i := 0) rfl (by kernel_rfl) (by kernel_rfl) (by kernel_rfl))) (e_op2 op_add_ok (e_attr X.at_Table_count ((DM.e_var (i := 0) rfl (by kernel_rfl) (by kernel_rfl) (by kernel_rfl))) rfl) e_int))
    (b_one (s_ret (e_op2 op_sub_ok (e_attr X.at_Table_count ((DM.e_var (i := 0) rfl (by kernel_rfl) (by kernel_rfl) (by kernel_rfl))) rfl) e_int)))))
theorem k_Table_put : MethAt g 1 "Table" "put" 3 sem_Table_put := methAt_of X.cold X.d_Table_put s_Table_put rfl (fun f fd F => F.binds fun _ _ _ _ _ _ us hl => match us, hl with | [_, _, _], _ => rfl) (w_Table_put X)
omit X in
theorem s_Table_play : FnScope ["self", "seat", "place"] ["self", "seat", "place"] (defScope (inn (tp 34) 9)) := ⟨rfl, rfl, rfl, by decide +kernel, rfl, by decide +kernel, by decide +kernel⟩
theorem w_Table_play : BOk g ["self", "seat", "place"] (defScope (inn (tp 34) 9)) 3 (defBody (inn (tp 34) 9)) m_Table_play :=
  (b_cons (s_expr (e_meth X.cold ((k_Table_need_asked X).mono (by decide)) ((DM.e_var (i := 0) rfl (by kernel_rfl) (by kernel_rfl) (by kernel_rfl))) (a_cons ((DM.e_var (i := 1) rfl (by kernel_rfl) (by kernel_rfl) (by kernel_rfl))) a_nil rfl) rfl rfl rfl (by decide) (fun h => nomatch h)) rfl)
    (b_cons (s_if (t_not (t_val (e_call X.cold ((k_is_whole X).mono (by decide)) (by kernel_rfl) (by kernel_rfl) (a_cons ((DM.e_var (i := 2) rfl (by kernel_rfl) (by kernel_rfl) (by kernel_rfl))) (a_cons e_int (a_cons (e_op2 op_sub_ok (e_b X.b_len (.inl ⟨_, rfl⟩) b_len (by kernel_rfl) (a_cons (e_ix (e_attr X.at_Table_hands ((DM.e_var (i := 0) rfl (by kernel_rfl) (by kernel_rfl) (by kernel_rfl))) rfl) ((DM.e_var (i := 1) rfl (by kernel_rfl) (by kernel_rfl) (by kernel_rfl))) rfl) a_nil rfl) rfl (fun h => nomatch h)) e_int) a_nil rfl) rfl) rfl) rfl (fun h => nomatch h)) rfl))
    (b_one (s_raise X.cold X.x_NoCard (by kernel_rfl) (by kernel_rfl)))
    b_nil)
    (b_cons (s_if (t_not (t_val (e_meth X.cold ((k_Table_has_target X).mono (by decide)) ((DM.e_var (i := 0) rfl (by kernel_rfl) (by kernel_rfl) (by kernel_rfl))) (a_cons (e_ix (e_ix (e_attr X.at_Table_hands ((DM.e_var (i := 0) rfl (by kernel_rfl) (by kernel_rfl) (by kernel_rfl))) rfl) ((DM.e_var (i := 1) rfl (by kernel_rfl) (by kernel_rfl) (by kernel_rfl))) rfl) ((DM.e_var (i := 2) rfl (by kernel_rfl) (by kernel_rfl) (by kernel_rfl))) rfl) a_nil rfl) rfl rfl rfl (by decide) (fun h => nomatch h)) rfl))
    (b_one (s_raise X.cold X.x_NoTarget (by kernel_rfl) (by kernel_rfl)))
    b_nil)
    (b_cons (s_if (t_cmp cmp_eq (e_b X.b_len (.inl ⟨_, rfl⟩) b_len (by kernel_rfl) (a_cons (e_attr X.at_Table_stack ((DM.e_var (i := 0) rfl (by kernel_rfl) (by kernel_rfl) (by kernel_rfl))) rfl) a_nil rfl) rfl (fun h => nomatch h)) (e_glob X.c_ITEMS (by kernel_rfl) (by kernel_rfl)) rfl)
    (b_one (s_raise X.cold X.x_Full (by kernel_rfl) (by kernel_rfl)))
    b_nil)
    (b_cons (s_fld X.at_Table_passes ((DM.e_var (i := 0) rfl (by kernel_rfl) (by kernel_rfl) (by kernel_rfl))) e_int)
    (b_one (s_ret (e_meth X.cold ((k_Table_put X).mono (by decide)) ((DM.e_var (i := 0) rfl (by kernel_rfl) (by kernel_rfl) (by kernel_rfl))) (a_cons ((DM.e_var (i := 1) rfl (by kernel_rfl) (by kernel_rfl) (by kernel_rfl))) (a_cons (e_mth rfl m_popAt m_popAt (e_ix (e_attr X.at_Table_hands ((DM.e_var (i := 0) rfl (by kernel_rfl) (by kernel_rfl) (by kernel_rfl))) rfl) ((DM.e_var (i := 1) rfl (by kernel_rfl) (by kernel_rfl) (by kernel_rfl))) rfl) (a_cons ((DM.e_var (i := 2) rfl (by kernel_rfl) (by kernel_rfl) (by kernel_rfl))) a_nil rfl) rfl rfl rfl (by decide)) a_nil rfl) rfl) rfl rfl rfl (by decide) (fun h => nomatch h)))))))))
theorem k_Table_play : MethAt g 4 "Table" "play" 3 sem_Table_play := methAt_of X.cold X.d_Table_play s_Table_play rfl (fun f fd F => F.binds fun _ _ _ _ _ _ us hl => match us, hl with | [_, _, _], _ => rfl) (w_Table_play X)
omit X in
theorem s__law_play : FnScope ["_law_table_here", "_law_seat", "_law_place", "_law_e"] ["_law_table_here", "_law_seat", "_law_place"] (defScope (tp 49)) := ⟨rfl, rfl, rfl, by decide +kernel, rfl, by decide +kernel, by decide +kernel⟩
theorem w__law_play : BOk g ["_law_table_here", "_law_seat", "_law_place", "_law_e"] (defScope (tp 49)) 4 (defBody (tp 49)) m__law_play :=
  (b_one (s_try_which X.cold (i := 3) X.t_PileError (k_which X) (by decide) (by kernel_rfl) (by kernel_rfl) (by kernel_rfl) (by kernel_rfl) rfl (by kernel_rfl) (by kernel_rfl) (by kernel_rfl)
    (b_one (s_ret (e_meth X.cold ((k_Table_play X).mono (by decide)) ((DM.e_var (i := 0) rfl (by kernel_rfl) (by kernel_rfl) (by kernel_rfl))) (a_cons ((DM.e_var (i := 1) rfl (by kernel_rfl) (by kernel_rfl) (by kernel_rfl))) (a_cons ((DM.e_var (i := 2) rfl (by kernel_rfl) (by kernel_rfl) (by kernel_rfl))) a_nil rfl) rfl) rfl rfl rfl (by decide) (fun h => nomatch h))))))
theorem k__law_play : FnAt g 5 "_law_play" 3 sem__law_play := fnAt_of X.cold X.d__law_play s__law_play rfl (fun f fd F => F.binds fun _ _ _ _ _ _ us hl => match us, hl with | [_, _, _], _ => rfl) (w__law_play X)
omit X in
theorem s_Table_seats_from : FnScope ["self", "seat", "many", "row", "k", "other"] ["self", "seat"] (defScope (inn (tp 34) 3)) := ⟨rfl, rfl, rfl, by decide +kernel, rfl, by decide +kernel, by decide +kernel⟩
theorem w_Table_seats_from : BOk g ["self", "seat", "many", "row", "k", "other"] (defScope (inn (tp 34) 3)) 0 (defBody (inn (tp 34) 3)) m_Table_seats_from :=
  (b_cons (s_set (i := 2) rfl (by kernel_rfl) (e_b X.b_len (.inl ⟨_, rfl⟩) b_len (by kernel_rfl) (a_cons (e_attr X.at_Table_lives ((DM.e_var (i := 0) rfl (by kernel_rfl) (by kernel_rfl) (by kernel_rfl))) rfl) a_nil rfl) rfl (fun h => nomatch h)) rfl)
    (b_cons (s_asg_frz (asg_lc X.cold (own := [("k", 4)]) (i := 3) ⟨(i_range1 X.b_range (by kernel_rfl) (a_cons ((DM.e_var (i := 2) rfl (by kernel_rfl) (by kernel_rfl) (by kernel_rfl))) a_nil rfl) rfl), (by kernel_rfl), (by kernel_rfl), ifs_nil, (e_op2 op_mod_ok (e_op2 op_add_ok ((DM.e_var (i := 1) rfl (by kernel_rfl) (by kernel_rfl) (by kernel_rfl))) ((DM.e_var (i := 4) rfl (by kernel_rfl) (by kernel_rfl) (by kernel_rfl)))) ((DM.e_var (i := 2) rfl (by kernel_rfl) (by kernel_rfl) (by kernel_rfl)))), (by kernel_rfl), (by kernel_rfl), rfl⟩ rfl (by kernel_rfl) (by kernel_rfl) (by kernel_rfl) (by kernel_rfl)))
    (b_one (s_retF (f_lc X.cold (own := [("other", 5)]) (i_any ((DM.e_var (i := 3) rfl (by kernel_rfl) (by kernel_rfl) (by kernel_rfl)))) (by kernel_rfl) (by kernel_rfl) (ifs_one (t_cmp cmp_gt (e_ix (e_attr X.at_Table_lives ((DM.e_var (i := 0) rfl (by kernel_rfl) (by kernel_rfl) (by kernel_rfl))) rfl) ((DM.e_var (i := 5) rfl (by kernel_rfl) (by kernel_rfl) (by kernel_rfl))) rfl) e_int rfl)) ((DM.e_var (i := 5) rfl (by kernel_rfl) (by kernel_rfl) (by kernel_rfl))) (by kernel_rfl) (by kernel_rfl) rfl)))))
theorem k_Table_seats_from : MethAt g 1 "Table" "seats_from" 2 sem_Table_seats_from := methAt_of X.cold X.d_Table_seats_from s_Table_seats_from rfl (fun f fd F => F.binds fun _ _ _ _ _ _ us hl => match us, hl with | [_, _], _ => rfl) (w_Table_seats_from X)
omit X in
theorem s_Table_behind : FnScope ["self", "seat"] ["self", "seat"] (defScope (inn (tp 34) 4)) := ⟨rfl, rfl, rfl, by decide +kernel, rfl, by decide +kernel, by decide +kernel⟩
theorem w_Table_behind : BOk g ["self", "seat"] (defScope (inn (tp 34) 4)) 1 (defBody (inn (tp 34) 4)) m_Table_behind :=
  (b_one (s_ret (e_ix (e_op2 op_add_ok (e_meth X.cold ((k_Table_seats_from X).mono (by decide)) ((DM.e_var (i := 0) rfl (by kernel_rfl) (by kernel_rfl) (by kernel_rfl))) (a_cons (e_op2 op_add_ok ((DM.e_var (i := 1) rfl (by kernel_rfl) (by kernel_rfl) (by kernel_rfl))) e_int) a_nil rfl) rfl rfl rfl (by decide) (fun h => nomatch h)) (e_lst (a_cons ((DM.e_var (i := 1) rfl (by kernel_rfl) (by kernel_rfl) (by kernel_rfl))) a_nil rfl))) e_int rfl)))
theorem k_Table_behind : MethAt g 2 "Table" "behind" 2 sem_Table_behind := methAt_of X.cold X.d_Table_behind s_Table_behind rfl (fun f fd F => F.binds fun _ _ _ _ _ _ us hl => match us, hl with | [_, _], _ => rfl) (w_Table_behind X)
omit X in
theorem s_Table_is_there : FnScope ["self", "card"] ["self", "card"] (defScope (inn (tp 34) 12)) := ⟨rfl, rfl, rfl, by decide +kernel, rfl, by decide +kernel, by decide +kernel⟩
theorem w_Table_is_there : BOk g ["self", "card"] (defScope (inn (tp 34) 12)) 1 (defBody (inn (tp 34) 12)) m_Table_is_there :=
  (b_cons (s_if (t_cmp cmp_eq (e_ix ((DM.e_var (i := 1) rfl (by kernel_rfl) (by kernel_rfl) (by kernel_rfl))) e_int rfl) e_str rfl)
    (b_one (s_ret (e_cmp cmp_lt (e_b X.b_len (.inl ⟨_, rfl⟩) b_len (by kernel_rfl) (a_cons (e_attr X.at_Floor_men (e_attr X.at_Table_floor ((DM.e_var (i := 0) rfl (by kernel_rfl) (by kernel_rfl) (by kernel_rfl))) rfl) rfl) a_nil rfl) rfl (fun h => nomatch h)) (e_glob X.c_UNITS (by kernel_rfl) (by kernel_rfl)) rfl)))
    b_nil)
    (b_one (s_ret (e_or (e_isi (T := "str") X.b_isinstance X.b_str (by kernel_rfl) (by kernel_rfl) (e_ix ((DM.e_var (i := 1) rfl (by kernel_rfl) (by kernel_rfl) (by kernel_rfl))) e_int rfl) rfl) (e_one (e_meth X.cold ((k_Table_has_target X).mono (by decide)) ((DM.e_var (i := 0) rfl (by kernel_rfl) (by kernel_rfl) (by kernel_rfl))) (a_cons ((DM.e_var (i := 1) rfl (by kernel_rfl) (by kernel_rfl) (by kernel_rfl))) a_nil rfl) rfl rfl rfl (by decide) (fun h => nomatch h)))))))
theorem k_Table_is_there : MethAt g 2 "Table" "is_there" 2 sem_Table_is_there := methAt_of X.cold X.d_Table_is_there s_Table_is_there rfl (fun f fd F => F.binds fun _ _ _ _ _ _ us hl => match us, hl with | [_, _], _ => rfl) (w_Table_is_there X)
omit X in
theorem s_touches : FnScope ["whose", "mine", "owner"] ["whose", "mine", "owner"] (defScope (tp 30)) := ⟨rfl, rfl, rfl, by decide +kernel, rfl, by decide +kernel, by decide +kernel⟩
theorem w_touches : BOk g ["whose", "mine", "owner"] (defScope (tp 30)) 0 (defBody (tp 30)) m_touches :=
  (b_cons (s_if (t_cmp cmp_eq ((DM.e_var (i := 0) rfl (by kernel_rfl) (by kernel_rfl) (by kernel_rfl))) e_str rfl)
    (b_one (s_ret e_bl))
    b_nil)
    (b_one (s_ret (e_cmp cmp_eq (e_cmp cmp_eq ((DM.e_var (i := 1) rfl (by kernel_rfl) (by kernel_rfl) (by kernel_rfl))) ((DM.e_var (i := 2) rfl (by kernel_rfl) (by kernel_rfl) (by kernel_rfl))) rfl) (e_cmp cmp_eq ((DM.e_var (i := 0) rfl (by kernel_rfl) (by kernel_rfl) (by kernel_rfl))) e_str rfl) rfl))))
theorem k_touches : FnAt g 1 "touches" 3 sem_touches := fnAt_of X.cold X.d_touches s_touches rfl (fun f fd F => F.binds fun _ _ _ _ _ _ us hl => match us, hl with | [_, _, _], _ => rfl) (w_touches X)
omit X in
theorem s_Table_targets : FnScope ["self", "owner", "whose", "seat"] ["self", "owner", "whose"] (defScope (inn (tp 34) 13)) := ⟨rfl, rfl, rfl, by decide +kernel, rfl, by decide +kernel, by decide +kernel⟩
theorem w_Table_targets : BOk g ["self", "owner", "whose", "seat"] (defScope (inn (tp 34) 13)) 1 (defBody (inn (tp 34) 13)) m_Table_targets :=
  (b_cons (s_if (t_not (t_val (e_isi (T := "str") X.b_isinstance X.b_str (by kernel_rfl) (by kernel_rfl) ((DM.e_var (i := 2) rfl (by kernel_rfl) (by kernel_rfl) (by kernel_rfl))) rfl) rfl))
    (b_one (s_retF (f_disp (a_cons ((DM.e_var (i := 2) rfl (by kernel_rfl) (by kernel_rfl) (by kernel_rfl))) a_nil rfl))))
    b_nil)
    (b_one (s_retF (f_lc X.cold (own := [("seat", 3)]) (i_any (e_meth X.cold ((k_Table_seats_from X).mono (by decide)) ((DM.e_var (i := 0) rfl (by kernel_rfl) (by kernel_rfl) (by kernel_rfl))) (a_cons ((DM.e_var (i := 1) rfl (by kernel_rfl) (by kernel_rfl) (by kernel_rfl))) a_nil rfl) rfl rfl rfl (by decide) (fun h => nomatch h))) (by kernel_rfl) (by kernel_rfl) (ifs_one (t_val (e_call X.cold ((k_touches X).mono (by decide)) (by kernel_rfl) (by kernel_rfl) (a_cons ((DM.e_var (i := 2) rfl (by kernel_rfl) (by kernel_rfl) (by kernel_rfl))) (a_cons ((DM.e_var (i := 1) rfl (by kernel_rfl) (by kernel_rfl) (by kernel_rfl))) (a_cons ((DM.e_var (i := 3) rfl (by kernel_rfl) (by kernel_rfl) (by kernel_rfl))) a_nil rfl) rfl) rfl) rfl (fun h => nomatch h)) rfl)) ((DM.e_var (i := 3) rfl (by kernel_rfl) (by kernel_rfl) (by kernel_rfl))) (by kernel_rfl) (by kernel_rfl) rfl))))
theorem k_Table_targets : MethAt g 2 "Table" "targets" 3 sem_Table_targets := methAt_of X.cold X.d_Table_targets s_Table_targets rfl (fun f fd F => F.binds fun _ _ _ _ _ _ us hl => match us, hl with | [_, _, _], _ => rfl) (w_Table_targets X)
omit X in
theorem s_Table_happens : FnScope ["self", "event", "number", "unit"] ["self", "event"] (defScope (inn (tp 34) 15)) := ⟨rfl, rfl, rfl, by decide +kernel, rfl, by decide +kernel, by decide +kernel⟩
theorem w_Table_happens : BOk g ["self", "event", "number", "unit"] (defScope (inn (tp 34) 15)) 0 (defBody (inn (tp 34) 15)) m_Table_happens :=
  (b_one (s_for X.cold (i_any (e_frz (f_b X.b_sorted (.inl ⟨_, rfl⟩) b_sortI (by kernel_rfl) (a_cons (e_frz (f_b X.b_list (.inr ⟨_, rfl⟩) (b_list X.cold) (by kernel_rfl) (a_cons (e_attr X.at_Floor_men (e_attr X.at_Table_floor ((DM.e_var (i := 0) rfl (by kernel_rfl) (by kernel_rfl) (by kernel_rfl))) rfl) rfl) a_nil rfl) rfl (fun h => nomatch h))) a_nil rfl) rfl (fun h => nomatch h)))) (by kernel_rfl) (by kernel_rfl)
    (b_cons (s_set (i := 3) rfl (by kernel_rfl) (e_ix (e_attr X.at_Floor_men (e_attr X.at_Table_floor ((DM.e_var (i := 0) rfl (by kernel_rfl) (by kernel_rfl) (by kernel_rfl))) rfl) rfl) ((DM.e_var (i := 2) rfl (by kernel_rfl) (by kernel_rfl) (by kernel_rfl))) rfl) rfl)
    (b_one (s_if (WOk.t (w_and (t_cmp cmp_isnot (e_ix ((DM.e_var (i := 3) rfl (by kernel_rfl) (by kernel_rfl) (by kernel_rfl))) e_str rfl) e_non rfl) (w_and1 (t_cmp cmp_eq (e_ix (e_ix ((DM.e_var (i := 3) rfl (by kernel_rfl) (by kernel_rfl) (by kernel_rfl))) e_str rfl) e_int rfl) ((DM.e_var (i := 1) rfl (by kernel_rfl) (by kernel_rfl) (by kernel_rfl))) rfl))))
    (b_one (s_mut rfl mu_append (e_attr X.at_Table_due ((DM.e_var (i := 0) rfl (by kernel_rfl) (by kernel_rfl) (by kernel_rfl))) rfl) (a_cons (e_tup (a_cons (e_ix ((DM.e_var (i := 3) rfl (by kernel_rfl) (by kernel_rfl) (by kernel_rfl))) e_str rfl) (a_cons (e_ix (e_ix ((DM.e_var (i := 3) rfl (by kernel_rfl) (by kernel_rfl) (by kernel_rfl))) e_str rfl) e_int rfl) a_nil rfl) rfl)) a_nil rfl) rfl rfl rfl (by decide)))
    b_nil))) rfl))
theorem k_Table_happens : MethAt g 1 "Table" "happens" 2 sem_Table_happens := methAt_of X.cold X.d_Table_happens s_Table_happens rfl (fun f fd F => F.binds fun _ _ _ _ _ _ us hl => match us, hl with | [_, _], _ => rfl) (w_Table_happens X)
omit X in
theorem s_Table_touch : FnScope ["self", "word", "seat", "many"] ["self", "word", "seat", "many"] (defScope (inn (tp 34) 14)) := ⟨rfl, rfl, rfl, by decide +kernel, rfl, by decide +kernel, by decide +kernel⟩
theorem w_Table_touch : BOk g ["self", "word", "seat", "many"] (defScope (inn (tp 34) 14)) 1 (defBody (inn (tp 34) 14)) m_Table_touch :=
  (b_cons (s_if (t_cmp cmp_eq ((DM.e_var (i := 1) rfl (by kernel_rfl) (by kernel_rfl) (by kernel_rfl))) e_str rfl)
    (b_cons (s_putix (e_attr X.at_Table_lives ((DM.e_var (i := 0) rfl (by kernel_rfl) (by kernel_rfl) (by kernel_rfl))) rfl) ((DM.e_var (i := 2) rfl (by kernel_rfl) (by kernel_rfl) (by kernel_rfl))) (e_b X.b_max (.inl ⟨_, rfl⟩) (b_max X.cold) (by kernel_rfl) (a_cons e_int (a_cons (e_op2 op_sub_ok (e_ix (e_attr X.at_Table_lives ((DM.e_var (i := 0) rfl (by kernel_rfl) (by kernel_rfl) (by kernel_rfl))) rfl) ((DM.e_var (i := 2) rfl (by kernel_rfl) (by kernel_rfl) (by kernel_rfl))) rfl) ((DM.e_var (i := 3) rfl (by kernel_rfl) (by kernel_rfl) (by kernel_rfl)))) a_nil rfl) rfl) rfl (fun h => nomatch h)) rfl)
    (b_cons (s_expr (e_meth X.cold ((k_Table_happens X).mono (by decide)) ((DM.e_var (i := 0) rfl (by kernel_rfl) (by kernel_rfl) (by kernel_rfl))) (a_cons e_str a_nil rfl) rfl rfl rfl (by decide) (fun h => nomatch h)) rfl)
    (b_one (s_retF (f_disp (a_cons (e_tup (a_cons e_str (a_cons ((DM.e_var (i := 2) rfl (by kernel_rfl) (by kernel_rfl) (by kernel_rfl))) (a_cons (e_ix (e_attr X.at_Table_lives ((DM.e_var (i := 0) rfl (by kernel_rfl) (by kernel_rfl) (by kernel_rfl))) rfl) ((DM.e_var (i := 2) rfl (by kernel_rfl) (by kernel_rfl) (by kernel_rfl))) rfl) a_nil rfl) rfl) rfl)) a_nil rfl))))))
    b_nil)
    (b_cons (s_putix (e_attr X.at_Table_lives ((DM.e_var (i := 0) rfl (by kernel_rfl) (by kernel_rfl) (by kernel_rfl))) rfl) ((DM.e_var (i := 2) rfl (by kernel_rfl) (by kernel_rfl) (by kernel_rfl))) (e_b X.b_min (.inl ⟨_, rfl⟩) (b_min X.cold) (by kernel_rfl) (a_cons (e_glob X.c_LIFE (by kernel_rfl) (by kernel_rfl)) (a_cons (e_op2 op_add_ok (e_ix (e_attr X.at_Table_lives ((DM.e_var (i := 0) rfl (by kernel_rfl) (by kernel_rfl) (by kernel_rfl))) rfl) ((DM.e_var (i := 2) rfl (by kernel_rfl) (by kernel_rfl) (by kernel_rfl))) rfl) ((DM.e_var (i := 3) rfl (by kernel_rfl) (by kernel_rfl) (by kernel_rfl)))) a_nil rfl) rfl) rfl (fun h => nomatch h)) rfl)
    (b_cons (s_expr (e_meth X.cold ((k_Table_happens X).mono (by decide)) ((DM.e_var (i := 0) rfl (by kernel_rfl) (by kernel_rfl) (by kernel_rfl))) (a_cons e_str a_nil rfl) rfl rfl rfl (by decide) (fun h => nomatch h)) rfl)
    (b_one (s_retF (f_disp (a_cons (e_tup (a_cons e_str (a_cons ((DM.e_var (i := 2) rfl (by kernel_rfl) (by kernel_rfl) (by kernel_rfl))) (a_cons (e_ix (e_attr X.at_Table_lives ((DM.e_var (i := 0) rfl (by kernel_rfl) (by kernel_rfl) (by kernel_rfl))) rfl) ((DM.e_var (i := 2) rfl (by kernel_rfl) (by kernel_rfl) (by kernel_rfl))) rfl) a_nil rfl) rfl) rfl)) a_nil rfl)))))))
theorem k_Table_touch : MethAt g 2 "Table" "touch" 4 sem_Table_touch := methAt_of X.cold X.d_Table_touch s_Table_touch rfl (fun f fd F => F.binds fun _ _ _ _ _ _ us hl => match us, hl with | [_, _, _, _], _ => rfl) (w_Table_touch X)
omit X in
theorem s_Floor_new_number : FnScope ["self"] ["self"] (defScope (inn (tp 29) 1)) := ⟨rfl, rfl, rfl, by decide +kernel, rfl, by decide +kernel, by decide +kernel⟩
theorem w_Floor_new_number : BOk g ["self"] (defScope (inn (tp 29) 1)) 0 (defBody (inn (tp 29) 1)) m_Floor_new_number :=
  (b_cons (s_fld X.at_Floor_coming ((DM.e_var (i := 0) rfl (by kernel_rfl) (by kernel_rfl) (by kernel_rfl))) (e_op2 op_add_ok (e_attr X.at_Floor_coming ((DM.e_var (i := 0) rfl (by kernel_rfl) (by kernel_rfl) (by kernel_rfl))) rfl) e_int))
    (b_one (s_ret (e_op2 op_sub_ok (e_attr X.at_Floor_coming ((DM.e_var (i := 0) rfl (by kernel_rfl) (by kernel_rfl) (by kernel_rfl))) rfl) e_int))))
theorem k_Floor_new_number : MethAt g 1 "Floor" "new_number" 1 sem_Floor_new_number := methAt_of X.cold X.d_Floor_new_number s_Floor_new_number rfl (fun f fd F => F.binds fun _ _ _ _ _ _ us hl => match us, hl with | [_], _ => rfl) (w_Floor_new_number X)
omit X in
theorem s_Floor_bring : FnScope ["self", "owner", "size", "when", "number"] ["self", "owner", "size", "when"] (defScope (inn (tp 29) 2)) := ⟨rfl, rfl, rfl, by decide +kernel, rfl, by decide +kernel, by decide +kernel⟩
theorem w_Floor_bring : BOk g ["self", "owner", "size", "when", "number"] (defScope (inn (tp 29) 2)) 1 (defBody (inn (tp 29) 2)) m_Floor_bring :=
  (b_cons (s_set (i := 4) rfl (by kernel_rfl) (e_meth X.cold ((k_Floor_new_number X).mono (by decide)) ((DM.e_var (i := 0) rfl (by kernel_rfl) (by kernel_rfl) (by kernel_rfl))) a_nil rfl rfl rfl (by decide) (fun _ => rfl)) rfl)
    (b_cons (s_putix (e_attr X.at_Floor_men ((DM.e_var (i := 0) rfl (by kernel_rfl) (by kernel_rfl) (by kernel_rfl))) rfl) ((DM.e_var (i := 4) rfl (by kernel_rfl) (by kernel_rfl) (by kernel_rfl))) (e_dict (ps_cons ((DM.e_var (i := 1) rfl (by kernel_rfl) (by kernel_rfl) (by kernel_rfl))) (ps_cons ((DM.e_var (i := 2) rfl (by kernel_rfl) (by kernel_rfl) (by kernel_rfl))) (ps_cons ((DM.e_var (i := 3) rfl (by kernel_rfl) (by kernel_rfl) (by kernel_rfl))) (ps_cons e_int ps_nil)))) rfl rfl (fun h => nomatch h) (by decide)) rfl)
    (b_one (s_ret ((DM.e_var (i := 4) rfl (by kernel_rfl) (by kernel_rfl) (by kernel_rfl)))))))
theorem k_Floor_bring : MethAt g 2 "Floor" "bring" 4 sem_Floor_bring := methAt_of X.cold X.d_Floor_bring s_Floor_bring rfl (fun f fd F => F.binds fun _ _ _ _ _ _ us hl => match us, hl with | [_, _, _, _], _ => rfl) (w_Floor_bring X)
omit X in
theorem s_Floor_stand : FnScope ["self", "owner", "card", "number"] ["self", "owner", "card"] (defScope (inn (tp 29) 3)) := ⟨rfl, rfl, rfl, by decide +kernel, rfl, by decide +kernel, by decide +kernel⟩
theorem w_Floor_stand : BOk g ["self", "owner", "card", "number"] (defScope (inn (tp 29) 3)) 1 (defBody (inn (tp 29) 3)) m_Floor_stand :=
  (b_cons (s_set (i := 3) rfl (by kernel_rfl) (e_meth X.cold ((k_Floor_new_number X).mono (by decide)) ((DM.e_var (i := 0) rfl (by kernel_rfl) (by kernel_rfl) (by kernel_rfl))) a_nil rfl rfl rfl (by decide) (fun _ => rfl)) rfl)
    (b_cons (s_putix (e_attr X.at_Floor_stays ((DM.e_var (i := 0) rfl (by kernel_rfl) (by kernel_rfl) (by kernel_rfl))) rfl) ((DM.e_var (i := 3) rfl (by kernel_rfl) (by kernel_rfl) (by kernel_rfl))) (e_tup (a_cons ((DM.e_var (i := 1) rfl (by kernel_rfl) (by kernel_rfl) (by kernel_rfl))) (a_cons ((DM.e_var (i := 2) rfl (by kernel_rfl) (by kernel_rfl) (by kernel_rfl))) a_nil rfl) rfl)) rfl)
    (b_one (s_ret ((DM.e_var (i := 3) rfl (by kernel_rfl) (by kernel_rfl) (by kernel_rfl)))))))
theorem k_Floor_stand : MethAt g 2 "Floor" "stand" 3 sem_Floor_stand := methAt_of X.cold X.d_Floor_stand s_Floor_stand rfl (fun f fd F => F.binds fun _ _ _ _ _ _ us hl => match us, hl with | [_, _, _], _ => rfl) (w_Floor_stand X)
omit X in
theorem s_Table_resolve : FnScope ["self", "item", "card", "told", "seat", "number", "other"] ["self", "item"] (defScope (inn (tp 34) 11)) := ⟨rfl, rfl, rfl, by decide +kernel, rfl, by decide +kernel, by decide +kernel⟩
theorem w_Table_resolve : BOk g ["self", "item", "card", "told", "seat", "number", "other"] (defScope (inn (tp 34) 11)) 2 (defBody (inn (tp 34) 11)) m_Table_resolve :=
  (b_cons (s_set (i := 2) rfl (by kernel_rfl) (e_ix ((DM.e_var (i := 1) rfl (by kernel_rfl) (by kernel_rfl) (by kernel_rfl))) e_str rfl) rfl)
    (b_cons (s_if (t_not (t_val (e_meth X.cold ((k_Table_is_there X).mono (by decide)) ((DM.e_var (i := 0) rfl (by kernel_rfl) (by kernel_rfl) (by kernel_rfl))) (a_cons ((DM.e_var (i := 2) rfl (by kernel_rfl) (by kernel_rfl) (by kernel_rfl))) a_nil rfl) rfl rfl rfl (by decide) (fun h => nomatch h)) rfl))
    (b_one (s_retF (f_disp (a_cons (e_tup (a_cons e_str (a_cons (e_ix ((DM.e_var (i := 1) rfl (by kernel_rfl) (by kernel_rfl) (by kernel_rfl))) e_str rfl) a_nil rfl) rfl)) a_nil rfl))))
    b_nil)
    (b_cons (s_asg_own (asg_f (i := 3) rfl (by kernel_rfl) (f_disp (a_cons (e_tup (a_cons e_str (a_cons (e_ix ((DM.e_var (i := 1) rfl (by kernel_rfl) (by kernel_rfl) (by kernel_rfl))) e_str rfl) a_nil rfl) rfl)) a_nil rfl)) rfl))
    (b_cons (s_if (t_cmp cmp_in (e_ix ((DM.e_var (i := 2) rfl (by kernel_rfl) (by kernel_rfl) (by kernel_rfl))) e_int rfl) (e_tup (a_cons e_str (a_cons e_str a_nil rfl) rfl)) rfl)
    (b_one (s_for X.cold (i_any (e_meth X.cold ((k_Table_targets X).mono (by decide)) ((DM.e_var (i := 0) rfl (by kernel_rfl) (by kernel_rfl) (by kernel_rfl))) (a_cons (e_ix ((DM.e_var (i := 1) rfl (by kernel_rfl) (by kernel_rfl) (by kernel_rfl))) e_str rfl) (a_cons (e_ix ((DM.e_var (i := 2) rfl (by kernel_rfl) (by kernel_rfl) (by kernel_rfl))) e_int rfl) a_nil rfl) rfl) rfl rfl rfl (by decide) (fun h => nomatch h))) (by kernel_rfl) (by kernel_rfl)
    (b_one (s_mut rfl mu_extend ((DM.e_var (i := 3) rfl (by kernel_rfl) (by kernel_rfl) (by kernel_rfl))) (a_cons (e_meth X.cold ((k_Table_touch X).mono (by decide)) ((DM.e_var (i := 0) rfl (by kernel_rfl) (by kernel_rfl) (by kernel_rfl))) (a_cons (e_ix ((DM.e_var (i := 2) rfl (by kernel_rfl) (by kernel_rfl) (by kernel_rfl))) e_int rfl) (a_cons ((DM.e_var (i := 4) rfl (by kernel_rfl) (by kernel_rfl) (by kernel_rfl))) (a_cons (e_ix ((DM.e_var (i := 2) rfl (by kernel_rfl) (by kernel_rfl) (by kernel_rfl))) e_int rfl) a_nil rfl) rfl) rfl) rfl rfl rfl (by decide) (fun h => nomatch h)) a_nil rfl) rfl rfl rfl (by decide))) rfl))
    (b_one (s_if (t_cmp cmp_eq (e_ix ((DM.e_var (i := 2) rfl (by kernel_rfl) (by kernel_rfl) (by kernel_rfl))) e_int rfl) e_str rfl)
    (b_one (s_putix (e_ix (e_attr X.at_Floor_men (e_attr X.at_Table_floor ((DM.e_var (i := 0) rfl (by kernel_rfl) (by kernel_rfl) (by kernel_rfl))) rfl) rfl) (e_ix ((DM.e_var (i := 2) rfl (by kernel_rfl) (by kernel_rfl) (by kernel_rfl))) e_int rfl) rfl) e_str (e_op2 op_add_ok (e_ix (e_ix (e_attr X.at_Floor_men (e_attr X.at_Table_floor ((DM.e_var (i := 0) rfl (by kernel_rfl) (by kernel_rfl) (by kernel_rfl))) rfl) rfl) (e_ix ((DM.e_var (i := 2) rfl (by kernel_rfl) (by kernel_rfl) (by kernel_rfl))) e_int rfl) rfl) e_str rfl) (e_ix ((DM.e_var (i := 2) rfl (by kernel_rfl) (by kernel_rfl) (by kernel_rfl))) e_int rfl)) rfl))
    (b_one (s_if (t_cmp cmp_eq (e_ix ((DM.e_var (i := 2) rfl (by kernel_rfl) (by kernel_rfl) (by kernel_rfl))) e_int rfl) e_str rfl)
    (b_cons (s_set (i := 5) rfl (by kernel_rfl) (e_meth X.cold ((k_Floor_bring X).mono (by decide)) (e_attr X.at_Table_floor ((DM.e_var (i := 0) rfl (by kernel_rfl) (by kernel_rfl) (by kernel_rfl))) rfl) (a_cons (e_ix ((DM.e_var (i := 1) rfl (by kernel_rfl) (by kernel_rfl) (by kernel_rfl))) e_str rfl) (a_cons (e_ix ((DM.e_var (i := 2) rfl (by kernel_rfl) (by kernel_rfl) (by kernel_rfl))) e_int rfl) (a_cons (e_ix ((DM.e_var (i := 2) rfl (by kernel_rfl) (by kernel_rfl) (by kernel_rfl))) e_int rfl) a_nil rfl) rfl) rfl) rfl rfl rfl (by decide) (fun h => nomatch h)) rfl)
    (b_cons (s_mut rfl mu_append ((DM.e_var (i := 3) rfl (by kernel_rfl) (by kernel_rfl) (by kernel_rfl))) (a_cons (e_tup (a_cons e_str (a_cons ((DM.e_var (i := 5) rfl (by kernel_rfl) (by kernel_rfl) (by kernel_rfl))) a_nil rfl) rfl)) a_nil rfl) rfl rfl rfl (by decide))
    (b_one (s_expr (e_meth X.cold ((k_Table_happens X).mono (by decide)) ((DM.e_var (i := 0) rfl (by kernel_rfl) (by kernel_rfl) (by kernel_rfl))) (a_cons e_str a_nil rfl) rfl rfl rfl (by decide) (fun h => nomatch h)) rfl))))
    (b_one (s_if (t_cmp cmp_eq (e_ix ((DM.e_var (i := 2) rfl (by kernel_rfl) (by kernel_rfl) (by kernel_rfl))) e_int rfl) e_str rfl)
    (b_one (s_mut rfl mu_append ((DM.e_var (i := 3) rfl (by kernel_rfl) (by kernel_rfl) (by kernel_rfl))) (a_cons (e_tup (a_cons e_str (a_cons (e_meth X.cold ((k_Floor_stand X).mono (by decide)) (e_attr X.at_Table_floor ((DM.e_var (i := 0) rfl (by kernel_rfl) (by kernel_rfl) (by kernel_rfl))) rfl) (a_cons (e_ix ((DM.e_var (i := 1) rfl (by kernel_rfl) (by kernel_rfl) (by kernel_rfl))) e_str rfl) (a_cons ((DM.e_var (i := 2) rfl (by kernel_rfl) (by kernel_rfl) (by kernel_rfl))) a_nil rfl) rfl) rfl rfl rfl (by decide) (fun h => nomatch h)) a_nil rfl) rfl)) a_nil rfl) rfl rfl rfl (by decide)))
    (b_one (s_if (t_cmp cmp_eq (e_ix ((DM.e_var (i := 2) rfl (by kernel_rfl) (by kernel_rfl) (by kernel_rfl))) e_int rfl) e_str rfl)
    (b_one (s_fld X.at_Table_stack ((DM.e_var (i := 0) rfl (by kernel_rfl) (by kernel_rfl) (by kernel_rfl))) (e_cell (f_lc X.cold (own := [("other", 6)]) (i_any (e_attr X.at_Table_stack ((DM.e_var (i := 0) rfl (by kernel_rfl) (by kernel_rfl) (by kernel_rfl))) rfl)) (by kernel_rfl) (by kernel_rfl) (ifs_one (t_cmp cmp_ne (e_ix ((DM.e_var (i := 6) rfl (by kernel_rfl) (by kernel_rfl) (by kernel_rfl))) e_str rfl) (e_ix ((DM.e_var (i := 2) rfl (by kernel_rfl) (by kernel_rfl) (by kernel_rfl))) e_int rfl) rfl)) ((DM.e_var (i := 6) rfl (by kernel_rfl) (by kernel_rfl) (by kernel_rfl))) (by kernel_rfl) (by kernel_rfl) rfl))))
    (b_one (s_expr (e_mth rfl m_dpop m_dpop (e_attr X.at_Floor_stays (e_attr X.at_Table_floor ((DM.e_var (i := 0) rfl (by kernel_rfl) (by kernel_rfl) (by kernel_rfl))) rfl) rfl) (a_cons (e_ix ((DM.e_var (i := 2) rfl (by kernel_rfl) (by kernel_rfl) (by kernel_rfl))) e_int rfl) a_nil rfl) rfl rfl rfl (by decide)) rfl)))))))))))
    (b_one (s_ret ((DM.e_var (i := 3) rfl (by kernel_rfl) (by kernel_rfl) (by kernel_rfl)))))))))
theorem k_Table_resolve : MethAt g 3 "Table" "resolve" 2 sem_Table_resolve := methAt_of X.cold X.d_Table_resolve s_Table_resolve rfl (fun f fd F => F.binds fun _ _ _ _ _ _ us hl => match us, hl with | [_, _], _ => rfl) (w_Table_resolve X)
omit X in
theorem s_Floor_layer : FnScope ["self", "word", "owner", "made", "number", "mine", "card"] ["self", "word", "owner"] (defScope (inn (tp 29) 4)) := ⟨rfl, rfl, rfl, by decide +kernel, rfl, by decide +kernel, by decide +kernel⟩
theorem w_Floor_layer : BOk g ["self", "word", "owner", "made", "number", "mine", "card"] (defScope (inn (tp 29) 4)) 1 (defBody (inn (tp 29) 4)) m_Floor_layer :=
  (b_cons (s_asg_own (asg_f (i := 3) rfl (by kernel_rfl) (f_disp a_nil) rfl))
    (b_cons (s_for X.cold (i_any (e_frz (f_b X.b_sorted (.inl ⟨_, rfl⟩) b_sortI (by kernel_rfl) (a_cons (e_frz (f_b X.b_list (.inr ⟨_, rfl⟩) (b_list X.cold) (by kernel_rfl) (a_cons (e_attr X.at_Floor_stays ((DM.e_var (i := 0) rfl (by kernel_rfl) (by kernel_rfl) (by kernel_rfl))) rfl) a_nil rfl) rfl (fun h => nomatch h))) a_nil rfl) rfl (fun h => nomatch h)))) (by kernel_rfl) (by kernel_rfl)
    (b_cons (s_unp X.cold (e_ix (e_attr X.at_Floor_stays ((DM.e_var (i := 0) rfl (by kernel_rfl) (by kernel_rfl) (by kernel_rfl))) rfl) ((DM.e_var (i := 4) rfl (by kernel_rfl) (by kernel_rfl) (by kernel_rfl))) rfl) (by kernel_rfl) (by kernel_rfl) rfl)
    (b_one (s_if (WOk.t (w_and (t_cmp cmp_eq (e_ix ((DM.e_var (i := 6) rfl (by kernel_rfl) (by kernel_rfl) (by kernel_rfl))) e_int rfl) ((DM.e_var (i := 1) rfl (by kernel_rfl) (by kernel_rfl) (by kernel_rfl))) rfl) (w_and1 (t_val (e_call X.cold ((k_touches X).mono (by decide)) (by kernel_rfl) (by kernel_rfl) (a_cons (e_ix ((DM.e_var (i := 6) rfl (by kernel_rfl) (by kernel_rfl) (by kernel_rfl))) e_int rfl) (a_cons ((DM.e_var (i := 5) rfl (by kernel_rfl) (by kernel_rfl) (by kernel_rfl))) (a_cons ((DM.e_var (i := 2) rfl (by kernel_rfl) (by kernel_rfl) (by kernel_rfl))) a_nil rfl) rfl) rfl) rfl (fun h => nomatch h)) rfl))))
    (b_one (s_mut rfl mu_append ((DM.e_var (i := 3) rfl (by kernel_rfl) (by kernel_rfl) (by kernel_rfl))) (a_cons (e_ix ((DM.e_var (i := 6) rfl (by kernel_rfl) (by kernel_rfl) (by kernel_rfl))) e_int rfl) a_nil rfl) rfl rfl rfl (by decide)))
    b_nil))) rfl)
    (b_one (s_ret ((DM.e_var (i := 3) rfl (by kernel_rfl) (by kernel_rfl) (by kernel_rfl)))))))
theorem k_Floor_layer : MethAt g 2 "Floor" "layer" 3 sem_Floor_layer := methAt_of X.cold X.d_Floor_layer s_Floor_layer rfl (fun f fd F => F.binds fun _ _ _ _ _ _ us hl => match us, hl with | [_, _, _], _ => rfl) (w_Floor_layer X)
omit X in
theorem s_Floor_power : FnScope ["self", "number", "unit", "power"] ["self", "number"] (defScope (inn (tp 29) 5)) := ⟨rfl, rfl, rfl, by decide +kernel, rfl, by decide +kernel, by decide +kernel⟩
theorem w_Floor_power : BOk g ["self", "number", "unit", "power"] (defScope (inn (tp 29) 5)) 2 (defBody (inn (tp 29) 5)) m_Floor_power :=
  (b_cons (s_set (i := 2) rfl (by kernel_rfl) (e_ix (e_attr X.at_Floor_men ((DM.e_var (i := 0) rfl (by kernel_rfl) (by kernel_rfl) (by kernel_rfl))) rfl) ((DM.e_var (i := 1) rfl (by kernel_rfl) (by kernel_rfl) (by kernel_rfl))) rfl) rfl)
    (b_cons (s_set (i := 3) rfl (by kernel_rfl) (e_ix (e_op2 op_add_ok (e_lst (a_cons (e_ix ((DM.e_var (i := 2) rfl (by kernel_rfl) (by kernel_rfl) (by kernel_rfl))) e_str rfl) a_nil rfl)) (e_meth X.cold ((k_Floor_layer X).mono (by decide)) ((DM.e_var (i := 0) rfl (by kernel_rfl) (by kernel_rfl) (by kernel_rfl))) (a_cons e_str (a_cons (e_ix ((DM.e_var (i := 2) rfl (by kernel_rfl) (by kernel_rfl) (by kernel_rfl))) e_str rfl) a_nil rfl) rfl) rfl rfl rfl (by decide) (fun h => nomatch h))) (e_neg e_int) rfl) rfl)
    (b_cons (s_set (i := 3) rfl (by kernel_rfl) (e_op2 op_add_ok ((DM.e_var (i := 3) rfl (by kernel_rfl) (by kernel_rfl) (by kernel_rfl))) (e_b X.b_sum (.inl ⟨_, rfl⟩) (b_sum X.cold) (by kernel_rfl) (a_cons (e_meth X.cold ((k_Floor_layer X).mono (by decide)) ((DM.e_var (i := 0) rfl (by kernel_rfl) (by kernel_rfl) (by kernel_rfl))) (a_cons e_str (a_cons (e_ix ((DM.e_var (i := 2) rfl (by kernel_rfl) (by kernel_rfl) (by kernel_rfl))) e_str rfl) a_nil rfl) rfl) rfl rfl rfl (by decide) (fun h => nomatch h)) a_nil rfl) rfl (fun h => nomatch h))) rfl)
    (b_one (s_ret (e_b X.b_min (.inl ⟨_, rfl⟩) (b_min X.cold) (by kernel_rfl) (a_cons (e_op2 op_add_ok (e_lst (a_cons ((DM.e_var (i := 3) rfl (by kernel_rfl) (by kernel_rfl) (by kernel_rfl))) a_nil rfl)) (e_meth X.cold ((k_Floor_layer X).mono (by decide)) ((DM.e_var (i := 0) rfl (by kernel_rfl) (by kernel_rfl) (by kernel_rfl))) (a_cons e_str (a_cons (e_ix ((DM.e_var (i := 2) rfl (by kernel_rfl) (by kernel_rfl) (by kernel_rfl))) e_str rfl) a_nil rfl) rfl) rfl rfl rfl (by decide) (fun h => nomatch h))) a_nil rfl) rfl (fun h => nomatch h)))))))
theorem k_Floor_power : MethAt g 3 "Floor" "power" 2 sem_Floor_power := methAt_of X.cold X.d_Floor_power s_Floor_power rfl (fun f fd F => F.binds fun _ _ _ _ _ _ us hl => match us, hl with | [_, _], _ => rfl) (w_Floor_power X)
omit X in
theorem s_Floor_failing : FnScope ["self", "number"] ["self"] (defScope (inn (tp 29) 6)) := ⟨rfl, rfl, rfl, by decide +kernel, rfl, by decide +kernel, by decide +kernel⟩
theorem w_Floor_failing : BOk g ["self", "number"] (defScope (inn (tp 29) 6)) 3 (defBody (inn (tp 29) 6)) m_Floor_failing :=
  (b_one (s_retF (f_lc X.cold (own := [("number", 1)]) (i_any (e_frz (f_b X.b_sorted (.inl ⟨_, rfl⟩) b_sortI (by kernel_rfl) (a_cons (e_frz (f_b X.b_list (.inr ⟨_, rfl⟩) (b_list X.cold) (by kernel_rfl) (a_cons (e_attr X.at_Floor_men ((DM.e_var (i := 0) rfl (by kernel_rfl) (by kernel_rfl) (by kernel_rfl))) rfl) a_nil rfl) rfl (fun h => nomatch h))) a_nil rfl) rfl (fun h => nomatch h)))) (by kernel_rfl) (by kernel_rfl) (ifs_one (t_cmp cmp_ge (e_ix (e_ix (e_attr X.at_Floor_men ((DM.e_var (i := 0) rfl (by kernel_rfl) (by kernel_rfl) (by kernel_rfl))) rfl) ((DM.e_var (i := 1) rfl (by kernel_rfl) (by kernel_rfl) (by kernel_rfl))) rfl) e_str rfl) (e_meth X.cold ((k_Floor_power X).mono (by decide)) ((DM.e_var (i := 0) rfl (by kernel_rfl) (by kernel_rfl) (by kernel_rfl))) (a_cons ((DM.e_var (i := 1) rfl (by kernel_rfl) (by kernel_rfl) (by kernel_rfl))) a_nil rfl) rfl rfl rfl (by decide) (fun h => nomatch h)) rfl)) ((DM.e_var (i := 1) rfl (by kernel_rfl) (by kernel_rfl) (by kernel_rfl))) (by kernel_rfl) (by kernel_rfl) rfl)))
theorem k_Floor_failing : MethAt g 4 "Floor" "failing" 1 sem_Floor_failing := methAt_of X.cold X.d_Floor_failing s_Floor_failing rfl (fun f fd F => F.binds fun _ _ _ _ _ _ us hl => match us, hl with | [_], _ => rfl) (w_Floor_failing X)
omit X in
theorem s_Floor_of : FnScope ["self", "owner", "number"] ["self", "owner"] (defScope (inn (tp 29) 7)) := ⟨rfl, rfl, rfl, by decide +kernel, rfl, by decide +kernel, by decide +kernel⟩
theorem w_Floor_of : BOk g ["self", "owner", "number"] (defScope (inn (tp 29) 7)) 0 (defBody (inn (tp 29) 7)) m_Floor_of :=
  (b_one (s_retF (f_lc X.cold (own := [("number", 2)]) (i_any (e_frz (f_b X.b_sorted (.inl ⟨_, rfl⟩) b_sortI (by kernel_rfl) (a_cons (e_frz (f_b X.b_list (.inr ⟨_, rfl⟩) (b_list X.cold) (by kernel_rfl) (a_cons (e_attr X.at_Floor_men ((DM.e_var (i := 0) rfl (by kernel_rfl) (by kernel_rfl) (by kernel_rfl))) rfl) a_nil rfl) rfl (fun h => nomatch h))) a_nil rfl) rfl (fun h => nomatch h)))) (by kernel_rfl) (by kernel_rfl) (ifs_one (t_cmp cmp_eq (e_ix (e_ix (e_attr X.at_Floor_men ((DM.e_var (i := 0) rfl (by kernel_rfl) (by kernel_rfl) (by kernel_rfl))) rfl) ((DM.e_var (i := 2) rfl (by kernel_rfl) (by kernel_rfl) (by kernel_rfl))) rfl) e_str rfl) ((DM.e_var (i := 1) rfl (by kernel_rfl) (by kernel_rfl) (by kernel_rfl))) rfl)) ((DM.e_var (i := 2) rfl (by kernel_rfl) (by kernel_rfl) (by kernel_rfl))) (by kernel_rfl) (by kernel_rfl) rfl)))
theorem k_Floor_of : MethAt g 1 "Floor" "of" 2 sem_Floor_of := methAt_of X.cold X.d_Floor_of s_Floor_of rfl (fun f fd F => F.binds fun _ _ _ _ _ _ us hl => match us, hl with | [_, _], _ => rfl) (w_Floor_of X)
omit X in
theorem s_Table_failing : FnScope ["self", "some", "seat", "number"] ["self"] (defScope (inn (tp 34) 17)) := ⟨rfl, rfl, rfl, by decide +kernel, rfl, by decide +kernel, by decide +kernel⟩
theorem w_Table_failing : BOk g ["self", "some", "seat", "number"] (defScope (inn (tp 34) 17)) 4 (defBody (inn (tp 34) 17)) m_Table_failing :=
  (b_cons (s_asg_own (asg_f (i := 1) rfl (by kernel_rfl) (f_meth X.cold ((k_Floor_failing X).mono (by decide)) (e_attr X.at_Table_floor ((DM.e_var (i := 0) rfl (by kernel_rfl) (by kernel_rfl) (by kernel_rfl))) rfl) a_nil rfl rfl rfl (by decide) (fun _ => rfl)) rfl))
    (b_cons (s_for X.cold (i_range1 X.b_range (by kernel_rfl) (a_cons (e_b X.b_len (.inl ⟨_, rfl⟩) b_len (by kernel_rfl) (a_cons (e_attr X.at_Table_lives ((DM.e_var (i := 0) rfl (by kernel_rfl) (by kernel_rfl) (by kernel_rfl))) rfl) a_nil rfl) rfl (fun h => nomatch h)) a_nil rfl) rfl) (by kernel_rfl) (by kernel_rfl)
    (b_one (s_if (t_cmp cmp_eq (e_ix (e_attr X.at_Table_lives ((DM.e_var (i := 0) rfl (by kernel_rfl) (by kernel_rfl) (by kernel_rfl))) rfl) ((DM.e_var (i := 2) rfl (by kernel_rfl) (by kernel_rfl) (by kernel_rfl))) rfl) e_int rfl)
    (b_one (s_mut rfl mu_extend ((DM.e_var (i := 1) rfl (by kernel_rfl) (by kernel_rfl) (by kernel_rfl))) (a_cons (e_frz (f_lc X.cold (own := [("number", 3)]) (i_any (e_meth X.cold ((k_Floor_of X).mono (by decide)) (e_attr X.at_Table_floor ((DM.e_var (i := 0) rfl (by kernel_rfl) (by kernel_rfl) (by kernel_rfl))) rfl) (a_cons ((DM.e_var (i := 2) rfl (by kernel_rfl) (by kernel_rfl) (by kernel_rfl))) a_nil rfl) rfl rfl rfl (by decide) (fun h => nomatch h))) (by kernel_rfl) (by kernel_rfl) (ifs_one (t_cmp cmp_notin ((DM.e_var (i := 3) rfl (by kernel_rfl) (by kernel_rfl) (by kernel_rfl))) ((DM.e_var (i := 1) rfl (by kernel_rfl) (by kernel_rfl) (by kernel_rfl))) rfl)) ((DM.e_var (i := 3) rfl (by kernel_rfl) (by kernel_rfl) (by kernel_rfl))) (by kernel_rfl) (by kernel_rfl) rfl)) a_nil rfl) rfl rfl rfl (by decide)))
    b_nil)) rfl)
    (b_one (s_retF (f_b X.b_sorted (.inl ⟨_, rfl⟩) b_sortI (by kernel_rfl) (a_cons ((DM.e_var (i := 1) rfl (by kernel_rfl) (by kernel_rfl) (by kernel_rfl))) a_nil rfl) rfl (fun h => nomatch h))))))
theorem k_Table_failing : MethAt g 5 "Table" "failing" 1 sem_Table_failing := methAt_of X.cold X.d_Table_failing s_Table_failing rfl (fun f fd F => F.binds fun _ _ _ _ _ _ us hl => match us, hl with | [_], _ => rfl) (w_Table_failing X)
omit X in
theorem s_Table_clear_out : FnScope ["self", "number", "item"] ["self"] (defScope (inn (tp 34) 18)) := ⟨rfl, rfl, rfl, by decide +kernel, rfl, by decide +kernel, by decide +kernel⟩
theorem w_Table_clear_out : BOk g ["self", "number", "item"] (defScope (inn (tp 34) 18)) 0 (defBody (inn (tp 34) 18)) m_Table_clear_out :=
  (b_cons (s_fld X.at_Table_stack ((DM.e_var (i := 0) rfl (by kernel_rfl) (by kernel_rfl) (by kernel_rfl))) (e_cell (f_lc X.cold (own := [("item", 2)]) (i_any (e_attr X.at_Table_stack ((DM.e_var (i := 0) rfl (by kernel_rfl) (by kernel_rfl) (by kernel_rfl))) rfl)) (by kernel_rfl) (by kernel_rfl) (ifs_one (t_cmp cmp_gt (e_ix (e_attr X.at_Table_lives ((DM.e_var (i := 0) rfl (by kernel_rfl) (by kernel_rfl) (by kernel_rfl))) rfl) (e_ix ((DM.e_var (i := 2) rfl (by kernel_rfl) (by kernel_rfl) (by kernel_rfl))) e_str rfl) rfl) e_int rfl)) ((DM.e_var (i := 2) rfl (by kernel_rfl) (by kernel_rfl) (by kernel_rfl))) (by kernel_rfl) (by kernel_rfl) rfl)))
    (b_one (s_for X.cold (i_any (e_frz (f_b X.b_sorted (.inl ⟨_, rfl⟩) b_sortI (by kernel_rfl) (a_cons (e_frz (f_b X.b_list (.inr ⟨_, rfl⟩) (b_list X.cold) (by kernel_rfl) (a_cons (e_attr X.at_Floor_stays (e_attr X.at_Table_floor ((DM.e_var (i := 0) rfl (by kernel_rfl) (by kernel_rfl) (by kernel_rfl))) rfl) rfl) a_nil rfl) rfl (fun h => nomatch h))) a_nil rfl) rfl (fun h => nomatch h)))) (by kernel_rfl) (by kernel_rfl)
    (b_one (s_if (t_cmp cmp_eq (e_ix (e_attr X.at_Table_lives ((DM.e_var (i := 0) rfl (by kernel_rfl) (by kernel_rfl) (by kernel_rfl))) rfl) (e_ix (e_ix (e_attr X.at_Floor_stays (e_attr X.at_Table_floor ((DM.e_var (i := 0) rfl (by kernel_rfl) (by kernel_rfl) (by kernel_rfl))) rfl) rfl) ((DM.e_var (i := 1) rfl (by kernel_rfl) (by kernel_rfl) (by kernel_rfl))) rfl) e_int rfl) rfl) e_int rfl)
    (b_one (s_expr (e_mth rfl m_dpop m_dpop (e_attr X.at_Floor_stays (e_attr X.at_Table_floor ((DM.e_var (i := 0) rfl (by kernel_rfl) (by kernel_rfl) (by kernel_rfl))) rfl) rfl) (a_cons ((DM.e_var (i := 1) rfl (by kernel_rfl) (by kernel_rfl) (by kernel_rfl))) a_nil rfl) rfl rfl rfl (by decide)) rfl))
    b_nil)) rfl)))
theorem k_Table_clear_out : MethAt g 1 "Table" "clear_out" 1 sem_Table_clear_out := methAt_of X.cold X.d_Table_clear_out s_Table_clear_out rfl (fun f fd F => F.binds fun _ _ _ _ _ _ us hl => match us, hl with | [_], _ => rfl) (w_Table_clear_out X)
omit X in
theorem s_Table_settle_down : FnScope ["self", "told", "failing", "order", "seat", "number", "owner", "answer"] ["self"] (defScope (inn (tp 34) 16)) := ⟨rfl, rfl, rfl, by decide +kernel, rfl, by decide +kernel, by decide +kernel⟩
theorem w_Table_settle_down : BOk g ["self", "told", "failing", "order", "seat", "number", "owner", "answer"] (defScope (inn (tp 34) 16)) 5 (defBody (inn (tp 34) 16)) m_Table_settle_down :=
  (b_cons (s_asg_own (asg_f (i := 1) rfl (by kernel_rfl) (f_disp a_nil) rfl))
    (b_cons (s_set (i := 2) rfl (by kernel_rfl) (e_meth X.cold ((k_Table_failing X).mono (by decide)) ((DM.e_var (i := 0) rfl (by kernel_rfl) (by kernel_rfl) (by kernel_rfl))) a_nil rfl rfl rfl (by decide) (fun _ => rfl)) rfl)
    (b_cons (s_while (t_cmp cmp_ne ((DM.e_var (i := 2) rfl (by kernel_rfl) (by kernel_rfl) (by kernel_rfl))) (e_lst a_nil) rfl)
    (b_cons (s_for X.cold (i_any ((DM.e_var (i := 2) rfl (by kernel_rfl) (by kernel_rfl) (by kernel_rfl)))) (by kernel_rfl) (by kernel_rfl)
    (b_one (s_expr (e_meth X.cold ((k_Table_happens X).mono (by decide)) ((DM.e_var (i := 0) rfl (by kernel_rfl) (by kernel_rfl) (by kernel_rfl))) (a_cons e_str a_nil rfl) rfl rfl rfl (by decide) (fun h => nomatch h)) rfl)) rfl)
    (b_cons (s_for X.cold (i_any ((DM.e_var (i := 2) rfl (by kernel_rfl) (by kernel_rfl) (by kernel_rfl)))) (by kernel_rfl) (by kernel_rfl)
    (b_cons (s_expr (e_mth rfl m_dpop m_dpop (e_attr X.at_Floor_men (e_attr X.at_Table_floor ((DM.e_var (i := 0) rfl (by kernel_rfl) (by kernel_rfl) (by kernel_rfl))) rfl) rfl) (a_cons ((DM.e_var (i := 5) rfl (by kernel_rfl) (by kernel_rfl) (by kernel_rfl))) a_nil rfl) rfl rfl rfl (by decide)) rfl)
    (b_one (s_mut rfl mu_append ((DM.e_var (i := 1) rfl (by kernel_rfl) (by kernel_rfl) (by kernel_rfl))) (a_cons (e_tup (a_cons e_str (a_cons ((DM.e_var (i := 5) rfl (by kernel_rfl) (by kernel_rfl) (by kernel_rfl))) a_nil rfl) rfl)) a_nil rfl) rfl rfl rfl (by decide)))) rfl)
    (b_one (s_set (i := 2) rfl (by kernel_rfl) (e_meth X.cold ((k_Table_failing X).mono (by decide)) ((DM.e_var (i := 0) rfl (by kernel_rfl) (by kernel_rfl) (by kernel_rfl))) a_nil rfl rfl rfl (by decide) (fun _ => rfl)) rfl)))))
    (b_cons (s_expr (e_meth X.cold ((k_Table_clear_out X).mono (by decide)) ((DM.e_var (i := 0) rfl (by kernel_rfl) (by kernel_rfl) (by kernel_rfl))) a_nil rfl rfl rfl (by decide) (fun _ => rfl)) rfl)
    (b_cons (s_set (i := 3) rfl (by kernel_rfl) (e_meth X.cold ((k_Table_seats_from X).mono (by decide)) ((DM.e_var (i := 0) rfl (by kernel_rfl) (by kernel_rfl) (by kernel_rfl))) (a_cons (e_attr X.at_Table_turner ((DM.e_var (i := 0) rfl (by kernel_rfl) (by kernel_rfl) (by kernel_rfl))) rfl) a_nil rfl) rfl rfl rfl (by decide) (fun h => nomatch h)) rfl)
    (b_cons (s_for X.cold (i_any ((DM.e_var (i := 3) rfl (by kernel_rfl) (by kernel_rfl) (by kernel_rfl)))) (by kernel_rfl) (by kernel_rfl)
    (b_one (s_for X.cold (i_any (e_attr X.at_Table_due ((DM.e_var (i := 0) rfl (by kernel_rfl) (by kernel_rfl) (by kernel_rfl))) rfl)) (by kernel_rfl) (by kernel_rfl)
    (b_one (s_if (WOk.t (w_and (t_cmp cmp_eq ((DM.e_var (i := 6) rfl (by kernel_rfl) (by kernel_rfl) (by kernel_rfl))) ((DM.e_var (i := 4) rfl (by kernel_rfl) (by kernel_rfl) (by kernel_rfl))) rfl) (w_and1 (t_cmp cmp_lt (e_b X.b_len (.inl ⟨_, rfl⟩) b_len (by kernel_rfl) (a_cons (e_attr X.at_Table_stack ((DM.e_var (i := 0) rfl (by kernel_rfl) (by kernel_rfl) (by kernel_rfl))) rfl) a_nil rfl) rfl (fun h => nomatch h)) (e_glob X.c_ITEMS (by kernel_rfl) (by kernel_rfl)) rfl))))
    (b_one (s_mut rfl mu_append ((DM.e_var (i := 1) rfl (by kernel_rfl) (by kernel_rfl) (by kernel_rfl))) (a_cons (e_tup (a_cons e_str (a_cons (e_meth X.cold ((k_Table_put X).mono (by decide)) ((DM.e_var (i := 0) rfl (by kernel_rfl) (by kernel_rfl) (by kernel_rfl))) (a_cons ((DM.e_var (i := 6) rfl (by kernel_rfl) (by kernel_rfl) (by kernel_rfl))) (a_cons ((DM.e_var (i := 7) rfl (by kernel_rfl) (by kernel_rfl) (by kernel_rfl))) a_nil rfl) rfl) rfl rfl rfl (by decide) (fun h => nomatch h)) a_nil rfl) rfl)) a_nil rfl) rfl rfl rfl (by decide)))
    b_nil)) rfl)) rfl)
    (b_cons (s_fld X.at_Table_due ((DM.e_var (i := 0) rfl (by kernel_rfl) (by kernel_rfl) (by kernel_rfl))) (e_cell (f_disp a_nil)))
    (b_one (s_ret ((DM.e_var (i := 1) rfl (by kernel_rfl) (by kernel_rfl) (by kernel_rfl))))))))))))
theorem k_Table_settle_down : MethAt g 6 "Table" "settle_down" 1 sem_Table_settle_down := methAt_of X.cold X.d_Table_settle_down s_Table_settle_down rfl (fun f fd F => F.binds fun _ _ _ _ _ _ us hl => match us, hl with | [_], _ => rfl) (w_Table_settle_down X)
omit X in
theorem s_Table_go_by : FnScope ["self", "seat", "told"] ["self", "seat"] (defScope (inn (tp 34) 10)) := ⟨rfl, rfl, rfl, by decide +kernel, rfl, by decide +kernel, by decide +kernel⟩
theorem w_Table_go_by : BOk g ["self", "seat", "told"] (defScope (inn (tp 34) 10)) 6 (defBody (inn (tp 34) 10)) m_Table_go_by :=
  (b_cons (s_expr (e_meth X.cold ((k_Table_need_asked X).mono (by decide)) ((DM.e_var (i := 0) rfl (by kernel_rfl) (by kernel_rfl) (by kernel_rfl))) (a_cons ((DM.e_var (i := 1) rfl (by kernel_rfl) (by kernel_rfl) (by kernel_rfl))) a_nil rfl) rfl rfl rfl (by decide) (fun h => nomatch h)) rfl)
    (b_cons (s_fld X.at_Table_passes ((DM.e_var (i := 0) rfl (by kernel_rfl) (by kernel_rfl) (by kernel_rfl))) (e_op2 op_add_ok (e_attr X.at_Table_passes ((DM.e_var (i := 0) rfl (by kernel_rfl) (by kernel_rfl) (by kernel_rfl))) rfl) e_int))
    (b_cons (s_if (t_cmp cmp_lt (e_attr X.at_Table_passes ((DM.e_var (i := 0) rfl (by kernel_rfl) (by kernel_rfl) (by kernel_rfl))) rfl) (e_b X.b_len (.inl ⟨_, rfl⟩) b_len (by kernel_rfl) (a_cons (e_meth X.cold ((k_Table_alive X).mono (by decide)) ((DM.e_var (i := 0) rfl (by kernel_rfl) (by kernel_rfl) (by kernel_rfl))) a_nil rfl rfl rfl (by decide) (fun _ => rfl)) a_nil rfl) rfl (fun h => nomatch h)) rfl)
    (b_cons (s_fld X.at_Table_asked ((DM.e_var (i := 0) rfl (by kernel_rfl) (by kernel_rfl) (by kernel_rfl))) (e_meth X.cold ((k_Table_behind X).mono (by decide)) ((DM.e_var (i := 0) rfl (by kernel_rfl) (by kernel_rfl) (by kernel_rfl))) (a_cons ((DM.e_var (i := 1) rfl (by kernel_rfl) (by kernel_rfl) (by kernel_rfl))) a_nil rfl) rfl rfl rfl (by decide) (fun h => nomatch h)))
    (b_one (s_retF (f_disp a_nil))))
    b_nil)
    (b_cons (s_fld X.at_Table_passes ((DM.e_var (i := 0) rfl (by kernel_rfl) (by kernel_rfl) (by kernel_rfl))) e_int)
    (b_cons (s_if (t_cmp cmp_eq (e_attr X.at_Table_stack ((DM.e_var (i := 0) rfl (by kernel_rfl) (by kernel_rfl) (by kernel_rfl))) rfl) (e_lst a_nil) rfl)
    (b_cons (s_fld X.at_Table_turner ((DM.e_var (i := 0) rfl (by kernel_rfl) (by kernel_rfl) (by kernel_rfl))) (e_meth X.cold ((k_Table_behind X).mono (by decide)) ((DM.e_var (i := 0) rfl (by kernel_rfl) (by kernel_rfl) (by kernel_rfl))) (a_cons (e_attr X.at_Table_turner ((DM.e_var (i := 0) rfl (by kernel_rfl) (by kernel_rfl) (by kernel_rfl))) rfl) a_nil rfl) rfl rfl rfl (by decide) (fun h => nomatch h)))
    (b_cons (s_fld X.at_Table_asked ((DM.e_var (i := 0) rfl (by kernel_rfl) (by kernel_rfl) (by kernel_rfl))) (e_attr X.at_Table_turner ((DM.e_var (i := 0) rfl (by kernel_rfl) (by kernel_rfl) (by kernel_rfl))) rfl))
    (b_one (s_retF (f_disp (a_cons (e_tup (a_cons e_str (a_cons (e_attr X.at_Table_turner ((DM.e_var (i := 0) rfl (by kernel_rfl) (by kernel_rfl) (by kernel_rfl))) rfl) a_nil rfl) rfl)) a_nil rfl))))))
    b_nil)
    (b_cons (s_asg_own (asg_f (i := 2) rfl (by kernel_rfl) (f_meth X.cold ((k_Table_resolve X).mono (by decide)) ((DM.e_var (i := 0) rfl (by kernel_rfl) (by kernel_rfl) (by kernel_rfl))) (a_cons (e_mth rfl m_pop m_pop (e_attr X.at_Table_stack ((DM.e_var (i := 0) rfl (by kernel_rfl) (by kernel_rfl) (by kernel_rfl))) rfl) a_nil rfl rfl rfl (by decide)) a_nil rfl) rfl rfl rfl (by decide) (fun h => nomatch h)) rfl))
    (b_cons (s_mut rfl mu_extend ((DM.e_var (i := 2) rfl (by kernel_rfl) (by kernel_rfl) (by kernel_rfl))) (a_cons (e_meth X.cold ((k_Table_settle_down X).mono (by decide)) ((DM.e_var (i := 0) rfl (by kernel_rfl) (by kernel_rfl) (by kernel_rfl))) a_nil rfl rfl rfl (by decide) (fun _ => rfl)) a_nil rfl) rfl rfl rfl (by decide))
    (b_cons (s_if (t_not (t_val (e_meth X.cold ((k_Table_is_over X).mono (by decide)) ((DM.e_var (i := 0) rfl (by kernel_rfl) (by kernel_rfl) (by kernel_rfl))) a_nil rfl rfl rfl (by decide) (fun _ => rfl)) rfl))
    (b_cons (s_fld X.at_Table_asked ((DM.e_var (i := 0) rfl (by kernel_rfl) (by kernel_rfl) (by kernel_rfl))) (e_ix (e_meth X.cold ((k_Table_seats_from X).mono (by decide)) ((DM.e_var (i := 0) rfl (by kernel_rfl) (by kernel_rfl) (by kernel_rfl))) (a_cons (e_attr X.at_Table_turner ((DM.e_var (i := 0) rfl (by kernel_rfl) (by kernel_rfl) (by kernel_rfl))) rfl) a_nil rfl) rfl rfl rfl (by decide) (fun h => nomatch h)) e_int rfl))
    (b_one (s_fld X.at_Table_turner ((DM.e_var (i := 0) rfl (by kernel_rfl) (by kernel_rfl) (by kernel_rfl))) (e_attr X.at_Table_asked ((DM.e_var (i := 0) rfl (by kernel_rfl) (by kernel_rfl) (by kernel_rfl))) rfl))))
    b_nil)
    (b_one (s_ret ((DM.e_var (i := 2) rfl (by kernel_rfl) (by kernel_rfl) (by kernel_rfl)))))))))))))
theorem k_Table_go_by : MethAt g 7 "Table" "go_by" 2 sem_Table_go_by := methAt_of X.cold X.d_Table_go_by s_Table_go_by rfl (fun f fd F => F.binds fun _ _ _ _ _ _ us hl => match us, hl with | [_, _], _ => rfl) (w_Table_go_by X)
omit X in
theorem s__law_pass : FnScope ["_law_table_here", "_law_seat", "_law_e"] ["_law_table_here", "_law_seat"] (defScope (tp 50)) := ⟨rfl, rfl, rfl, by decide +kernel, rfl, by decide +kernel, by decide +kernel⟩
theorem w__law_pass : BOk g ["_law_table_here", "_law_seat", "_law_e"] (defScope (tp 50)) 7 (defBody (tp 50)) m__law_pass :=
  (b_one (s_try_which X.cold (i := 2) X.t_PileError (k_which X) (by decide) (by kernel_rfl) (by kernel_rfl) (by kernel_rfl) (by kernel_rfl) rfl (by kernel_rfl) (by kernel_rfl) (by kernel_rfl)
    (b_one (s_ret (e_meth X.cold ((k_Table_go_by X).mono (by decide)) ((DM.e_var (i := 0) rfl (by kernel_rfl) (by kernel_rfl) (by kernel_rfl))) (a_cons ((DM.e_var (i := 1) rfl (by kernel_rfl) (by kernel_rfl) (by kernel_rfl))) a_nil rfl) rfl rfl rfl (by decide) (fun h => nomatch h))))))
theorem k__law_pass : FnAt g 8 "_law_pass" 2 sem__law_pass := fnAt_of X.cold X.d__law_pass s__law_pass rfl (fun f fd F => F.binds fun _ _ _ _ _ _ us hl => match us, hl with | [_, _], _ => rfl) (w__law_pass X)
omit X in
theorem s_is_deed : FnScope ["thing"] ["thing"] (defScope (tp 37)) := ⟨rfl, rfl, rfl, by decide +kernel, rfl, by decide +kernel, by decide +kernel⟩
theorem w_is_deed : BOk g ["thing"] (defScope (tp 37)) 0 (defBody (tp 37)) m_is_deed :=
  (b_cons (s_if (WOk.t (w_or (t_not (t_val (e_isi (T := "tuple") X.b_isinstance X.b_tuple (by kernel_rfl) (by kernel_rfl) ((DM.e_var (i := 0) rfl (by kernel_rfl) (by kernel_rfl) (by kernel_rfl))) rfl) rfl)) (w_or (t_cmp cmp_eq (e_b X.b_len (.inl ⟨_, rfl⟩) b_len (by kernel_rfl) (a_cons ((DM.e_var (i := 0) rfl (by kernel_rfl) (by kernel_rfl) (by kernel_rfl))) a_nil rfl) rfl (fun h => nomatch h)) e_int rfl) (w_or1 (t_not (t_val (e_isi (T := "str") X.b_isinstance X.b_str (by kernel_rfl) (by kernel_rfl) (e_ix ((DM.e_var (i := 0) rfl (by kernel_rfl) (by kernel_rfl) (by kernel_rfl))) e_int rfl) rfl) rfl))))))
    (b_one (s_ret e_bl))
    b_nil)
    (b_one (s_ret (e_cmp cmp_eq (e_b X.b_len (.inl ⟨_, rfl⟩) b_len (by kernel_rfl) (a_cons ((DM.e_var (i := 0) rfl (by kernel_rfl) (by kernel_rfl) (by kernel_rfl))) a_nil rfl) rfl (fun h => nomatch h)) (e_gget X.tb_SIZES (by kernel_rfl) (by kernel_rfl) (a_cons (e_ix ((DM.e_var (i := 0) rfl (by kernel_rfl) (by kernel_rfl) (by kernel_rfl))) e_int rfl) (a_cons e_int a_nil rfl) rfl) rfl rfl (by decide) (fun h => nomatch h)) rfl))))
theorem k_is_deed : FnAt g 1 "is_deed" 1 sem_is_deed := fnAt_of X.cold X.d_is_deed s_is_deed rfl (fun f fd F => F.binds fun _ _ _ _ _ _ us hl => match us, hl with | [_], _ => rfl) (w_is_deed X)
omit X in
theorem s_do : FnScope ["table", "deed"] ["table", "deed"] (defScope (tp 38)) := ⟨rfl, rfl, rfl, by decide +kernel, rfl, by decide +kernel, by decide +kernel⟩
theorem w_do : BOk g ["table", "deed"] (defScope (tp 38)) 7 (defBody (tp 38)) m_do :=
  (b_cons (s_if (t_not (t_val (e_call X.cold ((k_is_deed X).mono (by decide)) (by kernel_rfl) (by kernel_rfl) (a_cons ((DM.e_var (i := 1) rfl (by kernel_rfl) (by kernel_rfl) (by kernel_rfl))) a_nil rfl) rfl (fun h => nomatch h)) rfl))
    (b_one (s_raise X.cold X.x_NoDeed (by kernel_rfl) (by kernel_rfl)))
    b_nil)
    (b_one (s_try_str X.cold X.tP (by kernel_rfl) (by kernel_rfl)
    (b_cons (s_if (t_cmp cmp_eq (e_ix ((DM.e_var (i := 1) rfl (by kernel_rfl) (by kernel_rfl) (by kernel_rfl))) e_int rfl) e_str rfl)
    (b_one (s_ret (e_meth X.cold ((k_Table_play X).mono (by decide)) ((DM.e_var (i := 0) rfl (by kernel_rfl) (by kernel_rfl) (by kernel_rfl))) (a_cons (e_ix ((DM.e_var (i := 1) rfl (by kernel_rfl) (by kernel_rfl) (by kernel_rfl))) e_int rfl) (a_cons (e_ix ((DM.e_var (i := 1) rfl (by kernel_rfl) (by kernel_rfl) (by kernel_rfl))) e_int rfl) a_nil rfl) rfl) rfl rfl rfl (by decide) (fun h => nomatch h))))
    b_nil)
    (b_one (s_ret (e_meth X.cold ((k_Table_go_by X).mono (by decide)) ((DM.e_var (i := 0) rfl (by kernel_rfl) (by kernel_rfl) (by kernel_rfl))) (a_cons (e_ix ((DM.e_var (i := 1) rfl (by kernel_rfl) (by kernel_rfl) (by kernel_rfl))) e_int rfl) a_nil rfl) rfl rfl rfl (by decide) (fun h => nomatch h))))))))
theorem k_do : FnAt g 8 "do" 2 sem_do := fnAt_of X.cold X.d_do s_do rfl (fun f fd F => F.binds fun _ _ _ _ _ _ us hl => match us, hl with | [_, _], _ => rfl) (w_do X)
omit X in
theorem s_run : FnScope ["lives", "hands", "deeds", "table", "deed"] ["lives", "hands", "deeds"] (defScope (tp 39)) := ⟨rfl, rfl, rfl, by decide +kernel, rfl, by decide +kernel, by decide +kernel⟩
theorem w_run : BOk g ["lives", "hands", "deeds", "table", "deed"] (defScope (tp 39)) 8 (defBody (tp 39)) m_run :=
  (b_cons (s_set (i := 3) rfl (by kernel_rfl) (e_make X.cold ((k_Table___init__ X).mono (by decide)) (by kernel_rfl) (by kernel_rfl) (a_cons ((DM.e_var (i := 0) rfl (by kernel_rfl) (by kernel_rfl) (by kernel_rfl))) (a_cons ((DM.e_var (i := 1) rfl (by kernel_rfl) (by kernel_rfl) (by kernel_rfl))) a_nil rfl) rfl) rfl (fun h => nomatch h)) rfl)
    (b_cons (s_if (WOk.t (w_or (t_not (t_val (e_isi (T := "list") X.b_isinstance X.b_list (by kernel_rfl) (by kernel_rfl) ((DM.e_var (i := 2) rfl (by kernel_rfl) (by kernel_rfl) (by kernel_rfl))) rfl) rfl)) (w_or1 (t_not (t_val (e_b X.b_all (.inl ⟨_, rfl⟩) (b_all X.cold) (by kernel_rfl) (a_cons (e_frz (f_lc X.cold (own := [("deed", 4)]) (i_any ((DM.e_var (i := 2) rfl (by kernel_rfl) (by kernel_rfl) (by kernel_rfl)))) (by kernel_rfl) (by kernel_rfl) ifs_nil (e_call X.cold ((k_is_deed X).mono (by decide)) (by kernel_rfl) (by kernel_rfl) (a_cons ((DM.e_var (i := 4) rfl (by kernel_rfl) (by kernel_rfl) (by kernel_rfl))) a_nil rfl) rfl (fun h => nomatch h)) (by kernel_rfl) (by kernel_rfl) rfl)) a_nil rfl) rfl (fun h => nomatch h)) rfl)))))
    (b_one (s_raise X.cold X.x_NoDeed (by kernel_rfl) (by kernel_rfl)))
    b_nil)
    (b_one (s_ret (e_tup (a_cons ((DM.e_var (i := 3) rfl (by kernel_rfl) (by kernel_rfl) (by kernel_rfl))) (a_cons (e_frz (f_lc X.cold (own := [("deed", 4)]) (i_any ((DM.e_var (i := 2) rfl (by kernel_rfl) (by kernel_rfl) (by kernel_rfl)))) (by kernel_rfl) (by kernel_rfl) ifs_nil (e_call X.cold ((k_do X).mono (by decide)) (by kernel_rfl) (by kernel_rfl) (a_cons ((DM.e_var (i := 3) rfl (by kernel_rfl) (by kernel_rfl) (by kernel_rfl))) (a_cons ((DM.e_var (i := 4) rfl (by kernel_rfl) (by kernel_rfl) (by kernel_rfl))) a_nil rfl) rfl) rfl (fun h => nomatch h)) (by kernel_rfl) (by kernel_rfl) rfl)) a_nil rfl) rfl))))))
theorem k_run : FnAt g 9 "run" 3 sem_run := fnAt_of X.cold X.d_run s_run rfl (fun f fd F => F.binds fun _ _ _ _ _ _ us hl => match us, hl with | [_, _, _], _ => rfl) (w_run X)
omit X in
theorem s__law_asked : FnScope ["_law_what", "_law_one", "_law_other", "_law_third", "_law_e"] ["_law_what", "_law_one", "_law_other", "_law_third"] (defScope (tp 51)) := ⟨rfl, rfl, rfl, by decide +kernel, rfl, by decide +kernel, by decide +kernel⟩
theorem w__law_asked : BOk g ["_law_what", "_law_one", "_law_other", "_law_third", "_law_e"] (defScope (tp 51)) 9 (defBody (tp 51)) m__law_asked :=
  (b_one (s_try_which X.cold (i := 4) X.t_PileError (k_which X) (by decide) (by kernel_rfl) (by kernel_rfl) (by kernel_rfl) (by kernel_rfl) rfl (by kernel_rfl) (by kernel_rfl) (by kernel_rfl)
    (b_cons (s_if (t_cmp cmp_eq ((DM.e_var (i := 0) rfl (by kernel_rfl) (by kernel_rfl) (by kernel_rfl))) e_int rfl)
    (b_one (s_ret (e_call X.cold ((k_run X).mono (by decide)) (by kernel_rfl) (by kernel_rfl) (a_cons ((DM.e_var (i := 1) rfl (by kernel_rfl) (by kernel_rfl) (by kernel_rfl))) (a_cons ((DM.e_var (i := 2) rfl (by kernel_rfl) (by kernel_rfl) (by kernel_rfl))) (a_cons ((DM.e_var (i := 3) rfl (by kernel_rfl) (by kernel_rfl) (by kernel_rfl))) a_nil rfl) rfl) rfl) rfl (fun h => nomatch h))))
    b_nil)
    (b_one (s_ret (e_call X.cold ((k_do X).mono (by decide)) (by kernel_rfl) (by kernel_rfl) (a_cons ((DM.e_var (i := 1) rfl (by kernel_rfl) (by kernel_rfl) (by kernel_rfl))) (a_cons ((DM.e_var (i := 2) rfl (by kernel_rfl) (by kernel_rfl) (by kernel_rfl))) a_nil rfl) rfl) rfl (fun h => nomatch h)))))))
theorem k__law_asked : FnAt g 10 "_law_asked" 4 sem__law_asked := fnAt_of X.cold X.d__law_asked s__law_asked rfl (fun f fd F => F.binds fun _ _ _ _ _ _ us hl => match us, hl with | [_, _, _, _], _ => rfl) (w__law_asked X)
omit X in
theorem s_Table_units : FnScope ["self", "made", "number", "unit"] ["self"] (defScope (inn (tp 34) 22)) := ⟨rfl, rfl, rfl, by decide +kernel, rfl, by decide +kernel, by decide +kernel⟩
theorem w_Table_units : BOk g ["self", "made", "number", "unit"] (defScope (inn (tp 34) 22)) 3 (defBody (inn (tp 34) 22)) m_Table_units :=
  (b_cons (s_asg_own (asg_f (i := 1) rfl (by kernel_rfl) (f_disp a_nil) rfl))
    (b_cons (s_for X.cold (i_any (e_frz (f_b X.b_sorted (.inl ⟨_, rfl⟩) b_sortI (by kernel_rfl) (a_cons (e_frz (f_b X.b_list (.inr ⟨_, rfl⟩) (b_list X.cold) (by kernel_rfl) (a_cons (e_attr X.at_Floor_men (e_attr X.at_Table_floor ((DM.e_var (i := 0) rfl (by kernel_rfl) (by kernel_rfl) (by kernel_rfl))) rfl) rfl) a_nil rfl) rfl (fun h => nomatch h))) a_nil rfl) rfl (fun h => nomatch h)))) (by kernel_rfl) (by kernel_rfl)
    (b_cons (s_set (i := 3) rfl (by kernel_rfl) (e_ix (e_attr X.at_Floor_men (e_attr X.at_Table_floor ((DM.e_var (i := 0) rfl (by kernel_rfl) (by kernel_rfl) (by kernel_rfl))) rfl) rfl) ((DM.e_var (i := 2) rfl (by kernel_rfl) (by kernel_rfl) (by kernel_rfl))) rfl) rfl)
    (b_one (s_mut rfl mu_append ((DM.e_var (i := 1) rfl (by kernel_rfl) (by kernel_rfl) (by kernel_rfl))) (a_cons (e_tup (a_cons ((DM.e_var (i := 2) rfl (by kernel_rfl) (by kernel_rfl) (by kernel_rfl))) (a_cons (e_ix ((DM.e_var (i := 3) rfl (by kernel_rfl) (by kernel_rfl) (by kernel_rfl))) e_str rfl) (a_cons (e_meth X.cold ((k_Floor_power X).mono (by decide)) (e_attr X.at_Table_floor ((DM.e_var (i := 0) rfl (by kernel_rfl) (by kernel_rfl) (by kernel_rfl))) rfl) (a_cons ((DM.e_var (i := 2) rfl (by kernel_rfl) (by kernel_rfl) (by kernel_rfl))) a_nil rfl) rfl rfl rfl (by decide) (fun h => nomatch h)) (a_cons (e_ix ((DM.e_var (i := 3) rfl (by kernel_rfl) (by kernel_rfl) (by kernel_rfl))) e_str rfl) a_nil rfl) rfl) rfl) rfl)) a_nil rfl) rfl rfl rfl (by decide)))) rfl)
    (b_one (s_ret ((DM.e_var (i := 1) rfl (by kernel_rfl) (by kernel_rfl) (by kernel_rfl)))))))
theorem k_Table_units : MethAt g 4 "Table" "units" 1 sem_Table_units := methAt_of X.cold X.d_Table_units s_Table_units rfl (fun f fd F => F.binds fun _ _ _ _ _ _ us hl => match us, hl with | [_], _ => rfl) (w_Table_units X)
omit X in
theorem s_Table_pile : FnScope ["self", "item"] ["self"] (defScope (inn (tp 34) 21)) := ⟨rfl, rfl, rfl, by decide +kernel, rfl, by decide +kernel, by decide +kernel⟩
theorem w_Table_pile : BOk g ["self", "item"] (defScope (inn (tp 34) 21)) 0 (defBody (inn (tp 34) 21)) m_Table_pile :=
  (b_one (s_retF (f_lc X.cold (own := [("item", 1)]) (i_any (e_attr X.at_Table_stack ((DM.e_var (i := 0) rfl (by kernel_rfl) (by kernel_rfl) (by kernel_rfl))) rfl)) (by kernel_rfl) (by kernel_rfl) ifs_nil (e_tup (a_cons (e_ix ((DM.e_var (i := 1) rfl (by kernel_rfl) (by kernel_rfl) (by kernel_rfl))) e_str rfl) (a_cons (e_ix ((DM.e_var (i := 1) rfl (by kernel_rfl) (by kernel_rfl) (by kernel_rfl))) e_str rfl) (a_cons (e_ix ((DM.e_var (i := 1) rfl (by kernel_rfl) (by kernel_rfl) (by kernel_rfl))) e_str rfl) a_nil rfl) rfl) rfl)) (by kernel_rfl) (by kernel_rfl) rfl)))
theorem k_Table_pile : MethAt g 1 "Table" "pile" 1 sem_Table_pile := methAt_of X.cold X.d_Table_pile s_Table_pile rfl (fun f fd F => F.binds fun _ _ _ _ _ _ us hl => match us, hl with | [_], _ => rfl) (w_Table_pile X)
omit X in
theorem s_law : FnScope ["_law_script", "_law_town", "_law_table_here", "_law_deeds", "_law_due", "_law_k", "_law_other", "_law_bad", "_law_lives", "_law_hands", "_law_seat", "_law_deed", "_law_told", "_law_here"] ["_law_script"] (defScope (tp 52)) := ⟨rfl, rfl, rfl, by decide +kernel, rfl, by decide +kernel, by decide +kernel⟩
theorem w_law : BOk g ["_law_script", "_law_town", "_law_table_here", "_law_deeds", "_law_due", "_law_k", "_law_other", "_law_bad", "_law_lives", "_law_hands", "_law_seat", "_law_deed", "_law_told", "_law_here"] (defScope (tp 52)) 10 (defBody (tp 52)) m_law :=
  (b_cons (s_asg_cell (asg_f (i := 1) rfl (by kernel_rfl) (f_disp a_nil) rfl))
    (b_cons (s_unp X.cold (e_call X.cold ((k__law_table X).mono (by decide)) (by kernel_rfl) (by kernel_rfl) (a_cons ((DM.e_var (i := 0) rfl (by kernel_rfl) (by kernel_rfl) (by kernel_rfl))) (a_cons ((DM.e_var (i := 1) rfl (by kernel_rfl) (by kernel_rfl) (by kernel_rfl))) a_nil rfl) rfl) rfl (fun h => nomatch h)) (by kernel_rfl) (by kernel_rfl) rfl)
    (b_cons (s_set (i := 2) rfl (by kernel_rfl) (e_make X.cold ((k_Table___init__ X).mono (by decide)) (by kernel_rfl) (by kernel_rfl) (a_cons ((DM.e_var (i := 8) rfl (by kernel_rfl) (by kernel_rfl) (by kernel_rfl))) (a_cons ((DM.e_var (i := 9) rfl (by kernel_rfl) (by kernel_rfl) (by kernel_rfl))) a_nil rfl) rfl) rfl (fun h => nomatch h)) rfl)
    (b_cons (s_asg_cell (asg_f (i := 3) rfl (by kernel_rfl) (f_disp a_nil) rfl))
    (b_cons (s_asg_own (asg_f (i := 4) rfl (by kernel_rfl) (f_disp a_nil) rfl))
    (b_cons (s_for X.cold (i_range1 X.b_range (by kernel_rfl) (a_cons (e_call X.cold ((k__law_draw X).mono (by decide)) (by kernel_rfl) (by kernel_rfl) (a_cons ((DM.e_var (i := 0) rfl (by kernel_rfl) (by kernel_rfl) (by kernel_rfl))) (a_cons ((DM.e_var (i := 1) rfl (by kernel_rfl) (by kernel_rfl) (by kernel_rfl))) (a_cons e_int a_nil rfl) rfl) rfl) rfl (fun h => nomatch h)) a_nil rfl) rfl) (by kernel_rfl) (by kernel_rfl)
    (b_cons (s_set (i := 10) rfl (by kernel_rfl) (e_call X.cold ((k__law_draw X).mono (by decide)) (by kernel_rfl) (by kernel_rfl) (a_cons ((DM.e_var (i := 0) rfl (by kernel_rfl) (by kernel_rfl) (by kernel_rfl))) (a_cons ((DM.e_var (i := 1) rfl (by kernel_rfl) (by kernel_rfl) (by kernel_rfl))) (a_cons (e_op2 op_add_ok (e_b X.b_len (.inl ⟨_, rfl⟩) b_len (by kernel_rfl) (a_cons ((DM.e_var (i := 8) rfl (by kernel_rfl) (by kernel_rfl) (by kernel_rfl))) a_nil rfl) rfl (fun h => nomatch h)) e_int) a_nil rfl) rfl) rfl) rfl (fun h => nomatch h)) rfl)
    (b_cons (s_if (WOk.t (w_and (t_not (t_val (e_meth X.cold ((k_Table_is_over X).mono (by decide)) ((DM.e_var (i := 2) rfl (by kernel_rfl) (by kernel_rfl) (by kernel_rfl))) a_nil rfl rfl rfl (by decide) (fun _ => rfl)) rfl)) (w_and1 (t_cmp cmp_gt (e_call X.cold ((k__law_draw X).mono (by decide)) (by kernel_rfl) (by kernel_rfl) (a_cons ((DM.e_var (i := 0) rfl (by kernel_rfl) (by kernel_rfl) (by kernel_rfl))) (a_cons ((DM.e_var (i := 1) rfl (by kernel_rfl) (by kernel_rfl) (by kernel_rfl))) (a_cons e_int a_nil rfl) rfl) rfl) rfl (fun h => nomatch h)) e_int rfl))))
    (b_one (s_set (i := 10) rfl (by kernel_rfl) (e_ix (e_meth X.cold ((k_Table_now X).mono (by decide)) ((DM.e_var (i := 2) rfl (by kernel_rfl) (by kernel_rfl) (by kernel_rfl))) a_nil rfl rfl rfl (by decide) (fun _ => rfl)) e_int rfl) rfl))
    b_nil)
    (b_cons (s_set (i := 11) rfl (by kernel_rfl) (e_tup (a_cons e_str (a_cons ((DM.e_var (i := 10) rfl (by kernel_rfl) (by kernel_rfl) (by kernel_rfl))) a_nil rfl) rfl)) rfl)
    (b_cons (s_set (i := 12) rfl (by kernel_rfl) e_non rfl)
    (b_cons (s_if (t_cmp cmp_eq (e_call X.cold ((k__law_draw X).mono (by decide)) (by kernel_rfl) (by kernel_rfl) (a_cons ((DM.e_var (i := 0) rfl (by kernel_rfl) (by kernel_rfl) (by kernel_rfl))) (a_cons ((DM.e_var (i := 1) rfl (by kernel_rfl) (by kernel_rfl) (by kernel_rfl))) (a_cons e_int a_nil rfl) rfl) rfl) rfl (fun h => nomatch h)) e_int rfl)
    (b_cons (s_set (i := 11) rfl (by kernel_rfl) (e_tup (a_cons e_str (a_cons ((DM.e_var (i := 10) rfl (by kernel_rfl) (by kernel_rfl) (by kernel_rfl))) (a_cons (e_call X.cold ((k__law_draw X).mono (by decide)) (by kernel_rfl) (by kernel_rfl) (a_cons ((DM.e_var (i := 0) rfl (by kernel_rfl) (by kernel_rfl) (by kernel_rfl))) (a_cons ((DM.e_var (i := 1) rfl (by kernel_rfl) (by kernel_rfl) (by kernel_rfl))) (a_cons e_int a_nil rfl) rfl) rfl) rfl (fun h => nomatch h)) a_nil rfl) rfl) rfl)) rfl)
    (b_one (s_set (i := 12) rfl (by kernel_rfl) (e_call X.cold ((k__law_play X).mono (by decide)) (by kernel_rfl) (by kernel_rfl) (a_cons ((DM.e_var (i := 2) rfl (by kernel_rfl) (by kernel_rfl) (by kernel_rfl))) (a_cons ((DM.e_var (i := 10) rfl (by kernel_rfl) (by kernel_rfl) (by kernel_rfl))) (a_cons (e_ix ((DM.e_var (i := 11) rfl (by kernel_rfl) (by kernel_rfl) (by kernel_rfl))) e_int rfl) a_nil rfl) rfl) rfl) rfl (fun h => nomatch h)) rfl)))
    (b_one (s_set (i := 12) rfl (by kernel_rfl) (e_call X.cold ((k__law_pass X).mono (by decide)) (by kernel_rfl) (by kernel_rfl) (a_cons ((DM.e_var (i := 2) rfl (by kernel_rfl) (by kernel_rfl) (by kernel_rfl))) (a_cons ((DM.e_var (i := 10) rfl (by kernel_rfl) (by kernel_rfl) (by kernel_rfl))) a_nil rfl) rfl) rfl (fun h => nomatch h)) rfl)))
    (b_cons (s_mut rfl mu_append ((DM.e_var (i := 3) rfl (by kernel_rfl) (by kernel_rfl) (by kernel_rfl))) (a_cons ((DM.e_var (i := 11) rfl (by kernel_rfl) (by kernel_rfl) (by kernel_rfl))) a_nil rfl) rfl rfl rfl (by decide))
    (b_one (s_mut rfl mu_append ((DM.e_var (i := 4) rfl (by kernel_rfl) (by kernel_rfl) (by kernel_rfl))) (a_cons (e_ix (e_lst (a_cons e_str (a_cons ((DM.e_var (i := 12) rfl (by kernel_rfl) (by kernel_rfl) (by kernel_rfl))) a_nil rfl) rfl)) (e_b X.b_int (.inr ⟨_, rfl⟩) b_int (by kernel_rfl) (a_cons (e_or (e_isi (T := "int") X.b_isinstance X.b_int (by kernel_rfl) (by kernel_rfl) ((DM.e_var (i := 12) rfl (by kernel_rfl) (by kernel_rfl) (by kernel_rfl))) rfl) (e_one (e_isi (T := "list") X.b_isinstance X.b_list (by kernel_rfl) (by kernel_rfl) ((DM.e_var (i := 12) rfl (by kernel_rfl) (by kernel_rfl) (by kernel_rfl))) rfl))) a_nil rfl) rfl (fun h => nomatch h)) rfl) a_nil rfl) rfl rfl rfl (by decide))))))))) rfl)
    (b_cons (s_unp X.cold (e_call X.cold ((k_run X).mono (by decide)) (by kernel_rfl) (by kernel_rfl) (a_cons ((DM.e_var (i := 8) rfl (by kernel_rfl) (by kernel_rfl) (by kernel_rfl))) (a_cons ((DM.e_var (i := 9) rfl (by kernel_rfl) (by kernel_rfl) (by kernel_rfl))) (a_cons ((DM.e_var (i := 3) rfl (by kernel_rfl) (by kernel_rfl) (by kernel_rfl))) a_nil rfl) rfl) rfl) rfl (fun h => nomatch h)) (by kernel_rfl) (by kernel_rfl) rfl)
    (b_cons (s_set (i := 6) rfl (by kernel_rfl) (e_make X.cold ((k_Table___init__ X).mono (by decide)) (by kernel_rfl) (by kernel_rfl) (a_cons ((DM.e_var (i := 8) rfl (by kernel_rfl) (by kernel_rfl) (by kernel_rfl))) (a_cons ((DM.e_var (i := 9) rfl (by kernel_rfl) (by kernel_rfl) (by kernel_rfl))) a_nil rfl) rfl) rfl (fun h => nomatch h)) rfl)
    (b_cons (s_if (WOk.t (w_or (t_cmp cmp_ne ((DM.e_var (i := 12) rfl (by kernel_rfl) (by kernel_rfl) (by kernel_rfl))) ((DM.e_var (i := 4) rfl (by kernel_rfl) (by kernel_rfl) (by kernel_rfl))) rfl) (w_or1 (t_cmp cmp_ne (e_frz (f_lc X.cold (own := [("_law_deed", 11)]) (i_any ((DM.e_var (i := 3) rfl (by kernel_rfl) (by kernel_rfl) (by kernel_rfl)))) (by kernel_rfl) (by kernel_rfl) ifs_nil (e_call X.cold ((k__law_asked X).mono (by decide)) (by kernel_rfl) (by kernel_rfl) (a_cons e_int (a_cons ((DM.e_var (i := 6) rfl (by kernel_rfl) (by kernel_rfl) (by kernel_rfl))) (a_cons ((DM.e_var (i := 11) rfl (by kernel_rfl) (by kernel_rfl) (by kernel_rfl))) (a_cons e_non a_nil rfl) rfl) rfl) rfl) rfl (fun h => nomatch h)) (by kernel_rfl) (by kernel_rfl) rfl)) ((DM.e_var (i := 4) rfl (by kernel_rfl) (by kernel_rfl) (by kernel_rfl))) rfl))))
    (b_one (s_ret e_bl))
    b_nil)
    (b_cons (s_if (WOk.t (w_or (t_cmp cmp_ne (e_meth X.cold ((k_Table_pile X).mono (by decide)) ((DM.e_var (i := 13) rfl (by kernel_rfl) (by kernel_rfl) (by kernel_rfl))) a_nil rfl rfl rfl (by decide) (fun _ => rfl)) (e_meth X.cold ((k_Table_pile X).mono (by decide)) ((DM.e_var (i := 2) rfl (by kernel_rfl) (by kernel_rfl) (by kernel_rfl))) a_nil rfl rfl rfl (by decide) (fun _ => rfl)) rfl) (w_or (t_cmp cmp_ne (e_meth X.cold ((k_Table_units X).mono (by decide)) ((DM.e_var (i := 13) rfl (by kernel_rfl) (by kernel_rfl) (by kernel_rfl))) a_nil rfl rfl rfl (by decide) (fun _ => rfl)) (e_meth X.cold ((k_Table_units X).mono (by decide)) ((DM.e_var (i := 2) rfl (by kernel_rfl) (by kernel_rfl) (by kernel_rfl))) a_nil rfl rfl rfl (by decide) (fun _ => rfl)) rfl) (w_or1 (t_cmp cmp_ne (e_meth X.cold ((k_Table_now X).mono (by decide)) ((DM.e_var (i := 13) rfl (by kernel_rfl) (by kernel_rfl) (by kernel_rfl))) a_nil rfl rfl rfl (by decide) (fun _ => rfl)) (e_meth X.cold ((k_Table_now X).mono (by decide)) ((DM.e_var (i := 2) rfl (by kernel_rfl) (by kernel_rfl) (by kernel_rfl))) a_nil rfl rfl rfl (by decide) (fun _ => rfl)) rfl)))))
    (b_one (s_ret e_bl))
    b_nil)
    (b_cons (s_set (i := 7) rfl (by kernel_rfl) (e_call X.cold ((k__law_pick X).mono (by decide)) (by kernel_rfl) (by kernel_rfl) (a_cons ((DM.e_var (i := 0) rfl (by kernel_rfl) (by kernel_rfl) (by kernel_rfl))) (a_cons ((DM.e_var (i := 1) rfl (by kernel_rfl) (by kernel_rfl) (by kernel_rfl))) (a_cons (e_lst (a_cons e_non (a_cons (e_tup a_nil) (a_cons (e_tup (a_cons e_str (a_cons e_int a_nil rfl) rfl)) (a_cons (e_tup (a_cons e_str a_nil rfl)) (a_cons (e_tup (a_cons e_str (a_cons e_int a_nil rfl) rfl)) (a_cons (e_lst (a_cons e_str (a_cons e_int a_nil rfl) rfl)) (a_cons e_str a_nil rfl) rfl) rfl) rfl) rfl) rfl) rfl)) a_nil rfl) rfl) rfl) rfl (fun h => nomatch h)) rfl)
    (b_cons (s_if (t_cmp cmp_ne (e_call X.cold ((k__law_asked X).mono (by decide)) (by kernel_rfl) (by kernel_rfl) (a_cons e_int (a_cons ((DM.e_var (i := 8) rfl (by kernel_rfl) (by kernel_rfl) (by kernel_rfl))) (a_cons ((DM.e_var (i := 9) rfl (by kernel_rfl) (by kernel_rfl) (by kernel_rfl))) (a_cons (e_op2 op_add_ok ((DM.e_var (i := 3) rfl (by kernel_rfl) (by kernel_rfl) (by kernel_rfl))) (e_lst (a_cons ((DM.e_var (i := 7) rfl (by kernel_rfl) (by kernel_rfl) (by kernel_rfl))) a_nil rfl))) a_nil rfl) rfl) rfl) rfl) rfl (fun h => nomatch h)) (e_tup (a_cons e_str (a_cons e_int a_nil rfl) rfl)) rfl)
    (b_one (s_ret e_bl))
    b_nil)
    (b_one (s_ret (e_cmp cmp_eq (e_call X.cold ((k__law_asked X).mono (by decide)) (by kernel_rfl) (by kernel_rfl) (a_cons e_int (a_cons ((DM.e_var (i := 8) rfl (by kernel_rfl) (by kernel_rfl) (by kernel_rfl))) (a_cons ((DM.e_var (i := 9) rfl (by kernel_rfl) (by kernel_rfl) (by kernel_rfl))) (a_cons (e_b X.b_tuple (.inr ⟨_, rfl⟩) b_tuple (by kernel_rfl) (a_cons ((DM.e_var (i := 3) rfl (by kernel_rfl) (by kernel_rfl) (by kernel_rfl))) a_nil rfl) rfl (fun h => nomatch h)) a_nil rfl) rfl) rfl) rfl) rfl (fun h => nomatch h)) (e_tup (a_cons e_str (a_cons e_int a_nil rfl) rfl)) rfl)))))))))))))))
theorem k_law : FnAt g 11 "law" 1 sem_law := fnAt_of X.cold X.d_law s_law rfl (fun f fd F => F.binds fun _ _ _ _ _ _ us hl => match us, hl with | [_], _ => rfl) (w_law X)
end A17
namespace A17
open PySem PySem.Spec L2 DM
def fn : List He.DefD :=
  ([⟨("_law_cell_at", none), "_law_cell_at", "_law_cell_at", defArgs (tp 41), defBody (tp 41), defScope (tp 41), [], []⟩, ⟨("_law_mixed", none), "_law_mixed", "_law_mixed", defArgs (tp 42), defBody (tp 42), defScope (tp 42), [], []⟩, ⟨("_law_draw", none), "_law_draw", "_law_draw", defArgs (tp 43), defBody (tp 43), defScope (tp 43), [], []⟩, ⟨("_law_pick", none), "_law_pick", "_law_pick", defArgs (tp 44), defBody (tp 44), defScope (tp 44), [], []⟩, ⟨("_law_answer", none), "_law_answer", "_law_answer", defArgs (tp 45), defBody (tp 45), defScope (tp 45), [], []⟩, ⟨("_law_card", none), "_law_card", "_law_card", defArgs (tp 46), defBody (tp 46), defScope (tp 46), [], []⟩, ⟨("_law_table", none), "_law_table", "_law_table", defArgs (tp 47), defBody (tp 47), defScope (tp 47), [], []⟩, ⟨("is_whole", none), "is_whole", "is_whole", defArgs (tp 22), defBody (tp 22), defScope (tp 22), [], []⟩, ⟨("is_one_of", none), "is_one_of", "is_one_of", defArgs (tp 23), defBody (tp 23), defScope (tp 23), [], []⟩, ⟨("is_answer", none), "is_answer", "is_answer", defArgs (tp 24), defBody (tp 24), defScope (tp 24), [], []⟩, ⟨("is_when", none), "is_when", "is_when", defArgs (tp 25), defBody (tp 25), defScope (tp 25), [], []⟩, ⟨("is_card", none), "is_card", "is_card", defArgs (tp 26), defBody (tp 26), defScope (tp 26), [], []⟩, ⟨("are_hands", none), "are_hands", "are_hands", defArgs (tp 27), defBody (tp 27), defScope (tp 27), [], []⟩, ⟨("Floor", some "__init__"), "__init__", "Floor.__init__", defArgs (inn (tp 29) 0), defBody (inn (tp 29) 0), defScope (inn (tp 29) 0), [], []⟩, ⟨("Table", some "__init__"), "__init__", "Table.__init__", defArgs (inn (tp 34) 0), defBody (inn (tp 34) 0), defScope (inn (tp 34) 0), [], []⟩, ⟨("Table", some "alive"), "alive", "Table.alive", defArgs (inn (tp 34) 1), defBody (inn (tp 34) 1), defScope (inn (tp 34) 1), [], []⟩, ⟨("Table", some "is_over"), "is_over", "Table.is_over", defArgs (inn (tp 34) 2), defBody (inn (tp 34) 2), defScope (inn (tp 34) 2), [], []⟩, ⟨("Table", some "now"), "now", "Table.now", defArgs (inn (tp 34) 25), defBody (inn (tp 34) 25), defScope (inn (tp 34) 25), [], []⟩, ⟨("Table", some "need_seat"), "need_seat", "Table.need_seat", defArgs (inn (tp 34) 5), defBody (inn (tp 34) 5), defScope (inn (tp 34) 5), [], []⟩, ⟨("Table", some "need_asked"), "need_asked", "Table.need_asked", defArgs (inn (tp 34) 6), defBody (inn (tp 34) 6), defScope (inn (tp 34) 6), [], []⟩, ⟨("Table", some "has_target"), "has_target", "Table.has_target", defArgs (inn (tp 34) 8), defBody (inn (tp 34) 8), defScope (inn (tp 34) 8), [], []⟩, ⟨("Table", some "put"), "put", "Table.put", defArgs (inn (tp 34) 7), defBody (inn (tp 34) 7), defScope (inn (tp 34) 7), [], []⟩, ⟨("Table", some "play"), "play", "Table.play", defArgs (inn (tp 34) 9), defBody (inn (tp 34) 9), defScope (inn (tp 34) 9), [], []⟩, ⟨("_law_play", none), "_law_play", "_law_play", defArgs (tp 49), defBody (tp 49), defScope (tp 49), [], []⟩, ⟨("Table", some "seats_from"), "seats_from", "Table.seats_from", defArgs (inn (tp 34) 3), defBody (inn (tp 34) 3), defScope (inn (tp 34) 3), [], []⟩, ⟨("Table", some "behind"), "behind", "Table.behind", defArgs (inn (tp 34) 4), defBody (inn (tp 34) 4), defScope (inn (tp 34) 4), [], []⟩, ⟨("Table", some "is_there"), "is_there", "Table.is_there", defArgs (inn (tp 34) 12), defBody (inn (tp 34) 12), defScope (inn (tp 34) 12), [], []⟩, ⟨("touches", none), "touches", "touches", defArgs (tp 30), defBody (tp 30), defScope (tp 30), [], []⟩, ⟨("Table", some "targets"), "targets", "Table.targets", defArgs (inn (tp 34) 13), defBody (inn (tp 34) 13), defScope (inn (tp 34) 13), [], []⟩, ⟨("Table", some "happens"), "happens", "Table.happens", defArgs (inn (tp 34) 15), defBody (inn (tp 34) 15), defScope (inn (tp 34) 15), [], []⟩] : List He.DefD) ++ ([⟨("Table", some "touch"), "touch", "Table.touch", defArgs (inn (tp 34) 14), defBody (inn (tp 34) 14), defScope (inn (tp 34) 14), [], []⟩, ⟨("Floor", some "new_number"), "new_number", "Floor.new_number", defArgs (inn (tp 29) 1), defBody (inn (tp 29) 1), defScope (inn (tp 29) 1), [], []⟩, ⟨("Floor", some "bring"), "bring", "Floor.bring", defArgs (inn (tp 29) 2), defBody (inn (tp 29) 2), defScope (inn (tp 29) 2), [], []⟩, ⟨("Floor", some "stand"), "stand", "Floor.stand", defArgs (inn (tp 29) 3), defBody (inn (tp 29) 3), defScope (inn (tp 29) 3), [], []⟩, ⟨("Table", some "resolve"), "resolve", "Table.resolve", defArgs (inn (tp 34) 11), defBody (inn (tp 34) 11), defScope (inn (tp 34) 11), [], []⟩, ⟨("Floor", some "layer"), "layer", "Floor.layer", defArgs (inn (tp 29) 4), defBody (inn (tp 29) 4), defScope (inn (tp 29) 4), [], []⟩, ⟨("Floor", some "power"), "power", "Floor.power", defArgs (inn (tp 29) 5), defBody (inn (tp 29) 5), defScope (inn (tp 29) 5), [], []⟩, ⟨("Floor", some "failing"), "failing", "Floor.failing", defArgs (inn (tp 29) 6), defBody (inn (tp 29) 6), defScope (inn (tp 29) 6), [], []⟩, ⟨("Floor", some "of"), "of", "Floor.of", defArgs (inn (tp 29) 7), defBody (inn (tp 29) 7), defScope (inn (tp 29) 7), [], []⟩, ⟨("Table", some "failing"), "failing", "Table.failing", defArgs (inn (tp 34) 17), defBody (inn (tp 34) 17), defScope (inn (tp 34) 17), [], []⟩, ⟨("Table", some "clear_out"), "clear_out", "Table.clear_out", defArgs (inn (tp 34) 18), defBody (inn (tp 34) 18), defScope (inn (tp 34) 18), [], []⟩, ⟨("Table", some "settle_down"), "settle_down", "Table.settle_down", defArgs (inn (tp 34) 16), defBody (inn (tp 34) 16), defScope (inn (tp 34) 16), [], []⟩, ⟨("Table", some "go_by"), "go_by", "Table.go_by", defArgs (inn (tp 34) 10), defBody (inn (tp 34) 10), defScope (inn (tp 34) 10), [], []⟩, ⟨("_law_pass", none), "_law_pass", "_law_pass", defArgs (tp 50), defBody (tp 50), defScope (tp 50), [], []⟩, ⟨("is_deed", none), "is_deed", "is_deed", defArgs (tp 37), defBody (tp 37), defScope (tp 37), [], []⟩, ⟨("do", none), "do", "do", defArgs (tp 38), defBody (tp 38), defScope (tp 38), [], []⟩, ⟨("run", none), "run", "run", defArgs (tp 39), defBody (tp 39), defScope (tp 39), [], []⟩, ⟨("_law_asked", none), "_law_asked", "_law_asked", defArgs (tp 51), defBody (tp 51), defScope (tp 51), [], []⟩, ⟨("Table", some "units"), "units", "Table.units", defArgs (inn (tp 34) 22), defBody (inn (tp 34) 22), defScope (inn (tp 34) 22), [], []⟩, ⟨("Table", some "pile"), "pile", "Table.pile", defArgs (inn (tp 34) 21), defBody (inn (tp 34) 21), defScope (inn (tp 34) 21), [], []⟩, ⟨("law", none), "law", "law", defArgs (tp 52), defBody (tp 52), defScope (tp 52), [], []⟩, ⟨("_law_which", none), "_law_which", "_law_which", defArgs (tp 48), defBody (tp 48), defScope (tp 48), [], []⟩] : List He.DefD)
def ts : List He.Tab := [(fun K => He.ga K "SIZES", ["play", "pass"])]
def exs (K : PySem.W.Frag) : List Bool :=
  ([(He.Fa.free "all").ok K, (He.Fa.free "bool").ok K, (He.Fa.free "int").ok K, (He.Fa.free "isinstance").ok K, (He.Fa.free "len").ok K, (He.Fa.free "list").ok K, (He.Fa.free "max").ok K, (He.Fa.free "min").ok K, (He.Fa.free "range").ok K, (He.Fa.free "sorted").ok K, (He.Fa.free "str").ok K, (He.Fa.free "sum").ok K, (He.Fa.free "tuple").ok K, (He.Fa.glo "EVENTS").ok K, He.tupB K "EVENTS" [.str "comes", .str "goes", .str "hurt", .str "mended"], (He.Fa.int "HAND" 8).ok K, (He.Fa.int "ITEMS" 40).ok K, (He.Fa.glo "LAYERS").ok K, He.tupB K "LAYERS" [.str "set", .str "add", .str "cap"], (He.Fa.int "LIFE" 99).ok K, (He.Fa.int "SEATS" 4).ok K, (He.Fa.int "SIZE" 20).ok K, (He.Fa.int "UNITS" 20).ok K, (He.Fa.glo "WHOSE").ok K, He.tupB K "WHOSE" [.str "mine", .str "others", .str "all"], (He.Fa.glo "SIZES").ok K, tblB K "SIZES" PR.tbl_SIZES, (He.Fa.glo "Full").ok K, (He.Fa.exc "Full").ok K, (He.Fa.glo "NoCard").ok K] : List Bool) ++ ([(He.Fa.exc "NoCard").ok K, (He.Fa.glo "NoDeed").ok K, (He.Fa.exc "NoDeed").ok K, (He.Fa.glo "NoSeat").ok K, (He.Fa.exc "NoSeat").ok K, (He.Fa.glo "NoTable").ok K, (He.Fa.exc "NoTable").ok K, (He.Fa.glo "NoTarget").ok K, (He.Fa.exc "NoTarget").ok K, (He.Fa.glo "NotYet").ok K, (He.Fa.exc "NotYet").ok K, (He.Fa.glo "Over").ok K, (He.Fa.exc "Over").ok K, (He.Fa.glo "Floor").ok K, (He.Fa.cls "Floor").ok K, (He.Fa.noat "Floor" "coming").ok K, (He.Fa.noat "Floor" "men").ok K, (He.Fa.noat "Floor" "stays").ok K, (He.Fa.glo "Table").ok K, (He.Fa.cls "Table").ok K, (He.Fa.noat "Table" "asked").ok K, (He.Fa.noat "Table" "count").ok K, (He.Fa.noat "Table" "due").ok K, (He.Fa.noat "Table" "floor").ok K, (He.Fa.noat "Table" "hands").ok K, (He.Fa.noat "Table" "lives").ok K, (He.Fa.noat "Table" "passes").ok K, (He.Fa.noat "Table" "stack").ok K, (He.Fa.noat "Table" "turner").ok K, (He.Fa.glo "PileError").ok K] : List Bool) ++ ([takeB K "PileError" PR.takes_P, takeB K "PileError" takes_PileError, (He.Fa.glo "_law_cell_at").ok K, (He.Fa.glo "_law_mixed").ok K, (He.Fa.glo "_law_draw").ok K, (He.Fa.glo "_law_pick").ok K, (He.Fa.glo "_law_answer").ok K, (He.Fa.glo "_law_card").ok K, (He.Fa.glo "_law_table").ok K, (He.Fa.glo "is_whole").ok K, (He.Fa.glo "is_one_of").ok K, (He.Fa.glo "is_answer").ok K, (He.Fa.glo "is_when").ok K, (He.Fa.glo "is_card").ok K, (He.Fa.glo "are_hands").ok K, (He.Fa.mkr "Floor").ok K, (He.Fa.mkr "Table").ok K, (He.Fa.meth "Table" "alive").ok K, (He.Fa.meth "Table" "is_over").ok K, (He.Fa.meth "Table" "now").ok K, (He.Fa.meth "Table" "need_seat").ok K, (He.Fa.meth "Table" "need_asked").ok K, (He.Fa.meth "Table" "has_target").ok K, (He.Fa.meth "Table" "put").ok K, (He.Fa.meth "Table" "play").ok K, (He.Fa.glo "_law_play").ok K, (He.Fa.meth "Table" "seats_from").ok K, (He.Fa.meth "Table" "behind").ok K, (He.Fa.meth "Table" "is_there").ok K, (He.Fa.glo "touches").ok K] : List Bool) ++ ([(He.Fa.meth "Table" "targets").ok K, (He.Fa.meth "Table" "happens").ok K, (He.Fa.meth "Table" "touch").ok K, (He.Fa.meth "Floor" "new_number").ok K, (He.Fa.meth "Floor" "bring").ok K, (He.Fa.meth "Floor" "stand").ok K, (He.Fa.meth "Table" "resolve").ok K, (He.Fa.meth "Floor" "layer").ok K, (He.Fa.meth "Floor" "power").ok K, (He.Fa.meth "Floor" "failing").ok K, (He.Fa.meth "Floor" "of").ok K, (He.Fa.meth "Table" "failing").ok K, (He.Fa.meth "Table" "clear_out").ok K, (He.Fa.meth "Table" "settle_down").ok K, (He.Fa.meth "Table" "go_by").ok K, (He.Fa.glo "_law_pass").ok K, (He.Fa.glo "is_deed").ok K, (He.Fa.glo "do").ok K, (He.Fa.glo "run").ok K, (He.Fa.glo "_law_asked").ok K, (He.Fa.meth "Table" "units").ok K, (He.Fa.meth "Table" "pile").ok K, (He.Fa.glo "law").ok K, xcB K takes_PileError, xkB K "NoTable" none takes_PileError sub_NoTable, xkB K "NoSeat" none takes_PileError sub_NoSeat, xkB K "NotYet" none takes_PileError sub_NotYet, xkB K "NoCard" none takes_PileError sub_NoCard, xkB K "NoTarget" none takes_PileError sub_NoTarget, (He.Fa.glo "NoUnit").ok K] : List Bool) ++ ([xkB K "NoUnit" none takes_PileError sub_NoUnit, xkB K "Over" none takes_PileError sub_Over, (He.Fa.glo "NoCount").ok K, xkB K "NoCount" none takes_PileError sub_NoCount, xkB K "Full" none takes_PileError sub_Full, (He.Fa.glo "TooMany").ok K, xkB K "TooMany" none takes_PileError sub_TooMany, xkB K "NoDeed" none takes_PileError sub_NoDeed, (He.Fa.free "ValueError").ok K, xkB K "ValueError" (some "ValueError") takes_PileError sub_ValueError, (He.Fa.glo "_law_which").ok K] : List Bool)
def ex (K : PySem.W.Frag) : Bool := (exs K).all fun b => b
theorem ev_of (w : World) (K : PySem.W.Frag) (mg : Str → Option Value) (h base : Heap) (X : K.In h) (G : h.Ns mainGlobals mg) (c : He.SaysX [] fn ts [] ex w h K) : Ev ⟨PySem.Challenge.rw_answerpile_k17_runs.prog, w, K, mg, base, none⟩ := by
  have a : (exs K).all (fun b => b) = true := c.more
  obtain ⟨_, F0⟩ := c.t.d.def_ 0 rfl
  obtain ⟨_, F1⟩ := c.t.d.def_ 1 rfl
  obtain ⟨_, F2⟩ := c.t.d.def_ 2 rfl
  obtain ⟨_, F3⟩ := c.t.d.def_ 3 rfl
  obtain ⟨_, F4⟩ := c.t.d.def_ 4 rfl
  obtain ⟨_, F5⟩ := c.t.d.def_ 5 rfl
  obtain ⟨_, F6⟩ := c.t.d.def_ 6 rfl
  obtain ⟨_, F7⟩ := c.t.d.def_ 7 rfl
  obtain ⟨_, F8⟩ := c.t.d.def_ 8 rfl
  obtain ⟨_, F9⟩ := c.t.d.def_ 9 rfl
  obtain ⟨_, F10⟩ := c.t.d.def_ 10 rfl
  obtain ⟨_, F11⟩ := c.t.d.def_ 11 rfl
  obtain ⟨_, F12⟩ := c.t.d.def_ 12 rfl
  obtain ⟨_, F13⟩ := c.t.d.def_ 13 rfl
  obtain ⟨_, F14⟩ := c.t.d.def_ 14 rfl
  obtain ⟨_, F15⟩ := c.t.d.def_ 15 rfl
  obtain ⟨_, F16⟩ := c.t.d.def_ 16 rfl
  obtain ⟨_, F17⟩ := c.t.d.def_ 17 rfl
  obtain ⟨_, F18⟩ := c.t.d.def_ 18 rfl
  obtain ⟨_, F19⟩ := c.t.d.def_ 19 rfl
  obtain ⟨_, F20⟩ := c.t.d.def_ 20 rfl
  obtain ⟨_, F21⟩ := c.t.d.def_ 21 rfl
  obtain ⟨_, F22⟩ := c.t.d.def_ 22 rfl
  obtain ⟨_, F23⟩ := c.t.d.def_ 23 rfl
  obtain ⟨_, F24⟩ := c.t.d.def_ 24 rfl
  obtain ⟨_, F25⟩ := c.t.d.def_ 25 rfl
  obtain ⟨_, F26⟩ := c.t.d.def_ 26 rfl
  obtain ⟨_, F27⟩ := c.t.d.def_ 27 rfl
  obtain ⟨_, F28⟩ := c.t.d.def_ 28 rfl
  obtain ⟨_, F29⟩ := c.t.d.def_ 29 rfl
  obtain ⟨_, F30⟩ := c.t.d.def_ 30 rfl
  obtain ⟨_, F31⟩ := c.t.d.def_ 31 rfl
  obtain ⟨_, F32⟩ := c.t.d.def_ 32 rfl
  obtain ⟨_, F33⟩ := c.t.d.def_ 33 rfl
  obtain ⟨_, F34⟩ := c.t.d.def_ 34 rfl
  obtain ⟨_, F35⟩ := c.t.d.def_ 35 rfl
  obtain ⟨_, F36⟩ := c.t.d.def_ 36 rfl
  obtain ⟨_, F37⟩ := c.t.d.def_ 37 rfl
  obtain ⟨_, F38⟩ := c.t.d.def_ 38 rfl
  obtain ⟨_, F39⟩ := c.t.d.def_ 39 rfl
  obtain ⟨_, F40⟩ := c.t.d.def_ 40 rfl
  obtain ⟨_, F41⟩ := c.t.d.def_ 41 rfl
  obtain ⟨_, F42⟩ := c.t.d.def_ 42 rfl
  obtain ⟨_, F43⟩ := c.t.d.def_ 43 rfl
  obtain ⟨_, F44⟩ := c.t.d.def_ 44 rfl
  obtain ⟨_, F45⟩ := c.t.d.def_ 45 rfl
  obtain ⟨_, F46⟩ := c.t.d.def_ 46 rfl
  obtain ⟨_, F47⟩ := c.t.d.def_ 47 rfl
  obtain ⟨_, F48⟩ := c.t.d.def_ 48 rfl
  obtain ⟨_, F49⟩ := c.t.d.def_ 49 rfl
  obtain ⟨_, F50⟩ := c.t.d.def_ 50 rfl
  obtain ⟨_, F51⟩ := c.t.d.def_ 51 rfl
  exact {
    cold := rfl,
    b_all := ev_bi X G (allAt a 0 rfl) rfl (by decide) rfl,
    b_bool := ev_bi X G (allAt a 1 rfl) rfl (by decide) rfl,
    b_int := ev_bi X G (allAt a 2 rfl) rfl (by decide) rfl,
    b_isinstance := ev_bi X G (allAt a 3 rfl) rfl (by decide) rfl,
    b_len := ev_bi X G (allAt a 4 rfl) rfl (by decide) rfl,
    b_list := ev_bi X G (allAt a 5 rfl) rfl (by decide) rfl,
    b_max := ev_bi X G (allAt a 6 rfl) rfl (by decide) rfl,
    b_min := ev_bi X G (allAt a 7 rfl) rfl (by decide) rfl,
    b_range := ev_bi X G (allAt a 8 rfl) rfl (by decide) rfl,
    b_sorted := ev_bi X G (allAt a 9 rfl) rfl (by decide) rfl,
    b_str := ev_bi X G (allAt a 10 rfl) rfl (by decide) rfl,
    b_sum := ev_bi X G (allAt a 11 rfl) rfl (by decide) rfl,
    b_tuple := ev_bi X G (allAt a 12 rfl) rfl (by decide) rfl,
    c_EVENTS := ev_tup X G (allAt a 13 rfl) (allAt a 14 rfl) rfl rfl,
    c_HAND := ev_int X G (allAt a 15 rfl),
    c_ITEMS := ev_int X G (allAt a 16 rfl),
    c_LAYERS := ev_tup X G (allAt a 17 rfl) (allAt a 18 rfl) rfl rfl,
    c_LIFE := ev_int X G (allAt a 19 rfl),
    c_SEATS := ev_int X G (allAt a 20 rfl),
    c_SIZE := ev_int X G (allAt a 21 rfl),
    c_UNITS := ev_int X G (allAt a 22 rfl),
    c_WHOSE := ev_tup X G (allAt a 23 rfl) (allAt a 24 rfl) rfl rfl,
    tb_SIZES := ev_gdict X G (allAt a 25 rfl) (c.t.tab 0) (allAt a 26 rfl),
    x_Full := ev_exc X G (allAt a 27 rfl) (allAt a 28 rfl),
    x_NoCard := ev_exc X G (allAt a 29 rfl) (allAt a 30 rfl),
    x_NoDeed := ev_exc X G (allAt a 31 rfl) (allAt a 32 rfl),
    x_NoSeat := ev_exc X G (allAt a 33 rfl) (allAt a 34 rfl),
    x_NoTable := ev_exc X G (allAt a 35 rfl) (allAt a 36 rfl),
    x_NoTarget := ev_exc X G (allAt a 37 rfl) (allAt a 38 rfl),
    x_NotYet := ev_exc X G (allAt a 39 rfl) (allAt a 40 rfl),
    x_Over := ev_exc X G (allAt a 41 rfl) (allAt a 42 rfl),
    at_Floor_coming := ev_at X G (allAt a 43 rfl) (allAt a 44 rfl) (allAt a 45 rfl),
    at_Floor_men := ev_at X G (allAt a 43 rfl) (allAt a 44 rfl) (allAt a 46 rfl),
    at_Floor_stays := ev_at X G (allAt a 43 rfl) (allAt a 44 rfl) (allAt a 47 rfl),
    at_Table_asked := ev_at X G (allAt a 48 rfl) (allAt a 49 rfl) (allAt a 50 rfl),
    at_Table_count := ev_at X G (allAt a 48 rfl) (allAt a 49 rfl) (allAt a 51 rfl),
    at_Table_due := ev_at X G (allAt a 48 rfl) (allAt a 49 rfl) (allAt a 52 rfl),
    at_Table_floor := ev_at X G (allAt a 48 rfl) (allAt a 49 rfl) (allAt a 53 rfl),
    at_Table_hands := ev_at X G (allAt a 48 rfl) (allAt a 49 rfl) (allAt a 54 rfl),
    at_Table_lives := ev_at X G (allAt a 48 rfl) (allAt a 49 rfl) (allAt a 55 rfl),
    at_Table_passes := ev_at X G (allAt a 48 rfl) (allAt a 49 rfl) (allAt a 56 rfl),
    at_Table_stack := ev_at X G (allAt a 48 rfl) (allAt a 49 rfl) (allAt a 57 rfl),
    at_Table_turner := ev_at X G (allAt a 48 rfl) (allAt a 49 rfl) (allAt a 58 rfl),
    tP := ev_take X G (allAt a 59 rfl) (allAt a 60 rfl),
    t_PileError := ev_take X G (allAt a 59 rfl) (allAt a 61 rfl),
    d__law_cell_at := ev_def X G (allAt a 62 rfl) F0,
    d__law_mixed := ev_def X G (allAt a 63 rfl) F1,
    d__law_draw := ev_def X G (allAt a 64 rfl) F2,
    d__law_pick := ev_def X G (allAt a 65 rfl) F3,
    d__law_answer := ev_def X G (allAt a 66 rfl) F4,
    d__law_card := ev_def X G (allAt a 67 rfl) F5,
    d__law_table := ev_def X G (allAt a 68 rfl) F6,
    d_is_whole := ev_def X G (allAt a 69 rfl) F7,
    d_is_one_of := ev_def X G (allAt a 70 rfl) F8,
    d_is_answer := ev_def X G (allAt a 71 rfl) F9,
    d_is_when := ev_def X G (allAt a 72 rfl) F10,
    d_is_card := ev_def X G (allAt a 73 rfl) F11,
    d_are_hands := ev_def X G (allAt a 74 rfl) F12,
    d_Floor___init__ := ev_make X G (allAt a 43 rfl) (allAt a 75 rfl) F13,
    d_Table___init__ := ev_make X G (allAt a 48 rfl) (allAt a 76 rfl) F14,
    d_Table_alive := ev_meth X G (allAt a 48 rfl) (allAt a 49 rfl) (allAt a 77 rfl) F15,
    d_Table_is_over := ev_meth X G (allAt a 48 rfl) (allAt a 49 rfl) (allAt a 78 rfl) F16,
    d_Table_now := ev_meth X G (allAt a 48 rfl) (allAt a 49 rfl) (allAt a 79 rfl) F17,
    d_Table_need_seat := ev_meth X G (allAt a 48 rfl) (allAt a 49 rfl) (allAt a 80 rfl) F18,
    d_Table_need_asked := ev_meth X G (allAt a 48 rfl) (allAt a 49 rfl) (allAt a 81 rfl) F19,
    d_Table_has_target := ev_meth X G (allAt a 48 rfl) (allAt a 49 rfl) (allAt a 82 rfl) F20,
    d_Table_put := ev_meth X G (allAt a 48 rfl) (allAt a 49 rfl) (allAt a 83 rfl) F21,
    d_Table_play := ev_meth X G (allAt a 48 rfl) (allAt a 49 rfl) (allAt a 84 rfl) F22,
    d__law_play := ev_def X G (allAt a 85 rfl) F23,
    d_Table_seats_from := ev_meth X G (allAt a 48 rfl) (allAt a 49 rfl) (allAt a 86 rfl) F24,
    d_Table_behind := ev_meth X G (allAt a 48 rfl) (allAt a 49 rfl) (allAt a 87 rfl) F25,
    d_Table_is_there := ev_meth X G (allAt a 48 rfl) (allAt a 49 rfl) (allAt a 88 rfl) F26,
    d_touches := ev_def X G (allAt a 89 rfl) F27,
    d_Table_targets := ev_meth X G (allAt a 48 rfl) (allAt a 49 rfl) (allAt a 90 rfl) F28,
    d_Table_happens := ev_meth X G (allAt a 48 rfl) (allAt a 49 rfl) (allAt a 91 rfl) F29,
    d_Table_touch := ev_meth X G (allAt a 48 rfl) (allAt a 49 rfl) (allAt a 92 rfl) F30,
    d_Floor_new_number := ev_meth X G (allAt a 43 rfl) (allAt a 44 rfl) (allAt a 93 rfl) F31,
    d_Floor_bring := ev_meth X G (allAt a 43 rfl) (allAt a 44 rfl) (allAt a 94 rfl) F32,
    d_Floor_stand := ev_meth X G (allAt a 43 rfl) (allAt a 44 rfl) (allAt a 95 rfl) F33,
    d_Table_resolve := ev_meth X G (allAt a 48 rfl) (allAt a 49 rfl) (allAt a 96 rfl) F34,
    d_Floor_layer := ev_meth X G (allAt a 43 rfl) (allAt a 44 rfl) (allAt a 97 rfl) F35,
    d_Floor_power := ev_meth X G (allAt a 43 rfl) (allAt a 44 rfl) (allAt a 98 rfl) F36,
    d_Floor_failing := ev_meth X G (allAt a 43 rfl) (allAt a 44 rfl) (allAt a 99 rfl) F37,
    d_Floor_of := ev_meth X G (allAt a 43 rfl) (allAt a 44 rfl) (allAt a 100 rfl) F38,
    d_Table_failing := ev_meth X G (allAt a 48 rfl) (allAt a 49 rfl) (allAt a 101 rfl) F39,
    d_Table_clear_out := ev_meth X G (allAt a 48 rfl) (allAt a 49 rfl) (allAt a 102 rfl) F40,
    d_Table_settle_down := ev_meth X G (allAt a 48 rfl) (allAt a 49 rfl) (allAt a 103 rfl) F41,
    d_Table_go_by := ev_meth X G (allAt a 48 rfl) (allAt a 49 rfl) (allAt a 104 rfl) F42,
    d__law_pass := ev_def X G (allAt a 105 rfl) F43,
    d_is_deed := ev_def X G (allAt a 106 rfl) F44,
    d_do := ev_def X G (allAt a 107 rfl) F45,
    d_run := ev_def X G (allAt a 108 rfl) F46,
    d__law_asked := ev_def X G (allAt a 109 rfl) F47,
    d_Table_units := ev_meth X G (allAt a 48 rfl) (allAt a 49 rfl) (allAt a 110 rfl) F48,
    d_Table_pile := ev_meth X G (allAt a 48 rfl) (allAt a 49 rfl) (allAt a 111 rfl) F49,
    d_law := ev_def X G (allAt a 112 rfl) F50,
    xc := ev_xc X G (allAt a 113 rfl),
    xk_NoTable := ev_xk X G (allAt a 35 rfl) (allAt a 114 rfl),
    xk_NoSeat := ev_xk X G (allAt a 33 rfl) (allAt a 115 rfl),
    xk_NotYet := ev_xk X G (allAt a 39 rfl) (allAt a 116 rfl),
    xk_NoCard := ev_xk X G (allAt a 29 rfl) (allAt a 117 rfl),
    xk_NoTarget := ev_xk X G (allAt a 37 rfl) (allAt a 118 rfl),
    xk_NoUnit := ev_xk X G (allAt a 119 rfl) (allAt a 120 rfl),
    xk_Over := ev_xk X G (allAt a 41 rfl) (allAt a 121 rfl),
    xk_NoCount := ev_xk X G (allAt a 122 rfl) (allAt a 123 rfl),
    xk_Full := ev_xk X G (allAt a 27 rfl) (allAt a 124 rfl),
    xk_TooMany := ev_xk X G (allAt a 125 rfl) (allAt a 126 rfl),
    xk_NoDeed := ev_xk X G (allAt a 31 rfl) (allAt a 127 rfl),
    xk_ValueError := ev_xkb X G (ev_bi X G (allAt a 128 rfl) rfl (by decide) rfl) (allAt a 129 rfl),
    d_which := ev_def X G (allAt a 130 rfl) F51 }
abbrev R : PySem.W.OpenRow := PySem.W.OpenLaw.row PySem.Challenge.rw_answerpile_k17_runs
abbrev hk : PySem.W.Hook := He.hookX 6 [] fn ts [] ex
def ob (s : PySem.W.SharedT) : He.AlX := He.obsX 6 [] fn ts [] ex (HandSHeadRun.getT s)
theorem ob_eq (s : PySem.W.SharedT) : ob s = hk.obs s.abs := He.obsX_eq (HandSHeadRun.getT_eq s)
def loose : List Str := (["_wall", "PileError", "NoTable", "NoSeat", "NotYet", "NoCard", "NoTarget", "NoUnit", "Over", "NoCount", "Full", "TooMany", "NoDeed", "SEATS", "LIFE", "SIZE", "HAND", "EVENTS", "LAYERS", "WHOSE", "is_whole", "is_one_of", "is_answer", "is_when", "is_card", "are_hands", "Floor", "touches", "ITEMS", "UNITS"] : List Str) ++ (["Table", "SIZES", "is_deed", "do", "run", "_law_cell_at", "_law_mixed", "_law_draw", "_law_pick", "_law_answer", "_law_card", "_law_table", "_law_which", "_law_play", "_law_pass", "_law_asked"] : List Str)
theorem run0 (w : World) : HandSHeadRun.RunEq R (PySem.W.view R.prog [52]) hk ob 20000 loose (w.withFollow "special-get-raises" false) := by
  intro os
  kernel_rfl
theorem run1 (w : World) : HandSHeadRun.RunEq R (PySem.W.view R.prog [52]) hk ob 20000 loose (w.withFollow "special-get-raises" true) := by
  intro os
  kernel_rfl
theorem run (w : World) : HandSHeadRun.RunEq R (PySem.W.view R.prog [52]) hk ob 20000 loose w :=
  PySem.W.byRow2 "special-get-raises" (P := fun w => HandSHeadRun.RunEq R (PySem.W.view R.prog [52]) hk ob 20000 loose w) run0 run1 w
end A17


end
section
set_option Elab.async false
set_option linter.all false
set_option maxRecDepth 100000
set_option autoImplicit false
namespace TB
open PySem DM PR L2 PySem.Spec
section
variable {S0 S : Sto} {A0 A : Ro → Nat} {T0 T : Tb} {n b : Nat} {Q : RV → Sto → Prop} {E : Str → Sto → Prop}
theorem wp_pile (h : Rep S A T) (k : Ks T) : ((@DM.wpK _ (sem_Table_pile [.ref (A .obj)] S) ⟨Q, E⟩)) = Q (.ol (T.stack.map pileD)) S := wp_of_eq (pile_eq h k)
theorem wp_units (h : Rep S A T) (k : Ks T) : ((@DM.wpK _ (sem_Table_units [.ref (A .obj)] S) ⟨Q, E⟩)) = Q (.ol (T.units.map unitD)) S := wp_of_eq (units_eq h k)
theorem wp_standing (h : Rep S A T) (k : Ks T) : ((@DM.wpK _ (sem_Table_standing [.ref (A .obj)] S) ⟨Q, E⟩)) = Q (.ol (T.stays.map pileD)) S := wp_of_eq (standing_eq h k)
theorem wp_now (h : Rep S A T) (k : Ks T) : ((@DM.wpK _ (sem_Table_now [.ref (A .obj)] S) ⟨Q, E⟩)) = Q (.val (if T.isOver then .non else .tup [.int T.turner, .int T.asked, .int T.passes])) S := wp_of_eq (now_eq h k)
theorem wp_life (h : Rep S A T) {s : Int} (h0 : 0 ≤ s) (h1 : s < T.n) : ((@DM.wpK _ (sem_Table_life [.ref (A .obj), .int s] S) ⟨Q, E⟩)) = Q (.val (.int (T.life s))) S := wp_of_eq (life_eq h h0 h1)
theorem wp_hand (h : Rep S A T) (k : Ks T) {s : Int} (h0 : 0 ≤ s) (h1 : s < T.n) : ((@DM.wpK _ (sem_Table_hand [.ref (A .obj), .int s] S) ⟨Q, E⟩)) = Q (.val (.tup ((T.hand s).map Cd.d))) S := wp_of_eq (hand_eq h k h0 h1)
/-- a law's table, and its cell of draws -/
structure LS (t c : Nat) (S : Sto) (A : Ro → Nat) (T : Tb) (n b : Nat) : Prop where
  rep : Rep S A T
  k : Ks T
  i : In n T
  due : T.due = []
  n2 : 2 ≤ n
  b : T.coming ≤ b
  twn : TownAt S t c
  tl : t < S.nx
  aw : ∀ r, live T r → A r ≠ t
section
variable {t c : Nat} {T' : Tb} {A' : Ro → Nat} {S' : Sto}
theorem LS.tb (l : LS t c S A T n b) : TbAt S A T S A T n b := ⟨.refl l.rep, l.k, l.i, l.due, l.n2, l.b⟩
theorem LS.of (l : LS t c S A T n b) {b' : Nat} (x : TbAt S A T S' A' T' n b') : LS t c S' A' T' n b' :=
  ⟨x.u.rep, x.k, x.i, x.due, x.n2, x.b, (x.u.keep t l.tl l.aw).trans l.twn, Nat.lt_of_lt_of_le l.tl x.u.nx, fun r lr e => by
    rcases x.u.fp r lr with ⟨r0, h1, h2⟩ | h
    · exact l.aw r0 h1 (h2.trans e)
    · have := l.tl; omega⟩
theorem LS.goBy (l : LS t c S A T n b) (ho : T.isOver = false) (hb : b < 1000000) :
    (@DM.wpK _ (sem_Table_go_by [.ref (A .obj), .int T.asked] S) ⟨(fun v S' => v = .ol (T.goBy.1.map Nt.d) ∧ T.goBy.1.length ≤ 65 ∧ ∃ A', LS t c S' A' T.goBy.2 n (b + 1) ∧ A' .obj = A .obj), (fun _ _ => False)⟩) :=
  wp_use (l.tb.goBy ho hb) fun v S' z => by
    obtain ⟨h1, h2, A', h3, h4⟩ := z
    exact ⟨h1, h2, A', l.of h3, h4⟩
theorem LS.play (l : LS t c S A T n b) (ho : T.isOver = false) {p : Int} :
    (@DM.wpK _ (sem_Table_play [.ref (A .obj), .int T.asked, .int p] S) ⟨(fun v S' => T.playNo T.asked p = none ∧ v = .val (.int T.count) ∧ ∃ A', LS t c S' A' (T.playOk T.asked p) n b ∧ A' .obj = A .obj), (fun e S' => S' = S ∧ ∃ m, T.playNo T.asked p = some m ∧ e = refName m)⟩) :=
  wp_mono (l.tb.play ho) (fun v S' z => by
    obtain ⟨h1, h2, A', h3, h4⟩ := z
    exact ⟨h1, h2, A', l.of h3, h4⟩) fun _ _ z => z
theorem LS.play1 (l : LS t c S A T n b) (ho : T.isOver = false) {p : Int} (hp : T.playNo T.asked p = none) :
    (@DM.wpK _ (sem_Table_play [.ref (A .obj), .int T.asked, .int p] S) ⟨(fun v S' => v = .val (.int T.count) ∧ ∃ A', LS t c S' A' (T.playOk T.asked p) n b ∧ A' .obj = A .obj), (fun _ _ => False)⟩) :=
  wp_mono (l.play ho) (fun v S' z => z.2) fun e S' z => by
    obtain ⟨_, m, h, _⟩ := z
    rw [hp] at h; cases h
theorem LS.wf (l : LS t c S A T n b) : WF T := l.tb.wf
theorem LS.tick (l : LS t c S A T n b) : LS t (c + 1) (tick S t c) A T n b :=
  ⟨l.rep.ext (Nat.le_refl _) fun r lr => tick_c (l.aw r lr), l.k, l.i, l.due, l.n2, l.b, tick_at, l.tl, l.aw⟩
theorem LS.new (l : LS t c S A T n b) (x : Cell) : LS t c (S.new x) A T n b :=
  ⟨l.rep.ext (Nat.le_succ _) fun r lr => new_other (Nat.ne_of_lt (l.rep.lt r lr)), l.k, l.i, l.due, l.n2, l.b, (new_other (Nat.ne_of_lt l.tl)).trans l.twn, Nat.lt_succ_of_lt l.tl, l.aw⟩
theorem LS.make {n0 : Nat} {ls : List Int} {hs : List (List Cd)} (o : OkNew ls hs) (hn : n0 = S.nx) (twn : TownAt S t c) (tl : t < S.nx) :
    (@DM.wpK _ (sem_Table___init__ [.ref n0, .tup (ls.map .int), .tup (hs.map handD)] (S.new (.obj "Table" []))) ⟨(fun v S' => v = .val .non ∧ ∃ A, LS t c S' A (Tb.new ls hs) ls.length 0 ∧ A .obj = n0), (fun _ _ => False)⟩) := by
  subst hn
  refine wp_use (init_w o new_same rfl) fun v S' z => ?_
  obtain ⟨rfl, A, r, e, lo, hx, keep⟩ := z
  have w := new_wf o
  exact ⟨rfl, A, ⟨r, w.toKs, new_in o, rfl, o.n2, Int.le_refl 0, by show S'.c t = _; rw [keep t tl, new_other (by omega)]; exact twn, by omega, fun r lr => by have := lo r lr; omega⟩, e⟩
end
end
end TB


end
section
set_option Elab.async false
set_option linter.all false
set_option maxRecDepth 100000
set_option autoImplicit false
namespace QA
open PySem DM PR
theorem wp_pick {ns : List Int} {ds : List D} {S : Sto} {t n : Nat} {Q : RV → Sto → Prop} {E : Str → Sto → Prop} (h : TownAt S t n) (hn : n < 16000000) (hd : ds ≠ []) (ho : ∀ d ∈ ds, d.isOwn = false) : ((@DM.wpK _ (sem__law_pick [scrD ns, .ref t, .lst ds] S) ⟨Q, E⟩)) = Q (.val (ds.getD (uV ns (n + 1) % ds.length).toNat .non)) (tick S t n) := wp_of_eq (pick_eq h hn hd ho)
theorem pick_mem {ns : List Int} {ds : List D} {k : Nat} (hd : ds ≠ []) : ds.getD (uV ns k % ds.length).toNat .non ∈ ds := by
  have hp : 0 < ds.length := List.length_pos_iff.mpr hd
  have h1 : 0 ≤ uV ns k % ds.length := Int.emod_nonneg _ (by omega)
  have h2 : uV ns k % ds.length < ds.length := Int.emod_lt_of_pos _ (by omega)
  have : (uV ns k % ds.length).toNat < ds.length := by omega
  rw [getD_of this]; exact List.getElem_mem this
end QA
namespace TB
open PySem DM PR L2 PySem.Spec
variable {T : Tb} {n : Nat}
theorem playNo_cases {s p : Int} {m : Nat} (h : T.playNo s p = some m) : m = 3 ∨ m = 4 ∨ m = 8 := by
  unfold Tb.playNo at h
  split at h
  · cases h; exact .inl rfl
  · split at h
    · cases h; exact .inr (.inl rfl)
    · split at h
      · cases h; exact .inr (.inr rfl)
      · cases h
theorem resolve_hands {num o : Int} {c : Cd} : (T.resolve num o c).2.hands = T.hands := by
  unfold Tb.resolve
  split
  · rfl
  · cases c with
    | hit t m => exact (each_same (f := fun T s => T.hitOne s m) (fun T s => Same.hit) (T.targets o t) T).hands
    | mend t m => exact (each_same (f := fun T s => T.mendOne s m) (fun T s => Same.mend) (T.targets o t) T).hands
    | _ => rfl
theorem fall_hands : ∀ (k : Nat) (T : Tb), (Tb.fall k T).2.hands = T.hands
  | 0, T => rfl
  | k + 1, T => by
    unfold Tb.fall
    split
    · rfl
    · exact (fall_hands k T.fallOnce).trans (goes_same T.failing.length T).1.hands
theorem waitRow_hands {s : Int} : ∀ (l : List (Int × Cd)) (T : Tb), (Tb.waitRow s l T).2.hands = T.hands
  | [], T => rfl
  | d :: l, T => (waitRow_hands l _).trans (by unfold Tb.waitOne; split <;> rfl)
theorem waitAll_hands {due : List (Int × Cd)} : ∀ (l : List Int) (T : Tb), (Tb.waitAll due l T).2.hands = T.hands
  | [], T => rfl
  | s :: l, T => (waitAll_hands l _).trans (waitRow_hands _ _)
theorem settle_hands : T.settleDown.2.hands = T.hands := by
  unfold Tb.settleDown
  dsimp only
  rw [waitAll_hands]
  exact fall_hands _ T
theorem goBy_hands : T.goBy.2.hands = T.hands := by
  unfold Tb.goBy
  split
  · rfl
  · split
    · rfl
    · rw [after_snd]
      have : ∀ T : Tb, T.ask.hands = T.hands := fun T => by unfold Tb.ask; split <;> rfl
      rw [this, settle_hands, resolve_hands]
theorem cd_ok {c : Cd} : okD 7 c.d = true := by
  cases c with
  | hit t n => cases t <;> rfl
  | mend t n => cases t <;> rfl
  | bring n w =>
    cases w with
    | none => rfl
    | some p => obtain ⟨e, a⟩ := p; cases a <;> rfl
  | _ => rfl
theorem okD_mono : ∀ (n : Nat) (d : D), okD n d = true → okD (n + 1) d = true
  | 0, d, h => by cases d <;> first | rfl | cases h
  | n + 1, d, h => by
    have go : ∀ ds : List D, ds.all (okD n) = true → ds.all (okD (n + 1)) = true := fun ds h => List.all_eq_true.mpr fun x hx => okD_mono n x (List.all_eq_true.mp h x hx)
    cases d with
    | tup ds => exact go ds h
    | lst ds => exact go ds h
    | scr ds => exact go ds h
    | non => rfl
    | bl b => rfl
    | int i => rfl
    | str s => rfl
    | dic _ => cases h
    | ref _ => cases h
    | own _ => cases h
theorem okD_le {n m : Nat} {d : D} (h : okD n d = true) (l : n ≤ m) : okD m d = true := by
  induction l with
  | refl => exact h
  | step _ ih => exact okD_mono _ _ ih
theorem cds_ok {h : List Cd} : okD 60 (.tup (h.map Cd.d)) = true := by
  show (h.map Cd.d).all (okD 59) = true
  rw [List.all_map]
  exact List.all_eq_true.mpr fun c _ => okD_le (cd_ok (c := c)) (by decide)
theorem hand_ne {h : List Cd} {δ : List Sl} {S : Sto} : cNe δ S (.tup (h.map Cd.d)) (.tup []) = some (decide (h ≠ [])) := by
  unfold cNe cEq
  show ((if (okD 60 (.tup (h.map Cd.d)) && okD 60 (.tup [])) = true then some (eqD (.tup (h.map Cd.d)) (.tup [])) else none).map _) = _
  rw [if_pos (by rw [cds_ok]; rfl)]
  cases h <;> rfl
end TB


end
section
set_option Elab.async false
set_option linter.all false
set_option maxRecDepth 100000
set_option autoImplicit false
namespace QA
open PySem DM PR TB L2 PySem.Spec
/-- behind some draws: the cell of draws, and every older cell as it was -/
structure Dr (t B : Nat) (S0 S : Sto) : Prop where
  twn : ∃ n, n ≤ B ∧ TownAt S t n
  tl : t < S.nx
  nx : S0.nx ≤ S.nx
  keep : ∀ a, a < S0.nx → a ≠ t → S.c a = S0.c a
variable {ns : List Int} {t B : Nat} {S0 S : Sto}
theorem Dr.self {n : Nat} (h : TownAt S t n) (hn : n ≤ B) (tl : t < S.nx) : Dr t B S S := ⟨⟨n, hn, h⟩, tl, Nat.le_refl _, fun _ _ _ => rfl⟩
theorem Dr.tick {n : Nat} (d : Dr t B S0 S) (hn : n ≤ B) : Dr t (B + 1) S0 (tick S t n) :=
  ⟨⟨n + 1, by omega, tick_at⟩, d.tl, d.nx, fun a h1 h2 => (tick_c h2).trans (d.keep a h1 h2)⟩
theorem Dr.new (d : Dr t B S0 S) (x : Cell) : Dr t B S0 (S.new x) := by
  obtain ⟨n, hn, h⟩ := d.twn
  exact ⟨⟨n, hn, (new_other (Nat.ne_of_lt d.tl)).trans h⟩, Nat.lt_succ_of_lt d.tl, Nat.le_succ_of_le d.nx, fun a h1 h2 => (new_other (by have := d.nx; omega)).trans (d.keep a h1 h2)⟩
theorem Dr.set (d : Dr t B S0 S) {k : Nat} {x : Option Cell} (hk : S0.nx ≤ k) (ht : k ≠ t) : Dr t B S0 (S.set k x) := by
  obtain ⟨n, hn, h⟩ := d.twn
  exact ⟨⟨n, hn, (set_other (Ne.symm ht)).trans h⟩, d.tl, d.nx, fun a h1 h2 => (set_other (by omega)).trans (d.keep a h1 h2)⟩
theorem Dr.up {C : Nat} (d : Dr t B S0 S) (h : B ≤ C) : Dr t C S0 S := by
  obtain ⟨n, hn, h1⟩ := d.twn
  exact ⟨⟨n, by omega, h1⟩, d.tl, d.nx, d.keep⟩
theorem Dr.trans {C : Nat} {S1 : Sto} (d : Dr t B S0 S1) (e : Dr t C S1 S) : Dr t C S0 S :=
  ⟨e.twn, e.tl, Nat.le_trans d.nx e.nx, fun a h1 h2 => (e.keep a (Nat.lt_of_lt_of_le h1 d.nx) h2).trans (d.keep a h1 h2)⟩
theorem drawX {many : Int} (d : Dr t B S0 S) (hB : B < 16000000) (hm : 0 < many) :
    (@DM.wpK _ (sem__law_draw [scrD ns, .ref t, .int many] S) ⟨(fun v S' => ∃ x : Int, (0 ≤ x ∧ x < many) ∧ v = .val (.int x) ∧ Dr t (B + 1) S0 S' ∧ S'.nx = S.nx ∧ ∀ a, a ≠ t → S'.c a = S.c a), (fun _ _ => False)⟩) := by
  obtain ⟨n, hn, h⟩ := d.twn
  rw [wp_draw h (by omega) hm]
  exact ⟨_, ⟨Int.emod_nonneg _ (by omega), Int.emod_lt_of_pos _ hm⟩, rfl, d.tick hn, rfl, fun a h2 => tick_c h2⟩
theorem pickX {ds : List D} (d : Dr t B S0 S) (hB : B < 16000000) (hd : ds ≠ []) (ho : ∀ d ∈ ds, d.isOwn = false) :
    (@DM.wpK _ (sem__law_pick [scrD ns, .ref t, .lst ds] S) ⟨(fun v S' => ∃ x ∈ ds, v = .val x ∧ Dr t (B + 1) S0 S' ∧ S'.nx = S.nx ∧ ∀ a, a ≠ t → S'.c a = S.c a), (fun _ _ => False)⟩) := by
  obtain ⟨n, hn, h⟩ := d.twn
  rw [wp_pick h (by omega) hd ho]
  exact ⟨_, pick_mem hd, rfl, d.tick hn, rfl, fun a h2 => tick_c h2⟩
theorem pickRX {ds : List D} {k : Nat} (d : Dr t B S0 S) (hB : B < 16000000) (hd : ds ≠ []) (ho : ∀ d ∈ ds, d.isOwn = false) (hk : k ≠ t) (e : S.c k = some (.lst ds)) :
    (@DM.wpK _ (sem__law_pick [scrD ns, .ref t, .ref k] S) ⟨(fun v S' => ∃ x ∈ ds, v = .val x ∧ Dr t (B + 1) S0 S' ∧ S'.nx = S.nx ∧ ∀ a, a ≠ t → S'.c a = S.c a), (fun _ _ => False)⟩) := by
  obtain ⟨n, hn, h⟩ := d.twn
  rw [wp_of_eq (pickR_eq h (by omega) hd ho hk e)]
  exact ⟨_, pick_mem hd, rfl, d.tick hn, rfl, fun a h2 => tick_c h2⟩
theorem whoX {x : D} (hx : x ∈ [D.str (Str.ofString "mine"), .str (Str.ofString "others"), .str (Str.ofString "all")]) : ∃ w : Who, x = .str w.s := by
  simp only [List.mem_cons, List.not_mem_nil, or_false] at hx
  rcases hx with rfl | rfl | rfl
  · exact ⟨.mine, rfl⟩
  · exact ⟨.others, rfl⟩
  · exact ⟨.all, rfl⟩
theorem own3 {a b c : Str} : ∀ d ∈ [D.str a, .str b, .str c], d.isOwn = false := by
  intro d h
  simp only [List.mem_cons, List.not_mem_nil, or_false] at h
  rcases h with rfl | rfl | rfl <;> rfl
theorem own4 {a b c e : Str} : ∀ d ∈ [D.str a, .str b, .str c, .str e], d.isOwn = false := by
  intro d h
  simp only [List.mem_cons, List.not_mem_nil, or_false] at h
  rcases h with rfl | rfl | rfl | rfl <;> rfl
theorem own4i {a b c e : Int} : ∀ d ∈ [D.int a, .int b, .int c, .int e], d.isOwn = false := by
  intro d h
  simp only [List.mem_cons, List.not_mem_nil, or_false] at h
  rcases h with rfl | rfl | rfl | rfl <;> rfl
theorem answerX (d : Dr t B S0 S) (hB : B < 15000000) :
    (@DM.wpK _ (sem__law_answer [scrD ns, .ref t] S) ⟨(fun v S' => ∃ a : An, a.valid = true ∧ v = .val a.d ∧ Dr t (B + 5) S0 S'), (fun _ _ => False)⟩) := by
  unfold sem__law_answer
  rw [wp_sem]
  refine ⟨rfl, ?_⟩
  unfold m__law_answer
  walk_at "tw"
  refine wp_use (pickX d (by omega) (by simp) own3) fun v S1 z => ?_
  obtain ⟨x, hx, rfl, d1, n1, k1⟩ := z
  obtain ⟨w, rfl⟩ := whoX hx
  walk_at "tw"
  refine wp_use (drawX d1 (by omega) (by decide)) fun v S2 z => ?_
  obtain ⟨x1, b1, rfl, d2, n2, k2⟩ := z
  walk_at "tw"
  refine wp_use (drawX d2 (by omega) (by decide)) fun v S3 z => ?_
  obtain ⟨x2, b2, rfl, d3, n3, k3⟩ := z
  walk_at "tw"
  generalize hl : [D.tup [D.str (Str.ofString "hit"), D.str w.s, D.int (1 + x1)], D.tup [D.str (Str.ofString "mend"), D.str w.s, D.int (1 + x2)]] = ds
  have hlen : ds.length = 2 := by rw [← hl]; rfl
  have d4 := d3.new (.lst ds)
  have kt : S3.nx ≠ t := by have := d3.tl; omega
  refine ⟨l_ty_ref new_same, wp_use (drawX d4 (by omega) (by decide)) fun v S5 z => ?_⟩
  obtain ⟨x3, b3, rfl, d5, n5, k5⟩ := z
  have e5 : S5.c S3.nx = some (.lst ds) := (k5 _ kt).trans new_same
  have ea := l_app_ref (δ := [Sl.v (scrD ns), Sl.v (D.ref t), Sl.v (D.str w.s), Sl.v (D.ref S3.nx)]) (y := D.tup [.str (Str.ofString "bring"), .int (1 + x3), .non]) e5 rfl (by omega)
  k_call_by "tw" ⟨ea⟩
  have d6 := d5.set (x := some (.lst (ds ++ [D.tup [.str (Str.ofString "bring"), .int (1 + x3), .non]]))) (k := S3.nx) d3.nx kt
  refine wp_use (pickRX d6 (by omega) (by simp) (by
    intro d h
    rw [← hl] at h
    simp only [List.mem_append, List.mem_cons, List.not_mem_nil, or_false] at h
    rcases h with (rfl | rfl) | rfl <;> rfl) kt set_same) fun v S7 z => ?_
  obtain ⟨x, hx, rfl, d7, n7, k7⟩ := z
  rw [← hl] at hx
  simp only [List.mem_append, List.mem_cons, List.not_mem_nil, or_false] at hx
  have i1 : inB (1 + x1) 1 20 = true := by unfold inB; rw [decide_eq_true (by omega), decide_eq_true (by omega)]; rfl
  have i2 : inB (1 + x2) 1 20 = true := by unfold inB; rw [decide_eq_true (by omega), decide_eq_true (by omega)]; rfl
  have i3 : inB (1 + x3) 1 20 = true := by unfold inB; rw [decide_eq_true (by omega), decide_eq_true (by omega)]; rfl
  rcases hx with (rfl | rfl) | rfl
  · walk_at "tw"
    exact ⟨.hit w (1 + x1), i1, rfl, d7⟩
  · walk_at "tw"
    exact ⟨.mend w (1 + x2), i2, rfl, d7⟩
  · walk_at "tw"
    exact ⟨.bring (1 + x3), i3, rfl, d7⟩
theorem inB_ok {x a b : Int} (h1 : a ≤ x) (h2 : x ≤ b) : inB x a b = true := by unfold inB; rw [decide_eq_true h1, decide_eq_true h2]; rfl
theorem evX {x : D} (hx : x ∈ [D.str (Str.ofString "comes"), .str (Str.ofString "goes"), .str (Str.ofString "hurt"), .str (Str.ofString "mended")]) : ∃ w : Evn, x = .str w.s := by
  simp only [List.mem_cons, List.not_mem_nil, or_false] at hx
  rcases hx with rfl | rfl | rfl | rfl
  · exact ⟨.comes, rfl⟩
  · exact ⟨.goes, rfl⟩
  · exact ⟨.hurt, rfl⟩
  · exact ⟨.mended, rfl⟩
theorem layX {x : D} (hx : x ∈ [D.str (Str.ofString "set"), .str (Str.ofString "add"), .str (Str.ofString "cap")]) : ∃ w : Lay, x = .str w.s := by
  simp only [List.mem_cons, List.not_mem_nil, or_false] at hx
  rcases hx with rfl | rfl | rfl
  · exact ⟨.set, rfl⟩
  · exact ⟨.add, rfl⟩
  · exact ⟨.cap, rfl⟩
theorem cardX (d : Dr t B S0 S) (hB : B < 14000000) {n : Nat} (hn : 0 < n) :
    (@DM.wpK _ (sem__law_card [scrD ns, .ref t, .int n] S) ⟨(fun v S' => ∃ c : Cd, c.valid n = true ∧ v = .val c.d ∧ Dr t (B + 20) S0 S'), (fun _ _ => False)⟩) := by
  unfold sem__law_card
  rw [wp_sem]
  refine ⟨rfl, ?_⟩
  unfold m__law_card
  walk_at "tw"
  refine wp_use (drawX d (by omega) (by decide)) fun v S1 z => ?_
  obtain ⟨k, bk, rfl, d1, _, _⟩ := z
  walk_at "tw"
  refine wp_use (drawX d1 (by omega) (by decide)) fun v S2 z => ?_
  obtain ⟨x, bx, rfl, d2, _, _⟩ := z
  have ix : inB (1 + x) 1 20 = true := inB_ok (by omega) (by omega)
  walk_at "tw"
  refine wif_split (fun h => ?_) (fun h => ?_)
  · have h := of_decide_eq_true h
    rcases (by omega : k = 0 ∨ k = 1) with rfl | rfl
    · walk_at "tw"
      refine wp_use (drawX d2 (by omega) (by omega)) fun v S3 z => ?_
      obtain ⟨y, hy, rfl, d3, _, _⟩ := z
      walk_at "tw"
      exact ⟨.hit (.seat y) (1 + x), by show (_ && _) = true; rw [inB_ok (by omega) (by omega), ix]; rfl, rfl, d3.up (by omega)⟩
    · walk_at "tw"
      refine wp_use (drawX d2 (by omega) (by omega)) fun v S3 z => ?_
      obtain ⟨y, hy, rfl, d3, _, _⟩ := z
      walk_at "tw"
      exact ⟨.mend (.seat y) (1 + x), by show (_ && _) = true; rw [inB_ok (by omega) (by omega), ix]; rfl, rfl, d3.up (by omega)⟩
  · have h := of_decide_eq_false h
    walk_at "tw"
    refine wif_split (fun h2 => ?_) (fun h2 => ?_)
    · walk_at "tw"
      refine wp_use (drawX d2 (by omega) (by decide)) fun v S3 z => ?_
      obtain ⟨y, hy, rfl, d3, _, _⟩ := z
      walk_at "tw"
      exact ⟨.strike y (1 + x), by show (_ && _) = true; rw [inB_ok (by omega) (by omega), ix]; rfl, rfl, d3.up (by omega)⟩
    · have h2 := of_decide_eq_false h2
      walk_at "tw"
      refine wif_split (fun h3 => ?_) (fun h3 => ?_)
      · walk_at "tw"
        refine wp_use (pickX d2 (by omega) (by simp) own4) fun v S3 z => ?_
        obtain ⟨e, he, rfl, d3, _, _⟩ := z
        obtain ⟨e, rfl⟩ := evX he
        walk_at "tw"
        refine wp_use (answerX d3 (by omega)) fun v S4 z => ?_
        obtain ⟨a, ha, rfl, d4⟩ := z
        walk_at "tw"
        refine wp_use (drawX d4 (by omega) (by decide)) fun v S5 z => ?_
        obtain ⟨y, by1, rfl, d5, _, _⟩ := z
        rcases (by omega : y = 0 ∨ y = 1 ∨ y = 2) with rfl | rfl | rfl
        · walk_at "tw"
          exact ⟨.bring (1 + x) (some (e, a)), by show (inB (1 + x) 1 20 && a.valid) = true; rw [ix, ha]; rfl, rfl, d5.up (by omega)⟩
        · walk_at "tw"
          exact ⟨.bring (1 + x) (some (e, a)), by show (inB (1 + x) 1 20 && a.valid) = true; rw [ix, ha]; rfl, rfl, d5.up (by omega)⟩
        · walk_at "tw"
          exact ⟨.bring (1 + x) none, ix, rfl, d5.up (by omega)⟩
      · walk_at "tw"
        refine wif_split (fun h4 => ?_) (fun h4 => ?_)
        · walk_at "tw"
          refine wp_use (drawX d2 (by omega) (by decide)) fun v S3 z => ?_
          obtain ⟨y, hy, rfl, d3, _, _⟩ := z
          walk_at "tw"
          exact ⟨.bar y, inB_ok (by omega) (by omega), rfl, d3.up (by omega)⟩
        · walk_at "tw"
          refine wif_split (fun h5 => ?_) (fun h5 => ?_)
          · walk_at "tw"
            refine wp_use (drawX d2 (by omega) (by decide)) fun v S3 z => ?_
            obtain ⟨y, hy, rfl, d3, _, _⟩ := z
            walk_at "tw"
            exact ⟨.lift y, inB_ok (by omega) (by omega), rfl, d3.up (by omega)⟩
          · walk_at "tw"
            refine wp_use (pickX d2 (by omega) (by simp) own3) fun v S3 z => ?_
            obtain ⟨w, hw, rfl, d3, _, _⟩ := z
            obtain ⟨w, rfl⟩ := whoX hw
            walk_at "tw"
            refine wp_use (pickX d3 (by omega) (by simp) own3) fun v S4 z => ?_
            obtain ⟨l, hl, rfl, d4, _, _⟩ := z
            obtain ⟨l, rfl⟩ := layX hl
            walk_at "tw"
            refine wp_use (drawX d4 (by omega) (by decide)) fun v S5 z => ?_
            obtain ⟨y, by1, rfl, d5, _, _⟩ := z
            walk_at "tw"
            exact ⟨.stand l w y, inB_ok (by omega) (by omega), rfl, d5.up (by omega)⟩
theorem liveX {x : D} (hx : x ∈ [D.int 1, .int 5, .int 20, .int 99]) : ∃ l : Int, (1 ≤ l ∧ l ≤ 99) ∧ x = .int l := by
  simp only [List.mem_cons, List.not_mem_nil, or_false] at hx
  rcases hx with rfl | rfl | rfl | rfl
  · exact ⟨1, by decide, rfl⟩
  · exact ⟨5, by decide, rfl⟩
  · exact ⟨20, by decide, rfl⟩
  · exact ⟨99, by decide, rfl⟩
theorem tableX (d : Dr t B S0 S) (hB : B < 13000000) :
    (@DM.wpK _ (sem__law_table [scrD ns, .ref t] S) ⟨(fun v S' => ∃ (ls : List Int) (hs : List (List Cd)), OkNew ls hs ∧ v = .val (.tup [.tup (ls.map .int), .tup (hs.map handD)]) ∧ Dr t (B + 1000) S0 S'), (fun _ _ => False)⟩) := by
  unfold sem__law_table
  rw [wp_sem]
  refine ⟨rfl, ?_⟩
  unfold m__law_table
  walk_at "tw"
  refine wp_use (drawX d (by omega) (by decide)) fun v S1 z => ?_
  obtain ⟨k, bk, rfl, d1, _, _⟩ := z
  obtain ⟨n, hn, n2, n4⟩ : ∃ n : Nat, 2 + k = n ∧ 2 ≤ n ∧ n ≤ 4 := ⟨(2 + k).toNat, by omega, by omega, by omega⟩
  k_call_by "tw" ⟨hn, rng1_ok (okI_small (n := n) (by omega)), Int.toNat_natCast⟩
  refine ⟨rfl, ?_⟩
  refine wp_mono (wp_lcL ((List.range n).map fun (i : Nat) => D.int (i : Int)) (fun i acc S' => ∃ ls : List Int, acc = ls.map D.int ∧ ls.length = i ∧ (∀ l ∈ ls, 1 ≤ l ∧ l ≤ 99) ∧ Dr t (B + 1 + i) S0 S') (fun i acc S' _ => by rw [src_rgn]) (fun i acc S' x inv hx => ?_) _ _ _ _ (by rw [List.length_map, List.length_range]; exact Nat.lt_succ_self n) (Nat.zero_le _) ⟨[], rfl, rfl, by simp, d1⟩) (fun acc S' z => ?_) fun _ _ z => z
  · obtain ⟨ls, rfl, hl, hv, d2⟩ := inv
    have hi : i < n := by have := (List.getElem?_eq_some_iff.mp hx).1; simpa using this
    obtain ⟨y, _, rfl⟩ := Option.map_eq_some_iff.mp (by rw [← List.getElem?_map]; exact hx)
    refine ⟨_, rfl, ?_⟩
    k_call_by "tw" ⟨wipeD⟩
    refine wp_use (pickX d2 (by omega) (by simp) own4i) fun v S3 z => ?_
    obtain ⟨x, hx, rfl, d3, _, _⟩ := z
    obtain ⟨l, hl2, rfl⟩ := liveX hx
    refine ⟨by rw [List.length_map, hl]; exact decide_eq_true (by omega), ls ++ [l], by rw [List.map_append]; rfl, by rw [List.length_append, hl]; rfl, fun x hx => ?_, d3⟩
    rcases List.mem_append.mp hx with h | h
    · exact hv x h
    · rw [List.mem_singleton.mp h]; exact hl2
  · obtain ⟨ls, rfl, hl, hv, d2⟩ := z
    rw [List.length_map, List.length_range] at hl d2
    have tu : ∀ (δ : List Sl) (S : Sto) (l : List D), hTuple δ S [.lst l] = some (.tup l) := fun _ _ _ => rfl
    k_call_by "tw" ⟨tu, rng1_ok (okI_small (n := n) (by omega)), Int.toNat_natCast⟩
    refine ws_forT (List.range n) (fun (i : Nat) => .int (i : Int)) (fun i δ S' => ∃ (hs : List (List Cd)) (y5 y6 : Sl), δ = [Sl.v (scrD ns), Sl.v (D.ref t), Sl.v (D.int n), Sl.v (D.tup (List.map D.int ls)), Sl.ol (hs.map handD), y5, y6] ∧ y6.isOwn = false ∧ hs.length = i ∧ (∀ h ∈ hs, h.length ≤ 8 ∧ ∀ c ∈ h, c.valid n = true) ∧ Dr t (B + 5 + i * 200) S0 S') (fun i δ S _ => by rw [src_rgn]) (by show (List.range n).length < n + 1; simp) ⟨[], .no, .no, rfl, rfl, rfl, by simp, d2.up (by omega)⟩ (fun i δ S2 x inv hx => ?_) (fun δ S2 inv => ?_)
    · obtain ⟨hs, y5, y6, rfl, hy, hl2, hv2, d3⟩ := inv
      have hi : i < n := by have := (List.getElem?_eq_some_iff.mp hx).1; simpa using this
      refine ⟨_, rfl, ?_⟩
      walk_at "tw"
      refine ⟨rfl, wp_use (drawX d3 (by omega) (by decide)) fun v S3 z => ?_⟩
      obtain ⟨m, bm, rfl, d4, _, _⟩ := z
      obtain ⟨m, rfl⟩ : ∃ k : Nat, m = k := ⟨m.toNat, by omega⟩
      k_call_by "tw" ⟨rng1_ok (okI_small (n := m) (by omega)), Int.toNat_natCast⟩
      refine ⟨by simp [noOwnAt, hy], wp_mono (wp_lcL ((List.range m).map fun (i : Nat) => D.int (i : Int)) (fun j acc S' => ∃ cs : List Cd, acc = cs.map Cd.d ∧ cs.length = j ∧ (∀ c ∈ cs, c.valid n = true) ∧ Dr t (B + 5 + i * 200 + 1 + j * 20) S0 S') (fun i acc S' _ => by rw [src_rgn]) (fun j acc S' x inv hx => ?_) _ _ _ _ (by rw [List.length_map, List.length_range]; exact Nat.lt_succ_self m) (Nat.zero_le _) ⟨[], rfl, rfl, by simp, d4⟩) (fun acc S' z => ?_) fun _ _ z => z⟩
      · obtain ⟨cs, rfl, hl3, hv3, d5⟩ := inv
        have hj : j < m := by have := (List.getElem?_eq_some_iff.mp hx).1; simpa using this
        obtain ⟨y, _, rfl⟩ := Option.map_eq_some_iff.mp (by rw [← List.getElem?_map]; exact hx)
        refine ⟨_, rfl, ?_⟩
        k_call_by "tw" ⟨wipeD⟩
        refine wp_use (cardX d5 (by omega) (by omega)) fun v S3 z => ?_
        obtain ⟨c, hc, rfl, d6⟩ := z
        refine ⟨?_, cs ++ [c], by rw [List.map_append]; rfl, by rw [List.length_append, hl3]; rfl, fun x hx => ?_, d6.up (by omega)⟩
        · have : c.d.isOwn = false := by cases c <;> rfl
          rw [this, List.length_map, hl3]; exact decide_eq_true (by omega)
        · rcases List.mem_append.mp hx with h | h
          · exact hv3 x h
          · rw [List.mem_singleton.mp h]; exact hc
      · obtain ⟨cs, rfl, hl3, hv3, d5⟩ := z
        rw [List.length_map, List.length_range] at hl3 d5
        have ea : ∀ y, hAppend [Sl.v (scrD ns), Sl.v (D.ref t), Sl.v (D.int n), Sl.v (D.tup (List.map D.int ls)), Sl.ol (List.map handD hs), y, y6] S' (D.own 4) [D.tup (List.map Cd.d cs)] = some ([Sl.v (scrD ns), Sl.v (D.ref t), Sl.v (D.int n), Sl.v (D.tup (List.map D.int ls)), Sl.ol (List.map handD hs ++ [D.tup (List.map Cd.d cs)]), y, y6], S') := fun y => l_app_own rfl rfl (by rw [List.length_map]; omega)
        k_call_by "tw" ⟨tu, ea⟩
        refine ⟨hs ++ [cs], _, y6, by rw [List.map_append]; rfl, hy, by rw [List.length_append, hl2]; rfl, fun h hh => ?_, d5.up (by omega)⟩
        rcases List.mem_append.mp hh with h1 | h1
        · exact hv2 h h1
        · rw [List.mem_singleton.mp h1]; exact ⟨by omega, hv3⟩
    · obtain ⟨hs, y5, y6, rfl, hy, hl2, hv2, d3⟩ := inv
      rw [List.length_range] at hl2 d3
      have to : ∀ δ S, hTuple (Sl.v (scrD ns) :: Sl.v (D.ref t) :: Sl.v (D.int n) :: Sl.v (D.tup (List.map D.int ls)) :: Sl.ol (List.map handD hs) :: δ) S [D.own 4] = some (.tup (List.map handD hs)) := fun _ _ => rfl
      k_call_by "tw" ⟨to⟩
      refine ⟨ls, hs, ⟨by omega, by omega, hv, by omega, fun h hh => (hv2 h hh).1, fun h hh c hc => by rw [hl]; exact (hv2 h hh).2 c hc⟩, rfl, d3.up (by omega)⟩
end QA


end
section
set_option Elab.async false
set_option linter.all false
set_option maxRecDepth 100000
set_option autoImplicit false
namespace TB
open PySem DM PR L2 PySem.Spec
variable {S : Sto} {A : Ro → Nat} {T : Tb} {n t c b : Nat} {Q : RV → Sto → Prop} {E : Str → Sto → Prop}
/-- the seats that are not out, from the next one round -/
def rnd (l : List Int) (s : Int) : List Int := l.filter (fun x => decide (x > s)) ++ l.filter (fun x => decide (x ≤ s))
theorem rot_eq : ∀ n ∈ [2, 3, 4], ∀ s ∈ List.range n, ((List.range n).map fun (k : Nat) => ((s : Int) + 1 + k) % n) = rnd ((List.range n).map fun (i : Nat) => (i : Int)) s := by decide
theorem from_rnd (h2 : 2 ≤ T.n) (h4 : T.n ≤ 4) {s : Int} (h0 : 0 ≤ s) (h1 : s < T.n) : T.seatsFrom (s + 1) = rnd T.alive s := by
  obtain ⟨s, rfl⟩ : ∃ k : Nat, s = k := ⟨s.toNat, by omega⟩
  have e := rot_eq T.n (by simp; omega) s (by simp; omega)
  unfold Tb.seatsFrom
  rw [e]
  unfold rnd Tb.alive Tb.seats
  rw [List.filter_append, List.filter_filter, List.filter_filter, List.filter_filter, List.filter_filter]
  congr 1 <;> congr 1 <;> funext x <;> exact Bool.and_comm _ _
theorem mem_rnd {l : List Int} {s x : Int} : x ∈ rnd l s ↔ x ∈ l := by
  unfold rnd
  simp only [List.mem_append, List.mem_filter, decide_eq_true_eq]
  constructor
  · rintro (h | h) <;> exact h.1
  · intro h
    rcases (by omega : s < x ∨ x ≤ s) with h1 | h1
    · exact .inl ⟨h, h1⟩
    · exact .inr ⟨h, h1⟩
theorem behind_rnd (h2 : 2 ≤ T.n) (h4 : T.n ≤ 4) {s : Int} (h0 : 0 ≤ s) (h1 : s < T.n) : T.behind s = (rnd T.alive s ++ [s]).headD s := by
  unfold Tb.behind
  rw [from_rnd h2 h4 h0 h1]
theorem behind_head (h2 : 2 ≤ T.n) (h4 : T.n ≤ 4) {s : Int} (h0 : 0 ≤ s) (h1 : s < T.n) (ha : T.alive ≠ []) : ∃ l, rnd T.alive s = T.behind s :: l ∧ T.behind s ∈ T.alive := by
  rw [behind_rnd h2 h4 h0 h1]
  cases h : rnd T.alive s with
  | nil =>
    obtain ⟨x, hx⟩ := List.exists_mem_of_ne_nil _ ha
    have := mem_rnd (s := s).mpr hx
    rw [h] at this; cases this
  | cons a l => exact ⟨l, rfl, mem_rnd.mp (by rw [h]; exact List.mem_cons_self)⟩
/-- whose turn it is, who is asked, how many have passed -/
structure Pas (T : Tb) : Prop where
  tu : T.isOver = false → T.turner ∈ T.alive
  as : T.isOver = false → T.asked ∈ T.alive
  ps : T.isOver = false → 0 ≤ T.passes ∧ T.passes < T.alive.length
theorem alive_ne (h : T.isOver = false) : T.alive ≠ [] := by
  intro e
  unfold Tb.isOver at h
  rw [e] at h
  exact absurd h (by decide)
theorem alive_pos (h : T.isOver = false) : 1 < T.alive.length := by
  unfold Tb.isOver at h
  have := of_decide_eq_false h
  omega
theorem Pas.playOk (h : Pas T) {s p : Int} : Pas (T.playOk s p) :=
  ⟨fun ho => h.tu ho, fun ho => h.as ho, fun ho => ⟨Int.le_refl 0, by have := alive_pos (T := T) ho; show (0 : Int) < T.alive.length; omega⟩⟩
/-- the clock of a table is as it was -/
structure Clk (T T' : Tb) : Prop where
  tu : T'.turner = T.turner
  as : T'.asked = T.asked
  ps : T'.passes = T.passes
theorem Clk.refl : Clk T T := ⟨rfl, rfl, rfl⟩
theorem Clk.trans {T1 T2 : Tb} (a : Clk T T1) (b : Clk T1 T2) : Clk T T2 := ⟨b.tu.trans a.tu, b.as.trans a.as, b.ps.trans a.ps⟩
theorem each_clk {f : Tb → Int → List Nt × Tb} (hf : ∀ T s, Clk T (f T s).2) : ∀ (l : List Int) (T : Tb), Clk T (Tb.each f l T).2
  | [], T => .refl
  | s :: l, T => (hf T s).trans (each_clk hf l (f T s).2)
theorem rep_clk {f : Tb → Tb} (hf : ∀ T, Clk T (f T)) : ∀ (k : Nat) (T : Tb), Clk T (Tb.rep f k T)
  | 0, T => .refl
  | k + 1, T => (hf T).trans (rep_clk hf k (f T))
theorem resolve_clk {num o : Int} {c : Cd} : Clk T (T.resolve num o c).2 := by
  unfold Tb.resolve
  split
  · exact .refl
  · cases c with
    | hit t m => exact each_clk (f := fun T s => T.hitOne s m) (fun T s => ⟨rfl, rfl, rfl⟩) (T.targets o t) T
    | mend t m => exact each_clk (f := fun T s => T.mendOne s m) (fun T s => ⟨rfl, rfl, rfl⟩) (T.targets o t) T
    | _ => exact ⟨rfl, rfl, rfl⟩
theorem fall_clk : ∀ (k : Nat) (T : Tb), Clk T (Tb.fall k T).2
  | 0, T => .refl
  | k + 1, T => by
    unfold Tb.fall
    split
    · exact .refl
    · have h1 := rep_clk (f := fun T => T.happens .goes) (fun T => ⟨rfl, rfl, rfl⟩) T.failing.length T
      have h2 : Clk T T.fallOnce := ⟨h1.tu, h1.as, h1.ps⟩
      exact h2.trans (fall_clk k T.fallOnce)
theorem waitRow_clk {s : Int} : ∀ (l : List (Int × Cd)) (T : Tb), Clk T (Tb.waitRow s l T).2
  | [], T => .refl
  | d :: l, T => (show Clk T (Tb.waitOne s T d).2 by unfold Tb.waitOne; split <;> exact ⟨rfl, rfl, rfl⟩).trans (waitRow_clk l _)
theorem waitAll_clk {due : List (Int × Cd)} : ∀ (l : List Int) (T : Tb), Clk T (Tb.waitAll due l T).2
  | [], T => .refl
  | s :: l, T => (waitRow_clk _ _).trans (waitAll_clk l _)
theorem settle_clk : Clk T T.settleDown.2 := by
  have h1 := fall_clk (T.men.length + 1) T
  have h2 := waitAll_clk (due := (Tb.fall (T.men.length + 1) T).2.clearOut.due) ((Tb.fall (T.men.length + 1) T).2.clearOut.seatsFrom (Tb.fall (T.men.length + 1) T).2.clearOut.turner) (Tb.fall (T.men.length + 1) T).2.clearOut
  have h3 : Clk T (Tb.fall (T.men.length + 1) T).2.clearOut := ⟨h1.tu, h1.as, h1.ps⟩
  have h4 := h3.trans h2
  unfold Tb.settleDown
  exact ⟨h4.tu, h4.as, h4.ps⟩
def mid (n : Nat) (s : Int) : List Int := ((List.range n).map fun (i : Nat) => (i : Int)).filter (fun x => decide (x > s)) ++ ((List.range n).map fun (i : Nat) => (i : Int)).filter (fun x => decide (x < s))
theorem rot_mid : ∀ n ∈ [2, 3, 4], ∀ s ∈ List.range n, ((List.range n).map fun (k : Nat) => ((s : Int) + k) % n) = (s : Int) :: mid n s ∧ rnd ((List.range n).map fun (i : Nat) => (i : Int)) s = mid n s ++ [(s : Int)] := by decide
theorem from_head (h2 : 2 ≤ T.n) (h4 : T.n ≤ 4) {s : Int} (h0 : 0 ≤ s) (h1 : s < T.n) : (T.seatsFrom s).headD 0 = if s ∈ T.alive then s else (rnd T.alive s ++ [0]).headD 0 := by
  obtain ⟨s, rfl⟩ : ∃ k : Nat, s = k := ⟨s.toNat, by omega⟩
  obtain ⟨e1, e2⟩ := rot_mid T.n (by simp; omega) s (by simp; omega)
  have ha : rnd T.alive s = (mid T.n s ++ [(s : Int)]).filter fun x => decide (0 < T.life x) := by
    rw [← e2]
    unfold rnd Tb.alive Tb.seats
    rw [List.filter_append, List.filter_filter, List.filter_filter, List.filter_filter, List.filter_filter]
    congr 1 <;> congr 1 <;> funext x <;> exact Bool.and_comm _ _
  have hm : (s : Int) ∈ T.alive ↔ 0 < T.life s := by
    unfold Tb.alive Tb.seats
    rw [List.mem_filter, List.mem_map]
    constructor
    · intro h; exact of_decide_eq_true h.2
    · intro h; exact ⟨⟨s, List.mem_range.mpr (by omega), rfl⟩, decide_eq_true h⟩
  rw [ha]
  unfold Tb.seatsFrom
  rw [e1]
  by_cases h : 0 < T.life s
  · rw [if_pos (hm.mpr h), List.filter_cons_of_pos (by simpa using h)]; rfl
  · rw [if_neg (fun z => h (hm.mp z)), List.filter_cons_of_neg (by simpa using h), List.filter_append]
    have : ([(s : Int)].filter fun x => decide (0 < T.life x)) = [] := by simp [h]
    rw [this, List.append_nil]
    cases (mid T.n s).filter fun x => decide (0 < T.life x) <;> rfl
theorem fromHead_mem (h2 : 2 ≤ T.n) (h4 : T.n ≤ 4) {s : Int} (h0 : 0 ≤ s) (h1 : s < T.n) (ha : T.alive ≠ []) : (T.seatsFrom s).headD 0 ∈ T.alive := by
  rw [from_head h2 h4 h0 h1]
  split
  · assumption
  · obtain ⟨l, e, h⟩ := behind_head h2 h4 h0 h1 ha
    rw [e]; exact h
theorem ask_n : T.ask.n = T.n := by unfold Tb.ask; split <;> rfl
theorem ask_over : T.ask.isOver = T.isOver := by unfold Tb.ask; split <;> rfl
theorem ask_alive : T.ask.alive = T.alive := by unfold Tb.ask; split <;> rfl
theorem ask_go (ho : T.isOver = false) : T.ask = { T with asked := (T.seatsFrom T.turner).headD 0, turner := (T.seatsFrom T.turner).headD 0 } := by
  unfold Tb.ask
  rw [if_neg (by rw [ho]; decide)]
theorem Pas.ask (hp : T.passes = 0) (h2 : 2 ≤ T.n) (h4 : T.n ≤ 4) (h0 : 0 ≤ T.turner) (h1 : T.turner < T.n) : Pas T.ask := by
  have hm := fun (ho : T.isOver = false) => fromHead_mem h2 h4 h0 h1 (alive_ne (T := T) ho)
  refine ⟨fun ho => ?_, fun ho => ?_, fun ho => ?_⟩
  all_goals rw [ask_over] at ho
  · rw [ask_alive, ask_go ho]; exact hm ho
  · rw [ask_alive, ask_go ho]; exact hm ho
  · rw [ask_alive, ask_go ho]
    have := alive_pos ho
    show 0 ≤ T.passes ∧ T.passes < T.alive.length
    omega
/-- the table ahead of the question who is asked, where the top is done -/
def doneT (T : Tb) (x : Int × Int × Cd) : Tb := (({ T with passes := 0, stack := T.stack.dropLast } : Tb).resolve x.1 x.2.1 x.2.2).2.settleDown.2
theorem doneT_clk {x : Int × Int × Cd} : (doneT T x).turner = T.turner ∧ (doneT T x).passes = 0 := by
  have h := (resolve_clk (T := { T with passes := 0, stack := T.stack.dropLast }) (num := x.1) (o := x.2.1) (c := x.2.2)).trans settle_clk
  exact ⟨h.tu, h.ps⟩
theorem goBy_done {x : Int × Int × Cd} (h : ¬ T.passes + 1 < T.alive.length) (e : T.stack.getLast? = some x) : T.goBy.2 = (doneT T x).ask := by
  unfold Tb.goBy
  rw [if_neg h, e]
  exact after_snd _
theorem Pas.goBy (h : Pas T) (i : In n T) (k : Ks T) (n2 : 2 ≤ n) : Pas T.goBy.2 := by
  have nn := i.nn
  have h4 := k.n4
  unfold Tb.goBy
  split
  · rename_i hp
    refine ⟨fun ho => h.tu ho, fun ho => (behind_head (by omega) h4 i.as.1 (by have := i.as; omega) (alive_ne (T := T) ho)).choose_spec.2, fun ho => ⟨?_, hp⟩⟩
    have := (h.ps ho).1
    show 0 ≤ T.passes + 1
    omega
  · rename_i hp
    split
    · have hb := fun (ho : T.isOver = false) => (behind_head (by omega) h4 i.tu.1 (by have := i.tu; omega) (alive_ne (T := T) ho)).choose_spec.2
      exact ⟨fun ho => hb ho, fun ho => hb ho, fun ho => ⟨Int.le_refl 0, by have := alive_pos (T := T) ho; show (0 : Int) < T.alive.length; omega⟩⟩
    · rename_i x hx
      have ig := i.goBy (by omega)
      rw [goBy_done hp hx] at ig
      have hn : (doneT T x).n = n := by rw [← ask_n]; exact ig.nn
      obtain ⟨c1, c2⟩ := doneT_clk (T := T) (x := x)
      have := i.tu
      rw [after_snd]
      show Pas (doneT T x).ask
      exact Pas.ask c2 (by omega) (by omega) (by omega) (by omega)
end TB


end
section
set_option Elab.async false
set_option linter.all false
set_option maxRecDepth 100000
set_option autoImplicit false
namespace TB
open PySem DM PR L2 PySem.Spec
variable {T : Tb} {n : Nat}
def Nt.top : Nt → Option Int
  | .done i => some i
  | .void i => some i
  | _ => none
def Nt.wait : Nt → Option Int
  | .waits i => some i
  | _ => none
/-- some of the pile is gone, nothing came -/
structure Fi (T T' : Tb) (ns : List Nt) (tops : List Int) : Prop where
  st : ∃ p : (Int × Int × Cd) → Bool, T'.stack = T.stack.filter p
  ct : T'.count = T.count
  wt : ns.filterMap Nt.wait = []
  tp : ns.filterMap Nt.top = tops
theorem Fi.refl : Fi T T [] [] := ⟨⟨fun _ => true, (List.filter_eq_self.mpr fun _ _ => rfl).symm⟩, rfl, rfl, rfl⟩
theorem Fi.trans {T1 T2 : Tb} {n1 n2 : List Nt} {t1 t2 : List Int} (a : Fi T T1 n1 t1) (b : Fi T1 T2 n2 t2) : Fi T T2 (n1 ++ n2) (t1 ++ t2) := by
  obtain ⟨⟨p, e1⟩, c1, w1, p1⟩ := a
  obtain ⟨⟨q, e2⟩, c2, w2, p2⟩ := b
  exact ⟨⟨fun x => p x && q x, by rw [e2, e1, List.filter_filter]; congr 1; funext x; exact Bool.and_comm _ _⟩, c2.trans c1, by rw [List.filterMap_append, w1, w2]; rfl, by rw [List.filterMap_append, p1, p2]⟩
theorem Fi.same {T' : Tb} {ns : List Nt} {ts : List Int} (hs : T'.stack = T.stack) (hc : T'.count = T.count) (w : ns.filterMap Nt.wait = []) (p : ns.filterMap Nt.top = ts) : Fi T T' ns ts :=
  ⟨⟨fun _ => true, by rw [hs]; exact (List.filter_eq_self.mpr fun _ _ => rfl).symm⟩, hc, w, p⟩
theorem each_fi {f : Tb → Int → List Nt × Tb} (hf : ∀ T s, Fi T (f T s).2 (f T s).1 []) : ∀ (l : List Int) (T : Tb), Fi T (Tb.each f l T).2 (Tb.each f l T).1 []
  | [], T => .refl
  | s :: l, T => (hf T s).trans (each_fi hf l (f T s).2)
theorem Fi.cons {T' : Tb} {ns : List Nt} {i : Int} (h : Fi T T' ns []) : Fi T T' (.done i :: ns) [i] := ⟨h.st, h.ct, h.wt, by rw [List.filterMap_cons]; show _ :: ns.filterMap Nt.top = _; rw [h.tp]⟩
theorem resolve_fi {num o : Int} {c : Cd} : Fi T (T.resolve num o c).2 (T.resolve num o c).1 [num] := by
  unfold Tb.resolve
  split
  · exact .same rfl rfl rfl rfl
  · cases c with
    | hit t m => exact (each_fi (f := fun T s => T.hitOne s m) (fun T s => .same rfl rfl rfl rfl) (T.targets o t) T).cons
    | mend t m => exact (each_fi (f := fun T s => T.mendOne s m) (fun T s => .same rfl rfl rfl rfl) (T.targets o t) T).cons
    | bar i => exact ⟨⟨_, rfl⟩, rfl, rfl, rfl⟩
    | _ => exact .same rfl rfl rfl rfl
theorem goesN {l : List Int} : (l.map Nt.goes).filterMap Nt.wait = [] ∧ (l.map Nt.goes).filterMap Nt.top = [] := by
  constructor <;> exact List.filterMap_eq_nil_iff.mpr fun x hx => by obtain ⟨y, _, rfl⟩ := List.mem_map.mp hx; rfl
theorem fall_fi : ∀ (k : Nat) (T : Tb), Fi T (Tb.fall k T).2 (Tb.fall k T).1 []
  | 0, T => .refl
  | k + 1, T => by
    unfold Tb.fall
    split
    · exact .refl
    · have h1 := (goes_same T.failing.length T).1
      have h2 : Fi T T.fallOnce (T.failing.map Nt.goes) [] := .same h1.stack h1.count goesN.1 goesN.2
      exact h2.trans (fall_fi k T.fallOnce)
/-- these came on the pile, on top, with the next numbers -/
structure Ap (T T' : Tb) (ns : List Nt) : Prop where
  st : ∃ news : List (Int × Int × Cd), T'.stack = T.stack ++ news ∧ ns.filterMap Nt.wait = news.map (·.1) ∧ (news.map (·.1)) = (List.range news.length).map (fun (k : Nat) => T.count + k) ∧ T'.count = T.count + news.length
  tp : ns.filterMap Nt.top = []
theorem Ap.refl : Ap T T [] := ⟨⟨[], by simp, rfl, rfl, by simp⟩, rfl⟩
theorem Ap.trans {T1 T2 : Tb} {n1 n2 : List Nt} (a : Ap T T1 n1) (b : Ap T1 T2 n2) : Ap T T2 (n1 ++ n2) := by
  obtain ⟨⟨l1, s1, w1, r1, c1⟩, p1⟩ := a
  obtain ⟨⟨l2, s2, w2, r2, c2⟩, p2⟩ := b
  refine ⟨⟨l1 ++ l2, by rw [s2, s1, List.append_assoc], by rw [List.filterMap_append, w1, w2, List.map_append], ?_, by rw [c2, c1, List.length_append]; omega⟩, by rw [List.filterMap_append, p1, p2]; rfl⟩
  rw [List.map_append, r1, r2, List.length_append, List.range_add, List.map_append, List.map_map]
  congr 1
  refine List.map_congr_left fun k _ => ?_
  show T1.count + (k : Int) = T.count + ((l1.length + k : Nat) : Int)
  omega
theorem waitOne_ap {s : Int} {d : Int × Cd} : Ap T (Tb.waitOne s T d).2 (Tb.waitOne s T d).1 := by
  unfold Tb.waitOne
  split
  · exact ⟨⟨[(T.count, d.1, d.2)], rfl, rfl, by simp, rfl⟩, rfl⟩
  · exact .refl
theorem waitRow_ap {s : Int} : ∀ (l : List (Int × Cd)) (T : Tb), Ap T (Tb.waitRow s l T).2 (Tb.waitRow s l T).1
  | [], T => .refl
  | d :: l, T => waitOne_ap.trans (waitRow_ap l _)
theorem waitAll_ap {due : List (Int × Cd)} : ∀ (l : List Int) (T : Tb), Ap T (Tb.waitAll due l T).2 (Tb.waitAll due l T).1
  | [], T => .refl
  | s :: l, T => (waitRow_ap _ _).trans (waitAll_ap l _)
/-- what a top that is done does with the pile -/
structure Pil (T T' : Tb) (ns : List Nt) (top : Int) : Prop where
  st : ∃ (p : (Int × Int × Cd) → Bool) (news : List (Int × Int × Cd)), T'.stack = T.stack.dropLast.filter p ++ news ∧ ns.filterMap Nt.wait = news.map (·.1) ∧ (news.map (·.1)) = (List.range news.length).map (fun (k : Nat) => T.count + k) ∧ T'.count = T.count + news.length
  tp : ns.filterMap Nt.top = [top]
theorem ask_stack : T.ask.stack = T.stack ∧ T.ask.count = T.count := by unfold Tb.ask; split <;> exact ⟨rfl, rfl⟩
theorem settle_pil : ∃ T1 : Tb, ∃ n1 n2 : List Nt, Fi T T1 n1 [] ∧ Ap T1 T.settleDown.2 n2 ∧ T.settleDown.1 = n1 ++ n2 := by
  have h1 := fall_fi (T.men.length + 1) T
  have h2 : Fi (Tb.fall (T.men.length + 1) T).2 (Tb.fall (T.men.length + 1) T).2.clearOut [] [] := ⟨⟨_, rfl⟩, rfl, rfl, rfl⟩
  have h3 := h1.trans h2
  have h4 := waitAll_ap (due := (Tb.fall (T.men.length + 1) T).2.clearOut.due) ((Tb.fall (T.men.length + 1) T).2.clearOut.seatsFrom (Tb.fall (T.men.length + 1) T).2.clearOut.turner) (Tb.fall (T.men.length + 1) T).2.clearOut
  rw [List.append_nil] at h3
  have e2 : T.settleDown.2 = { (Tb.waitAll (Tb.fall (T.men.length + 1) T).2.clearOut.due ((Tb.fall (T.men.length + 1) T).2.clearOut.seatsFrom (Tb.fall (T.men.length + 1) T).2.clearOut.turner) (Tb.fall (T.men.length + 1) T).2.clearOut).2 with due := [] } := by simp only [Tb.settleDown]
  refine ⟨_, _, (Tb.waitAll (Tb.fall (T.men.length + 1) T).2.clearOut.due ((Tb.fall (T.men.length + 1) T).2.clearOut.seatsFrom (Tb.fall (T.men.length + 1) T).2.clearOut.turner) (Tb.fall (T.men.length + 1) T).2.clearOut).1, h3, ?_, ?_⟩
  · rw [e2]
    exact ⟨h4.st, h4.tp⟩
  · simp only [Tb.settleDown, List.append_nil]
theorem goBy_pil {x : Int × Int × Cd} (h : ¬ T.passes + 1 < T.alive.length) (e : T.stack.getLast? = some x) : Pil T T.goBy.2 T.goBy.1 x.1 := by
  have f1 := resolve_fi (T := { T with passes := 0, stack := T.stack.dropLast }) (num := x.1) (o := x.2.1) (c := x.2.2)
  unfold Tb.goBy
  rw [if_neg h, e]
  show Pil T (Tb.afterDone _).2 (Tb.afterDone _).1 x.1
  generalize ({ T with passes := 0, stack := T.stack.dropLast } : Tb).resolve x.1 x.2.1 x.2.2 = r at f1 ⊢
  obtain ⟨T1, n1, n2, f2, a, en⟩ := settle_pil (T := r.2)
  rw [after_snd]
  have e1 : (Tb.afterDone r).1 = r.1 ++ (n1 ++ n2) := by rw [← en]; rfl
  rw [e1]
  obtain ⟨⟨p, hp⟩, hc, hw, ht⟩ := f1.trans f2
  obtain ⟨⟨news, s1, w1, r1, c1⟩, t1⟩ := a
  obtain ⟨k1, k2⟩ := ask_stack (T := r.2.settleDown.2)
  have hc : T1.count = T.count := hc
  refine ⟨⟨p, news, by rw [k1, s1, hp], ?_, by rw [r1, hc], by rw [k2, c1, hc]⟩, ?_⟩
  · rw [← List.append_assoc, List.filterMap_append, hw, w1]; rfl
  · rw [← List.append_assoc, List.filterMap_append, ht, t1]; rfl
end TB


end
section
set_option Elab.async false
set_option linter.all false
set_option maxRecDepth 100000
set_option autoImplicit false
namespace TB
open PySem DM PR L2 PySem.Spec QA
section
variable {S S' : Sto} {A A' : Ro → Nat} {T T' : Tb} {n b t c g : Nat} {x : Cell}
/-- a cell of the law's own beside the table -/
structure KP (g : Nat) (x : Cell) (S : Sto) (A : Ro → Nat) (T : Tb) : Prop where
  c : S.c g = some x
  lt : g < S.nx
  aw : ∀ r, live T r → A r ≠ g
theorem KP.of {b' : Nat} (k : KP g x S A T) (h : TbAt S A T S' A' T' n b') : KP g x S' A' T' :=
  ⟨(h.u.keep g k.lt k.aw).trans k.c, Nat.lt_of_lt_of_le k.lt h.u.nx, fun r lr e => by
    rcases h.u.fp r lr with ⟨r0, h1, h2⟩ | h1
    · exact k.aw r0 h1 (h2.trans e)
    · have := k.lt; omega⟩
theorem KP.tick (k : KP g x S A T) (h : g ≠ t) : KP g x (tick S t c) A T := ⟨(tick_c h).trans k.c, k.lt, k.aw⟩
theorem KP.new (k : KP g x S A T) (y : Cell) : KP g x (S.new y) A T := ⟨(new_other (Nat.ne_of_lt k.lt)).trans k.c, Nat.lt_succ_of_lt k.lt, k.aw⟩
theorem KP.set (k : KP g x S A T) (y : Cell) : KP g y (S.set g (some y)) A T := ⟨set_same, k.lt, k.aw⟩
theorem KP.set_ls (k : KP g x S A T) (l : LS t c S A T n b) (h : g ≠ t) {y : Option Cell} : LS t c (S.set g y) A T n b :=
  ⟨l.rep.ext (Nat.le_refl _) fun r lr => set_other (k.aw r lr), l.k, l.i, l.due, l.n2, l.b, (set_other (Ne.symm h)).trans l.twn, l.tl, l.aw⟩
theorem LS.goByK (l : LS t c S A T n b) (ho : T.isOver = false) (hb : b < 1000000) :
    (@DM.wpK _ (sem_Table_go_by [.ref (A .obj), .int T.asked] S) ⟨(fun v S' => v = .ol (T.goBy.1.map Nt.d) ∧ T.goBy.1.length ≤ 65 ∧ ∃ A', LS t c S' A' T.goBy.2 n (b + 1) ∧ A' .obj = A .obj ∧ ∀ g x, KP g x S A T → KP g x S' A' T.goBy.2), (fun _ _ => False)⟩) :=
  wp_use (l.tb.goBy ho hb) fun v S' z => by
    obtain ⟨h1, h2, A', h3, h4⟩ := z
    exact ⟨h1, h2, A', l.of h3, h4, fun g x k => k.of h3⟩
theorem LS.playK (l : LS t c S A T n b) (ho : T.isOver = false) {p : Int} :
    (@DM.wpK _ (sem_Table_play [.ref (A .obj), .int T.asked, .int p] S) ⟨(fun v S' => T.playNo T.asked p = none ∧ v = .val (.int T.count) ∧ ∃ A', LS t c S' A' (T.playOk T.asked p) n b ∧ A' .obj = A .obj ∧ ∀ g x, KP g x S A T → KP g x S' A' (T.playOk T.asked p)), (fun e S' => S' = S ∧ ∃ m, T.playNo T.asked p = some m ∧ e = refName m)⟩) :=
  wp_mono (l.tb.play ho) (fun v S' z => by
    obtain ⟨h1, h2, A', h3, h4⟩ := z
    exact ⟨h1, h2, A', l.of h3, h4, fun g x k => k.of h3⟩) fun _ _ z => z
theorem LS.makeK {n0 : Nat} {ls : List Int} {hs : List (List Cd)} (o : OkNew ls hs) (hn : n0 = S.nx) (twn : TownAt S t c) (tl : t < S.nx) :
    (@DM.wpK _ (sem_Table___init__ [.ref n0, .tup (ls.map .int), .tup (hs.map handD)] (S.new (.obj "Table" []))) ⟨(fun v S' => v = .val .non ∧ ∃ A, LS t c S' A (Tb.new ls hs) ls.length 0 ∧ A .obj = n0 ∧ ∀ g x, S.c g = some x → g < S.nx → KP g x S' A (Tb.new ls hs)), (fun _ _ => False)⟩) := by
  subst hn
  refine wp_use (init_w o new_same rfl) fun v S' z => ?_
  obtain ⟨rfl, A, r, e, lo, hx, keep⟩ := z
  have w := new_wf o
  exact ⟨rfl, A, ⟨r, w.toKs, new_in o, rfl, o.n2, Int.le_refl 0, by show S'.c t = _; rw [keep t tl, new_other (by omega)]; exact twn, by omega, fun r lr => by have := lo r lr; omega⟩, e, fun g x h1 h2 => ⟨by rw [keep g h2, new_other (by omega)]; exact h1, by omega, fun r lr => by have := lo r lr; omega⟩⟩
end
end TB


end
section
set_option Elab.async false
set_option linter.all false
set_option maxRecDepth 100000
set_option autoImplicit false
namespace TB
open PySem DM PR L2 PySem.Spec
variable {δ : List Sl} {S : Sto}
mutual
theorem eqD_refl : ∀ (n : Nat) (d : D), okD n d = true → eqD d d = true
  | n, .non, _ => rfl
  | n, .bl a, _ => beq_self_eq_true a
  | n, .int a, _ => beq_self_eq_true a
  | n, .str a, _ => beq_self_eq_true a
  | n + 1, .tup ds, h => eqDs_refl n ds h
  | n + 1, .lst ds, h => eqDs_refl n ds h
  | n + 1, .scr ds, h => eqDs_refl n ds h
  | 0, .tup ds, h => by cases h
  | 0, .lst ds, h => by cases h
  | 0, .scr ds, h => by cases h
  | n, .dic kvs, h => by cases n <;> cases h
  | n, .ref a, h => by cases n <;> cases h
  | n, .own a, h => by cases n <;> cases h
theorem eqDs_refl : ∀ (n : Nat) (ds : List D), ds.all (okD n) = true → eqDs ds ds = true
  | n, [], _ => rfl
  | n, d :: ds, h => by
    obtain ⟨h1, h2⟩ := Bool.and_eq_true_iff.mp (show (okD n d && ds.all (okD n)) = true from h)
    show (eqD d d && eqDs ds ds) = true
    rw [eqD_refl n d h1, eqDs_refl n ds h2]; rfl
end
theorem pileD_ok {x : Int × Int × Cd} : okD 8 (pileD x) = true := by
  show (true && (true && (okD 7 x.2.2.d && true))) = true
  rw [cd_ok]; rfl
theorem piles_ok {xs : List (Int × Int × Cd)} : okD 60 (.lst (xs.map pileD)) = true := by
  show (xs.map pileD).all (okD 59) = true
  rw [List.all_map]
  exact List.all_eq_true.mpr fun c _ => okD_le (pileD_ok (x := c)) (by decide)
theorem pile_refl {xs : List (Int × Int × Cd)} : cNe δ S (.lst (xs.map pileD)) (.lst (xs.map pileD)) = some false := by
  unfold cNe
  rw [eq_lsts piles_ok piles_ok, eqDs_refl 59 _ piles_ok]; rfl
theorem pile_reflE {xs : List (Int × Int × Cd)} : cEq δ S (.lst (xs.map pileD)) (.lst (xs.map pileD)) = some true := by
  rw [eq_lsts piles_ok piles_ok, eqDs_refl 59 _ piles_ok]
theorem ints_ok {xs : List Int} : okD 60 (.lst (xs.map D.int)) = true := by
  show (xs.map D.int).all (okD 59) = true
  rw [List.all_map]
  exact List.all_eq_true.mpr fun c _ => rfl
theorem ints_refl {xs : List Int} : cNe δ S (.lst (xs.map D.int)) (.lst (xs.map D.int)) = some false := by
  unfold cNe
  rw [eq_lsts ints_ok ints_ok, eqDs_refl 59 _ ints_ok]; rfl
theorem in_pile {x : Int × Int × Cd} {xs : List (Int × Int × Cd)} : cIn δ S (pileD x) (.lst (xs.map pileD)) = some (xs.any fun y => eqD (pileD y) (pileD x)) := by
  have h : (okD 60 (pileD x) && (xs.map pileD).all (okD 60)) = true := by
    rw [okD_le pileD_ok (by decide), okD_mono 60 (.lst (xs.map pileD)) piles_ok |> fun h => (show (xs.map pileD).all (okD 60) = true from h)]; rfl
  show (if (okD 60 (pileD x) && (xs.map pileD).all (okD 60)) = true then some ((xs.map pileD).any fun y => eqD y (pileD x)) else none) = _
  rw [if_pos h, List.any_map]; rfl
theorem eq_num {x y : Int × Int × Cd} (h : eqD (pileD x) (pileD y) = true) : x.1 = y.1 := by
  have h : ((x.1 == y.1) && ((x.2.1 == y.2.1) && (eqD x.2.2.d y.2.2.d && true))) = true := h
  exact eq_of_beq (Bool.and_eq_true_iff.mp h).1
theorem num_inj {l : List (Int × Int × Cd)} (h : l.Pairwise fun a b => a.1 < b.1) {x y : Int × Int × Cd} (hx : x ∈ l) (hy : y ∈ l) (e : x.1 = y.1) : x = y := by
  induction l with
  | nil => cases hx
  | cons a l ih =>
    obtain ⟨h1, h2⟩ := List.pairwise_cons.mp h
    rcases List.mem_cons.mp hx with e1 | hx1 <;> rcases List.mem_cons.mp hy with e2 | hy1
    · rw [e1, e2]
    · have := h1 _ hy1; rw [← e1] at this; omega
    · have := h1 _ hx1; rw [← e2] at this; omega
    · exact ih h2 hx1 hy1
theorem any_mem {l xs : List (Int × Int × Cd)} (h : l.Pairwise fun a b => a.1 < b.1) {x : Int × Int × Cd} (hx : x ∈ l) (hs : ∀ y ∈ xs, y ∈ l) : (xs.any fun y => eqD (pileD y) (pileD x)) = decide (x ∈ xs) := by
  rw [Bool.eq_iff_iff, List.any_eq_true, decide_eq_true_eq]
  constructor
  · rintro ⟨y, hy, e⟩
    rw [← num_inj h (hs y hy) hx (eq_num e)]; exact hy
  · intro h; exact ⟨x, h, eqD_refl 8 _ pileD_ok⟩
end TB


end
section
set_option Elab.async false
set_option linter.all false
set_option maxRecDepth 100000
set_option autoImplicit false
namespace TB
open PySem DM PR L2 PySem.Spec QA
section
variable {S : Sto} {A : Ro → Nat} {T T' : Tb} {n b t c : Nat}
theorem valD_old {kvs l : List (Key × D)} {k : Key} {v : D} (h : valD kvs k = some v) : valD (kvs ++ l) k = some v := by
  unfold valD at h ⊢
  obtain ⟨p, hp, e⟩ := Option.map_eq_some_iff.mp h
  rw [List.find?_append, hp]
  exact congrArg some e
theorem valD_new {kvs l : List (Key × D)} {k : Key} (h : ∀ kv ∈ kvs, kv.1 ≠ k) : valD (kvs ++ l) k = valD l k := by
  unfold valD
  rw [List.find?_append, List.find?_eq_none.mpr (fun kv hkv e => h kv hkv (of_decide_eq_true e)), Option.none_or]
theorem put_new {kvs : List (Key × D)} {k : Key} {v : D} (h : ∀ kv ∈ kvs, kv.1 ≠ k) : putD kvs k v = kvs ++ [(k, v)] := by
  unfold putD
  rw [if_neg]
  intro e
  obtain ⟨kv, h1, h2⟩ := List.any_eq_true.mp e
  exact h kv h1 (of_decide_eq_true h2)
theorem in_dic {δ : List Sl} {g : Nat} {kvs : List (Key × D)} {i : Int} (hg : S.c g = some (.dic kvs)) : cIn δ S (.int i) (.ref g) = some (kvs.any fun kv => decide (kv.1 = .inl i)) := by
  have hd : dicOf δ S (.ref g) = some kvs := by simp only [dicOf, hg]
  show (match dicOf δ S (.ref g) with
    | some kvs => (keyOf (.int i)).map fun k => (valD kvs k).isSome
    | none => _) = _
  rw [hd]
  show some ((valD kvs (.inl i)).isSome) = _
  unfold valD
  congr 1
  rw [Option.isSome_map, List.isSome_find?]
theorem any_not {kvs : List (Key × D)} {k : Key} (h : ∀ kv ∈ kvs, kv.1 ≠ k) : (kvs.any fun kv => decide (kv.1 = k)) = false := by
  rw [List.any_eq_false]
  intro kv hkv e
  exact h kv hkv (of_decide_eq_true e)
theorem notin_dic {δ : List Sl} {g : Nat} {kvs : List (Key × D)} {i : Int} {v : D} (hg : S.c g = some (.dic kvs)) (h : valD kvs (.inl i) = some v) : cNotIn δ S (.int i) (.ref g) = some false := by
  unfold cNotIn
  rw [in_dic hg, Option.map_some]
  congr 1
  rw [Bool.not_eq_false']
  unfold valD at h
  obtain ⟨p, hp, e⟩ := Option.map_eq_some_iff.mp h
  exact List.any_eq_true.mpr ⟨p, List.mem_of_find?_eq_some hp, by have := List.find?_some hp; exact this⟩
theorem ix_dicI {δ : List Sl} {g : Nat} {kvs : List (Key × D)} {i : Int} (hg : S.c g = some (.dic kvs)) : oIx δ S (.ref g) (.int i) = valD kvs (.inl i) := by
  have hl : seqOf δ S (.ref g) = none := by simp only [seqOf, lstOf, hg, Option.map_none]
  have hd : dicOf δ S (.ref g) = some kvs := by simp only [dicOf, hg]
  show (match seqOf δ S (.ref g) with
    | some (_, ds) => _
    | none => match dicOf δ S (.ref g) with
      | some kvs => (keyOf (.int i)).bind fun k => valD kvs k
      | none => none) = _
  rw [hl, hd]
  rfl
theorem put_dic {g : Nat} {kvs : List (Key × D)} {i : Int} {v : D} {δ : List Sl} (hg : S.c g = some (.dic kvs)) (hl : kvs.length < 16777216) (hv : v.isOwn = false) : putIx δ S (.ref g) (.int i) v = some (δ, S.set g (some (.dic (putD kvs (.inl i) v)))) := by
  unfold putIx
  rw [hv]
  have h1 : mutL δ S (.ref g) = none := by simp only [mutL, hg]
  have h2 : mutD δ S (.ref g) = some kvs := by simp only [mutD, hg]
  rw [h1, h2]
  simp only [decide_eq_true hl, if_true]
  rfl
theorem waits_split {l r : List Int} {m : Nat} {c : Int} (h : l ++ r = (List.range m).map fun (k : Nat) => c + k) : l = (List.range l.length).map (fun (k : Nat) => c + k) ∧ l.length ≤ m := by
  have hl : l.length ≤ m := by have := congrArg List.length h; simp at this; omega
  refine ⟨?_, hl⟩
  have h1 : l = ((List.range m).map fun (k : Nat) => c + (k : Int)).take l.length := by rw [← h, List.take_left]
  have h2 : ((List.range m).map fun (k : Nat) => c + (k : Int)).take l.length = (List.range l.length).map fun (k : Nat) => c + (k : Int) := by
    rw [← List.map_take, List.take_range, Nat.min_eq_left hl]
  rw [h2] at h1
  exact h1
/-- what a passing puts on the pile -/
structure Wt (T T' : Tb) (ts : List Nt) : Prop where
  ex : ∃ m : Nat, ts.filterMap Nt.wait = (List.range m).map (fun (k : Nat) => T.count + k) ∧ T'.count = T.count + m ∧ m ≤ 65 ∧ ∀ x ∈ T'.stack, x ∈ T.stack ∨ ∃ k : Nat, k < m ∧ x.1 = T.count + k
theorem goBy_wt (hl : T.goBy.1.length ≤ 65) : Wt T T.goBy.2 T.goBy.1 := by
  by_cases hps : T.passes + 1 < T.alive.length
  · have gb : T.goBy = ([], { T with passes := T.passes + 1, asked := T.behind T.asked }) := by unfold Tb.goBy; rw [if_pos hps]
    rw [gb]
    exact ⟨0, rfl, by show T.count = T.count + 0; omega, by omega, fun x hx => .inl hx⟩
  · cases hx : T.stack.getLast? with
    | none =>
      have hst := List.getLast?_eq_none_iff.mp hx
      have gb : T.goBy = ([.turn (T.behind T.turner)], { T with passes := 0, turner := T.behind T.turner, asked := T.behind T.turner }) := by
        unfold Tb.goBy
        rw [if_neg hps, hst]
        rfl
      rw [gb]
      exact ⟨0, rfl, by show T.count = T.count + 0; omega, by omega, fun x hx => .inl hx⟩
    | some x =>
      have pil := goBy_pil (T := T) (x := x) hps hx
      obtain ⟨p, news, r1, r2, r3, r4⟩ := pil.st
      refine ⟨news.length, r2.trans r3, r4, ?_, fun y hy => ?_⟩
      · have h1 : (T.goBy.1.filterMap Nt.wait).length ≤ T.goBy.1.length := List.length_filterMap_le _ _
        rw [r2, List.length_map] at h1
        omega
      · rw [r1] at hy
        rcases List.mem_append.mp hy with h | h
        · exact .inl ((List.dropLast_sublist _).subset (List.mem_filter.mp h).1)
        · right
          have h2 : y.1 ∈ news.map (·.1) := List.mem_map.mpr ⟨y, h, rfl⟩
          rw [r3] at h2
          obtain ⟨q, hq, e⟩ := List.mem_map.mp h2
          exact ⟨q, List.mem_range.mp hq, e.symm⟩
theorem play_some {p : Int} (h : T.playNo T.asked p = none) : ∃ cd : Cd, (T.hand T.asked)[p.toNat]? = some cd ∧ (T.playOk T.asked p).stack = T.stack ++ [(T.count, T.asked, cd)] ∧ 0 ≤ p ∧ p < (T.hand T.asked).length := by
  unfold Tb.playNo at h
  split at h
  · cases h
  · rename_i hp
    have hp : 0 ≤ p ∧ p < (T.hand T.asked).length := by simpa using hp
    have hl : p.toNat < (T.hand T.asked).length := by omega
    refine ⟨_, List.getElem?_eq_getElem hl, ?_, hp⟩
    show T.stack ++ [(T.count, T.asked, (T.hand T.asked).getD p.toNat (.bar 0))] = _
    rw [getD_of hl]
theorem LS.up (l : LS t c S A T n b) : LS t c S A T n (b + 1) := ⟨l.rep, l.k, l.i, l.due, l.n2, Int.le_trans l.b (by omega), l.twn, l.tl, l.aw⟩
/-- [list(hand) for hand in hands] -/
theorem cellsN_w {hs : List (List Cd)} {x : Str} {δ : List Sl} {k : Nat} {Q : List D → Sto → Prop} {E : Str → Sto → Prop} (hl : hs.length ≤ 1000) (hk : k < δ.length)
    (q : ∀ S', S'.nx = S.nx + hs.length → (∀ j, j < S.nx → S'.c j = S.c j) → (∀ j h, hs[j]? = some h → S'.c (S.nx + j) = some (.lst (h.map Cd.d))) → Q ((List.range hs.length).map fun j => .ref (S.nx + j)) S') :
    (@DM.wpK _ (lcL (.seq (.tup (hs.map handD))) (bindT (false, [(x, k)])) dYes (dCell (fB hList (dCons (dVar k) dNil))) ((hs.map handD).length + 1) 0 [] δ S) ⟨Q, E⟩) := by
  refine wp_mono (wp_lcL (E := E) (hs.map handD) (fun i acc S' => acc = (List.range i).map (fun j => .ref (S.nx + j)) ∧ S'.nx = S.nx + i ∧ (∀ j, j < S.nx → S'.c j = S.c j) ∧ (∀ j h, j < i → hs[j]? = some h → S'.c (S.nx + j) = some (.lst (h.map Cd.d)))) (fun i acc S' _ => srcAt_tup i) (fun i acc S' d inv e => ?_) _ 0 [] S (by omega) (Nat.zero_le _) ⟨rfl, rfl, fun _ _ => rfl, fun j h hj => absurd hj (Nat.not_lt_zero _)⟩) (fun acc S' z => ?_) (fun c S' z => z)
  · obtain ⟨rfl, nx, keep, cl⟩ := inv
    rw [List.getElem?_map] at e
    cases eh : hs[i]? with
    | none => rw [eh] at e; cases e
    | some h =>
      rw [eh] at e
      cases e
      have hi : i < hs.length := (List.getElem?_eq_some_iff.mp eh).1
      refine ⟨δ.set k (.v (handD h)), rfl, ?_⟩
      have e0 : (δ.set k (.v (handD h)))[k]? = some (.v (handD h)) := List.getElem?_set_self hk
      have ht : ∀ δ, hList δ S' [handD h] = some (h.map Cd.d) := fun δ => rfl
      k_call_by "tw" ⟨e0, ht⟩
      refine ⟨by simp; omega, by rw [List.range_succ, List.map_append, nx]; rfl, by rw [new_nx, nx]; omega, fun j hj => by rw [new_other (by omega)]; exact keep j hj, fun j h' hj eh' => ?_⟩
      by_cases hji : j = i
      · subst hji
        rw [eh] at eh'; cases eh'
        rw [← nx]; exact new_same
      · rw [new_other (by omega)]; exact cl j h' (by omega) eh'
  · obtain ⟨rfl, nx, keep, cl⟩ := z
    rw [List.length_map] at nx cl
    rw [List.length_map]
    exact q S' nx keep fun j h e => cl j h ((List.getElem?_eq_some_iff.mp e).1) e

theorem cEq_self_lst {ds : List D} {δ : List Sl} (h : ds.all (okD 59) = true) : cEq δ S (.lst ds) (.lst ds) = some true := by
  have h60 : okD 60 (.lst ds) = true := h
  rw [eq_lsts h60 h60, eqDs_refl 59 _ h]
theorem cNe_self_lst {ds : List D} {δ : List Sl} (h : ds.all (okD 59) = true) : cNe δ S (.lst ds) (.lst ds) = some false := by
  unfold cNe
  rw [cEq_self_lst h]; rfl
theorem cEq_self_tup {ds : List D} {δ : List Sl} (h : ds.all (okD 59) = true) : cEq δ S (.tup ds) (.tup ds) = some true := by
  have h60 : okD 60 (.tup ds) = true := h
  show (if (okD 60 (.tup ds) && okD 60 (.tup ds)) = true then some (eqD (.tup ds) (.tup ds)) else none) = _
  rw [h60]
  show some (eqDs ds ds) = _
  rw [eqDs_refl 59 _ h]
theorem cNe_self_tup {ds : List D} {δ : List Sl} (h : ds.all (okD 59) = true) : cNe δ S (.tup ds) (.tup ds) = some false := by
  unfold cNe
  rw [cEq_self_tup h]; rfl
theorem tuple_ref {g : Nat} {ds : List D} {δ : List Sl} (h : S.c g = some (.lst ds)) : hTuple δ S [.ref g] = some (.tup ds) := by
  unfold hTuple
  simp only [seqOf, lstOf, h, Option.map_some]
theorem pop_ref {g : Nat} {ds : List D} {p : Int} {x : D} {δ : List Sl} (h : S.c g = some (.lst ds)) (h0 : 0 ≤ p) (hp : p < 1000) (e : ds[p.toNat]? = some x) : hPopAt δ S (.ref g) [.int p] = some (x, S.set g (some (.lst (ds.eraseIdx p.toNat)))) := by
  have hl : p.toNat < ds.length := (List.getElem?_eq_some_iff.mp e).1
  unfold hPopAt
  simp only [h]
  rw [if_pos ⟨by omega, by omega⟩]
  have : seqIndex? p ds.length = some p.toNat := by
    unfold seqIndex?
    rw [if_neg (by omega : ¬ p < 0)]
    simp only [Bool.and_eq_true, decide_eq_true_eq]
    rw [if_pos ⟨h0, by omega⟩]
  rw [this, Option.bind_some, e, Option.map_some]
theorem KP.fresh {x : Cell} (h : Rep S A T) : KP S.nx x (S.new x) A T := ⟨new_same, Nat.lt_succ_self _, fun r lr => by have := h.lt r lr; omega⟩
theorem list_dic {g : Nat} {kvs : List (Key × D)} {δ : List Sl} (h : S.c g = some (.dic kvs)) : hList δ S [.ref g] = some (kvs.map fun kv => kD kv.1) := by
  unfold hList
  simp only [seqOf, lstOf, dicOf, h, Option.map_none, Option.map_some]
theorem len_dic {g : Nat} {kvs : List (Key × D)} {δ : List Sl} (h : S.c g = some (.dic kvs)) : hLen δ S [.ref g] = some (.int kvs.length) := by
  unfold hLen
  simp only [seqOf, lstOf, dicOf, h, Option.map_none, Option.map_some]
theorem wp_rg {m : DM D} {δ : List Sl} {Q : List D → Sto → Prop} {E : Str → Sto → Prop} : ((@DM.wpK _ (fRg m δ S) ⟨Q, E⟩)) = (@DM.wpK _ (m δ S) ⟨(fun x S1 => (@DM.wintK x ⟨fun n => (okI n && Nat.ble n.toNat 16777216) = true ∧ Q (rgD n) S1⟩)), E⟩) := by
  unfold fRg
  rw [wp_bind]
  congr
  funext x S1
  cases x with
  | int n =>
    show ((@DM.wpK _ (if (okI n && Nat.ble n.toNat 16777216) = true then R.ok (rgD n) S1 else .stuck) ⟨Q, E⟩)) = ((okI n && Nat.ble n.toNat 16777216) = true ∧ Q (rgD n) S1)
    cases h : okI n && Nat.ble n.toNat 16777216 with
    | true => simp [wpK]
    | false => simp [wpK]
  | _ => rfl
theorem nats_lt (m : Nat) : ((List.range m).map fun (k : Nat) => ((k : Nat) : Int)).Pairwise (· < ·) := by
  rw [List.pairwise_map]
  exact List.pairwise_lt_range.imp fun h => by omega
theorem cd_all {h : List Cd} : (h.map Cd.d).all (okD 58) = true := by
  rw [List.all_map]
  exact List.all_eq_true.mpr fun c _ => okD_le (cd_ok (c := c)) (by decide)
end
end TB


end
section
set_option Elab.async false
set_option linter.all false
set_option maxRecDepth 100000
set_option autoImplicit false
namespace TB
open PySem DM PR L2 PySem.Spec QA
section
variable {S : Sto} {A : Ro → Nat} {T T' : Tb} {n b t c : Nat} {Q : RV → Sto → Prop} {E : Str → Sto → Prop}
/-! ### things of any kind -/
def anyD : D → Bool
  | .non => true
  | .bl _ => true
  | .int _ => true
  | .str _ => true
  | .tup _ => true
  | .lst _ => true
  | _ => false
theorem anyD_own {d : D} (h : anyD d = true) : d.isOwn = false := by cases d <;> first | rfl | cases h
def whole (d : D) (lo hi : Int) : Bool := match d with
  | .int i => inB i lo hi
  | _ => false
theorem wp_wholeD {d : D} {lo hi : Int} (h : anyD d = true) : ((@DM.wpK _ (sem_is_whole [d, .int lo, .int hi] S) ⟨Q, E⟩)) = Q (.val (.bl (whole d lo hi))) S := by
  cases d with
  | int i => exact wp_wholeB
  | non => exact wp_of_eq (by kernel_rfl)
  | bl _ => exact wp_of_eq (by kernel_rfl)
  | str _ => exact wp_of_eq (by kernel_rfl)
  | tup _ => exact wp_of_eq (by kernel_rfl)
  | lst _ => exact wp_of_eq (by kernel_rfl)
  | _ => cases h
theorem wp_seatD {d : D} (h : Rep S A T) (hd : anyD d = true) : ((@DM.wpK _ (sem_Table_need_seat [.ref (A .obj), d] S) ⟨Q, E⟩)) = (@DM.wifK (whole d 0 ((T.n : Int) - 1)) ⟨(Q (.val .non) S), (E "NoSeat" S)⟩) := by
  unfold sem_Table_need_seat
  rw [wp_sem]
  unfold m_Table_need_seat
  have e : ((T.lives.length : Nat) : Int) = (T.n : Int) := rfl
  have ho := anyD_own hd
  k_call_by "tw" ⟨h.at, l_len_ref h.clv, List.length_map, wp_wholeD hd, e, ho⟩
  cases whole d 0 ((T.n : Int) - 1) <;> walk_at "tw"
def Tb.askNo (T : Tb) (d : D) : Option Str := if T.isOver = true then some "Over" else match d with
  | .int i => if inB i 0 ((T.n : Int) - 1) = false then some "NoSeat" else if i = T.asked then none else some "NotYet"
  | _ => some "NoSeat"
def orR (o : Option Str) (S : Sto) (Q : Prop) (E : Str → Sto → Prop) : Prop := match o with
  | some c => E c S
  | none => Q
theorem wp_askedD {d : D} (h : Rep S A T) (h4 : T.n ≤ 4) (hd : anyD d = true) : ((@DM.wpK _ (sem_Table_need_asked [.ref (A .obj), d] S) ⟨Q, E⟩)) = orR (T.askNo d) S (Q (.val .non) S) E := by
  unfold sem_Table_need_asked
  rw [wp_sem]
  unfold m_Table_need_asked
  have ho := anyD_own hd
  unfold Tb.askNo
  cases hov : T.isOver with
  | true => k_call_by "tw" ⟨h.isT, wp_over h h4, hov⟩; rfl
  | false =>
    k_call_by "tw" ⟨h.isT, wp_over h h4, hov, wp_seatD h hd, ho⟩
    cases d with
    | int i =>
      show _ = orR (if inB i 0 ((T.n : Int) - 1) = false then some "NoSeat" else if i = T.asked then none else some "NotYet") S _ E
      have : whole (.int i) 0 ((T.n : Int) - 1) = inB i 0 ((T.n : Int) - 1) := rfl
      rw [this]
      cases inB i 0 ((T.n : Int) - 1) with
      | false => walk_at "tw"; rfl
      | true =>
        k_call_by "tw" ⟨h.at⟩
        by_cases e : i = T.asked
        · subst e
          rw [beq_self_eq_true]
          walk_at "tw"
          rfl
        · rw [beq_false_of_ne e, if_neg e]
          walk_at "tw"
          rfl
    | non => rfl
    | bl _ => rfl
    | str _ => rfl
    | tup _ => rfl
    | lst _ => rfl
    | _ => cases hd

theorem askNo_some {d : D} (h : T.askNo d = none) : T.isOver = false ∧ d = .int T.asked := by
  unfold Tb.askNo at h
  split at h
  · cases h
  · rename_i ho
    refine ⟨by simpa using ho, ?_⟩
    split at h
    · rename_i i
      split at h
      · cases h
      · split at h
        · rename_i e; rw [e]
        · cases h
    · cases h
def Tb.playD (T : Tb) (d e : D) : Option Str := match T.askNo d with
  | some c => some c
  | none => match e with
    | .int p => (T.playNo T.asked p).map refName
    | _ => some "NoCard"
theorem LS.playD {d e : D} (l : LS t c S A T n b) (hd : anyD d = true) (he : anyD e = true) :
    (@DM.wpK _ (sem_Table_play [.ref (A .obj), d, e] S) ⟨(fun v S' => ∃ p, e = .int p ∧ T.playD d e = none ∧ d = .int T.asked ∧ T.playNo T.asked p = none ∧ T.isOver = false ∧ v = .val (.int T.count) ∧ ∃ A', LS t c S' A' (T.playOk T.asked p) n b ∧ A' .obj = A .obj ∧ ∀ g x, KP g x S A T → KP g x S' A' (T.playOk T.asked p)), (fun c S' => S' = S ∧ T.playD d e = some c)⟩) := by
  have k := l.k
  cases hq : T.askNo d with
  | some c0 =>
    unfold sem_Table_play
    rw [wp_sem]
    refine ⟨rfl, ?_⟩
    unfold m_Table_play
    have ho := anyD_own hd
    k_call_by "tw" ⟨l.rep.isT, wp_askedD l.rep k.n4 hd, hq, ho⟩
    show S = S ∧ T.playD d e = some c0
    refine ⟨rfl, ?_⟩
    unfold Tb.playD
    rw [hq]
  | none =>
    obtain ⟨hov, rfl⟩ := askNo_some hq
    have go : ∀ (hn : ∀ p, e ≠ .int p), (@DM.wpK _ (sem_Table_play [.ref (A .obj), .int T.asked, e] S) ⟨(fun v S' => ∃ p, e = .int p ∧ T.playD (.int T.asked) e = none ∧ D.int T.asked = .int T.asked ∧ T.playNo T.asked p = none ∧ T.isOver = false ∧ v = .val (.int T.count) ∧ ∃ A', LS t c S' A' (T.playOk T.asked p) n b ∧ A' .obj = A .obj ∧ ∀ g x, KP g x S A T → KP g x S' A' (T.playOk T.asked p)), (fun c S' => S' = S ∧ T.playD (.int T.asked) e = some c)⟩) := fun hn => by
      have w := l.wf
      have hs := hand_some k w.as.1 w.as.2
      unfold sem_Table_play
      rw [wp_sem]
      refine ⟨rfl, ?_⟩
      unfold m_Table_play
      have ho := anyD_own he
      have hw : whole e 0 (((T.hand T.asked).length : Int) - 1) = false := by cases e <;> first | rfl | exact absurd rfl (hn _)
      k_call_by "tw" ⟨l.rep.isT, wp_need_asked l.rep k.n4 hov w.as.1 w.as.2, l.rep.at, ix_hands l.rep k w.as.1 w.as.2, l_len_ref (l.rep.chand hs), List.length_map, wp_wholeD he, ho, hw⟩
      unfold Tb.playD
      rw [hq]
      cases e <;> first | rfl | exact absurd rfl (hn _)
    cases e with
    | int p =>
      refine wp_mono (l.playK hov) (fun v S' z => ?_) (fun c S' z => ?_)
      · obtain ⟨h1, rfl, A', h3, h4, h5⟩ := z
        refine ⟨p, rfl, ?_, rfl, h1, hov, rfl, A', h3, h4, h5⟩
        unfold Tb.playD
        rw [hq]
        show (T.playNo T.asked p).map refName = none
        rw [h1]; rfl
      · obtain ⟨rfl, m, h1, rfl⟩ := z
        refine ⟨rfl, ?_⟩
        unfold Tb.playD
        rw [hq]
        show (T.playNo T.asked p).map refName = _
        rw [h1]; rfl
    | non => exact go fun p h => nomatch h
    | bl _ => exact go fun p h => nomatch h
    | str _ => exact go fun p h => nomatch h
    | tup _ => exact go fun p h => nomatch h
    | lst _ => exact go fun p h => nomatch h
    | _ => cases he
theorem LS.goByD {d : D} (l : LS t c S A T n b) (hd : anyD d = true) (hb : b < 1000000) :
    (@DM.wpK _ (sem_Table_go_by [.ref (A .obj), d] S) ⟨(fun v S' => T.askNo d = none ∧ d = .int T.asked ∧ T.isOver = false ∧ v = .ol (T.goBy.1.map Nt.d) ∧ T.goBy.1.length ≤ 65 ∧ ∃ A', LS t c S' A' T.goBy.2 n (b + 1) ∧ A' .obj = A .obj ∧ ∀ g x, KP g x S A T → KP g x S' A' T.goBy.2), (fun c S' => S' = S ∧ T.askNo d = some c)⟩) := by
  cases hq : T.askNo d with
  | some c0 =>
    unfold sem_Table_go_by
    rw [wp_sem]
    refine ⟨rfl, ?_⟩
    unfold m_Table_go_by
    have ho := anyD_own hd
    k_call_by "tw" ⟨l.rep.isT, wp_askedD l.rep l.k.n4 hd, hq, ho⟩
    show S = S ∧ some c0 = some c0
    exact ⟨rfl, rfl⟩
  | none =>
    obtain ⟨hov, rfl⟩ := askNo_some hq
    refine wp_use (l.goByK hov hb) fun v S' z => ?_
    obtain ⟨h1, h2, A', h3, h4, h5⟩ := z
    exact ⟨rfl, rfl, hov, h1, h2, A', h3, h4, h5⟩
/-! ### do -/
inductive Deed | play (s p : D) | pass (s : D)
def Deed.d : Deed → D
  | .play s p => .tup [.str "play", s, p]
  | .pass s => .tup [.str "pass", s]
def Deed.any : Deed → Bool
  | .play s p => anyD s && anyD p
  | .pass s => anyD s
def gget (tbl : List (Str × Option Int)) (ds : List D) : Option D := match ds with
  | [.str w, z] => if z.isOwn = true then none else (match tbl.lookup w with
    | some (some i) => some (.int i)
    | some none => some z
    | none => none)
  | _ => none
theorem wp_gget {tbl : List (Str × Option Int)} {m : DM (List D)} {δ : List Sl} {Q : D → Sto → Prop} : ((@DM.wpK _ (dGGet tbl m δ S) ⟨Q, E⟩)) = (@DM.wpK _ (m δ S) ⟨(fun ds S1 => (@DM.woK _ (gget tbl ds) ⟨fun z => Q z S1⟩)), E⟩) := by
  unfold dGGet
  rw [wp_bind]
  congr
  funext ds S1
  rcases ds with _ | ⟨x, _ | ⟨z, _ | ⟨y, l⟩⟩⟩
  · rfl
  · cases x <;> rfl
  · cases x with
    | str w =>
      show ((@DM.wpK _ (if z.isOwn = true then R.stuck else match tbl.lookup w with | some (some i) => R.ok (D.int i) S1 | some none => .ok z S1 | none => .stuck) ⟨Q, E⟩)) = (@DM.woK _ (if z.isOwn = true then none else match tbl.lookup w with | some (some i) => some (D.int i) | some none => some z | none => none) ⟨fun z => Q z S1⟩)
      cases z.isOwn with
      | true => rfl
      | false =>
        cases tbl.lookup w with
        | none => rfl
        | some o => cases o <;> rfl
    | _ => rfl
  · cases x <;> rfl
theorem deed_eq (dd : Deed) (h : dd.any = true) : sem_is_deed [dd.d] S = .ok (.val (.bl true)) S := by
  have g1 : gget tbl_SIZES [.str (Str.ofString "play"), .int 0] = some (.int 3) := by kernel_rfl
  have g2 : gget tbl_SIZES [.str (Str.ofString "pass"), .int 0] = some (.int 2) := by kernel_rfl
  refine eq_of_wp ?_
  unfold sem_is_deed
  rw [wp_sem]
  refine ⟨rfl, ?_⟩
  unfold m_is_deed
  have n3 : (((3 : Nat) : Int) == 0) = false := rfl
  have n2 : (((2 : Nat) : Int) == 0) = false := rfl
  have m3 : (((3 : Nat) : Int) == 3) = true := rfl
  have m2 : (((2 : Nat) : Int) == 2) = true := rfl
  cases dd with
  | play s p => k_call_by "tw" ⟨Deed.d, wp_gget, g1, n3, m3⟩
  | pass s => k_call_by "tw" ⟨Deed.d, wp_gget, g2, n2, m2⟩
theorem wp_deed {dd : Deed} (h : dd.any = true) : ((@DM.wpK _ (sem_is_deed [dd.d] S) ⟨Q, E⟩)) = Q (.val (.bl true)) S := wp_of_eq (deed_eq dd h)
def Tb.tell (T : Tb) : Deed → D
  | .play s p => if (T.playD s p).isNone then .int T.count else .str "refused"
  | .pass s => if (T.askNo s).isNone then .lst (T.goBy.1.map Nt.d) else .str "refused"
def intOf : D → Int
  | .int i => i
  | _ => 0
def Tb.does (T : Tb) : Deed → Tb
  | .play s p => if (T.playD s p).isNone then T.playOk T.asked (intOf p) else T
  | .pass s => if (T.askNo s).isNone then T.goBy.2 else T
theorem askNo_in {d : D} {e : Str} (h : T.askNo d = some e) : e ∈ takes_P := by
  unfold Tb.askNo at h
  split at h
  · cases h; decide
  · split at h
    · split at h
      · cases h; decide
      · split at h
        · cases h
        · cases h; decide
    · cases h; decide
theorem playD_in {d p : D} {e : Str} (h : T.playD d p = some e) : e ∈ takes_P := by
  unfold Tb.playD at h
  split at h
  · rename_i c0 hq
    cases h
    exact askNo_in hq
  · split at h
    · obtain ⟨m, h1, rfl⟩ := Option.map_eq_some_iff.mp h
      rcases playNo_cases h1 with rfl | rfl | rfl <;> decide
    · cases h; decide
theorem hndP {e : Str} (h : e ∈ takes_P) (x : Str) : hndStr takes_P x e S = .ok (.val (.str x)) S := by
  unfold hndStr
  rw [if_pos h]
theorem LS.upB (l : LS t c S A T n b) : LS t c S A T n (b + 1) := ⟨l.rep, l.k, l.i, l.due, l.n2, Int.le_trans l.b (by omega), l.twn, l.tl, l.aw⟩
theorem LS.doD {dd : Deed} (l : LS t c S A T n b) (hd : dd.any = true) (hb : b < 1000000) :
    (@DM.wpK _ (sem_do [.ref (A .obj), dd.d] S) ⟨(fun v S' => v = .val (T.tell dd) ∧ ∃ A', LS t c S' A' (T.does dd) n (b + 1) ∧ A' .obj = A .obj ∧ ∀ g x, KP g x S A T → KP g x S' A' (T.does dd)), (fun _ _ => False)⟩) := by
  unfold sem_do
  rw [wp_sem]
  refine ⟨rfl, ?_⟩
  unfold m_do
  cases dd with
  | play s p =>
    obtain ⟨h1, h2⟩ := Bool.and_eq_true_iff.mp (show (anyD s && anyD p) = true from hd)
    have o1 := anyD_own h1
    have o2 := anyD_own h2
    have od : (Deed.d (.play s p)).isOwn = false := rfl
    have i0 : ∀ δ, oIx δ S (Deed.d (.play s p)) (.int 0) = some (.str (Str.ofString "play")) := fun _ => rfl
    have i1 : ∀ δ, oIx δ S (Deed.d (.play s p)) (.int 1) = some s := fun _ => rfl
    have i2 : ∀ δ, oIx δ S (Deed.d (.play s p)) (.int 2) = some p := fun _ => rfl
    k_call_by "tw" ⟨wp_deed hd, od, i0, i1, i2, o1, o2, l.rep.isT⟩
    refine wp_mono (l.playD h1 h2) (fun v S' z => ?_) (fun e S' z => ?_)
    · obtain ⟨q, rfl, h3, rfl, h4, h5, rfl, A', h6, h7, h8⟩ := z
      have e1 : T.tell (.play (.int T.asked) (.int q)) = .int T.count := by unfold Tb.tell; dsimp only; rw [h3]; rfl
      have e2 : T.does (.play (.int T.asked) (.int q)) = T.playOk T.asked q := by unfold Tb.does; dsimp only; rw [h3]; rfl
      rw [e1, e2]
      walk_at "tw"
      exact ⟨A', LS.upB h6, h7, h8⟩
    · obtain ⟨rfl, h3⟩ := z
      have e1 : T.tell (.play s p) = .str "refused" := by unfold Tb.tell; dsimp only; rw [h3]; rfl
      have e2 : T.does (.play s p) = T := by unfold Tb.does; dsimp only; rw [h3]; rfl
      rw [e1, e2, hndP (playD_in h3)]
      exact ⟨rfl, A, LS.upB l, rfl, fun _ _ k => k⟩
  | pass s =>
    have h1 : anyD s = true := hd
    have o1 := anyD_own h1
    have od : (Deed.d (.pass s)).isOwn = false := rfl
    have i0 : ∀ δ, oIx δ S (Deed.d (.pass s)) (.int 0) = some (.str (Str.ofString "pass")) := fun _ => rfl
    have i1 : ∀ δ, oIx δ S (Deed.d (.pass s)) (.int 1) = some s := fun _ => rfl
    have np : ((Str.ofString "pass") == (Str.ofString "play")) = false := by kernel_rfl
    k_call_by "tw" ⟨wp_deed hd, od, i0, i1, np, o1, l.rep.isT⟩
    refine wp_mono (l.goByD h1 hb) (fun v S' z => ?_) (fun e S' z => ?_)
    · obtain ⟨h3, rfl, h4, rfl, h5, A', h6, h7, h8⟩ := z
      have e1 : T.tell (.pass (.int T.asked)) = .lst (T.goBy.1.map Nt.d) := by unfold Tb.tell; dsimp only; rw [h3]; rfl
      have e2 : T.does (.pass (.int T.asked)) = T.goBy.2 := by unfold Tb.does; dsimp only; rw [h3]; rfl
      rw [e1, e2]
      walk_at "tw"
      exact ⟨A', h6, h7, h8⟩
    · obtain ⟨rfl, h3⟩ := z
      have e1 : T.tell (.pass s) = .str "refused" := by unfold Tb.tell; dsimp only; rw [h3]; rfl
      have e2 : T.does (.pass s) = T := by unfold Tb.does; dsimp only; rw [h3]; rfl
      rw [e1, e2, hndP (askNo_in h3)]
      exact ⟨rfl, A, LS.upB l, rfl, fun _ _ k => k⟩
end
end TB


end
section
set_option Elab.async false
set_option linter.all false
set_option maxRecDepth 100000
set_option autoImplicit false
namespace TB
open PySem DM PR L2 PySem.Spec
open QA (Dr)
section
variable {S S' : Sto} {A A2 A2' : Ro → Nat} {T T2 T2' : Tb} {n b t c : Nat} {Q : RV → Sto → Prop} {E : Str → Sto → Prop}
/-! ### a table that stands beside another one -/
structure Bes (A : Ro → Nat) (T : Tb) (S : Sto) (A2 : Ro → Nat) (T2 : Tb) : Prop where
  kp : ∀ r c, content A T r = some c → KP (A r) c S A2 T2
  inj : ∀ r r', live T r → live T r' → A r = A r' → r = r'
theorem Bes.rep (h : Bes A T S A2 T2) : Rep S A T := by
  refine ⟨fun r c e => (h.kp r c e).c, fun r l => ?_, h.inj⟩
  obtain ⟨c, e⟩ := Option.isSome_iff_exists.mp ((live_of (A := A)).mp l)
  exact (h.kp r c e).lt
theorem Bes.of (h : Rep S A T) (k : ∀ g x, S.c g = some x → g < S.nx → KP g x S' A2 T2) : Bes A T S' A2 T2 :=
  ⟨fun r c e => k _ _ (h.eq r c e) (h.lt r (live_c e)), h.inj⟩
theorem Bes.step (h : Bes A T S A2 T2) (k : ∀ g x, KP g x S A2 T2 → KP g x S' A2' T2') : Bes A T S' A2' T2' := ⟨fun r c e => k _ _ (h.kp r c e), h.inj⟩
theorem Bes.tick (h : Bes A T S A2 T2) (aw : ∀ r, live T r → A r ≠ t) : Bes A T (tick S t c) A2 T2 := ⟨fun r x e => (h.kp r x e).tick (aw r (live_c e)), h.inj⟩
theorem KP.keepCell {g : Nat} {x : Cell} (k : KP g x S A T) {j : Nat} {y : Option Cell} (hne : g ≠ j) : KP g x (S.set j y) A T := ⟨(set_other hne).trans k.c, k.lt, k.aw⟩
theorem Bes.set (h : Bes A T S A2 T2) {j : Nat} {y : Option Cell} (aw : ∀ r, live T r → A r ≠ j) : Bes A T (S.set j y) A2 T2 := ⟨fun r x e => (h.kp r x e).keepCell (aw r (live_c e)), h.inj⟩
theorem Bes.new (h : Bes A T S A2 T2) (y : Cell) : Bes A T (S.new y) A2 T2 := ⟨fun r x e => (h.kp r x e).new y, h.inj⟩
/-! ### run -/
def doAll : Tb → List Deed → Tb
  | T, [] => T
  | T, d :: r => doAll (T.does d) r
def tells : Tb → List Deed → List D
  | _, [] => []
  | T, d :: r => T.tell d :: tells (T.does d) r
theorem doAll_snoc : ∀ (l : List Deed) (T : Tb) (d : Deed), doAll T (l ++ [d]) = (doAll T l).does d
  | [], _, _ => rfl
  | a :: l, T, d => doAll_snoc l (T.does a) d
theorem tells_snoc : ∀ (l : List Deed) (T : Tb) (d : Deed), tells T (l ++ [d]) = tells T l ++ [(doAll T l).tell d]
  | [], _, _ => rfl
  | a :: l, T, d => by
    show T.tell a :: tells (T.does a) (l ++ [d]) = T.tell a :: (tells (T.does a) l ++ [(doAll (T.does a) l).tell d])
    rw [tells_snoc l]
theorem tells_len : ∀ (l : List Deed) (T : Tb), (tells T l).length = l.length
  | [], _ => rfl
  | a :: l, T => congrArg (· + 1) (tells_len l (T.does a))
theorem tell_own {d : Deed} : (T.tell d).isOwn = false := by
  unfold Tb.tell
  cases d <;> (dsimp only; split <;> rfl)
theorem tell_ok {d : Deed} : okD 59 (T.tell d) = true := by
  unfold Tb.tell
  cases d with
  | play s p => dsimp only; split <;> rfl
  | pass s =>
    dsimp only
    split
    · show (T.goBy.1.map Nt.d).all (okD 58) = true
      rw [List.all_map]
      exact List.all_eq_true.mpr fun x _ => okD_le (nt_ok x) (by decide)
    · rfl
theorem tells_ok : ∀ (l : List Deed) (T : Tb), (tells T l).all (okD 59) = true
  | [], _ => rfl
  | a :: l, T => by
    show (okD 59 (T.tell a) && (tells (T.does a) l).all (okD 59)) = true
    rw [tell_ok, tells_ok]; rfl
theorem deed_own {d : Deed} : d.d.isOwn = false := by cases d <;> rfl
theorem bind1 {x : Str} {i : Nat} {d : D} {δ : List Sl} (h : d.isOwn = false) : bindT (false, [(x, i)]) d δ = some (δ.set i (.v d)) := by cases d <;> first | rfl | cases h
theorem run_w {ls : List Int} {hs : List (List Cd)} {k : Nat} {ds : List Deed} (o : OkNew ls hs) (twn : TownAt S t c) (tl : t < S.nx) (hk : S.c k = some (.lst (ds.map Deed.d))) (kl : k < S.nx) (ha : ∀ d ∈ ds, d.any = true) (hl : ds.length ≤ 1000) :
    (@DM.wpK _ (sem_run [.tup (ls.map .int), .tup (hs.map handD), .ref k] S) ⟨(fun v S' => ∃ A, LS t c S' A (doAll (Tb.new ls hs) ds) ls.length ds.length ∧ v = .val (.tup [.ref (A .obj), .lst (tells (Tb.new ls hs) ds)]) ∧ ∀ g x, S.c g = some x → g < S.nx → KP g x S' A (doAll (Tb.new ls hs) ds)), (fun _ _ => False)⟩) := by
  unfold sem_run
  rw [wp_sem]
  refine ⟨rfl, ?_⟩
  unfold m_run
  walk_at "tw"
  refine wp_use (LS.makeK o rfl twn tl) fun v S1 z => ?_
  obtain ⟨rfl, A, l, ea, kk⟩ := z
  rw [← ea]
  have kc := kk k _ hk kl
  have sq : seqN S1 (.ref k) = some (false, ds.map Deed.d) := by
    show seqOf [] S1 (.ref k) = _
    simp only [seqOf, lstOf, kc.c, Option.map_some]
  have so : srcOf S1 (.ref k) = some (.seq (.ref k)) := by
    unfold srcOf
    simp only [sq]
  have sl : srcLen S1 (.seq (.ref k)) = ds.length := by
    unfold srcLen
    simp only [sq, List.length_map]
  k_call_by "tw" ⟨l_ty_ref kc.c, so, sl⟩
  refine ⟨rfl, wp_lcA ds Deed.d (fun _ => .bl true) (fun i => src_seq (S := S1) sq i) (Nat.lt_succ_self _) (by omega) (fun d hd => ⟨_, bind1 deed_own, ?_, rfl⟩) ?_⟩
  · have := @deed_own d
    k_call_by "tw" ⟨wipeD, this, wp_deed (ha d hd)⟩
  · have hal : hAll (wipeD [.v (.tup (ls.map .int)), .v (.tup (hs.map handD)), .v (.ref k), .v (.ref (A .obj)), .no] [4]) S1 [.lst (ds.map fun _ => .bl true)] = some (.bl (ds.all fun _ => true)) := all_map (p := fun _ : Deed => true) (cs := ds)
    k_call_by "tw" ⟨all_map (p := fun _ : Deed => true), show (ds.all fun _ => true) = true by simp, so, sl⟩
    refine ⟨rfl, wp_mono (wp_lcL (ds.map Deed.d) (fun i acc S' => ∃ A', LS t c S' A' (doAll (Tb.new ls hs) (ds.take i)) ls.length i ∧ A' .obj = A .obj ∧ acc = tells (Tb.new ls hs) (ds.take i) ∧ ∀ g x, S.c g = some x → g < S.nx → KP g x S' A' (doAll (Tb.new ls hs) (ds.take i))) (fun i acc S' inv => ?_) (fun i acc S' x inv hx => ?_) _ _ _ _ (by rw [List.length_map]; exact Nat.lt_succ_self _) (Nat.zero_le _) ⟨A, l, rfl, rfl, kk⟩) (fun acc S' z => ?_) fun _ _ z => z⟩
    · obtain ⟨A', _, _, _, k6⟩ := inv
      have kc6 := k6 k _ hk kl
      refine src_seq ?_ i
      show seqOf [] S' (.ref k) = _
      simp only [seqOf, lstOf, kc6.c, Option.map_some]
    · obtain ⟨A', l6, e6, rfl, k6⟩ := inv
      rw [List.getElem?_map] at hx
      obtain ⟨d, hd, rfl⟩ := Option.map_eq_some_iff.mp hx
      have hi : i < ds.length := (List.getElem?_eq_some_iff.mp hd).1
      have ht : ds.take (i + 1) = ds.take i ++ [d] := by rw [List.take_succ, hd]; rfl
      refine ⟨_, bind1 deed_own, ?_⟩
      rw [← e6]
      have := @deed_own d
      k_call_by "tw" ⟨wipeD, this⟩
      refine wp_use (l6.doD (ha d (List.mem_of_getElem? hd)) (by omega)) fun v S7 z => ?_
      obtain ⟨rfl, A7, l7, e7, k7⟩ := z
      walk_at "tw"
      rw [ht, doAll_snoc, tells_snoc]
      refine ⟨⟨tell_own, ?_⟩, A7, l7, e7, rfl, fun g x h1 h2 => k7 g x (k6 g x h1 h2)⟩
      rw [tells_len, List.length_take]
      omega
    · obtain ⟨A', l6, e6, rfl, k6⟩ := z
      rw [List.length_map, List.take_length] at l6 k6
      rw [List.length_map, List.take_length]
      walk_at "tw"
      exact ⟨A', l6, by rw [e6], fun g x h1 h2 => k6 g x h1 (by rw [ea] at h2; exact h2)⟩
theorem run_noT {ls : List Int} {hs : List (List Cd)} {ds : List D} (o : OkNew ls hs) (twn : TownAt S t c) (tl : t < S.nx) :
    (@DM.wpK _ (sem_run [.tup (ls.map .int), .tup (hs.map handD), .tup ds] S) ⟨(fun _ _ => False), (fun e S' => e = "NoDeed" ∧ S.nx ≤ S'.nx ∧ ∀ g x, S.c g = some x → g < S.nx → S'.c g = some x)⟩) := by
  unfold sem_run
  rw [wp_sem]
  refine ⟨rfl, ?_⟩
  unfold m_run
  walk_at "tw"
  refine wp_use (LS.makeK o rfl twn tl) fun v S1 z => ?_
  obtain ⟨rfl, A, l, ea, kk⟩ := z
  walk_at "tw"
  refine ⟨?_, fun g x h1 h2 => (kk g x h1 h2).c⟩
  have := l.rep.lt .obj rfl
  omega
theorem run_noL {ls : List Int} {hs : List (List Cd)} {ds : List Deed} {bad : D} (o : OkNew ls hs) (twn : TownAt S t c) (tl : t < S.nx) (ha : ∀ d ∈ ds, d.any = true) (hl : ds.length ≤ 1000) (hb : ∀ S, sem_is_deed [bad] S = .ok (.val (.bl false)) S) (hbo : bad.isOwn = false) :
    (@DM.wpK _ (sem_run [.tup (ls.map .int), .tup (hs.map handD), .lst (ds.map Deed.d ++ [bad])] S) ⟨(fun _ _ => False), (fun e S' => e = "NoDeed" ∧ S.nx ≤ S'.nx ∧ ∀ g x, S.c g = some x → g < S.nx → S'.c g = some x)⟩) := by
  unfold sem_run
  rw [wp_sem]
  refine ⟨rfl, ?_⟩
  unfold m_run
  have e1 : ds.map Deed.d ++ [bad] = (ds.map some ++ [none]).map fun o : Option Deed => match o with
      | some d => d.d
      | none => bad := by rw [List.map_append, List.map_map]; rfl
  walk_at "tw"
  refine wp_use (LS.makeK o rfl twn tl) fun v S1 z => ?_
  obtain ⟨rfl, A, l, ea, kk⟩ := z
  have hlen : (ds.map some ++ [none] : List (Option Deed)).length = ds.length + 1 := by simp
  rw [e1]
  k_call_by "tw" ⟨src_lst⟩
  refine ⟨rfl, wp_lcA (ds.map some ++ [none]) (fun o : Option Deed => match o with | some d => d.d | none => bad) (fun o => .bl o.isSome) (fun i => src_seq (S := S1) seqN_lst i) (Nat.lt_succ_of_le (by show (ds.map some ++ [none] : List (Option Deed)).length ≤ (List.map _ _).length; rw [List.length_map]; exact Nat.le_refl _)) (by omega) (fun d hd => ⟨_, bind1 (by cases d; exact hbo; exact deed_own), ?_, rfl⟩) ?_⟩
  · have h2 := @deed_own
    cases d with
    | none =>
      k_call_by "tw" ⟨wipeD, hbo, wp_of_eq (hb _)⟩
      rfl
    | some d =>
      have hd : d ∈ ds := by simpa using hd
      k_call_by "tw" ⟨wipeD, @h2 d, wp_deed (ha d hd)⟩
      rfl
  · have ef : ((ds.map some ++ [none] : List (Option Deed)).all fun o => o.isSome) = false := by simp
    k_call_by "tw" ⟨all_map (p := fun o : Option Deed => o.isSome), ef⟩
    refine ⟨?_, fun g x h1 h2 => (kk g x h1 h2).c⟩
    have := l.rep.lt .obj rfl
    omega
end
end TB


end
section
set_option Elab.async false
set_option linter.all false
set_option maxRecDepth 100000
set_option autoImplicit false
namespace A17
open PySem DM PR QA TB L2 PySem.Spec
variable {S : Sto} {A : Ro → Nat} {T T' : Tb} {n b t c : Nat}
theorem hndX {e : Str} (h : e ∈ takes_P) (S : Sto) : ∃ k : Int, hndWhich takes_PileError which e S = .ok (.val (.tup [.str "refused", .int k])) S := by
  unfold takes_P at h
  simp only [List.mem_cons, List.not_mem_nil, or_false] at h
  rcases h with rfl | rfl | rfl | rfl | rfl | rfl
  · exact ⟨1, by kernel_rfl⟩
  · exact ⟨2, by kernel_rfl⟩
  · exact ⟨3, by kernel_rfl⟩
  · exact ⟨4, by kernel_rfl⟩
  · exact ⟨6, by kernel_rfl⟩
  · exact ⟨8, by kernel_rfl⟩
theorem hndD (S : Sto) : hndWhich takes_PileError which "NoDeed" S = .ok (.val (.tup [.str "refused", .int 10])) S := by kernel_rfl
/-- what a deed told, as the law keeps it -/
def Told (T : Tb) (d : Deed) (v : D) : Prop := (T.tell d = .str "refused" ∧ ∃ k : Int, v = .tup [.str "refused", .int k]) ∨ ((∃ i : Int, v = .int i) ∨ ∃ l, v = .lst l) ∧ v = T.tell d ∧ okD 59 v = true
theorem play_w {s p : Int} (l : LS t c S A T n b) (hb : b < 1000000) :
    (@DM.wpK _ (sem__law_play [.ref (A .obj), .int s, .int p] S) ⟨(fun v S' => ∃ u, v = .val u ∧ Told T (.play (.int s) (.int p)) u ∧ ∃ A', LS t c S' A' (T.does (.play (.int s) (.int p))) n (b + 1) ∧ A' .obj = A .obj ∧ ∀ g x, KP g x S A T → KP g x S' A' (T.does (.play (.int s) (.int p)))), (fun _ _ => False)⟩) := by
  unfold sem__law_play
  rw [wp_sem]
  refine ⟨rfl, ?_⟩
  unfold m__law_play
  k_call_by "tw" ⟨l.rep.isT⟩
  refine wp_mono (l.playD (d := .int s) (e := .int p) rfl rfl) (fun v S' z => ?_) (fun e S' z => ?_)
  · obtain ⟨q, hq, h3, h0, h4, h5, rfl, A', h6, h7, h8⟩ := z
    cases hq
    have e1 : T.tell (.play (.int s) (.int p)) = .int T.count := by unfold Tb.tell; dsimp only; rw [h3]; rfl
    have e2 : T.does (.play (.int s) (.int p)) = T.playOk T.asked p := by unfold Tb.does; dsimp only; rw [h3]; rfl
    rw [e2]
    walk_at "tw"
    exact ⟨_, rfl, .inr ⟨.inl ⟨_, rfl⟩, e1.symm, rfl⟩, A', LS.upB h6, h7, h8⟩
  · obtain ⟨rfl, h3⟩ := z
    have e1 : T.tell (.play (.int s) (.int p)) = .str "refused" := by unfold Tb.tell; dsimp only; rw [h3]; rfl
    have e2 : T.does (.play (.int s) (.int p)) = T := by unfold Tb.does; dsimp only; rw [h3]; rfl
    obtain ⟨k, hk⟩ := hndX (playD_in h3) S'
    rw [e2, hk]
    exact ⟨_, rfl, .inl ⟨e1, k, rfl⟩, A, LS.upB l, rfl, fun _ _ k => k⟩
theorem pass_w {s : Int} (l : LS t c S A T n b) (hb : b < 1000000) :
    (@DM.wpK _ (sem__law_pass [.ref (A .obj), .int s] S) ⟨(fun v S' => ∃ u, v = .val u ∧ Told T (.pass (.int s)) u ∧ ∃ A', LS t c S' A' (T.does (.pass (.int s))) n (b + 1) ∧ A' .obj = A .obj ∧ ∀ g x, KP g x S A T → KP g x S' A' (T.does (.pass (.int s)))), (fun _ _ => False)⟩) := by
  unfold sem__law_pass
  rw [wp_sem]
  refine ⟨rfl, ?_⟩
  unfold m__law_pass
  k_call_by "tw" ⟨l.rep.isT⟩
  refine wp_mono (l.goByD (d := .int s) rfl hb) (fun v S' z => ?_) (fun e S' z => ?_)
  · obtain ⟨h3, h0, h4, rfl, h5, A', h6, h7, h8⟩ := z
    have e1 : T.tell (.pass (.int s)) = .lst (T.goBy.1.map Nt.d) := by unfold Tb.tell; dsimp only; rw [h3]; rfl
    have e2 : T.does (.pass (.int s)) = T.goBy.2 := by unfold Tb.does; dsimp only; rw [h3]; rfl
    rw [e2]
    walk_at "tw"
    have ok := tell_ok (T := T) (d := .pass (.int s))
    rw [e1] at ok
    exact ⟨_, rfl, .inr ⟨.inr ⟨_, rfl⟩, e1.symm, ok⟩, A', h6, h7, h8⟩
  · obtain ⟨rfl, h3⟩ := z
    have e1 : T.tell (.pass (.int s)) = .str "refused" := by unfold Tb.tell; dsimp only; rw [h3]; rfl
    have e2 : T.does (.pass (.int s)) = T := by unfold Tb.does; dsimp only; rw [h3]; rfl
    obtain ⟨k, hk⟩ := hndX (askNo_in h3) S'
    rw [e2, hk]
    exact ⟨_, rfl, .inl ⟨e1, k, rfl⟩, A, LS.upB l, rfl, fun _ _ k => k⟩
theorem asked_w {d : Deed} (l : LS t c S A T n b) (hd : d.any = true) (hb : b < 1000000) :
    (@DM.wpK _ (sem__law_asked [.int 1, .ref (A .obj), d.d, .non] S) ⟨(fun v S' => v = .val (T.tell d) ∧ ∃ A', LS t c S' A' (T.does d) n (b + 1) ∧ A' .obj = A .obj ∧ ∀ g x, KP g x S A T → KP g x S' A' (T.does d)), (fun _ _ => False)⟩) := by
  unfold sem__law_asked
  rw [wp_sem]
  refine ⟨rfl, ?_⟩
  unfold m__law_asked
  have h1 : ((1 : Int) == 0) = false := rfl
  have ho := @deed_own d
  k_call_by "tw" ⟨h1, ho⟩
  refine wp_use (l.doD hd hb) fun v S' z => ?_
  obtain ⟨rfl, z⟩ := z
  walk_at "tw"
  rw [ws_retOf tell_own]
  exact ⟨rfl, z⟩
def m_fin : DS :=
  (sSeq (sMut "list" hAppend (dVar 3) (dCons (dVar 11) dNil))
    (sMut "list" hAppend (dVar 4) (dCons (dOp2 oIx (dLst (dCons (dConst (.str "refused")) (dCons (dVar 12) dNil))) (dB hInt (dCons (dOrV (dIsi "int" (dVar 12)) (dIsi "list" (dVar 12))) dNil))) dNil)))
theorem m_fin_def : m_fin =
  (sSeq (sMut "list" hAppend (dVar 3) (dCons (dVar 11) dNil))
    (sMut "list" hAppend (dVar 4) (dCons (dOp2 oIx (dLst (dCons (dConst (.str "refused")) (dCons (dVar 12) dNil))) (dB hInt (dCons (dOrV (dIsi "int" (dVar 12)) (dIsi "list" (dVar 12))) dNil))) dNil))) := rfl
def m_rest : DS :=
  (sSeq (sSet 11 (dTup (dCons (dConst (.str "pass")) (dCons (dVar 10) dNil))))
    (sSeq (sSet 12 (dConst .non))
    (sSeq (sIf (dCmp cEq (dCall 3 sem__law_draw (dCons (dVar 0) (dCons (dVar 1) (dCons (dConst (.int 2)) dNil)))) (dConst (.int 0)))
    (sSeq (sSet 11 (dTup (dCons (dConst (.str "play")) (dCons (dVar 10) (dCons (dCall 3 sem__law_draw (dCons (dVar 0) (dCons (dVar 1) (dCons (dConst (.int 4)) dNil)))) dNil)))))
    (sSet 12 (dCall 3 sem__law_play (dCons (dVar 2) (dCons (dVar 10) (dCons (dOp2 oIx (dVar 11) (dConst (.int 2))) dNil))))))
    (sSet 12 (dCall 2 sem__law_pass (dCons (dVar 2) (dCons (dVar 10) dNil)))))
    (sSeq (sMut "list" hAppend (dVar 3) (dCons (dVar 11) dNil))
    (sMut "list" hAppend (dVar 4) (dCons (dOp2 oIx (dLst (dCons (dConst (.str "refused")) (dCons (dVar 12) dNil))) (dB hInt (dCons (dOrV (dIsi "int" (dVar 12)) (dIsi "list" (dVar 12))) dNil))) dNil))))))
theorem m_rest_def : m_rest =
  (sSeq (sSet 11 (dTup (dCons (dConst (.str "pass")) (dCons (dVar 10) dNil))))
    (sSeq (sSet 12 (dConst .non))
    (sSeq (sIf (dCmp cEq (dCall 3 sem__law_draw (dCons (dVar 0) (dCons (dVar 1) (dCons (dConst (.int 2)) dNil)))) (dConst (.int 0)))
    (sSeq (sSet 11 (dTup (dCons (dConst (.str "play")) (dCons (dVar 10) (dCons (dCall 3 sem__law_draw (dCons (dVar 0) (dCons (dVar 1) (dCons (dConst (.int 4)) dNil)))) dNil)))))
    (sSet 12 (dCall 3 sem__law_play (dCons (dVar 2) (dCons (dVar 10) (dCons (dOp2 oIx (dVar 11) (dConst (.int 2))) dNil))))))
    (sSet 12 (dCall 2 sem__law_pass (dCons (dVar 2) (dCons (dVar 10) dNil)))))
    (sSeq (sMut "list" hAppend (dVar 3) (dCons (dVar 11) dNil))
    (sMut "list" hAppend (dVar 4) (dCons (dOp2 oIx (dLst (dCons (dConst (.str "refused")) (dCons (dVar 12) dNil))) (dB hInt (dCons (dOrV (dIsi "int" (dVar 12)) (dIsi "list" (dVar 12))) dNil))) dNil)))))) := rfl

theorem cNe_own {xs : List D} {k : Nat} {δ : List Sl} (h : δ[k]? = some (.ol xs)) (ok : xs.all (okD 59) = true) : cNe δ S (.lst xs) (.own k) = some false := by
  have e : cEq δ S (.lst xs) (.own k) = cEq δ S (.lst xs) (.lst xs) := by
    have l1 : lstOf δ S (.own k) = some xs := by simp only [lstOf, h]
    unfold cEq lenNe snap
    rw [l1]
    rfl
  unfold cNe
  rw [e, cEq_self_lst ok]
  rfl
structure TurnI (sc : D) (T0 : Tb) (x8 x9 : Sl) (n p g : Nat) (i : Nat) (δ : List Sl) (S : Sto) : Prop where
  ex : ∃ (A : Ro → Nat) (ds : List Deed) (c : Nat) (y5 y10 y11 y12 : Sl), δ = [.v sc, .v (.ref 0), .v (.ref p), .v (.ref g), .ol (tells T0 ds), y5, .no, .no, x8, x9, y10, y11, y12, .no] ∧ y11.isOwn = false ∧ LS 0 c S A (doAll T0 ds) n i ∧ A .obj = p ∧ c ≤ 1002 + 4 * i ∧ KP g (.lst (ds.map Deed.d)) S A (doAll T0 ds) ∧ ds.length ≤ i ∧ (∀ d ∈ ds, d.any = true) ∧ g ≠ 0
theorem rest_w {ns : List Int} {T0 : Tb} {x8 x9 : Sl} {p g i : Nat} {s : Int} {ds : List Deed} {y5 y11 y12 : Sl} {T1 : RV → Sto → Prop} {E : Str → Sto → Prop} (l : LS 0 c S A (doAll T0 ds) n i) (ep : A .obj = p) (hc : c ≤ 1000 + 4 * (i + 1)) (kg : KP g (.lst (ds.map Deed.d)) S A (doAll T0 ds)) (hl : ds.length ≤ i) (hi : i < 40) (ha : ∀ d ∈ ds, d.any = true) (hg : g ≠ 0) :
    (@DM.wsK (m_rest [.v (scrD ns), .v (.ref 0), .v (.ref p), .v (.ref g), .ol (tells T0 ds), y5, .no, .no, x8, x9, .v (.int s), y11, y12, .no] S) ⟨(TurnI (scrD ns) T0 x8 x9 n p g (i + 1)), T1, E⟩) := by
  unfold m_rest
  rw [← m_fin_def]
  rw [← ep]
  -- what is put behind both lists
  have fin : ∀ (d : Deed) (u : D) (S5 : Sto) (A5 : Ro → Nat) (c5 : Nat) (y11 : Sl), d.any = true → Told (doAll T0 ds) d u → LS 0 c5 S5 A5 ((doAll T0 ds).does d) n (i + 1) → A5 .obj = A .obj → c5 ≤ 1002 + 4 * (i + 1) → KP g (.lst (ds.map Deed.d)) S5 A5 ((doAll T0 ds).does d) →
      (@DM.wsK (m_fin [.v (scrD ns), .v (.ref 0), .v (.ref (A .obj)), .v (.ref g), .ol (tells T0 ds), y5, .no, .no, x8, x9, .v (.int s), .v d.d, .v u, .no] S5) ⟨(TurnI (scrD ns) T0 x8 x9 n (A .obj) g (i + 1)), T1, E⟩) := by
    intro d u S5 A5 c5 y11 hd ht l5 e5 hc5 k5
    unfold m_fin
    have ho := @deed_own d
    have a1 : ∀ δ, hAppend δ S5 (.ref g) [d.d] = some (δ, S5.set g (some (.lst ((ds ++ [d]).map Deed.d)))) := fun δ => by
      rw [List.map_append]
      exact l_app_ref k5.c ho (by rw [List.length_map]; omega)
    have tyg : ∀ δ, tyD δ S5 (.ref g) = some "list" := fun δ => l_ty_ref k5.c
    have a2 : ∀ (w : D) (S : Sto), w.isOwn = false → ∀ (a b x5 x10 x11 x12 : Sl), hAppend [a, .v (.ref 0), b, .v (.ref g), .ol (tells T0 ds), x5, .no, .no, x8, x9, x10, x11, x12, .no] S (.own 4) [w] = some ([a, .v (.ref 0), b, .v (.ref g), .ol (tells T0 ds ++ [w]), x5, .no, .no, x8, x9, x10, x11, x12, .no], S) := fun w S hw a b x5 x10 x11 x12 => l_app_own rfl hw (by rw [tells_len]; omega)
    have tyo : ∀ (S : Sto) (a b x5 x10 x11 x12 : Sl), tyD [a, .v (.ref 0), b, .v (.ref g), .ol (tells T0 ds), x5, .no, .no, x8, x9, x10, x11, x12, .no] S (.own 4) = some "list" := fun S a b x5 x10 x11 x12 => l_ty_own rfl
    have i0 : hInt = hInt := rfl
    have h0 : ∀ δ S, hInt δ S [.bl false] = some (.int 0) := fun _ _ => rfl
    have h1 : ∀ δ S, hInt δ S [.bl true] = some (.int 1) := fun _ _ => rfl
    have done : ∀ w, w = (doAll T0 ds).tell d → TurnI (scrD ns) T0 x8 x9 n (A .obj) g (i + 1) [.v (scrD ns), .v (.ref 0), .v (.ref (A .obj)), .v (.ref g), .ol (tells T0 ds ++ [w]), y5, .no, .no, x8, x9, .v (.int s), .v d.d, .v u, .no] (S5.set g (some (.lst ((ds ++ [d]).map Deed.d)))) := fun w ew => by
      refine ⟨A5, ds ++ [d], c5, y5, _, _, _, by rw [tells_snoc, ← ew], rfl, ?_, e5, hc5, ?_, by rw [List.length_append]; exact Nat.succ_le_succ hl, fun x hx => ?_, hg⟩
      · rw [doAll_snoc]; exact k5.set_ls l5 hg
      · rw [doAll_snoc]; exact k5.set _
      · rcases List.mem_append.mp hx with h | h
        · exact ha x h
        · rw [List.mem_singleton.mp h]; exact hd
    rcases ht with ⟨et, kk, rfl⟩ | ⟨⟨j, rfl⟩ | ⟨ll, rfl⟩, et, ok⟩
    · k_call_by "tw" ⟨tyg, ho, a1, tyo⟩
      k_call_by "tw" ⟨h0⟩
      rw [a2 _ _ rfl]
      walk_at "tw"
      exact done _ et.symm
    · k_call_by "tw" ⟨tyg, ho, a1, tyo⟩
      k_call_by "tw" ⟨h1⟩
      rw [a2 _ _ rfl]
      walk_at "tw"
      exact done _ et
    · k_call_by "tw" ⟨tyg, ho, a1, tyo⟩
      k_call_by "tw" ⟨h1⟩
      rw [a2 _ _ rfl]
      walk_at "tw"
      exact done _ et
  k_call_by "tw" ⟨wp_draw l.twn (by omega) (show (0 : Int) < 2 by decide)⟩
  have l2 := l.tick
  have k2 := KP.tick (t := 0) (c := c) kg hg
  generalize tick S 0 c = S2 at l2 k2 ⊢
  cases hd : (uV ns (c + 1) % 2 == 0) with
  | true =>
    k_call_by "tw" ⟨wp_draw l2.twn (by omega) (show (0 : Int) < 4 by decide)⟩
    have l3 := l2.tick
    have k3 := KP.tick (t := 0) (c := c + 1) k2 hg
    generalize tick S2 0 (c + 1) = S3 at l3 k3 ⊢
    generalize uV ns (c + 1 + 1) % 4 = pl
    refine wp_use (play_w l3 (by omega)) fun v S4 z => ?_
    obtain ⟨u, rfl, ht, A4, l4, e4, kp4⟩ := z
    have uo : u.isOwn = false := by rcases ht with ⟨_, _, rfl⟩ | ⟨⟨_, rfl⟩ | ⟨_, rfl⟩, _⟩ <;> rfl
    k_call_by "tw" ⟨uo⟩
    exact fin (.play (.int s) (.int pl)) u S4 A4 _ y11 rfl ht l4 e4 (by omega) (kp4 _ _ k3)
  | false =>
    walk_at "tw"
    refine wp_use (pass_w l2 (by omega)) fun v S4 z => ?_
    obtain ⟨u, rfl, ht, A4, l4, e4, kp4⟩ := z
    have uo : u.isOwn = false := by rcases ht with ⟨_, _, rfl⟩ | ⟨⟨_, rfl⟩ | ⟨_, rfl⟩, _⟩ <;> rfl
    k_call_by "tw" ⟨uo⟩
    exact fin (.pass (.int s)) u S4 A4 _ y11 rfl ht l4 e4 (by omega) (kp4 _ _ k2)

theorem l_add_ref {g : Nat} {xs ys : List D} {δ : List Sl} (h : S.c g = some (.lst xs)) (hl : xs.length + ys.length ≤ 16777216) : oAdd δ S (.ref g) (.lst ys) = some (.lst (xs ++ ys)) := by
  rw [← l_add_lst (δ := δ) (S := S) hl]
  unfold oAdd
  simp only [lstOf, h]
theorem asked0 {ls : List Int} {hs : List (List Cd)} {x : D} (hx : x.isOwn = false) (h : (@DM.wpK _ (sem_run [.tup (ls.map .int), .tup (hs.map handD), x] S) ⟨(fun _ _ => False), (fun e S' => e = "NoDeed" ∧ S.nx ≤ S'.nx ∧ ∀ g x, S.c g = some x → g < S.nx → S'.c g = some x)⟩)) :
    (@DM.wpK _ (sem__law_asked [.int 0, .tup (ls.map .int), .tup (hs.map handD), x] S) ⟨(fun v S' => v = .val (.tup [.str "refused", .int 10]) ∧ S.nx ≤ S'.nx ∧ ∀ g x, S.c g = some x → g < S.nx → S'.c g = some x), (fun _ _ => False)⟩) := by
  unfold sem__law_asked
  rw [wp_sem]
  refine ⟨rfl, ?_⟩
  unfold m__law_asked
  k_call_by "tw" ⟨hx⟩
  refine wp_mono h (fun _ _ z => z.elim) (fun e S' z => ?_)
  obtain ⟨rfl, z⟩ := z
  rw [hndD]
  exact ⟨rfl, z⟩
theorem bad_no {x : D} (hx : x ∈ [D.non, .tup [], .tup [.str (Str.ofString "play"), .int 0], .tup [.str (Str.ofString "pass")], .tup [.str (Str.ofString "go"), .int 0], .lst [.str (Str.ofString "pass"), .int 0], .str (Str.ofString "pass")]) : x.isOwn = false ∧ ∀ S, sem_is_deed [x] S = .ok (.val (.bl false)) S := by
  simp only [List.mem_cons, List.not_mem_nil, or_false] at hx
  rcases hx with rfl | rfl | rfl | rfl | rfl | rfl | rfl <;> exact ⟨rfl, fun S => by kernel_rfl⟩
theorem law_w (ns : List Int) : (@DM.wpK _ (sem_law [scrD ns] sto0) ⟨(fun v _ => v = .val (.bl true)), (fun _ _ => False)⟩) := by
  unfold sem_law
  rw [wp_sem]
  refine ⟨rfl, ?_⟩
  unfold m_law
  rw [← m_rest_def]
  have d0 : Dr 0 0 (sto0.new (.lst [])) (sto0.new (.lst [])) := Dr.self (show TownAt (sto0.new (.lst [])) 0 0 from rfl) (Nat.le_refl 0) (by decide)
  have n0 : sto0.nx = 0 := rfl
  k_call_by "tw" ⟨n0⟩
  refine wp_use (tableX d0 (by decide)) fun v S1 z => ?_
  obtain ⟨ls, hs, o, rfl, d1⟩ := z
  have hb : ∀ δ : List Sl, bindT (true, [(Str.ofString "_law_lives", 8), (Str.ofString "_law_hands", 9)]) (.tup [.tup (ls.map .int), .tup (hs.map handD)]) δ = some ((δ.set 8 (.v (.tup (ls.map .int)))).set 9 (.v (.tup (hs.map handD)))) := fun δ => rfl
  obtain ⟨c, hc, t1⟩ := d1.twn
  k_call_by "tw" ⟨hb⟩
  refine wp_use (LS.makeK o rfl t1 d1.tl) fun v S2 z => ?_
  obtain ⟨rfl, A, l, ea, _⟩ := z
  rw [← ea]
  refine ⟨rfl, ?_⟩
  have n2 := o.n2
  have n4 := o.n4
  walk_at "tw"
  have l1 := l.new (.lst [])
  have kg := KP.fresh (x := .lst []) l.rep
  have hg : S2.nx ≠ 0 := by have := l.tl; omega
  k_call_by "tw" ⟨wp_draw l1.twn (by omega) (show (0 : Int) < 31 by decide)⟩
  generalize hk : uV ns (c + 1) % 31 = kk
  have k1 : 0 ≤ kk := by have := Int.emod_nonneg (uV ns (c + 1)) (show (31 : Int) ≠ 0 by decide); omega
  have k2 : kk ≤ 30 := by have := Int.emod_lt_of_pos (uV ns (c + 1)) (show (0 : Int) < 31 by decide); omega
  obtain ⟨m, rfl⟩ : ∃ m : Nat, kk = m := ⟨kk.toNat, by omega⟩
  have l2 := l1.tick
  have kg2 := KP.tick (t := 0) (c := c) kg hg
  k_call_by "tw" ⟨rng1_ok (okI_small (n := m) (by omega)), Int.toNat_natCast⟩
  refine ws_forT (List.range m) (fun (i : Nat) => .int (i : Int)) (TurnI (scrD ns) (Tb.new ls hs) (.v (.tup (ls.map .int))) (.v (.tup (hs.map handD))) ls.length (A .obj) S2.nx) (fun i δ S _ => by rw [src_rgn]) (by show (List.range m).length < m + 1; simp) ⟨A, [], _, _, _, _, _, rfl, rfl, l2, rfl, by omega, kg2, by simp, by simp, hg⟩ (fun i δ S xx inv hm => ?_) (fun δ S inv => ?_)
  · obtain ⟨A', ds, c, y5, y10, y11, y12, rfl, hy, l, eo, hc, kg, hl, ha, hg⟩ := inv
    have hi : i < m := by have := (List.getElem?_eq_some_iff.mp hm).1; simpa using this
    refine ⟨_, rfl, ?_⟩
    rw [← eo]
    have hp1 : (0 : Int) < ((ls.length : Nat) : Int) + 1 := by omega
    k_call_by "tw" ⟨List.length_map⟩
    k_call_by "tw" ⟨wp_draw l.twn (by omega) hp1⟩
    have l3 := l.tick
    have kg3 := KP.tick (t := 0) (c := c) kg hg
    generalize uV ns (c + 1) % (((ls.length : Nat) : Int) + 1) = s
    generalize tick S 0 c = S3 at l3 kg3 ⊢
    k_call_by "tw" ⟨l3.rep.isT, wp_over l3.rep l3.k.n4⟩
    cases ho : (doAll (Tb.new ls hs) ds).isOver with
    | true =>
      walk_at "tw"
      exact rest_w l3 rfl (by omega) kg3 hl (by omega) ha hg
    | false =>
      k_call_by "tw" ⟨wp_draw l3.twn (by omega) (show (0 : Int) < 5 by decide)⟩
      have l4 := l3.tick
      have kg4 := KP.tick (t := 0) (c := c + 1) kg3 hg
      generalize tick S3 0 (c + 1) = S4 at l4 kg4 ⊢
      cases hq : pGt (uV ns (c + 1 + 1) % 5) 0 with
      | true =>
        k_call_by "tw" ⟨l4.rep.isT, wp_now l4.rep l4.k, ho⟩
        exact rest_w l4 rfl (by omega) kg4 hl (by omega) ha hg
      | false =>
        walk_at "tw"
        exact rest_w l4 rfl (by omega) kg4 hl (by omega) ha hg
  · obtain ⟨A', ds, c, y5, y10, y11, y12, rfl, hy, l, eo, hc, kg, hl, ha, hg⟩ := inv
    rw [List.length_range] at l hc hl
    generalize S2.nx = g at kg hg ⊢
    generalize hT0 : Tb.new ls hs = T0 at l kg
    clear l2 kg2 l1
    rw [← eo]
    walk_at "tw"
    have rw1 := run_w o l.twn l.tl kg.c kg.lt ha (by omega)
    rw [hT0] at rw1
    refine wp_use rw1 fun v S3 z => ?_
    obtain ⟨A2, l2, rfl, kk⟩ := z
    have hb2 : ∀ δ : List Sl, bindT (true, [(Str.ofString "_law_here", 13), (Str.ofString "_law_told", 12)]) (.tup [.ref (A2 .obj), .lst (tells T0 ds)]) δ = some ((δ.set 13 (.v (.ref (A2 .obj)))).set 12 (.v (.lst (tells T0 ds)))) := fun _ => rfl
    have b1 : Bes A' (doAll T0 ds) S3 A2 (doAll T0 ds) := Bes.of l.rep kk
    have kg2 := kk g _ kg.c kg.lt
    k_call_by "tw" ⟨hb2⟩
    refine wp_use (LS.makeK o rfl l2.twn l2.tl) fun v S4 z => ?_
    obtain ⟨rfl, A3, l3, ea3, kk3⟩ := z
    rw [hT0] at l3 kk3
    have b1' : Bes A' (doAll T0 ds) S4 A3 T0 := Bes.of b1.rep kk3
    have b2 : Bes A2 (doAll T0 ds) S4 A3 T0 := Bes.of l2.rep kk3
    have kg3 := kk3 g _ kg2.c kg2.lt
    have kw := l.k
    have hov := tells_ok ds T0
    rw [← ea3]
    have cn : ∀ (S : Sto) (a b c d x5 x6 x7 x8 x9 x10 x11 x12 x13 : Sl), cNe [a, b, c, d, .ol (tells T0 ds), x5, x6, x7, x8, x9, x10, x11, x12, x13] S (.lst (tells T0 ds)) (.own 4) = some false := fun S a b c d x5 x6 x7 x8 x9 x10 x11 x12 x13 => cNe_own rfl hov
    have sq : ∀ S, S.c g = some (.lst (ds.map Deed.d)) → seqN S (.ref g) = some (false, ds.map Deed.d) := fun S h => by
      show seqOf [] S (.ref g) = _
      simp only [seqOf, lstOf, h, Option.map_some]
    have so : srcOf S4 (.ref g) = some (.seq (.ref g)) := by
      unfold srcOf
      simp only [sq S4 kg3.c]
    have sl : srcLen S4 (.seq (.ref g)) = ds.length := by
      unfold srcLen
      simp only [sq S4 kg3.c, List.length_map]
    k_call_by "tw" ⟨cn, so, sl⟩
    refine ⟨by simp [noOwnAt, hy], wp_mono (wp_lcL (ds.map Deed.d) (fun i acc S' => ∃ A5, LS 0 c S' A5 (doAll T0 (ds.take i)) ls.length i ∧ A5 .obj = A3 .obj ∧ acc = tells T0 (ds.take i) ∧ ∀ g x, KP g x S4 A3 T0 → KP g x S' A5 (doAll T0 (ds.take i))) (fun i acc S' inv => ?_) (fun i acc S' x inv hx => ?_) _ _ _ _ (by rw [List.length_map]; exact Nat.lt_succ_self _) (Nat.zero_le _) ⟨A3, l3, rfl, rfl, fun _ _ k => k⟩) (fun acc S' z => ?_) fun _ _ z => z⟩
    · obtain ⟨A5, _, _, _, k5⟩ := inv
      exact src_seq (sq S' (k5 _ _ kg3).c) i
    · obtain ⟨A5, l5, e5, rfl, k5⟩ := inv
      rw [List.getElem?_map] at hx
      obtain ⟨d, hd, rfl⟩ := Option.map_eq_some_iff.mp hx
      have hi : i < ds.length := (List.getElem?_eq_some_iff.mp hd).1
      have ht : ds.take (i + 1) = ds.take i ++ [d] := by rw [List.take_succ, hd]; rfl
      refine ⟨_, bind1 deed_own, ?_⟩
      rw [← e5]
      have := @deed_own d
      k_call_by "tw" ⟨wipeD, this⟩
      refine wp_use (asked_w l5 (ha d (List.mem_of_getElem? hd)) (by omega)) fun v S7 z => ?_
      obtain ⟨rfl, A7, l7, e7, k7⟩ := z
      walk_at "tw"
      rw [ht, doAll_snoc, tells_snoc]
      refine ⟨⟨tell_own, ?_⟩, A7, l7, e7, rfl, fun g x h1 => k7 g x (k5 g x h1)⟩
      rw [tells_len, List.length_take]
      omega
    · obtain ⟨A5, l5, e5, rfl, k5⟩ := z
      rw [List.length_map, List.take_length] at l5 k5
      rw [List.length_map, List.take_length]
      have r1 := (b1'.step k5).rep
      have r2 := (b2.step k5).rep
      have kg5 := k5 _ _ kg3
      k_call_by "tw" ⟨cn⟩
      have ru : ∀ δ S, cNe δ S (.lst ((doAll T0 ds).units.map unitD)) (.lst ((doAll T0 ds).units.map unitD)) = some false := fun δ S => cNe_self_lst (by
        rw [List.all_map]
        exact List.all_eq_true.mpr fun x _ => rfl)
      have rn : ∀ δ S, cNe δ S (if (doAll T0 ds).isOver = true then .non else .tup [.int (doAll T0 ds).turner, .int (doAll T0 ds).asked, .int (doAll T0 ds).passes]) (if (doAll T0 ds).isOver = true then .non else .tup [.int (doAll T0 ds).turner, .int (doAll T0 ds).asked, .int (doAll T0 ds).passes]) = some false := fun δ S => by
        split
        · rfl
        · exact cNe_self_tup rfl
      k_call_by "tw" ⟨r2.isT, wp_pile r2 kw, r1.isT, wp_pile r1 kw, pile_refl⟩
      k_call_by "tw" ⟨r2.isT, wp_units r2 kw, r1.isT, wp_units r1 kw, ru⟩
      k_call_by "tw" ⟨r2.isT, wp_now r2 kw, r1.isT, wp_now r1 kw, rn⟩
      have d5 : Dr 0 2000 S' S' := Dr.self l5.twn (by omega) l5.tl
      refine wp_use (pickX d5 (by omega) (by simp) (fun d hd => (bad_no hd).1)) fun v S6 z => ?_
      obtain ⟨bad, hbad, rfl, d6, n6, k6⟩ := z
      obtain ⟨bo, bn⟩ := bad_no hbad
      obtain ⟨c6, _, t6⟩ := d6.twn
      have kc6 : S6.c g = some (.lst (ds.map Deed.d)) := (k6 g hg).trans kg5.c
      have kl6 : g < S6.nx := by rw [n6]; exact kg5.lt
      have rt : ∀ δ S, cNe δ S (.tup [.str (Str.ofString "refused"), .int 10]) (.tup [.str (Str.ofString "refused"), .int 10]) = some false := fun δ S => cNe_self_tup rfl
      have rq : ∀ δ S, cEq δ S (.tup [.str (Str.ofString "refused"), .int 10]) (.tup [.str (Str.ofString "refused"), .int 10]) = some true := fun δ S => cEq_self_tup rfl
      k_call_by "tw" ⟨bo, l_add_ref kc6 (show (ds.map Deed.d).length + [bad].length ≤ 16777216 by rw [List.length_map]; show _ + 1 ≤ _; omega)⟩
      refine wp_use (asked0 rfl (run_noL o t6 d6.tl ha (by omega) bn bo)) fun v S7 z => ?_
      obtain ⟨rfl, n7, k7⟩ := z
      k_call_by "tw" ⟨rt, tuple_ref (k7 g _ kc6 kl6)⟩
      refine wp_use (asked0 rfl (run_noT o (k7 0 _ t6 d6.tl) (Nat.lt_of_lt_of_le d6.tl n7))) fun v S8 z => ?_
      obtain ⟨rfl, _⟩ := z
      k_call_by "tw" ⟨rq⟩
theorem law_true (ns : List Int) (_ : ns.length ≤ 63) : ∃ S', semOf 1 14 m_law [.scr (ns.map .int)] sto0 = .ok (.val (.bl true)) S' := by
  have w := law_w ns
  unfold sem_law at w
  cases h : semOf 1 14 m_law [scrD ns] sto0 with
  | ok v S => rw [h] at w; exact ⟨S, by rw [show v = .val (.bl true) from w]⟩
  | exc c S => rw [h] at w; exact w.elim
  | stuck => rw [h] at w; exact w.elim
end A17


end
section
open PySem PySem.W PySem.Calls PyProof.Rows
theorem PySem.Challenge.cw_answerpile_k17_runs_holds : PySem.Challenge.rw_answerpile_k17_runs.Holds := by
  w_on; o_law
  refine HandSHeadRun.head_any (r := OpenLaw.row PySem.Challenge.rw_answerpile_k17_runs) (q := view (OpenLaw.row PySem.Challenge.rw_answerpile_k17_runs).prog [52]) (H := A17.hk) (ob := A17.ob) (M := 20000) (loose := A17.loose) (d := HandSHeadRun.topDef (OpenLaw.row PySem.Challenge.rw_answerpile_k17_runs).prog 52) (kwd := []) A17.ob_eq
    (by kernel_rfl) (fun s => by kernel_rfl) A17.run (by kernel_rfl) (by kernel_rfl) (by kernel_rfl) (by rfl) (by first | assumption | decide +kernel) (by decide +kernel) ⟨rfl, rfl, rfl, rfl, rfl, by decide +kernel⟩ ?hw ?hc
  case hw => w_witness2
  case hc =>
    exact DM.walk_dm (l := PySem.Challenge.rw_answerpile_k17_runs) (n := 63) (k := 10) (x := "_law_script") (st := A17.tp 52) (N := ["_law_script", "_law_town", "_law_table_here", "_law_deeds", "_law_due", "_law_k", "_law_other", "_law_bad", "_law_lives", "_law_hands", "_law_seat", "_law_deed", "_law_told", "_law_here"]) (m := A17.m_law) (Evp := A17.Ev) rfl (by decide) (by kernel_rfl) ⟨rfl, by decide, by decide⟩ (by kernel_rfl)
      A17.ev_of (fun g X => X.d_law) (fun g X => A17.w_law X) A17.s_law (fun _ _ _ _ _ _ _ => rfl) A17.law_true


end
