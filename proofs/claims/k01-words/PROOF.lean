import PyProof.Rows.All
import Wide.All
import OpenK.AllK
import Wide.FinOn
import HandS.ForMost
import HandS.Flow
import HandS.Walk
import HandS.TupAny
import HandS.Deep
import HandS.IsInst
import HandS.Conv
import HandS.Wide
import PyProof.NeData
import PyProof.ReprRoads
import PySem.Challenge.RW_branchedhall_k01_words_people_names_rank
/-! ==== DCore ==== -/
section
set_option Elab.async false
set_option linter.all false
set_option autoImplicit false
set_option maxRecDepth 100000
set_option maxHeartbeats 4000000
/-! DL: values as trees, a small heap of the things that are changed, and what a def computes as a Lean function over both. -/
namespace DL
open PySem PySem.Spec PyProof.Rows L2

/-- data: trees. obj n is the n-th thing that may be changed -/
inductive D where
  | non
  | bl (b : Bool)
  | int (i : Int)
  | str (x : Str)
  | tup (xs : List D)
  | ktup (xs : List D)
  | lst (xs : List D)
  | frz (xs : List D)
  | dK (kvs : List (Key × D))
  | dT (kvs : List (List Key × D))
  | obj (n : Nat)
  deriving Inhabited

/-- a thing that may be changed -/
inductive DO where
  | lst (xs : List D)
  | dK (kvs : List (Key × D))
  | dT (kvs : List (List Key × D))
  | lkK (kvs : List (Key × D))
  | lkT (kvs : List (List Key × D))
  | dead
  deriving Inhabited

def DO.alive : DO → Bool
  | .dead => false
  | _ => true

abbrev DH := List DO
abbrev DSl := List (Option D)

/-- the tie between both sides -/
structure Wd where
  K : PySem.W.Frag
  p : List Addr
  G : DH
  H : Hp
  hid : Addr → Prop

def Wd.live (W : Wd) (a : Addr) : Prop := ∃ (n : Nat) (o : DO), W.G[n]? = some o ∧ o.alive = true ∧ W.p[n]? = some a

/-- what others may change: things that may be changed, and what the machine is making just now -/
def Wd.own (W : Wd) (a : Addr) : Prop := W.live a ∨ W.hid a

/-- a list that is read alone -/
def Fz (W : Wd) (a : Addr) (vs : List V) : Prop :=
  (∃ o, W.H a = some (.frz o (.lst vs))) ∨
    ∃ (o : Obj) (its : Array Value) (n : Nat), W.K.lookup a = some o ∧ o.cls = .type "list" ∧ o.dict = none ∧ o.data = .seq its n ∧ its.size ≤ sizeLine ∧ Vals vs its.toList

/-- a tuple of the module's own -/
def KTp (W : Wd) (a : Addr) (vs : List V) : Prop :=
  ∃ (o : Obj) (its : Array Value) (n : Nat), W.K.lookup a = some o ∧ o.cls = .type "tuple" ∧ o.data = .seq its n ∧ its.size ≤ sizeLine ∧ Vals vs its.toList

mutual
def Den (W : Wd) : D → V → Prop
  | .non, v => v = .non
  | .bl b, v => v = .bl b
  | .int i, v => v = .int i
  | .str x, v => v = .str x
  | .tup xs, v => ∃ a vs, v = .ref a ∧ W.H a = some (.tup vs) ∧ DenL W xs vs
  | .ktup xs, v => ∃ a vs, v = .ref a ∧ KTp W a vs ∧ DenL W xs vs
  | .lst xs, v => ∃ a vs, v = .ref a ∧ ¬ W.own a ∧ W.H a = some (.lst vs) ∧ DenL W xs vs
  | .frz xs, v => ∃ a vs, v = .ref a ∧ Fz W a vs ∧ DenL W xs vs
  | .dK kvs, v => ∃ a ws, v = .ref a ∧ ¬ W.own a ∧ Rd W.H a (.dK ws) ∧ DenK W kvs ws
  | .dT kvs, v => ∃ a ws, v = .ref a ∧ ¬ W.own a ∧ Rd W.H a (.dT ws) ∧ DenT W kvs ws
  | .obj n, v => ∃ a, W.p[n]? = some a ∧ v = .ref a
def DenL (W : Wd) : List D → List V → Prop
  | [], vs => vs = []
  | d :: ds, vs => ∃ v r, vs = v :: r ∧ Den W d v ∧ DenL W ds r
def DenK (W : Wd) : List (Key × D) → List (Key × V) → Prop
  | [], ws => ws = []
  | (k, d) :: ds, ws => ∃ v r, ws = (k, v) :: r ∧ Den W d v ∧ DenK W ds r
def DenT (W : Wd) : List (List Key × D) → List (List Key × V) → Prop
  | [], ws => ws = []
  | (k, d) :: ds, ws => ∃ v r, ws = (k, v) :: r ∧ Den W d v ∧ DenT W ds r
end

/-- what holds from one moment to a later one, of what was told -/
structure Ext0 (W W' : Wd) : Prop where
  k : W'.K = W.K
  p : ∃ t, W'.p = W.p ++ t
  l : ∀ a vs, ¬ W.own a → W.H a = some (.lst vs) → ¬ W'.own a ∧ W'.H a = some (.lst vs)
  t : ∀ a vs, W.H a = some (.tup vs) → W'.H a = some (.tup vs)
  fl : ∀ a o vs, W.H a = some (.frz o (.lst vs)) → W'.H a = some (.frz o (.lst vs))
  ft : ∀ a o vs, W.H a = some (.frz o (.tup vs)) → W'.H a = some (.frz o (.tup vs))
  dk : ∀ a ws, ¬ W.own a → Rd W.H a (.dK ws) → ¬ W'.own a ∧ Rd W'.H a (.dK ws)
  dt : ∀ a ws, ¬ W.own a → Rd W.H a (.dT ws) → ¬ W'.own a ∧ Rd W'.H a (.dT ws)
/-- .. and what is being made, what is locked, stays too -/
structure Ext (W W' : Wd) : Prop extends Ext0 W W' where
  h : ∀ a u, W.hid a → W.H a = some u → W'.hid a ∧ W'.H a = some u
  fk : ∀ a o ws, W.H a = some (.frz o (.dK ws)) → W'.H a = some (.frz o (.dK ws))
  fd : ∀ a o ws, W.H a = some (.frz o (.dT ws)) → W'.H a = some (.frz o (.dT ws))

theorem Ext0.refl (W : Wd) : Ext0 W W :=
  ⟨rfl, ⟨[], by simp⟩, fun _ _ h e => ⟨h, e⟩, fun _ _ e => e, fun _ _ _ e => e, fun _ _ _ e => e, fun _ _ h e => ⟨h, e⟩, fun _ _ h e => ⟨h, e⟩⟩
theorem Ext.refl (W : Wd) : Ext W W := ⟨Ext0.refl W, fun _ _ h e => ⟨h, e⟩, fun _ _ _ e => e, fun _ _ _ e => e⟩
theorem Ext0.trans {W1 W2 W3 : Wd} (x : Ext0 W1 W2) (y : Ext0 W2 W3) : Ext0 W1 W3 := by
  refine ⟨y.k.trans x.k, ?_, fun a vs h e => ?_, fun a vs e => y.t _ _ (x.t _ _ e), fun a o vs e => y.fl _ _ _ (x.fl _ _ _ e), fun a o vs e => y.ft _ _ _ (x.ft _ _ _ e), fun a ws h e => ?_, fun a ws h e => ?_⟩
  · obtain ⟨t, e⟩ := x.p
    obtain ⟨u, e'⟩ := y.p
    exact ⟨t ++ u, by rw [e', e, List.append_assoc]⟩
  · obtain ⟨h1, e1⟩ := x.l a vs h e
    exact y.l a vs h1 e1
  · obtain ⟨h1, e1⟩ := x.dk a ws h e
    exact y.dk a ws h1 e1
  · obtain ⟨h1, e1⟩ := x.dt a ws h e
    exact y.dt a ws h1 e1
theorem Ext.trans {W1 W2 W3 : Wd} (x : Ext W1 W2) (y : Ext W2 W3) : Ext W1 W3 :=
  ⟨x.toExt0.trans y.toExt0, fun a u h e => let ⟨h1, e1⟩ := x.h a u h e; y.h a u h1 e1, fun a o ws e => y.fk _ _ _ (x.fk _ _ _ e), fun a o ws e => y.fd _ _ _ (x.fd _ _ _ e)⟩

theorem Ext0.ktp {W W' : Wd} (x : Ext0 W W') {a : Addr} {vs : List V} (h : KTp W a vs) : KTp W' a vs := by
  unfold KTp
  rw [x.k]
  exact h
theorem Ext0.fz {W W' : Wd} (x : Ext0 W W') {a : Addr} {vs : List V} (h : Fz W a vs) : Fz W' a vs := by
  rcases h with ⟨o, h⟩ | h
  · exact .inl ⟨o, x.fl _ _ _ h⟩
  · exact .inr (by rw [x.k]; exact h)

mutual
theorem Den.mono0 {W W' : Wd} (x : Ext0 W W') : ∀ (d : D) (v : V), Den W d v → Den W' d v
  | .non, _, h => by simpa [Den] using h
  | .bl _, _, h => by simpa [Den] using h
  | .int _, _, h => by simpa [Den] using h
  | .str _, _, h => by simpa [Den] using h
  | .tup xs, v, h => by
    simp only [Den] at h ⊢
    obtain ⟨a, vs, e, h1, h2⟩ := h
    exact ⟨a, vs, e, x.t _ _ h1, DenL.mono0 x xs vs h2⟩
  | .ktup xs, v, h => by
    simp only [Den] at h ⊢
    obtain ⟨a, vs, e, h1, h2⟩ := h
    exact ⟨a, vs, e, x.ktp h1, DenL.mono0 x xs vs h2⟩
  | .lst xs, v, h => by
    simp only [Den] at h ⊢
    obtain ⟨a, vs, e, h0, h1, h2⟩ := h
    obtain ⟨h3, h4⟩ := x.l a vs h0 h1
    exact ⟨a, vs, e, h3, h4, DenL.mono0 x xs vs h2⟩
  | .frz xs, v, h => by
    simp only [Den] at h ⊢
    obtain ⟨a, vs, e, h1, h2⟩ := h
    exact ⟨a, vs, e, x.fz h1, DenL.mono0 x xs vs h2⟩
  | .dK kvs, v, h => by
    simp only [Den] at h ⊢
    obtain ⟨a, ws, e, h0, h1, h2⟩ := h
    obtain ⟨h3, h4⟩ := x.dk a ws h0 h1
    exact ⟨a, ws, e, h3, h4, DenK.mono0 x kvs ws h2⟩
  | .dT kvs, v, h => by
    simp only [Den] at h ⊢
    obtain ⟨a, ws, e, h0, h1, h2⟩ := h
    obtain ⟨h3, h4⟩ := x.dt a ws h0 h1
    exact ⟨a, ws, e, h3, h4, DenT.mono0 x kvs ws h2⟩
  | .obj n, v, h => by
    simp only [Den] at h ⊢
    obtain ⟨a, e, q⟩ := h
    obtain ⟨t, et⟩ := x.p
    refine ⟨a, ?_, q⟩
    rw [et, List.getElem?_append_left (List.getElem?_eq_some_iff.mp e).1]
    exact e
theorem DenL.mono0 {W W' : Wd} (x : Ext0 W W') : ∀ (ds : List D) (vs : List V), DenL W ds vs → DenL W' ds vs
  | [], _, h => by simpa [DenL] using h
  | d :: ds, vs, h => by
    simp only [DenL] at h ⊢
    obtain ⟨v, r, e, h1, h2⟩ := h
    exact ⟨v, r, e, Den.mono0 x d v h1, DenL.mono0 x ds r h2⟩
theorem DenK.mono0 {W W' : Wd} (x : Ext0 W W') : ∀ (ds : List (Key × D)) (vs : List (Key × V)), DenK W ds vs → DenK W' ds vs
  | [], _, h => by simpa [DenK] using h
  | (k, d) :: ds, vs, h => by
    simp only [DenK] at h ⊢
    obtain ⟨v, r, e, h1, h2⟩ := h
    exact ⟨v, r, e, Den.mono0 x d v h1, DenK.mono0 x ds r h2⟩
theorem DenT.mono0 {W W' : Wd} (x : Ext0 W W') : ∀ (ds : List (List Key × D)) (vs : List (List Key × V)), DenT W ds vs → DenT W' ds vs
  | [], _, h => by simpa [DenT] using h
  | (k, d) :: ds, vs, h => by
    simp only [DenT] at h ⊢
    obtain ⟨v, r, e, h1, h2⟩ := h
    exact ⟨v, r, e, Den.mono0 x d v h1, DenT.mono0 x ds r h2⟩
end

theorem Den.mono {W W' : Wd} (x : Ext W W') (d : D) (v : V) (h : Den W d v) : Den W' d v := Den.mono0 x.toExt0 d v h
theorem DenL.mono {W W' : Wd} (x : Ext W W') (d : List D) (v : List V) (h : DenL W d v) : DenL W' d v := DenL.mono0 x.toExt0 d v h
theorem DenK.mono {W W' : Wd} (x : Ext W W') (d : List (Key × D)) (v : List (Key × V)) (h : DenK W d v) : DenK W' d v := DenK.mono0 x.toExt0 d v h
theorem DenT.mono {W W' : Wd} (x : Ext W W') (d : List (List Key × D)) (v : List (List Key × V)) (h : DenT W d v) : DenT W' d v := DenT.mono0 x.toExt0 d v h

/-- what stands at an address for a thing that may be changed -/
def ORel (W : Wd) : DO → Addr → Prop
  | .lst xs, a => ∃ vs, W.H a = some (.lst vs) ∧ DenL W xs vs
  | .dK kvs, a => ∃ ws, W.H a = some (.dK ws) ∧ DenK W kvs ws
  | .dT kvs, a => ∃ ws, W.H a = some (.dT ws) ∧ DenT W kvs ws
  | .lkK kvs, a => ∃ o ws, W.H a = some (.frz o (.dK ws)) ∧ DenK W kvs ws
  | .lkT kvs, a => ∃ o ws, W.H a = some (.frz o (.dT ws)) ∧ DenT W kvs ws
  | .dead, _ => True
theorem ORel.some {W : Wd} {o : DO} {a : Addr} (h : ORel W o a) (ha : o.alive = true) : ∃ u, W.H a = some u := by
  cases o with
  | lst xs => obtain ⟨vs, e, _⟩ := h; exact ⟨_, e⟩
  | dK xs => obtain ⟨vs, e, _⟩ := h; exact ⟨_, e⟩
  | dT xs => obtain ⟨vs, e, _⟩ := h; exact ⟨_, e⟩
  | lkK xs => obtain ⟨o, vs, e, _⟩ := h; exact ⟨_, e⟩
  | lkT xs => obtain ⟨o, vs, e, _⟩ := h; exact ⟨_, e⟩
  | dead => cases ha
theorem ORel.mono {W W' : Wd} (x : Ext0 W W') {o : DO} {a : Addr} (h : ORel W o a) (e : W'.H a = W.H a) : ORel W' o a := by
  cases o with
  | lst xs => obtain ⟨vs, q, r⟩ := h; exact ⟨vs, e.trans q, DenL.mono0 x _ _ r⟩
  | dK xs => obtain ⟨vs, q, r⟩ := h; exact ⟨vs, e.trans q, DenK.mono0 x _ _ r⟩
  | dT xs => obtain ⟨vs, q, r⟩ := h; exact ⟨vs, e.trans q, DenT.mono0 x _ _ r⟩
  | lkK xs => obtain ⟨o, vs, q, r⟩ := h; exact ⟨o, vs, e.trans q, DenK.mono0 x _ _ r⟩
  | lkT xs => obtain ⟨o, vs, q, r⟩ := h; exact ⟨o, vs, e.trans q, DenT.mono0 x _ _ r⟩
  | dead => trivial

structure Sim (W : Wd) : Prop where
  len : W.p.length = W.G.length
  at_ : ∀ (n : Nat) (o : DO), W.G[n]? = some o → o.alive = true → ∃ a, W.p[n]? = some a ∧ ORel W o a
  hid : ∀ a, W.hid a → (∃ vs, W.H a = some (.lst vs)) ∨ (∃ ws, W.H a = some (.dK ws)) ∨ ∃ ws, W.H a = some (.dT ws)
  apart : ∀ a, W.hid a → ¬ W.live a
  inj : ∀ (m n : Nat) (o u : DO) (a : Addr), W.G[m]? = some o → W.G[n]? = some u → o.alive = true → u.alive = true → W.p[m]? = some a → W.p[n]? = some a → m = n

theorem Sim.live_some {W : Wd} (S : Sim W) {a : Addr} (h : W.live a) : ∃ u, W.H a = some u := by
  obtain ⟨n, o, e, al, pn⟩ := h
  obtain ⟨b, pb, r⟩ := S.at_ n o e al
  rw [pn] at pb; cases pb
  exact r.some al
theorem Sim.own_some {W : Wd} (S : Sim W) {a : Addr} (h : W.own a) : ∃ u, W.H a = some u := by
  rcases h with h | h
  · exact S.live_some h
  · rcases S.hid a h with ⟨_, e⟩ | ⟨_, e⟩ | ⟨_, e⟩ <;> exact ⟨_, e⟩
theorem Sim.not_own_of_none {W : Wd} (S : Sim W) {a : Addr} (h : W.H a = none) : ¬ W.own a := fun l => by
  obtain ⟨u, e⟩ := S.own_some l
  rw [h] at e; cases e
/-- neither a tuple nor a list that is read alone is one that may be changed -/
theorem Sim.live_kind {W : Wd} (S : Sim W) {a : Addr} {u : HO} (h : W.H a = some u) (hu : (∃ vs, u = .tup vs) ∨ (∃ o vs, u = .frz o (.lst vs)) ∨ ∃ o vs, u = .frz o (.tup vs)) : ¬ W.live a := fun ⟨n, o, e, al, pn⟩ => by
  obtain ⟨b, pb, r⟩ := S.at_ n o e al
  rw [pn] at pb; cases pb
  cases o <;> simp only [ORel] at r <;> first
    | (obtain ⟨_, q, _⟩ := r; rw [h] at q; cases q; rcases hu with ⟨_, z⟩ | ⟨_, _, z⟩ | ⟨_, _, z⟩ <;> cases z)
    | (obtain ⟨_, _, q, _⟩ := r; rw [h] at q; cases q; rcases hu with ⟨_, z⟩ | ⟨_, _, z⟩ | ⟨_, _, z⟩ <;> cases z)
    | cases al
theorem Sim.hid_kind {W : Wd} (S : Sim W) {a : Addr} {u : HO} (h : W.H a = some u) (hu : (∃ vs, u = .tup vs) ∨ (∃ o v, u = .frz o v)) : ¬ W.hid a := fun q => by
  rcases S.hid a q with ⟨_, e⟩ | ⟨_, e⟩ | ⟨_, e⟩ <;> (rw [h] at e; cases e; rcases hu with ⟨_, z⟩ | ⟨_, _, z⟩ <;> cases z)

def DO.opn : DO → Bool
  | .lst _ => true
  | .dK _ => true
  | .dT _ => true
  | _ => false
theorem DO.alive_opn {o : DO} (h : o.opn = true) : o.alive = true := by cases o <;> first | rfl | cases h

/-! ### the steps of the heap -/
/-- a thing that will never be changed is laid -/
def Wd.lay (W : Wd) (a : Addr) (o : HO) : Wd := { W with H := upd W.H a o }
theorem Sim.lay {W : Wd} (S : Sim W) {a : Addr} (o : HO) (h : W.H a = none) : Ext W (W.lay a o) ∧ Sim (W.lay a o) := by
  have ne : ∀ {b u}, W.H b = some u → b ≠ a := fun e z => by rw [z, h] at e; cases e
  have up : ∀ {b u}, W.H b = some u → upd W.H a o b = some u := fun e => (upd_ne (ne e)).trans e
  have x : Ext W (W.lay a o) := ⟨⟨rfl, ⟨[], by simp [Wd.lay]⟩, fun b vs hl e => ⟨hl, up e⟩, fun b vs e => up e, fun b ob vs e => up e, fun b ob vs e => up e,
    fun b ws hl e => ⟨hl, e.imp up fun ⟨ob, e⟩ => ⟨ob, up e⟩⟩, fun b ws hl e => ⟨hl, e.imp up fun ⟨ob, e⟩ => ⟨ob, up e⟩⟩⟩, fun b u hh e => ⟨hh, up e⟩, fun b ob ws e => up e, fun b ob ws e => up e⟩
  refine ⟨x, S.len, fun n u e al => ?_, fun b hb => ?_, S.apart, S.inj⟩
  · obtain ⟨b, pb, r⟩ := S.at_ n u e al
    obtain ⟨v, ev⟩ := r.some al
    exact ⟨b, pb, r.mono x.toExt0 (by show upd W.H a o b = _; rw [ev]; exact up ev)⟩
  · rcases S.hid b hb with ⟨_, e⟩ | ⟨_, e⟩ | ⟨_, e⟩
    · exact .inl ⟨_, up e⟩
    · exact .inr (.inl ⟨_, up e⟩)
    · exact .inr (.inr ⟨_, up e⟩)

/-- a thing that may be changed is laid -/
def Wd.new (W : Wd) (a : Addr) (o : HO) (d : DO) : Wd := { W with H := upd W.H a o, p := W.p ++ [a], G := W.G ++ [d] }
theorem Wd.live_new {W : Wd} (S : Sim W) {a b : Addr} {o : HO} {d : DO} (h : (W.new a o d).live b) : W.live b ∨ b = a := by
  obtain ⟨n, u, e, al, pn⟩ := h
  have e' : (W.G ++ [d])[n]? = some u := e
  have pn' : (W.p ++ [a])[n]? = some b := pn
  by_cases hn : n < W.G.length
  · rw [List.getElem?_append_left hn] at e'
    rw [List.getElem?_append_left (by rw [S.len]; exact hn)] at pn'
    exact .inl ⟨n, u, e', al, pn'⟩
  · rw [List.getElem?_append_right (by rw [S.len]; omega)] at pn'
    have := (List.getElem?_eq_some_iff.mp pn').1
    simp only [List.length_singleton] at this
    have z : n - W.p.length = 0 := by omega
    rw [z] at pn'
    exact .inr (by simpa using pn'.symm)
theorem Sim.new {W : Wd} (S : Sim W) {a : Addr} {o : HO} {d : DO} (h : W.H a = none) (hr : ∀ W', Ext W W' → W'.H = upd W.H a o → ORel W' d a) : Ext W (W.new a o d) ∧ Sim (W.new a o d) := by
  have ne : ∀ {b u}, W.H b = some u → b ≠ a := fun e z => by rw [z, h] at e; cases e
  have up : ∀ {b u}, W.H b = some u → upd W.H a o b = some u := fun e => (upd_ne (ne e)).trans e
  have nl : ∀ {b u}, ¬ W.own b → W.H b = some u → ¬ (W.new a o d).own b := fun hl e q => by
    rcases q with q | q
    · exact (Wd.live_new S q).elim (fun z => hl (.inl z)) (ne e)
    · exact hl (.inr q)
  have x : Ext W (W.new a o d) := ⟨⟨rfl, ⟨[a], rfl⟩, fun b vs hl e => ⟨nl hl e, up e⟩, fun b vs e => up e, fun b ob vs e => up e, fun b ob vs e => up e,
    fun b ws hl e => ⟨e.elim (fun e => nl hl e) fun ⟨_, e⟩ => nl hl e, e.imp up fun ⟨ob, e⟩ => ⟨ob, up e⟩⟩, fun b ws hl e => ⟨e.elim (fun e => nl hl e) fun ⟨_, e⟩ => nl hl e, e.imp up fun ⟨ob, e⟩ => ⟨ob, up e⟩⟩⟩,
    fun b u hh e => ⟨hh, up e⟩, fun b ob ws e => up e, fun b ob ws e => up e⟩
  have pl : ∀ {m : Nat} {b : Addr}, m < W.G.length → (W.p ++ [a])[m]? = some b → W.p[m]? = some b := fun hm e => by
    rwa [List.getElem?_append_left (by rw [S.len]; exact hm)] at e
  have gl : ∀ {m : Nat} {u : DO}, m < W.G.length → (W.G ++ [d])[m]? = some u → W.G[m]? = some u := fun hm e => by
    rwa [List.getElem?_append_left hm] at e
  have pa : ∀ {m : Nat} {b : Addr}, ¬ m < W.G.length → (W.p ++ [a])[m]? = some b → m = W.G.length ∧ b = a := fun {m b} hm e => by
    rw [List.getElem?_append_right (by rw [S.len]; omega)] at e
    have := (List.getElem?_eq_some_iff.mp e).1
    simp only [List.length_singleton, S.len] at this
    have z : m - W.p.length = 0 := by rw [S.len]; omega
    rw [z] at e
    exact ⟨by omega, by simpa using e.symm⟩
  have noa : ¬ W.live a := fun z => S.not_own_of_none h (.inl z)
  refine ⟨x, by simp [Wd.new, S.len], fun n u e al => ?_, fun b hb => ?_, fun b hb z => ?_, fun m n u v b e1 e2 a1 a2 p1 p2 => ?_⟩
  · have e' : (W.G ++ [d])[n]? = some u := e
    by_cases hn : n < W.G.length
    · obtain ⟨b, pb, r⟩ := S.at_ n u (gl hn e') al
      obtain ⟨v, ev⟩ := r.some al
      refine ⟨b, ?_, r.mono x.toExt0 (by show upd W.H a o b = _; rw [ev]; exact up ev)⟩
      show (W.p ++ [a])[n]? = some b
      rw [List.getElem?_append_left (by rw [S.len]; exact hn)]
      exact pb
    · rw [List.getElem?_append_right (by omega)] at e'
      have := (List.getElem?_eq_some_iff.mp e').1
      simp only [List.length_singleton] at this
      have z : n = W.G.length := by omega
      subst z
      have : u = d := by simpa using e'.symm
      subst this
      refine ⟨a, ?_, hr _ x rfl⟩
      show (W.p ++ [a])[W.G.length]? = some a
      rw [← S.len]; simp
  · rcases S.hid b hb with ⟨_, e⟩ | ⟨_, e⟩ | ⟨_, e⟩
    · exact .inl ⟨_, up e⟩
    · exact .inr (.inl ⟨_, up e⟩)
    · exact .inr (.inr ⟨_, up e⟩)
  · rcases Wd.live_new S z with z | z
    · exact S.apart b hb z
    · subst z
      exact S.not_own_of_none h (.inr hb)
  · have e1' : (W.G ++ [d])[m]? = some u := e1
    have e2' : (W.G ++ [d])[n]? = some v := e2
    have p1' : (W.p ++ [a])[m]? = some b := p1
    have p2' : (W.p ++ [a])[n]? = some b := p2
    by_cases hm : m < W.G.length
    · by_cases hn : n < W.G.length
      · exact S.inj m n u v b (gl hm e1') (gl hn e2') a1 a2 (pl hm p1') (pl hn p2')
      · obtain ⟨_, rfl⟩ := pa hn p2'
        exact absurd ⟨m, u, gl hm e1', a1, pl hm p1'⟩ noa
    · obtain ⟨rfl, rfl⟩ := pa hm p1'
      by_cases hn : n < W.G.length
      · exact absurd ⟨n, v, gl hn e2', a2, pl hn p2'⟩ noa
      · exact (pa hn p2').1.symm

/-- a thing that may be changed is changed -/
def Wd.put (W : Wd) (n : Nat) (a : Addr) (o : HO) (d : DO) : Wd := { W with H := upd W.H a o, G := W.G.set n d }
theorem Wd.live_put {W : Wd} {n : Nat} {a b : Addr} {o : HO} {d d0 : DO} (e0 : W.G[n]? = some d0) (a0 : d0.alive = true) (h : (W.put n a o d).live b) : W.live b := by
  obtain ⟨m, u, e, al, pn⟩ := h
  have e' : (W.G.set n d)[m]? = some u := e
  have pn' : W.p[m]? = some b := pn
  by_cases hm : n = m
  · subst hm
    exact ⟨n, d0, e0, a0, pn'⟩
  · rw [List.getElem?_set_ne hm] at e'
    exact ⟨m, u, e', al, pn'⟩
theorem Sim.put {W : Wd} (S : Sim W) {n : Nat} {a : Addr} {o : HO} {d d0 : DO} (e0 : W.G[n]? = some d0) (o0 : d0.opn = true) (pn : W.p[n]? = some a)
    (hr : ∀ W', Ext W W' → W'.H = upd W.H a o → ORel W' d a) : Ext W (W.put n a o d) ∧ Sim (W.put n a o d) := by
  have a0 := DO.alive_opn o0
  have la : W.live a := ⟨n, d0, e0, a0, pn⟩
  have ne : ∀ {b}, ¬ W.own b → b ≠ a := fun hl z => hl (z ▸ .inl la)
  have up : ∀ {b u}, ¬ W.own b → W.H b = some u → upd W.H a o b = some u := fun hl e => (upd_ne (ne hl)).trans e
  have nl : ∀ {b}, ¬ W.own b → ¬ (W.put n a o d).own b := fun hl q => q.elim (fun q => hl (.inl (Wd.live_put e0 a0 q))) fun q => hl (.inr q)
  have nhid : ∀ {b}, W.hid b → b ≠ a := fun hb z => S.apart _ hb (z ▸ la)
  have upn : ∀ {b u}, ¬ W.live b → W.H b = some u → upd W.H a o b = some u := fun {b u} hl e => (upd_ne fun z => hl (by rw [z]; exact la)).trans e
  have nofrz : ∀ {b ob u}, W.H b = some (.frz ob u) → b ≠ a := fun {b ob u} e z => by
    subst z
    obtain ⟨c, pc, r⟩ := S.at_ n d0 e0 a0
    rw [pn] at pc; cases pc
    cases d0 <;> simp only [ORel] at r <;> first
      | (obtain ⟨_, q, _⟩ := r; rw [e] at q; cases q)
      | cases o0
  have x : Ext W (W.put n a o d) := ⟨⟨rfl, ⟨[], by simp [Wd.put]⟩, fun b vs hl e => ⟨nl hl, up hl e⟩, fun b vs e => upn (S.live_kind e (.inl ⟨_, rfl⟩)) e, fun b ob vs e => (upd_ne (nofrz e)).trans e, fun b ob vs e => (upd_ne (nofrz e)).trans e,
    fun b ws hl e => ⟨nl hl, e.imp (up hl) fun ⟨ob, e⟩ => ⟨ob, up hl e⟩⟩, fun b ws hl e => ⟨nl hl, e.imp (up hl) fun ⟨ob, e⟩ => ⟨ob, up hl e⟩⟩⟩, fun b u hh e => ⟨hh, (upd_ne (nhid hh)).trans e⟩,
    fun b ob ws e => (upd_ne (nofrz e)).trans e, fun b ob ws e => (upd_ne (nofrz e)).trans e⟩
  have nth : ∀ {m : Nat} {u : DO}, (W.G.set n d)[m]? = some u → u.alive = true → ∃ u', W.G[m]? = some u' ∧ u'.alive = true ∧ (m ≠ n → u' = u) := fun {m u} e al => by
    by_cases hm : n = m
    · subst hm; exact ⟨d0, e0, a0, fun z => absurd rfl z⟩
    · rw [List.getElem?_set_ne hm] at e; exact ⟨u, e, al, fun _ => rfl⟩
  refine ⟨x, by simp [Wd.put, S.len], fun m u e al => ?_, fun b hb => ?_, fun b hb z => S.apart b hb (Wd.live_put e0 a0 z), fun m k u v b e1 e2 a1 a2 p1 p2 => ?_⟩
  · have e' : (W.G.set n d)[m]? = some u := e
    by_cases hm : n = m
    · subst hm
      rw [List.getElem?_set_self (List.getElem?_eq_some_iff.mp e0).1] at e'
      cases e'
      exact ⟨a, pn, hr _ x rfl⟩
    · rw [List.getElem?_set_ne hm] at e'
      obtain ⟨b, pb, r⟩ := S.at_ m u e' al
      have nb : b ≠ a := fun z => hm (S.inj n m d0 u a e0 e' a0 al pn (z ▸ pb))
      exact ⟨b, pb, r.mono x.toExt0 (upd_ne nb)⟩
  · rcases S.hid b hb with ⟨_, e⟩ | ⟨_, e⟩ | ⟨_, e⟩
    · exact .inl ⟨_, (upd_ne (nhid hb)).trans e⟩
    · exact .inr (.inl ⟨_, (upd_ne (nhid hb)).trans e⟩)
    · exact .inr (.inr ⟨_, (upd_ne (nhid hb)).trans e⟩)
  · obtain ⟨u', q1, r1, _⟩ := nth e1 a1
    obtain ⟨v', q2, r2, _⟩ := nth e2 a2
    exact S.inj m k u' v' b q1 q2 r1 r2 p1 p2

/-- a thing that may be changed is given up: it will never be changed any more -/
def Wd.drop (W : Wd) (n : Nat) : Wd := { W with G := W.G.set n .dead }
theorem Wd.live_drop {W : Wd} {n : Nat} {b : Addr} (h : (W.drop n).live b) : W.live b := by
  obtain ⟨m, u, e, al, pn⟩ := h
  have e' : (W.G.set n .dead)[m]? = some u := e
  by_cases hm : n = m
  · subst hm
    rw [List.getElem?_set] at e'
    simp only [if_true] at e'
    split at e'
    · cases e'; cases al
    · cases e'
  · rw [List.getElem?_set_ne hm] at e'
    exact ⟨m, u, e', al, pn⟩
theorem Sim.drop {W : Wd} (S : Sim W) (n : Nat) : Ext W (W.drop n) ∧ Sim (W.drop n) := by
  have nl : ∀ {b}, ¬ W.own b → ¬ (W.drop n).own b := fun hl q => q.elim (fun q => hl (.inl (Wd.live_drop q))) fun q => hl (.inr q)
  have x : Ext W (W.drop n) := ⟨⟨rfl, ⟨[], by simp [Wd.drop]⟩, fun b vs hl e => ⟨nl hl, e⟩, fun b vs e => e, fun b ob vs e => e, fun b ob vs e => e, fun b ws hl e => ⟨nl hl, e⟩, fun b ws hl e => ⟨nl hl, e⟩⟩,
    fun b u hh e => ⟨hh, e⟩, fun b ob ws e => e, fun b ob ws e => e⟩
  have nth : ∀ {m : Nat} {u : DO}, (W.G.set n .dead)[m]? = some u → u.alive = true → W.G[m]? = some u := fun {m u} e al => by
    by_cases hm : n = m
    · subst hm
      rw [List.getElem?_set] at e
      simp only [if_true] at e
      split at e
      · cases e; cases al
      · cases e
    · rwa [List.getElem?_set_ne hm] at e
  refine ⟨x, by simp [Wd.drop, S.len], fun m u e al => ?_, S.hid, fun b hb z => S.apart b hb (Wd.live_drop z), fun m k u v b e1 e2 a1 a2 p1 p2 => S.inj m k u v b (nth e1 a1) (nth e2 a2) a1 a2 p1 p2⟩
  obtain ⟨b, pb, r⟩ := S.at_ m u (nth e al) al
  exact ⟨b, pb, r.mono x.toExt0 rfl⟩
theorem Sim.drop_not_own {W : Wd} (S : Sim W) {n : Nat} {o : DO} {a : Addr} (e : W.G[n]? = some o) (al : o.alive = true) (pn : W.p[n]? = some a) : ¬ (W.drop n).own a := by
  rintro (⟨m, u, e', al', pm⟩ | hh)
  · have e2 : (W.G.set n .dead)[m]? = some u := e'
    by_cases hm : n = m
    · subst hm
      rw [List.getElem?_set_self (List.getElem?_eq_some_iff.mp e).1] at e2
      cases e2; cases al'
    · rw [List.getElem?_set_ne hm] at e2
      exact hm (S.inj n m o u a e e2 al al' pn pm)
  · exact S.apart a hh ⟨n, o, e, al, pn⟩

/-! ### what the machine is making just now -/
/-- a list, a dict is begun by the machine -/
def Wd.hide (W : Wd) (a : Addr) (o : HO) : Wd := { W with H := upd W.H a o, hid := fun b => W.hid b ∨ b = a }
def mkd : HO → Prop
  | .lst _ => True
  | .dK _ => True
  | .dT _ => True
  | _ => False
theorem Sim.hide {W : Wd} (S : Sim W) {a : Addr} {o : HO} (h : W.H a = none) (ho : mkd o) : Ext W (W.hide a o) ∧ Sim (W.hide a o) := by
  have ne : ∀ {b u}, W.H b = some u → b ≠ a := fun e z => by rw [z, h] at e; cases e
  have up : ∀ {b u}, W.H b = some u → upd W.H a o b = some u := fun e => (upd_ne (ne e)).trans e
  have nl : ∀ {b u}, ¬ W.own b → W.H b = some u → ¬ (W.hide a o).own b := fun hl e q => by
    rcases q with q | q | q
    · exact hl (.inl q)
    · exact hl (.inr q)
    · exact ne e q
  have x : Ext W (W.hide a o) := ⟨⟨rfl, ⟨[], by simp [Wd.hide]⟩, fun b vs hl e => ⟨nl hl e, up e⟩, fun b vs e => up e, fun b ob vs e => up e, fun b ob vs e => up e,
    fun b ws hl e => ⟨e.elim (fun e => nl hl e) fun ⟨_, e⟩ => nl hl e, e.imp up fun ⟨ob, e⟩ => ⟨ob, up e⟩⟩, fun b ws hl e => ⟨e.elim (fun e => nl hl e) fun ⟨_, e⟩ => nl hl e, e.imp up fun ⟨ob, e⟩ => ⟨ob, up e⟩⟩⟩,
    fun b u hh e => ⟨.inl hh, up e⟩, fun b ob ws e => up e, fun b ob ws e => up e⟩
  refine ⟨x, S.len, fun n u e al => ?_, fun b hb => ?_, fun b hb z => ?_, S.inj⟩
  · obtain ⟨b, pb, r⟩ := S.at_ n u e al
    obtain ⟨v, ev⟩ := r.some al
    exact ⟨b, pb, r.mono x.toExt0 (by show upd W.H a o b = _; rw [ev]; exact up ev)⟩
  · rcases hb with hb | rfl
    · rcases S.hid b hb with ⟨_, e⟩ | ⟨_, e⟩ | ⟨_, e⟩
      · exact .inl ⟨_, up e⟩
      · exact .inr (.inl ⟨_, up e⟩)
      · exact .inr (.inr ⟨_, up e⟩)
    · show (∃ vs, upd W.H b o b = _) ∨ (∃ ws, upd W.H b o b = _) ∨ ∃ ws, upd W.H b o b = _
      rw [upd_same]
      cases o with
      | lst vs => exact .inl ⟨_, rfl⟩
      | dK vs => exact .inr (.inl ⟨_, rfl⟩)
      | dT vs => exact .inr (.inr ⟨_, rfl⟩)
      | _ => exact ho.elim
  · rcases hb with hb | rfl
    · exact S.apart b hb z
    · exact S.not_own_of_none h (.inl z)
/-- it is grown: W0 is what stood ahead of its begin -/
def Wd.grow (W : Wd) (a : Addr) (o : HO) : Wd := { W with H := upd W.H a o }
theorem Sim.grow {W0 W : Wd} (S : Sim W) {a : Addr} {o : HO} (x : Ext W0 W) (h0 : W0.H a = none) (n0 : ¬ W0.hid a) (ha : W.hid a) (ho : mkd o) : Ext W0 (W.grow a o) ∧ Ext0 W (W.grow a o) ∧ Sim (W.grow a o) := by
  have up : ∀ {b u}, b ≠ a → W.H b = some u → upd W.H a o b = some u := fun n e => (upd_ne n).trans e
  have na : ∀ {b}, ¬ W.own b → b ≠ a := fun hl z => hl (z ▸ .inr ha)
  have n0' : ∀ {b u}, W0.H b = some u → b ≠ a := fun e z => by rw [z, h0] at e; cases e
  have nt : ∀ {b u}, W.H b = some u → ((∃ vs, u = .tup vs) ∨ (∃ o v, u = .frz o v)) → b ≠ a := fun e k z => S.hid_kind e k (z ▸ ha)
  have x1 : Ext0 W (W.grow a o) := ⟨rfl, ⟨[], by simp [Wd.grow]⟩, fun b vs hl e => ⟨hl, up (na hl) e⟩, fun b vs e => up (nt e (.inl ⟨_, rfl⟩)) e, fun b ob vs e => up (nt e (.inr ⟨_, _, rfl⟩)) e, fun b ob vs e => up (nt e (.inr ⟨_, _, rfl⟩)) e,
    fun b ws hl e => ⟨hl, e.imp (up (na hl)) fun ⟨ob, e⟩ => ⟨ob, up (na hl) e⟩⟩, fun b ws hl e => ⟨hl, e.imp (up (na hl)) fun ⟨ob, e⟩ => ⟨ob, up (na hl) e⟩⟩⟩
  refine ⟨⟨x.toExt0.trans x1, fun b u hh e => ?_, fun b ob ws e => up (n0' e) (x.fk _ _ _ e), fun b ob ws e => up (n0' e) (x.fd _ _ _ e)⟩, x1, S.len, fun n u e al => ?_, fun b hb => ?_, S.apart, S.inj⟩
  · obtain ⟨h1, e1⟩ := x.h b u hh e
    exact ⟨h1, up (fun z => n0 (z ▸ hh)) e1⟩
  · obtain ⟨b, pb, r⟩ := S.at_ n u e al
    refine ⟨b, pb, r.mono x1 ?_⟩
    exact upd_ne fun z => S.apart a ha ⟨n, u, e, al, z ▸ pb⟩
  · by_cases hb' : b = a
    · subst hb'
      show (∃ vs, upd W.H b o b = _) ∨ (∃ ws, upd W.H b o b = _) ∨ ∃ ws, upd W.H b o b = _
      rw [upd_same]
      cases o with
      | lst vs => exact .inl ⟨_, rfl⟩
      | dK vs => exact .inr (.inl ⟨_, rfl⟩)
      | dT vs => exact .inr (.inr ⟨_, rfl⟩)
      | _ => exact ho.elim
    · rcases S.hid b hb with ⟨_, e⟩ | ⟨_, e⟩ | ⟨_, e⟩
      · exact .inl ⟨_, up hb' e⟩
      · exact .inr (.inl ⟨_, up hb' e⟩)
      · exact .inr (.inr ⟨_, up hb' e⟩)
/-- it is whole: from now on it is one that is never changed -/
def Wd.show_ (W : Wd) (a : Addr) : Wd := { W with hid := fun b => W.hid b ∧ b ≠ a }
theorem Sim.show_ {W0 W : Wd} (S : Sim W) {a : Addr} (x : Ext W0 W) (n0 : ¬ W0.hid a) : Ext W0 (W.show_ a) ∧ Ext0 W (W.show_ a) ∧ Sim (W.show_ a) := by
  have nl : ∀ {b}, ¬ W.own b → ¬ (W.show_ a).own b := fun hl q => q.elim (fun q => hl (.inl q)) fun q => hl (.inr q.1)
  have x1 : Ext0 W (W.show_ a) := ⟨rfl, ⟨[], by simp [Wd.show_]⟩, fun b vs hl e => ⟨nl hl, e⟩, fun b vs e => e, fun b ob vs e => e, fun b ob vs e => e, fun b ws hl e => ⟨nl hl, e⟩, fun b ws hl e => ⟨nl hl, e⟩⟩
  refine ⟨⟨x.toExt0.trans x1, fun b u hh e => ?_, fun b ob ws e => x.fk _ _ _ e, fun b ob ws e => x.fd _ _ _ e⟩, x1, S.len, fun n u e al => ?_, fun b hb => S.hid b hb.1, fun b hb z => S.apart b hb.1 z, S.inj⟩
  · obtain ⟨h1, e1⟩ := x.h b u hh e
    exact ⟨⟨h1, fun z => n0 (z ▸ hh)⟩, e1⟩
  · obtain ⟨b, pb, r⟩ := S.at_ n u e al
    exact ⟨b, pb, r.mono x1 rfl⟩
theorem Sim.show_not_own {W : Wd} (S : Sim W) {a : Addr} (ha : W.hid a) : ¬ (W.show_ a).own a := by
  rintro (h | h)
  · exact S.apart a ha h
  · exact h.2 rfl
end DL
end
/-! ==== DRule ==== -/
section
set_option Elab.async false
set_option linter.all false
set_option autoImplicit false
set_option maxRecDepth 100000
set_option maxHeartbeats 4000000
/-! DL: what an expression is worth, as a function of slots and the small heap; the rules of expressions. -/
namespace DL
open PySem PySem.Spec PyProof.Rows L2

/-- an outcome: a value and the heap behind it; an exception; no word -/
inductive R (α : Type) where
  | ok (a : α) (G : DH)
  | ex (e : D) (G : DH)
  | stop
def R.bind {α β : Type} (r : R α) (k : α → DH → R β) : R β :=
  match r with
  | .ok a G => k a G
  | .ex e G => .ex e G
  | .stop => .stop
@[simp] theorem R.bind_ok {α β : Type} (a : α) (G : DH) (k : α → DH → R β) : (R.ok a G).bind k = k a G := rfl
@[simp] theorem R.bind_ex {α β : Type} (e : D) (G : DH) (k : α → DH → R β) : (R.ex e G : R α).bind k = .ex e G := rfl
@[simp] theorem R.bind_stop {α β : Type} (k : α → DH → R β) : (R.stop : R α).bind k = .stop := rfl
theorem R.bind_assoc {α β γ : Type} (r : R α) (k : α → DH → R β) (l : β → DH → R γ) : (r.bind k).bind l = r.bind fun a G => (k a G).bind l := by
  cases r <;> rfl

/-- how an exception lies -/
def DenX (W : Wd) (e : D) (c : Value) (od : Option Addr) : Prop := False

/-- what is wanted behind an outcome -/
def Fin {α β : Type} (Rel : Wd → α → β → Prop) (W : Wd) (E : XK) (r : R α) (Q : β → Hp → Prop) : Prop :=
  match r with
  | .ok a G => ∀ (b : β) (W' : Wd), Ext W W' → Sim W' → W'.G = G → Rel W' a b → Q b W'.H
  | .ex e G => ∀ (c : Value) (od : Option Addr) (W' : Wd), Ext W W' → Sim W' → W'.G = G → DenX W' e c od → E c od W'.H
  | .stop => False
section
variable {α β γ δ : Type} {RA : Wd → α → β → Prop} {RC : Wd → γ → δ → Prop} {W : Wd} {E : XK}
theorem Fin.mono {W0 : Wd} (x : Ext W0 W) {r : R α} {Q : β → Hp → Prop} (h : Fin RA W0 E r Q) : Fin RA W E r Q := by
  cases r with
  | ok a G => exact fun b W' y S e q => h b W' (x.trans y) S e q
  | ex e G => exact fun c od W' y S e q => h c od W' (x.trans y) S e q
  | stop => exact h
theorem Fin.seq {r : R α} {k : α → DH → R γ} {Q : δ → Hp → Prop} {Q' : β → Hp → Prop} (h : Fin RC W E (r.bind k) Q)
    (hk : ∀ a b W', Ext W W' → Sim W' → RA W' a b → Fin RC W' E (k a W'.G) Q → Q' b W'.H) : Fin RA W E r Q' := by
  cases r with
  | ok a G => exact fun b W' x S e q => hk a b W' x S q (by subst e; exact Fin.mono x h)
  | ex e G => exact h
  | stop => exact h
/-- the outcome is here -/
theorem Fin.here {a : α} {b : β} {Q : β → Hp → Prop} (S : Sim W) (h : Fin RA W E (.ok a W.G) Q) (q : RA W a b) : Q b W.H := h b W (Ext.refl W) S rfl q
end

abbrev DE := DSl → DH → R D
abbrev DT := DSl → DH → R Bool
abbrev DA := DSl → DH → R (List D)

/-- the slots -/
def Sl (W : Wd) (σ : L2.St) (s : DSl) : Prop := σ.length = s.length ∧ ∀ (i : Nat) (d : D), s[i]? = some (some d) → ∃ v, σ[i]? = some (some v) ∧ Den W d v
theorem Sl.mono {W W' : Wd} (x : Ext W W') {σ : L2.St} {s : DSl} (h : Sl W σ s) : Sl W' σ s :=
  ⟨h.1, fun i d e => let ⟨v, q, r⟩ := h.2 i d e; ⟨v, q, Den.mono x _ _ r⟩⟩
theorem Sl.set {W : Wd} {σ : L2.St} {s : DSl} (h : Sl W σ s) {i : Nat} {d : D} {v : V} (r : Den W d v) : Sl W (σ.set i (some v)) (s.set i (some d)) := by
  refine ⟨by simpa using h.1, fun j e q => ?_⟩
  by_cases hj : i = j
  · subst hj
    by_cases hi : i < s.length
    · rw [List.getElem?_set_self hi] at q
      cases q
      have hi2 : i < σ.length := by rw [h.1]; exact hi
      exact ⟨v, List.getElem?_set_self hi2, r⟩
    · rw [List.getElem?_eq_none (by simpa using Nat.le_of_not_lt hi)] at q; cases q
  · rw [List.getElem?_set_ne hj] at q
    obtain ⟨w, e1, e2⟩ := h.2 j e q
    exact ⟨w, by rw [List.getElem?_set_ne hj]; exact e1, e2⟩

structure DEOk (X : Cx) (E : XK) (e : Expr) (f : DE) : Prop where
  out : ∃ t : TE, PE X e t ∧ ∀ (W : Wd) (σ : L2.St) (s : DSl) (Q : VK), W.K = X.K → Sim W → Sl W σ s → Fin Den W E (f s W.G) Q → t σ W.H Q
abbrev RB : Wd → Bool → Bool → Prop := fun _ a b => a = b
structure DTOk (X : Cx) (E : XK) (e : Expr) (f : DT) : Prop where
  out : ∃ t : TT, PT X e t ∧ ∀ (W : Wd) (σ : L2.St) (s : DSl) (Q : Bool → Hp → Prop), W.K = X.K → Sim W → Sl W σ s → Fin RB W E (f s W.G) Q → t σ W.H Q
structure DWOk (X : Cx) (E : XK) (e : Expr) (f : DT) : Prop where
  out : ∃ t : TT, PW X e t ∧ ∀ (W : Wd) (σ : L2.St) (s : DSl) (Q : Bool → Hp → Prop), W.K = X.K → Sim W → Sl W σ s → Fin RB W E (f s W.G) Q → t σ W.H Q
structure DAOk (X : Cx) (E : XK) (es : List Expr) (f : DA) : Prop where
  out : ∃ t : TA, PA X es t ∧ ∀ (W : Wd) (σ : L2.St) (s : DSl) (Q : List V → Hp → Prop), W.K = X.K → Sim W → Sl W σ s → Fin DenL W E (f s W.G) Q → t σ W.H Q
section
variable {X : Cx} {E : XK}
theorem DWOk.t {e : Expr} {f : DT} (h : DWOk X E e f) : DTOk X E e f := let ⟨t, p, q⟩ := h.out; ⟨t, p.pt, q⟩

/-! ### names, constants -/
def dVar (i : Nat) : DE := fun s G => match s[i]? with
  | some (some d) => .ok d G
  | _ => .stop
theorem de_var (i : Nat) {x : Str} {pos : Pos} (hN : X.N[i]? = some x := by rfl) (hv : Vis X.env.scope x := by first | exact Or.inl rfl | exact Or.inr (Or.inl rfl) | exact Or.inr (Or.inr rfl)) (hd : (x == ("__debug__" : Str)) = false := by decide)
    (hcd : (x == ("__classdict__" : Str)) = false := by decide) : DEOk X E (.Name x pos) (dVar i) := by
  refine ⟨_, pe_var hN hv hd hcd, fun W σ s Q hK S L h => ?_⟩
  unfold dVar at h
  cases e : s[i]? with
  | none => rw [e] at h; exact h.elim
  | some o =>
    cases o with
    | none => rw [e] at h; exact h.elim
    | some d =>
      rw [e] at h
      obtain ⟨v, q, r⟩ := L.2 i d e
      exact ⟨v, q, h.here S r⟩
def dC (d : D) : DE := fun _ G => .ok d G
theorem de_c {e : Expr} {v : V} {d : D} (h : PE X e (tC v)) (hd : ∀ W, Sim W → W.K = X.K → Den W d v) : DEOk X E e (dC d) :=
  ⟨_, h, fun W σ s Q hK S L f => f.here S (hd W S hK)⟩
theorem de_int {i j pos} : DEOk X E (.Constant (.int i) j pos) (dC (.int i)) := de_c pe_int fun _ _ _ => by simp [Den]
theorem de_bl {b j pos} : DEOk X E (.Constant (.bool b) j pos) (dC (.bl b)) := de_c pe_bl fun _ _ _ => by simp [Den]
theorem de_non {j pos} : DEOk X E (.Constant .none j pos) (dC .non) := de_c pe_non fun _ _ _ => by simp [Den]
theorem de_str {x j pos} : DEOk X E (.Constant (.str x) j pos) (dC (.str x)) := de_c pe_str fun _ _ _ => by simp [Den]
/-- a constant of the module -/
theorem de_glob {x : Str} {v : V} {u : Value} {d : D} {pos : Pos} (hg : Gl X x) (hm : X.mg x = some u) (r : RelV v u) (hd : ∀ W, Sim W → W.K = X.K → Den W d v) (hdb : (x == ("__debug__" : Str)) = false := by decide) : DEOk X E (.Name x pos) (dC d) :=
  de_c (pe_glob hg hm r hdb) hd

/-! ### two values -/
/-- an operation on two values: what it is worth -/
structure OpOk (X : Cx) (E : XK) (f : Value → Value → Sem Value) (F : D → D → DH → R D) : Prop where
  out : ∃ r : R2, OpR X f r ∧ ∀ (W : Wd) (x y : D) (v w : V) (Q : VK), W.K = X.K → Sim W → Den W x v → Den W y w → Fin Den W E (F x y W.G) Q → r v w W.H Q
def dBin (F : D → D → DH → R D) (a b : DE) : DE := fun s G => (a s G).bind fun x G => (b s G).bind fun y G => F x y G
theorem bin_out {fa fb : DE} {F : D → D → DH → R D} {r : R2} {ta tb : TE} (ha : ∀ (W : Wd) (σ : L2.St) (s : DSl) (Q : VK), W.K = X.K → Sim W → Sl W σ s → Fin Den W E (fa s W.G) Q → ta σ W.H Q)
    (hb : ∀ (W : Wd) (σ : L2.St) (s : DSl) (Q : VK), W.K = X.K → Sim W → Sl W σ s → Fin Den W E (fb s W.G) Q → tb σ W.H Q)
    (hr : ∀ (W : Wd) (x y : D) (v w : V) (Q : VK), W.K = X.K → Sim W → Den W x v → Den W y w → Fin Den W E (F x y W.G) Q → r v w W.H Q) :
    ∀ (W : Wd) (σ : L2.St) (s : DSl) (Q : VK), W.K = X.K → Sim W → Sl W σ s → Fin Den W E (dBin F fa fb s W.G) Q → tOp r ta tb σ W.H Q := by
  intro W σ s Q hK S L h
  refine ha W σ s _ hK S L (h.seq fun x v W1 x1 S1 d1 h1 => ?_)
  refine hb W1 σ s _ (x1.k.trans hK) S1 (L.mono x1) (h1.seq fun y w W2 x2 S2 d2 h2 => ?_)
  exact hr W2 x y v w Q (x2.k.trans (x1.k.trans hK)) S2 (Den.mono x2 _ _ d1) d2 h2
theorem de_bin {op : Operator} {a b : Expr} {fa fb : DE} {F : D → D → DH → R D} {pos : Pos} (ho : OpOk X E (binaryOp op) F) (ha : DEOk X E a fa) (hb : DEOk X E b fb) : DEOk X E (.BinOp a op b pos) (dBin F fa fb) := by
  obtain ⟨r, hr, qr⟩ := ho.out
  obtain ⟨ta, pa, qa⟩ := ha.out
  obtain ⟨tb, pb, qb⟩ := hb.out
  exact ⟨_, pe_op hr pa pb, bin_out qa qb qr⟩
theorem de_cmp {op : CmpOp} {a b : Expr} {fa fb : DE} {F : D → D → DH → R D} {pos : Pos} (ho : OpOk X E (compareOp op) F) (ha : DEOk X E a fa) (hb : DEOk X E b fb) (hm : behindInMarks op b = false) : DEOk X E (.Compare a [op] [b] pos) (dBin F fa fb) := by
  obtain ⟨r, hr, qr⟩ := ho.out
  obtain ⟨ta, pa, qa⟩ := ha.out
  obtain ⟨tb, pb, qb⟩ := hb.out
  exact ⟨_, pe_cmpR hr pa pb hm, bin_out qa qb qr⟩
/-- a value that is a bool, as a test -/
def dTest (f : DE) : DT := fun s G => (f s G).bind fun d G => match d with
  | .bl b => .ok b G
  | _ => .stop
theorem test_out {ta : TE} {f : DE} (ha : ∀ (W : Wd) (σ : L2.St) (s : DSl) (Q : VK), W.K = X.K → Sim W → Sl W σ s → Fin Den W E (f s W.G) Q → ta σ W.H Q) :
    ∀ (W : Wd) (σ : L2.St) (s : DSl) (Q : Bool → Hp → Prop), W.K = X.K → Sim W → Sl W σ s → Fin RB W E (dTest f s W.G) Q → tTest ta σ W.H Q := by
  intro W σ s Q hK S L h
  refine ha W σ s _ hK S L (h.seq fun x v W1 x1 S1 d1 h1 => ?_)
  cases x with
  | bl b =>
    simp only [Den] at d1
    exact ⟨b, d1, h1.here S1 rfl⟩
  | _ => exact h1.elim
theorem dt_cmp {op : CmpOp} {a b : Expr} {fa fb : DE} {F : D → D → DH → R D} {pos : Pos} (ho : OpOk X E (compareOp op) F) (ha : DEOk X E a fa) (hb : DEOk X E b fb) (hm : behindInMarks op b = false) : DTOk X E (.Compare a [op] [b] pos) (dTest (dBin F fa fb)) := by
  obtain ⟨r, hr, qr⟩ := ho.out
  obtain ⟨ta, pa, qa⟩ := ha.out
  obtain ⟨tb, pb, qb⟩ := hb.out
  exact ⟨_, pt_cmpR hr pa pb hm, test_out (bin_out qa qb qr)⟩
/-- a op b op' c -/
def dChain (F F' : D → D → DH → R D) (a b c : DE) : DE := fun s G => (a s G).bind fun x G => (b s G).bind fun y G => (F x y G).bind fun z G => match z with
  | .bl true => (c s G).bind fun w G => F' y w G
  | .bl false => .ok (.bl false) G
  | _ => .stop
theorem chain_out {fa fb fc : DE} {F F' : D → D → DH → R D} {r r' : R2} {ta tb tc : TE} (ha : ∀ (W : Wd) (σ : L2.St) (s : DSl) (Q : VK), W.K = X.K → Sim W → Sl W σ s → Fin Den W E (fa s W.G) Q → ta σ W.H Q)
    (hb : ∀ (W : Wd) (σ : L2.St) (s : DSl) (Q : VK), W.K = X.K → Sim W → Sl W σ s → Fin Den W E (fb s W.G) Q → tb σ W.H Q)
    (hc : ∀ (W : Wd) (σ : L2.St) (s : DSl) (Q : VK), W.K = X.K → Sim W → Sl W σ s → Fin Den W E (fc s W.G) Q → tc σ W.H Q)
    (hr : ∀ (W : Wd) (x y : D) (v w : V) (Q : VK), W.K = X.K → Sim W → Den W x v → Den W y w → Fin Den W E (F x y W.G) Q → r v w W.H Q)
    (hr' : ∀ (W : Wd) (x y : D) (v w : V) (Q : VK), W.K = X.K → Sim W → Den W x v → Den W y w → Fin Den W E (F' x y W.G) Q → r' v w W.H Q) :
    ∀ (W : Wd) (σ : L2.St) (s : DSl) (Q : VK), W.K = X.K → Sim W → Sl W σ s → Fin Den W E (dChain F F' fa fb fc s W.G) Q → tChain r r' ta tb tc σ W.H Q := by
  intro W σ s Q hK S L h
  refine ha W σ s _ hK S L (h.seq fun x v W1 x1 S1 d1 h1 => ?_)
  refine hb W1 σ s _ (x1.k.trans hK) S1 (L.mono x1) (h1.seq fun y w W2 x2 S2 d2 h2 => ?_)
  refine hr W2 x y v w _ (x2.k.trans (x1.k.trans hK)) S2 (Den.mono x2 _ _ d1) d2 (h2.seq fun z u W3 x3 S3 d3 h3 => ?_)
  cases z with
  | bl b =>
    simp only [Den] at d3
    refine ⟨b, d3, ?_⟩
    cases b with
    | true =>
      rw [if_pos rfl]
      refine hc W3 σ s _ (x3.k.trans (x2.k.trans (x1.k.trans hK))) S3 ((L.mono x1).mono x2 |>.mono x3) (Fin.seq (RC := Den) h3 fun w' u' W4 x4 S4 d4 h4 => ?_)
      exact hr' W4 y w' w u' Q (x4.k.trans (x3.k.trans (x2.k.trans (x1.k.trans hK)))) S4 (Den.mono (x3.trans x4) _ _ d2) d4 h4
    | false =>
      rw [if_neg Bool.false_ne_true]
      exact Fin.here (RA := Den) S3 h3 (by simp [Den])
  | _ => exact h3.elim
theorem de_chain {op op' : CmpOp} {a b c : Expr} {fa fb fc : DE} {F F' : D → D → DH → R D} {pos : Pos} (ho : OpOk X E (compareOp op) F) (ho' : OpOk X E (compareOp op') F') (ha : DEOk X E a fa) (hb : DEOk X E b fb) (hc : DEOk X E c fc)
    (hm : lastMarks [op, op'] [b, c] = false := by with_unfolding_all rfl) : DEOk X E (.Compare a [op, op'] [b, c] pos) (dChain F F' fa fb fc) := by
  obtain ⟨r, hr, qr⟩ := ho.out
  obtain ⟨r', hr', qr'⟩ := ho'.out
  obtain ⟨ta, pa, qa⟩ := ha.out
  obtain ⟨tb, pb, qb⟩ := hb.out
  obtain ⟨tc, pc, qc⟩ := hc.out
  exact ⟨_, pe_chain hr hr' pa pb pc hm, chain_out qa qb qc qr qr'⟩
theorem dt_chain {op op' : CmpOp} {a b c : Expr} {fa fb fc : DE} {F F' : D → D → DH → R D} {pos : Pos} (ho : OpOk X E (compareOp op) F) (ho' : OpOk X E (compareOp op') F') (ha : DEOk X E a fa) (hb : DEOk X E b fb) (hc : DEOk X E c fc)
    (hm : lastMarks [op, op'] [b, c] = false := by with_unfolding_all rfl) : DTOk X E (.Compare a [op, op'] [b, c] pos) (dTest (dChain F F' fa fb fc)) := by
  obtain ⟨r, hr, qr⟩ := ho.out
  obtain ⟨r', hr', qr'⟩ := ho'.out
  obtain ⟨ta, pa, qa⟩ := ha.out
  obtain ⟨tb, pb, qb⟩ := hb.out
  obtain ⟨tc, pc, qc⟩ := hc.out
  exact ⟨_, pt_chain hr hr' pa pb pc hm, test_out (chain_out qa qb qc qr qr')⟩

/-! ### new things -/
/-- a new list: one that may be changed, or one that never is -/
def mkL (o : Bool) (xs : List D) (G : DH) : R D := if o then .ok (.obj G.length) (G ++ [.lst xs]) else .ok (.lst xs) G
theorem fin_mkL {W : Wd} {o : Bool} {xs : List D} {vs : List V} {Q : VK} (S : Sim W) (h : Fin Den W E (mkL o xs W.G) Q) (r : DenL W xs vs) : ∀ p, W.H p = none → Q (.ref p) (upd W.H p (.lst vs)) := by
  intro p hp
  cases o with
  | false =>
    obtain ⟨x, S'⟩ := S.lay (.lst vs) hp
    refine h (.ref p) _ x S' rfl ?_
    simp only [Den]
    exact ⟨p, vs, rfl, fun l => S.not_own_of_none hp l, upd_same, DenL.mono x _ _ r⟩
  | true =>
    obtain ⟨x, S'⟩ := S.new (o := .lst vs) (d := .lst xs) hp fun W' y e => ⟨vs, by rw [e]; exact upd_same, DenL.mono y _ _ r⟩
    refine h (.ref p) _ x S' rfl ?_
    simp only [Den]
    exact ⟨p, by show (W.p ++ [p])[W.G.length]? = some p; rw [← S.len]; simp, rfl⟩
theorem fin_tup {W : Wd} {xs : List D} {vs : List V} {Q : VK} (S : Sim W) (h : Fin Den W E (.ok (.tup xs) W.G) Q) (r : DenL W xs vs) : ∀ p, W.H p = none → Q (.ref p) (upd W.H p (.tup vs)) := by
  intro p hp
  obtain ⟨x, S'⟩ := S.lay (.tup vs) hp
  refine h (.ref p) _ x S' rfl ?_
  simp only [Den]
  exact ⟨p, vs, rfl, upd_same, DenL.mono x _ _ r⟩

theorem DenL.len {W : Wd} : ∀ {xs : List D} {vs : List V}, DenL W xs vs → vs.length = xs.length
  | [], _, h => by simp only [DenL] at h; subst h; rfl
  | _ :: xs, _, h => by
    simp only [DenL] at h
    obtain ⟨v, r, rfl, _, h2⟩ := h
    simp [DenL.len h2]
theorem DenL.at {W : Wd} : ∀ {xs : List D} {vs : List V} {i : Nat} {d : D}, DenL W xs vs → xs[i]? = some d → ∃ v, vs[i]? = some v ∧ Den W d v
  | [], _, _, _, _, e => by simp at e
  | _ :: _, _, 0, _, h, e => by
    simp only [DenL] at h
    obtain ⟨v, r, rfl, h1, _⟩ := h
    simp at e
    subst e
    exact ⟨v, rfl, h1⟩
  | _ :: xs, _, i + 1, _, h, e => by
    simp only [DenL] at h
    obtain ⟨v, r, rfl, _, h2⟩ := h
    obtain ⟨w, e1, e2⟩ := DenL.at (i := i) h2 (by simpa using e)
    exact ⟨w, by simpa using e1, e2⟩
theorem DenL.app {W : Wd} : ∀ {xs ys : List D} {vs ws : List V}, DenL W xs vs → DenL W ys ws → DenL W (xs ++ ys) (vs ++ ws)
  | [], _, _, _, h, g => by simp only [DenL] at h; subst h; exact g
  | _ :: xs, _, _, _, h, g => by
    simp only [DenL] at h
    obtain ⟨v, r, rfl, h1, h2⟩ := h
    simp only [List.cons_append, DenL]
    exact ⟨v, _, rfl, h1, DenL.app h2 g⟩
theorem DenL.one {W : Wd} {d : D} {v : V} (h : Den W d v) : DenL W [d] [v] := by simp only [DenL]; exact ⟨v, [], rfl, h, rfl⟩
theorem DenL.take {W : Wd} : ∀ {xs : List D} {vs : List V} (n : Nat), DenL W xs vs → DenL W (xs.take n) (vs.take n)
  | _, _, 0, _ => by simp [DenL]
  | [], _, n + 1, h => by simp only [DenL] at h; subst h; simp [DenL]
  | _ :: xs, _, n + 1, h => by
    simp only [DenL] at h
    obtain ⟨v, r, rfl, h1, h2⟩ := h
    simp only [List.take_succ_cons, DenL]
    exact ⟨v, _, rfl, h1, DenL.take n h2⟩
theorem DenL.drop {W : Wd} : ∀ {xs : List D} {vs : List V} (n : Nat), DenL W xs vs → DenL W (xs.drop n) (vs.drop n)
  | _, _, 0, h => by simpa using h
  | [], _, n + 1, h => by simp only [DenL] at h; subst h; simp [DenL]
  | _ :: xs, _, n + 1, h => by
    simp only [DenL] at h
    obtain ⟨v, r, rfl, h1, h2⟩ := h
    simpa using DenL.drop n h2
theorem DenL.set {W : Wd} : ∀ {xs : List D} {vs : List V} {d : D} {v : V} (n : Nat), DenL W xs vs → Den W d v → DenL W (xs.set n d) (vs.set n v)
  | [], _, _, _, _, h, _ => by simp only [DenL] at h; subst h; simp [DenL]
  | _ :: xs, _, _, _, 0, h, g => by
    simp only [DenL] at h
    obtain ⟨v, r, rfl, h1, h2⟩ := h
    simp only [List.set_cons_zero, DenL]
    exact ⟨_, _, rfl, g, h2⟩
  | _ :: xs, _, _, _, n + 1, h, g => by
    simp only [DenL] at h
    obtain ⟨v, r, rfl, h1, h2⟩ := h
    simp only [List.set_cons_succ, DenL]
    exact ⟨v, _, rfl, h1, DenL.set n h2 g⟩
theorem DenL.rep {W : Wd} {xs : List D} {vs : List V} (h : DenL W xs vs) : ∀ k : Nat, DenL W (List.replicate k xs).flatten (List.replicate k vs).flatten
  | 0 => by simp [DenL]
  | k + 1 => by simpa [List.replicate_succ] using DenL.app h (DenL.rep h k)
theorem DenL.emp {W : Wd} {xs : List D} {vs : List V} (h : DenL W xs vs) : vs.isEmpty = xs.isEmpty := by
  have := h.len
  cases xs <;> cases vs <;> simp_all

/-- the items of what is read as a list -/
def lstOf (G : DH) : D → Option (List D)
  | .lst xs => some xs
  | .frz xs => some xs
  | .obj n => match G[n]? with
    | some (.lst xs) => some xs
    | _ => none
  | _ => none
def seqOf (G : DH) : D → Option (List D)
  | .tup xs => some xs
  | .ktup xs => some xs
  | d => lstOf G d
theorem lstOf_den {W : Wd} {d : D} {xs : List D} {v : V} (S : Sim W) (h : Den W d v) (e : lstOf W.G d = some xs) : ∃ a vs, v = .ref a ∧ SqL W.K W.H a vs ∧ DenL W xs vs := by
  cases d with
  | lst ys =>
    simp only [lstOf, Option.some.injEq] at e; subst e
    simp only [Den] at h
    obtain ⟨a, vs, e, _, h1, h2⟩ := h
    exact ⟨a, vs, e, .of h1, h2⟩
  | frz ys =>
    simp only [lstOf, Option.some.injEq] at e; subst e
    simp only [Den] at h
    obtain ⟨a, vs, e, h1, h2⟩ := h
    refine ⟨a, vs, e, ?_, h2⟩
    rcases h1 with ⟨o, h1⟩ | h1
    · exact .inl (.inr ⟨o, h1⟩)
    · exact .inr h1
  | obj n =>
    simp only [Den] at h
    obtain ⟨a, pn, ev⟩ := h
    simp only [lstOf] at e
    cases q : W.G[n]? with
    | none => rw [q] at e; cases e
    | some o =>
      cases o with
      | lst ys =>
        rw [q] at e
        simp only [Option.some.injEq] at e; subst e
        obtain ⟨b, pb, vs, h1, h2⟩ := S.at_ n _ q rfl
        rw [pn] at pb; cases pb
        exact ⟨a, vs, ev, .of h1, h2⟩
      | _ => rw [q] at e; cases e
  | _ => cases e
theorem tup_den {W : Wd} {xs : List D} {v : V} (h : Den W (.tup xs) v) : ∃ a vs, v = .ref a ∧ SqT W.K W.H a vs ∧ DenL W xs vs := by
  simp only [Den] at h
  obtain ⟨a, vs, e, h1, h2⟩ := h
  exact ⟨a, vs, e, .of h1, h2⟩
theorem ktup_den {W : Wd} {xs : List D} {v : V} (h : Den W (.ktup xs) v) : ∃ a vs, v = .ref a ∧ SqT W.K W.H a vs ∧ DenL W xs vs := by
  simp only [Den] at h
  obtain ⟨a, vs, e, h1, h2⟩ := h
  exact ⟨a, vs, e, .inr h1, h2⟩
/-- the items of a tuple -/
def tupOf : D → Option (List D)
  | .tup xs => some xs
  | .ktup xs => some xs
  | _ => none
theorem tupOf_den {W : Wd} {d : D} {xs : List D} {v : V} (h : Den W d v) (e : tupOf d = some xs) : ∃ a vs, v = .ref a ∧ SqT W.K W.H a vs ∧ DenL W xs vs := by
  cases d with
  | tup ys => cases e; exact tup_den h
  | ktup ys => cases e; exact ktup_den h
  | _ => cases e
/-- a tracked list -/
def lstM (G : DH) : D → Option (List D)
  | .lst xs => some xs
  | .obj n => match G[n]? with
    | some (.lst xs) => some xs
    | _ => none
  | _ => none
theorem lstM_den {W : Wd} {d : D} {xs : List D} {v : V} (S : Sim W) (h : Den W d v) (e : lstM W.G d = some xs) : ∃ a vs, v = .ref a ∧ W.H a = some (.lst vs) ∧ DenL W xs vs := by
  cases d with
  | lst ys =>
    simp only [lstM, Option.some.injEq] at e; subst e
    simp only [Den] at h
    obtain ⟨a, vs, e, _, h1, h2⟩ := h
    exact ⟨a, vs, e, h1, h2⟩
  | obj n =>
    simp only [Den] at h
    obtain ⟨a, pn, ev⟩ := h
    simp only [lstM] at e
    cases q : W.G[n]? with
    | none => rw [q] at e; cases e
    | some o =>
      cases o with
      | lst ys =>
        rw [q] at e
        simp only [Option.some.injEq] at e; subst e
        obtain ⟨b, pb, vs, h1, h2⟩ := S.at_ n _ q rfl
        rw [pn] at pb; cases pb
        exact ⟨a, vs, ev, h1, h2⟩
      | _ => rw [q] at e; cases e
  | _ => cases e
end
end DL
end
/-! ==== DOps ==== -/
section
set_option Elab.async false
set_option linter.all false
set_option autoImplicit false
set_option maxRecDepth 100000
set_option maxHeartbeats 4000000
/-! DL: operators, built-in functions, methods, by values. -/
namespace DL
open PySem PySem.Spec PyProof.Rows L2

section
variable {X : Cx} {E : XK}

/-! ### arithmetic -/
def addD (o : Bool) (x y : D) (G : DH) : R D :=
  match x, y with
  | .int i, .int j => .ok (.int (i + j)) G
  | .str a, .str b => if a.length + b.length ≤ sizeLine then .ok (.str (a ++ b)) G else .stop
  | .tup xs, .tup ys => if xs.length + ys.length ≤ sizeLine then .ok (.tup (xs ++ ys)) G else .stop
  | x, y => match lstM G x, lstM G y with
    | some xs, some ys => if xs.length + ys.length ≤ sizeLine then mkL o (xs ++ ys) G else .stop
    | _, _ => .stop
theorem add_list {W : Wd} {o : Bool} {x y : D} {v w : V} {Q : VK} (S : Sim W) (dx : Den W x v) (dy : Den W y w)
    (h : Fin Den W E (match lstM W.G x, lstM W.G y with | some xs, some ys => if xs.length + ys.length ≤ sizeLine then mkL o (xs ++ ys) W.G else .stop | _, _ => .stop) Q) : rCat v w W.H Q := by
  cases e1 : lstM W.G x with
  | none => rw [e1] at h; exact h.elim
  | some xs =>
    cases e2 : lstM W.G y with
    | none => rw [e1, e2] at h; exact h.elim
    | some ys =>
      rw [e1, e2] at h
      obtain ⟨a, vs, rfl, ha, ra⟩ := lstM_den S dx e1
      obtain ⟨b, ws, rfl, hb, rb⟩ := lstM_den S dy e2
      by_cases c : xs.length + ys.length ≤ sizeLine
      · simp only [if_pos c] at h
        exact ⟨a, b, vs, ws, rfl, rfl, ha, hb, by rw [ra.len, rb.len]; exact c, fin_mkL S h (ra.app rb)⟩
      · simp only [if_neg c] at h; exact h.elim
theorem op_addD (o : Bool) : OpOk X E (binaryOp .Add) (addD o) := by
  refine ⟨_, ((op_add.or op_add_str).or op_catA).or op_cat, fun W x y v w Q hK S dx dy h => ?_⟩
  unfold addD at h
  split at h
  · simp only [Den] at dx dy
    exact .inl (.inl (.inl ⟨_, _, dx, dy, h.here S (by simp [Den])⟩))
  · simp only [Den] at dx dy
    split at h
    · rename_i c
      exact .inl (.inl (.inr ⟨_, _, dx, dy, c, h.here S (by simp [Den])⟩))
    · exact h.elim
  · rename_i xs ys
    split at h
    · rename_i c
      obtain ⟨a, vs, rfl, ha, ra⟩ := tup_den dx
      obtain ⟨b, ws, rfl, hb, rb⟩ := tup_den dy
      refine .inl (.inr ⟨a, b, vs, ws, rfl, rfl, by rw [← hK]; exact ha, by rw [← hK]; exact hb, by rw [ra.len, rb.len]; exact c, fun e => ?_, fun _ e => ?_, fun _ _ => fin_tup S h (ra.app rb)⟩)
      · subst e
        have z : xs = [] := List.eq_nil_of_length_eq_zero (by simpa using ra.len.symm)
        subst z
        exact h.here S (by simpa using dy)
      · subst e
        have z : ys = [] := List.eq_nil_of_length_eq_zero (by simpa using rb.len.symm)
        subst z
        exact h.here S (by simpa using dx)
    · exact h.elim
  · exact .inr (add_list S dx dy h)
def subD (x y : D) (G : DH) : R D :=
  match x, y with
  | .int i, .int j => .ok (.int (i - j)) G
  | _, _ => .stop
theorem op_subD : OpOk X E (binaryOp .Sub) subD := by
  refine ⟨_, op_sub, fun W x y v w Q hK S dx dy h => ?_⟩
  unfold subD at h
  split at h
  · simp only [Den] at dx dy
    exact ⟨_, _, dx, dy, h.here S (by simp [Den])⟩
  · exact h.elim
def fdivD (x y : D) (G : DH) : R D :=
  match x, y with
  | .int i, .int j => if 0 < j ∧ j.natAbs.log2 < 9000 then .ok (.int (i / j)) G else .stop
  | _, _ => .stop
theorem op_fdivD : OpOk X E (binaryOp .FloorDiv) fdivD := by
  refine ⟨_, op_fdivW, fun W x y v w Q hK S dx dy h => ?_⟩
  unfold fdivD at h
  split at h
  · simp only [Den] at dx dy
    split at h
    · rename_i c
      exact ⟨_, _, dx, dy, c, h.here S (by simp [Den])⟩
    · exact h.elim
  · exact h.elim
def modD (x y : D) (G : DH) : R D :=
  match x, y with
  | .int i, .int j => if 0 < j then .ok (.int (i % j)) G else .stop
  | _, _ => .stop
theorem op_modD : OpOk X E (binaryOp .Mod) modD := by
  refine ⟨_, op_mod, fun W x y v w Q hK S dx dy h => ?_⟩
  unfold modD at h
  split at h
  · simp only [Den] at dx dy
    split at h
    · rename_i c
      exact ⟨_, _, dx, dy, c, h.here S (by simp [Den])⟩
    · exact h.elim
  · exact h.elim
def powD (x y : D) (G : DH) : R D :=
  match x, y with
  | .int i, .int j => if 0 ≤ j ∧ j ≤ 1000000 ∧ i.natAbs < 18446744073709551616 then .ok (.int (i ^ j.toNat)) G else .stop
  | _, _ => .stop
theorem op_powD : OpOk X E (binaryOp .Pow) powD := by
  refine ⟨_, op_pow, fun W x y v w Q hK S dx dy h => ?_⟩
  unfold powD at h
  split at h
  · simp only [Den] at dx dy
    split at h
    · rename_i c
      exact ⟨_, _, dx, dy, c, h.here S (by simp [Den])⟩
    · exact h.elim
  · exact h.elim
/-- a text k times -/
def repS (x : Str) (k : Nat) : Str := ⟨(List.replicate k x.cps.toList).flatten.toArray⟩
theorem repS_fold (x : Str) : ∀ (k : Nat) (acc : List Nat), (List.replicate k x.cps).foldl (· ++ ·) acc.toArray = (acc ++ (List.replicate k x.cps.toList).flatten).toArray
  | 0, acc => by simp
  | k + 1, acc => by
    have e : acc.toArray ++ x.cps = (acc ++ x.cps.toList).toArray := by
      apply Array.ext'
      simp
    rw [List.replicate_succ, List.foldl_cons, e, repS_fold x k, List.replicate_succ, List.flatten_cons, List.append_assoc]
theorem repS_eq (x : Str) (k : Nat) : (⟨(List.replicate k x.cps).foldl (· ++ ·) #[]⟩ : Str) = repS x k := by
  have := repS_fold x k []
  simp only [List.nil_append] at this
  unfold repS
  rw [← this]
theorem repS_one (x : Str) : repS x 1 = x := by
  unfold repS
  simp
theorem repS_length (x : Str) (k : Nat) : (repS x k).length = k * x.length := by
  unfold repS
  show (List.replicate k x.cps.toList).flatten.toArray.size = _
  simp [List.length_flatten, List.map_replicate, List.sum_replicate_nat]
  rfl
theorem op_mul_str : OpR X (binaryOp .Mult) (fun x y H Q => ∃ (a : Str) (i : Int), x = .str a ∧ y = .int i ∧ (-(2 ^ 31) ≤ i ∧ i ≤ 2 ^ 31 ∧ a.length * i.toNat ≤ sizeLine) ∧ Q (.str (repS a i.toNat)) H) := by
  intro pins s σ H x y v u Q I rx ry h
  obtain ⟨a, i, rfl, rfl, ⟨h1, h2, h3⟩, q⟩ := h
  obtain ⟨t, rfl⟩ := rx
  obtain ⟨t', rfl⟩ := ry
  have hl : Builtin.Str.tooLong (a.length * i.toNat) = false := by
    unfold Builtin.Str.tooLong
    exact decide_eq_false (by omega)
  refine P.mul_str (by
    rw [decide_eq_false (by omega), decide_eq_false (by omega)]; rfl) (fun c _ z => ?_) (fun _ _ => hl) ?_
  · have c1 : (1 : Int) ≤ i := by omega
    have z1 : a.length ≤ sizeLine := Nat.le_trans (Nat.le_mul_of_pos_right _ (by omega)) h3
    have z2 : (sizeLine : Int) = 16777216 := by decide
    have z3 : ((2 ^ 63 - 1) / (2 ^ 31) : Int) ≤ (2 ^ 63 - 1) / i := by
      refine Int.le_ediv_of_mul_le (by omega) ?_
      have z4 : ((2 ^ 63 - 1) / (2 ^ 31) : Int) = 4294967295 := by decide
      rw [z4]
      omega
    have z5 : ((2 ^ 63 - 1) / (2 ^ 31) : Int) = 4294967295 := by decide
    omega
  · by_cases c : i < 1
    · rw [if_pos c]
      have e : repS a i.toNat = Str.empty := by
        rw [show i.toNat = 0 by omega]; rfl
      rw [e] at q
      exact ⟨by decide, .str Str.empty, H, I.tok _, ⟨_, rfl⟩, q⟩
    · rw [if_neg c]
      by_cases c2 : (i == 1 || a.length == 0) = true
      · rw [if_pos c2]
        have e : repS a i.toNat = a := by
          rcases Bool.or_eq_true_iff.mp c2 with z | z
          · have : i = 1 := by simpa using z
            subst this
            exact repS_one a
          · have z' : a.length = 0 := by simpa using z
            have : a = Str.empty := by
              obtain ⟨cs⟩ := a
              have : cs = #[] := Array.eq_empty_of_size_eq_zero z'
              subst this; rfl
            subst this
            unfold repS Str.empty
            simp
        rw [e] at q
        exact ⟨.str a, H, I, ⟨_, rfl⟩, q⟩
      · rw [if_neg c2, repS_eq]
        refine ⟨?_, .str _, H, I.tok _, ⟨_, rfl⟩, q⟩
        rw [repS_length, Nat.mul_comm]
        exact h3
/-- two ints that may be multiplied: one of them is short, or both are not too long -/
def mulOk (i j : Int) : Prop := i.natAbs < 18446744073709551616 ∨ j.natAbs < 18446744073709551616 ∨ i.natAbs.log2 + j.natAbs.log2 < 1000000
instance (i j : Int) : Decidable (mulOk i j) := inferInstanceAs (Decidable (_ ∨ _ ∨ _))
theorem short_bits {i : Int} (h : i.natAbs < 18446744073709551616) : Builtin.Int.intBits i ≤ 64 := by
  have l : i.natAbs.log2 < 64 := PySem.Flt.log2_lt_of (by decide) h
  unfold Builtin.Int.intBits
  split <;> omega
theorem mulOk.ok {i j : Int} (h : mulOk i j) : IntMulOk i j := by
  rcases h with h | h | h
  · exact .of_left (short_bits h)
  · exact .of_right (short_bits h)
  · exact CMulW.ok h
theorem op_mulI : OpR X (binaryOp .Mult) (rI mulOk fun i j => .int (i * j)) := opI fun _ _ _ _ _ _ _ hc q => mul_int q hc.ok
theorem two31 : (2 : Int) ^ 31 = 2147483648 := by decide +kernel
theorem two63 : (2 : Int) ^ 63 = 9223372036854775808 := by decide +kernel
theorem two64 : (2 : Nat) ^ 64 = 18446744073709551616 := by decide +kernel
/-- * : ints, a text or a list times an int -/
def mulD (o : Bool) (x y : D) (G : DH) : R D :=
  match x, y with
  | .int i, .int j => if mulOk i j then .ok (.int (i * j)) G else .stop
  | .str a, .int i => if -2147483648 ≤ i ∧ i ≤ 2147483648 ∧ a.length * i.toNat ≤ sizeLine then .ok (.str (repS a i.toNat)) G else .stop
  | x, .int i => match lstM G x with
    | some xs => if -9223372036854775808 ≤ i ∧ i < 9223372036854775808 ∧ xs.length * i.toNat ≤ sizeLine then mkL o (List.replicate i.toNat xs).flatten G else .stop
    | none => .stop
  | _, _ => .stop
theorem op_mulD (o : Bool) : OpOk X E (binaryOp .Mult) (mulD o) := by
  refine ⟨_, (op_mulI.or op_mul_str).or op_rep, fun W x y v w Q hK S dx dy h => ?_⟩
  unfold mulD at h
  split at h
  · simp only [Den] at dx dy
    split at h
    · rename_i c
      exact .inl (.inl ⟨_, _, dx, dy, c, h.here S (by simp [Den])⟩)
    · exact h.elim
  · simp only [Den] at dx dy
    split at h
    · rename_i c
      rw [← two31] at c
      exact .inl (.inr ⟨_, _, dx, dy, c, h.here S (by simp [Den])⟩)
    · exact h.elim
  · rename_i i _ _
    simp only [Den] at dy
    split at h
    · rename_i xs e
      split at h
      · rename_i c
        rw [← two63] at c
        obtain ⟨a, vs, rfl, ha, ra⟩ := lstM_den S dx e
        exact .inr ⟨a, i, vs, rfl, dy, ha, c.1, c.2.1, by rw [ra.len]; exact c.2.2, fin_mkL S h (ra.rep _)⟩
      · exact h.elim
    · exact h.elim
  · exact h.elim
def negD (x : D) (G : DH) : R D :=
  match x with
  | .int i => .ok (.int (-i)) G
  | _ => .stop
def dUn (F : D → DH → R D) (a : DE) : DE := fun s G => (a s G).bind F
theorem de_neg {a : Expr} {fa : DE} {pos : Pos} (ha : DEOk X E a fa) : DEOk X E (.UnaryOp .USub a pos) (dUn negD fa) := by
  obtain ⟨ta, pa, qa⟩ := ha.out
  refine ⟨_, pe_un un_neg pa, fun W σ s Q hK S L h => ?_⟩
  refine qa W σ s _ hK S L (h.seq fun x v W1 x1 S1 d1 h1 => ?_)
  unfold negD at h1
  split at h1
  · simp only [Den] at d1
    exact ⟨_, d1, h1.here S1 (by simp [Den])⟩
  · exact h1.elim

/-! ### order of ints and texts -/
def ltS (a b : Str) : Bool := decide (a.cps.toList < b.cps.toList)
def ltD (x y : D) (G : DH) : R D :=
  match x, y with
  | .int i, .int j => .ok (.bl (decide (i < j))) G
  | .str a, .str b => .ok (.bl (ltS a b)) G
  | _, _ => .stop
def leD (x y : D) (G : DH) : R D :=
  match x, y with
  | .int i, .int j => .ok (.bl (decide (i ≤ j))) G
  | .str a, .str b => .ok (.bl (!ltS b a)) G
  | _, _ => .stop
def gtD (x y : D) (G : DH) : R D :=
  match x, y with
  | .int i, .int j => .ok (.bl (decide (j < i))) G
  | .str a, .str b => .ok (.bl (ltS b a)) G
  | _, _ => .stop
def geD (x y : D) (G : DH) : R D :=
  match x, y with
  | .int i, .int j => .ok (.bl (decide (j ≤ i))) G
  | .str a, .str b => .ok (.bl (!ltS a b)) G
  | _, _ => .stop
theorem op_ltD : OpOk X E (compareOp .Lt) ltD := by
  refine ⟨_, op_lt.or op_lt_str, fun W x y v w Q hK S dx dy h => ?_⟩
  unfold ltD at h
  split at h
  · simp only [Den] at dx dy
    exact .inl ⟨_, _, dx, dy, h.here S (by simp [Den])⟩
  · simp only [Den] at dx dy
    exact .inr ⟨_, _, dx, dy, h.here S (by simp [Den, ltS])⟩
  · exact h.elim
theorem op_leD : OpOk X E (compareOp .LtE) leD := by
  refine ⟨_, op_le.or op_le_str, fun W x y v w Q hK S dx dy h => ?_⟩
  unfold leD at h
  split at h
  · simp only [Den] at dx dy
    exact .inl ⟨_, _, dx, dy, h.here S (by simp [Den])⟩
  · simp only [Den] at dx dy
    exact .inr ⟨_, _, dx, dy, h.here S (by simp [Den, ltS])⟩
  · exact h.elim
theorem op_gtD : OpOk X E (compareOp .Gt) gtD := by
  refine ⟨_, op_gt.or op_gt_str, fun W x y v w Q hK S dx dy h => ?_⟩
  unfold gtD at h
  split at h
  · simp only [Den] at dx dy
    exact .inl ⟨_, _, dx, dy, h.here S (by simp [Den])⟩
  · simp only [Den] at dx dy
    exact .inr ⟨_, _, dx, dy, h.here S (by simp [Den, ltS])⟩
  · exact h.elim
theorem op_geD : OpOk X E (compareOp .GtE) geD := by
  refine ⟨_, op_ge.or op_ge_str, fun W x y v w Q hK S dx dy h => ?_⟩
  unfold geD at h
  split at h
  · simp only [Den] at dx dy
    exact .inl ⟨_, _, dx, dy, h.here S (by simp [Den])⟩
  · simp only [Den] at dx dy
    exact .inr ⟨_, _, dx, dy, h.here S (by simp [Den, ltS])⟩
  · exact h.elim
/-- is None -/
def isNon : D → Bool
  | .non => true
  | _ => false
theorem isNon_den {W : Wd} {x : D} {v : V} (h : Den W x v) : decide (v = .non) = isNon x := by
  cases x <;> simp only [Den] at h <;> first
    | (subst h; simp [isNon])
    | (obtain ⟨a, vs, rfl, _⟩ := h; simp [isNon])
    | (obtain ⟨a, _, rfl⟩ := h; simp [isNon])
def isD (x y : D) (G : DH) : R D :=
  match y with
  | .non => .ok (.bl (isNon x)) G
  | _ => .stop
def isnotD (x y : D) (G : DH) : R D :=
  match y with
  | .non => .ok (.bl (!isNon x)) G
  | _ => .stop
theorem op_isD : OpOk X E (compareOp .Is) isD := by
  refine ⟨_, op_isN, fun W x y v w Q hK S dx dy h => ?_⟩
  unfold isD at h
  split at h
  · simp only [Den] at dy
    exact ⟨dy, h.here S (by simp [Den, isNon_den dx])⟩
  · exact h.elim
theorem op_isnotD : OpOk X E (compareOp .IsNot) isnotD := by
  refine ⟨_, op_notN, fun W x y v w Q hK S dx dy h => ?_⟩
  unfold isnotD at h
  split at h
  · simp only [Den] at dy
    exact ⟨dy, h.here S (by simp [Den, isNon_den dx])⟩
  · exact h.elim

/-! ### truth, and, or, not, if -/
def truD (G : DH) : D → Option Bool
  | .non => some false
  | .bl b => some b
  | .int i => some (i != 0)
  | .str x => if x.length ≤ sizeLine then some ((x.length : Int) != 0) else none
  | .tup xs => some (!xs.isEmpty)
  | .ktup xs => some (!xs.isEmpty)
  | x => (lstOf G x).map fun xs => !xs.isEmpty
theorem truD_den {W : Wd} {x : D} {v : V} {k : Bool} (S : Sim W) (h : Den W x v) (e : truD W.G x = some k) : TruV W.K v W.H k := by
  have viaL : ∀ {x : D}, Den W x v → (lstOf W.G x).map (fun xs => !xs.isEmpty) = some k → TruV W.K v W.H k := fun {x} h e => by
    cases q : lstOf W.G x with
    | none => rw [q] at e; cases e
    | some xs =>
      rw [q] at e
      obtain ⟨a, vs, rfl, h1, h2⟩ := lstOf_den S h q
      simp only [Option.map_some, Option.some.injEq] at e
      exact .inl ⟨vs, h1, by rw [h2.emp, e]⟩
  cases x with
  | non => simp only [Den] at h; subst h; simp only [truD, Option.some.injEq] at e; exact e.symm
  | bl b => simp only [Den] at h; subst h; simp only [truD, Option.some.injEq] at e; exact e.symm
  | int b => simp only [Den] at h; subst h; simp only [truD, Option.some.injEq] at e; exact e.symm
  | str b =>
    simp only [Den] at h; subst h
    simp only [truD] at e
    split at e
    · rename_i c; simp only [Option.some.injEq] at e; exact ⟨c, e.symm⟩
    · cases e
  | tup xs =>
    simp only [truD, Option.some.injEq] at e
    obtain ⟨a, vs, rfl, h1, h2⟩ := tup_den h
    exact .inr (.inl ⟨vs, h1, by rw [h2.emp, e]⟩)
  | ktup xs =>
    simp only [truD, Option.some.injEq] at e
    obtain ⟨a, vs, rfl, h1, h2⟩ := ktup_den h
    exact .inr (.inl ⟨vs, h1, by rw [h2.emp, e]⟩)
  | lst xs => exact viaL h e
  | frz xs => exact viaL h e
  | obj n => exact viaL h e
  | dK kvs => cases e
  | dT kvs => cases e
def dAnd (a b : DE) : DE := fun s G => (a s G).bind fun x G => match truD G x with
  | some true => b s G
  | some false => .ok x G
  | none => .stop
def dOr (a b : DE) : DE := fun s G => (a s G).bind fun x G => match truD G x with
  | some true => .ok x G
  | some false => b s G
  | none => .stop
def dNot (a : DE) : DE := fun s G => (a s G).bind fun x G => match truD G x with
  | some b => .ok (.bl (!b)) G
  | none => .stop
theorem de_one {op} {a : Expr} {fa : DE} {pos : Pos} (ha : DEOk X E a fa) : DEOk X E (.BoolOp op [a] pos) fa := by
  obtain ⟨ta, pa, qa⟩ := ha.out
  exact ⟨_, pe_one pa, qa⟩
theorem de_and {a b : Expr} {rest : List Expr} {fa fb : DE} {pos : Pos} (ha : DEOk X E a fa) (hb : DEOk X E (.BoolOp .And (b :: rest) pos) fb) : DEOk X E (.BoolOp .And (a :: b :: rest) pos) (dAnd fa fb) := by
  obtain ⟨ta, pa, qa⟩ := ha.out
  obtain ⟨tb, pb, qb⟩ := hb.out
  refine ⟨_, pe_andT pa pb, fun W σ s Q hK S L h => ?_⟩
  refine qa W σ s _ hK S L (h.seq fun x v W1 x1 S1 d1 h1 => ?_)
  split at h1
  · rename_i e
    exact ⟨true, by rw [← hK, ← x1.k]; exact truD_den S1 d1 e, by rw [if_pos rfl]; exact qb W1 σ s Q (x1.k.trans hK) S1 (L.mono x1) h1⟩
  · rename_i e
    exact ⟨false, by rw [← hK, ← x1.k]; exact truD_den S1 d1 e, by rw [if_neg Bool.false_ne_true]; exact h1.here S1 d1⟩
  · exact h1.elim
theorem de_or {a b : Expr} {rest : List Expr} {fa fb : DE} {pos : Pos} (ha : DEOk X E a fa) (hb : DEOk X E (.BoolOp .Or (b :: rest) pos) fb) : DEOk X E (.BoolOp .Or (a :: b :: rest) pos) (dOr fa fb) := by
  obtain ⟨ta, pa, qa⟩ := ha.out
  obtain ⟨tb, pb, qb⟩ := hb.out
  refine ⟨_, pe_orT pa pb, fun W σ s Q hK S L h => ?_⟩
  refine qa W σ s _ hK S L (h.seq fun x v W1 x1 S1 d1 h1 => ?_)
  split at h1
  · rename_i e
    exact ⟨true, by rw [← hK, ← x1.k]; exact truD_den S1 d1 e, by rw [if_pos rfl]; exact h1.here S1 d1⟩
  · rename_i e
    exact ⟨false, by rw [← hK, ← x1.k]; exact truD_den S1 d1 e, by rw [if_neg Bool.false_ne_true]; exact qb W1 σ s Q (x1.k.trans hK) S1 (L.mono x1) h1⟩
  · exact h1.elim
theorem de_not {a : Expr} {fa : DE} {pos : Pos} (ha : DEOk X E a fa) : DEOk X E (.UnaryOp .Not a pos) (dNot fa) := by
  obtain ⟨ta, pa, qa⟩ := ha.out
  refine ⟨_, pe_notT pa, fun W σ s Q hK S L h => ?_⟩
  refine qa W σ s _ hK S L (h.seq fun x v W1 x1 S1 d1 h1 => ?_)
  split at h1
  · rename_i b e
    exact ⟨b, by rw [← hK, ← x1.k]; exact truD_den S1 d1 e, h1.here S1 (by simp [Den])⟩
  · exact h1.elim
/-- tests -/
def dTru (a : DE) : DT := fun s G => (a s G).bind fun x G => match truD G x with
  | some b => .ok b G
  | none => .stop
theorem dt_tru {a : Expr} {fa : DE} (ha : DEOk X E a fa) (he : ∀ whole, isTrue a X.env whole = (do let v ← whole; standAt a.pos; holding [v] (truthy v)) := by intro _; rfl) : DTOk X E a (dTru fa) := by
  obtain ⟨ta, pa, qa⟩ := ha.out
  refine ⟨_, pt_truth pa he, fun W σ s Q hK S L h => ?_⟩
  refine qa W σ s _ hK S L (h.seq fun x v W1 x1 S1 d1 h1 => ?_)
  split at h1
  · rename_i b e
    exact ⟨b, by rw [← hK, ← x1.k]; exact truD_den S1 d1 e, h1.here S1 rfl⟩
  · exact h1.elim
def tAndD (a b : DT) : DT := fun s G => (a s G).bind fun c G => if c = true then b s G else .ok false G
def tOrD (a b : DT) : DT := fun s G => (a s G).bind fun c G => if c = true then .ok true G else b s G
def tNotD (a : DT) : DT := fun s G => (a s G).bind fun c G => .ok (!c) G
theorem dw_and1 {a : Expr} {fa : DT} {pos : Pos} (ha : DTOk X E a fa) : DWOk X E (.BoolOp .And [a] pos) fa := let ⟨t, p, q⟩ := ha.out; ⟨t, pw_and1 p, q⟩
theorem dw_or1 {a : Expr} {fa : DT} {pos : Pos} (ha : DTOk X E a fa) : DWOk X E (.BoolOp .Or [a] pos) fa := let ⟨t, p, q⟩ := ha.out; ⟨t, pw_or1 p, q⟩
theorem dw_and {a b : Expr} {rest : List Expr} {fa fb : DT} {pos : Pos} (ha : DTOk X E a fa) (hb : DWOk X E (.BoolOp .And (b :: rest) pos) fb) : DWOk X E (.BoolOp .And (a :: b :: rest) pos) (tAndD fa fb) := by
  obtain ⟨ta, pa, qa⟩ := ha.out
  obtain ⟨tb, pb, qb⟩ := hb.out
  refine ⟨_, pw_and pa pb, fun W σ s Q hK S L h => ?_⟩
  refine qa W σ s _ hK S L (h.seq fun x v W1 x1 S1 d1 h1 => ?_)
  obtain rfl : x = v := d1
  cases x with
  | true => rw [if_pos rfl] at h1 ⊢; exact qb W1 σ s Q (x1.k.trans hK) S1 (L.mono x1) h1
  | false => rw [if_neg Bool.false_ne_true] at h1 ⊢; exact Fin.here (RA := RB) S1 h1 rfl
theorem dw_or {a b : Expr} {rest : List Expr} {fa fb : DT} {pos : Pos} (ha : DTOk X E a fa) (hb : DWOk X E (.BoolOp .Or (b :: rest) pos) fb) : DWOk X E (.BoolOp .Or (a :: b :: rest) pos) (tOrD fa fb) := by
  obtain ⟨ta, pa, qa⟩ := ha.out
  obtain ⟨tb, pb, qb⟩ := hb.out
  refine ⟨_, pw_or pa pb, fun W σ s Q hK S L h => ?_⟩
  refine qa W σ s _ hK S L (h.seq fun x v W1 x1 S1 d1 h1 => ?_)
  obtain rfl : x = v := d1
  cases x with
  | true => rw [if_pos rfl] at h1 ⊢; exact Fin.here (RA := RB) S1 h1 rfl
  | false => rw [if_neg Bool.false_ne_true] at h1 ⊢; exact qb W1 σ s Q (x1.k.trans hK) S1 (L.mono x1) h1
theorem dt_not {a : Expr} {fa : DT} {pos : Pos} (ha : DTOk X E a fa) : DTOk X E (.UnaryOp .Not a pos) (tNotD fa) := by
  obtain ⟨ta, pa, qa⟩ := ha.out
  refine ⟨_, pt_not pa, fun W σ s Q hK S L h => ?_⟩
  refine qa W σ s _ hK S L (h.seq fun x v W1 x1 S1 d1 h1 => ?_)
  obtain rfl : x = v := d1
  exact Fin.here (RA := RB) S1 h1 rfl
def dIf (c : DT) (a b : DE) : DE := fun s G => (c s G).bind fun k G => if k = true then a s G else b s G
theorem de_if {c a b : Expr} {fc : DT} {fa fb : DE} {pos : Pos} (hc : DTOk X E c fc) (ha : DEOk X E a fa) (hb : DEOk X E b fb) : DEOk X E (.IfExp c a b pos) (dIf fc fa fb) := by
  obtain ⟨tc, pc, qc⟩ := hc.out
  obtain ⟨ta, pa, qa⟩ := ha.out
  obtain ⟨tb, pb, qb⟩ := hb.out
  refine ⟨_, pe_ifExp pc pa pb, fun W σ s Q hK S L h => ?_⟩
  refine qc W σ s _ hK S L (h.seq fun x v W1 x1 S1 d1 h1 => ?_)
  obtain rfl : x = v := d1
  cases x with
  | true => rw [if_pos rfl] at h1 ⊢; exact qa W1 σ s Q (x1.k.trans hK) S1 (L.mono x1) h1
  | false => rw [if_neg Bool.false_ne_true] at h1 ⊢; exact qb W1 σ s Q (x1.k.trans hK) S1 (L.mono x1) h1

/-! ### arguments, displays -/
def dNil : DA := fun _ G => .ok [] G
def dCons (a : DE) (r : DA) : DA := fun s G => (a s G).bind fun x G => (r s G).bind fun xs G => .ok (x :: xs) G
theorem da_nil : DAOk X E [] dNil := ⟨_, pa_nil, fun W σ s Q hK S L h => Fin.here (RA := DenL) S h (by simp [DenL])⟩
theorem da_cons {e : Expr} {es : List Expr} {f : DE} {g : DA} (ha : DEOk X E e f) (hr : DAOk X E es g) (hs : starEach (e :: es) X.env = (false, eval e X.env) :: starEach es X.env := by rfl) : DAOk X E (e :: es) (dCons f g) := by
  obtain ⟨ta, pa, qa⟩ := ha.out
  obtain ⟨tr, pr, qr⟩ := hr.out
  refine ⟨_, pa_cons pa pr hs, fun W σ s Q hK S L h => ?_⟩
  refine qa W σ s _ hK S L (h.seq fun x v W1 x1 S1 d1 h1 => ?_)
  refine qr W1 σ s _ (x1.k.trans hK) S1 (L.mono x1) (Fin.seq (RC := DenL) h1 fun xs vs W2 x2 S2 d2 h2 => ?_)
  refine Fin.here (RA := DenL) S2 h2 ?_
  simp only [DenL]
  exact ⟨v, vs, rfl, Den.mono x2 _ _ d1, d2⟩
def dTup (a : DA) : DE := fun s G => (a s G).bind fun xs G => if xs.length ≤ sizeLine then .ok (.tup xs) G else .stop
def dLst (o : Bool) (a : DA) : DE := fun s G => (a s G).bind fun xs G => if xs.length ≤ sizeLine then mkL o xs G else .stop
theorem de_tup {es : List Expr} {f : DA} {x1 : Nat} {pos : Pos} (ha : DAOk X E es f) : DEOk X E (.Tuple es x1 pos) (dTup f) := by
  obtain ⟨ta, pa, qa⟩ := ha.out
  refine ⟨_, pe_tup pa, fun W σ s Q hK S L h => ?_⟩
  refine qa W σ s _ hK S L (Fin.seq (RC := Den) h fun xs vs W1 x1 S1 d1 h1 => ?_)
  split at h1
  · rename_i c
    exact ⟨by rw [d1.len]; exact c, fin_tup S1 h1 d1⟩
  · exact h1.elim
theorem de_lst (o : Bool) {es : List Expr} {f : DA} {pos : Pos} (ha : DAOk X E es f) : DEOk X E (.List es pos) (dLst o f) := by
  obtain ⟨ta, pa, qa⟩ := ha.out
  refine ⟨_, pe_lst pa, fun W σ s Q hK S L h => ?_⟩
  refine qa W σ s _ hK S L (Fin.seq (RC := Den) h fun xs vs W1 x1 S1 d1 h1 => ?_)
  split at h1
  · rename_i c
    exact ⟨by rw [d1.len]; exact c, fin_mkL S1 h1 d1⟩
  · exact h1.elim

/-! ### subscripts, slices -/
def ixD (x y : D) (G : DH) : R D :=
  match x, y with
  | .str z, .int i => if z.length ≤ sizeLine then (match atI z.cps.toList i with | some c => .ok (.str ⟨#[c]⟩) G | none => .stop) else .stop
  | x, .int i => match seqOf G x with
    | some xs => (match atI xs i with | some d => .ok d G | none => .stop)
    | none => .stop
  | _, _ => .stop
theorem atI_den {W : Wd} {xs : List D} {vs : List V} {i : Int} {d : D} (r : DenL W xs vs) (e : atI xs i = some d) : ∃ v, atI vs i = some v ∧ Den W d v := by
  unfold atI at e ⊢
  rw [r.len]
  cases q : ixN xs.length i with
  | none => rw [q] at e; cases e
  | some j =>
    rw [q] at e
    exact r.at e
theorem ix_D : ∃ r : R2, IxR X r ∧ ∀ (W : Wd) (x y : D) (v w : V) (Q : VK), W.K = X.K → Sim W → Den W x v → Den W y w → Fin Den W E (ixD x y W.G) Q → r v w W.H Q := by
  refine ⟨_, ix_seq, fun W x y v w Q hK S dx dy h => ?_⟩
  have viaL : ∀ {x : D} {i : Int}, Den W x v → w = .int i → Fin Den W E (match lstOf W.G x with | some xs => (match atI xs i with | some d => R.ok d W.G | none => .stop) | none => .stop) Q → rIx X.K v w W.H Q := fun {x i} dx dy h => by
    cases q : lstOf W.G x with
    | none => rw [q] at h; exact h.elim
    | some xs =>
      rw [q] at h
      obtain ⟨a, vs, rfl, h1, h2⟩ := lstOf_den S dx q
      cases e : atI xs i with
      | none => simp only [e] at h; exact h.elim
      | some d =>
        simp only [e] at h
        obtain ⟨u, e1, e2⟩ := atI_den h2 e
        exact .inl ⟨a, vs, i, u, rfl, dy, by rw [← hK]; exact h1, e1, h.here S e2⟩
  unfold ixD at h
  split at h
  · simp only [Den] at dx dy
    split at h
    · rename_i c
      split at h
      · rename_i e
        exact .inr (.inr ⟨_, _, _, dx, dy, c, e, h.here S (by simp [Den])⟩)
      · exact h.elim
    · exact h.elim
  · rename_i i _
    simp only [Den] at dy
    cases x with
    | tup xs =>
      simp only [seqOf] at h
      obtain ⟨a, vs, rfl, h1, h2⟩ := tup_den dx
      split at h
      · rename_i e
        obtain ⟨u, e1, e2⟩ := atI_den h2 e
        exact .inr (.inl ⟨a, vs, i, u, rfl, dy, by rw [← hK]; exact h1, e1, h.here S e2⟩)
      · exact h.elim
    | ktup xs =>
      simp only [seqOf] at h
      obtain ⟨a, vs, rfl, h1, h2⟩ := ktup_den dx
      split at h
      · rename_i e
        obtain ⟨u, e1, e2⟩ := atI_den h2 e
        exact .inr (.inl ⟨a, vs, i, u, rfl, dy, by rw [← hK]; exact h1, e1, h.here S e2⟩)
      · exact h.elim
    | lst xs => exact viaL dx dy h
    | frz xs => exact viaL dx dy h
    | obj n => exact viaL dx dy h
    | _ => exact h.elim
  · exact h.elim
theorem de_ix {a b : Expr} {fa fb : DE} {pos : Pos} (ha : DEOk X E a fa) (hb : DEOk X E b fb) (hs : PlainIx b := by intro _ _; rfl) : DEOk X E (.Subscript a b pos) (dBin ixD fa fb) := by
  obtain ⟨r, hr, qr⟩ := ix_D (X := X) (E := E)
  obtain ⟨ta, pa, qa⟩ := ha.out
  obtain ⟨tb, pb, qb⟩ := hb.out
  exact ⟨_, pe_ix hr pa pb hs, bin_out qa qb qr⟩
abbrev DO_ := DSl → DH → R (Option Int)
abbrev RO : Wd → Option Int → Option Int → Prop := fun _ a b => a = b
structure DPOk (X : Cx) (E : XK) (e : Option Expr) (f : DO_) : Prop where
  out : ∃ t : TO, PO X e t ∧ ∀ (W : Wd) (σ : L2.St) (s : DSl) (Q : Option Int → Hp → Prop), W.K = X.K → Sim W → Sl W σ s → Fin RO W E (f s W.G) Q → t σ W.H Q
def dNoP : DO_ := fun _ G => .ok none G
def dP (a : DE) : DO_ := fun s G => (a s G).bind fun x G => match x with
  | .int i => .ok (some i) G
  | _ => .stop
theorem dp_none : DPOk X E none dNoP := ⟨_, po_none, fun W σ s Q hK S L h => Fin.here (RA := RO) S h rfl⟩
theorem dp_some {e : Expr} {f : DE} (ha : DEOk X E e f) : DPOk X E (some e) (dP f) := by
  obtain ⟨ta, pa, qa⟩ := ha.out
  refine ⟨_, po_some pa, fun W σ s Q hK S L h => ?_⟩
  refine qa W σ s _ hK S L (Fin.seq (RC := RO) h fun x v W1 x1 S1 d1 h1 => ?_)
  split at h1
  · simp only [Den] at d1
    exact ⟨_, d1, Fin.here (RA := RO) S1 h1 rfl⟩
  · exact h1.elim
def cutD {α : Type} (xs : List α) (lo hi : Option Int) : List α := (xs.drop (HT.sIx xs.length 0 lo)).take (HT.sIx xs.length xs.length hi - HT.sIx xs.length 0 lo)
def slD (o : Bool) (x : D) (lo hi : Option Int) (G : DH) : R D :=
  match x with
  | .str z => if z.length ≤ sizeLine then .ok (.str (cutS z lo hi)) G else .stop
  | .tup xs => .ok (.tup (cutD xs lo hi)) G
  | x => match lstOf G x with
    | some xs => mkL o (cutD xs lo hi) G
    | none => .stop
theorem cut_den {W : Wd} {xs : List D} {vs : List V} (r : DenL W xs vs) (lo hi : Option Int) : DenL W (cutD xs lo hi) (cutV vs lo hi) := by
  unfold cutD cutV
  rw [r.len]
  exact (r.drop _).take _
def dSl (o : Bool) (a : DE) (l u : DO_) : DE := fun s G => (a s G).bind fun x G => (l s G).bind fun lo G => (u s G).bind fun hi G => slD o x lo hi G
theorem de_slice (o : Bool) {e : Expr} {lo hi : Option Expr} {fe : DE} {fl fh : DO_} {pos p2 : Pos} (he : DEOk X E e fe) (hl : DPOk X E lo fl) (hh : DPOk X E hi fh) : DEOk X E (.Subscript e (.Slice lo hi none p2) pos) (dSl o fe fl fh) := by
  obtain ⟨te, pe, qe⟩ := he.out
  obtain ⟨tl, pl, ql⟩ := hl.out
  obtain ⟨th, ph, qh⟩ := hh.out
  refine ⟨_, pe_slice ((sl_str.or sl_tupA).or sl_list) pe pl ph, fun W σ s Q hK S L h => ?_⟩
  refine qe W σ s _ hK S L (h.seq fun x v W1 x1 S1 d1 h1 => ?_)
  refine ql W1 σ s _ (x1.k.trans hK) S1 (L.mono x1) (Fin.seq (RC := Den) h1 fun l l' W2 x2 S2 d2 h2 => ?_)
  obtain rfl : l = l' := d2
  refine qh W2 σ s _ (x2.k.trans (x1.k.trans hK)) S2 ((L.mono x1).mono x2) (Fin.seq (RC := Den) h2 fun u u' W3 x3 S3 d3 h3 => ?_)
  obtain rfl : u = u' := d3
  have hK3 : W3.K = X.K := x3.k.trans (x2.k.trans (x1.k.trans hK))
  have d := Den.mono (x2.trans x3) _ _ d1
  have viaL : ∀ {x : D}, Den W3 x v → Fin Den W3 E (match lstOf W3.G x with | some xs => mkL o (cutD xs l u) W3.G | none => .stop) Q → rSlL X.K v l u W3.H Q := fun {x} dx h => by
    cases q : lstOf W3.G x with
    | none => rw [q] at h; exact h.elim
    | some xs =>
      rw [q] at h
      obtain ⟨a, vs, rfl, e1, e2⟩ := lstOf_den S3 dx q
      exact ⟨a, vs, rfl, by rw [← hK3]; exact e1, fin_mkL S3 h (cut_den e2 _ _)⟩
  unfold slD at h3
  cases x with
  | str z =>
    simp only [Den] at d
    simp only at h3
    split at h3
    · rename_i c
      exact .inl (.inl ⟨z, d, c, h3.here S3 (by simp [Den])⟩)
    · exact h3.elim
  | tup xs =>
    obtain ⟨a, vs, rfl, e1, e2⟩ := tup_den d
    refine .inl (.inr ⟨a, vs, rfl, by rw [← hK3]; exact e1, fun c => ?_, fun _ => fin_tup S3 h3 (cut_den e2 _ _)⟩)
    refine h3.here S3 ?_
    have z : cutD xs l u = xs := by
      rw [e2.len] at c
      unfold cutD
      rw [c.1, c.2]
      simp
    rw [z]
    exact d
  | lst xs => exact .inr (viaL d h3)
  | frz xs => exact .inr (viaL d h3)
  | obj n => exact .inr (viaL d h3)
  | _ => exact h3.elim
end
end DL
end
/-! ==== DStmt ==== -/
section
set_option Elab.async false
set_option linter.all false
set_option autoImplicit false
set_option maxRecDepth 100000
set_option maxHeartbeats 4000000
/-! DL: statements, targets, what is walked, loops. -/
namespace DL
open PySem PySem.Spec PyProof.Rows L2

inductive Out where
  | nx
  | rt (d : D)
  | bk
  | ct
abbrev DS := DSl → DH → R (Out × DSl)

/-- what is wanted behind a statement -/
def SFin (W : Wd) (E : XK) (r : R (Out × DSl)) (D : Ends) : Prop :=
  match r with
  | .ok (.nx, s) G => ∀ (σ : L2.St) (W' : Wd), Ext W W' → Sim W' → W'.G = G → Sl W' σ s → D.nx σ W'.H
  | .ok (.rt d, _) G => ∀ (v : V) (W' : Wd), Ext W W' → Sim W' → W'.G = G → Den W' d v → D.rt v W'.H
  | .ok (.bk, s) G => ∀ (σ : L2.St) (W' : Wd), Ext W W' → Sim W' → W'.G = G → Sl W' σ s → D.bk σ W'.H
  | .ok (.ct, s) G => ∀ (σ : L2.St) (W' : Wd), Ext W W' → Sim W' → W'.G = G → Sl W' σ s → D.ct σ W'.H
  | .ex e G => ∀ (c : Value) (od : Option Addr) (W' : Wd), Ext W W' → Sim W' → W'.G = G → DenX W' e c od → E c od W'.H
  | .stop => False
section
variable {α β : Type} {RA : Wd → α → β → Prop} {W : Wd} {E : XK} {D : Ends}
theorem SFin.mono {W0 : Wd} (x : Ext W0 W) {r : R (Out × DSl)} (h : SFin W0 E r D) : SFin W E r D := by
  cases r with
  | ok a G =>
    obtain ⟨o, s⟩ := a
    cases o with
    | nx => exact fun σ W' y S e q => h σ W' (x.trans y) S e q
    | rt d => exact fun σ W' y S e q => h σ W' (x.trans y) S e q
    | bk => exact fun σ W' y S e q => h σ W' (x.trans y) S e q
    | ct => exact fun σ W' y S e q => h σ W' (x.trans y) S e q
  | ex e G => exact fun c od W' y S e q => h c od W' (x.trans y) S e q
  | stop => exact h
/-- an expression first -/
theorem SFin.seq {r : R α} {k : α → DH → R (Out × DSl)} {Q' : β → Hp → Prop} (h : SFin W E (r.bind k) D)
    (hk : ∀ a b W', Ext W W' → Sim W' → RA W' a b → SFin W' E (k a W'.G) D → Q' b W'.H) : Fin RA W E r Q' := by
  cases r with
  | ok a G => exact fun b W' x S e q => hk a b W' x S q (by subst e; exact SFin.mono x h)
  | ex e G => exact h
  | stop => exact h
/-- a statement first -/
def sBind (r : R (Out × DSl)) (k : DSl → DH → R (Out × DSl)) : R (Out × DSl) :=
  match r with
  | .ok (.nx, s) G => k s G
  | r => r
theorem SFin.then {r : R (Out × DSl)} {k : DSl → DH → R (Out × DSl)} (h : SFin W E (sBind r k) D) {n : L2.St → Hp → Prop}
    (hk : ∀ s σ W', Ext W W' → Sim W' → Sl W' σ s → SFin W' E (k s W'.G) D → n σ W'.H) : SFin W E r { D with nx := n } := by
  cases r with
  | ok a G =>
    obtain ⟨o, s⟩ := a
    cases o with
    | nx => exact fun σ W' x S e q => hk s σ W' x S q (by subst e; exact SFin.mono x h)
    | rt d => exact h
    | bk => exact h
    | ct => exact h
  | ex e G => exact h
  | stop => exact h
end

structure DSOk (X : Cx) (E : XK) (st : Stmt) (f : DS) : Prop where
  out : ∃ t : TS, PS X st t ∧ ∀ (W : Wd) (σ : L2.St) (s : DSl) (D : Ends), W.K = X.K → Sim W → Sl W σ s → SFin W E (f s W.G) D → t D σ W.H
structure DSsOk (X : Cx) (E : XK) (st : List Stmt) (f : DS) : Prop where
  out : ∃ t : TS, PSs X st t ∧ ∀ (W : Wd) (σ : L2.St) (s : DSl) (D : Ends), W.K = X.K → Sim W → Sl W σ s → SFin W E (f s W.G) D → t D σ W.H
section
variable {X : Cx} {E : XK}

theorem DenL.uno {W : Wd} {d : D} {vs : List V} (h : DenL W [d] vs) : ∃ v, vs = [v] ∧ Den W d v := by
  simp only [DenL] at h
  obtain ⟨v, _, rfl, h1, rfl⟩ := h
  exact ⟨v, rfl, h1⟩
theorem DenL.two {W : Wd} {d e : D} {vs : List V} (h : DenL W [d, e] vs) : ∃ v w, vs = [v, w] ∧ Den W d v ∧ Den W e w := by
  simp only [DenL] at h
  obtain ⟨v, _, rfl, h1, w, _, rfl, h2, rfl⟩ := h
  exact ⟨v, w, rfl, h1, h2⟩
def sPass : DS := fun s G => .ok (.nx, s) G
def sSeq (f g : DS) : DS := fun s G => sBind (f s G) g
theorem dss_nil : DSsOk X E [] sPass := ⟨_, pss_nil, fun W σ s D hK S L h => h σ W (Ext.refl W) S rfl L⟩
theorem dss_cons {st : Stmt} {rest : List Stmt} {f g : DS} (h1 : DSOk X E st f) (h2 : DSsOk X E rest g) : DSsOk X E (st :: rest) (sSeq f g) := by
  obtain ⟨t, p, q⟩ := h1.out
  obtain ⟨t', p', q'⟩ := h2.out
  refine ⟨_, pss_cons p p', fun W σ s D hK S L h => ?_⟩
  exact q W σ s _ hK S L (SFin.then h fun s' σ' W' x S' L' h' => q' W' σ' s' D (x.k.trans hK) S' L' h')
theorem dss_one {st : Stmt} {f : DS} (h1 : DSOk X E st f) : DSsOk X E [st] f := let ⟨t, p, q⟩ := h1.out; ⟨t, pss_one p, q⟩
theorem ds_pass {pos : Pos} : DSOk X E (.Pass pos) sPass := ⟨_, ps_pass, fun W σ s D hK S L h => h σ W (Ext.refl W) S rfl L⟩
def sBreak : DS := fun s G => .ok (.bk, s) G
def sCont : DS := fun s G => .ok (.ct, s) G
theorem ds_break {pos : Pos} : DSOk X E (.Break pos) sBreak := ⟨_, ps_break, fun W σ s D hK S L h => h σ W (Ext.refl W) S rfl L⟩
theorem ds_cont {pos : Pos} : DSOk X E (.Continue pos) sCont := ⟨_, ps_continue, fun W σ s D hK S L h => h σ W (Ext.refl W) S rfl L⟩
theorem ds_doc {x j pos pos'} : DSOk X E (.Expr (.Constant (.str x) j pos) pos') sPass := ⟨_, ps_doc, fun W σ s D hK S L h => h σ W (Ext.refl W) S rfl L⟩
def sDrop (f : DE) : DS := fun s G => (f s G).bind fun _ G => .ok (.nx, s) G
theorem ds_expr {e : Expr} {f : DE} {pos : Pos} (he : DEOk X E e f) (hs : swapsWith e none pos.line X.env = pure false := by rfl) : DSOk X E (.Expr e pos) (sDrop f) := by
  obtain ⟨t, p, q⟩ := he.out
  refine ⟨_, ps_expr p hs, fun W σ s D hK S L h => ?_⟩
  exact q W σ s _ hK S L (SFin.seq h fun d v W' x S' r h' => h' σ W' (Ext.refl W') S' rfl (L.mono x))
def sRet (f : DE) : DS := fun s G => (f s G).bind fun d G => .ok (.rt d, s) G
theorem ds_ret {e : Expr} {f : DE} {pos : Pos} (he : DEOk X E e f) : DSOk X E (.Return (some e) pos) (sRet f) := by
  obtain ⟨t, p, q⟩ := he.out
  refine ⟨_, ps_ret p, fun W σ s D hK S L h => ?_⟩
  exact q W σ s _ hK S L (SFin.seq h fun d v W' x S' r h' => h' v W' (Ext.refl W') S' rfl r)
def sRetN : DS := fun s G => .ok (.rt .non, s) G
theorem ds_retN {pos : Pos} : DSOk X E (.Return none pos) sRetN := ⟨_, ps_retN, fun W σ s D hK S L h => h .non W (Ext.refl W) S rfl (by simp [Den])⟩
def sIf (c : DT) (a b : DS) : DS := fun s G => (c s G).bind fun k G => if k = true then a s G else b s G
theorem ds_if {c : Expr} {a b : List Stmt} {fc : DT} {fa fb : DS} {pos : Pos} (hc : DTOk X E c fc) (ha : DSsOk X E a fa) (hb : DSsOk X E b fb) : DSOk X E (.If c a b pos) (sIf fc fa fb) := by
  obtain ⟨tc, pc, qc⟩ := hc.out
  obtain ⟨ta, pa, qa⟩ := ha.out
  obtain ⟨tb, pb, qb⟩ := hb.out
  refine ⟨_, ps_if pc pa pb, fun W σ s D hK S L h => ?_⟩
  refine qc W σ s _ hK S L (SFin.seq h fun x v W1 x1 S1 d1 h1 => ?_)
  obtain rfl : x = v := d1
  cases x with
  | true => rw [if_pos rfl] at h1 ⊢; exact qa W1 σ s D (x1.k.trans hK) S1 (L.mono x1) h1
  | false => rw [if_neg Bool.false_ne_true] at h1 ⊢; exact qb W1 σ s D (x1.k.trans hK) S1 (L.mono x1) h1

/-! ### targets -/
abbrev DG := D → DSl → DH → R DSl
abbrev RSl : Wd → DSl → L2.St → Prop := fun W s σ => Sl W σ s
structure DGOk (X : Cx) (E : XK) (tg : Expr) (g : DG) : Prop where
  out : ∃ t : TG, PG X tg t ∧ ∀ (W : Wd) (σ : L2.St) (s : DSl) (d : D) (v : V) (Q : L2.St → Hp → Prop), W.K = X.K → Sim W → Sl W σ s → Den W d v → Fin RSl W E (g d s W.G) Q → t v σ W.H Q
def gNm (i : Nat) : DG := fun d s G => .ok (s.set i (some d)) G
theorem dg_name (i : Nat) {x : Str} {pos : Pos} (hN : X.N.Nodup) (hi : X.N[i]? = some x := by rfl) (hx : Loc X.env.scope x := by first | exact Or.inl rfl | exact Or.inr rfl)
    (hf : X.fn x = true ∨ X.env.scope.names.lookup x = some .local := by first | exact .inl rfl | exact .inr rfl | assumption) : DGOk X E (.Name x pos) (gNm i) :=
  ⟨_, pg_name hN hi hx hf, fun W σ s d v Q hK S L r h => Fin.here (RA := RSl) S h (L.set r)⟩
abbrev DGs := List D → DSl → DH → R DSl
structure DGsOk (X : Cx) (E : XK) (tgs : List Expr) (g : DGs) : Prop where
  out : ∃ t : TGs, PGs X tgs t ∧ ∀ (W : Wd) (σ : L2.St) (s : DSl) (ds : List D) (vs : List V) (Q : L2.St → Hp → Prop), W.K = X.K → Sim W → Sl W σ s → DenL W ds vs → Fin RSl W E (g ds s W.G) Q → t vs σ W.H Q
def gNil : DGs := fun ds s G => match ds with
  | [] => .ok s G
  | _ => .stop
def gCons (g : DG) (r : DGs) : DGs := fun ds s G => match ds with
  | d :: ds => (g d s G).bind fun s G => r ds s G
  | [] => .stop
theorem dgs_nil : DGsOk X E [] gNil := by
  refine ⟨_, pgs_nil, fun W σ s ds vs Q hK S L r h => ?_⟩
  cases ds with
  | nil => exact ⟨by simpa [DenL] using r, Fin.here (RA := RSl) S h L⟩
  | cons d ds => exact h.elim
theorem dgs_cons {e : Expr} {es : List Expr} {g : DG} {gs : DGs} (h1 : DGOk X E e g) (h2 : DGsOk X E es gs)
    (hs : (assignEach (e :: es) X.env).map (·.2) = assign e X.env :: (assignEach es X.env).map (·.2) := by rfl) : DGsOk X E (e :: es) (gCons g gs) := by
  obtain ⟨t, p, q⟩ := h1.out
  obtain ⟨t', p', q'⟩ := h2.out
  refine ⟨_, pgs_cons p p' hs, fun W σ s ds vs Q hK S L r h => ?_⟩
  cases ds with
  | nil => exact h.elim
  | cons d ds =>
    simp only [DenL] at r
    obtain ⟨v, r', rfl, r1, r2⟩ := r
    refine ⟨v, r', rfl, q W σ s d v _ hK S L r1 (Fin.seq (RC := RSl) h fun s1 σ1 W1 x1 S1 L1 h1 => ?_)⟩
    exact q' W1 σ1 s1 ds r' Q (x1.k.trans hK) S1 L1 (DenL.mono x1 _ _ r2) h1
def gTup (n : Nat) (g : DGs) : DG := fun d s G => match tupOf d with
  | some xs => if xs.length = n then g xs s G else .stop
  | none => .stop
theorem dg_tup {es : List Expr} {k : Nat} {g : DGs} {n : Nat} {pos : Pos} (hc : X.calm = true) (h : DGsOk X E es g) (hn : (assignEach es X.env).length = n := by rfl) (hst : (assignEach es X.env).findIdx? (·.1) = none := by rfl) : DGOk X E (.Tuple es k pos) (gTup n g) := by
  obtain ⟨t, p, q⟩ := h.out
  refine ⟨_, pg_tup hc p hn hst, fun W σ s d v Q hK S L r h => ?_⟩
  unfold gTup at h
  split at h
  · rename_i xs e
    obtain ⟨a, vs, rfl, h1, h2⟩ := tupOf_den r e
    split at h
    · rename_i c
      exact ⟨a, vs, rfl, by rw [← hK]; exact h1, by rw [h2.len]; exact c, q W σ s xs vs Q hK S L h2 h⟩
    · exact h.elim
  · exact h.elim
def sAsg (f : DE) (g : DG) : DS := fun s G => (f s G).bind fun d G => (g d s G).bind fun s G => .ok (.nx, s) G
theorem asg_out {te : TE} {tg : TG} {f : DE} {g : DG} (qe : ∀ (W : Wd) (σ : L2.St) (s : DSl) (Q : VK), W.K = X.K → Sim W → Sl W σ s → Fin Den W E (f s W.G) Q → te σ W.H Q)
    (qg : ∀ (W : Wd) (σ : L2.St) (s : DSl) (d : D) (v : V) (Q : L2.St → Hp → Prop), W.K = X.K → Sim W → Sl W σ s → Den W d v → Fin RSl W E (g d s W.G) Q → tg v σ W.H Q) :
    ∀ (W : Wd) (σ : L2.St) (s : DSl) (D : Ends), W.K = X.K → Sim W → Sl W σ s → SFin W E (sAsg f g s W.G) D → tAsg te tg D σ W.H := by
  intro W σ s D hK S L h
  refine qe W σ s _ hK S L (SFin.seq h fun d v W1 x1 S1 r1 h1 => ?_)
  exact qg W1 σ s d v _ (x1.k.trans hK) S1 (L.mono x1) r1 (SFin.seq h1 fun s2 σ2 W2 x2 S2 L2 h2 => h2 σ2 W2 (Ext.refl W2) S2 rfl L2)
/-- name = value -/
theorem ds_set (i : Nat) {x : Str} {e : Expr} {f : DE} {pos' pos : Pos} (hN : X.N.Nodup) (he : DEOk X E e f) (hi : X.N[i]? = some x := by rfl) (hx : Loc X.env.scope x := by first | exact Or.inl rfl | exact Or.inr rfl)
    (hs : swapsWith e (some (.Name x pos')) pos.line X.env = pure false := by rfl) (hf : X.fn x = true ∨ X.env.scope.names.lookup x = some .local := by first | exact .inl rfl | exact .inr rfl | assumption) :
    DSOk X E (.Assign [.Name x pos'] e pos) (sAsg f (gNm i)) := by
  obtain ⟨t, p, q⟩ := he.out
  exact ⟨_, ps_set hN hi hx p hs hf, asg_out q fun W σ s d v Q hK S L r h => Fin.here (RA := RSl) S h (L.set r)⟩
/-- target = value -/
theorem ds_asg {tg e : Expr} {f : DE} {g : DG} {pos : Pos} (he : DEOk X E e f) (hg : DGOk X E tg g) (hs : swapsWithSole [tg] e pos.line X.env = pure false := by rfl) (hw : swappedStores [tg] e X.env = pure none := by rfl)
    (h1 : (assignEach [tg] X.env).map (·.2) = [assign tg X.env] := by rfl) : DSOk X E (.Assign [tg] e pos) (sAsg f g) := by
  obtain ⟨t, p, q⟩ := he.out
  obtain ⟨t', p', q'⟩ := hg.out
  exact ⟨_, ps_asg p p' hs hw h1, asg_out q q'⟩
/-- a, b = x, y -/
def sPar (i j : Nat) (a : DA) : DS := fun s G => (a s G).bind fun ds G => match ds with
  | [x, y] => .ok (.nx, (s.set i (some x)).set j (some y)) G
  | _ => .stop
theorem ds_par (i j : Nat) {x y : Str} {a b : Expr} {f : DA} {px py pt : Pos} {kt k2 : Nat} {pt2 pos : Pos} (hc : X.calm = true) (hN : X.N.Nodup) (hi : X.N[i]? = some x) (hj : X.N[j]? = some y) (hij : i ≠ j)
    (hx : X.env.scope.names.lookup x = some .local) (hy : X.env.scope.names.lookup y = some .local) (ha : DAOk X E [a, b] f)
    (hw : swappedStores [.Tuple [.Name x px, .Name y py] kt pt] (.Tuple [a, b] k2 pt2) X.env = pure (some [x, y]))
    (hs : swapsWithSole [.Tuple [.Name x px, .Name y py] kt pt] (.Tuple [a, b] k2 pt2) pos.line X.env = pure false := by rfl) :
    DSOk X E (.Assign [.Tuple [.Name x px, .Name y py] kt pt] (.Tuple [a, b] k2 pt2) pos) (sPar i j f) := by
  obtain ⟨t, p, q⟩ := ha.out
  refine ⟨_, ps_par hc hN hi hj hij hx hy p hw hs, fun W σ s D hK S L h => ?_⟩
  refine q W σ s _ hK S L (SFin.seq h fun ds vs W1 x1 S1 r1 h1 => ?_)
  split at h1
  · obtain ⟨v, w, rfl, q1, q2⟩ := r1.two
    exact ⟨v, w, rfl, h1 _ W1 (Ext.refl W1) S1 rfl (((L.mono x1).set q1).set q2)⟩
  · exact h1.elim

/-! ### while -/
def whl (c : DT) (b : DS) : Nat → DS
  | 0 => fun _ _ => .stop
  | n + 1 => fun s G => (c s G).bind fun k G => if k = true then (match b s G with
      | .ok (.nx, s) G => whl c b n s G
      | .ok (.ct, s) G => whl c b n s G
      | .ok (.bk, s) G => .ok (.nx, s) G
      | r => r) else .ok (.nx, s) G
theorem ds_while (n : Nat) {c : Expr} {body : List Stmt} {fc : DT} {fb : DS} {pos : Pos} (hp : PassesOwn (model X.prog X.w) X.A X.env X.xe) (hc : DTOk X E c fc) (hb : DSsOk X E body fb) : DSOk X E (.While c body [] pos) (whl fc fb n) := by
  obtain ⟨tc, pc, qc⟩ := hc.out
  obtain ⟨tb, pb, qb⟩ := hb.out
  refine ⟨_, ps_while hp pc pb, fun W σ s D hK S L h => ?_⟩
  refine ⟨fun m σ H => ∃ W' s', W'.H = H ∧ W'.K = X.K ∧ Sim W' ∧ Sl W' σ s' ∧ SFin W' E (whl fc fb m s' W'.G) D, ⟨n, W, s, rfl, hK, S, L, h⟩, ?_⟩
  rintro m σ H ⟨W, s, rfl, hK, S, L, h⟩
  cases m with
  | zero => exact h.elim
  | succ m =>
    unfold whl at h
    refine qc W σ s _ hK S L (SFin.seq h fun x v W1 x1 S1 d1 h1 => ?_)
    obtain rfl : x = v := d1
    cases x with
    | false => rw [if_neg Bool.false_ne_true] at h1 ⊢; exact h1 σ W1 (Ext.refl W1) S1 rfl (L.mono x1)
    | true =>
      rw [if_pos rfl] at h1 ⊢
      refine ⟨fun σ' H' => ∃ W' s', W'.H = H' ∧ W'.K = X.K ∧ Sim W' ∧ Sl W' σ' s' ∧ SFin W' E (whl fc fb m s' W'.G) D, fun σ' H' q => ⟨m, Nat.lt_succ_self m, q⟩, ?_⟩
      refine qb W1 σ s _ (x1.k.trans hK) S1 (L.mono x1) ?_
      cases e : fb s W1.G with
      | ok a G =>
        obtain ⟨o, s2⟩ := a
        rw [e] at h1
        cases o with
        | nx => exact fun σ2 W2 x2 S2 e2 L2 => ⟨W2, s2, rfl, x2.k.trans (x1.k.trans hK), S2, L2, by subst e2; exact SFin.mono x2 h1⟩
        | ct => exact fun σ2 W2 x2 S2 e2 L2 => ⟨W2, s2, rfl, x2.k.trans (x1.k.trans hK), S2, L2, by subst e2; exact SFin.mono x2 h1⟩
        | bk => exact h1
        | rt d => exact h1
      | ex d G => rw [e] at h1; exact h1
      | stop => rw [e] at h1; exact h1

/-! ### what is walked -/
/-- the walk J gives the items ds, from W0 on -/
structure DWalk (W0 : Wd) (J : It) (ds : List D) : Prop where
  go : ∀ (i : Nat) (W : Wd) (d : D), ds[i]? = some d → Ext W0 W → Sim W → J.go i W.H ∧ ∀ x H', J.yld i W.H x H' → ∃ W', W'.H = H' ∧ Ext W W' ∧ Sim W' ∧ W'.G = W.G ∧ Den W' d x
  stop : ∀ (W : Wd), Ext W0 W → Sim W → J.stop ds.length W.H
/-- a walk's outcome -/
def IFin (W : Wd) (E : XK) (r : R (List D)) (R : It → Hp → Prop) : Prop :=
  match r with
  | .ok ds G => ∀ (J : It) (W' : Wd), Ext W W' → Sim W' → W'.G = G → DWalk W' J ds → R J W'.H
  | .ex e G => ∀ (c : Value) (od : Option Addr) (W' : Wd), Ext W W' → Sim W' → W'.G = G → DenX W' e c od → E c od W'.H
  | .stop => False
theorem IFin.mono {W0 W : Wd} (x : Ext W0 W) {r : R (List D)} {Q : It → Hp → Prop} (h : IFin W0 E r Q) : IFin W E r Q := by
  cases r with
  | ok a G => exact fun b W' y S e q => h b W' (x.trans y) S e q
  | ex e G => exact fun c od W' y S e q => h c od W' (x.trans y) S e q
  | stop => exact h
theorem IFin.seq {α β : Type} {RA : Wd → α → β → Prop} {W : Wd} {r : R α} {k : α → DH → R (List D)} {Q : It → Hp → Prop} {Q' : β → Hp → Prop} (h : IFin W E (r.bind k) Q)
    (hk : ∀ a b W', Ext W W' → Sim W' → RA W' a b → IFin W' E (k a W'.G) Q → Q' b W'.H) : Fin RA W E r Q' := by
  cases r with
  | ok a G => exact fun b W' x S e q => hk a b W' x S q (by subst e; exact IFin.mono x h)
  | ex e G => exact h
  | stop => exact h
structure DIOk (X : Cx) (E : XK) (tg e : Expr) (f : DA) : Prop where
  out : ∃ t : TI, PI X tg e t ∧ ∀ (W : Wd) (σ : L2.St) (s : DSl) (R : It → Hp → Prop), W.K = X.K → Sim W → Sl W σ s → IFin W E (f s W.G) R → t σ W.H R
/-- from a walk over values that stays -/
theorem DWalk.of {W0 : Wd} {J : It} {n : Nat} {Gd : Hp → Prop} {Y : Nat → Hp → V → Hp → Prop} {ds : List D} (w : Walk J n Gd Y) (hn : n = ds.length) (hG : ∀ W, Ext W0 W → Sim W → Gd W.H)
    (hY : ∀ (i : Nat) (W : Wd) (d : D) x H', ds[i]? = some d → Ext W0 W → Sim W → Y i W.H x H' → ∃ W', W'.H = H' ∧ Ext W W' ∧ Sim W' ∧ W'.G = W.G ∧ Den W' d x) : DWalk W0 J ds := by
  refine ⟨fun i W d e x S => ?_, fun W x S => by rw [← hn]; exact w.stops _ (hG W x S)⟩
  have hi : i < n := by rw [hn]; exact (List.getElem?_eq_some_iff.mp e).1
  exact ⟨w.goes i _ hi (hG W x S), fun v H' y => hY i W d v H' e x S (w.yields i _ v H' hi (hG W x S) y)⟩
/-- items of a list, a tuple that stays -/
theorem DWalk.at_ {W0 : Wd} {J : It} {Gd : Hp → Prop} {vs : List V} {ds : List D} (w : Walk J vs.length Gd (YAt vs)) (hd : DenL W0 ds vs) (hG : ∀ W, Ext W0 W → Sim W → Gd W.H) : DWalk W0 J ds := by
  refine DWalk.of w hd.len hG fun i W d x H' e xt S y => ?_
  obtain ⟨rfl, hx⟩ := y
  obtain ⟨v, e1, e2⟩ := hd.at e
  rw [hx] at e1; cases e1
  exact ⟨W, rfl, Ext.refl W, S, rfl, Den.mono xt _ _ e2⟩
/-- a value list or tuple that is walked -/
def iSeq (f : DE) : DA := fun s G => (f s G).bind fun d G => match d with
  | .lst xs => .ok xs G
  | .frz xs => .ok xs G
  | .tup xs => .ok xs G
  | .ktup xs => .ok xs G
  | _ => .stop
theorem pi_or {tg e : Expr} {t t' : TI} (h : PI X tg e t) (h' : PI X tg e t') : PI X tg e (fun σ H R => t σ H R ∨ t' σ H R) :=
  ⟨fun pins s σ H R I q => q.elim (h.run pins s σ H R I) (h'.run pins s σ H R I)⟩
theorem di_seq {tg e : Expr} {f : DE} (he : DEOk X E e f) : DIOk X E tg e (iSeq f) := by
  obtain ⟨t, p, q⟩ := he.out
  refine ⟨_, pi_or (pi_list p) (pi_tup p), fun W σ s R hK S L h => ?_⟩
  -- the way is chosen by the outcome
  cases e1 : f s W.G with
  | stop => unfold iSeq at h; rw [e1] at h; exact h.elim
  | ex e G =>
    refine .inl (q W σ s _ hK S L ?_)
    unfold iSeq at h
    rw [e1] at h ⊢
    exact h
  | ok d G =>
    have h' := h
    unfold iSeq at h'
    rw [e1] at h'
    have viaL : ∀ ds : List D, (∀ W1 v, Den W1 d v → Sim W1 → ∃ a vs, v = .ref a ∧ DenL W1 ds vs ∧ ∀ W2, Ext W1 W2 → SqL W2.K W2.H a vs) → IFin W E (.ok ds G) R → iList X.K t σ W.H R := fun ds hd hh => by
      refine q W σ s _ hK S L ?_
      rw [e1]
      intro v W1 x1 S1 eG r1
      obtain ⟨a, vs, rfl, h2, h1⟩ := hd W1 v r1 S1
      have hK1 : W1.K = X.K := x1.k.trans hK
      refine ⟨a, rfl, ⟨vs, by rw [← hK1]; exact h1 W1 (Ext.refl W1)⟩, hh _ W1 x1 S1 eG ?_⟩
      exact DWalk.at_ walk_list h2 fun W2 x2 S2 => by rw [← hK1, ← x2.k]; exact h1 W2 x2
    have viaT : ∀ ds : List D, tupOf d = some ds → IFin W E (.ok ds G) R → iTup X.K t σ W.H R := fun ds hd hh => by
      refine q W σ s _ hK S L ?_
      rw [e1]
      intro v W1 x1 S1 eG r1
      obtain ⟨a, vs, rfl, h1, h2⟩ := tupOf_den r1 hd
      have hK1 : W1.K = X.K := x1.k.trans hK
      refine ⟨a, rfl, ⟨vs, by rw [← hK1]; exact h1⟩, hh _ W1 x1 S1 eG ?_⟩
      refine DWalk.at_ walk_tup h2 fun W2 x2 S2 => ?_
      rw [← hK1]
      rcases h1 with (h1 | ⟨o, h1⟩) | h1
      · exact .inl (.inl (x2.t _ _ h1))
      · exact .inl (.inr ⟨o, x2.ft _ _ _ h1⟩)
      · exact .inr h1
    cases d with
    | lst xs =>
      refine .inl (viaL xs (fun W1 v r1 S1 => ?_) h')
      simp only [Den] at r1
      obtain ⟨a, vs, rfl, h0, h1, h2⟩ := r1
      exact ⟨a, vs, rfl, h2, fun W2 x2 => .of (x2.l a vs h0 h1).2⟩
    | frz xs =>
      refine .inl (viaL xs (fun W1 v r1 S1 => ?_) h')
      simp only [Den] at r1
      obtain ⟨a, vs, rfl, h1, h2⟩ := r1
      refine ⟨a, vs, rfl, h2, fun W2 x2 => ?_⟩
      rcases x2.fz h1 with ⟨o, h3⟩ | h3
      · exact .inl (.inr ⟨o, h3⟩)
      · exact .inr h3
    | tup xs => exact .inr (viaT xs rfl h')
    | ktup xs => exact .inr (viaT xs rfl h')
    | _ => exact h'.elim
/-- range(n), range(a, b) -/
def rngD (lo : Int) (n : Nat) : List D := (List.range n).map fun i => .int (lo + (i : Nat))
theorem DWalk.rng {W0 : Wd} {lo : Int} {n : Nat} : DWalk W0 (Itr lo n) (rngD lo n) := by
  refine DWalk.of walk_range (by simp [rngD]) (fun _ _ _ => trivial) fun i W d x H' e xt S y => ?_
  obtain ⟨rfl, rfl⟩ := y
  refine ⟨W, rfl, Ext.refl W, S, rfl, ?_⟩
  have hi : i < n := by have := (List.getElem?_eq_some_iff.mp e).1; simpa [rngD] using this
  simp only [rngD, List.getElem?_map, List.getElem?_range hi, Option.map_some, Option.some.injEq] at e
  subst e
  simp [Den]
theorem two62 : (2 : Int) ^ 62 = 4611686018427387904 := by decide +kernel
def iRg1 (a : DA) : DA := fun s G => (a s G).bind fun ds G => match ds with
  | [.int j] => if -4611686018427387904 ≤ j ∧ j < 4611686018427387904 then .ok (rngD 0 j.toNat) G else .stop
  | _ => .stop
def iRg2 (a : DA) : DA := fun s G => (a s G).bind fun ds G => match ds with
  | [.int i, .int j] => if -4611686018427387904 ≤ i ∧ i < 4611686018427387904 ∧ -4611686018427387904 ≤ j ∧ j < 4611686018427387904 then .ok (rngD i (j - i).toNat) G else .stop
  | _ => .stop
theorem di_rg1 {tg a : Expr} {f : DA} {p pos : Pos} (hg : Gl X "range") (hm : X.mg "range" = none) (ha : DAOk X E [a] f) (hs : starEach [a] X.env = [(false, eval a X.env)] := by rfl) : DIOk X E tg (.Call (.Name "range" p) [a] [] pos) (iRg1 f) := by
  obtain ⟨t, pt, q⟩ := ha.out
  refine ⟨_, pi_range1 hg hm pt hs, fun W σ s R hK S L h => ?_⟩
  refine q W σ s _ hK S L (IFin.seq h fun ds vs W1 x1 S1 r1 h1 => ?_)
  split at h1
  · rename_i j
    obtain ⟨v, rfl, q1⟩ := r1.uno
    simp only [Den] at q1
    subst q1
    split at h1
    · rename_i c
      rw [← two62] at c
      exact ⟨j, rfl, c.1, c.2, h1 _ W1 (Ext.refl W1) S1 rfl DWalk.rng⟩
    · exact h1.elim
  · exact h1.elim
theorem di_rg2 {tg a b : Expr} {f : DA} {p pos : Pos} (hg : Gl X "range") (hm : X.mg "range" = none) (ha : DAOk X E [a, b] f) (hs : starEach [a, b] X.env = [(false, eval a X.env), (false, eval b X.env)] := by rfl) (hs2 : starEach [b] X.env = [(false, eval b X.env)] := by rfl) :
    DIOk X E tg (.Call (.Name "range" p) [a, b] [] pos) (iRg2 f) := by
  obtain ⟨t, pt, q⟩ := ha.out
  refine ⟨_, pi_range2 hg hm pt hs hs2, fun W σ s R hK S L h => ?_⟩
  refine q W σ s _ hK S L (IFin.seq h fun ds vs W1 x1 S1 r1 h1 => ?_)
  split at h1
  · rename_i i j
    obtain ⟨v, w, rfl, q1, q2⟩ := r1.two
    simp only [Den] at q1 q2
    subst q1 q2
    split at h1
    · rename_i c
      rw [← two62] at c
      exact ⟨i, j, rfl, c, h1 _ W1 (Ext.refl W1) S1 rfl DWalk.rng⟩
    · exact h1.elim
  · exact h1.elim
/-- a text, sign by sign -/
def sgnD (z : Str) : List D := z.cps.toList.map fun c => .str ⟨#[c]⟩
def iStr (f : DE) : DA := fun s G => (f s G).bind fun d G => match d with
  | .str z => .ok (sgnD z) G
  | _ => .stop
theorem di_str {tg e : Expr} {f : DE} (he : DEOk X E e f) : DIOk X E tg e (iStr f) := by
  obtain ⟨t, p, q⟩ := he.out
  refine ⟨_, pi_str p, fun W σ s R hK S L h => ?_⟩
  refine q W σ s _ hK S L (IFin.seq h fun d v W1 x1 S1 r1 h1 => ?_)
  cases d with
  | str z =>
    simp only [Den] at r1
    refine ⟨z, r1, h1 _ W1 (Ext.refl W1) S1 rfl ?_⟩
    refine DWalk.of walk_str (by simp [sgnD]) (fun _ _ _ => trivial) fun i W d x H' e xt S y => ?_
    obtain ⟨rfl, c, hc, rfl⟩ := y
    refine ⟨W, rfl, Ext.refl W, S, rfl, ?_⟩
    simp only [sgnD, List.getElem?_map] at e
    rw [show z.cps.toList[i]? = some c by simpa using hc] at e
    cases e
    simp [Den]
  | _ => exact h1.elim
/-- a walk that is one of two -/
def orA (f g : DA) : DA := fun s G => match f s G with
  | .stop => g s G
  | r => r
theorem di_or {tg e : Expr} {f g : DA} (h1 : DIOk X E tg e f) (h2 : DIOk X E tg e g) : DIOk X E tg e (orA f g) := by
  obtain ⟨t, p, q⟩ := h1.out
  obtain ⟨t', p', q'⟩ := h2.out
  refine ⟨_, pi_or p p', fun W σ s R hK S L h => ?_⟩
  cases e1 : f s W.G with
  | stop => unfold orA at h; rw [e1] at h; exact .inr (q' W σ s R hK S L h)
  | ok d G => unfold orA at h; rw [e1] at h; exact .inl (q W σ s R hK S L (by rw [e1]; exact h))
  | ex d G => unfold orA at h; rw [e1] at h; exact .inl (q W σ s R hK S L (by rw [e1]; exact h))
/-- pairs -/
theorem YPair_den {W0 W : Wd} {xs ys : Nat → Option V} {i : Nat} {x : V} {H' : Hp} {a b : D} (S : Sim W) (h : YPair xs ys i W.H x H') (ha : ∀ v, xs i = some v → Den W a v) (hb : ∀ v, ys i = some v → Den W b v) :
    ∃ W', W'.H = H' ∧ Ext W W' ∧ Sim W' ∧ W'.G = W.G ∧ Den W' (.tup [a, b]) x := by
  obtain ⟨T, u, v, rfl, hT, rfl, e1, e2⟩ := h
  obtain ⟨x1, S1⟩ := S.lay (.tup [u, v]) hT
  refine ⟨_, rfl, x1, S1, rfl, ?_⟩
  simp only [Den]
  refine ⟨T, [u, v], rfl, upd_same, ?_⟩
  simp only [DenL]
  exact ⟨u, _, rfl, Den.mono x1 _ _ (ha u e1), v, _, rfl, Den.mono x1 _ _ (hb v e2), rfl⟩
@[simp] def enumD : Nat → List D → List D
  | _, [] => []
  | n, d :: ds => .tup [.int (n : Nat), d] :: enumD (n + 1) ds
theorem enumD_len : ∀ (n : Nat) (ds : List D), (enumD n ds).length = ds.length
  | _, [] => rfl
  | n, _ :: ds => by simp [enumD, enumD_len (n + 1) ds]
theorem enumD_at : ∀ (n : Nat) (ds : List D) (i : Nat) (d : D), (enumD n ds)[i]? = some d → ∃ e, ds[i]? = some e ∧ d = .tup [.int ((n + i : Nat) : Int), e]
  | _, [], _, _, h => by simp [enumD] at h
  | n, x :: ds, 0, d, h => by
    simp [enumD] at h
    exact ⟨x, rfl, by simp [← h]⟩
  | n, x :: ds, i + 1, d, h => by
    obtain ⟨e, h1, h2⟩ := enumD_at (n + 1) ds i d (by simpa [enumD] using h)
    exact ⟨e, by simpa using h1, by rw [h2, show n + 1 + i = n + (i + 1) by omega]⟩
/-- a list that stays -/
theorem lst_stays {W : Wd} {d : D} {xs : List D} {v : V} (r : Den W d v) (e : d = .lst xs ∨ d = .frz xs) : ∃ a vs, v = .ref a ∧ DenL W xs vs ∧ ∀ W2, Ext W W2 → SqL W2.K W2.H a vs := by
  rcases e with rfl | rfl
  · simp only [Den] at r
    obtain ⟨a, vs, rfl, h0, h1, h2⟩ := r
    exact ⟨a, vs, rfl, h2, fun W2 x2 => .of (x2.l a vs h0 h1).2⟩
  · simp only [Den] at r
    obtain ⟨a, vs, rfl, h1, h2⟩ := r
    refine ⟨a, vs, rfl, h2, fun W2 x2 => ?_⟩
    rcases x2.fz h1 with ⟨o, h3⟩ | h3
    · exact .inl (.inr ⟨o, h3⟩)
    · exact .inr h3
def valL : D → Option (List D)
  | .lst xs => some xs
  | .frz xs => some xs
  | _ => none
theorem valL_stays {W : Wd} {d : D} {xs : List D} {v : V} (r : Den W d v) (e : valL d = some xs) : ∃ a vs, v = .ref a ∧ DenL W xs vs ∧ ∀ W2, Ext W W2 → SqL W2.K W2.H a vs := by
  cases d with
  | lst ys => cases e; exact lst_stays r (.inl rfl)
  | frz ys => cases e; exact lst_stays r (.inr rfl)
  | _ => cases e
def iEnum (a : DA) : DA := fun s G => (a s G).bind fun ds G => match ds with
  | [d] => match valL d with
    | some xs => .ok (enumD 0 xs) G
    | none => .stop
  | _ => .stop
theorem di_enum {e : Expr} {f : DA} {p pos tpos : Pos} {elts : List Expr} {kk : Nat} (hg : Gl X "enumerate") (hm : X.mg "enumerate" = none) (ha : DAOk X E [e] f) (hs : starEach [e] X.env = [(false, eval e X.env)] := by rfl) :
    DIOk X E (.Tuple elts kk tpos) (.Call (.Name "enumerate" p) [e] [] pos) (iEnum f) := by
  obtain ⟨t, pt, q⟩ := ha.out
  refine ⟨_, pi_enum hg hm pt hs, fun W σ s R hK S L h => ?_⟩
  refine q W σ s _ hK S L (IFin.seq h fun ds vs W1 x1 S1 r1 h1 => ?_)
  have hK1 : W1.K = X.K := x1.k.trans hK
  split at h1
  · rename_i d
    obtain ⟨v, rfl, q1⟩ := r1.uno
    cases e1 : valL d with
    | none => rw [e1] at h1; exact h1.elim
    | some xs =>
      rw [e1] at h1
      obtain ⟨a, ws, rfl, h2, h3⟩ := valL_stays q1 e1
      refine ⟨a, ws, rfl, by rw [← hK1]; exact h3 W1 (Ext.refl W1), h1 _ W1 (Ext.refl W1) S1 rfl ?_⟩
      refine DWalk.of walk_enum (by rw [enumD_len, h2.len]) (fun W2 x2 S2 => by rw [← hK1, ← x2.k]; exact h3 W2 x2) fun i W2 d x H' e xt S2 y => ?_
      obtain ⟨e0, q1, rfl⟩ := enumD_at 0 xs i d e
      refine YPair_den (W0 := W2) S2 y (fun v hv => ?_) fun v hv => ?_
      · cases hv
        simp [Den]
      · obtain ⟨u, u1, u2⟩ := h2.at q1
        rw [hv] at u1; cases u1
        exact Den.mono xt _ _ u2
  · exact h1.elim
@[simp] def zipD : List D → List D → List D
  | x :: xs, y :: ys => .tup [x, y] :: zipD xs ys
  | _, _ => []
theorem zipD_len : ∀ (xs ys : List D), (zipD xs ys).length = min xs.length ys.length
  | [], _ => by simp [zipD]
  | _ :: _, [] => by simp [zipD]
  | _ :: xs, _ :: ys => by simp [zipD, zipD_len xs ys]
theorem zipD_at : ∀ (xs ys : List D) (i : Nat) (d : D), (zipD xs ys)[i]? = some d → ∃ x y, xs[i]? = some x ∧ ys[i]? = some y ∧ d = .tup [x, y]
  | [], _, _, _, h => by simp [zipD] at h
  | _ :: _, [], _, _, h => by simp [zipD] at h
  | x :: xs, y :: ys, 0, d, h => by
    simp [zipD] at h
    exact ⟨x, y, rfl, rfl, h.symm⟩
  | x :: xs, y :: ys, i + 1, d, h => by simpa using zipD_at xs ys i d (by simpa [zipD] using h)
def iZip (a : DA) : DA := fun s G => (a s G).bind fun ds G => match ds with
  | [d, e] => match valL d, valL e with
    | some xs, some ys => .ok (zipD xs ys) G
    | _, _ => .stop
  | _ => .stop
theorem di_zip {e e2 : Expr} {f : DA} {p pos tpos : Pos} {elts : List Expr} {kk : Nat} (hg : Gl X "zip") (hm : X.mg "zip" = none) (ha : DAOk X E [e, e2] f)
    (hs : starEach [e, e2] X.env = (false, eval e X.env) :: starEach [e2] X.env := by rfl) (hpl : (backTo pos (starEach [e2] X.env)).any (·.1) = false := by rfl) :
    DIOk X E (.Tuple elts kk tpos) (.Call (.Name "zip" p) [e, e2] [] pos) (iZip f) := by
  obtain ⟨t, pt, q⟩ := ha.out
  refine ⟨_, pi_zip hg hm pt hs hpl, fun W σ s R hK S L h => ?_⟩
  refine q W σ s _ hK S L (IFin.seq h fun ds vs W1 x1 S1 r1 h1 => ?_)
  have hK1 : W1.K = X.K := x1.k.trans hK
  split at h1
  · rename_i d d'
    obtain ⟨v, v', rfl, r1, r1'⟩ := r1.two
    cases e1 : valL d with
    | none => rw [e1] at h1; exact h1.elim
    | some xs =>
      cases e1' : valL d' with
      | none => rw [e1, e1'] at h1; exact h1.elim
      | some ys =>
        rw [e1, e1'] at h1
        obtain ⟨a, ws, rfl, h2, h3⟩ := valL_stays r1 e1
        obtain ⟨b, us, rfl, h2', h3'⟩ := valL_stays r1' e1'
        refine ⟨a, b, ws, us, rfl, by rw [← hK1]; exact h3 W1 (Ext.refl W1), by rw [← hK1]; exact h3' W1 (Ext.refl W1), h1 _ W1 (Ext.refl W1) S1 rfl ?_⟩
        refine DWalk.of (walk_zip rfl) (by rw [zipD_len, ← h2.len, ← h2'.len]) (fun W2 x2 S2 => ⟨by rw [← hK1, ← x2.k]; exact h3 W2 x2, by rw [← hK1, ← x2.k]; exact h3' W2 x2⟩) fun i W2 d x H' e xt S2 y => ?_
        obtain ⟨d1, d2, q1, q2, rfl⟩ := zipD_at xs ys i d e
        refine YPair_den (W0 := W2) S2 y (fun v hv => ?_) fun v hv => ?_
        · obtain ⟨u, u1, u2⟩ := h2.at q1
          rw [hv] at u1; cases u1
          exact Den.mono xt _ _ u2
        · obtain ⟨u, u1, u2⟩ := h2'.at q2
          rw [hv] at u1; cases u1
          exact Den.mono xt _ _ u2
  · exact h1.elim

/-! ### for -/
@[simp] def forL (g : DG) (b : DS) : List D → DS
  | [] => fun s G => .ok (.nx, s) G
  | d :: ds => fun s G => (g d s G).bind fun s G => match b s G with
      | .ok (.nx, s) G => forL g b ds s G
      | .ok (.ct, s) G => forL g b ds s G
      | .ok (.bk, s) G => .ok (.nx, s) G
      | r => r
def sFor (it : DA) (g : DG) (b : DS) : DS := fun s G => (it s G).bind fun ds G => forL g b ds s G
theorem SFin.iseq {W : Wd} {r : R (List D)} {k : List D → DH → R (Out × DSl)} {D : Ends} {Q : It → Hp → Prop} (h : SFin W E (r.bind k) D)
    (hk : ∀ ds J W', Ext W W' → Sim W' → DWalk W' J ds → SFin W' E (k ds W'.G) D → Q J W'.H) : IFin W E r Q := by
  cases r with
  | ok a G => exact fun J W' x S e q => hk a J W' x S q (by subst e; exact SFin.mono x h)
  | ex e G => exact h
  | stop => exact h
theorem ds_for {tg iter : Expr} {body : List Stmt} {fi : DA} {g : DG} {fb : DS} {pos : Pos} (hp : PassesOwn (model X.prog X.w) X.A X.env X.xe) (hc : X.calm = true) (hi : DIOk X E tg iter fi) (hg : DGOk X E tg g) (hb : DSsOk X E body fb)
    (hs : ∀ x, foldedSetIterable iter X.env x = pure x := by intro _; rfl) : DSOk X E (.For tg iter body [] pos) (sFor fi g fb) := by
  obtain ⟨ti, pi, qi⟩ := hi.out
  obtain ⟨tg', pg, qg⟩ := hg.out
  obtain ⟨tb, pb, qb⟩ := hb.out
  refine ⟨_, ps_for hp hc pi pg pb hs, fun W σ s D hK S L h => ?_⟩
  refine qi W σ s _ hK S L (SFin.iseq h fun ds J W0 x0 S0 w h0 => ?_)
  have hK0 : W0.K = X.K := x0.k.trans hK
  refine ⟨fun i m σ H => ∃ W' s', W'.H = H ∧ Ext W0 W' ∧ Sim W' ∧ Sl W' σ s' ∧ m = ds.length - i ∧ i ≤ ds.length ∧ SFin W' E (forL g fb (ds.drop i) s' W'.G) D, ⟨ds.length, W0, s, rfl, Ext.refl W0, S0, L.mono x0, by simp, Nat.zero_le _, h0⟩, ?_⟩
  rintro i m σ H ⟨W1, s1, rfl, x1, S1, L1, rfl, hi, h1⟩
  by_cases hlt : i < ds.length
  · have ed : ds.drop i = ds[i] :: ds.drop (i + 1) := List.drop_eq_getElem_cons hlt
    rw [ed] at h1
    obtain ⟨hgo, hyl⟩ := w.go i W1 ds[i] (List.getElem?_eq_getElem hlt) x1 S1
    refine .inr ⟨hgo, fun σ' H' => ∃ W' s', W'.H = H' ∧ Ext W0 W' ∧ Sim W' ∧ Sl W' σ' s' ∧ SFin W' E (forL g fb (ds.drop (i + 1)) s' W'.G) D, fun σ' H' ⟨W', s', e1, e2, e3, e4, e5⟩ => ⟨ds.length - (i + 1), by omega, W', s', e1, e2, e3, e4, rfl, hlt, e5⟩, fun x H' y => ?_⟩
    obtain ⟨W2, rfl, x2, S2, eG, r2⟩ := hyl x H' y
    have x02 : Ext W0 W2 := x1.trans x2
    have h2 : SFin W2 E (forL g fb (ds[i] :: ds.drop (i + 1)) s1 W2.G) D := by rw [eG]; exact SFin.mono x2 h1
    unfold forL at h2
    refine qg W2 σ s1 _ x _ (x02.k.trans hK0) S2 (L1.mono x2) r2 (SFin.seq h2 fun s3 σ3 W3 x3 S3 L3 h3 => ?_)
    refine qb W3 σ3 s3 _ (x3.k.trans (x02.k.trans hK0)) S3 L3 ?_
    cases e : fb s3 W3.G with
    | ok a G =>
      obtain ⟨o, s4⟩ := a
      rw [e] at h3
      cases o with
      | nx => exact fun σ4 W4 x4 S4 e4 L4 => ⟨W4, s4, rfl, (x02.trans x3).trans x4, S4, L4, by subst e4; exact SFin.mono x4 h3⟩
      | ct => exact fun σ4 W4 x4 S4 e4 L4 => ⟨W4, s4, rfl, (x02.trans x3).trans x4, S4, L4, by subst e4; exact SFin.mono x4 h3⟩
      | bk => exact h3
      | rt d => exact h3
    | ex d G => rw [e] at h3; exact h3
    | stop => rw [e] at h3; exact h3
  · have ei : i = ds.length := by omega
    subst ei
    rw [List.drop_length] at h1
    exact .inl ⟨w.stop W1 x1 S1, h1 σ W1 (Ext.refl W1) S1 rfl L1⟩
end
end DL
end
/-! ==== DFun ==== -/
section
set_option Elab.async false
set_option linter.all false
set_option autoImplicit false
set_option maxRecDepth 100000
set_option maxHeartbeats 4000000
/-! DL: defs, their calls; list comprehensions; the end of a law. -/
namespace DL
open PySem PySem.Spec PyProof.Rows L2

abbrev DFn := List D → DH → R D
/-- what a def is worth: np parameters, n names -/
def runF (np n : Nat) (b : DS) : DFn := fun ds G => if ds.length = np then (match b (ds.map some ++ List.replicate (n - np) none) G with
  | .ok (.nx, _) G => .ok .non G
  | .ok (.rt d, _) G => .ok d G
  | .ok _ _ => .stop
  | .ex e G => .ex e G
  | .stop => .stop) else .stop

/-- the around of a law's call, as far as the rules ask -/
structure Rm (k : Nat) (A : Around) : Prop where
  room : Room k A
  gu : A.guards = some []
theorem Rm.mono {j k : Nat} {A : Around} (r : Rm k A) (h : j ≤ k) : Rm j A := ⟨r.room.mono h, r.gu⟩
theorem Rm.deeper {k : Nat} {A : Around} (r : Rm (k + 1) A) (env : Env) : Rm k (A.deeper env) := ⟨r.room.deeper env, r.gu⟩
theorem Rm.u1 {k : Nat} {A : Around} (r : Rm k A) : A.units + 1 < cLine := hu_of r.room
theorem Rm.u64 {k : Nat} {A : Around} (r : Rm k A) : A.units + 64 < cLine := r.room.units
theorem Rm.u200 {k : Nat} {A : Around} (r : Rm k A) : A.units + 200 < cLine := by have := r.room.un; omega

/-- a def of the text is worth F -/
structure DFok (P : Program) (w : World) (K : PySem.W.Frag) (mg : Str → Option Value) (base : Heap) (CX : CXT) (k : Nat) (f : Addr) (fd : FuncData) (ps : List Str) (F : DFn) : Prop where
  len : ∀ (W : Wd) (ds : List D) (Q : VK) (E : XK), Fin Den W E (F ds W.G) Q → ds.length = ps.length
  run : ∀ (A : Around) (outer : List Env) (s : Shared) (args : Args) (us : List Value) (vs : List V) (W : Wd) (ds : List D) (Q : VK) (E : XK), Rm k A → Env0 P w K mg base A outer s W.H → BindsTo s fd args (ps.zip us) → Vals vs us →
    W.K = K → Sim W → DenL W ds vs → Fin Den W E (F ds W.G) Q → codeAny (model P w) A (.call (.ref f) args) (CR CX outer P w W.H s Q E) s
theorem DFok.mono {P : Program} {w : World} {K : PySem.W.Frag} {mg : Str → Option Value} {base : Heap} {CX : CXT} {j k : Nat} {f : Addr} {fd : FuncData} {ps : List Str} {F : DFn} (h : DFok P w K mg base CX j f fd ps F) (hj : j ≤ k) : DFok P w K mg base CX k f fd ps F :=
  ⟨h.len, fun A outer s args us vs W ds Q E r => h.run A outer s args us vs W ds Q E (r.mono hj)⟩
/-- the same worth, said otherwise -/
theorem DFok.eq {P : Program} {w : World} {K : PySem.W.Frag} {mg : Str → Option Value} {base : Heap} {CX : CXT} {k : Nat} {f : Addr} {fd : FuncData} {ps : List Str} {F F' : DFn} (h : DFok P w K mg base CX k f fd ps F) (e : F = F') : DFok P w K mg base CX k f fd ps F' := e ▸ h

theorem start_sl {W : Wd} {N : List Str} {ds : List D} {vs : List V} (r : DenL W ds vs) : Sl W (L2.start N vs) (ds.map some ++ List.replicate (N.length - ds.length) none) := by
  unfold L2.start
  have e := r.len
  refine ⟨by simp [e], fun i d h => ?_⟩
  by_cases hi : i < ds.length
  · rw [List.getElem?_append_left (by simpa using hi), List.getElem?_map] at h
    cases q : ds[i]? with
    | none => rw [q] at h; cases h
    | some d' =>
      rw [q] at h
      cases h
      obtain ⟨v, h1, h2⟩ := r.at q
      refine ⟨v, ?_, h2⟩
      rw [List.getElem?_append_left (by rw [List.length_map, e]; exact hi), List.getElem?_map, h1]
      rfl
  · rw [List.getElem?_append_right (by simpa using hi), List.getElem?_replicate] at h
    split at h <;> cases h

section
variable {P : Program} {w : World} {K : PySem.W.Frag} {mg : Str → Option Value} {base : Heap}
/-- THE RULE for a def -/
theorem dfn_of {CX : CXT} {k : Nat} {f : Addr} {name qual : Str} {params : Arguments} {body : List Stmt} {scope : Scope} {dV kV doc pm cdv ct oc : Value} {an od : Option Addr} {osl : Array (Option Value)} {N ps : List Str} {b : DS}
    (lk : K.lookup f = some ⟨oc, od, .func (PySem.W.fnOf name qual params body scope dV kV doc pm an cdv ct), osl⟩) (hcd : PySem.W.codeIn K cdv qual = true) (S : FnScope N ps scope)
    (hb : ∀ (A : Around) (outer : List Env) (s : Shared) (H : Hp) (E : XK), Rm k (A.deeper (envOfC qual scope s.heap.objs.size f cdv)) → DSsOk (cxOf CX P w K mg base N qual scope f cdv A outer s H E) E body b) :
    DFok P w K mg base CX (k + 1) f (PySem.W.fnOf name qual params body scope dV kV doc pm an cdv ct) ps (runF ps.length N.length b) := by
  have hlen : ∀ (W : Wd) (ds : List D) (Q : VK) (E : XK), Fin Den W E (runF ps.length N.length b ds W.G) Q → ds.length = ps.length := fun W ds Q E h => by
    unfold runF at h
    split at h
    · assumption
    · exact h.elim
  refine ⟨hlen, fun A outer s args us vs W ds Q E hr e0 hbd r hK SW hd hf => ?_⟩
  have hl : vs.length = ps.length := by rw [hd.len]; exact hlen W ds Q E hf
  have KX : K.In s.heap := e0.mod.kin.keeps fun b o e => (e0.bs b o e).1
  have lim : s.heap.NoLimit := e0.mod.nolimit.keeps fun b o e => (e0.bs b o e).1
  have hkd : ∀ y ∈ ps.zip us, scope.names.lookup y.1 = some .local ∨ (scope.names.lookup y.1 = some .cell ∧ ((cellsFrom (s.heap.objs.size + 1) scope.names []).lookup y.1).isSome = true) := by
    rintro ⟨n, v⟩ hy
    refine (S.par n (List.of_mem_zip hy).1).imp id fun q => ⟨q, ?_⟩
    exact PySem.W.cellsFrom_some _ _ _ (.inl q)
  refine codeAny_call_function hr.room.depth (KX _ _ lk) rfl S.co S.gen rfl (PySem.W.codeRec_of KX hcd) (hbd _ _ _ _ ?_)
  refine wpAny_newFunctionEnv_cells S.kind hkd fun env he s1 x => ?_
  subst he
  refine ⟨lim.keeps x.toInCall.keep, codeAny_func ?_⟩
  obtain ⟨t, ht, hq⟩ := (hb A outer s W.H E (hr.deeper _)).out
  have I : Inv (cxOf CX P w K mg base N qual scope f cdv A outer s W.H E) [] (L2.start N vs) W.H s1 := inv_start S hr.room.hd e0 hl r x
  have L := start_sl (N := N) hd
  rw [hd.len] at hl
  have q : t { nx := fun _ H' => Q .non H', rt := Q } (L2.start N vs) W.H := by
    refine hq W (L2.start N vs) _ { nx := fun _ H' => Q .non H', rt := Q } hK SW L ?_
    unfold runF at hf
    rw [if_pos hl, ← hl] at hf
    cases e : b (ds.map some ++ List.replicate (N.length - ds.length) none) W.G with
    | ok a G =>
      obtain ⟨o, s'⟩ := a
      rw [e] at hf
      cases o with
      | nx => exact fun σ W' y S' e' L' => hf .non W' y S' e' (by simp [Den])
      | rt d => exact hf
      | bk => exact hf.elim
      | ct => exact hf.elim
    | ex d G => rw [e] at hf; exact hf
    | stop => rw [e] at hf; exact hf.elim
  refine wpAny_mono (ht.run [] s1 (L2.start N vs) W.H _ I q) (fun fl s' hs => ?_) fun e s' hs => hs
  have fin : ∀ {σ' : L2.St} {H' : Hp} {v : V} {u : Value}, Inv (cxOf CX P w K mg base N qual scope f cdv A outer s W.H E) [] σ' H' s' → RelV v u → Q v H' → CE outer P w W.H s Q u s' :=
    fun {σ' H' v u} J rv q => ⟨v, H', J.os, J.bare, J.base, J.hok, rv, q⟩
  cases fl with
  | ret u =>
    obtain ⟨v, σ', H', J, rv, q⟩ := hs
    exact fin J rv q
  | next =>
    obtain ⟨σ', H', J, q⟩ := hs
    exact fin (v := V.non) (u := Value.none) J rfl q
  | brk =>
    obtain ⟨_, _, _, q⟩ := hs
    exact False.elim q
  | cont =>
    obtain ⟨_, _, _, q⟩ := hs
    exact False.elim q
/-- a def that lets no exception out -/
theorem DSsOk.nox {X : Cx} {E : XK} {st : List Stmt} {f : DS} (h : DSsOk X.nox E st f) : DSsOk X E st f := let ⟨t, p, q⟩ := h.out; ⟨t, p.nox, q⟩
theorem dfn_mk {x qual : Str} {st : Stmt} {f : Addr} {fd : FuncData} {N ps : List Str} {k : Nat} {b : DS} (F : Fun K x qual st f fd) (S : FnScope N ps (defScope st))
    (hb : ∀ (cdv : Value) (A : Around) (outer : List Env) (s : Shared) (H : Hp) (E : XK), Rm k (A.deeper (envOfC qual (defScope st) s.heap.objs.size f cdv)) → DSsOk (cxOf CX0 P w K mg base N qual (defScope st) f cdv A outer s H E).nox E (defBody st) b) :
    DFok P w K mg base CX0 (k + 1) f fd ps (runF ps.length N.length b) := by
  obtain ⟨oc, od, kV, doc, pm, an, cdv, ct, osl, rfl, lk, hcd⟩ := F.ex
  exact dfn_of lk hcd S fun A outer s H E hr => (hb cdv A outer s H E hr).nox
end

/-! ### calls -/
section
variable {X : Cx} {E : XK}
def tFn (K : PySem.W.Frag) (E : XK) (F : DFn) (t : TA) : TE := fun σ H Q => t σ H fun vs H1 => ∃ (W : Wd) (ds : List D), W.H = H1 ∧ W.K = K ∧ Sim W ∧ DenL W ds vs ∧ Fin Den W E (F ds W.G) Q
theorem run_dfn {CX : CXT} {k : Nat} {f : Addr} {fd : FuncData} {ps : List Str} {F : DFn} {pins : List (Addr × Obj)} {σ : L2.St} {s : Shared} {Q : VK} {us : List Value} {vs : List V} {kw : List (Str × Value)} {us' : List Value} {W : Wd} {ds : List D}
    (hF : DFok X.prog X.w X.K X.mg X.base CX k f fd ps F) (hr : Rm k X.A) (hb : BindsTo s fd ⟨us, kw⟩ (ps.zip us')) (hx : Passes CX X E)
    (I : Inv X pins σ W.H s) (r : Vals vs us') (hK : W.K = X.K) (S : Sim W) (hd : DenL W ds vs) (h : Fin Den W E (F ds W.G) Q) : wpAny (model X.prog X.w) X.A (call (.ref f) us kw) (EP X pins σ Q) X.xe s := by
  refine wpAny_call (codeAny_mono (hF.run X.A X.stack s ⟨us, kw⟩ us' vs W ds Q E hr I.env0 hb r hK S hd h) fun r s' hq => ?_)
  cases r with
  | error e => exact hx pins σ W.H s e s' I hq
  | ok fl =>
    cases fl with
    | ret u => exact I.after hq
    | next => exact False.elim hq
    | brk => exact False.elim hq
    | cont => exact False.elim hq
def dCall (F : DFn) (a : DA) : DE := fun s G => (a s G).bind F
/-- f(a, ..) -/
theorem de_call {CX : CXT} {k : Nat} {f : Addr} {fd : FuncData} {ps : List Str} {F : DFn} {x : Str} {p pos : Pos} {e : Expr} {es : List Expr} {fa : DA} (hF : DFok X.prog X.w X.K X.mg X.base CX k f fd ps F) (hr : Rm k X.A) (hg : Gl X x) (hm : X.mg x = some (.ref f))
    (hk : PySem.W.keepIn X.K (.ref f) = true) (hb : Binds X.K fd ps []) (hx : Passes CX X E) (ha : DAOk X E (e :: es) fa)
    (hdb : (x == ("__debug__" : Str)) = false := by decide) (he : starEach (e :: es) X.env = (false, eval e X.env) :: starEach es X.env := by rfl) (hpl : (backTo pos (starEach es X.env)).any (·.1) = false := by rfl) :
    DEOk X E (.Call (.Name x p) (e :: es) [] pos) (dCall F fa) := by
  obtain ⟨t, pt, q⟩ := ha.out
  refine ⟨tFn X.K E F t, ⟨fun pins s σ H Q I h => ?_⟩, fun W σ s Q hK S L h => ?_⟩
  · refine wpAny_Call_Name_kw (ld_glob I hg hm ?_ hdb)
    refine PySem.W.callWith_K (h₀ := X.base) I.ok.mod.kin hk (thn (pt.run pos pins s σ H _ I h) fun us s1 ⟨vs, H1, I1, r, W, ds, e1, hK, S, hd, q⟩ => ⟨I1.kIn, ?_⟩) he hpl
    subst e1
    have hl : us.length = ps.length := by rw [← r.length, hd.len]; exact hF.len W ds Q E q
    exact run_dfn hF hr (by have := hb s1 us I1.kIn (by simpa using hl); simpa using this) hx I1 r hK S hd q
  · refine q W σ s _ hK S L (Fin.seq (RC := Den) h fun ds vs W1 x1 S1 d1 h1 => ?_)
    exact ⟨W1, ds, rfl, x1.k.trans hK, S1, d1, h1⟩
/-- f() -/
theorem de_call0 {CX : CXT} {k : Nat} {f : Addr} {fd : FuncData} {F : DFn} {x : Str} {p pos : Pos} (hF : DFok X.prog X.w X.K X.mg X.base CX k f fd [] F) (hr : Rm k X.A) (hg : Gl X x) (hm : X.mg x = some (.ref f))
    (hk : PySem.W.keepIn X.K (.ref f) = true) (hb : Binds X.K fd [] []) (hx : Passes CX X E) (hdb : (x == ("__debug__" : Str)) = false := by decide) : DEOk X E (.Call (.Name x p) [] [] pos) (dCall F dNil) := by
  refine ⟨tFn X.K E F tNil, ⟨fun pins s σ H Q I h => ?_⟩, fun W σ s Q hK S L h => ?_⟩
  · obtain ⟨W, ds, e1, hK, S, hd, q⟩ := h
    subst e1
    refine wpAny_Call_Name_kw (ld_glob I hg hm ?_ hdb)
    exact PySem.W.callWith_K0 I.kIn hk (run_dfn (us := []) (us' := []) hF hr (by have := hb s [] I.kIn rfl; simpa using this) hx I .nil hK S hd q)
  · exact ⟨W, [], rfl, hK, S, by simp [DenL], h⟩
/-- keywords, in the order in which they are written; perm: from the written to the parameters' order -/
def pick {α : Type} (perm : List Nat) (xs : List α) : List α := perm.filterMap fun i => xs[i]?
theorem pick_den {W : Wd} {xs : List D} {vs : List V} (h : DenL W xs vs) : ∀ perm : List Nat, DenL W (pick perm xs) (pick perm vs)
  | [] => by simp [pick, DenL]
  | i :: r => by
    have ih := pick_den h r
    unfold pick at ih ⊢
    rw [List.filterMap_cons, List.filterMap_cons]
    cases e : xs[i]? with
    | none =>
      have : vs[i]? = none := by
        rw [List.getElem?_eq_none_iff] at e ⊢
        rw [h.len]; exact e
      rw [this]
      exact ih
    | some d =>
      obtain ⟨v, e1, e2⟩ := h.at e
      rw [e1]
      simp only [DenL]
      exact ⟨v, _, rfl, e2, ih⟩
theorem pick_vals {vs : List V} {us : List Value} (h : Vals vs us) : ∀ perm : List Nat, Vals (pick perm vs) (pick perm us)
  | [] => .nil
  | i :: r => by
    have ih := pick_vals h r
    unfold pick at ih ⊢
    rw [List.filterMap_cons, List.filterMap_cons]
    cases e : vs[i]? with
    | none =>
      rw [Vals.none_of h e]
      exact ih
    | some d =>
      obtain ⟨v, e1, e2⟩ := Vals.get h e
      rw [e1]
      exact .cons e2 ih
structure DKOk (X : Cx) (E : XK) (kws : List Keyword) (f : DA) : Prop where
  out : ∃ t : TA, PK X kws t ∧ ∀ (W : Wd) (σ : L2.St) (s : DSl) (Q : List V → Hp → Prop), W.K = X.K → Sim W → Sl W σ s → Fin DenL W E (f s W.G) Q → t σ W.H Q
theorem dk_nil : DKOk X E [] dNil := ⟨_, pk_nil, fun W σ s Q hK S L h => Fin.here (RA := DenL) S h (by simp [DenL])⟩
theorem dk_cons {nm : Option Str} {e : Expr} {kpos : Pos} {kws : List Keyword} {f : DE} {g : DA} (ha : DEOk X E e f) (hr : DKOk X E kws g) : DKOk X E (⟨nm, e, kpos⟩ :: kws) (dCons f g) := by
  obtain ⟨ta, pa, qa⟩ := ha.out
  obtain ⟨tr, pr, qr⟩ := hr.out
  refine ⟨_, pk_cons pa pr, fun W σ s Q hK S L h => ?_⟩
  refine qa W σ s _ hK S L (h.seq fun x v W1 x1 S1 d1 h1 => ?_)
  refine qr W1 σ s _ (x1.k.trans hK) S1 (L.mono x1) (Fin.seq (RC := DenL) h1 fun xs vs W2 x2 S2 d2 h2 => ?_)
  refine Fin.here (RA := DenL) S2 h2 ?_
  simp only [DenL]
  exact ⟨v, vs, rfl, Den.mono x2 _ _ d1, d2⟩
/-- how a call with keywords binds: np written positional values, nk keywords named ks -/
def BindsK (K : PySem.W.Frag) (fd : FuncData) (ps : List Str) (ks : List Str) (np nk : Nat) (perm : List Nat) : Prop :=
  ∀ (s : Shared) (us ws : List Value), K.In s.heap → us.length = np → ws.length = nk → BindsTo s fd ⟨us, ks.zip ws⟩ (ps.zip (pick perm (us ++ ws)))
def dCallK (np nk : Nat) (perm : List Nat) (F : DFn) (a k : DA) : DE := fun s G => (a s G).bind fun xs G => (k s G).bind fun ys G => if xs.length = np ∧ ys.length = nk then F (pick perm (xs ++ ys)) G else .stop
def tFnK (K : PySem.W.Frag) (E : XK) (np nk : Nat) (perm : List Nat) (F : DFn) (t tk : TA) : TE := fun σ H Q => t σ H fun vs H1 => tk σ H1 fun zs H2 => vs.length = np ∧ zs.length = nk ∧ ∃ (W : Wd) (ds : List D), W.H = H2 ∧ W.K = K ∧ Sim W ∧ DenL W ds (pick perm (vs ++ zs)) ∧ Fin Den W E (F ds W.G) Q
theorem callK_out {np nk : Nat} {perm : List Nat} {F : DFn} {fa fk : DA} {t tk : TA} (q : ∀ (W : Wd) (σ : L2.St) (s : DSl) (Q : List V → Hp → Prop), W.K = X.K → Sim W → Sl W σ s → Fin DenL W E (fa s W.G) Q → t σ W.H Q)
    (qk : ∀ (W : Wd) (σ : L2.St) (s : DSl) (Q : List V → Hp → Prop), W.K = X.K → Sim W → Sl W σ s → Fin DenL W E (fk s W.G) Q → tk σ W.H Q) :
    ∀ (W : Wd) (σ : L2.St) (s : DSl) (Q : VK), W.K = X.K → Sim W → Sl W σ s → Fin Den W E (dCallK np nk perm F fa fk s W.G) Q → tFnK X.K E np nk perm F t tk σ W.H Q := by
  intro W σ s Q hK S L h
  refine q W σ s _ hK S L (Fin.seq (RC := Den) h fun xs vs W1 x1 S1 d1 h1 => ?_)
  refine qk W1 σ s _ (x1.k.trans hK) S1 (L.mono x1) (Fin.seq (RC := Den) h1 fun ys zs W2 x2 S2 d2 h2 => ?_)
  split at h2
  · rename_i c
    exact ⟨by rw [d1.len]; exact c.1, by rw [d2.len]; exact c.2, W2, _, rfl, x2.k.trans (x1.k.trans hK), S2, pick_den ((DenL.mono x2 _ _ d1).app d2) perm, h2⟩
  · exact h2.elim
theorem de_callK {CX : CXT} {k : Nat} {f : Addr} {fd : FuncData} {ps ks : List Str} {np nk : Nat} {perm : List Nat} {F : DFn} {x : Str} {p pos : Pos} {e : Expr} {es : List Expr} {kws : List Keyword} {fa fk : DA} (hF : DFok X.prog X.w X.K X.mg X.base CX k f fd ps F) (hr : Rm k X.A) (hg : Gl X x)
    (hm : X.mg x = some (.ref f)) (hk : PySem.W.keepIn X.K (.ref f) = true) (hb : BindsK X.K fd ps ks np nk perm) (hx : Passes CX X E) (ha : DAOk X E (e :: es) fa) (hkw : DKOk X E kws fk)
    (hall : (backToKw pos (keywordEach kws X.env)).all (·.1.isSome) = true := by rfl) (hks : (backToKw pos (keywordEach kws X.env)).filterMap (·.1) = ks := by rfl)
    (hdb : (x == ("__debug__" : Str)) = false := by decide) (he : starEach (e :: es) X.env = (false, eval e X.env) :: starEach es X.env := by rfl)
    (hpl : ((backTo pos (starEach (e :: es) X.env)).any (·.1) || (backToKw pos (keywordEach kws X.env)).any (·.1.isNone)) = false := by rfl) :
    DEOk X E (.Call (.Name x p) (e :: es) kws pos) (dCallK np nk perm F fa fk) := by
  obtain ⟨t, pt, q⟩ := ha.out
  obtain ⟨tk, ptk, qk⟩ := hkw.out
  refine ⟨tFnK X.K E np nk perm F t tk, ⟨fun pins s σ H Q I h => ?_⟩, callK_out q qk⟩
  refine wpAny_Call_Name_kw (ld_glob I hg hm ?_ hdb)
  refine PySem.W.callWith_KW (h₀ := X.base) I.ok.mod.kin hk hall (thn (pt.run pos pins s σ H _ I h) fun us s1 ⟨vs, H1, I1, r, q1⟩ => ?_) hpl he
  refine thn (ptk.run pos pins s1 σ H1 _ I1 q1) fun ws s2 ⟨zs, H2, I2, rz, l1, l2, W, ds, e1, hK, S, hd, q2⟩ => ⟨I2.kIn, ?_⟩
  rw [hks]
  subst e1
  exact run_dfn hF hr (hb s2 us ws I2.kIn (by rw [← r.length]; exact l1) (by rw [← rz.length]; exact l2)) hx I2 (pick_vals (Vals.append r rz) perm) hK S hd q2
theorem de_callK0 {CX : CXT} {k : Nat} {f : Addr} {fd : FuncData} {ps ks : List Str} {nk : Nat} {perm : List Nat} {F : DFn} {x : Str} {p pos : Pos} {kws : List Keyword} {fk : DA} (hF : DFok X.prog X.w X.K X.mg X.base CX k f fd ps F) (hr : Rm k X.A) (hg : Gl X x)
    (hm : X.mg x = some (.ref f)) (hk : PySem.W.keepIn X.K (.ref f) = true) (hb : BindsK X.K fd ps ks 0 nk perm) (hx : Passes CX X E) (hkw : DKOk X E kws fk)
    (hall : (backToKw pos (keywordEach kws X.env)).all (·.1.isSome) = true := by rfl) (hks : (backToKw pos (keywordEach kws X.env)).filterMap (·.1) = ks := by rfl)
    (hdb : (x == ("__debug__" : Str)) = false := by decide) (hpl : ((backTo pos (starEach [] X.env)).any (·.1) || (backToKw pos (keywordEach kws X.env)).any (·.1.isNone)) = false := by rfl) :
    DEOk X E (.Call (.Name x p) [] kws pos) (dCallK 0 nk perm F dNil fk) := by
  obtain ⟨tk, ptk, qk⟩ := hkw.out
  refine ⟨tFnK X.K E 0 nk perm F tNil tk, ⟨fun pins s σ H Q I h => ?_⟩, callK_out (fun W σ s Q hK S L h => Fin.here (RA := DenL) S h (by simp [DenL])) qk⟩
  refine wpAny_Call_Name_kw (ld_glob I hg hm ?_ hdb)
  refine PySem.W.callWith_KW0 (h₀ := X.base) I.ok.mod.kin hk hall ?_ hpl
  refine thn (ptk.run pos pins s σ H _ I h) fun ws s2 ⟨zs, H2, I2, rz, l1, l2, W, ds, e1, hK, S, hd, q2⟩ => ⟨I2.kIn, ?_⟩
  rw [hks]
  subst e1
  exact run_dfn (us := []) hF hr (hb s2 [] ws I2.kIn rfl (by rw [← rz.length]; exact l2)) hx I2 (pick_vals (Vals.append .nil rz) perm) hK S hd q2

/-! ### list comprehensions -/
theorem Fin.seq0 {α β γ δ : Type} {RA : Wd → α → β → Prop} {RC : Wd → γ → δ → Prop} {W0 W : Wd} (x0 : Ext W0 W) {r : R α} {k : α → DH → R γ} {Q : δ → Hp → Prop} {Q' : β → Hp → Prop} (h : Fin RC W0 E (r.bind k) Q)
    (hk : ∀ a b W', Ext W W' → Sim W' → RA W' a b → Fin RC W0 E (k a W'.G) Q → Q' b W'.H) : Fin RA W E r Q' := by
  cases r with
  | ok a G => exact fun b W' x S e q => hk a b W' x S q (by subst e; exact h)
  | ex e G => exact fun c od W' x S e' q => h c od W' (x0.trans x) S e' q
  | stop => exact h
/-- what was made becomes a thing that may be changed -/
def Wd.adopt (W : Wd) (a : Addr) (d : DO) : Wd := { W with p := W.p ++ [a], G := W.G ++ [d], hid := fun b => W.hid b ∧ b ≠ a }
theorem Sim.adopt {W0 W : Wd} (S : Sim W) {a : Addr} {d : DO} (x : Ext W0 W) (h0 : W0.H a = none) (n0 : ¬ W0.hid a) (ha : W.hid a) (hr : ∀ W', Ext0 W W' → W'.H = W.H → ORel W' d a) : Ext W0 (W.adopt a d) ∧ Sim (W.adopt a d) := by
  have nla : ¬ W.live a := S.apart a ha
  have lv : ∀ {b}, (W.adopt a d).live b → W.live b ∨ b = a := fun {b} ⟨n, u, e, al, pn⟩ => by
    have e' : (W.G ++ [d])[n]? = some u := e
    have pn' : (W.p ++ [a])[n]? = some b := pn
    by_cases hn : n < W.G.length
    · rw [List.getElem?_append_left hn] at e'
      rw [List.getElem?_append_left (by rw [S.len]; exact hn)] at pn'
      exact .inl ⟨n, u, e', al, pn'⟩
    · rw [List.getElem?_append_right (by rw [S.len]; omega)] at pn'
      have := (List.getElem?_eq_some_iff.mp pn').1
      simp only [List.length_singleton] at this
      have z : n - W.p.length = 0 := by omega
      rw [z] at pn'
      exact .inr (by simpa using pn'.symm)
  have own' : ∀ {b}, (W.adopt a d).own b → W.own b := fun {b} q => by
    rcases q with q | q
    · rcases lv q with q | q
      · exact .inl q
      · exact .inr (q ▸ ha)
    · exact .inr q.1
  have x1 : Ext0 W (W.adopt a d) := ⟨rfl, ⟨[a], rfl⟩, fun b vs hl e => ⟨fun q => hl (own' q), e⟩, fun b vs e => e, fun b ob vs e => e, fun b ob vs e => e, fun b ws hl e => ⟨fun q => hl (own' q), e⟩, fun b ws hl e => ⟨fun q => hl (own' q), e⟩⟩
  have pl : ∀ {m : Nat} {b : Addr}, m < W.G.length → (W.p ++ [a])[m]? = some b → W.p[m]? = some b := fun hm e => by
    rwa [List.getElem?_append_left (by rw [S.len]; exact hm)] at e
  have gl : ∀ {m : Nat} {u : DO}, m < W.G.length → (W.G ++ [d])[m]? = some u → W.G[m]? = some u := fun hm e => by
    rwa [List.getElem?_append_left hm] at e
  have pa : ∀ {m : Nat} {b : Addr}, ¬ m < W.G.length → (W.p ++ [a])[m]? = some b → m = W.G.length ∧ b = a := fun {m b} hm e => by
    rw [List.getElem?_append_right (by rw [S.len]; omega)] at e
    have := (List.getElem?_eq_some_iff.mp e).1
    simp only [List.length_singleton, S.len] at this
    have z : m - W.p.length = 0 := by rw [S.len]; omega
    rw [z] at e
    exact ⟨by omega, by simpa using e.symm⟩
  refine ⟨⟨x.toExt0.trans x1, fun b u hh e => ?_, fun b ob ws e => x.fk _ _ _ e, fun b ob ws e => x.fd _ _ _ e⟩, by simp [Wd.adopt, S.len], fun n u e al => ?_, fun b hb => S.hid b hb.1, fun b hb z => ?_, fun m n u v b e1 e2 a1 a2 p1 p2 => ?_⟩
  · obtain ⟨h1, e1⟩ := x.h b u hh e
    exact ⟨⟨h1, fun z => n0 (z ▸ hh)⟩, e1⟩
  · have e' : (W.G ++ [d])[n]? = some u := e
    by_cases hn : n < W.G.length
    · obtain ⟨b, pb, r⟩ := S.at_ n u (gl hn e') al
      refine ⟨b, ?_, r.mono x1 rfl⟩
      show (W.p ++ [a])[n]? = some b
      rw [List.getElem?_append_left (by rw [S.len]; exact hn)]
      exact pb
    · rw [List.getElem?_append_right (by omega)] at e'
      have := (List.getElem?_eq_some_iff.mp e').1
      simp only [List.length_singleton] at this
      have z : n = W.G.length := by omega
      subst z
      have : u = d := by simpa using e'.symm
      subst this
      refine ⟨a, ?_, hr _ x1 rfl⟩
      show (W.p ++ [a])[W.G.length]? = some a
      rw [← S.len]; simp
  · rcases lv z with z | z
    · exact S.apart b hb.1 z
    · exact hb.2 z
  · have e1' : (W.G ++ [d])[m]? = some u := e1
    have e2' : (W.G ++ [d])[n]? = some v := e2
    have p1' : (W.p ++ [a])[m]? = some b := p1
    have p2' : (W.p ++ [a])[n]? = some b := p2
    by_cases hm : m < W.G.length
    · by_cases hn : n < W.G.length
      · exact S.inj m n u v b (gl hm e1') (gl hn e2') a1 a2 (pl hm p1') (pl hn p2')
      · obtain ⟨_, rfl⟩ := pa hn p2'
        exact absurd ⟨m, u, gl hm e1', a1, pl hm p1'⟩ nla
    · obtain ⟨rfl, rfl⟩ := pa hm p1'
      by_cases hn : n < W.G.length
      · exact absurd ⟨n, v, gl hn e2', a2, pl hn p2'⟩ nla
      · exact (pa hn p2').1.symm
/-- what the machine has made, handed on -/
theorem fin_made {W0 W : Wd} {o : Bool} {xs : List D} {vs : List V} {a : Addr} {Q : VK} (S : Sim W) (x : Ext W0 W) (h0 : W0.H a = none) (n0 : ¬ W0.hid a) (ha : W.hid a) (e : W.H a = some (.lst vs)) (r : DenL W xs vs)
    (h : Fin Den W0 E (mkL o xs W.G) Q) : Q (.ref a) W.H := by
  cases o with
  | false =>
    obtain ⟨x1, x2, S1⟩ := S.show_ x n0
    refine h (.ref a) (W.show_ a) x1 S1 rfl ?_
    simp only [Den]
    exact ⟨a, vs, rfl, S.show_not_own ha, e, DenL.mono0 x2 _ _ r⟩
  | true =>
    obtain ⟨x1, S1⟩ := S.adopt (d := .lst xs) x h0 n0 ha fun W' y e' => ⟨vs, by rw [e']; exact e, DenL.mono0 y _ _ r⟩
    refine h (.ref a) (W.adopt a (.lst xs)) x1 S1 rfl ?_
    simp only [Den]
    exact ⟨a, by show (W.p ++ [a])[W.G.length]? = some a; rw [← S.len]; simp, rfl⟩

/-- the slots of a comprehension's own names forgotten -/
@[simp] def wipeD (s : DSl) : List Nat → DSl
  | [] => s
  | v :: vs => (wipeD s vs).set v none
theorem wipe_sl {W : Wd} {σ : L2.St} {s : DSl} (L : Sl W σ s) : ∀ vs : List Nat, Sl W (wipe σ vs) (wipeD s vs)
  | [] => L
  | v :: vs => by
    have ih := wipe_sl L vs
    unfold wipe wipeD
    refine ⟨by simpa using ih.1, fun i d h => ?_⟩
    by_cases hi : v = i
    · subst hi
      rw [List.getElem?_set] at h
      simp only [if_true] at h
      split at h <;> cases h
    · rw [List.getElem?_set_ne hi] at h ⊢
      exact ih.2 i d h
/-- slots but those of vs are as they were -/
def Kp (vs : List Nat) (σ σ' : L2.St) : Prop := σ'.length = σ.length ∧ ∀ i, i ∉ vs → σ'[i]? = σ[i]?
theorem wipe_at {σ : L2.St} {i : Nat} : ∀ {vs : List Nat}, i ∈ vs → i < σ.length → (wipe σ vs)[i]? = some none
  | [], h, _ => by cases h
  | v :: vs, h, hl => by
    unfold wipe
    by_cases hi : v = i
    · subst hi
      exact List.getElem?_set_self (by rw [wipe_length]; exact hl)
    · rw [List.getElem?_set_ne hi]
      exact wipe_at ((List.mem_cons.mp h).resolve_left fun z => hi z.symm) hl
theorem wipe_kp {vs : List Nat} {σ σ' : L2.St} (h : Kp vs (wipe σ vs) σ') : wipe σ' vs = wipe σ vs := by
  apply List.ext_getElem?
  intro i
  have hl : σ'.length = σ.length := by rw [h.1, wipe_length]
  by_cases hi : i ∈ vs
  · by_cases hb : i < σ.length
    · rw [wipe_at hi hb, wipe_at hi (by rw [hl]; exact hb)]
    · rw [List.getElem?_eq_none (by rw [wipe_length, hl]; omega), List.getElem?_eq_none (by rw [wipe_length]; omega)]
  · rw [wipe_out hi]
    exact h.2 i hi
/-- a target that stores to the slots vs alone -/
structure DHOk (X : Cx) (E : XK) (tg : Expr) (vs : List Nat) (g : DG) : Prop where
  out : ∃ t : TG, PG X tg t ∧ ∀ (W : Wd) (σ : L2.St) (s : DSl) (d : D) (v : V) (Q : L2.St → Hp → Prop), W.K = X.K → Sim W → Sl W σ s → Den W d v → Fin (fun W s σ' => Sl W σ' s ∧ Kp vs σ σ') W E (g d s W.G) Q → t v σ W.H Q
theorem dh_name (i : Nat) {vs : List Nat} {x : Str} {pos : Pos} (hN : X.N.Nodup) (hv : i ∈ vs) (hi : X.N[i]? = some x := by rfl) (hx : Loc X.env.scope x := by first | exact Or.inl rfl | exact Or.inr rfl)
    (hf : X.fn x = true ∨ X.env.scope.names.lookup x = some .local := by first | exact .inl rfl | exact .inr rfl | assumption) : DHOk X E (.Name x pos) vs (gNm i) := by
  refine ⟨_, pg_name hN hi hx hf, fun W σ s d v Q hK S L r h => ?_⟩
  refine Fin.here (RA := fun W s σ' => Sl W σ' s ∧ Kp vs σ σ') S h ⟨L.set r, by simp, fun j hj => ?_⟩
  exact List.getElem?_set_ne (fun z => hj (by rw [← z]; exact hv))
structure DHsOk (X : Cx) (E : XK) (tgs : List Expr) (vs : List Nat) (g : DGs) : Prop where
  out : ∃ t : TGs, PGs X tgs t ∧ ∀ (W : Wd) (σ : L2.St) (s : DSl) (ds : List D) (us : List V) (Q : L2.St → Hp → Prop), W.K = X.K → Sim W → Sl W σ s → DenL W ds us → Fin (fun W s σ' => Sl W σ' s ∧ Kp vs σ σ') W E (g ds s W.G) Q → t us σ W.H Q
theorem dhs_nil {vs : List Nat} : DHsOk X E [] vs gNil := by
  refine ⟨_, pgs_nil, fun W σ s ds us Q hK S L r h => ?_⟩
  cases ds with
  | nil => exact ⟨by simpa [DenL] using r, Fin.here (RA := fun W s σ' => Sl W σ' s ∧ Kp vs σ σ') S h ⟨L, rfl, fun _ _ => rfl⟩⟩
  | cons d ds => exact h.elim
theorem dhs_cons {e : Expr} {es : List Expr} {vs : List Nat} {g : DG} {gs : DGs} (h1 : DHOk X E e vs g) (h2 : DHsOk X E es vs gs)
    (hs : (assignEach (e :: es) X.env).map (·.2) = assign e X.env :: (assignEach es X.env).map (·.2) := by rfl) : DHsOk X E (e :: es) vs (gCons g gs) := by
  obtain ⟨t, p, q⟩ := h1.out
  obtain ⟨t', p', q'⟩ := h2.out
  refine ⟨_, pgs_cons p p' hs, fun W σ s ds us Q hK S L r h => ?_⟩
  cases ds with
  | nil => exact h.elim
  | cons d ds =>
    simp only [DenL] at r
    obtain ⟨v, r', rfl, r1, r2⟩ := r
    refine ⟨v, r', rfl, q W σ s d v _ hK S L r1 (Fin.seq (RC := fun W s σ' => Sl W σ' s ∧ Kp vs σ σ') h fun s1 σ1 W1 x1 S1 L1 h1 => ?_)⟩
    refine q' W1 σ1 s1 ds r' Q (x1.k.trans hK) S1 L1.1 (DenL.mono x1 _ _ r2) ?_
    cases e1 : gs ds s1 W1.G with
    | ok a G => rw [e1] at h1; exact fun b W' y S' e' c => h1 b W' y S' e' ⟨c.1, c.2.1.trans L1.2.1, fun i hi => (c.2.2 i hi).trans (L1.2.2 i hi)⟩
    | ex a G => rw [e1] at h1; exact h1
    | stop => rw [e1] at h1; exact h1
theorem dh_tup {es : List Expr} {k : Nat} {vs : List Nat} {g : DGs} {n : Nat} {pos : Pos} (hc : X.calm = true) (h : DHsOk X E es vs g) (hn : (assignEach es X.env).length = n := by rfl) (hst : (assignEach es X.env).findIdx? (·.1) = none := by rfl) : DHOk X E (.Tuple es k pos) vs (gTup n g) := by
  obtain ⟨t, p, q⟩ := h.out
  refine ⟨_, pg_tup hc p hn hst, fun W σ s d v Q hK S L r h => ?_⟩
  unfold gTup at h
  split at h
  · rename_i xs e
    obtain ⟨a, us, rfl, h1, h2⟩ := tupOf_den r e
    split at h
    · rename_i c
      exact ⟨a, us, rfl, by rw [← hK]; exact h1, by rw [h2.len]; exact c, q W σ s xs us Q hK S L h2 h⟩
    · exact h.elim
  · exact h.elim
structure DTsOk (X : Cx) (E : XK) (ifs : List Expr) (f : DT) : Prop where
  out : ∃ t : TT, PTs X ifs t ∧ ∀ (W : Wd) (σ : L2.St) (s : DSl) (Q : Bool → Hp → Prop), W.K = X.K → Sim W → Sl W σ s → Fin RB W E (f s W.G) Q → t σ W.H Q
def dYes : DT := fun _ G => .ok true G
theorem dts_nil : DTsOk X E [] dYes := ⟨_, pts_nil, fun W σ s Q hK S L h => Fin.here (RA := RB) S h rfl⟩
theorem dts_one {c : Expr} {f : DT} (h : DTOk X E c f) : DTsOk X E [c] f := let ⟨t, p, q⟩ := h.out; ⟨t, pts_one p, q⟩
/-- the turns of a comprehension -/
@[simp] def lcL (g : DG) (tt : DT) (te : DE) (s0 : DSl) : List D → List D → DH → R (List D)
  | [], acc, G => .ok acc G
  | d :: ds, acc, G => (g d s0 G).bind fun s1 G => (tt s1 G).bind fun b G => if b = true then (te s1 G).bind fun y G => if acc.length < sizeLine then lcL g tt te s0 ds (acc ++ [y]) G else .stop else lcL g tt te s0 ds acc G
def dLc (o : Bool) (vs : List Nat) (it : DA) (g : DG) (tt : DT) (te : DE) : DE := fun s G => (it s G).bind fun ds G => (lcL g tt te (wipeD s vs) ds [] G).bind fun xs G => mkL o xs G
theorem Fin.iseq {W : Wd} {r : R (List D)} {k : List D → DH → R D} {Q : VK} {Q' : It → Hp → Prop} (h : Fin Den W E (r.bind k) Q)
    (hk : ∀ ds J W', Ext W W' → Sim W' → DWalk W' J ds → Fin Den W' E (k ds W'.G) Q → Q' J W'.H) : IFin W E r Q' := by
  cases r with
  | ok a G => exact fun J W' x S e q => hk a J W' x S q (by subst e; exact Fin.mono x h)
  | ex e G => exact h
  | stop => exact h
theorem lc_out {K : PySem.W.Frag} {o : Bool} {vs : List Nat} {fi : DA} {g : DG} {tt : DT} {te : DE} {wi : TI} {tg : TG} {ttt : TT} {tte : TE}
    (qi : ∀ (W : Wd) (σ : L2.St) (s : DSl) (R : It → Hp → Prop), W.K = K → Sim W → Sl W σ s → IFin W E (fi s W.G) R → wi σ W.H R)
    (qg : ∀ (W : Wd) (σ : L2.St) (s : DSl) (d : D) (v : V) (Q : L2.St → Hp → Prop), W.K = K → Sim W → Sl W σ s → Den W d v → Fin (fun W s σ' => Sl W σ' s ∧ Kp vs σ σ') W E (g d s W.G) Q → tg v σ W.H Q)
    (qt : ∀ (W : Wd) (σ : L2.St) (s : DSl) (Q : Bool → Hp → Prop), W.K = K → Sim W → Sl W σ s → Fin RB W E (tt s W.G) Q → ttt σ W.H Q)
    (qe : ∀ (W : Wd) (σ : L2.St) (s : DSl) (Q : VK), W.K = K → Sim W → Sl W σ s → Fin Den W E (te s W.G) Q → tte σ W.H Q) :
    ∀ (W : Wd) (σ : L2.St) (s : DSl) (Q : VK), W.K = K → Sim W → Sl W σ s → Fin Den W E (dLc o vs fi g tt te s W.G) Q → tLc wi tg ttt tte vs σ W.H Q := by
  intro W σ s Q hK S L h
  refine qi W σ s _ hK S L (Fin.iseq h fun ds J W0 x0 S0 w h0 => ?_)
  have hK0 : W0.K = K := x0.k.trans hK
  intro a ha
  have n0 : ¬ W0.hid a := fun z => S0.not_own_of_none ha (.inr z)
  have L0 : Sl W0 σ s := L.mono x0
  refine ⟨fun i m H => ∃ (W1 : Wd) (acc : List D) (va : List V), W1.H = H ∧ Ext W0 W1 ∧ Sim W1 ∧ W1.hid a ∧ W1.H a = some (.lst va) ∧ DenL W1 acc va ∧ m = ds.length - i ∧ i ≤ ds.length ∧
    Fin Den W0 E ((lcL g tt te (wipeD s vs) (ds.drop i) acc W1.G).bind fun xs G => mkL o xs G) Q, ⟨ds.length, ?_⟩, ?_⟩
  · obtain ⟨x1, S1⟩ := S0.hide (o := .lst []) ha trivial
    exact ⟨_, [], [], rfl, x1, S1, .inr rfl, upd_same, by simp [DenL], by simp, Nat.zero_le _, h0⟩
  · rintro i m H ⟨W1, acc, va, rfl, x1, S1, ha1, ea, ra, rfl, hi, h1⟩
    by_cases hlt : i < ds.length
    · have ed : ds.drop i = ds[i] :: ds.drop (i + 1) := List.drop_eq_getElem_cons hlt
      rw [ed] at h1
      obtain ⟨hgo, hyl⟩ := w.go i W1 ds[i] (List.getElem?_eq_getElem hlt) x1 S1
      refine .inr ⟨hgo, fun H' => ∃ (W1 : Wd) (acc : List D) (va : List V), W1.H = H' ∧ Ext W0 W1 ∧ Sim W1 ∧ W1.hid a ∧ W1.H a = some (.lst va) ∧ DenL W1 acc va ∧
        Fin Den W0 E ((lcL g tt te (wipeD s vs) (ds.drop (i + 1)) acc W1.G).bind fun xs G => mkL o xs G) Q, fun H' ⟨W', c, v, e1, e2, e3, e4, e5, e6, e7⟩ => ⟨ds.length - (i + 1), by omega, W', c, v, e1, e2, e3, e4, e5, e6, rfl, hlt, e7⟩, fun x H' y => ?_⟩
      obtain ⟨W2, rfl, x2, S2, eG, r2⟩ := hyl x H' y
      rw [← eG] at h1
      unfold lcL at h1
      rw [R.bind_assoc] at h1
      have x02 := x1.trans x2
      refine qg W2 (wipe σ vs) (wipeD s vs) _ x _ (x02.k.trans hK0) S2 (wipe_sl (L0.mono x02) vs) r2 (Fin.seq0 x02 h1 fun s3 σ3 W3 x3 S3 L3 h3 => ?_)
      refine ⟨wipe_kp L3.2, ?_⟩
      rw [R.bind_assoc] at h3
      have x03 := x02.trans x3
      refine qt W3 σ3 s3 _ (x03.k.trans hK0) S3 L3.1 (Fin.seq0 (RA := RB) x03 h3 fun b b' W4 x4 S4 eb h4 => ?_)
      obtain rfl : b = b' := eb
      have x04 := x03.trans x4
      have x14 := (x2.trans x3).trans x4
      cases b with
      | false =>
        rw [if_neg Bool.false_ne_true] at h4 ⊢
        obtain ⟨c1, c2⟩ := x14.h a _ ha1 ea
        exact ⟨W4, acc, va, rfl, x04, S4, c1, c2, DenL.mono x14 _ _ ra, h4⟩
      | true =>
        rw [if_pos rfl] at h4 ⊢
        rw [R.bind_assoc] at h4
        refine qe W4 σ3 s3 _ (x04.k.trans hK0) S4 (L3.1.mono x4) (Fin.seq0 (RA := Den) x04 h4 fun y v W5 x5 S5 d5 h5 => ?_)
        have x05 := x04.trans x5
        have x15 := x14.trans x5
        obtain ⟨c1, c2⟩ := x15.h a _ ha1 ea
        split at h5
        · rename_i c
          refine ⟨va, c2, by rw [ra.len]; exact c, ?_⟩
          obtain ⟨g1, g2, g3⟩ := S5.grow (o := .lst (va ++ [v])) x05 ha n0 c1 trivial
          exact ⟨_, acc ++ [y], va ++ [v], rfl, g1, g3, c1, upd_same, DenL.app (DenL.mono0 g2 _ _ (DenL.mono x15 _ _ ra)) (DenL.one (Den.mono0 g2 _ _ d5)), h5⟩
        · exact h5.elim
    · have ei : i = ds.length := by omega
      subst ei
      rw [List.drop_length] at h1
      exact .inl ⟨w.stop W1 x1 S1, fin_made S1 x1 ha n0 ha1 ea ra h1⟩
/-- the readings that a worth gives -/
def cE (K : PySem.W.Frag) (E : XK) (f : DE) : TE := fun σ H Q => ∃ (W : Wd) (s : DSl), W.H = H ∧ W.K = K ∧ Sim W ∧ Sl W σ s ∧ Fin Den W E (f s W.G) Q
def cT (K : PySem.W.Frag) (E : XK) (f : DT) : TT := fun σ H Q => ∃ (W : Wd) (s : DSl), W.H = H ∧ W.K = K ∧ Sim W ∧ Sl W σ s ∧ Fin RB W E (f s W.G) Q
def cG (K : PySem.W.Frag) (E : XK) (vs : List Nat) (g : DG) : TG := fun v σ H Q => ∃ (W : Wd) (s : DSl) (d : D), W.H = H ∧ W.K = K ∧ Sim W ∧ Sl W σ s ∧ Den W d v ∧ Fin (fun W s σ' => Sl W σ' s ∧ Kp vs σ σ') W E (g d s W.G) Q
theorem DEOk.pe {e : Expr} {f : DE} (h : DEOk X E e f) : PE X e (cE X.K E f) := by
  obtain ⟨t, p, q⟩ := h.out
  refine ⟨fun pins s σ H Q I h => ?_⟩
  obtain ⟨W, sl, rfl, hK, S, L, hf⟩ := h
  exact p.run pins s σ W.H Q I (q W σ sl Q hK S L hf)
theorem DTsOk.pt {es : List Expr} {f : DT} (h : DTsOk X E es f) : PTs X es (cT X.K E f) := by
  obtain ⟨t, p, q⟩ := h.out
  refine ⟨fun pins s σ H Q I h => ?_⟩
  obtain ⟨W, sl, rfl, hK, S, L, hf⟩ := h
  exact p.run pins s σ W.H Q I (q W σ sl Q hK S L hf)
theorem DHOk.pg {e : Expr} {vs : List Nat} {g : DG} (h : DHOk X E e vs g) : PG X e (cG X.K E vs g) := by
  obtain ⟨t, p, q⟩ := h.out
  refine ⟨fun pins s σ H v u Q I rv h => ?_⟩
  obtain ⟨W, sl, d, rfl, hK, S, L, hd, hf⟩ := h
  exact p.run pins s σ W.H v u Q I rv (q W σ sl d v Q hK S L hd hf)
/-- [elt for tg in iter if ..] -/
theorem de_lc (o : Bool) {elt tg iter : Expr} {ifs : List Expr} {scope : Scope} {own : List (Str × Nat)} {pos : Pos} {fi : DA} {g : DG} {tt : DT} {te : DE} (hc : X.calm = true) (hN : X.N.Nodup) (hi : DIOk X E tg iter fi) (ok : BlkOk X.N X.env.scope scope own)
    (hg : ∀ (s : Shared) (H : Hp) (C : Addr) (cl : List (Str × Addr)) (fp : List Addr), DHOk (X.blk s H scope (compEnvC scope cl C X.env) fp) E tg (own.map (·.2)) g)
    (ht : ∀ (s : Shared) (H : Hp) (C : Addr) (cl : List (Str × Addr)) (fp : List Addr), DTsOk (X.blk s H scope (compEnvC scope cl C X.env) fp) E ifs tt)
    (he : ∀ (s : Shared) (H : Hp) (C : Addr) (cl : List (Str × Addr)) (fp : List Addr), DEOk (X.blk s H scope (compEnvC scope cl C X.env) fp) E elt te)
    (hs : ∀ x, foldedSetIterable iter X.env x = pure x := by intro _; rfl) : DEOk X E (.ListComp elt [⟨tg, iter, ifs, 0⟩] scope pos) (dLc o (own.map (·.2)) fi g tt te) := by
  obtain ⟨wi, pi, qi⟩ := hi.out
  exact ⟨_, pe_lc (g := cG X.K E (own.map (·.2)) g) (tt := cT X.K E tt) (te := cE X.K E te) hc hN pi ok (fun s H C cl fp => (hg s H C cl fp).pg) (fun s H C cl fp => (ht s H C cl fp).pt) (fun s H C cl fp => (he s H C cl fp).pe) hs,
    lc_out qi (fun W σ s d v Q hK S L r h => ⟨W, s, d, rfl, hK, S, L, r, h⟩) (fun W σ s Q hK S L h => ⟨W, s, rfl, hK, S, L, h⟩) fun W σ s Q hK S L h => ⟨W, s, rfl, hK, S, L, h⟩⟩
/-- name = [..] on one line -/
theorem ds_setLc (o : Bool) (i : Nat) {y : Str} {py : Pos} {elt tg iter : Expr} {ifs : List Expr} {scope : Scope} {own : List (Str × Nat)} {pos spos : Pos} {fi : DA} {g : DG} {tt : DT} {te : DE} (hc : X.calm = true) (hN : X.N.Nodup)
    (hsw : swapsWith (.ListComp elt [⟨tg, iter, ifs, 0⟩] scope pos) (some (.Name y py)) spos.line X.env = pure true) (hi : DIOk X E tg iter fi) (ok : BlkOk X.N X.env.scope scope own)
    (hg : ∀ (s : Shared) (H : Hp) (C : Addr) (cl : List (Str × Addr)) (fp : List Addr), DHOk (X.blk s H scope (compEnvC scope cl C X.env) fp) E tg (own.map (·.2)) g)
    (ht : ∀ (s : Shared) (H : Hp) (C : Addr) (cl : List (Str × Addr)) (fp : List Addr), DTsOk (X.blk s H scope (compEnvC scope cl C X.env) fp) E ifs tt)
    (he : ∀ (s : Shared) (H : Hp) (C : Addr) (cl : List (Str × Addr)) (fp : List Addr), DEOk (X.blk s H scope (compEnvC scope cl C X.env) fp) E elt te)
    (hy : X.N[i]? = some y := by rfl) (hyl : X.env.scope.names.lookup y = some .local := by rfl) (hs : ∀ x, foldedSetIterable iter X.env x = pure x := by intro _; rfl) :
    DSOk X E (.Assign [.Name y py] (.ListComp elt [⟨tg, iter, ifs, 0⟩] scope pos) spos) (sAsg (dLc o (own.map (·.2)) fi g tt te) (gNm i)) := by
  obtain ⟨wi, pi, qi⟩ := hi.out
  exact ⟨_, ps_setLc (g := cG X.K E (own.map (·.2)) g) (tt := cT X.K E tt) (te := cE X.K E te) hc hN hy hyl hsw pi ok (fun s H C cl fp => (hg s H C cl fp).pg) (fun s H C cl fp => (ht s H C cl fp).pt) (fun s H C cl fp => (he s H C cl fp).pe) hs,
    asg_out (lc_out qi (fun W σ s d v Q hK S L r h => ⟨W, s, d, rfl, hK, S, L, r, h⟩) (fun W σ s Q hK S L h => ⟨W, s, rfl, hK, S, L, h⟩) fun W σ s Q hK S L h => ⟨W, s, rfl, hK, S, L, h⟩)
      fun W σ s d v Q hK S L r h => Fin.here (RA := RSl) S h (L.set r)⟩
end

/-! ### the end of a law -/
/-- the script -/
def scD (ns : List Int) : D := .frz (ns.map D.int)
theorem ints_den {W : Wd} : ∀ ns : List Int, DenL W (ns.map D.int) (ns.map V.int)
  | [] => by simp [DenL]
  | n :: ns => by
    simp only [List.map_cons, DenL]
    exact ⟨_, _, rfl, by simp [Den], ints_den ns⟩
end DL
end
/-! ==== DEq ==== -/
section
set_option Elab.async false
set_option linter.all false
set_option autoImplicit false
set_option maxRecDepth 100000
set_option maxHeartbeats 4000000
/-! DL: == and !=, in and not in, of data at any depth. -/
namespace DL
open PySem PySem.Spec PyProof.Rows L2

mutual
/-- how deep data is -/
@[simp] def dep : D → Nat
  | .tup xs => depL xs + 1
  | .ktup xs => depL xs + 1
  | .lst xs => depL xs + 1
  | .frz xs => depL xs + 1
  | _ => 0
@[simp] def depL : List D → Nat
  | [] => 0
  | x :: xs => max (dep x) (depL xs)
end
mutual
/-- == of data -/
@[simp] def eqD : D → D → Bool
  | .non, y => (match y with | .non => true | _ => false)
  | .bl a, y => (match y with | .bl b => a == b | .int j => (if a then 1 else 0) == j | _ => false)
  | .int i, y => (match y with | .bl b => i == (if b then 1 else 0) | .int j => i == j | _ => false)
  | .str a, y => (match y with | .str b => a == b | _ => false)
  | .tup xs, y => (match tupOf y with | some ys => eqL xs ys | none => false)
  | .ktup xs, y => (match tupOf y with | some ys => eqL xs ys | none => false)
  | .lst xs, y => (match valL y with | some ys => eqL xs ys | none => false)
  | .frz xs, y => (match valL y with | some ys => eqL xs ys | none => false)
  | _, _ => false
@[simp] def eqL : List D → List D → Bool
  | [], ys => ys.isEmpty
  | x :: xs, ys => (match ys with | y :: ys => eqD x y && eqL xs ys | [] => false)
end
mutual
/-- how data lies in the machine's heap -/
def Rq (h : Heap) : D → Value → Prop
  | .non, u => u = .none
  | .bl b, u => u = .bool b
  | .int i, u => ∃ t, u = .int i t
  | .str x, u => ∃ t, u = .str x t
  | .tup xs, u => ∃ a its, u = .ref a ∧ h.IsTuple a its ∧ RqL h xs its.toList
  | .ktup xs, u => ∃ a its, u = .ref a ∧ h.IsTuple a its ∧ RqL h xs its.toList
  | .lst xs, u => ∃ a its, u = .ref a ∧ h.IsList a its ∧ RqL h xs its.toList
  | .frz xs, u => ∃ a its, u = .ref a ∧ h.IsList a its ∧ RqL h xs its.toList
  | _, _ => False
def RqL (h : Heap) : List D → List Value → Prop
  | [], us => us = []
  | x :: xs, us => ∃ u r, us = u :: r ∧ Rq h x u ∧ RqL h xs r
end
theorem RqL.len {h : Heap} : ∀ {xs : List D} {us : List Value}, RqL h xs us → us.length = xs.length
  | [], _, r => by simp only [RqL] at r; subst r; rfl
  | _ :: xs, _, r => by
    simp only [RqL] at r
    obtain ⟨u, q, rfl, _, r2⟩ := r
    simp [RqL.len r2]
theorem tup_rq {h : Heap} {y : D} {u : Value} {ys : List D} (r : Rq h y u) (e : tupOf y = some ys) : ∃ a its, u = .ref a ∧ h.IsTuple a its ∧ RqL h ys its.toList := by
  cases y with
  | tup zs => cases e; simpa only [Rq] using r
  | ktup zs => cases e; simpa only [Rq] using r
  | _ => cases e
theorem lst_rq {h : Heap} {y : D} {u : Value} {ys : List D} (r : Rq h y u) (e : valL y = some ys) : ∃ a its, u = .ref a ∧ h.IsList a its ∧ RqL h ys its.toList := by
  cases y with
  | lst zs => cases e; simpa only [Rq] using r
  | frz zs => cases e; simpa only [Rq] using r
  | _ => cases e
theorem isList_inj {h : Heap} {a : Addr} {x y : Array Value} (p : h.IsList a x) (q : h.IsList a y) : x = y := by
  obtain ⟨o, e, _, n, d⟩ := p
  obtain ⟨o', e', _, n', d'⟩ := q
  rw [e] at e'; cases e'
  rw [d] at d'
  injection d'
theorem isTuple_inj {h : Heap} {a : Addr} {x y : Array Value} (p : h.IsTuple a x) (q : h.IsTuple a y) : x = y := by
  obtain ⟨o, e, _, n, d⟩ := p
  obtain ⟨o', e', _, n', d'⟩ := q
  rw [e] at e'; cases e'
  rw [d] at d'
  injection d'
theorem isList_tuple {h : Heap} {a : Addr} {x y : Array Value} (p : h.IsList a x) (q : h.IsTuple a y) : False := by
  obtain ⟨o, e, c, n, d⟩ := p
  obtain ⟨o', e', c', n', d'⟩ := q
  rw [e] at e'; cases e'
  rw [c] at c'
  injection c' with z
  exact absurd z (by decide)
theorem rq_eqT {h : Heap} (xs : List D) (ih : ∀ (ys : List D) (us : List Value), RqL h xs us → RqL h ys us → eqL xs ys = true) : ∀ (y : D) (a : Addr) (its : Array Value), h.IsTuple a its → RqL h xs its.toList → Rq h y (.ref a) → (match tupOf y with | some ys => eqL xs ys | none => false) = true
  | y, a, its, r1, r2, q => by
    cases e : tupOf y with
    | some ys =>
      obtain ⟨b, jts, eb, q1, q2⟩ := tup_rq q e
      cases eb
      obtain rfl := isTuple_inj r1 q1
      exact ih ys _ r2 q2
    | none =>
      exfalso
      cases y <;> simp only [Rq] at q <;> first
        | (cases e; done)
        | (obtain ⟨_, _, eb, q1, _⟩ := q; cases eb; exact isList_tuple q1 r1)
        | (obtain ⟨_, eb⟩ := q; cases eb)
        | (cases q; done)
theorem rq_eqS {h : Heap} (xs : List D) (ih : ∀ (ys : List D) (us : List Value), RqL h xs us → RqL h ys us → eqL xs ys = true) : ∀ (y : D) (a : Addr) (its : Array Value), h.IsList a its → RqL h xs its.toList → Rq h y (.ref a) → (match valL y with | some ys => eqL xs ys | none => false) = true
  | y, a, its, r1, r2, q => by
    cases e : valL y with
    | some ys =>
      obtain ⟨b, jts, eb, q1, q2⟩ := lst_rq q e
      cases eb
      obtain rfl := isList_inj r1 q1
      exact ih ys _ r2 q2
    | none =>
      exfalso
      cases y <;> simp only [Rq] at q <;> first
        | (cases e; done)
        | (obtain ⟨_, _, eb, q1, _⟩ := q; cases eb; exact isList_tuple r1 q1)
        | (obtain ⟨_, eb⟩ := q; cases eb)
        | (cases q; done)
mutual
/-- two readings of one thing are equal data -/
theorem rq_eq {h : Heap} : ∀ (x y : D) (u : Value), Rq h x u → Rq h y u → eqD x y = true
  | .non, y, u, r, q => by
    simp only [Rq] at r; subst r
    cases y <;> simp only [Rq] at q <;> first | (subst q; rfl; done) | rfl | (obtain ⟨_, e⟩ := q; cases e; done) | (cases q; done) | (obtain ⟨_, _, e, _⟩ := q; cases e)
  | .bl a, y, u, r, q => by
    simp only [Rq] at r; subst r
    cases y <;> simp only [Rq] at q <;> first | (cases q; simp [eqD]; done) | (obtain ⟨_, e⟩ := q; cases e; done) | (cases q; done) | (obtain ⟨_, _, e, _⟩ := q; cases e)
  | .int a, y, u, r, q => by
    simp only [Rq] at r; obtain ⟨t, rfl⟩ := r
    cases y <;> simp only [Rq] at q <;> first | (obtain ⟨_, e⟩ := q; cases e <;> simp [eqD]; done) | (cases q; done) | (obtain ⟨_, _, e, _⟩ := q; cases e)
  | .str a, y, u, r, q => by
    simp only [Rq] at r; obtain ⟨t, rfl⟩ := r
    cases y <;> simp only [Rq] at q <;> first | (obtain ⟨_, e⟩ := q; cases e <;> simp [eqD]; done) | (cases q; done) | (obtain ⟨_, _, e, _⟩ := q; cases e)
  | .tup xs, y, u, r, q => by
    simp only [Rq] at r; obtain ⟨a, its, rfl, r1, r2⟩ := r
    exact rq_eqT xs (fun ys us => rq_eqL xs ys us) y a its r1 r2 q
  | .ktup xs, y, u, r, q => by
    simp only [Rq] at r; obtain ⟨a, its, rfl, r1, r2⟩ := r
    exact rq_eqT xs (fun ys us => rq_eqL xs ys us) y a its r1 r2 q
  | .lst xs, y, u, r, q => by
    simp only [Rq] at r; obtain ⟨a, its, rfl, r1, r2⟩ := r
    exact rq_eqS xs (fun ys us => rq_eqL xs ys us) y a its r1 r2 q
  | .frz xs, y, u, r, q => by
    simp only [Rq] at r; obtain ⟨a, its, rfl, r1, r2⟩ := r
    exact rq_eqS xs (fun ys us => rq_eqL xs ys us) y a its r1 r2 q
  | .dK _, _, _, r, _ => by simp only [Rq] at r
  | .dT _, _, _, r, _ => by simp only [Rq] at r
  | .obj _, _, _, r, _ => by simp only [Rq] at r
theorem rq_eqL {h : Heap} : ∀ (xs ys : List D) (us : List Value), RqL h xs us → RqL h ys us → eqL xs ys = true
  | [], ys, us, r, q => by
    simp only [RqL] at r; subst r
    cases ys with
    | nil => simp [eqL]
    | cons y ys => simp only [RqL] at q; obtain ⟨_, _, e, _⟩ := q; cases e
  | x :: xs, ys, us, r, q => by
    simp only [RqL] at r; obtain ⟨u, r', rfl, r1, r2⟩ := r
    cases ys with
    | nil => simp only [RqL] at q; cases q
    | cons y ys =>
      simp only [RqL] at q
      obtain ⟨_, _, e, q1, q2⟩ := q
      cases e
      simp only [eqL]
      rw [rq_eq x y _ r1 q1, rq_eqL xs ys _ r2 q2]
      rfl
end
/-- the j-th of both -/
def prs (xs ys : List D) (j : Nat) : Bool := match xs[j]?, ys[j]? with
  | some x, some y => eqD x y
  | _, _ => false
theorem eqL_prs : ∀ xs ys : List D, ((List.range (min xs.length ys.length)).all (prs xs ys) && xs.length == ys.length) = eqL xs ys
  | [], [] => by simp [eqL]
  | [], y :: ys => by simp [eqL]
  | x :: xs, [] => by simp [eqL]
  | x :: xs, y :: ys => by
    have ih := eqL_prs xs ys
    have e : min (x :: xs).length (y :: ys).length = min xs.length ys.length + 1 := by simp only [List.length_cons]; omega
    rw [e, List.range_succ_eq_map, List.all_cons, List.all_map]
    have e2 : ((prs (x :: xs) (y :: ys)) ∘ Nat.succ) = prs xs ys := by
      funext j
      simp [prs]
    rw [e2]
    have e3 : ((x :: xs).length == (y :: ys).length) = (xs.length == ys.length) := by simp
    rw [e3]
    simp only [eqL, ← ih, prs, List.getElem?_cons_zero, Bool.and_assoc]
theorem eqL_len {xs ys : List D} (h : xs.length = ys.length) : (List.range xs.length).all (prs xs ys) = eqL xs ys := by
  rw [← eqL_prs xs ys, h]
  simp
theorem eqL_ne {xs ys : List D} (h : xs.length ≠ ys.length) : eqL xs ys = false := by
  rw [← eqL_prs xs ys]
  simp [h]
open SeqAt in
theorem eqAt_rqT (xs : List D) (ih : ∀ (ys : List D) (A : Around) (s : Shared) (us vs : List Value), RqL s.heap xs us → RqL s.heap ys vs → A.units + depL xs < cLine → ∀ j (h1 : j < us.length) (h2 : j < vs.length), EqAt A s us[j] vs[j] (prs xs ys j)) : ∀ (y : D) (A : Around) (s : Shared) (a : Addr) (v : Value) (its : Array Value), s.heap.IsTuple a its → RqL s.heap xs its.toList → Rq s.heap y v → A.units + (depL xs + 1) < cLine →
    EqAt A s (.ref a) v (match tupOf y with | some ys => eqL xs ys | none => false)
  | y, A, s, a, v, its, r1, r2, q, hu => by
    have hz : A.units < cLine := by omega
    cases e : tupOf y with
    | some ys =>
      obtain ⟨b, jts, rfl, q1, q2⟩ := tup_rq q e
      show EqAt A s (.ref a) (.ref b) (eqL xs ys)
      by_cases hab : a = b
      · subst hab
        obtain rfl := isTuple_inj r1 q1
        rw [rq_eqL xs ys _ r2 q2]
        exact EqAt.same _
      · have n1 : its.size = xs.length := by simpa using r2.len
        have n2 : jts.size = ys.length := by simpa using q2.len
        rw [← eqL_prs xs ys, ← n1, ← n2]
        refine EqAt.of_refs hab (RcAt.tuples r1 q1 hz fun j j1 j2 => ?_)
        have := ih ys A.in1 s its.toList jts.toList r2 q2 (by show A.units + 1 + depL xs < cLine; omega) j (by simpa using j1) (by simpa using j2)
        simpa using this
    | none =>
      dsimp only
      cases y <;> simp only [Rq] at q <;> first
        | (cases e; done)
        | (subst q; first | with_reducible exact EqAt.tuple_none r1 hz | with_reducible exact EqAt.tuple_bool _ r1 hz)
        | (obtain ⟨t, rfl⟩ := q; first | with_reducible exact EqAt.tuple_int _ _ r1 hz | with_reducible exact EqAt.tuple_str _ _ r1 hz)
        | (obtain ⟨a, its, rfl, q1, _⟩ := q; with_reducible exact EqAt.tuple_list r1 q1 hz)
open SeqAt in
theorem eqAt_rqS (xs : List D) (ih : ∀ (ys : List D) (A : Around) (s : Shared) (us vs : List Value), RqL s.heap xs us → RqL s.heap ys vs → A.units + depL xs < cLine → ∀ j (h1 : j < us.length) (h2 : j < vs.length), EqAt A s us[j] vs[j] (prs xs ys j)) : ∀ (y : D) (A : Around) (s : Shared) (a : Addr) (v : Value) (its : Array Value), s.heap.IsList a its → RqL s.heap xs its.toList → Rq s.heap y v → A.units + (depL xs + 1) < cLine →
    EqAt A s (.ref a) v (match valL y with | some ys => eqL xs ys | none => false)
  | y, A, s, a, v, its, r1, r2, q, hu => by
    have hz : A.units < cLine := by omega
    cases e : valL y with
    | some ys =>
      obtain ⟨b, jts, rfl, q1, q2⟩ := lst_rq q e
      show EqAt A s (.ref a) (.ref b) (eqL xs ys)
      by_cases hab : a = b
      · subst hab
        obtain rfl := isList_inj r1 q1
        rw [rq_eqL xs ys _ r2 q2]
        exact EqAt.same _
      · have n1 : its.size = xs.length := by simpa using r2.len
        have n2 : jts.size = ys.length := by simpa using q2.len
        by_cases hsz : its.size = jts.size
        · rw [← eqL_len (by omega : xs.length = ys.length), ← n1]
          refine EqAt.of_refs hab (RcAt.lists r1 q1 hsz hz fun j j1 j2 => ?_)
          have := ih ys A.in1 s its.toList jts.toList r2 q2 (by show A.units + 1 + depL xs < cLine; omega) j (by simpa using j1) (by simpa using j2)
          simpa using this
        · rw [eqL_ne (by omega : xs.length ≠ ys.length)]
          exact EqAt.of_refs hab (RcAt.lists_lengths r1 q1 (by simpa using hsz) hz)
    | none =>
      dsimp only
      cases y <;> simp only [Rq] at q <;> first
        | (cases e; done)
        | (subst q; first | with_reducible exact EqAt.list_none r1 hz | with_reducible exact EqAt.list_bool _ r1 hz)
        | (obtain ⟨t, rfl⟩ := q; first | with_reducible exact EqAt.list_int _ _ r1 hz | with_reducible exact EqAt.list_str _ _ r1 hz)
        | (obtain ⟨a, its, rfl, q1, _⟩ := q; with_reducible exact EqAt.list_tuple r1 q1 hz)
open SeqAt in
mutual
theorem eqAt_rq : ∀ (x y : D) (A : Around) (s : Shared) (u v : Value), Rq s.heap x u → Rq s.heap y v → A.units + dep x < cLine → A.units < cLine → EqAt A s u v (eqD x y)
  | .non, y, A, s, u, v, r, q, hu, hz => by
    simp only [Rq] at r; subst r
    cases y <;> simp only [Rq] at q <;> simp only [eqD] <;> first
      | (subst q; first | with_reducible exact EqAt.same _ | with_reducible exact EqAt.none_bool _)
      | (obtain ⟨t, rfl⟩ := q; first | with_reducible exact EqAt.none_int _ _ | with_reducible exact EqAt.none_str _ _)
      | (obtain ⟨a, its, rfl, q1, _⟩ := q; first | with_reducible exact EqAt.none_list q1 hz | with_reducible exact EqAt.none_tuple q1 hz)
  | .bl b, y, A, s, u, v, r, q, hu, hz => by
    simp only [Rq] at r; subst r
    cases y <;> simp only [Rq] at q <;> simp only [eqD] <;> first
      | (subst q; first | with_reducible exact EqAt.bool_none _ | with_reducible exact EqAt.bool_bool _ _)
      | (obtain ⟨t, rfl⟩ := q; first | with_reducible exact EqAt.bool_int _ _ _ | with_reducible exact EqAt.bool_str _ _ _)
      | (obtain ⟨a, its, rfl, q1, _⟩ := q; first | with_reducible exact EqAt.bool_list _ q1 hz | with_reducible exact EqAt.bool_tuple _ q1 hz)
  | .int i, y, A, s, u, v, r, q, hu, hz => by
    simp only [Rq] at r; obtain ⟨t, rfl⟩ := r
    cases y <;> simp only [Rq] at q <;> simp only [eqD] <;> first
      | (subst q; first | with_reducible exact EqAt.int_none _ _ | with_reducible exact EqAt.int_bool _ _ _)
      | (obtain ⟨t, rfl⟩ := q; first | with_reducible exact EqAt.int_int _ _ _ _ | with_reducible exact EqAt.int_str _ _ _ _)
      | (obtain ⟨a, its, rfl, q1, _⟩ := q; first | with_reducible exact EqAt.int_list _ _ q1 hz | with_reducible exact EqAt.int_tuple _ _ q1 hz)
  | .str i, y, A, s, u, v, r, q, hu, hz => by
    simp only [Rq] at r; obtain ⟨t, rfl⟩ := r
    cases y <;> simp only [Rq] at q <;> simp only [eqD] <;> first
      | (subst q; first | with_reducible exact EqAt.str_none _ _ | with_reducible exact EqAt.str_bool _ _ _)
      | (obtain ⟨t, rfl⟩ := q; first | with_reducible exact EqAt.str_int _ _ _ _ | with_reducible exact EqAt.str_str _ _ _ _)
      | (obtain ⟨a, its, rfl, q1, _⟩ := q; first | with_reducible exact EqAt.str_list _ _ q1 hz | with_reducible exact EqAt.str_tuple _ _ q1 hz)
  | .tup xs, y, A, s, u, v, r, q, hu, hz => by
    simp only [Rq] at r; obtain ⟨a, its, rfl, r1, r2⟩ := r
    exact eqAt_rqT xs (fun ys A s us vs => eqAt_rqL xs ys A s us vs) y A s a v its r1 r2 q (by simp only [dep] at hu; omega)
  | .ktup xs, y, A, s, u, v, r, q, hu, hz => by
    simp only [Rq] at r; obtain ⟨a, its, rfl, r1, r2⟩ := r
    exact eqAt_rqT xs (fun ys A s us vs => eqAt_rqL xs ys A s us vs) y A s a v its r1 r2 q (by simp only [dep] at hu; omega)
  | .lst xs, y, A, s, u, v, r, q, hu, hz => by
    simp only [Rq] at r; obtain ⟨a, its, rfl, r1, r2⟩ := r
    exact eqAt_rqS xs (fun ys A s us vs => eqAt_rqL xs ys A s us vs) y A s a v its r1 r2 q (by simp only [dep] at hu; omega)
  | .frz xs, y, A, s, u, v, r, q, hu, hz => by
    simp only [Rq] at r; obtain ⟨a, its, rfl, r1, r2⟩ := r
    exact eqAt_rqS xs (fun ys A s us vs => eqAt_rqL xs ys A s us vs) y A s a v its r1 r2 q (by simp only [dep] at hu; omega)
  | .dK _, _, _, _, _, _, r, _, _, _ => by simp only [Rq] at r
  | .dT _, _, _, _, _, _, r, _, _, _ => by simp only [Rq] at r
  | .obj _, _, _, _, _, _, r, _, _, _ => by simp only [Rq] at r
theorem eqAt_rqL : ∀ (xs ys : List D) (A : Around) (s : Shared) (us vs : List Value), RqL s.heap xs us → RqL s.heap ys vs → A.units + depL xs < cLine → ∀ j (h1 : j < us.length) (h2 : j < vs.length), EqAt A s us[j] vs[j] (prs xs ys j)
  | [], _, _, _, us, _, r, _, _, j, h1, _ => by simp only [RqL] at r; subst r; exact absurd h1 (Nat.not_lt_zero _)
  | x :: xs, [], _, _, _, vs, _, q, _, j, _, h2 => by simp only [RqL] at q; subst q; exact absurd h2 (Nat.not_lt_zero _)
  | x :: xs, y :: ys, A, s, us, vs, r, q, hu, j, h1, h2 => by
    simp only [RqL] at r q
    obtain ⟨u, us', rfl, r1, r2⟩ := r
    obtain ⟨v, vs', rfl, q1, q2⟩ := q
    simp only [depL] at hu
    cases j with
    | zero => exact eqAt_rq x y A s u v r1 q1 (by omega) (by omega)
    | succ j => exact eqAt_rqL xs ys A s us' vs' r2 q2 (by omega) j (Nat.lt_of_succ_lt_succ h1) (Nat.lt_of_succ_lt_succ h2)
end
/-- at the top -/
theorem eqTop {prog : Program} {w : World} {A : Around} {E : Value → Shared → Prop} {s : Shared} {x y : D} {u v : Value} {Q : Value → Shared → Prop} (r : Rq s.heap x u) (q : Rq s.heap y v) (hu : A.units + dep x < cLine) (hz : A.units < cLine) (h : Q (.bool (eqD x y)) s) :
    wpAny (model prog w) A (compareOp .Eq u v) Q E s := by
  suffices H : SeqAt.RcAt A s u v (eqD x y) from H prog w E Q h
  have viaT : ∀ {xs : List D} {a : Addr} {its : Array Value}, s.heap.IsTuple a its → RqL s.heap xs its.toList → A.units + (depL xs + 1) < cLine → SeqAt.RcAt A s (.ref a) v (match tupOf y with | some ys => eqL xs ys | none => false) := fun {xs a its} r1 r2 hu => by
    cases e : tupOf y with
    | some ys =>
      obtain ⟨b, jts, rfl, q1, q2⟩ := tup_rq q e
      have n1 : its.size = xs.length := by simpa using r2.len
      have n2 : jts.size = ys.length := by simpa using q2.len
      show SeqAt.RcAt A s (.ref a) (.ref b) (eqL xs ys)
      rw [← eqL_prs xs ys, ← n1, ← n2]
      refine SeqAt.RcAt.tuples r1 q1 hz fun j j1 j2 => ?_
      have := eqAt_rqL xs ys A.in1 s its.toList jts.toList r2 q2 (by show A.units + 1 + depL xs < cLine; omega) j (by simpa using j1) (by simpa using j2)
      simpa using this
    | none =>
      dsimp only
      cases y <;> simp only [Rq] at q <;> first
        | (cases e; done)
        | (subst q; first | with_reducible exact SeqAt.RcAt.tuple_none r1 hz | with_reducible exact SeqAt.RcAt.tuple_bool _ r1 hz)
        | (obtain ⟨t, rfl⟩ := q; first | with_reducible exact SeqAt.RcAt.tuple_int _ _ r1 hz | with_reducible exact SeqAt.RcAt.tuple_str _ _ r1 hz)
        | (obtain ⟨a, its, rfl, q1, _⟩ := q; with_reducible exact SeqAt.RcAt.tuple_list r1 q1 hz)
  have viaS : ∀ {xs : List D} {a : Addr} {its : Array Value}, s.heap.IsList a its → RqL s.heap xs its.toList → A.units + (depL xs + 1) < cLine → SeqAt.RcAt A s (.ref a) v (match valL y with | some ys => eqL xs ys | none => false) := fun {xs a its} r1 r2 hu => by
    cases e : valL y with
    | some ys =>
      obtain ⟨b, jts, rfl, q1, q2⟩ := lst_rq q e
      have n1 : its.size = xs.length := by simpa using r2.len
      have n2 : jts.size = ys.length := by simpa using q2.len
      show SeqAt.RcAt A s (.ref a) (.ref b) (eqL xs ys)
      by_cases hsz : its.size = jts.size
      · rw [← eqL_len (by omega : xs.length = ys.length), ← n1]
        refine SeqAt.RcAt.lists r1 q1 hsz hz fun j j1 j2 => ?_
        have := eqAt_rqL xs ys A.in1 s its.toList jts.toList r2 q2 (by show A.units + 1 + depL xs < cLine; omega) j (by simpa using j1) (by simpa using j2)
        simpa using this
      · rw [eqL_ne (by omega : xs.length ≠ ys.length)]
        exact SeqAt.RcAt.lists_lengths r1 q1 (by simpa using hsz) hz
    | none =>
      dsimp only
      cases y <;> simp only [Rq] at q <;> first
        | (cases e; done)
        | (subst q; first | with_reducible exact SeqAt.RcAt.list_none r1 hz | with_reducible exact SeqAt.RcAt.list_bool _ r1 hz)
        | (obtain ⟨t, rfl⟩ := q; first | with_reducible exact SeqAt.RcAt.list_int _ _ r1 hz | with_reducible exact SeqAt.RcAt.list_str _ _ r1 hz)
        | (obtain ⟨a, its, rfl, q1, _⟩ := q; with_reducible exact SeqAt.RcAt.list_tuple r1 q1 hz)
  cases x with
  | non =>
    simp only [Rq] at r; subst r
    cases y <;> simp only [Rq] at q <;> simp only [eqD] <;> first
      | (subst q; first | with_reducible exact SeqAt.RcAt.none_none | with_reducible exact SeqAt.RcAt.none_bool _)
      | (obtain ⟨t, rfl⟩ := q; first | with_reducible exact SeqAt.RcAt.none_int _ _ | with_reducible exact SeqAt.RcAt.none_str _ _)
      | (obtain ⟨a, its, rfl, q1, _⟩ := q; first | with_reducible exact SeqAt.RcAt.none_list q1 hz | with_reducible exact SeqAt.RcAt.none_tuple q1 hz)
  | bl b =>
    simp only [Rq] at r; subst r
    cases y <;> simp only [Rq] at q <;> simp only [eqD] <;> first
      | (subst q; first | with_reducible exact SeqAt.RcAt.bool_none _ | with_reducible exact SeqAt.RcAt.bool_bool _ _)
      | (obtain ⟨t, rfl⟩ := q; first | with_reducible exact SeqAt.RcAt.bool_int _ _ _ | with_reducible exact SeqAt.RcAt.bool_str _ _ _)
      | (obtain ⟨a, its, rfl, q1, _⟩ := q; first | with_reducible exact SeqAt.RcAt.bool_list _ q1 hz | with_reducible exact SeqAt.RcAt.bool_tuple _ q1 hz)
  | int i =>
    simp only [Rq] at r; obtain ⟨t, rfl⟩ := r
    cases y <;> simp only [Rq] at q <;> simp only [eqD] <;> first
      | (subst q; first | with_reducible exact SeqAt.RcAt.int_none _ _ | with_reducible exact SeqAt.RcAt.int_bool _ _ _)
      | (obtain ⟨t, rfl⟩ := q; first | with_reducible exact SeqAt.RcAt.int_int _ _ _ _ | with_reducible exact SeqAt.RcAt.int_str _ _ _ _)
      | (obtain ⟨a, its, rfl, q1, _⟩ := q; first | with_reducible exact SeqAt.RcAt.int_list _ _ q1 hz | with_reducible exact SeqAt.RcAt.int_tuple _ _ q1 hz)
  | str i =>
    simp only [Rq] at r; obtain ⟨t, rfl⟩ := r
    cases y <;> simp only [Rq] at q <;> simp only [eqD] <;> first
      | (subst q; first | with_reducible exact SeqAt.RcAt.str_none _ _ | with_reducible exact SeqAt.RcAt.str_bool _ _ _)
      | (obtain ⟨t, rfl⟩ := q; first | with_reducible exact SeqAt.RcAt.str_int _ _ _ _ | with_reducible exact SeqAt.RcAt.str_str _ _ _ _)
      | (obtain ⟨a, its, rfl, q1, _⟩ := q; first | with_reducible exact SeqAt.RcAt.str_list _ _ q1 hz | with_reducible exact SeqAt.RcAt.str_tuple _ _ q1 hz)
  | tup xs => simp only [Rq] at r; obtain ⟨a, its, rfl, r1, r2⟩ := r; exact viaT r1 r2 (by simpa only [dep] using hu)
  | ktup xs => simp only [Rq] at r; obtain ⟨a, its, rfl, r1, r2⟩ := r; exact viaT r1 r2 (by simpa only [dep] using hu)
  | lst xs => simp only [Rq] at r; obtain ⟨a, its, rfl, r1, r2⟩ := r; exact viaS r1 r2 (by simpa only [dep] using hu)
  | frz xs => simp only [Rq] at r; obtain ⟨a, its, rfl, r1, r2⟩ := r; exact viaS r1 r2 (by simpa only [dep] using hu)
  | _ => simp only [Rq] at r
theorem neTop {prog : Program} {w : World} {A : Around} {E : Value → Shared → Prop} {s : Shared} {x y : D} {u v : Value} {Q : Value → Shared → Prop} (r : Rq s.heap x u) (q : Rq s.heap y v) (hu : A.units + dep x < cLine) (hz : A.units < cLine) (h : Q (.bool (!eqD x y)) s) :
    wpAny (model prog w) A (compareOp .NotEq u v) Q E s := by
  suffices H : SeqAt.RcNeAt A s u v (!eqD x y) from H prog w E Q h
  have viaT : ∀ {xs : List D} {a : Addr} {its : Array Value}, s.heap.IsTuple a its → RqL s.heap xs its.toList → A.units + (depL xs + 1) < cLine → SeqAt.RcNeAt A s (.ref a) v (!(match tupOf y with | some ys => eqL xs ys | none => false)) := fun {xs a its} r1 r2 hu => by
    cases e : tupOf y with
    | some ys =>
      obtain ⟨b, jts, rfl, q1, q2⟩ := tup_rq q e
      have n1 : its.size = xs.length := by simpa using r2.len
      have n2 : jts.size = ys.length := by simpa using q2.len
      show SeqAt.RcNeAt A s (.ref a) (.ref b) (!eqL xs ys)
      rw [← eqL_prs xs ys, ← n1, ← n2]
      refine SeqAt.RcNeAt.tuples r1 q1 hz fun j j1 j2 => ?_
      have := eqAt_rqL xs ys A.in1 s its.toList jts.toList r2 q2 (by show A.units + 1 + depL xs < cLine; omega) j (by simpa using j1) (by simpa using j2)
      simpa using this
    | none =>
      dsimp only
      simp only [Bool.not_false]
      cases y <;> simp only [Rq] at q <;> first
        | (cases e; done)
        | (subst q; first | with_reducible exact SeqAt.RcNeAt.tuple_none r1 hz | with_reducible exact SeqAt.RcNeAt.tuple_bool _ r1 hz)
        | (obtain ⟨t, rfl⟩ := q; first | with_reducible exact SeqAt.RcNeAt.tuple_int _ _ r1 hz | with_reducible exact SeqAt.RcNeAt.tuple_str _ _ r1 hz)
        | (obtain ⟨a, its, rfl, q1, _⟩ := q; with_reducible exact SeqAt.RcNeAt.tuple_list r1 q1 hz)
  have viaS : ∀ {xs : List D} {a : Addr} {its : Array Value}, s.heap.IsList a its → RqL s.heap xs its.toList → A.units + (depL xs + 1) < cLine → SeqAt.RcNeAt A s (.ref a) v (!(match valL y with | some ys => eqL xs ys | none => false)) := fun {xs a its} r1 r2 hu => by
    cases e : valL y with
    | some ys =>
      obtain ⟨b, jts, rfl, q1, q2⟩ := lst_rq q e
      have n1 : its.size = xs.length := by simpa using r2.len
      have n2 : jts.size = ys.length := by simpa using q2.len
      show SeqAt.RcNeAt A s (.ref a) (.ref b) (!eqL xs ys)
      by_cases hsz : its.size = jts.size
      · rw [← eqL_len (by omega : xs.length = ys.length), ← n1]
        refine SeqAt.RcNeAt.lists r1 q1 hsz hz fun j j1 j2 => ?_
        have := eqAt_rqL xs ys A.in1 s its.toList jts.toList r2 q2 (by show A.units + 1 + depL xs < cLine; omega) j (by simpa using j1) (by simpa using j2)
        simpa using this
      · rw [eqL_ne (by omega : xs.length ≠ ys.length)]
        exact SeqAt.RcNeAt.lists_lengths r1 q1 (by simpa using hsz) hz
    | none =>
      dsimp only
      simp only [Bool.not_false]
      cases y <;> simp only [Rq] at q <;> first
        | (cases e; done)
        | (subst q; first | with_reducible exact SeqAt.RcNeAt.list_none r1 hz | with_reducible exact SeqAt.RcNeAt.list_bool _ r1 hz)
        | (obtain ⟨t, rfl⟩ := q; first | with_reducible exact SeqAt.RcNeAt.list_int _ _ r1 hz | with_reducible exact SeqAt.RcNeAt.list_str _ _ r1 hz)
        | (obtain ⟨a, its, rfl, q1, _⟩ := q; with_reducible exact SeqAt.RcNeAt.list_tuple r1 q1 hz)
  cases x with
  | non =>
    simp only [Rq] at r; subst r
    cases y <;> simp only [Rq] at q <;> simp only [eqD, Bool.not_false, Bool.not_true] <;> first
      | (subst q; first | with_reducible exact SeqAt.RcNeAt.none_none | with_reducible exact SeqAt.RcNeAt.none_bool _)
      | (obtain ⟨t, rfl⟩ := q; first | with_reducible exact SeqAt.RcNeAt.none_int _ _ | with_reducible exact SeqAt.RcNeAt.none_str _ _)
      | (obtain ⟨a, its, rfl, q1, _⟩ := q; first | with_reducible exact SeqAt.RcNeAt.none_list q1 hz | with_reducible exact SeqAt.RcNeAt.none_tuple q1 hz)
  | bl b =>
    simp only [Rq] at r; subst r
    cases y <;> simp only [Rq] at q <;> simp only [eqD, Bool.not_false, Bool.not_true] <;> first
      | (subst q; first | with_reducible exact SeqAt.RcNeAt.bool_none _ | with_reducible exact SeqAt.RcNeAt.bool_bool _ _)
      | (obtain ⟨t, rfl⟩ := q; first | with_reducible exact SeqAt.RcNeAt.bool_int _ _ _ | with_reducible exact SeqAt.RcNeAt.bool_str _ _ _)
      | (obtain ⟨a, its, rfl, q1, _⟩ := q; first | with_reducible exact SeqAt.RcNeAt.bool_list _ q1 hz | with_reducible exact SeqAt.RcNeAt.bool_tuple _ q1 hz)
  | int i =>
    simp only [Rq] at r; obtain ⟨t, rfl⟩ := r
    cases y <;> simp only [Rq] at q <;> simp only [eqD, Bool.not_false, Bool.not_true] <;> first
      | (subst q; first | with_reducible exact SeqAt.RcNeAt.int_none _ _ | with_reducible exact SeqAt.RcNeAt.int_bool _ _ _)
      | (obtain ⟨t, rfl⟩ := q; first | with_reducible exact SeqAt.RcNeAt.int_int _ _ _ _ | with_reducible exact SeqAt.RcNeAt.int_str _ _ _ _)
      | (obtain ⟨a, its, rfl, q1, _⟩ := q; first | with_reducible exact SeqAt.RcNeAt.int_list _ _ q1 hz | with_reducible exact SeqAt.RcNeAt.int_tuple _ _ q1 hz)
  | str i =>
    simp only [Rq] at r; obtain ⟨t, rfl⟩ := r
    cases y <;> simp only [Rq] at q <;> simp only [eqD, Bool.not_false, Bool.not_true] <;> first
      | (subst q; first | with_reducible exact SeqAt.RcNeAt.str_none _ _ | with_reducible exact SeqAt.RcNeAt.str_bool _ _ _)
      | (obtain ⟨t, rfl⟩ := q; first | with_reducible exact SeqAt.RcNeAt.str_int _ _ _ _ | with_reducible exact SeqAt.RcNeAt.str_str _ _ _ _)
      | (obtain ⟨a, its, rfl, q1, _⟩ := q; first | with_reducible exact SeqAt.RcNeAt.str_list _ _ q1 hz | with_reducible exact SeqAt.RcNeAt.str_tuple _ _ q1 hz)
  | tup xs => simp only [Rq] at r; obtain ⟨a, its, rfl, r1, r2⟩ := r; exact viaT r1 r2 (by simpa only [dep] using hu)
  | ktup xs => simp only [Rq] at r; obtain ⟨a, its, rfl, r1, r2⟩ := r; exact viaT r1 r2 (by simpa only [dep] using hu)
  | lst xs => simp only [Rq] at r; obtain ⟨a, its, rfl, r1, r2⟩ := r; exact viaS r1 r2 (by simpa only [dep] using hu)
  | frz xs => simp only [Rq] at r; obtain ⟨a, its, rfl, r1, r2⟩ := r; exact viaS r1 r2 (by simpa only [dep] using hu)
  | _ => simp only [Rq] at r
end DL
end
/-! ==== DBlt ==== -/
section
set_option Elab.async false
set_option linter.all false
set_option autoImplicit false
set_option maxRecDepth 100000
set_option maxHeartbeats 4000000
/-! DL: == by values, in, built-in functions, methods, stores to a place. -/
namespace DL
open PySem PySem.Spec PyProof.Rows L2

section
variable {X : Cx} {E : XK}

/-! ### data as it stands in the machine's heap -/
mutual
/-- neither a dict nor a thing that may be changed within -/
@[simp] def pln : D → Bool
  | .tup xs => plnL xs
  | .ktup xs => plnL xs
  | .lst xs => plnL xs
  | .frz xs => plnL xs
  | .dK _ => false
  | .dT _ => false
  | .obj _ => false
  | _ => true
@[simp] def plnL : List D → Bool
  | [] => true
  | x :: xs => pln x && plnL xs
end
theorem sq_isList {pins : List (Addr × Obj)} {σ : L2.St} {H : Hp} {s : Shared} {a : Addr} {vs : List V} (I : Inv X pins σ H s) (h : SqL X.K H a vs) : ∃ its : Array Value, Vals vs its.toList ∧ s.heap.IsList a its := by
  obtain ⟨its, r, ⟨o, n, e, c, _, d⟩, _⟩ := I.list h
  exact ⟨its.toArray, by simpa using r, o, e, c, n, d⟩
theorem sq_isTuple {pins : List (Addr × Obj)} {σ : L2.St} {H : Hp} {s : Shared} {a : Addr} {vs : List V} (I : Inv X pins σ H s) (h : SqT X.K H a vs) : ∃ its : Array Value, Vals vs its.toList ∧ s.heap.IsTuple a its := by
  obtain ⟨its, r, ⟨o, e, c, n, d⟩, _⟩ := I.tuple h
  exact ⟨its.toArray, by simpa using r, o, e, c, n, d⟩
mutual
theorem den_rq {pins : List (Addr × Obj)} {σ : L2.St} {s : Shared} {W : Wd} (I : Inv X pins σ W.H s) (S : Sim W) (hK : W.K = X.K) : ∀ (d : D) (v : V) (u : Value), pln d = true → Den W d v → RelV v u → Rq s.heap d u
  | .non, v, u, _, h, r => by simp only [Den] at h; subst h; simp only [Rq]; exact r
  | .bl b, v, u, _, h, r => by simp only [Den] at h; subst h; simp only [Rq]; exact r
  | .int b, v, u, _, h, r => by simp only [Den] at h; subst h; simp only [Rq]; exact r
  | .str b, v, u, _, h, r => by simp only [Den] at h; subst h; simp only [Rq]; exact r
  | .tup xs, v, u, p, h, r => by
    simp only [pln] at p
    obtain ⟨a, vs, rfl, h1, h2⟩ := tup_den h
    obtain rfl : u = .ref a := r
    obtain ⟨its, rv, l⟩ := sq_isTuple I (by rw [← hK]; exact h1)
    simp only [Rq]
    exact ⟨a, its, rfl, l, den_rqL I S hK xs vs _ p h2 rv⟩
  | .ktup xs, v, u, p, h, r => by
    simp only [pln] at p
    obtain ⟨a, vs, rfl, h1, h2⟩ := ktup_den h
    obtain rfl : u = .ref a := r
    obtain ⟨its, rv, l⟩ := sq_isTuple I (by rw [← hK]; exact h1)
    simp only [Rq]
    exact ⟨a, its, rfl, l, den_rqL I S hK xs vs _ p h2 rv⟩
  | .lst xs, v, u, p, h, r => by
    simp only [pln] at p
    obtain ⟨a, vs, rfl, h1, h2⟩ := lstOf_den S h (by rfl : lstOf W.G (.lst xs) = some xs)
    obtain rfl : u = .ref a := r
    obtain ⟨its, rv, l⟩ := sq_isList I (by rw [← hK]; exact h1)
    simp only [Rq]
    exact ⟨a, its, rfl, l, den_rqL I S hK xs vs _ p h2 rv⟩
  | .frz xs, v, u, p, h, r => by
    simp only [pln] at p
    obtain ⟨a, vs, rfl, h1, h2⟩ := lstOf_den S h (by rfl : lstOf W.G (.frz xs) = some xs)
    obtain rfl : u = .ref a := r
    obtain ⟨its, rv, l⟩ := sq_isList I (by rw [← hK]; exact h1)
    simp only [Rq]
    exact ⟨a, its, rfl, l, den_rqL I S hK xs vs _ p h2 rv⟩
  | .dK _, _, _, p, _, _ => by simp only [pln] at p; cases p
  | .dT _, _, _, p, _, _ => by simp only [pln] at p; cases p
  | .obj _, _, _, p, _, _ => by simp only [pln] at p; cases p
theorem den_rqL {pins : List (Addr × Obj)} {σ : L2.St} {s : Shared} {W : Wd} (I : Inv X pins σ W.H s) (S : Sim W) (hK : W.K = X.K) : ∀ (ds : List D) (vs : List V) (us : List Value), plnL ds = true → DenL W ds vs → Vals vs us → RqL s.heap ds us
  | [], vs, us, _, h, r => by simp only [DenL] at h; subst h; cases r; simp [RqL]
  | d :: ds, vs, us, p, h, r => by
    simp only [plnL, Bool.and_eq_true] at p
    simp only [DenL] at h
    obtain ⟨v, vs', rfl, h1, h2⟩ := h
    cases r with
    | cons r1 r2 =>
      simp only [RqL]
      exact ⟨_, _, rfl, den_rq I S hK d v _ p.1 h1 r1, den_rqL I S hK ds vs' _ p.2 h2 r2⟩
end
/-- a thing that may be changed, as it stands -/
def der (G : DH) : D → D
  | .obj n => match G[n]? with
    | some (.lst xs) => .lst xs
    | some (.dK kvs) => .dK kvs
    | some (.dT kvs) => .dT kvs
    | some (.lkK kvs) => .dK kvs
    | some (.lkT kvs) => .dT kvs
    | _ => .obj n
  | d => d
theorem der_rq {pins : List (Addr × Obj)} {σ : L2.St} {s : Shared} {W : Wd} (I : Inv X pins σ W.H s) (S : Sim W) (hK : W.K = X.K) {d : D} {v : V} {u : Value} (p : pln (der W.G d) = true) (h : Den W d v) (r : RelV v u) : Rq s.heap (der W.G d) u := by
  cases d with
  | obj n =>
    cases e : W.G[n]? with
    | none => simp only [der, e, pln] at p; cases p
    | some o =>
      cases o with
      | lst xs =>
        simp only [der, e, pln] at p ⊢
        obtain ⟨a, vs, rfl, h1, h2⟩ := lstOf_den S h (show lstOf W.G (.obj n) = some xs by simp only [lstOf, e])
        obtain rfl : u = .ref a := r
        obtain ⟨its, rv, l⟩ := sq_isList I (by rw [← hK]; exact h1)
        simp only [Rq]
        exact ⟨a, its, rfl, l, den_rqL I S hK xs vs _ p h2 rv⟩
      | _ => simp only [der, e, pln] at p; cases p
  | _ => exact den_rq I S hK _ v u p h r
/-- an operation by what the machine does -/
theorem OpOk.of {f : Value → Value → Sem Value} {F : D → D → DH → R D}
    (h : ∀ (pins : List (Addr × Obj)) (s : Shared) (σ : L2.St) (W : Wd) (x y : D) (v w : V) (u1 u2 : Value) (Q : VK), Inv X pins σ W.H s → Sim W → W.K = X.K → Den W x v → Den W y w → RelV v u1 → RelV w u2 → Fin Den W E (F x y W.G) Q →
      wpAny (model X.prog X.w) X.A (f u1 u2) (EP X pins σ Q) X.xe s) : OpOk X E f F := by
  refine ⟨fun v w H Q => ∃ (W : Wd) (x y : D), W.H = H ∧ Sim W ∧ W.K = X.K ∧ Den W x v ∧ Den W y w ∧ Fin Den W E (F x y W.G) Q, ?_, fun W x y v w Q hK S dx dy hf => ⟨W, x, y, rfl, S, hK, dx, dy, hf⟩⟩
  rintro pins s σ H v w u1 u2 Q I r1 r2 ⟨W, x, y, rfl, S, hK, dx, dy, hf⟩
  exact h pins s σ W x y v w u1 u2 Q I S hK dx dy r1 r2 hf
theorem fin_ep {pins : List (Addr × Obj)} {σ : L2.St} {W : Wd} {s : Shared} {d : D} {v : V} {u : Value} {Q : VK} (I : Inv X pins σ W.H s) (S : Sim W) (h : Fin Den W E (.ok d W.G) Q) (r : Den W d v) (rv : RelV v u) : EP X pins σ Q u s := ⟨v, W.H, I, rv, h.here S r⟩
def eqOp (x y : D) (G : DH) : R D := if pln (der G x) = true ∧ pln (der G y) = true ∧ dep (der G x) ≤ 60 then .ok (.bl (eqD (der G x) (der G y))) G else .stop
def neOp (x y : D) (G : DH) : R D := if pln (der G x) = true ∧ pln (der G y) = true ∧ dep (der G x) ≤ 60 then .ok (.bl (!eqD (der G x) (der G y))) G else .stop
theorem op_eqO {k : Nat} (hr : Rm k X.A) : OpOk X E (compareOp .Eq) eqOp := by
  refine OpOk.of fun pins s σ W x y v w u1 u2 Q I S hK dx dy r1 r2 h => ?_
  unfold eqOp at h
  split at h
  · rename_i c
    have hu := hr.u200
    exact eqTop (der_rq I S hK c.1 dx r1) (der_rq I S hK c.2.1 dy r2) (by omega) (by omega) (fin_ep (v := .bl _) I S h (by simp [Den]) rfl)
  · exact h.elim
theorem op_neO {k : Nat} (hr : Rm k X.A) : OpOk X E (compareOp .NotEq) neOp := by
  refine OpOk.of fun pins s σ W x y v w u1 u2 Q I S hK dx dy r1 r2 h => ?_
  unfold neOp at h
  split at h
  · rename_i c
    have hu := hr.u200
    exact neTop (der_rq I S hK c.1 dx r1) (der_rq I S hK c.2.1 dy r2) (by omega) (by omega) (fin_ep (v := .bl _) I S h (by simp [Den]) rfl)
  · exact h.elim

/-! ### in, not in -/
mutual
/-- two readings of one thing: == cannot tell them -/
theorem rq_cong {h : Heap} : ∀ (x y : D) (u : Value), Rq h x u → Rq h y u → ∀ z, eqD x z = eqD y z
  | .non, y, u, r, q, z => by
    simp only [Rq] at r; subst r
    cases y <;> simp only [Rq] at q <;> first | rfl | (obtain ⟨_, e⟩ := q; cases e; done) | (cases q; done) | (obtain ⟨_, _, e, _⟩ := q; cases e)
  | .bl a, y, u, r, q, z => by
    simp only [Rq] at r; subst r
    cases y <;> simp only [Rq] at q <;> first | (cases q; rfl; done) | (obtain ⟨_, e⟩ := q; cases e; done) | (cases q; done) | (obtain ⟨_, _, e, _⟩ := q; cases e)
  | .int a, y, u, r, q, z => by
    simp only [Rq] at r; obtain ⟨t, rfl⟩ := r
    cases y <;> simp only [Rq] at q <;> first | (obtain ⟨_, e⟩ := q; cases e <;> rfl; done) | (cases q; done) | (obtain ⟨_, _, e, _⟩ := q; cases e)
  | .str a, y, u, r, q, z => by
    simp only [Rq] at r; obtain ⟨t, rfl⟩ := r
    cases y <;> simp only [Rq] at q <;> first | (obtain ⟨_, e⟩ := q; cases e <;> rfl; done) | (cases q; done) | (obtain ⟨_, _, e, _⟩ := q; cases e)
  | .tup xs, y, u, r, q, z => by
    simp only [Rq] at r; obtain ⟨a, its, rfl, r1, r2⟩ := r
    cases y <;> simp only [Rq] at q <;> first
      | (obtain ⟨b, jts, e, q1, q2⟩ := q; cases e; obtain rfl := isTuple_inj r1 q1; simp only [eqD]; cases tupOf z with | none => rfl | some zs => exact rq_congL xs _ _ r2 q2 zs)
      | (obtain ⟨_, _, e, q1, _⟩ := q; cases e; exact (isList_tuple q1 r1).elim)
      | (obtain ⟨_, e⟩ := q; cases e; done)
      | (cases q; done)
  | .ktup xs, y, u, r, q, z => by
    simp only [Rq] at r; obtain ⟨a, its, rfl, r1, r2⟩ := r
    cases y <;> simp only [Rq] at q <;> first
      | (obtain ⟨b, jts, e, q1, q2⟩ := q; cases e; obtain rfl := isTuple_inj r1 q1; simp only [eqD]; cases tupOf z with | none => rfl | some zs => exact rq_congL xs _ _ r2 q2 zs)
      | (obtain ⟨_, _, e, q1, _⟩ := q; cases e; exact (isList_tuple q1 r1).elim)
      | (obtain ⟨_, e⟩ := q; cases e; done)
      | (cases q; done)
  | .lst xs, y, u, r, q, z => by
    simp only [Rq] at r; obtain ⟨a, its, rfl, r1, r2⟩ := r
    cases y <;> simp only [Rq] at q <;> first
      | (obtain ⟨b, jts, e, q1, q2⟩ := q; cases e; obtain rfl := isList_inj r1 q1; simp only [eqD]; cases valL z with | none => rfl | some zs => exact rq_congL xs _ _ r2 q2 zs)
      | (obtain ⟨_, _, e, q1, _⟩ := q; cases e; exact (isList_tuple r1 q1).elim)
      | (obtain ⟨_, e⟩ := q; cases e; done)
      | (cases q; done)
  | .frz xs, y, u, r, q, z => by
    simp only [Rq] at r; obtain ⟨a, its, rfl, r1, r2⟩ := r
    cases y <;> simp only [Rq] at q <;> first
      | (obtain ⟨b, jts, e, q1, q2⟩ := q; cases e; obtain rfl := isList_inj r1 q1; simp only [eqD]; cases valL z with | none => rfl | some zs => exact rq_congL xs _ _ r2 q2 zs)
      | (obtain ⟨_, _, e, q1, _⟩ := q; cases e; exact (isList_tuple r1 q1).elim)
      | (obtain ⟨_, e⟩ := q; cases e; done)
      | (cases q; done)
  | .dK _, _, _, r, _, _ => by simp only [Rq] at r
  | .dT _, _, _, r, _, _ => by simp only [Rq] at r
  | .obj _, _, _, r, _, _ => by simp only [Rq] at r
theorem rq_congL {h : Heap} : ∀ (xs ys : List D) (us : List Value), RqL h xs us → RqL h ys us → ∀ zs, eqL xs zs = eqL ys zs
  | [], ys, us, r, q, zs => by
    simp only [RqL] at r; subst r
    cases ys with
    | nil => rfl
    | cons y ys => simp only [RqL] at q; obtain ⟨_, _, e, _⟩ := q; cases e
  | x :: xs, ys, us, r, q, zs => by
    simp only [RqL] at r; obtain ⟨u, r', rfl, r1, r2⟩ := r
    cases ys with
    | nil => simp only [RqL] at q; cases q
    | cons y ys =>
      simp only [RqL] at q
      obtain ⟨_, _, e, q1, q2⟩ := q
      cases e
      cases zs with
      | nil => rfl
      | cons z zs =>
        simp only [eqL]
        rw [rq_cong x y _ r1 q1 z, rq_congL xs ys _ r2 q2 zs]
end
open Classical in
/-- an item's answer, read off the item -/
noncomputable def ansOf (h : Heap) (ds : List D) (x : D) (u : Value) : Bool := if c : ∃ d, d ∈ ds ∧ Rq h d u then eqD (Classical.choose c) x else false
theorem RqL.mem {h : Heap} : ∀ {ds : List D} {us : List Value}, RqL h ds us → ∀ u ∈ us, ∃ d, d ∈ ds ∧ Rq h d u
  | [], _, r, u, hu => by simp only [RqL] at r; subst r; cases hu
  | d :: ds, _, r, u, hu => by
    simp only [RqL] at r
    obtain ⟨w, us, rfl, r1, r2⟩ := r
    rcases List.mem_cons.mp hu with rfl | hu
    · exact ⟨d, List.mem_cons_self, r1⟩
    · obtain ⟨e, e1, e2⟩ := RqL.mem r2 u hu
      exact ⟨e, List.mem_cons_of_mem _ e1, e2⟩
theorem ansOf_eq {h : Heap} {ds : List D} {x d : D} {u : Value} (hd : d ∈ ds) (r : Rq h d u) : ansOf h ds x u = eqD d x := by
  have c : ∃ d, d ∈ ds ∧ Rq h d u := ⟨d, hd, r⟩
  unfold ansOf
  rw [dif_pos c]
  exact rq_cong _ _ _ (Classical.choose_spec c).2 r x
theorem ans_any {h : Heap} (all : List D) (x : D) : ∀ {ds : List D} {us : List Value}, (∀ d ∈ ds, d ∈ all) → RqL h ds us → us.any (ansOf h all x) = ds.any fun d => eqD d x
  | [], _, _, r => by simp only [RqL] at r; subst r; rfl
  | d :: ds, _, m, r => by
    simp only [RqL] at r
    obtain ⟨w, us, rfl, r1, r2⟩ := r
    rw [List.any_cons, List.any_cons, ansOf_eq (m d List.mem_cons_self) r1, ans_any all x (fun e he => m e (List.mem_cons_of_mem _ he)) r2]
theorem plnL_dep {ds : List D} {d : D} (h : d ∈ ds) : dep d ≤ depL ds := by
  induction ds with
  | nil => cases h
  | cons a r ih =>
    simp only [depL]
    rcases List.mem_cons.mp h with rfl | h
    · exact Nat.le_max_left _ _
    · exact Nat.le_trans (ih h) (Nat.le_max_right _ _)
theorem item_eqAt {A : Around} {s : Shared} {ds : List D} {us : List Value} {x : D} {v : Value} (r : RqL s.heap ds us) (q : Rq s.heap x v) (hu : A.units + depL ds < cLine) : ∀ u ∈ us, SeqAt.EqAt A s u v (ansOf s.heap ds x u) := fun u hu' => by
  obtain ⟨d, h1, h2⟩ := r.mem u hu'
  rw [ansOf_eq h1 h2]
  have := plnL_dep h1
  exact eqAt_rq d x A s u v h2 q (by omega) (by omega)
/-- whether a sign stands in a text -/
def sgnIn (a b : Str) : Option Bool := match a.cps.toList with
  | [c] => some (decide (c ∈ b.cps.toList))
  | _ => none
theorem sgnIn_eq {a b : Str} {k : Bool} (h : sgnIn a b = some k) : ∃ c, a = ⟨#[c]⟩ ∧ k = decide (c ∈ b.cps.toList) := by
  unfold sgnIn at h
  split at h
  · rename_i c e
    refine ⟨c, ?_, by simpa using h.symm⟩
    obtain ⟨cs⟩ := a
    have e' : cs.toList = [c] := e
    have : cs = #[c] := by rw [← Array.toArray_toList (xs := cs), e']
    rw [this]
  · cases h
/-- x in y, by values; dicts stand in DDict -/
def inV? (G : DH) (x y : D) : Option Bool :=
  match x, y with
  | .str a, .str b => some ((sgnIn a b).getD (!(Builtin.Str.occurrences b a 0 b.length 1).isEmpty))
  | x, y => match seqOf G y with
    | some ys => if pln (der G x) = true ∧ plnL ys = true ∧ depL ys ≤ 60 then some (ys.any fun d => eqD d (der G x)) else none
    | none => none
def inOp (neg : Bool) (x y : D) (G : DH) : R D := match inV? G x y with
  | some k => .ok (.bl (if neg then !k else k)) G
  | none => .stop
theorem seqOf_rq {pins : List (Addr × Obj)} {σ : L2.St} {s : Shared} {W : Wd} {y : D} {ys : List D} {v : V} {u : Value} (I : Inv X pins σ W.H s) (S : Sim W) (hK : W.K = X.K) (e : seqOf W.G y = some ys) (p : plnL ys = true) (h : Den W y v) (r : RelV v u) :
    ∃ a its, u = .ref a ∧ (s.heap.IsList a its ∨ s.heap.IsTuple a its) ∧ RqL s.heap ys its.toList := by
  have viaL : ∀ {y : D}, Den W y v → lstOf W.G y = some ys → ∃ a its, u = .ref a ∧ (s.heap.IsList a its ∨ s.heap.IsTuple a its) ∧ RqL s.heap ys its.toList := fun {y} h e => by
    obtain ⟨a, vs, rfl, h1, h2⟩ := lstOf_den S h e
    obtain rfl : u = .ref a := r
    obtain ⟨its, rv, l⟩ := sq_isList I (by rw [← hK]; exact h1)
    exact ⟨a, its, rfl, .inl l, den_rqL I S hK ys vs _ p h2 rv⟩
  have viaT : ∀ {y : D}, Den W y v → tupOf y = some ys → ∃ a its, u = .ref a ∧ (s.heap.IsList a its ∨ s.heap.IsTuple a its) ∧ RqL s.heap ys its.toList := fun {y} h e => by
    obtain ⟨a, vs, rfl, h1, h2⟩ := tupOf_den h e
    obtain rfl : u = .ref a := r
    obtain ⟨its, rv, l⟩ := sq_isTuple I (by rw [← hK]; exact h1)
    exact ⟨a, its, rfl, .inr l, den_rqL I S hK ys vs _ p h2 rv⟩
  cases y with
  | tup zs => exact viaT h e
  | ktup zs => exact viaT h e
  | _ => exact viaL h e
theorem in_seq {k : Nat} (hr : Rm k X.A) {pins : List (Addr × Obj)} {s : Shared} {σ : L2.St} {W : Wd} {x y : D} {v w : V} {u1 u2 : Value} {Q : VK} {neg : Bool} (I : Inv X pins σ W.H s) (S : Sim W) (hK : W.K = X.K) (dx : Den W x v) (dy : Den W y w) (r1 : RelV v u1) (r2 : RelV w u2)
    {kk : Bool} (e : (match seqOf W.G y with
    | some ys => if pln (der W.G x) = true ∧ plnL ys = true ∧ depL ys ≤ 60 then some (ys.any fun d => eqD d (der W.G x)) else none
    | none => none) = some kk) (h : Fin Den W E (.ok (.bl (if neg then !kk else kk)) W.G) Q) :
    wpAny (model X.prog X.w) X.A (compareOp (if neg then .NotIn else .In) u1 u2) (EP X pins σ Q) X.xe s := by
  have hu := hr.u200
  split at e
  · rename_i ys es
    split at e
    · rename_i c
      simp only [Option.some.injEq] at e
      obtain ⟨a, its, rfl, hl, rq⟩ := seqOf_rq I S hK es c.2.1 dy r2
      have q := der_rq I S hK c.1 dx r1
      have ha : its.any (ansOf s.heap ys (der W.G x)) = kk := by
        rw [← e, ← Array.any_toList]
        exact ans_any ys _ (fun _ h => h) rq
      have he : ∀ u ∈ its, SeqAt.EqAt X.A.in1 s u u1 (ansOf s.heap ys (der W.G x) u) := fun u hu' => item_eqAt rq q (by show X.A.units + 1 + depL ys < cLine; omega) u (by simpa using hu')
      have fin := fin_ep I S h (v := .bl (if neg then !kk else kk)) (by simp [Den]) rfl
      cases neg with
      | false =>
        rcases hl with hl | hl
        · exact SeqAt.in_listAt _ hl he (by rw [ha]; exact fin)
        · exact SeqAt.in_tupleAt _ hl he (by rw [ha]; exact fin)
      | true =>
        rcases hl with hl | hl
        · exact SeqAt.notIn_listAt _ hl he (by rw [ha]; exact fin)
        · exact SeqAt.notIn_tupleAt _ hl he (by rw [ha]; exact fin)
    · cases e
  · cases e
theorem inV_out {G : DH} {x y : D} {kk : Bool} (h : inV? G x y = some kk) : (∃ a b, x = .str a ∧ y = .str b ∧ ((sgnIn a b).getD (!(Builtin.Str.occurrences b a 0 b.length 1).isEmpty)) = kk) ∨ (match seqOf G y with
    | some ys => if pln (der G x) = true ∧ plnL ys = true ∧ depL ys ≤ 60 then some (ys.any fun d => eqD d (der G x)) else none
    | none => none) = some kk := by
  unfold inV? at h
  split at h
  · simp only [Option.some.injEq] at h
    exact .inl ⟨_, _, rfl, rfl, h⟩
  · exact .inr h
theorem op_inO {k : Nat} (hr : Rm k X.A) : OpOk X E (compareOp .In) (inOp false) := by
  refine OpOk.of fun pins s σ W x y v w u1 u2 Q I S hK dx dy r1 r2 h => ?_
  unfold inOp at h
  split at h
  · rename_i kk e
    rcases inV_out e with ⟨a, b, rfl, rfl, e0⟩ | e
    · clear e
      have e := e0
      simp only [Den] at dx dy
      cases e1 : sgnIn a b with
      | some k1 =>
        rw [e1] at e
        obtain ⟨c, rfl, e2⟩ := sgnIn_eq e1
        refine op_in_sign pins s σ W.H v w u1 u2 Q I r1 r2 ⟨c, b, dx, dy, ?_⟩
        rw [← e2]
        obtain rfl : k1 = kk := e
        exact h.here S (by simp [Den])
      | none =>
        rw [e1] at e
        refine op_in_str pins s σ W.H v w u1 u2 Q I r1 r2 ⟨a, b, dx, dy, ?_⟩
        rw [show (!(Builtin.Str.occurrences b a 0 b.length 1).isEmpty) = kk from e]
        exact h.here S (by simp [Den])
    · exact in_seq (neg := false) hr I S hK dx dy r1 r2 e h
  · exact h.elim
theorem op_notInO {k : Nat} (hr : Rm k X.A) : OpOk X E (compareOp .NotIn) (inOp true) := by
  refine OpOk.of fun pins s σ W x y v w u1 u2 Q I S hK dx dy r1 r2 h => ?_
  unfold inOp at h
  split at h
  · rename_i kk e
    rcases inV_out e with ⟨a, b, rfl, rfl, e0⟩ | e
    · clear e
      have e := e0
      simp only [Den] at dx dy
      cases e1 : sgnIn a b with
      | some k1 =>
        rw [e1] at e
        obtain ⟨c, rfl, e2⟩ := sgnIn_eq e1
        refine op_notIn_sign pins s σ W.H v w u1 u2 Q I r1 r2 ⟨c, b, dx, dy, ?_⟩
        rw [← e2]
        obtain rfl : k1 = kk := e
        exact h.here S (by simp [Den])
      | none =>
        rw [e1] at e
        refine op_notIn_str pins s σ W.H v w u1 u2 Q I r1 r2 ⟨a, b, dx, dy, ?_⟩
        rw [show (!(Builtin.Str.occurrences b a 0 b.length 1).isEmpty) = kk from e]
        exact h.here S (by simp [Den])
    · exact in_seq (neg := true) hr I S hK dx dy r1 r2 e h
  · exact h.elim

/-! ### built-in functions -/
structure CallOk (X : Cx) (E : XK) (f : Value) (F : List D → DH → R D) : Prop where
  out : ∃ r : List V → Hp → VK → Prop, CallR X f r ∧ ∀ (W : Wd) (ds : List D) (vs : List V) (Q : VK), W.K = X.K → Sim W → DenL W ds vs → Fin Den W E (F ds W.G) Q → r vs W.H Q
theorem CallR.or {f : Value} {r r' : List V → Hp → VK → Prop} (h : CallR X f r) (h' : CallR X f r') : CallR X f (fun xs H Q => r xs H Q ∨ r' xs H Q) :=
  fun pins s σ H xs us Q I rv q => q.elim (h pins s σ H xs us Q I rv) (h' pins s σ H xs us Q I rv)
theorem CallOk.of {f : Value} {F : List D → DH → R D}
    (h : ∀ (pins : List (Addr × Obj)) (s : Shared) (σ : L2.St) (W : Wd) (ds : List D) (vs : List V) (us : List Value) (Q : VK), Inv X pins σ W.H s → Sim W → W.K = X.K → DenL W ds vs → Vals vs us → Fin Den W E (F ds W.G) Q → wpAny (model X.prog X.w) X.A (call f us) (EP X pins σ Q) X.xe s) : CallOk X E f F := by
  refine ⟨fun vs H Q => ∃ (W : Wd) (ds : List D), W.H = H ∧ Sim W ∧ W.K = X.K ∧ DenL W ds vs ∧ Fin Den W E (F ds W.G) Q, ?_, fun W ds vs Q hK S d hf => ⟨W, ds, rfl, S, hK, d, hf⟩⟩
  rintro pins s σ H vs us Q I rv ⟨W, ds, rfl, S, hK, d, hf⟩
  exact h pins s σ W ds vs us Q I S hK d rv hf
theorem de_callB {f : List D → DH → R D} {id : String} {x : Str} {p pos : Pos} {e : Expr} {es : List Expr} {fa : DA} (hc : CallOk X E (.builtin id) f) (hg : Gl X x) (hm : X.mg x = none) (hv : bootBuiltins x = some (.builtin id)) (ha : DAOk X E (e :: es) fa) (hn : x ≠ "__name__" := by decide) (hdb : (x == ("__debug__" : Str)) = false := by decide)
    (he : starEach (e :: es) X.env = (false, eval e X.env) :: starEach es X.env := by rfl) (hpl : (backTo pos (starEach es X.env)).any (·.1) = false := by rfl) : DEOk X E (.Call (.Name x p) (e :: es) [] pos) (dCall f fa) := by
  obtain ⟨r, hr, qr⟩ := hc.out
  obtain ⟨t, pt, q⟩ := ha.out
  refine ⟨_, pe_callB hr hg hm hv pt hn hdb he hpl, fun W σ s Q hK S L h => ?_⟩
  exact q W σ s _ hK S L (Fin.seq (RC := Den) h fun ds vs W1 x1 S1 d1 h1 => qr W1 ds vs Q (x1.k.trans hK) S1 d1 h1)
theorem de_callTy {f : List D → DH → R D} {T : String} {x : Str} {p pos : Pos} {e : Expr} {es : List Expr} {fa : DA} (hc : CallOk X E (.type T) f) (hg : Gl X x) (hm : X.mg x = none) (hv : bootBuiltins x = some (.type T)) (ha : DAOk X E (e :: es) fa) (hn : x ≠ "__name__" := by decide) (hdb : (x == ("__debug__" : Str)) = false := by decide)
    (he : starEach (e :: es) X.env = (false, eval e X.env) :: starEach es X.env := by rfl) (hpl : (backTo pos (starEach es X.env)).any (·.1) = false := by rfl) : DEOk X E (.Call (.Name x p) (e :: es) [] pos) (dCall f fa) := by
  obtain ⟨r, hr, qr⟩ := hc.out
  obtain ⟨t, pt, q⟩ := ha.out
  refine ⟨_, pe_callTy hr hg hm hv pt hn hdb he hpl, fun W σ s Q hK S L h => ?_⟩
  exact q W σ s _ hK S L (Fin.seq (RC := Den) h fun ds vs W1 x1 S1 d1 h1 => qr W1 ds vs Q (x1.k.trans hK) S1 d1 h1)
/-- len -/
def lenV (G : DH) : D → Option Nat
  | .str z => if z.length ≤ sizeLine then some z.length else none
  | .tup xs => some xs.length
  | .ktup xs => some xs.length
  | x => (lstOf G x).map List.length
def lenO (ds : List D) (G : DH) : R D := match ds with
  | [d] => match lenV G d with
    | some n => .ok (.int n) G
    | none => .stop
  | _ => .stop
theorem call_lenO : CallOk X E (.builtin "len") lenO := by
  refine ⟨_, CallR.or call_len_str call_len_seq, fun W ds vs Q hK S r h => ?_⟩
  unfold lenO at h
  split at h
  · rename_i d
    obtain ⟨v, rfl, d1⟩ := r.uno
    split at h
    · rename_i n e
      have viaL : ∀ {d : D}, Den W d v → (lstOf W.G d).map List.length = some n → ∃ p ys, [v] = [.ref p] ∧ (SqL X.K W.H p ys ∨ SqT X.K W.H p ys) ∧ Q (.int ys.length) W.H := fun {d} d1 e => by
        cases e1 : lstOf W.G d with
        | none => rw [e1] at e; cases e
        | some xs =>
          rw [e1] at e
          simp only [Option.map_some, Option.some.injEq] at e
          obtain ⟨a, us, rfl, h1, h2⟩ := lstOf_den S d1 e1
          refine ⟨a, us, rfl, .inl (by rw [← hK]; exact h1), ?_⟩
          rw [h2.len, e]
          exact h.here S (by simp [Den])
      have viaT : ∀ {d : D} {xs : List D}, Den W d v → tupOf d = some xs → xs.length = n → ∃ p ys, [v] = [.ref p] ∧ (SqL X.K W.H p ys ∨ SqT X.K W.H p ys) ∧ Q (.int ys.length) W.H := fun {d xs} d1 e1 e2 => by
        obtain ⟨a, us, rfl, h1, h2⟩ := tupOf_den d1 e1
        refine ⟨a, us, rfl, .inr (by rw [← hK]; exact h1), ?_⟩
        rw [h2.len, e2]
        exact h.here S (by simp [Den])
      cases d with
      | str z =>
        simp only [lenV] at e
        split at e
        · rename_i c
          simp only [Option.some.injEq] at e
          simp only [Den] at d1
          subst d1
          refine .inl ⟨z, rfl, c, ?_⟩
          rw [e]
          exact h.here S (by simp [Den])
        · cases e
      | tup xs => exact .inr (viaT d1 rfl (by simpa [lenV] using e))
      | ktup xs => exact .inr (viaT d1 rfl (by simpa [lenV] using e))
      | _ => exact .inr (viaL d1 e)
    · exact h.elim
  · exact h.elim
/-- max, min of two ints -/
def maxO (ds : List D) (G : DH) : R D := match ds with
  | [.int i, .int j] => .ok (.int (if j > i then j else i)) G
  | _ => .stop
def minO (ds : List D) (G : DH) : R D := match ds with
  | [.int i, .int j] => .ok (.int (if j < i then j else i)) G
  | _ => .stop
theorem call_maxO (hc : X.calm = true) : CallOk X E (.builtin "max") maxO := by
  refine ⟨_, call_max2 hc, fun W ds vs Q hK S r h => ?_⟩
  unfold maxO at h
  split at h
  · obtain ⟨v, w, rfl, d1, d2⟩ := r.two
    simp only [Den] at d1 d2
    exact ⟨_, _, by rw [d1, d2], h.here S (by simp [Den])⟩
  · exact h.elim
theorem call_minO (hc : X.calm = true) : CallOk X E (.builtin "min") minO := by
  refine ⟨_, call_min2 hc, fun W ds vs Q hK S r h => ?_⟩
  unfold minO at h
  split at h
  · obtain ⟨v, w, rfl, d1, d2⟩ := r.two
    simp only [Den] at d1 d2
    exact ⟨_, _, by rw [d1, d2], h.here S (by simp [Den])⟩
  · exact h.elim
/-- int of an int, a bool -/
def intO (ds : List D) (G : DH) : R D := match ds with
  | [.int i] => .ok (.int i) G
  | [.bl k] => .ok (.int (if k then 1 else 0)) G
  | _ => .stop
theorem call_intO : CallOk X E (.type "int") intO := by
  refine ⟨_, call_int1, fun W ds vs Q hK S r h => ?_⟩
  unfold intO at h
  split at h
  · obtain ⟨v, rfl, d1⟩ := r.uno
    simp only [Den] at d1
    exact .inl ⟨_, by rw [d1], h.here S (by simp [Den])⟩
  · obtain ⟨v, rfl, d1⟩ := r.uno
    simp only [Den] at d1
    exact .inr ⟨_, by rw [d1], h.here S (by simp [Den])⟩
  · exact h.elim
/-- bools -/
@[simp] def bls : List D → Option (List Bool)
  | [] => some []
  | .bl b :: ds => (bls ds).map (b :: ·)
  | _ => none
theorem bls_den {W : Wd} : ∀ {ds : List D} {vs : List V} {bs : List Bool}, DenL W ds vs → bls ds = some bs → vs = bs.map V.bl
  | [], _, _, h, e => by simp only [DenL] at h; subst h; cases e; rfl
  | d :: ds, _, bs, h, e => by
    simp only [DenL] at h
    obtain ⟨v, r, rfl, h1, h2⟩ := h
    cases d with
    | bl b =>
      simp only [bls] at e
      cases e1 : bls ds with
      | none => rw [e1] at e; cases e
      | some cs =>
        rw [e1] at e
        cases e
        simp only [Den] at h1
        rw [h1, bls_den h2 e1]
        rfl
    | _ => cases e
def allO (ds : List D) (G : DH) : R D := match ds with
  | [d] => match (lstOf G d).bind bls with
    | some bs => .ok (.bl (bs.all id)) G
    | none => .stop
  | _ => .stop
def anyO (ds : List D) (G : DH) : R D := match ds with
  | [d] => match (lstOf G d).bind bls with
    | some bs => .ok (.bl (bs.any id)) G
    | none => .stop
  | _ => .stop
theorem lst_bls {W : Wd} {d : D} {v : V} {bs : List Bool} (S : Sim W) (hK : W.K = X.K) (d1 : Den W d v) (e : (lstOf W.G d).bind bls = some bs) : ∃ a, v = .ref a ∧ SqL X.K W.H a (bs.map V.bl) := by
  cases e1 : lstOf W.G d with
  | none => rw [e1] at e; cases e
  | some xs =>
    rw [e1] at e
    obtain ⟨a, us, rfl, h1, h2⟩ := lstOf_den S d1 e1
    refine ⟨a, rfl, ?_⟩
    rw [← hK, ← bls_den h2 e]
    exact h1
theorem call_allO (hc : X.calm = true) : CallOk X E (.builtin "all") allO := by
  refine ⟨_, cr_all hc, fun W ds vs Q hK S r h => ?_⟩
  unfold allO at h
  split at h
  · obtain ⟨v, rfl, d1⟩ := r.uno
    split at h
    · rename_i bs e
      obtain ⟨a, rfl, hs⟩ := lst_bls S hK d1 e
      exact ⟨a, bs, rfl, hs, h.here S (by simp [Den])⟩
    · exact h.elim
  · exact h.elim
theorem call_anyO (hc : X.calm = true) : CallOk X E (.builtin "any") anyO := by
  refine ⟨_, cr_any hc, fun W ds vs Q hK S r h => ?_⟩
  unfold anyO at h
  split at h
  · obtain ⟨v, rfl, d1⟩ := r.uno
    split at h
    · rename_i bs e
      obtain ⟨a, rfl, hs⟩ := lst_bls S hK d1 e
      exact ⟨a, bs, rfl, hs, h.here S (by simp [Den])⟩
    · exact h.elim
  · exact h.elim
/-- list(xs), tuple(xs) of lists and tuples -/
def listO (o : Bool) (ds : List D) (G : DH) : R D := match ds with
  | [d] => match seqOf G d with
    | some xs => mkL o xs G
    | none => .stop
  | _ => .stop
theorem seqOf_den {W : Wd} {d : D} {xs : List D} {v : V} (S : Sim W) (h : Den W d v) (e : seqOf W.G d = some xs) : ∃ a vs, v = .ref a ∧ (SqL W.K W.H a vs ∨ SqT W.K W.H a vs) ∧ DenL W xs vs := by
  have viaL : ∀ {d : D}, Den W d v → lstOf W.G d = some xs → ∃ a vs, v = .ref a ∧ (SqL W.K W.H a vs ∨ SqT W.K W.H a vs) ∧ DenL W xs vs := fun {d} h e => by
    obtain ⟨a, vs, rfl, h1, h2⟩ := lstOf_den S h e
    exact ⟨a, vs, rfl, .inl h1, h2⟩
  have viaT : ∀ {d : D}, Den W d v → tupOf d = some xs → ∃ a vs, v = .ref a ∧ (SqL W.K W.H a vs ∨ SqT W.K W.H a vs) ∧ DenL W xs vs := fun {d} h e => by
    obtain ⟨a, vs, rfl, h1, h2⟩ := tupOf_den h e
    exact ⟨a, vs, rfl, .inr h1, h2⟩
  cases d with
  | tup zs => exact viaT h e
  | ktup zs => exact viaT h e
  | _ => exact viaL h e
theorem call_listO (o : Bool) : CallOk X E (.type "list") (listO o) := by
  refine ⟨_, call_list_of, fun W ds vs Q hK S r h => ?_⟩
  unfold listO at h
  split at h
  · obtain ⟨v, rfl, d1⟩ := r.uno
    split at h
    · rename_i xs e
      obtain ⟨a, us, rfl, h1, h2⟩ := seqOf_den S d1 e
      exact ⟨a, us, rfl, by rw [← hK]; exact h1, fin_mkL S h h2⟩
    · exact h.elim
  · exact h.elim
def tupleO (ds : List D) (G : DH) : R D := match ds with
  | [.tup xs] => .ok (.tup xs) G
  | [.ktup xs] => .ok (.ktup xs) G
  | [d] => match lstOf G d with
    | some xs => .ok (.tup xs) G
    | none => .stop
  | _ => .stop
theorem call_tupleO : CallOk X E (.type "tuple") tupleO := by
  refine ⟨_, call_tuple_of, fun W ds vs Q hK S r h => ?_⟩
  unfold tupleO at h
  split at h
  · obtain ⟨v, rfl, d1⟩ := r.uno
    obtain ⟨a, us, rfl, h1, h2⟩ := tup_den d1
    exact ⟨a, us, rfl, .inr ⟨by rw [← hK]; exact h1, h.here S d1⟩⟩
  · obtain ⟨v, rfl, d1⟩ := r.uno
    obtain ⟨a, us, rfl, h1, h2⟩ := ktup_den d1
    exact ⟨a, us, rfl, .inr ⟨by rw [← hK]; exact h1, h.here S d1⟩⟩
  · obtain ⟨v, rfl, d1⟩ := r.uno
    split at h
    · rename_i xs e
      obtain ⟨a, us, rfl, h1, h2⟩ := lstOf_den S d1 e
      exact ⟨a, us, rfl, .inl ⟨by rw [← hK]; exact h1, fin_tup S h h2⟩⟩
    · exact h.elim
  · exact h.elim
/-- str of an int -/
def strO (ds : List D) (G : DH) : R D := match ds with
  | [.int i] => if i.natAbs.log2 < 1920 then .ok (.str (toString i)) G else .stop
  | _ => .stop
theorem call_strO : CallOk X E (.type "str") strO := by
  refine ⟨_, call_str_int, fun W ds vs Q hK S r h => ?_⟩
  unfold strO at h
  split at h
  · obtain ⟨v, rfl, d1⟩ := r.uno
    simp only [Den] at d1
    split at h
    · rename_i c
      exact ⟨_, by rw [d1], c, h.here S (by simp [Den])⟩
    · exact h.elim
  · exact h.elim

/-! ### isinstance with a built-in type -/
/-- the type of data, by name -/
def tyN (G : DH) : D → Option String
  | .non => some "NoneType"
  | .bl _ => some "bool"
  | .int _ => some "int"
  | .str _ => some "str"
  | .tup _ => some "tuple"
  | .ktup _ => some "tuple"
  | .lst _ => some "list"
  | .frz _ => some "list"
  | .dK _ => some "dict"
  | .dT _ => none
  | .obj n => match G[n]? with
    | some (.lst _) => some "list"
    | some (.dK _) => some "dict"
    | some (.dT _) => some "dict"
    | _ => none
@[simp] def isiT (a T : String) : Bool := a == T || (a == "bool" && T == "int")
def kinds : List String := ["NoneType", "bool", "int", "str", "tuple", "list", "dict"]
def asks : List String := ["bool", "int", "str", "tuple", "list", "dict"]
theorem kit_all : ∀ a ∈ kinds, ∀ T ∈ asks, kitB a T = some (isiT a T) := by decide +kernel
theorem tyN_kinds {G : DH} {d : D} {a : String} (h : tyN G d = some a) : a ∈ kinds := by
  cases d <;> simp only [tyN] at h <;> first
    | (cases h; done)
    | (cases h; decide)
    | (split at h <;> first | (cases h; decide) | cases h)
theorem tyN_of {W : Wd} {d : D} {v : V} {a : String} (S : Sim W) (hK : W.K = X.K) (r : Den W d v) (h : tyN W.G d = some a) : TyX X.K W.H v (.type a) := by
  cases d with
  | non => cases h; simp only [Den] at r; subst r; exact .base .non
  | bl b => cases h; simp only [Den] at r; subst r; exact .base (.bl b)
  | int b => cases h; simp only [Den] at r; subst r; exact .base (.int b)
  | str b => cases h; simp only [Den] at r; subst r; exact .base (.str b)
  | tup xs =>
    cases h
    simp only [Den] at r
    obtain ⟨a, vs, rfl, h1, _⟩ := r
    exact .base (.tup h1)
  | ktup xs =>
    cases h
    simp only [Den] at r
    obtain ⟨a, vs, rfl, ⟨o, _, _, h1, h2, _⟩, _⟩ := r
    exact .kTuple (by rw [← hK]; exact h1) h2
  | lst xs =>
    cases h
    simp only [Den] at r
    obtain ⟨a, vs, rfl, _, h1, _⟩ := r
    exact .base (.lst h1)
  | frz xs =>
    cases h
    simp only [Den] at r
    obtain ⟨a, vs, rfl, h1, _⟩ := r
    rcases h1 with ⟨o, h1⟩ | ⟨o, _, _, h1, h2, _⟩
    · exact .base (.frz h1)
    · exact .kList (by rw [← hK]; exact h1) h2
  | dK xs =>
    cases h
    simp only [Den] at r
    obtain ⟨a, vs, rfl, _, h1, _⟩ := r
    rcases h1 with h1 | ⟨o, h1⟩
    · exact .base (.dK h1)
    · exact .fDict h1
  | dT xs => cases h
  | obj n =>
    simp only [tyN] at h
    simp only [Den] at r
    obtain ⟨b, pn, rfl⟩ := r
    split at h
    · rename_i xs e
      cases h
      obtain ⟨c, pc, vs, q, _⟩ := S.at_ n _ e rfl
      rw [pn] at pc; cases pc
      exact .base (.lst q)
    · rename_i xs e
      cases h
      obtain ⟨c, pc, vs, q, _⟩ := S.at_ n _ e rfl
      rw [pn] at pc; cases pc
      exact .base (.dK q)
    · rename_i xs e
      cases h
      obtain ⟨c, pc, vs, q, _⟩ := S.at_ n _ e rfl
      rw [pn] at pc; cases pc
      exact .base (.dT q)
    · cases h
def dIsi (T : String) (a : DE) : DE := fun s G => (a s G).bind fun d G => match tyN G d with
  | some k => .ok (.bl (isiT k T)) G
  | none => .stop
theorem de_isi (T : String) {e : Expr} {f : DE} {tx : Str} {p p2 pos : Pos} (he : DEOk X E e f) (hT : T ∈ asks) (hg : Gl X "isinstance") (hm : X.mg "isinstance" = none) (hgT : Gl X tx) (hmT : X.mg tx = none) (hvT : bootBuiltins tx = some (.type T))
    (hn : tx ≠ "__name__" := by decide) (hdb : (tx == ("__debug__" : Str)) = false := by decide) (hst : starEach [e, .Name tx p2] X.env = (false, eval e X.env) :: starEach [.Name tx p2] X.env := by rfl)
    (hst2 : starEach [.Name tx p2] X.env = (false, eval (.Name tx p2) X.env) :: starEach [] X.env := by rfl) (hpl : (backTo pos (starEach [.Name tx p2] X.env)).any (·.1) = false := by rfl) :
    DEOk X E (.Call (.Name "isinstance" p) [e, .Name tx p2] [] pos) (dIsi T f) := by
  obtain ⟨t, pt, q⟩ := he.out
  refine ⟨_, pe_callB call_isi hg hm boot_isinstance (pa_cons pt (pa_cons (pe_bltn (v := .ty T) hgT hmT hvT rfl hn hdb) pa_nil hst2) hst) (by decide) (by decide) hst hpl, fun W σ s Q hK S L h => ?_⟩
  refine q W σ s _ hK S L (h.seq fun d v W1 x1 S1 d1 h1 => ?_)
  split at h1
  · rename_i k e
    exact ⟨v, .ty T, .type k, .type T, isiT k T, rfl, .ty T, tyN_of S1 (x1.k.trans hK) d1 e, kit_ty (kit_all k (tyN_kinds e) T hT), h1.here S1 (by simp [Den])⟩
  · exact h1.elim

/-! ### methods of built-in types -/
structure MtOk (X : Cx) (E : XK) (id : String) (F : D → List D → DH → R D) : Prop where
  out : ∃ r : V → List V → Hp → VK → Prop, MtR X id r ∧ ∀ (W : Wd) (d : D) (v : V) (ds : List D) (vs : List V) (Q : VK), W.K = X.K → Sim W → Den W d v → DenL W ds vs → Fin Den W E (F d ds W.G) Q → r v vs W.H Q
/-- the receiver is of the type T, as a method call asks -/
def rcv (G : DH) (T : String) : D → Bool
  | .str _ => T == "str"
  | .int _ => T == "int"
  | .lst _ => T == "list"
  | .frz _ => T == "list"
  | .obj n => match G[n]? with
    | some (.lst _) => T == "list"
    | some (.dK _) => T == "dict"
    | some (.dT _) => T == "dict"
    | _ => false
  | _ => false
theorem rcv_ty {W : Wd} {T : String} {d : D} {v : V} (S : Sim W) (hK : W.K = X.K) (r : Den W d v) (h : rcv W.G T d = true) : tyV X.K T v W.H := by
  cases d with
  | str z => simp only [Den] at r; subst r; exact eq_of_beq h
  | int z => simp only [Den] at r; subst r; exact eq_of_beq h
  | lst xs =>
    obtain ⟨a, vs, rfl, h1, _⟩ := lstOf_den S r (by rfl : lstOf W.G (.lst xs) = some xs)
    exact .inl ⟨by simpa [rcv] using h, vs, by rw [← hK]; exact h1⟩
  | frz xs =>
    obtain ⟨a, vs, rfl, h1, _⟩ := lstOf_den S r (by rfl : lstOf W.G (.frz xs) = some xs)
    exact .inl ⟨by simpa [rcv] using h, vs, by rw [← hK]; exact h1⟩
  | obj n =>
    simp only [rcv] at h
    simp only [Den] at r
    obtain ⟨b, pn, rfl⟩ := r
    split at h
    · rename_i xs e
      obtain ⟨c, pc, vs, q, _⟩ := S.at_ n _ e rfl
      rw [pn] at pc; cases pc
      exact .inl ⟨by simpa using h, vs, .of q⟩
    · rename_i xs e
      obtain ⟨c, pc, vs, q, _⟩ := S.at_ n _ e rfl
      rw [pn] at pc; cases pc
      exact .inr (.inr (.inl ⟨by simpa using h, .inl ⟨vs, q⟩⟩))
    · rename_i xs e
      obtain ⟨c, pc, vs, q, _⟩ := S.at_ n _ e rfl
      rw [pn] at pc; cases pc
      exact .inr (.inr (.inl ⟨by simpa using h, .inr ⟨vs, q⟩⟩))
    · cases h
  | _ => cases h
def dMt (T : String) (F : D → List D → DH → R D) (o : DE) (a : DA) : DE := fun s G => (o s G).bind fun d G => if rcv G T d = true then (a s G).bind fun ds G => F d ds G else .stop
theorem de_mt {T id : String} {F : D → List D → DH → R D} {o e : Expr} {es : List Expr} {fo : DE} {fa : DA} {name : Str} {apos cpos : Pos} (pa : PlainAttrs T) (slot : Slot T name id) (hty : typeOf (.builtin id) = pure (.type "method_descriptor")) (hm : MtOk X E id F) (ho : DEOk X E o fo) (ha : DAOk X E (e :: es) fa)
    (hbase : attributeBase o name X.env (eval o X.env) = eval o X.env := by rfl)
    (hfew : ((backTo cpos (starEach (e :: es) X.env)).all (fun x => !x.1) && (backToKw cpos (keywordEach [] X.env)).all (fun x => x.1.isSome) && decide ((e :: es).length + ([] : List Keyword).length + (if ([] : List Keyword).isEmpty then 0 else 1) < 30)) = true := by rfl)
    (hline : (apos.endLine == cpos.line) = true := by rfl) (hs : starEach (e :: es) X.env = (false, eval e X.env) :: starEach es X.env := by rfl) (hplain : (backTo cpos (starEach es X.env)).any (·.1) = false := by rfl) :
    DEOk X E (.Call (.Attribute o name apos) (e :: es) [] cpos) (dMt T F fo fa) := by
  obtain ⟨r, hr, qr⟩ := hm.out
  obtain ⟨to, po, qo⟩ := ho.out
  obtain ⟨t, pt, q⟩ := ha.out
  refine ⟨_, pe_bm pa slot hty hr po pt hbase hfew hline hs hplain, fun W σ s Q hK S L h => ?_⟩
  refine qo W σ s _ hK S L (h.seq fun d v W1 x1 S1 d1 h1 => ?_)
  split at h1
  · rename_i c
    refine ⟨rcv_ty S1 (x1.k.trans hK) d1 c, q W1 σ s _ (x1.k.trans hK) S1 (L.mono x1) (Fin.seq (RC := Den) h1 fun ds vs W2 x2 S2 d2 h2 => ?_)⟩
    exact qr W2 d v ds vs Q (x2.k.trans (x1.k.trans hK)) S2 (Den.mono x2 _ _ d1) d2 h2
  · exact h1.elim
theorem de_mt0 {T id : String} {F : D → List D → DH → R D} {o : Expr} {fo : DE} {name : Str} {apos cpos : Pos} (pa : PlainAttrs T) (slot : Slot T name id) (hty : typeOf (.builtin id) = pure (.type "method_descriptor")) (hm : MtOk X E id F) (ho : DEOk X E o fo)
    (hbase : attributeBase o name X.env (eval o X.env) = eval o X.env := by rfl) (hline : (apos.endLine == cpos.line) = true := by rfl) :
    DEOk X E (.Call (.Attribute o name apos) [] [] cpos) (dMt T F fo dNil) := by
  obtain ⟨r, hr, qr⟩ := hm.out
  obtain ⟨to, po, qo⟩ := ho.out
  refine ⟨_, pe_bm0 pa slot hty hr po hbase hline, fun W σ s Q hK S L h => ?_⟩
  refine qo W σ s _ hK S L (h.seq fun d v W1 x1 S1 d1 h1 => ?_)
  split at h1
  · rename_i c
    exact ⟨rcv_ty S1 (x1.k.trans hK) d1 c, qr W1 d v [] [] Q (x1.k.trans hK) S1 d1 (by simp [DenL]) h1⟩
  · exact h1.elim
/-- texts -/
@[simp] def txts : List D → Option (List Str)
  | [] => some []
  | .str b :: ds => (txts ds).map (b :: ·)
  | _ => none
theorem txts_den {W : Wd} : ∀ {ds : List D} {vs : List V} {bs : List Str}, DenL W ds vs → txts ds = some bs → vs = bs.map V.str
  | [], _, _, h, e => by simp only [DenL] at h; subst h; cases e; rfl
  | d :: ds, _, bs, h, e => by
    simp only [DenL] at h
    obtain ⟨v, r, rfl, h1, h2⟩ := h
    cases d with
    | str b =>
      simp only [txts] at e
      cases e1 : txts ds with
      | none => rw [e1] at e; cases e
      | some cs =>
        rw [e1] at e
        cases e
        simp only [Den] at h1
        rw [h1, txts_den h2 e1]
        rfl
    | _ => cases e
theorem den_txts {W : Wd} : ∀ bs : List Str, DenL W (bs.map D.str) (bs.map V.str)
  | [] => by simp [DenL]
  | b :: bs => by simp only [List.map_cons, DenL]; exact ⟨_, _, rfl, by simp [Den], den_txts bs⟩
def splitO (o : Bool) (d : D) (ds : List D) (G : DH) : R D := match d, ds with
  | .str a, [.str b] => if (b.length == 0) = false ∧ a.length + 2 ≤ sizeLine then mkL o ((Txt.split a b).map D.str) G else .stop
  | _, _ => .stop
theorem mt_splitO (o : Bool) : MtOk X E "str.split" (splitO o) := by
  refine ⟨_, mt_split, fun W d v ds vs Q hK S r rs h => ?_⟩
  unfold splitO at h
  split at h
  · obtain ⟨w, rfl, d1⟩ := rs.uno
    simp only [Den] at r d1
    split at h
    · rename_i c
      exact ⟨_, _, r, by rw [d1], c.1, c.2, fin_mkL S h (den_txts _)⟩
    · exact h.elim
  · exact h.elim
def partO (d : D) (ds : List D) (G : DH) : R D := match d, ds with
  | .str a, [.str b] => if (b.length == 0) = false ∧ a.length ≤ sizeLine then .ok (.tup [.str (Txt.partition a b).1, .str (Txt.partition a b).2.1, .str (Txt.partition a b).2.2]) G else .stop
  | _, _ => .stop
theorem mt_partO : MtOk X E "str.partition" partO := by
  refine ⟨_, mt_partition, fun W d v ds vs Q hK S r rs h => ?_⟩
  unfold partO at h
  split at h
  · obtain ⟨w, rfl, d1⟩ := rs.uno
    simp only [Den] at r d1
    split at h
    · rename_i c
      exact ⟨_, _, r, by rw [d1], c.1, c.2, fin_tup S h (den_txts [_, _, _])⟩
    · exact h.elim
  · exact h.elim
def countO (d : D) (ds : List D) (G : DH) : R D := match d, ds with
  | .str a, [.str b] => .ok (.int (Txt.count a b)) G
  | _, _ => .stop
theorem mt_countO : MtOk X E "str.count" countO := by
  refine ⟨_, mt_count, fun W d v ds vs Q hK S r rs h => ?_⟩
  unfold countO at h
  split at h
  · obtain ⟨w, rfl, d1⟩ := rs.uno
    simp only [Den] at r d1
    exact ⟨_, _, r, by rw [d1], h.here S (by simp [Den])⟩
  · exact h.elim
def joinO (d : D) (ds : List D) (G : DH) : R D := match d, ds with
  | .str a, [x] => match (seqOf G x).bind txts with
    | some ys => if (ys.map (·.length)).sum + ys.length * a.length ≤ 16777216 then .ok (.str (Txt.join a ys)) G else .stop
    | none => .stop
  | _, _ => .stop
theorem mt_joinO : MtOk X E "str.join" joinO := by
  refine ⟨_, mt_join, fun W d v ds vs Q hK S r rs h => ?_⟩
  unfold joinO at h
  split at h
  · obtain ⟨w, rfl, d1⟩ := rs.uno
    simp only [Den] at r
    split at h
    · rename_i ys e
      split at h
      · rename_i c
        obtain ⟨xs, e1, e⟩ := Option.bind_eq_some_iff.mp e
        obtain ⟨a, us, rfl, h1, h2⟩ := seqOf_den S d1 e1
        refine ⟨_, a, ys, r, rfl, ?_, c, h.here S (by simp [Den])⟩
        rw [← txts_den h2 e, ← hK]
        exact h1
      · exact h.elim
    · exact h.elim
  · exact h.elim

/-! ### a store to a place -/
structure StOk (X : Cx) (E : XK) (F : D → D → D → DH → R Unit) : Prop where
  out : ∃ t : TSet, PSet X t ∧ ∀ (W : Wd) (x y z : D) (v w u : V) (Q : Hp → Prop), W.K = X.K → Sim W → Den W x v → Den W y w → Den W z u → Fin (fun _ (_ : Unit) (_ : Unit) => True) W E (F x y z W.G) (fun _ H => Q H) → t v w u W.H Q
def gSt (F : D → D → D → DH → R Unit) (o i : DE) : DG := fun d s G => (o s G).bind fun x G => (i s G).bind fun y G => (F x y d G).bind fun _ G => .ok s G
theorem dg_sub {o i : Expr} {fo fi : DE} {F : D → D → D → DH → R Unit} {pos : Pos} (ho : DEOk X E o fo) (hi : DEOk X E i fi) (hs : StOk X E F)
    (ha : ∀ v, assign (.Subscript o i pos) X.env v = (do
      let ov ← holding [v] (eval o X.env)
      let iv ← holding [v, ov] (eval i X.env)
      standAt pos
      holding [v, ov, iv] (setItem ov iv v)
      release [v, ov, iv] []) := by intro _; rfl) : DGOk X E (.Subscript o i pos) (gSt F fo fi) := by
  obtain ⟨to, po, qo⟩ := ho.out
  obtain ⟨ti, pi, qi⟩ := hi.out
  obtain ⟨t, ps, q⟩ := hs.out
  refine ⟨_, pg_sub po pi ps ha, fun W σ s d v Q hK S L r h => ?_⟩
  refine qo W σ s _ hK S L (Fin.seq (RC := RSl) h fun x xv W1 x1 S1 d1 h1 => ?_)
  refine qi W1 σ s _ (x1.k.trans hK) S1 (L.mono x1) (Fin.seq (RC := RSl) h1 fun y yv W2 x2 S2 d2 h2 => ?_)
  refine q W2 x y d xv yv v _ (x2.k.trans (x1.k.trans hK)) S2 (Den.mono x2 _ _ d1) d2 (Den.mono (x1.trans x2) _ _ r) (Fin.seq (RC := RSl) h2 fun _ _ W3 x3 S3 _ h3 => ?_)
  exact Fin.here (RA := RSl) S3 h3 (((L.mono x1).mono x2).mono x3)
def setL (x y z : D) (G : DH) : R Unit := match x, y with
  | .obj n, .int k => match G[n]? with
    | some (.lst xs) => match ixN xs.length k with
      | some j => .ok () (G.set n (.lst (xs.set j z)))
      | none => .stop
    | _ => .stop
  | _, _ => .stop
theorem st_setL : StOk X E setL := by
  refine ⟨_, set_list, fun W x y z v w u Q hK S dx dy dz h => ?_⟩
  unfold setL at h
  split at h
  · rename_i n k
    simp only [Den] at dx dy
    obtain ⟨a, pn, rfl⟩ := dx
    split at h
    · rename_i xs e
      split at h
      · rename_i j ej
        obtain ⟨b, pb, vs, h1, h2⟩ := S.at_ n _ e rfl
        rw [pn] at pb; cases pb
        refine ⟨a, vs, k, j, rfl, dy, h1, by rw [h2.len]; exact ej, ?_⟩
        obtain ⟨x1, S1⟩ := S.put (o := .lst (vs.set j u)) (d := .lst (xs.set j z)) e rfl pn fun W' y' e' => ⟨_, by rw [e']; exact upd_same, (DenL.mono y' _ _ h2).set j (Den.mono y' _ _ dz)⟩
        exact h () _ x1 S1 rfl trivial
      · exact h.elim
    · exact h.elim
  · exact h.elim
end
end DL
end
/-! ==== DEnd ==== -/
section
set_option Elab.async false
set_option linter.all false
set_option autoImplicit false
set_option maxRecDepth 100000
set_option maxHeartbeats 4000000
/-! DL: repr of data; the end of a law. -/
namespace DL
open PySem PySem.Spec PyProof.Rows L2

/-! ### repr -/
mutual
/-- data as the kit names it -/
def toP : D → PyData
  | .non => .none
  | .bl b => .bool b
  | .int i => .int i
  | .str x => .str x
  | .tup xs => .tuple (toPL xs)
  | .ktup xs => .tuple (toPL xs)
  | .lst xs => .list (toPL xs)
  | .frz xs => .list (toPL xs)
  | .dK _ => .none
  | .dT _ => .none
  | .obj _ => .none
def toPL : List D → List PyData
  | [] => []
  | x :: xs => toP x :: toPL xs
end
mutual
theorem toP_nodict : ∀ d : D, (toP d).hasDict = false
  | .non => by simp only [toP, PyData.hasDict]
  | .bl b => by simp only [toP, PyData.hasDict]
  | .int i => by simp only [toP, PyData.hasDict]
  | .str x => by simp only [toP, PyData.hasDict]
  | .tup xs => by simp only [toP, PyData.hasDict]; exact toPL_nodict xs
  | .ktup xs => by simp only [toP, PyData.hasDict]; exact toPL_nodict xs
  | .lst xs => by simp only [toP, PyData.hasDict]; exact toPL_nodict xs
  | .frz xs => by simp only [toP, PyData.hasDict]; exact toPL_nodict xs
  | .dK _ => by simp only [toP, PyData.hasDict]
  | .dT _ => by simp only [toP, PyData.hasDict]
  | .obj _ => by simp only [toP, PyData.hasDict]
theorem toPL_nodict : ∀ ds : List D, PyData.hasDictAll (toPL ds) = false
  | [] => by simp only [toPL, PyData.hasDictAll]
  | d :: ds => by simp only [toPL, PyData.hasDictAll, toP_nodict d, toPL_nodict ds, Bool.or_self]
end
mutual
theorem rq_reads {h : Heap} : ∀ (d : D) (u : Value), Rq h d u → ∃ as, Reads h u (toP d) as
  | .non, u, r => by simp only [Rq] at r; subst r; exact ⟨_, by simp only [toP]; exact .none⟩
  | .bl b, u, r => by simp only [Rq] at r; subst r; exact ⟨_, by simp only [toP]; exact .bool b⟩
  | .int i, u, r => by simp only [Rq] at r; obtain ⟨t, rfl⟩ := r; exact ⟨_, by simp only [toP]; exact .int i t⟩
  | .str x, u, r => by simp only [Rq] at r; obtain ⟨t, rfl⟩ := r; exact ⟨_, by simp only [toP]; exact .str x t⟩
  | .tup xs, u, r => by
    simp only [Rq] at r
    obtain ⟨a, its, rfl, ⟨o, e, c, n, dd⟩, r2⟩ := r
    obtain ⟨as, q⟩ := rq_readsL xs _ r2
    exact ⟨_, by simp only [toP]; exact .tuple e c dd q⟩
  | .ktup xs, u, r => by
    simp only [Rq] at r
    obtain ⟨a, its, rfl, ⟨o, e, c, n, dd⟩, r2⟩ := r
    obtain ⟨as, q⟩ := rq_readsL xs _ r2
    exact ⟨_, by simp only [toP]; exact .tuple e c dd q⟩
  | .lst xs, u, r => by
    simp only [Rq] at r
    obtain ⟨a, its, rfl, ⟨o, e, c, n, dd⟩, r2⟩ := r
    obtain ⟨as, q⟩ := rq_readsL xs _ r2
    exact ⟨_, by simp only [toP]; exact .list e c dd q⟩
  | .frz xs, u, r => by
    simp only [Rq] at r
    obtain ⟨a, its, rfl, ⟨o, e, c, n, dd⟩, r2⟩ := r
    obtain ⟨as, q⟩ := rq_readsL xs _ r2
    exact ⟨_, by simp only [toP]; exact .list e c dd q⟩
  | .dK _, _, r => by simp only [Rq] at r
  | .dT _, _, r => by simp only [Rq] at r
  | .obj _, _, r => by simp only [Rq] at r
theorem rq_readsL {h : Heap} : ∀ (ds : List D) (us : List Value), RqL h ds us → ∃ as, ReadsAll h us (toPL ds) as
  | [], us, r => by simp only [RqL] at r; subst r; exact ⟨_, by simp only [toPL]; exact .nil⟩
  | d :: ds, us, r => by
    simp only [RqL] at r
    obtain ⟨u, q, rfl, r1, r2⟩ := r
    obtain ⟨as, q1⟩ := rq_reads d u r1
    obtain ⟨bs, q2⟩ := rq_readsL ds q r2
    exact ⟨_, by simp only [toPL]; exact .cons q1 q2⟩
end
/-- whether repr of data is covered -/
def shows (p : PyData) : Prop := p.showable = true ∧ p.depth ≤ 60 ∧ p.shown.length ≤ sizeLine
instance (p : PyData) : Decidable (shows p) := inferInstanceAs (Decidable (_ ∧ _ ∧ _))
section
variable {X : Cx} {E : XK}
def isRef : D → Bool
  | .tup _ => true
  | .ktup _ => true
  | .lst _ => true
  | .frz _ => true
  | _ => false
def reprO (ds : List D) (G : DH) : R D := match ds with
  | [d] => if isRef (der G d) = true ∧ pln (der G d) = true ∧ shows (toP (der G d)) then .ok (.str (toP (der G d)).shown) G else .stop
  | _ => .stop
theorem rq_ref {h : Heap} {d : D} {u : Value} (r : Rq h d u) (hd : isRef d = true) : ∃ a, u = .ref a := by
  cases d <;> first
    | (cases hd; done)
    | (simp only [Rq] at r; obtain ⟨a, _, rfl, _⟩ := r; exact ⟨a, rfl⟩)
theorem call_reprO {k : Nat} (hr : Rm k X.A) : CallOk X E (.builtin "repr") reprO := by
  refine CallOk.of fun pins s σ W ds vs us Q I S hK dd rv h => ?_
  unfold reprO at h
  split at h
  · rename_i d
    obtain ⟨v, rfl, d1⟩ := dd.uno
    cases rv with
    | cons r1 r2 =>
      cases r2
      split at h
      · rename_i c
        obtain ⟨c0, c1, c2, c3, c4⟩ := c
        have q := der_rq I S hK c1 d1 r1
        obtain ⟨a, rfl⟩ := rq_ref q c0
        obtain ⟨as, rd⟩ := rq_reads _ _ q
        have hu := hr.u200
        exact repr_of_reads' rd c2 (PyData.noDict_hsm (toP_nodict _)) hr.gu (by omega) (fun _ _ e => e) (fun h' u tk kp => ⟨.str _, W.H, I.kept kp, ⟨u, rfl⟩, h.here S (by simp [Den])⟩) c4
      · exact h.elim
  · exact h.elim
/-- a new dict of the kind K, a value or a thing that may be changed -/
def mkK (o : Bool) (kvs : List (Key × D)) (G : DH) : R D := if o then .ok (.obj G.length) (G ++ [.dK kvs]) else .ok (.dK kvs) G
def mkT (o : Bool) (kvs : List (List Key × D)) (G : DH) : R D := if o then .ok (.obj G.length) (G ++ [.dT kvs]) else .ok (.dT kvs) G
theorem fin_mkK {W : Wd} {o : Bool} {kvs : List (Key × D)} {ws : List (Key × V)} {Q : VK} (S : Sim W) (h : Fin Den W E (mkK o kvs W.G) Q) (r : DenK W kvs ws) : ∀ p, W.H p = none → Q (.ref p) (upd W.H p (.dK ws)) := by
  intro p hp
  cases o with
  | false =>
    obtain ⟨x, S'⟩ := S.lay (.dK ws) hp
    refine h (.ref p) _ x S' rfl ?_
    simp only [Den]
    exact ⟨p, ws, rfl, fun l => S.not_own_of_none hp l, .inl upd_same, DenK.mono x _ _ r⟩
  | true =>
    obtain ⟨x, S'⟩ := S.new (o := .dK ws) (d := .dK kvs) hp fun W' y e => ⟨ws, by rw [e]; exact upd_same, DenK.mono y _ _ r⟩
    refine h (.ref p) _ x S' rfl ?_
    simp only [Den]
    exact ⟨p, by show (W.p ++ [p])[W.G.length]? = some p; rw [← S.len]; simp, rfl⟩
theorem fin_mkT {W : Wd} {o : Bool} {kvs : List (List Key × D)} {ws : List (List Key × V)} {Q : VK} (S : Sim W) (h : Fin Den W E (mkT o kvs W.G) Q) (r : DenT W kvs ws) : ∀ p, W.H p = none → Q (.ref p) (upd W.H p (.dT ws)) := by
  intro p hp
  cases o with
  | false =>
    obtain ⟨x, S'⟩ := S.lay (.dT ws) hp
    refine h (.ref p) _ x S' rfl ?_
    simp only [Den]
    exact ⟨p, ws, rfl, fun l => S.not_own_of_none hp l, .inl upd_same, DenT.mono x _ _ r⟩
  | true =>
    obtain ⟨x, S'⟩ := S.new (o := .dT ws) (d := .dT kvs) hp fun W' y e => ⟨ws, by rw [e]; exact upd_same, DenT.mono y _ _ r⟩
    refine h (.ref p) _ x S' rfl ?_
    simp only [Den]
    exact ⟨p, by show (W.p ++ [p])[W.G.length]? = some p; rw [← S.len]; simp, rfl⟩
/-- {} -/
def dNewK (o : Bool) : DE := fun _ G => mkK o [] G
def dNewT (o : Bool) : DE := fun _ G => mkT o [] G
theorem de_newK (o : Bool) {pos : Pos} : DEOk X E (.Dict [] [] pos) (dNewK o) :=
  ⟨_, pe_dnewK, fun W σ s Q hK S L h => fin_mkK S h (by simp [DenK])⟩
theorem de_newT (o : Bool) {pos : Pos} : DEOk X E (.Dict [] [] pos) (dNewT o) :=
  ⟨_, pe_dnewT, fun W σ s Q hK S L h => fin_mkT S h (by simp [DenT])⟩
end

/-! ### the end of a law -/
section
theorem dlaw_call {P : Program} {w : World} {K : PySem.W.Frag} {g b : Str → Option Value} {k : Nat} {fa a : Addr} {fd : FuncData} {x : Str} {Fl : DFn} {t : Shared} {us : List Value} {zs : List Int}
    (kin : K.In t.heap) (nsg : t.heap.Ns mainGlobals g) (nsb : t.heap.Ns builtinsNs b) (bob : ∀ y : Str, y ≠ "__name__" → b y = bootBuiltins y) (nol : t.heap.NoLimit) (g0 : t.gens = #[])
    (scr : t.heap.get? a = some { cls := .type "list", data := .seq us.toArray }) (izs : IntsAre us zs) (few : zs.length ≤ sizeLine) (room : Rm k callerA)
    (hF : ∀ base : Heap, K.In base → base.Ns mainGlobals g → DFok P w K g base CX0 k fa fd [x] Fl) (bnd : ∀ (q : Shared) (u : Value), BindsTo q fd ⟨[u], []⟩ [(x, u)])
    (ends : ∃ G, Fl [.frz (zs.map D.int)] [] = .ok (.bl true) G) :
    codeAny (model P w) callerA (.call (.ref fa) ⟨[.ref a], []⟩) (fun r q => r = .ok (.ret (.bool true)) ∧ OldK t.heap q.heap ∧ q.os = t.os ∧ AllBare q.gens) t := by
  have vals := vals_ints izs
  have lens := izs.length
  let ob : Obj := { cls := .type "list", data := .seq us.toArray }
  -- whatever is tracked is the script
  have main : ∀ H : Hp, (∀ c u, H c = some u → c = a ∧ u = .frz ob (.lst (zs.map V.int)) ∧ K.lookup a = none) → Fz ⟨K, [], [], H, fun _ => False⟩ a (zs.map V.int) → HOk P w H t.heap →
      codeAny (model P w) callerA (.call (.ref fa) ⟨[.ref a], []⟩) (fun r q => r = .ok (.ret (.bool true)) ∧ OldK t.heap q.heap ∧ q.os = t.os ∧ AllBare q.gens) t := by
    intro H only hz hok
    have nod : ∀ {c : Addr} {o : Obj} {es : Array DictEntry} {m : Nat}, t.heap.get? c = some o → o.data = .dict es m → H c = none := fun {c o es m} e ed => by
      cases z : H c with
      | none => rfl
      | some u =>
        obtain ⟨rfl, _⟩ := only c u z
        rw [scr] at e; cases e
        have ed' : Data.seq us.toArray _ = Data.dict es m := ed
        cases ed'
    have keepNs : ∀ {c : Addr} {m : Str → Option Value}, t.heap.Ns c m → (hidT t.heap H).Ns c m := fun {c m} ⟨o, es, m2, e, ed, r⟩ => ⟨o, es, m2, hidT_get e (nod e ed), ed, r⟩
    have kb : K.In (hidT t.heap H) := fun c o e => hidT_get (kin c o e) (by
      cases z : H c with
      | none => rfl
      | some u =>
        obtain ⟨rfl, _, z2⟩ := only c u z
        rw [z2] at e; cases e)
    have md : Mod K g (hidT t.heap H) := ⟨kb, keepNs nsg, ⟨b, keepNs nsb, bob⟩, let ⟨mc, y1, y2⟩ := nol; ⟨mc, keepNs y1, y2⟩⟩
    have env0 : Env0 P w K g (hidT t.heap H) callerA [] t H := ⟨rfl, md, fun c o e => of_hidT e, Nat.le_of_eq (hidT_size _ _), trivial, fun c hc => absurd (show c ∈ ([] : List Addr) from hc) (by simp), hok, .of_eq g0⟩
    let W : Wd := ⟨K, [], [], H, fun _ => False⟩
    have sim : Sim W := by
      refine ⟨rfl, fun m o e => ?_, fun c z => z.elim, fun c z => z.elim, fun m m2 o u c e => ?_⟩
      · have : ([] : DH)[m]? = some o := e
        simp at this
      · have : ([] : DH)[m]? = some o := e
        simp at this
    have args : DenL W [.frz (zs.map D.int)] [.ref a] := by
      simp only [DenL]
      exact ⟨_, _, rfl, by simp only [Den]; exact ⟨a, _, rfl, hz, ints_den zs⟩, rfl⟩
    have fin : Fin Den W (fun _ _ _ => False) (Fl [.frz (zs.map D.int)] W.G) (fun v _ => v = .bl true) := by
      obtain ⟨G, eG⟩ := ends
      show Fin Den W (fun _ _ _ => False) (Fl [.frz (zs.map D.int)] []) (fun v _ => v = .bl true)
      rw [eG]
      intro v W1 x1 S1 e1 d1
      simpa [Den] using d1
    refine codeAny_mono ((hF _ kb (keepNs nsg)).run callerA [] t ⟨[.ref a], []⟩ [.ref a] [.ref a] W _ _ _ room env0 (bnd t (.ref a)) (.cons rfl .nil) rfl sim args fin) fun r q hq => ?_
    cases r with
    | error e => exact False.elim hq
    | ok fl =>
      cases fl with
      | next => exact False.elim hq
      | brk => exact False.elim hq
      | cont => exact False.elim hq
      | ret u =>
        obtain ⟨v, H2, eos, bare, un, hok2, rv, ev⟩ := hq
        have ev' : v = .bl true := ev
        subst ev'
        obtain rfl : u = Value.bool true := rv
        refine ⟨rfl, OldK.of_keep fun c o e => ?_, eos, bare⟩
        cases z : H c with
        | none => exact un.keep c o e z (by intro y; exact absurd (show c ∈ ([] : List Addr) from y) (by simp)) (by simp)
        | some u =>
          obtain ⟨rfl, rfl, _⟩ := only c u z
          have z2 := un.frzs c _ _ z
          obtain ⟨e1, _⟩ := hok c _ z
          obtain ⟨e2, _⟩ := hok2 c _ z2
          rw [e] at e1; cases e1
          exact e2
  cases hk : K.lookup a with
  | some o =>
    have e := kin a o hk
    rw [scr] at e
    cases e
    exact main (fun _ => none) (fun c u z => by cases z) (.inr ⟨_, us.toArray, _, hk, rfl, rfl, rfl, by rw [List.size_toArray, lens]; exact few, by simpa using vals⟩) (fun c u z => by
      have z' : (none : Option HO) = some u := z
      cases z')
  | none =>
    refine main (fun c => if c = a then some (.frz ob (.lst (zs.map V.int))) else none) (fun c u z => ?_) (.inl ⟨ob, if_pos rfl⟩) (fun c u z => ?_)
    · by_cases hc : c = a
      · exact ⟨hc, (Option.some.inj ((if_pos hc).symm.trans z)).symm, hk⟩
      · exact absurd ((if_neg hc).symm.trans z) (by simp)
    · by_cases hc : c = a
      · have z' := Option.some.inj ((if_pos hc).symm.trans z)
        subst z'
        subst hc
        exact ⟨scr, by rw [List.length_map]; exact few, us, _, vals, scr⟩
      · exact absurd ((if_neg hc).symm.trans z) (by simp)

theorem dlaw_walk {l : PySem.W.OpenLaw} {n k : Nat} {q : Program} {loose : List Str} {XP : (Str → Option Value) → Heap → Prop} {YP : World → Heap → Prop} {d : DefRec} {K : Params → PySem.W.Frag} {Fl : DFn} {x : Str}
    (most : l.most = some n) (small : n ≤ sizeLine) (dflt : d.params.defaults = []) (room : Rm k callerA) (hY : ∀ (w : World) (h : Heap), YP w h → (K w.params).In h)
    (hF : ∀ (w : World) (g : Str → Option Value) (fa : Addr) (h : Heap), (K w.params).In h → h.Ns mainGlobals g → g d.name = some (.ref fa) →
      ∃ fd : FuncData, (∀ (t : Shared) (u : Value), BindsTo t fd ⟨[u], []⟩ [(x, u)]) ∧ ∀ base : Heap, (K w.params).In base → base.Ns mainGlobals g → DFok l.prog w (K w.params) g base CX0 k fa fd [x] Fl)
    (ends : ∀ zs : List Int, zs.length ≤ n → ∃ G, Fl [.frz (zs.map D.int)] [] = .ok (.bl true) G) : PySem.W.WalkO q loose XP YP l.row.toRowW d [] (fun f us => PySem.call f us) := by
  refine Att.attach_call most dflt fun w s0 t g b fa o pm cd doc a us zs Gr Y ho hd hcd hg scr izs few g0 => ?_
  have kin := hY w _ Y
  obtain ⟨fd, bnd, hF'⟩ := hF w g fa _ kin Gr.T.g hg
  exact dlaw_call kin Gr.T.g Gr.T.b Gr.T.builtins Gr.T.nolimit g0 scr izs (Nat.le_trans few small) room hF' bnd (ends zs few)
end
end DL
end
/-! ==== DDefs ==== -/
section
set_option Elab.async false
set_option linter.all false
set_option autoImplicit false
set_option maxRecDepth 100000
set_option maxHeartbeats 4000000
/-! DL: the defs of a text by their names. -/
namespace DL
open PySem PySem.Spec PyProof.Rows L2

theorem passX {X : Cx} {E : XK} : Passes CX0 X E := fun _ _ _ _ _ _ _ h => h.elim
/-- a def as the top has written it -/
structure DRaw (K : PySem.W.Frag) (mg : Str → Option Value) (x : Str) (st : Stmt) (ps : List Str) : Prop where
  ex : ∃ (f : Addr) (fd : FuncData), Fun K x x st f fd ∧ mg x = some (.ref f) ∧ PySem.W.keepIn K (.ref f) = true ∧ Binds K fd ps []
/-- .. and what it is worth -/
structure DDef (P : Program) (w : World) (K : PySem.W.Frag) (mg : Str → Option Value) (base : Heap) (k : Nat) (x : Str) (st : Stmt) (ps : List Str) (F : DFn) : Prop where
  ex : ∃ (f : Addr) (fd : FuncData), Fun K x x st f fd ∧ mg x = some (.ref f) ∧ PySem.W.keepIn K (.ref f) = true ∧ Binds K fd ps [] ∧ DFok P w K mg base CX0 k f fd ps F
section
variable {P : Program} {w : World} {K : PySem.W.Frag} {mg : Str → Option Value} {base : Heap} {x : Str} {st : Stmt} {ps : List Str}
theorem DRaw.made {k : Nat} {F : DFn} (h : DRaw K mg x st ps) (hf : ∀ {f : Addr} {fd : FuncData}, Fun K x x st f fd → DFok P w K mg base CX0 k f fd ps F) : DDef P w K mg base k x st ps F :=
  let ⟨f, fd, a, b, c, d⟩ := h.ex
  ⟨f, fd, a, b, c, d, hf a⟩
theorem draw_mk {h : Heap} {f : Addr} {oc : Value} {od an : Option Addr} {osl : Array (Option Value)} {kV doc pm cdv ct : Value} (X : K.In h) (G : h.Ns mainGlobals mg) (a : PySem.W.nsIn K mainGlobals x = some (some (.ref f)))
    (l : K.lookup f = some ⟨oc, od, .func (PySem.W.fnOf x x (defArgs st) (defBody st) (defScope st) .none kV doc pm an cdv ct), osl⟩) (c : PySem.W.codeIn K cdv x = true) (k : PySem.W.keepIn K (.ref f) = true)
    (hb : ∀ (kV doc pm : Value) (an : Option Addr) (cdv ct : Value) (us : List Value), us.length = ps.length → bindArgs (PySem.W.fnOf x x (defArgs st) (defBody st) (defScope st) .none kV doc pm an cdv ct) ⟨us, []⟩ = pure (ps.zip us)) : DRaw K mg x st ps :=
  ⟨f, _, fun_mk l c k, PySem.W.mg_of X G a, k, (fun_mk (st := st) l c k).binds hb⟩
/-- keywords: how such a call binds -/
def KwBinds (x : Str) (st : Stmt) (ps ks : List Str) (np nk : Nat) (perm : List Nat) : Prop :=
  ∀ (kV doc pm : Value) (an : Option Addr) (cdv ct : Value) (us ws : List Value), us.length = np → ws.length = nk → bindArgs (PySem.W.fnOf x x (defArgs st) (defBody st) (defScope st) .none kV doc pm an cdv ct) ⟨us, ks.zip ws⟩ = pure (ps.zip (pick perm (us ++ ws)))
theorem kw_binds {f : Addr} {fd : FuncData} {ks : List Str} {np nk : Nat} {perm : List Nat} (F : Fun K x x st f fd) (h : KwBinds x st ps ks np nk perm) : BindsK K fd ps ks np nk perm := by
  obtain ⟨oc, od, kV, doc, pm, an, cdv, ct, osl, rfl, lk, hcd⟩ := F.ex
  exact fun s us ws _ h1 h2 => .of_eq (h kV doc pm an cdv ct us ws h1 h2)
/-- the law's end -/
theorem dlaw_fd {q : Program} {k : Nat} {fa : Addr} {F : DFn} {p : Str} (h : DRaw K mg x st [p]) (hfa : mg x = some (.ref fa))
    (hb : ∀ (kV doc pm : Value) (an : Option Addr) (cdv ct : Value) (u : Value), bindArgs (PySem.W.fnOf x x (defArgs st) (defBody st) (defScope st) .none kV doc pm an cdv ct) ⟨[u], []⟩ = pure [(p, u)])
    (hf : ∀ (base : Heap) {f : Addr} {fd : FuncData}, Fun K x x st f fd → DFok q w K mg base CX0 k f fd [p] F) :
    ∃ fd : FuncData, (∀ (t : Shared) (u : Value), BindsTo t fd ⟨[u], []⟩ [(p, u)]) ∧ ∀ base : Heap, K.In base → base.Ns mainGlobals mg → DFok q w K mg base CX0 k fa fd [p] F := by
  obtain ⟨f, fd, a, b, _, _⟩ := h.ex
  rw [hfa] at b
  cases b
  refine ⟨fd, fun t u => ?_, fun base _ _ => hf base a⟩
  obtain ⟨oc, od, kV, doc, pm, an, cdv, ct, osl, rfl, lk, hcd⟩ := a.ex
  exact .of_eq (hb kV doc pm an cdv ct u)
end
section
variable {X : Cx} {E : XK} {k j : Nat} {y : Str} {st : Stmt} {ps : List Str} {F : DFn}
theorem de_callD {p pos : Pos} {e : Expr} {es : List Expr} {fa : DA} (h : DDef X.prog X.w X.K X.mg X.base j y st ps F) (hr : Rm k X.A) (hj : j ≤ k) (ha : DAOk X E (e :: es) fa) (hg : Gl X y := by rfl)
    (hdb : (y == ("__debug__" : Str)) = false := by decide) (he : starEach (e :: es) X.env = (false, eval e X.env) :: starEach es X.env := by rfl) (hpl : (backTo pos (starEach es X.env)).any (·.1) = false := by rfl) :
    DEOk X E (.Call (.Name y p) (e :: es) [] pos) (dCall F fa) := by
  obtain ⟨f, fd, _, b, c, d, q⟩ := h.ex
  exact de_call q (hr.mono hj) hg b c d passX ha hdb he hpl
theorem de_callD0 {p pos : Pos} (h : DDef X.prog X.w X.K X.mg X.base j y st [] F) (hr : Rm k X.A) (hj : j ≤ k) (hg : Gl X y := by rfl) (hdb : (y == ("__debug__" : Str)) = false := by decide) : DEOk X E (.Call (.Name y p) [] [] pos) (dCall F dNil) := by
  obtain ⟨f, fd, _, b, c, d, q⟩ := h.ex
  exact de_call0 q (hr.mono hj) hg b c d passX hdb
theorem de_callKD {ks : List Str} {np nk : Nat} {perm : List Nat} {p pos : Pos} {e : Expr} {es : List Expr} {kws : List Keyword} {fa fk : DA} (h : DDef X.prog X.w X.K X.mg X.base j y st ps F) (hr : Rm k X.A) (hj : j ≤ k) (hb : KwBinds y st ps ks np nk perm)
    (ha : DAOk X E (e :: es) fa) (hkw : DKOk X E kws fk) (hg : Gl X y := by rfl) (hall : (backToKw pos (keywordEach kws X.env)).all (·.1.isSome) = true := by rfl) (hks : (backToKw pos (keywordEach kws X.env)).filterMap (·.1) = ks := by rfl)
    (hdb : (y == ("__debug__" : Str)) = false := by decide) (he : starEach (e :: es) X.env = (false, eval e X.env) :: starEach es X.env := by rfl)
    (hpl : ((backTo pos (starEach (e :: es) X.env)).any (·.1) || (backToKw pos (keywordEach kws X.env)).any (·.1.isNone)) = false := by rfl) :
    DEOk X E (.Call (.Name y p) (e :: es) kws pos) (dCallK np nk perm F fa fk) := by
  obtain ⟨f, fd, a, b, c, d, q⟩ := h.ex
  exact de_callK q (hr.mono hj) hg b c (kw_binds a hb) passX ha hkw hall hks hdb he hpl
theorem de_callKD0 {ks : List Str} {nk : Nat} {perm : List Nat} {p pos : Pos} {kws : List Keyword} {fk : DA} (h : DDef X.prog X.w X.K X.mg X.base j y st ps F) (hr : Rm k X.A) (hj : j ≤ k) (hb : KwBinds y st ps ks 0 nk perm)
    (hkw : DKOk X E kws fk) (hg : Gl X y := by rfl) (hall : (backToKw pos (keywordEach kws X.env)).all (·.1.isSome) = true := by rfl) (hks : (backToKw pos (keywordEach kws X.env)).filterMap (·.1) = ks := by rfl)
    (hdb : (y == ("__debug__" : Str)) = false := by decide) (hpl : ((backTo pos (starEach [] X.env)).any (·.1) || (backToKw pos (keywordEach kws X.env)).any (·.1.isNone)) = false := by rfl) :
    DEOk X E (.Call (.Name y p) [] kws pos) (dCallK 0 nk perm F dNil fk) := by
  obtain ⟨f, fd, a, b, c, d, q⟩ := h.ex
  exact de_callK0 q (hr.mono hj) hg b c (kw_binds a hb) passX hkw hall hks hdb hpl
/-- constants of the module -/
theorem de_gint {i : Int} {t : Tok} {pos : Pos} (hm : X.mg y = some (.int i t)) (hg : Gl X y := by rfl) (hdb : (y == ("__debug__" : Str)) = false := by decide) : DEOk X E (.Name y pos) (dC (.int i)) :=
  de_glob (v := .int i) hg hm ⟨t, rfl⟩ (fun W _ _ => by simp [Den]) hdb
theorem de_gstr {i : Str} {t : Tok} {pos : Pos} (hm : X.mg y = some (.str i t)) (hg : Gl X y := by rfl) (hdb : (y == ("__debug__" : Str)) = false := by decide) : DEOk X E (.Name y pos) (dC (.str i)) :=
  de_glob (v := .str i) hg hm ⟨t, rfl⟩ (fun W _ _ => by simp [Den]) hdb
end
end DL
end
/-! ==== LA ==== -/
section
set_option Elab.async false
set_option linter.all false
set_option autoImplicit false
set_option maxRecDepth 100000
set_option maxHeartbeats 4000000
/-! What shared defs compute. Printed by gen.py. -/
namespace DF
open PySem DL

def b__law_pool : DS :=
  sSeq (sAsg (dC (.int 0)) (gNm 2)) (
    sSeq (sIf (dTest (dBin ltD (dVar 1) (dCall lenO (dCons (dVar 0) (dNil))))) (sAsg (dBin ixD (dVar 0) (dVar 1)) (gNm 2)) (sPass)) (
    sSeq (sAsg (dCall maxO (dCons (dVar 2) (dCons (dBin subD (dUn negD (dC (.int 1))) (dVar 2)) (dNil)))) (gNm 3)) (
    sSeq (sAsg (dBin modD (dBin (mulD false) (dBin (addD false) (dBin (addD false) (dBin (addD false) (dBin modD (dVar 3) (dC (.int 2147483629))) (dBin (mulD false) (dBin (mulD false) (dC (.int 7919)) (dVar 1)) (dVar 1))) (dBin (mulD false) (dC (.int 31)) (dVar 1))) (dC (.int 17))) (dC (.int 48271))) (dC (.int 2147483647))) (gNm 4)) (
    sRet (dLst true (dCons (dBin (mulD false) (dVar 3) (dCall intO (dCons (dBin geD (dVar 3) (dBin powD (dC (.int 10)) (dC (.int 18)))) (dNil)))) (dCons (dVar 4) (dNil))))))))
def F__law_pool : DFn := runF 2 5 b__law_pool
def b__law_take : DS :=
  sSeq (sIf (dTest (dBin gtD (dBin ixD (dVar 0) (dC (.int 0))) (dC (.int 0)))) (sSeq (sAsg (dBin modD (dBin ixD (dVar 0) (dC (.int 0))) (dVar 1)) (gNm 2)) (
    sSeq (sAsg (dBin fdivD (dBin ixD (dVar 0) (dC (.int 0))) (dVar 1)) (gSt setL (dVar 0) (dC (.int 0)))) (
    sRet (dVar 2)))) (sPass)) (
    sSeq (sAsg (dBin modD (dBin (addD false) (dBin (mulD false) (dBin ixD (dVar 0) (dC (.int 1))) (dC (.int 69621))) (dC (.int 7))) (dC (.int 2147483647))) (gSt setL (dVar 0) (dC (.int 1)))) (
    sRet (dBin modD (dBin fdivD (dBin modD (dBin (mulD false) (dBin ixD (dVar 0) (dC (.int 1))) (dBin ixD (dVar 0) (dC (.int 1)))) (dC (.int 2147483629))) (dC (.int 32))) (dVar 1))))
def F__law_take : DFn := runF 2 3 b__law_take
def b__law_letters : DS :=
  sSeq (sAsg (dC (.str "abcdefghijklmnopqrstuvwxyz")) (gNm 2)) (
    sRet (dMt "str" joinO (dC (.str "")) (dCons (dLc false [3] (iRg1 (dCons (dVar 1) (dNil))) (gNm 3) (dYes) (dBin ixD (dVar 2) (dCall F__law_take (dCons (dVar 0) (dCons (dC (.int 26)) (dNil)))))) (dNil))))
def F__law_letters : DFn := runF 2 4 b__law_letters
def b_is_word : DS :=
  sRet (dAnd (dIsi "str" (dVar 0)) (dAnd (dChain leD leD (dC (.int 1)) (dCall lenO (dCons (dVar 0) (dNil))) (dC (.int 8))) (dCall allO (dCons (dLc false [1] (iStr (dVar 0)) (gNm 1) (dYes) (dBin (inOp false) (dVar 1) (dC (.str "abcdefghijklmnopqrstuvwxyz")))) (dNil)))))
def F_is_word : DFn := runF 1 2 b_is_word
def b_is_person : DS :=
  sSeq (sIf (tNotD (dTru (dIsi "str" (dVar 0)))) (sRet (dC (.bl false))) (sPass)) (
    sSeq (sAsg (dMt "str" partO (dVar 0) (dCons (dC (.str "@")) (dNil))) (gTup 3 (gCons (gNm 1) (gCons (gNm 2) (gCons (gNm 3) (gNil)))))) (
    sRet (dAnd (dBin eqOp (dVar 2) (dC (.str "@"))) (dAnd (dCall F_is_word (dCons (dVar 1) (dNil))) (dCall F_is_word (dCons (dVar 3) (dNil)))))))
def F_is_person : DFn := runF 1 4 b_is_person
def b_is_whole : DS :=
  sRet (dAnd (dIsi "int" (dVar 0)) (dNot (dIsi "bool" (dVar 0))))
def F_is_whole : DFn := runF 1 1 b_is_whole
def b_is_from : DS :=
  sRet (dAnd (dCall F_is_whole (dCons (dVar 0) (dNil))) (dChain leD leD (dVar 1) (dVar 0) (dVar 2)))
def F_is_from : DFn := runF 3 3 b_is_from
def b_is_name : DS :=
  sRet (dAnd (dIsi "tuple" (dVar 0)) (dAnd (dBin eqOp (dCall lenO (dCons (dVar 0) (dNil))) (dC (.int 2))) (dAnd (dCall F_is_word (dCons (dBin ixD (dVar 0) (dC (.int 0))) (dNil))) (dCall F_is_from (dCons (dBin ixD (dVar 0) (dC (.int 1))) (dCons (dC (.int 0)) (dCons (dC (.int 99999)) (dNil))))))))
def F_is_name : DFn := runF 1 1 b_is_name
def b_is_rank : DS :=
  sRet (dCall F_is_from (dCons (dVar 0) (dCons (dC (.int 0)) (dCons (dC (.int 100)) (dNil)))))
def F_is_rank : DFn := runF 1 1 b_is_rank
def b_house_of : DS :=
  sSeq (sAsg (dMt "str" partO (dVar 0) (dCons (dC (.str "@")) (dNil))) (gTup 3 (gCons (gNm 1) (gCons (gNm 2) (gCons (gNm 3) (gNil)))))) (
    sRet (dVar 3))
def F_house_of : DFn := runF 1 4 b_house_of
end DF
end
/-! ==== K01F ==== -/
section
set_option Elab.async false
set_option linter.all false
set_option autoImplicit false
set_option maxRecDepth 100000
set_option maxHeartbeats 4000000
/-! K01: what the defs compute. Printed by gen.py. -/
namespace K01
open PySem DL DF

def b__law_is_word : DS :=
  sSeq (sIf (tOrD (tNotD (dTru (dIsi "str" (dVar 0)))) (tNotD (dTest (dChain leD leD (dC (.int 1)) (dCall lenO (dCons (dVar 0) (dNil))) (dC (.int 8)))))) (sRet (dC (.bl false))) (sPass)) (
    sRet (dBin eqOp (dLc false [1] (iStr (dVar 0)) (gNm 1) (dTest (dBin (inOp true) (dVar 1) (dC (.str "abcdefghijklmnopqrstuvwxyz")))) (dVar 1)) (dLst false (dNil))))
def F__law_is_word : DFn := runF 1 2 b__law_is_word
def b__law_within : DS :=
  sRet (dAnd (dIsi "int" (dVar 0)) (dAnd (dNot (dIsi "bool" (dVar 0))) (dChain leD leD (dVar 1) (dVar 0) (dVar 2))))
def F__law_within : DFn := runF 3 3 b__law_within
def b__law_is_person : DS :=
  sSeq (sIf (tOrD (tNotD (dTru (dIsi "str" (dVar 0)))) (dTest (dBin neOp (dMt "str" countO (dVar 0) (dCons (dC (.str "@")) (dNil))) (dC (.int 1))))) (sRet (dC (.bl false))) (sPass)) (
    sRet (dBin eqOp (dLc false [1] (iSeq (dMt "str" (splitO false) (dVar 0) (dCons (dC (.str "@")) (dNil)))) (gNm 1) (tNotD (dTru (dCall F__law_is_word (dCons (dVar 1) (dNil))))) (dVar 1)) (dLst false (dNil))))
def F__law_is_person : DFn := runF 1 2 b__law_is_person
def b__law_is_title : DS :=
  sSeq (sIf (tOrD (tNotD (dTru (dIsi "tuple" (dVar 0)))) (dTest (dBin neOp (dCall lenO (dCons (dVar 0) (dNil))) (dC (.int 2))))) (sRet (dC (.bl false))) (sPass)) (
    sRet (dAnd (dCall F__law_is_word (dCons (dBin ixD (dVar 0) (dC (.int 0))) (dNil))) (dCall F__law_within (dCons (dBin ixD (dVar 0) (dC (.int 1))) (dCons (dC (.int 0)) (dCons (dC (.int 99999)) (dNil)))))))
def F__law_is_title : DFn := runF 1 1 b__law_is_title
def b__law_signs : DS :=
  sSeq (sAsg (dCall F__law_letters (dCons (dVar 0) (dCons (dCall F__law_take (dCons (dVar 0) (dCons (dC (.int 10)) (dNil)))) (dNil)))) (gNm 1)) (
    sSeq (sAsg (dBin ixD (dLst false (dCons (dC (.str "A")) (dCons (dC (.str "0")) (dCons (dC (.str " ")) (dCons (dC (.str "-")) (dCons (dC (.str "_")) (dCons (dC (.str "\n")) (dCons (dC (.str "@")) (dCons (dC (.str ":")) (dCons (dC (.str "{")) (dCons (dC (.str "`")) (dNil)))))))))))) (dCall F__law_take (dCons (dVar 0) (dCons (dC (.int 10)) (dNil))))) (gNm 2)) (
    sSeq (sIf (dTest (dBin eqOp (dCall F__law_take (dCons (dVar 0) (dCons (dC (.int 3)) (dNil)))) (dC (.int 0)))) (sSeq (sAsg (dCall F__law_take (dCons (dVar 0) (dCons (dBin (addD false) (dCall lenO (dCons (dVar 1) (dNil))) (dC (.int 1))) (dNil)))) (gNm 3)) (
    sRet (dBin (addD false) (dBin (addD false) (dSl false (dVar 1) (dNoP) (dP (dVar 3))) (dVar 2)) (dSl false (dVar 1) (dP (dVar 3)) (dNoP))))) (sPass)) (
    sRet (dVar 1))))
def F__law_signs : DFn := runF 1 4 b__law_signs
def b__law_right : DS :=
  sSeq (sAsg (dLst false (dCons (dCall F__law_is_word (dCons (dVar 0) (dNil))) (dCons (dCall F__law_is_person (dCons (dVar 0) (dNil))) (dCons (dCall F__law_is_title (dCons (dVar 0) (dNil))) (dCons (dCall F__law_within (dCons (dVar 0) (dCons (dC (.int 0)) (dCons (dC (.int 100)) (dNil))))) (dNil)))))) (gNm 1)) (
    sSeq (sIf (dTest (dBin neOp (dCall reprO (dCons (dLst false (dCons (dCall F_is_word (dCons (dVar 0) (dNil))) (dCons (dCall F_is_person (dCons (dVar 0) (dNil))) (dCons (dCall F_is_name (dCons (dVar 0) (dNil))) (dCons (dCall F_is_rank (dCons (dVar 0) (dNil))) (dNil)))))) (dNil))) (dCall reprO (dCons (dVar 1) (dNil))))) (sRet (dC (.bl false))) (sPass)) (
    sRet (dBin eqOp (dCall reprO (dCons (dLst false (dCons (dCallK 0 1 [0] F_is_word (dNil) (dCons (dVar 0) (dNil))) (dCons (dCallK 0 1 [0] F_is_person (dNil) (dCons (dVar 0) (dNil))) (dCons (dCallK 0 1 [0] F_is_name (dNil) (dCons (dVar 0) (dNil))) (dCons (dCallK 0 1 [0] F_is_rank (dNil) (dCons (dVar 0) (dNil))) (dNil)))))) (dNil))) (dCall reprO (dCons (dVar 1) (dNil))))))
def F__law_right : DFn := runF 1 2 b__law_right
def l1_law : DS :=
  sIf (tNotD (dTru (dCall F__law_right (dCons (dVar 1) (dNil))))) (sRet (dC (.bl false))) (sPass)
def l2_law : DS :=
  sIf (tNotD (dTru (dCall F__law_right (dCons (dVar 1) (dNil))))) (sRet (dC (.bl false))) (sPass)
def l3_law : DS :=
  sSeq (sAsg (dCall F__law_pool (dCons (dVar 0) (dCons (dVar 2) (dNil)))) (gNm 3)) (
    sSeq (sAsg (dCall F__law_signs (dCons (dVar 3) (dNil))) (gNm 4)) (
    sSeq (sAsg (dCall F__law_signs (dCons (dVar 3) (dNil))) (gNm 5)) (
    sSeq (sAsg (dBin (addD false) (dBin (addD false) (dVar 4) (dBin (mulD false) (dC (.str "@")) (dCall F__law_take (dCons (dVar 3) (dCons (dC (.int 3)) (dNil)))))) (dVar 5)) (gNm 6)) (
    sSeq (sAsg (dBin ixD (dLst false (dCons (dBin subD (dCall F__law_take (dCons (dVar 3) (dCons (dC (.int 120)) (dNil)))) (dC (.int 9))) (dCons (dBin (addD false) (dC (.int 99999)) (dCall F__law_take (dCons (dVar 3) (dCons (dC (.int 3)) (dNil))))) (dCons (dC (.bl true)) (dCons (dC .non) (dCons (dC (.str "5")) (dNil))))))) (dCall F__law_take (dCons (dVar 3) (dCons (dC (.int 5)) (dNil))))) (gNm 7)) (
    sSeq (sAsg (dLst false (dCons (dVar 4) (dCons (dVar 6) (dCons (dBin (addD false) (dBin (addD false) (dVar 6) (dC (.str "@"))) (dVar 4)) (dCons (dTup (dCons (dVar 4) (dCons (dVar 7) (dNil)))) (dCons (dTup (dCons (dVar 4) (dCons (dVar 7) (dCons (dC (.int 0)) (dNil))))) (dCons (dLst false (dCons (dVar 4) (dCons (dVar 7) (dNil)))) (dCons (dTup (dCons (dVar 6) (dCons (dC (.int 3)) (dNil)))) (dCons (dVar 7) (dCons (dTup (dCons (dVar 7) (dCons (dVar 4) (dNil)))) (dNil))))))))))) (gNm 8)) (
    sSeq (sFor (iSeq (dVar 8)) (gNm 1) (l2_law)) (
    sIf (tAndD (dTru (dCall F__law_is_person (dCons (dVar 6) (dNil)))) (dTest (dBin neOp (dLst false (dCons (dCall F_house_of (dCons (dVar 6) (dNil))) (dCons (dCallK 0 1 [0] F_house_of (dNil) (dCons (dVar 6) (dNil))) (dNil)))) (dBin (mulD false) (dSl false (dMt "str" (splitO false) (dVar 6) (dCons (dC (.str "@")) (dNil))) (dP (dC (.int 1))) (dNoP)) (dC (.int 2)))))) (sRet (dC (.bl false))) (sPass))))))))
def b_law : DS :=
  sSeq (sFor (iSeq (dLst false (dCons (dC .non) (dCons (dC (.bl true)) (dCons (dC (.int 0)) (dCons (dC (.int 100)) (dCons (dC (.int 101)) (dCons (dUn negD (dC (.int 1))) (dCons (dBin powD (dC (.int 10)) (dC (.int 30))) (dCons (dC (.str "")) (dCons (dC (.str "@")) (dCons (dC (.str "a@")) (dCons (dC (.str "@a")) (dCons (dTup (dNil)) (dCons (dTup (dCons (dC (.str "a")) (dCons (dC (.int 0)) (dNil)))) (dCons (dLst false (dCons (dC (.str "a")) (dCons (dC (.int 0)) (dNil)))) (dCons (dNewK false) (dCons (dTup (dCons (dC (.str "a")) (dCons (dC (.int 99999)) (dNil)))) (dNil))))))))))))))))))) (gNm 1) (l1_law)) (
    sSeq (sFor (iRg1 (dCons (dCall maxO (dCons (dC (.int 1)) (dCons (dCall minO (dCons (dCall lenO (dCons (dVar 0) (dNil))) (dCons (dC (.int 40)) (dNil)))) (dNil)))) (dNil))) (gNm 2) (l3_law)) (
    sRet (dC (.bl true))))
def F_law : DFn := runF 1 9 b_law
end K01
end
/-! ==== K01W ==== -/
section
set_option Elab.async false
set_option linter.all false
set_option autoImplicit false
set_option maxRecDepth 100000
set_option maxHeartbeats 4000000
/-! K01: the walk. Printed by gen.py. -/
namespace K01
open PySem PySem.Spec PyProof.Rows L2 DL DF

def top (i : Nat) : Stmt := PySem.Challenge.pw_branchedhall_k01_words_people_names_rank.main.body.getD i (.Pass ⟨0, 0, 0, 0⟩)
abbrev s_is_whole : Stmt := top 5
abbrev n_is_whole : List Str := ["thing"]
abbrev p_is_whole : List Str := ["thing"]
abbrev s_is_word : Stmt := top 7
abbrev n_is_word : List Str := ["thing", "sign"]
abbrev p_is_word : List Str := ["thing"]
abbrev s_house_of : Stmt := top 11
abbrev n_house_of : List Str := ["person", "word", "sign", "house"]
abbrev p_house_of : List Str := ["person"]
abbrev s__law_pool : Stmt := top 13
abbrev n__law_pool : List Str := ["_law_script", "_law_k", "_law_cell", "_law_size", "_law_mixed"]
abbrev p__law_pool : List Str := ["_law_script", "_law_k"]
abbrev s__law_take : Stmt := top 14
abbrev n__law_take : List Str := ["_law_pool_here", "_law_many", "_law_found"]
abbrev p__law_take : List Str := ["_law_pool_here", "_law_many"]
abbrev s__law_is_word : Stmt := top 17
abbrev n__law_is_word : List Str := ["_law_item", "_law_sign"]
abbrev p__law_is_word : List Str := ["_law_item"]
abbrev s__law_within : Stmt := top 19
abbrev n__law_within : List Str := ["_law_item", "_law_least", "_law_most"]
abbrev p__law_within : List Str := ["_law_item", "_law_least", "_law_most"]
abbrev s_is_from : Stmt := top 6
abbrev n_is_from : List Str := ["thing", "least", "most"]
abbrev p_is_from : List Str := ["thing", "least", "most"]
abbrev s_is_person : Stmt := top 8
abbrev n_is_person : List Str := ["thing", "word", "sign", "house"]
abbrev p_is_person : List Str := ["thing"]
abbrev s__law_letters : Stmt := top 15
abbrev n__law_letters : List Str := ["_law_pool_here", "_law_many", "_law_letters_here", "_law_turn"]
abbrev p__law_letters : List Str := ["_law_pool_here", "_law_many"]
abbrev s__law_is_person : Stmt := top 18
abbrev n__law_is_person : List Str := ["_law_item", "_law_part"]
abbrev p__law_is_person : List Str := ["_law_item"]
abbrev s__law_is_title : Stmt := top 20
abbrev n__law_is_title : List Str := ["_law_item"]
abbrev p__law_is_title : List Str := ["_law_item"]
abbrev s_is_name : Stmt := top 9
abbrev n_is_name : List Str := ["thing"]
abbrev p_is_name : List Str := ["thing"]
abbrev s_is_rank : Stmt := top 10
abbrev n_is_rank : List Str := ["thing"]
abbrev p_is_rank : List Str := ["thing"]
abbrev s__law_signs : Stmt := top 16
abbrev n__law_signs : List Str := ["_law_pool_here", "_law_found", "_law_sign", "_law_at"]
abbrev p__law_signs : List Str := ["_law_pool_here"]
abbrev s__law_right : Stmt := top 21
abbrev n__law_right : List Str := ["_law_item", "_law_due"]
abbrev p__law_right : List Str := ["_law_item"]
abbrev s_law : Stmt := top 22
abbrev n_law : List Str := ["_law_script", "_law_item", "_law_k", "_law_pool_here", "_law_one", "_law_other", "_law_both", "_law_size", "_law_some"]
abbrev p_law : List Str := ["_law_script"]
structure Tx (K : PySem.W.Frag) (mg : Str → Option Value) : Prop where
  d_is_whole : DRaw K mg "is_whole" s_is_whole p_is_whole
  d_is_word : DRaw K mg "is_word" s_is_word p_is_word
  d_house_of : DRaw K mg "house_of" s_house_of p_house_of
  d__law_pool : DRaw K mg "_law_pool" s__law_pool p__law_pool
  d__law_take : DRaw K mg "_law_take" s__law_take p__law_take
  d__law_is_word : DRaw K mg "_law_is_word" s__law_is_word p__law_is_word
  d__law_within : DRaw K mg "_law_within" s__law_within p__law_within
  d_is_from : DRaw K mg "is_from" s_is_from p_is_from
  d_is_person : DRaw K mg "is_person" s_is_person p_is_person
  d__law_letters : DRaw K mg "_law_letters" s__law_letters p__law_letters
  d__law_is_person : DRaw K mg "_law_is_person" s__law_is_person p__law_is_person
  d__law_is_title : DRaw K mg "_law_is_title" s__law_is_title p__law_is_title
  d_is_name : DRaw K mg "is_name" s_is_name p_is_name
  d_is_rank : DRaw K mg "is_rank" s_is_rank p_is_rank
  d__law_signs : DRaw K mg "_law_signs" s__law_signs p__law_signs
  d__law_right : DRaw K mg "_law_right" s__law_right p__law_right
  d_law : DRaw K mg "law" s_law p_law
  b_all : mg "all" = none
  b_bool : mg "bool" = none
  b_int : mg "int" = none
  b_isinstance : mg "isinstance" = none
  b_len : mg "len" = none
  b_max : mg "max" = none
  b_min : mg "min" = none
  b_range : mg "range" = none
  b_repr : mg "repr" = none
  b_str : mg "str" = none
  b_tuple : mg "tuple" = none
  c_LETTERS : ∃ t : Tok, mg "LETTERS" = some (.str "abcdefghijklmnopqrstuvwxyz" t)
  c_LONGEST : ∃ t : Tok, mg "LONGEST" = some (.int 8 t)
  c_MOST_NUMBER : ∃ t : Tok, mg "MOST_NUMBER" = some (.int 99999 t)
  c_MOST_RANK : ∃ t : Tok, mg "MOST_RANK" = some (.int 100 t)
section
variable {P : Program} {w : World} {K : PySem.W.Frag} {mg : Str → Option Value} {base : Heap}
theorem sc_is_whole : FnScope n_is_whole p_is_whole (defScope s_is_whole) := ⟨rfl, rfl, rfl, by decide +kernel, rfl, by decide +kernel, by decide +kernel⟩
theorem ok_is_whole (T : Tx K mg) {f : Addr} {fd : FuncData} (F : Fun K "is_whole" "is_whole" s_is_whole f fd) : DFok P w K mg base CX0 1 f fd p_is_whole F_is_whole :=
  dfn_mk F sc_is_whole fun cdv A outer s H E hr =>
    dss_one (ds_ret (de_and (de_isi "int" (de_var 0) (by decide) (by rfl) T.b_isinstance (by rfl) T.b_int (by rfl)) (de_one (de_not (de_isi "bool" (de_var 0) (by decide) (by rfl) T.b_isinstance (by rfl) T.b_bool (by rfl))))))
theorem dd_is_whole (T : Tx K mg) : DDef P w K mg base 1 "is_whole" s_is_whole p_is_whole F_is_whole := T.d_is_whole.made (ok_is_whole T)
theorem sc_is_word : FnScope n_is_word p_is_word (defScope s_is_word) := ⟨rfl, rfl, rfl, by decide +kernel, rfl, by decide +kernel, by decide +kernel⟩
theorem kw_is_word_0 : KwBinds "is_word" s_is_word p_is_word ["thing"] 0 1 [0] := fun _ _ _ _ _ _ us ws h1 h2 => match us, ws, h1, h2 with | [], [_], _, _ => rfl
theorem ok_is_word (T : Tx K mg) {f : Addr} {fd : FuncData} (F : Fun K "is_word" "is_word" s_is_word f fd) : DFok P w K mg base CX0 1 f fd p_is_word F_is_word :=
  dfn_mk F sc_is_word fun cdv A outer s H E hr =>
    dss_one (ds_ret (de_and (de_isi "str" (de_var 0) (by decide) (by rfl) T.b_isinstance (by rfl) T.b_str (by rfl)) (de_and (de_chain op_leD op_leD (de_int) (de_callB call_lenO (by rfl) T.b_len (by rfl) (da_cons (de_var 0) (da_nil))) (de_gint T.c_LONGEST.choose_spec)) (de_one (de_callB (call_allO (by rfl)) (by rfl) T.b_all (by rfl) (da_cons (de_lc false (own := [("sign", 1)]) (by rfl) sc_is_word.nd (di_str (de_var 0)) (blkOk_by (own := [("sign", 1)]) (N := n_is_word) (sc := defScope s_is_word) (by decide +kernel)) (fun _ _ _ _ _ => dh_name 1 sc_is_word.nd (by decide)) (fun _ _ _ _ _ => dts_nil) (fun _ _ _ _ _ => de_cmp (op_inO hr) (de_var 1) (de_gstr T.c_LETTERS.choose_spec) (by rfl))) (da_nil)))))))
theorem dd_is_word (T : Tx K mg) : DDef P w K mg base 1 "is_word" s_is_word p_is_word F_is_word := T.d_is_word.made (ok_is_word T)
theorem sc_house_of : FnScope n_house_of p_house_of (defScope s_house_of) := ⟨rfl, rfl, rfl, by decide +kernel, rfl, by decide +kernel, by decide +kernel⟩
theorem kw_house_of_0 : KwBinds "house_of" s_house_of p_house_of ["person"] 0 1 [0] := fun _ _ _ _ _ _ us ws h1 h2 => match us, ws, h1, h2 with | [], [_], _, _ => rfl
theorem ok_house_of (T : Tx K mg) {f : Addr} {fd : FuncData} (F : Fun K "house_of" "house_of" s_house_of f fd) : DFok P w K mg base CX0 1 f fd p_house_of F_house_of :=
  dfn_mk F sc_house_of fun cdv A outer s H E hr =>
    dss_cons (ds_asg (de_mt PySem.F.plainAttrs_str PySem.F.slot_str_partition PySem.F.type_str_partition mt_partO (de_var 0) (da_cons (de_str) (da_nil))) (dg_tup (by rfl) (dgs_cons (dg_name 1 sc_house_of.nd) (dgs_cons (dg_name 2 sc_house_of.nd) (dgs_cons (dg_name 3 sc_house_of.nd) (dgs_nil)))))) (
    dss_one (ds_ret (de_var 3)))
theorem dd_house_of (T : Tx K mg) : DDef P w K mg base 1 "house_of" s_house_of p_house_of F_house_of := T.d_house_of.made (ok_house_of T)
theorem sc__law_pool : FnScope n__law_pool p__law_pool (defScope s__law_pool) := ⟨rfl, rfl, rfl, by decide +kernel, rfl, by decide +kernel, by decide +kernel⟩
theorem ok__law_pool (T : Tx K mg) {f : Addr} {fd : FuncData} (F : Fun K "_law_pool" "_law_pool" s__law_pool f fd) : DFok P w K mg base CX0 1 f fd p__law_pool F__law_pool :=
  dfn_mk F sc__law_pool fun cdv A outer s H E hr =>
    dss_cons (ds_set 2 sc__law_pool.nd (de_int)) (
    dss_cons (ds_if (dt_cmp op_ltD (de_var 1) (de_callB call_lenO (by rfl) T.b_len (by rfl) (da_cons (de_var 0) (da_nil))) (nomark _)) (dss_one (ds_set 2 sc__law_pool.nd (de_ix (de_var 0) (de_var 1)))) (dss_nil)) (
    dss_cons (ds_set 3 sc__law_pool.nd (de_callB (call_maxO (by rfl)) (by rfl) T.b_max (by rfl) (da_cons (de_var 2) (da_cons (de_bin op_subD (de_neg (de_int)) (de_var 2)) (da_nil))))) (
    dss_cons (ds_set 4 sc__law_pool.nd (de_bin op_modD (de_bin (op_mulD false) (de_bin (op_addD false) (de_bin (op_addD false) (de_bin (op_addD false) (de_bin op_modD (de_var 3) (de_int)) (de_bin (op_mulD false) (de_bin (op_mulD false) (de_int) (de_var 1)) (de_var 1))) (de_bin (op_mulD false) (de_int) (de_var 1))) (de_int)) (de_int)) (de_int))) (
    dss_one (ds_ret (de_lst true (da_cons (de_bin (op_mulD false) (de_var 3) (de_callTy call_intO (by rfl) T.b_int (by rfl) (da_cons (de_cmp op_geD (de_var 3) (de_bin op_powD (de_int) (de_int)) (nomark _)) (da_nil)))) (da_cons (de_var 4) (da_nil)))))))))
theorem dd__law_pool (T : Tx K mg) : DDef P w K mg base 1 "_law_pool" s__law_pool p__law_pool F__law_pool := T.d__law_pool.made (ok__law_pool T)
theorem sc__law_take : FnScope n__law_take p__law_take (defScope s__law_take) := ⟨rfl, rfl, rfl, by decide +kernel, rfl, by decide +kernel, by decide +kernel⟩
theorem ok__law_take (T : Tx K mg) {f : Addr} {fd : FuncData} (F : Fun K "_law_take" "_law_take" s__law_take f fd) : DFok P w K mg base CX0 1 f fd p__law_take F__law_take :=
  dfn_mk F sc__law_take fun cdv A outer s H E hr =>
    dss_cons (ds_if (dt_cmp op_gtD (de_ix (de_var 0) (de_int)) (de_int) (nomark _)) (dss_cons (ds_set 2 sc__law_take.nd (de_bin op_modD (de_ix (de_var 0) (de_int)) (de_var 1))) (
    dss_cons (ds_asg (de_bin op_fdivD (de_ix (de_var 0) (de_int)) (de_var 1)) (dg_sub (de_var 0) (de_int) st_setL (by intro _; rfl))) (
    dss_one (ds_ret (de_var 2))))) (dss_nil)) (
    dss_cons (ds_asg (de_bin op_modD (de_bin (op_addD false) (de_bin (op_mulD false) (de_ix (de_var 0) (de_int)) (de_int)) (de_int)) (de_int)) (dg_sub (de_var 0) (de_int) st_setL (by intro _; rfl))) (
    dss_one (ds_ret (de_bin op_modD (de_bin op_fdivD (de_bin op_modD (de_bin (op_mulD false) (de_ix (de_var 0) (de_int)) (de_ix (de_var 0) (de_int))) (de_int)) (de_int)) (de_var 1)))))
theorem dd__law_take (T : Tx K mg) : DDef P w K mg base 1 "_law_take" s__law_take p__law_take F__law_take := T.d__law_take.made (ok__law_take T)
theorem sc__law_is_word : FnScope n__law_is_word p__law_is_word (defScope s__law_is_word) := ⟨rfl, rfl, rfl, by decide +kernel, rfl, by decide +kernel, by decide +kernel⟩
theorem ok__law_is_word (T : Tx K mg) {f : Addr} {fd : FuncData} (F : Fun K "_law_is_word" "_law_is_word" s__law_is_word f fd) : DFok P w K mg base CX0 1 f fd p__law_is_word F__law_is_word :=
  dfn_mk F sc__law_is_word fun cdv A outer s H E hr =>
    dss_cons (ds_if (DWOk.t (dw_or (dt_not (dt_tru (de_isi "str" (de_var 0) (by decide) (by rfl) T.b_isinstance (by rfl) T.b_str (by rfl)))) (dw_or1 (dt_not (dt_chain op_leD op_leD (de_int) (de_callB call_lenO (by rfl) T.b_len (by rfl) (da_cons (de_var 0) (da_nil))) (de_int)))))) (dss_one (ds_ret (de_bl))) (dss_nil)) (
    dss_one (ds_ret (de_cmp (op_eqO hr) (de_lc false (own := [("_law_sign", 1)]) (by rfl) sc__law_is_word.nd (di_str (de_var 0)) (blkOk_by (own := [("_law_sign", 1)]) (N := n__law_is_word) (sc := defScope s__law_is_word) (by decide +kernel)) (fun _ _ _ _ _ => dh_name 1 sc__law_is_word.nd (by decide)) (fun _ _ _ _ _ => dts_one (dt_cmp (op_notInO hr) (de_var 1) (de_str) (by rfl))) (fun _ _ _ _ _ => de_var 1)) (de_lst false (da_nil)) (nomark _))))
theorem dd__law_is_word (T : Tx K mg) : DDef P w K mg base 1 "_law_is_word" s__law_is_word p__law_is_word F__law_is_word := T.d__law_is_word.made (ok__law_is_word T)
theorem sc__law_within : FnScope n__law_within p__law_within (defScope s__law_within) := ⟨rfl, rfl, rfl, by decide +kernel, rfl, by decide +kernel, by decide +kernel⟩
theorem ok__law_within (T : Tx K mg) {f : Addr} {fd : FuncData} (F : Fun K "_law_within" "_law_within" s__law_within f fd) : DFok P w K mg base CX0 1 f fd p__law_within F__law_within :=
  dfn_mk F sc__law_within fun cdv A outer s H E hr =>
    dss_one (ds_ret (de_and (de_isi "int" (de_var 0) (by decide) (by rfl) T.b_isinstance (by rfl) T.b_int (by rfl)) (de_and (de_not (de_isi "bool" (de_var 0) (by decide) (by rfl) T.b_isinstance (by rfl) T.b_bool (by rfl))) (de_one (de_chain op_leD op_leD (de_var 1) (de_var 0) (de_var 2))))))
theorem dd__law_within (T : Tx K mg) : DDef P w K mg base 1 "_law_within" s__law_within p__law_within F__law_within := T.d__law_within.made (ok__law_within T)
theorem sc_is_from : FnScope n_is_from p_is_from (defScope s_is_from) := ⟨rfl, rfl, rfl, by decide +kernel, rfl, by decide +kernel, by decide +kernel⟩
theorem ok_is_from (T : Tx K mg) {f : Addr} {fd : FuncData} (F : Fun K "is_from" "is_from" s_is_from f fd) : DFok P w K mg base CX0 2 f fd p_is_from F_is_from :=
  dfn_mk F sc_is_from fun cdv A outer s H E hr =>
    dss_one (ds_ret (de_and (de_callD (dd_is_whole T) hr (by decide) (da_cons (de_var 0) (da_nil))) (de_one (de_chain op_leD op_leD (de_var 1) (de_var 0) (de_var 2)))))
theorem dd_is_from (T : Tx K mg) : DDef P w K mg base 2 "is_from" s_is_from p_is_from F_is_from := T.d_is_from.made (ok_is_from T)
theorem sc_is_person : FnScope n_is_person p_is_person (defScope s_is_person) := ⟨rfl, rfl, rfl, by decide +kernel, rfl, by decide +kernel, by decide +kernel⟩
theorem kw_is_person_0 : KwBinds "is_person" s_is_person p_is_person ["thing"] 0 1 [0] := fun _ _ _ _ _ _ us ws h1 h2 => match us, ws, h1, h2 with | [], [_], _, _ => rfl
theorem ok_is_person (T : Tx K mg) {f : Addr} {fd : FuncData} (F : Fun K "is_person" "is_person" s_is_person f fd) : DFok P w K mg base CX0 2 f fd p_is_person F_is_person :=
  dfn_mk F sc_is_person fun cdv A outer s H E hr =>
    dss_cons (ds_if (dt_not (dt_tru (de_isi "str" (de_var 0) (by decide) (by rfl) T.b_isinstance (by rfl) T.b_str (by rfl)))) (dss_one (ds_ret (de_bl))) (dss_nil)) (
    dss_cons (ds_asg (de_mt PySem.F.plainAttrs_str PySem.F.slot_str_partition PySem.F.type_str_partition mt_partO (de_var 0) (da_cons (de_str) (da_nil))) (dg_tup (by rfl) (dgs_cons (dg_name 1 sc_is_person.nd) (dgs_cons (dg_name 2 sc_is_person.nd) (dgs_cons (dg_name 3 sc_is_person.nd) (dgs_nil)))))) (
    dss_one (ds_ret (de_and (de_cmp (op_eqO hr) (de_var 2) (de_str) (nomark _)) (de_and (de_callD (dd_is_word T) hr (by decide) (da_cons (de_var 1) (da_nil))) (de_one (de_callD (dd_is_word T) hr (by decide) (da_cons (de_var 3) (da_nil)))))))))
theorem dd_is_person (T : Tx K mg) : DDef P w K mg base 2 "is_person" s_is_person p_is_person F_is_person := T.d_is_person.made (ok_is_person T)
theorem sc__law_letters : FnScope n__law_letters p__law_letters (defScope s__law_letters) := ⟨rfl, rfl, rfl, by decide +kernel, rfl, by decide +kernel, by decide +kernel⟩
theorem ok__law_letters (T : Tx K mg) {f : Addr} {fd : FuncData} (F : Fun K "_law_letters" "_law_letters" s__law_letters f fd) : DFok P w K mg base CX0 2 f fd p__law_letters F__law_letters :=
  dfn_mk F sc__law_letters fun cdv A outer s H E hr =>
    dss_cons (ds_set 2 sc__law_letters.nd (de_str)) (
    dss_one (ds_ret (de_mt PySem.F.plainAttrs_str PySem.F.slot_str_join PySem.F.type_str_join mt_joinO (de_str) (da_cons (de_lc false (own := [("_law_turn", 3)]) (by rfl) sc__law_letters.nd (di_rg1 (by rfl) T.b_range (da_cons (de_var 1) (da_nil))) (blkOk_by (own := [("_law_turn", 3)]) (N := n__law_letters) (sc := defScope s__law_letters) (by decide +kernel)) (fun _ _ _ _ _ => dh_name 3 sc__law_letters.nd (by decide)) (fun _ _ _ _ _ => dts_nil) (fun _ _ _ _ _ => de_ix (de_var 2) (de_callD (dd__law_take T) hr (by decide) (da_cons (de_var 0) (da_cons (de_int) (da_nil)))))) (da_nil)))))
theorem dd__law_letters (T : Tx K mg) : DDef P w K mg base 2 "_law_letters" s__law_letters p__law_letters F__law_letters := T.d__law_letters.made (ok__law_letters T)
theorem sc__law_is_person : FnScope n__law_is_person p__law_is_person (defScope s__law_is_person) := ⟨rfl, rfl, rfl, by decide +kernel, rfl, by decide +kernel, by decide +kernel⟩
theorem ok__law_is_person (T : Tx K mg) {f : Addr} {fd : FuncData} (F : Fun K "_law_is_person" "_law_is_person" s__law_is_person f fd) : DFok P w K mg base CX0 2 f fd p__law_is_person F__law_is_person :=
  dfn_mk F sc__law_is_person fun cdv A outer s H E hr =>
    dss_cons (ds_if (DWOk.t (dw_or (dt_not (dt_tru (de_isi "str" (de_var 0) (by decide) (by rfl) T.b_isinstance (by rfl) T.b_str (by rfl)))) (dw_or1 (dt_cmp (op_neO hr) (de_mt PySem.F.plainAttrs_str PySem.F.slot_str_count PySem.F.type_str_count mt_countO (de_var 0) (da_cons (de_str) (da_nil))) (de_int) (nomark _))))) (dss_one (ds_ret (de_bl))) (dss_nil)) (
    dss_one (ds_ret (de_cmp (op_eqO hr) (de_lc false (own := [("_law_part", 1)]) (by rfl) sc__law_is_person.nd (di_seq (de_mt PySem.F.plainAttrs_str PySem.F.slot_str_split PySem.F.type_str_split (mt_splitO false) (de_var 0) (da_cons (de_str) (da_nil)))) (blkOk_by (own := [("_law_part", 1)]) (N := n__law_is_person) (sc := defScope s__law_is_person) (by decide +kernel)) (fun _ _ _ _ _ => dh_name 1 sc__law_is_person.nd (by decide)) (fun _ _ _ _ _ => dts_one (dt_not (dt_tru (de_callD (dd__law_is_word T) hr (by decide) (da_cons (de_var 1) (da_nil)))))) (fun _ _ _ _ _ => de_var 1)) (de_lst false (da_nil)) (nomark _))))
theorem dd__law_is_person (T : Tx K mg) : DDef P w K mg base 2 "_law_is_person" s__law_is_person p__law_is_person F__law_is_person := T.d__law_is_person.made (ok__law_is_person T)
theorem sc__law_is_title : FnScope n__law_is_title p__law_is_title (defScope s__law_is_title) := ⟨rfl, rfl, rfl, by decide +kernel, rfl, by decide +kernel, by decide +kernel⟩
theorem ok__law_is_title (T : Tx K mg) {f : Addr} {fd : FuncData} (F : Fun K "_law_is_title" "_law_is_title" s__law_is_title f fd) : DFok P w K mg base CX0 2 f fd p__law_is_title F__law_is_title :=
  dfn_mk F sc__law_is_title fun cdv A outer s H E hr =>
    dss_cons (ds_if (DWOk.t (dw_or (dt_not (dt_tru (de_isi "tuple" (de_var 0) (by decide) (by rfl) T.b_isinstance (by rfl) T.b_tuple (by rfl)))) (dw_or1 (dt_cmp (op_neO hr) (de_callB call_lenO (by rfl) T.b_len (by rfl) (da_cons (de_var 0) (da_nil))) (de_int) (nomark _))))) (dss_one (ds_ret (de_bl))) (dss_nil)) (
    dss_one (ds_ret (de_and (de_callD (dd__law_is_word T) hr (by decide) (da_cons (de_ix (de_var 0) (de_int)) (da_nil))) (de_one (de_callD (dd__law_within T) hr (by decide) (da_cons (de_ix (de_var 0) (de_int)) (da_cons (de_int) (da_cons (de_int) (da_nil)))))))))
theorem dd__law_is_title (T : Tx K mg) : DDef P w K mg base 2 "_law_is_title" s__law_is_title p__law_is_title F__law_is_title := T.d__law_is_title.made (ok__law_is_title T)
theorem sc_is_name : FnScope n_is_name p_is_name (defScope s_is_name) := ⟨rfl, rfl, rfl, by decide +kernel, rfl, by decide +kernel, by decide +kernel⟩
theorem kw_is_name_0 : KwBinds "is_name" s_is_name p_is_name ["thing"] 0 1 [0] := fun _ _ _ _ _ _ us ws h1 h2 => match us, ws, h1, h2 with | [], [_], _, _ => rfl
theorem ok_is_name (T : Tx K mg) {f : Addr} {fd : FuncData} (F : Fun K "is_name" "is_name" s_is_name f fd) : DFok P w K mg base CX0 3 f fd p_is_name F_is_name :=
  dfn_mk F sc_is_name fun cdv A outer s H E hr =>
    dss_one (ds_ret (de_and (de_isi "tuple" (de_var 0) (by decide) (by rfl) T.b_isinstance (by rfl) T.b_tuple (by rfl)) (de_and (de_cmp (op_eqO hr) (de_callB call_lenO (by rfl) T.b_len (by rfl) (da_cons (de_var 0) (da_nil))) (de_int) (nomark _)) (de_and (de_callD (dd_is_word T) hr (by decide) (da_cons (de_ix (de_var 0) (de_int)) (da_nil))) (de_one (de_callD (dd_is_from T) hr (by decide) (da_cons (de_ix (de_var 0) (de_int)) (da_cons (de_int) (da_cons (de_gint T.c_MOST_NUMBER.choose_spec) (da_nil))))))))))
theorem dd_is_name (T : Tx K mg) : DDef P w K mg base 3 "is_name" s_is_name p_is_name F_is_name := T.d_is_name.made (ok_is_name T)
theorem sc_is_rank : FnScope n_is_rank p_is_rank (defScope s_is_rank) := ⟨rfl, rfl, rfl, by decide +kernel, rfl, by decide +kernel, by decide +kernel⟩
theorem kw_is_rank_0 : KwBinds "is_rank" s_is_rank p_is_rank ["thing"] 0 1 [0] := fun _ _ _ _ _ _ us ws h1 h2 => match us, ws, h1, h2 with | [], [_], _, _ => rfl
theorem ok_is_rank (T : Tx K mg) {f : Addr} {fd : FuncData} (F : Fun K "is_rank" "is_rank" s_is_rank f fd) : DFok P w K mg base CX0 3 f fd p_is_rank F_is_rank :=
  dfn_mk F sc_is_rank fun cdv A outer s H E hr =>
    dss_one (ds_ret (de_callD (dd_is_from T) hr (by decide) (da_cons (de_var 0) (da_cons (de_int) (da_cons (de_gint T.c_MOST_RANK.choose_spec) (da_nil))))))
theorem dd_is_rank (T : Tx K mg) : DDef P w K mg base 3 "is_rank" s_is_rank p_is_rank F_is_rank := T.d_is_rank.made (ok_is_rank T)
theorem sc__law_signs : FnScope n__law_signs p__law_signs (defScope s__law_signs) := ⟨rfl, rfl, rfl, by decide +kernel, rfl, by decide +kernel, by decide +kernel⟩
theorem ok__law_signs (T : Tx K mg) {f : Addr} {fd : FuncData} (F : Fun K "_law_signs" "_law_signs" s__law_signs f fd) : DFok P w K mg base CX0 3 f fd p__law_signs F__law_signs :=
  dfn_mk F sc__law_signs fun cdv A outer s H E hr =>
    dss_cons (ds_set 1 sc__law_signs.nd (de_callD (dd__law_letters T) hr (by decide) (da_cons (de_var 0) (da_cons (de_callD (dd__law_take T) hr (by decide) (da_cons (de_var 0) (da_cons (de_int) (da_nil)))) (da_nil))))) (
    dss_cons (ds_set 2 sc__law_signs.nd (de_ix (de_lst false (da_cons (de_str) (da_cons (de_str) (da_cons (de_str) (da_cons (de_str) (da_cons (de_str) (da_cons (de_str) (da_cons (de_str) (da_cons (de_str) (da_cons (de_str) (da_cons (de_str) (da_nil)))))))))))) (de_callD (dd__law_take T) hr (by decide) (da_cons (de_var 0) (da_cons (de_int) (da_nil)))))) (
    dss_cons (ds_if (dt_cmp (op_eqO hr) (de_callD (dd__law_take T) hr (by decide) (da_cons (de_var 0) (da_cons (de_int) (da_nil)))) (de_int) (nomark _)) (dss_cons (ds_set 3 sc__law_signs.nd (de_callD (dd__law_take T) hr (by decide) (da_cons (de_var 0) (da_cons (de_bin (op_addD false) (de_callB call_lenO (by rfl) T.b_len (by rfl) (da_cons (de_var 1) (da_nil))) (de_int)) (da_nil))))) (
    dss_one (ds_ret (de_bin (op_addD false) (de_bin (op_addD false) (de_slice false (de_var 1) (dp_none) (dp_some (de_var 3))) (de_var 2)) (de_slice false (de_var 1) (dp_some (de_var 3)) (dp_none)))))) (dss_nil)) (
    dss_one (ds_ret (de_var 1)))))
theorem dd__law_signs (T : Tx K mg) : DDef P w K mg base 3 "_law_signs" s__law_signs p__law_signs F__law_signs := T.d__law_signs.made (ok__law_signs T)
theorem sc__law_right : FnScope n__law_right p__law_right (defScope s__law_right) := ⟨rfl, rfl, rfl, by decide +kernel, rfl, by decide +kernel, by decide +kernel⟩
theorem ok__law_right (T : Tx K mg) {f : Addr} {fd : FuncData} (F : Fun K "_law_right" "_law_right" s__law_right f fd) : DFok P w K mg base CX0 4 f fd p__law_right F__law_right :=
  dfn_mk F sc__law_right fun cdv A outer s H E hr =>
    dss_cons (ds_set 1 sc__law_right.nd (de_lst false (da_cons (de_callD (dd__law_is_word T) hr (by decide) (da_cons (de_var 0) (da_nil))) (da_cons (de_callD (dd__law_is_person T) hr (by decide) (da_cons (de_var 0) (da_nil))) (da_cons (de_callD (dd__law_is_title T) hr (by decide) (da_cons (de_var 0) (da_nil))) (da_cons (de_callD (dd__law_within T) hr (by decide) (da_cons (de_var 0) (da_cons (de_int) (da_cons (de_int) (da_nil))))) (da_nil))))))) (
    dss_cons (ds_if (dt_cmp (op_neO hr) (de_callB (call_reprO hr) (by rfl) T.b_repr (by rfl) (da_cons (de_lst false (da_cons (de_callD (dd_is_word T) hr (by decide) (da_cons (de_var 0) (da_nil))) (da_cons (de_callD (dd_is_person T) hr (by decide) (da_cons (de_var 0) (da_nil))) (da_cons (de_callD (dd_is_name T) hr (by decide) (da_cons (de_var 0) (da_nil))) (da_cons (de_callD (dd_is_rank T) hr (by decide) (da_cons (de_var 0) (da_nil))) (da_nil)))))) (da_nil))) (de_callB (call_reprO hr) (by rfl) T.b_repr (by rfl) (da_cons (de_var 1) (da_nil))) (nomark _)) (dss_one (ds_ret (de_bl))) (dss_nil)) (
    dss_one (ds_ret (de_cmp (op_eqO hr) (de_callB (call_reprO hr) (by rfl) T.b_repr (by rfl) (da_cons (de_lst false (da_cons (de_callKD0 (dd_is_word T) hr (by decide) kw_is_word_0 (dk_cons (de_var 0) (dk_nil))) (da_cons (de_callKD0 (dd_is_person T) hr (by decide) kw_is_person_0 (dk_cons (de_var 0) (dk_nil))) (da_cons (de_callKD0 (dd_is_name T) hr (by decide) kw_is_name_0 (dk_cons (de_var 0) (dk_nil))) (da_cons (de_callKD0 (dd_is_rank T) hr (by decide) kw_is_rank_0 (dk_cons (de_var 0) (dk_nil))) (da_nil)))))) (da_nil))) (de_callB (call_reprO hr) (by rfl) T.b_repr (by rfl) (da_cons (de_var 1) (da_nil))) (nomark _)))))
theorem dd__law_right (T : Tx K mg) : DDef P w K mg base 4 "_law_right" s__law_right p__law_right F__law_right := T.d__law_right.made (ok__law_right T)
theorem sc_law : FnScope n_law p_law (defScope s_law) := ⟨rfl, rfl, rfl, by decide +kernel, rfl, by decide +kernel, by decide +kernel⟩
theorem ok_law (T : Tx K mg) {f : Addr} {fd : FuncData} (F : Fun K "law" "law" s_law f fd) : DFok P w K mg base CX0 5 f fd p_law F_law :=
  dfn_mk F sc_law fun cdv A outer s H E hr =>
    dss_cons (ds_for PassesOwn.never (by rfl) (di_seq (de_lst false (da_cons (de_non) (da_cons (de_bl) (da_cons (de_int) (da_cons (de_int) (da_cons (de_int) (da_cons (de_neg (de_int)) (da_cons (de_bin op_powD (de_int) (de_int)) (da_cons (de_str) (da_cons (de_str) (da_cons (de_str) (da_cons (de_str) (da_cons (de_tup (da_nil)) (da_cons (de_tup (da_cons (de_str) (da_cons (de_int) (da_nil)))) (da_cons (de_lst false (da_cons (de_str) (da_cons (de_int) (da_nil)))) (da_cons (de_newK false) (da_cons (de_tup (da_cons (de_str) (da_cons (de_int) (da_nil)))) (da_nil))))))))))))))))))) (dg_name 1 sc_law.nd) (dss_one (ds_if (dt_not (dt_tru (de_callD (dd__law_right T) hr (by decide) (da_cons (de_var 1) (da_nil))))) (dss_one (ds_ret (de_bl))) (dss_nil)))) (
    dss_cons (ds_for PassesOwn.never (by rfl) (di_rg1 (by rfl) T.b_range (da_cons (de_callB (call_maxO (by rfl)) (by rfl) T.b_max (by rfl) (da_cons (de_int) (da_cons (de_callB (call_minO (by rfl)) (by rfl) T.b_min (by rfl) (da_cons (de_callB call_lenO (by rfl) T.b_len (by rfl) (da_cons (de_var 0) (da_nil))) (da_cons (de_int) (da_nil)))) (da_nil)))) (da_nil))) (dg_name 2 sc_law.nd) (dss_cons (ds_set 3 sc_law.nd (de_callD (dd__law_pool T) hr (by decide) (da_cons (de_var 0) (da_cons (de_var 2) (da_nil))))) (
    dss_cons (ds_set 4 sc_law.nd (de_callD (dd__law_signs T) hr (by decide) (da_cons (de_var 3) (da_nil)))) (
    dss_cons (ds_set 5 sc_law.nd (de_callD (dd__law_signs T) hr (by decide) (da_cons (de_var 3) (da_nil)))) (
    dss_cons (ds_set 6 sc_law.nd (de_bin (op_addD false) (de_bin (op_addD false) (de_var 4) (de_bin (op_mulD false) (de_str) (de_callD (dd__law_take T) hr (by decide) (da_cons (de_var 3) (da_cons (de_int) (da_nil)))))) (de_var 5))) (
    dss_cons (ds_set 7 sc_law.nd (de_ix (de_lst false (da_cons (de_bin op_subD (de_callD (dd__law_take T) hr (by decide) (da_cons (de_var 3) (da_cons (de_int) (da_nil)))) (de_int)) (da_cons (de_bin (op_addD false) (de_int) (de_callD (dd__law_take T) hr (by decide) (da_cons (de_var 3) (da_cons (de_int) (da_nil))))) (da_cons (de_bl) (da_cons (de_non) (da_cons (de_str) (da_nil))))))) (de_callD (dd__law_take T) hr (by decide) (da_cons (de_var 3) (da_cons (de_int) (da_nil)))))) (
    dss_cons (ds_set 8 sc_law.nd (de_lst false (da_cons (de_var 4) (da_cons (de_var 6) (da_cons (de_bin (op_addD false) (de_bin (op_addD false) (de_var 6) (de_str)) (de_var 4)) (da_cons (de_tup (da_cons (de_var 4) (da_cons (de_var 7) (da_nil)))) (da_cons (de_tup (da_cons (de_var 4) (da_cons (de_var 7) (da_cons (de_int) (da_nil))))) (da_cons (de_lst false (da_cons (de_var 4) (da_cons (de_var 7) (da_nil)))) (da_cons (de_tup (da_cons (de_var 6) (da_cons (de_int) (da_nil)))) (da_cons (de_var 7) (da_cons (de_tup (da_cons (de_var 7) (da_cons (de_var 4) (da_nil)))) (da_nil)))))))))))) (
    dss_cons (ds_for PassesOwn.never (by rfl) (di_seq (de_var 8)) (dg_name 1 sc_law.nd) (dss_one (ds_if (dt_not (dt_tru (de_callD (dd__law_right T) hr (by decide) (da_cons (de_var 1) (da_nil))))) (dss_one (ds_ret (de_bl))) (dss_nil)))) (
    dss_one (ds_if (DWOk.t (dw_and (dt_tru (de_callD (dd__law_is_person T) hr (by decide) (da_cons (de_var 6) (da_nil)))) (dw_and1 (dt_cmp (op_neO hr) (de_lst false (da_cons (de_callD (dd_house_of T) hr (by decide) (da_cons (de_var 6) (da_nil))) (da_cons (de_callKD0 (dd_house_of T) hr (by decide) kw_house_of_0 (dk_cons (de_var 6) (dk_nil))) (da_nil)))) (de_bin (op_mulD false) (de_slice false (de_mt PySem.F.plainAttrs_str PySem.F.slot_str_split PySem.F.type_str_split (mt_splitO false) (de_var 6) (da_cons (de_str) (da_nil))) (dp_some (de_int)) (dp_none)) (de_int)) (nomark _))))) (dss_one (ds_ret (de_bl))) (dss_nil))))))))))) (
    dss_one (ds_ret (de_bl))))
theorem dd_law (T : Tx K mg) : DDef P w K mg base 5 "law" s_law p_law F_law := T.d_law.made (ok_law T)
end
theorem tx_mk {K : PySem.W.Frag} {mg : Str → Option Value} {h : Heap} (X : K.In h) (G : h.Ns mainGlobals mg)
    {f0 : Addr} {oc0 kV0 doc0 pm0 cdv0 ct0 : Value} {od0 an0 : Option Addr} {osl0 : Array (Option Value)} (a0 : PySem.W.nsIn K mainGlobals "is_whole" = some (some (.ref f0)))
    (l0 : K.lookup f0 = some ⟨oc0, od0, .func (PySem.W.fnOf "is_whole" "is_whole" (defArgs s_is_whole) (defBody s_is_whole) (defScope s_is_whole) .none kV0 doc0 pm0 an0 cdv0 ct0), osl0⟩) (c0 : PySem.W.codeIn K cdv0 "is_whole" = true) (k0 : PySem.W.keepIn K (.ref f0) = true)
    {f1 : Addr} {oc1 kV1 doc1 pm1 cdv1 ct1 : Value} {od1 an1 : Option Addr} {osl1 : Array (Option Value)} (a1 : PySem.W.nsIn K mainGlobals "is_word" = some (some (.ref f1)))
    (l1 : K.lookup f1 = some ⟨oc1, od1, .func (PySem.W.fnOf "is_word" "is_word" (defArgs s_is_word) (defBody s_is_word) (defScope s_is_word) .none kV1 doc1 pm1 an1 cdv1 ct1), osl1⟩) (c1 : PySem.W.codeIn K cdv1 "is_word" = true) (k1 : PySem.W.keepIn K (.ref f1) = true)
    {f2 : Addr} {oc2 kV2 doc2 pm2 cdv2 ct2 : Value} {od2 an2 : Option Addr} {osl2 : Array (Option Value)} (a2 : PySem.W.nsIn K mainGlobals "house_of" = some (some (.ref f2)))
    (l2 : K.lookup f2 = some ⟨oc2, od2, .func (PySem.W.fnOf "house_of" "house_of" (defArgs s_house_of) (defBody s_house_of) (defScope s_house_of) .none kV2 doc2 pm2 an2 cdv2 ct2), osl2⟩) (c2 : PySem.W.codeIn K cdv2 "house_of" = true) (k2 : PySem.W.keepIn K (.ref f2) = true)
    {f3 : Addr} {oc3 kV3 doc3 pm3 cdv3 ct3 : Value} {od3 an3 : Option Addr} {osl3 : Array (Option Value)} (a3 : PySem.W.nsIn K mainGlobals "_law_pool" = some (some (.ref f3)))
    (l3 : K.lookup f3 = some ⟨oc3, od3, .func (PySem.W.fnOf "_law_pool" "_law_pool" (defArgs s__law_pool) (defBody s__law_pool) (defScope s__law_pool) .none kV3 doc3 pm3 an3 cdv3 ct3), osl3⟩) (c3 : PySem.W.codeIn K cdv3 "_law_pool" = true) (k3 : PySem.W.keepIn K (.ref f3) = true)
    {f4 : Addr} {oc4 kV4 doc4 pm4 cdv4 ct4 : Value} {od4 an4 : Option Addr} {osl4 : Array (Option Value)} (a4 : PySem.W.nsIn K mainGlobals "_law_take" = some (some (.ref f4)))
    (l4 : K.lookup f4 = some ⟨oc4, od4, .func (PySem.W.fnOf "_law_take" "_law_take" (defArgs s__law_take) (defBody s__law_take) (defScope s__law_take) .none kV4 doc4 pm4 an4 cdv4 ct4), osl4⟩) (c4 : PySem.W.codeIn K cdv4 "_law_take" = true) (k4 : PySem.W.keepIn K (.ref f4) = true)
    {f5 : Addr} {oc5 kV5 doc5 pm5 cdv5 ct5 : Value} {od5 an5 : Option Addr} {osl5 : Array (Option Value)} (a5 : PySem.W.nsIn K mainGlobals "_law_is_word" = some (some (.ref f5)))
    (l5 : K.lookup f5 = some ⟨oc5, od5, .func (PySem.W.fnOf "_law_is_word" "_law_is_word" (defArgs s__law_is_word) (defBody s__law_is_word) (defScope s__law_is_word) .none kV5 doc5 pm5 an5 cdv5 ct5), osl5⟩) (c5 : PySem.W.codeIn K cdv5 "_law_is_word" = true) (k5 : PySem.W.keepIn K (.ref f5) = true)
    {f6 : Addr} {oc6 kV6 doc6 pm6 cdv6 ct6 : Value} {od6 an6 : Option Addr} {osl6 : Array (Option Value)} (a6 : PySem.W.nsIn K mainGlobals "_law_within" = some (some (.ref f6)))
    (l6 : K.lookup f6 = some ⟨oc6, od6, .func (PySem.W.fnOf "_law_within" "_law_within" (defArgs s__law_within) (defBody s__law_within) (defScope s__law_within) .none kV6 doc6 pm6 an6 cdv6 ct6), osl6⟩) (c6 : PySem.W.codeIn K cdv6 "_law_within" = true) (k6 : PySem.W.keepIn K (.ref f6) = true)
    {f7 : Addr} {oc7 kV7 doc7 pm7 cdv7 ct7 : Value} {od7 an7 : Option Addr} {osl7 : Array (Option Value)} (a7 : PySem.W.nsIn K mainGlobals "is_from" = some (some (.ref f7)))
    (l7 : K.lookup f7 = some ⟨oc7, od7, .func (PySem.W.fnOf "is_from" "is_from" (defArgs s_is_from) (defBody s_is_from) (defScope s_is_from) .none kV7 doc7 pm7 an7 cdv7 ct7), osl7⟩) (c7 : PySem.W.codeIn K cdv7 "is_from" = true) (k7 : PySem.W.keepIn K (.ref f7) = true)
    {f8 : Addr} {oc8 kV8 doc8 pm8 cdv8 ct8 : Value} {od8 an8 : Option Addr} {osl8 : Array (Option Value)} (a8 : PySem.W.nsIn K mainGlobals "is_person" = some (some (.ref f8)))
    (l8 : K.lookup f8 = some ⟨oc8, od8, .func (PySem.W.fnOf "is_person" "is_person" (defArgs s_is_person) (defBody s_is_person) (defScope s_is_person) .none kV8 doc8 pm8 an8 cdv8 ct8), osl8⟩) (c8 : PySem.W.codeIn K cdv8 "is_person" = true) (k8 : PySem.W.keepIn K (.ref f8) = true)
    {f9 : Addr} {oc9 kV9 doc9 pm9 cdv9 ct9 : Value} {od9 an9 : Option Addr} {osl9 : Array (Option Value)} (a9 : PySem.W.nsIn K mainGlobals "_law_letters" = some (some (.ref f9)))
    (l9 : K.lookup f9 = some ⟨oc9, od9, .func (PySem.W.fnOf "_law_letters" "_law_letters" (defArgs s__law_letters) (defBody s__law_letters) (defScope s__law_letters) .none kV9 doc9 pm9 an9 cdv9 ct9), osl9⟩) (c9 : PySem.W.codeIn K cdv9 "_law_letters" = true) (k9 : PySem.W.keepIn K (.ref f9) = true)
    {f10 : Addr} {oc10 kV10 doc10 pm10 cdv10 ct10 : Value} {od10 an10 : Option Addr} {osl10 : Array (Option Value)} (a10 : PySem.W.nsIn K mainGlobals "_law_is_person" = some (some (.ref f10)))
    (l10 : K.lookup f10 = some ⟨oc10, od10, .func (PySem.W.fnOf "_law_is_person" "_law_is_person" (defArgs s__law_is_person) (defBody s__law_is_person) (defScope s__law_is_person) .none kV10 doc10 pm10 an10 cdv10 ct10), osl10⟩) (c10 : PySem.W.codeIn K cdv10 "_law_is_person" = true) (k10 : PySem.W.keepIn K (.ref f10) = true)
    {f11 : Addr} {oc11 kV11 doc11 pm11 cdv11 ct11 : Value} {od11 an11 : Option Addr} {osl11 : Array (Option Value)} (a11 : PySem.W.nsIn K mainGlobals "_law_is_title" = some (some (.ref f11)))
    (l11 : K.lookup f11 = some ⟨oc11, od11, .func (PySem.W.fnOf "_law_is_title" "_law_is_title" (defArgs s__law_is_title) (defBody s__law_is_title) (defScope s__law_is_title) .none kV11 doc11 pm11 an11 cdv11 ct11), osl11⟩) (c11 : PySem.W.codeIn K cdv11 "_law_is_title" = true) (k11 : PySem.W.keepIn K (.ref f11) = true)
    {f12 : Addr} {oc12 kV12 doc12 pm12 cdv12 ct12 : Value} {od12 an12 : Option Addr} {osl12 : Array (Option Value)} (a12 : PySem.W.nsIn K mainGlobals "is_name" = some (some (.ref f12)))
    (l12 : K.lookup f12 = some ⟨oc12, od12, .func (PySem.W.fnOf "is_name" "is_name" (defArgs s_is_name) (defBody s_is_name) (defScope s_is_name) .none kV12 doc12 pm12 an12 cdv12 ct12), osl12⟩) (c12 : PySem.W.codeIn K cdv12 "is_name" = true) (k12 : PySem.W.keepIn K (.ref f12) = true)
    {f13 : Addr} {oc13 kV13 doc13 pm13 cdv13 ct13 : Value} {od13 an13 : Option Addr} {osl13 : Array (Option Value)} (a13 : PySem.W.nsIn K mainGlobals "is_rank" = some (some (.ref f13)))
    (l13 : K.lookup f13 = some ⟨oc13, od13, .func (PySem.W.fnOf "is_rank" "is_rank" (defArgs s_is_rank) (defBody s_is_rank) (defScope s_is_rank) .none kV13 doc13 pm13 an13 cdv13 ct13), osl13⟩) (c13 : PySem.W.codeIn K cdv13 "is_rank" = true) (k13 : PySem.W.keepIn K (.ref f13) = true)
    {f14 : Addr} {oc14 kV14 doc14 pm14 cdv14 ct14 : Value} {od14 an14 : Option Addr} {osl14 : Array (Option Value)} (a14 : PySem.W.nsIn K mainGlobals "_law_signs" = some (some (.ref f14)))
    (l14 : K.lookup f14 = some ⟨oc14, od14, .func (PySem.W.fnOf "_law_signs" "_law_signs" (defArgs s__law_signs) (defBody s__law_signs) (defScope s__law_signs) .none kV14 doc14 pm14 an14 cdv14 ct14), osl14⟩) (c14 : PySem.W.codeIn K cdv14 "_law_signs" = true) (k14 : PySem.W.keepIn K (.ref f14) = true)
    {f15 : Addr} {oc15 kV15 doc15 pm15 cdv15 ct15 : Value} {od15 an15 : Option Addr} {osl15 : Array (Option Value)} (a15 : PySem.W.nsIn K mainGlobals "_law_right" = some (some (.ref f15)))
    (l15 : K.lookup f15 = some ⟨oc15, od15, .func (PySem.W.fnOf "_law_right" "_law_right" (defArgs s__law_right) (defBody s__law_right) (defScope s__law_right) .none kV15 doc15 pm15 an15 cdv15 ct15), osl15⟩) (c15 : PySem.W.codeIn K cdv15 "_law_right" = true) (k15 : PySem.W.keepIn K (.ref f15) = true)
    {f16 : Addr} {oc16 kV16 doc16 pm16 cdv16 ct16 : Value} {od16 an16 : Option Addr} {osl16 : Array (Option Value)} (a16 : PySem.W.nsIn K mainGlobals "law" = some (some (.ref f16)))
    (l16 : K.lookup f16 = some ⟨oc16, od16, .func (PySem.W.fnOf "law" "law" (defArgs s_law) (defBody s_law) (defScope s_law) .none kV16 doc16 pm16 an16 cdv16 ct16), osl16⟩) (c16 : PySem.W.codeIn K cdv16 "law" = true) (k16 : PySem.W.keepIn K (.ref f16) = true)
    (z_all : PySem.W.nsIn K mainGlobals "all" = some none)
    (z_bool : PySem.W.nsIn K mainGlobals "bool" = some none)
    (z_int : PySem.W.nsIn K mainGlobals "int" = some none)
    (z_isinstance : PySem.W.nsIn K mainGlobals "isinstance" = some none)
    (z_len : PySem.W.nsIn K mainGlobals "len" = some none)
    (z_max : PySem.W.nsIn K mainGlobals "max" = some none)
    (z_min : PySem.W.nsIn K mainGlobals "min" = some none)
    (z_range : PySem.W.nsIn K mainGlobals "range" = some none)
    (z_repr : PySem.W.nsIn K mainGlobals "repr" = some none)
    (z_str : PySem.W.nsIn K mainGlobals "str" = some none)
    (z_tuple : PySem.W.nsIn K mainGlobals "tuple" = some none)
    {t_LETTERS : Tok} (z_LETTERS : PySem.W.nsIn K mainGlobals "LETTERS" = some (some (.str "abcdefghijklmnopqrstuvwxyz" t_LETTERS)))
    {t_LONGEST : Tok} (z_LONGEST : PySem.W.nsIn K mainGlobals "LONGEST" = some (some (.int 8 t_LONGEST)))
    {t_MOST_NUMBER : Tok} (z_MOST_NUMBER : PySem.W.nsIn K mainGlobals "MOST_NUMBER" = some (some (.int 99999 t_MOST_NUMBER)))
    {t_MOST_RANK : Tok} (z_MOST_RANK : PySem.W.nsIn K mainGlobals "MOST_RANK" = some (some (.int 100 t_MOST_RANK))) :
    Tx K mg where
  d_is_whole := draw_mk X G a0 l0 c0 k0 fun _ _ _ _ _ _ us hl => match us, hl with | [_], _ => rfl
  d_is_word := draw_mk X G a1 l1 c1 k1 fun _ _ _ _ _ _ us hl => match us, hl with | [_], _ => rfl
  d_house_of := draw_mk X G a2 l2 c2 k2 fun _ _ _ _ _ _ us hl => match us, hl with | [_], _ => rfl
  d__law_pool := draw_mk X G a3 l3 c3 k3 fun _ _ _ _ _ _ us hl => match us, hl with | [_, _], _ => rfl
  d__law_take := draw_mk X G a4 l4 c4 k4 fun _ _ _ _ _ _ us hl => match us, hl with | [_, _], _ => rfl
  d__law_is_word := draw_mk X G a5 l5 c5 k5 fun _ _ _ _ _ _ us hl => match us, hl with | [_], _ => rfl
  d__law_within := draw_mk X G a6 l6 c6 k6 fun _ _ _ _ _ _ us hl => match us, hl with | [_, _, _], _ => rfl
  d_is_from := draw_mk X G a7 l7 c7 k7 fun _ _ _ _ _ _ us hl => match us, hl with | [_, _, _], _ => rfl
  d_is_person := draw_mk X G a8 l8 c8 k8 fun _ _ _ _ _ _ us hl => match us, hl with | [_], _ => rfl
  d__law_letters := draw_mk X G a9 l9 c9 k9 fun _ _ _ _ _ _ us hl => match us, hl with | [_, _], _ => rfl
  d__law_is_person := draw_mk X G a10 l10 c10 k10 fun _ _ _ _ _ _ us hl => match us, hl with | [_], _ => rfl
  d__law_is_title := draw_mk X G a11 l11 c11 k11 fun _ _ _ _ _ _ us hl => match us, hl with | [_], _ => rfl
  d_is_name := draw_mk X G a12 l12 c12 k12 fun _ _ _ _ _ _ us hl => match us, hl with | [_], _ => rfl
  d_is_rank := draw_mk X G a13 l13 c13 k13 fun _ _ _ _ _ _ us hl => match us, hl with | [_], _ => rfl
  d__law_signs := draw_mk X G a14 l14 c14 k14 fun _ _ _ _ _ _ us hl => match us, hl with | [_], _ => rfl
  d__law_right := draw_mk X G a15 l15 c15 k15 fun _ _ _ _ _ _ us hl => match us, hl with | [_], _ => rfl
  d_law := draw_mk X G a16 l16 c16 k16 fun _ _ _ _ _ _ us hl => match us, hl with | [_], _ => rfl
  b_all := PySem.W.mg_none_of X G z_all
  b_bool := PySem.W.mg_none_of X G z_bool
  b_int := PySem.W.mg_none_of X G z_int
  b_isinstance := PySem.W.mg_none_of X G z_isinstance
  b_len := PySem.W.mg_none_of X G z_len
  b_max := PySem.W.mg_none_of X G z_max
  b_min := PySem.W.mg_none_of X G z_min
  b_range := PySem.W.mg_none_of X G z_range
  b_repr := PySem.W.mg_none_of X G z_repr
  b_str := PySem.W.mg_none_of X G z_str
  b_tuple := PySem.W.mg_none_of X G z_tuple
  c_LETTERS := ⟨_, PySem.W.mg_of X G z_LETTERS⟩
  c_LONGEST := ⟨_, PySem.W.mg_of X G z_LONGEST⟩
  c_MOST_NUMBER := ⟨_, PySem.W.mg_of X G z_MOST_NUMBER⟩
  c_MOST_RANK := ⟨_, PySem.W.mg_of X G z_MOST_RANK⟩
theorem law_fd {q : Program} {w : World} {K : PySem.W.Frag} {mg : Str → Option Value} {fa : Addr} (T : Tx K mg) (hfa : mg "law" = some (.ref fa)) :
    ∃ fd : FuncData, (∀ (t : Shared) (u : Value), BindsTo t fd ⟨[u], []⟩ [("_law_script", u)]) ∧ ∀ base : Heap, K.In base → base.Ns mainGlobals mg → DFok q w K mg base CX0 5 fa fd ["_law_script"] F_law :=
  dlaw_fd T.d_law hfa (fun _ _ _ _ _ _ _ => rfl) fun base _ _ F => ok_law T F
end K01
end
/-! ==== DSim ==== -/
section
set_option Elab.async false
set_option linter.all false
set_option autoImplicit false
set_option maxRecDepth 100000
set_option maxHeartbeats 4000000
/-! DL: the combinators, applied. Printed by simgen.py. -/
namespace DL
open PySem
@[simp] theorem dVar_s (i : Nat) (s : DSl) (G : DH) : dVar i s G = match s[i]? with
  | some (some d) => .ok d G
  | _ => .stop := (rfl)
@[simp] theorem dC_s (d : D) (x0 : DSl) (G : DH) : dC d x0 G = .ok d G := (rfl)
@[simp] theorem dBin_s (F : D → D → DH → R D) (a b : DE) (s : DSl) (G : DH) : dBin F a b s G = (a s G).bind fun x G => (b s G).bind fun y G => F x y G := (rfl)
@[simp] theorem dTest_s (f : DE) (s : DSl) (G : DH) : dTest f s G = (f s G).bind fun d G => match d with
  | .bl b => .ok b G
  | _ => .stop := (rfl)
@[simp] theorem dChain_s (F F' : D → D → DH → R D) (a b c : DE) (s : DSl) (G : DH) : dChain F F' a b c s G = (a s G).bind fun x G => (b s G).bind fun y G => (F x y G).bind fun z G => match z with
  | .bl true => (c s G).bind fun w G => F' y w G
  | .bl false => .ok (.bl false) G
  | _ => .stop := (rfl)
@[simp] theorem dUn_s (F : D → DH → R D) (a : DE) (s : DSl) (G : DH) : dUn F a s G = (a s G).bind F := (rfl)
@[simp] theorem dAnd_s (a b : DE) (s : DSl) (G : DH) : dAnd a b s G = (a s G).bind fun x G => match truD G x with
  | some true => b s G
  | some false => .ok x G
  | none => .stop := (rfl)
@[simp] theorem dOr_s (a b : DE) (s : DSl) (G : DH) : dOr a b s G = (a s G).bind fun x G => match truD G x with
  | some true => .ok x G
  | some false => b s G
  | none => .stop := (rfl)
@[simp] theorem dNot_s (a : DE) (s : DSl) (G : DH) : dNot a s G = (a s G).bind fun x G => match truD G x with
  | some b => .ok (.bl (!b)) G
  | none => .stop := (rfl)
@[simp] theorem dTru_s (a : DE) (s : DSl) (G : DH) : dTru a s G = (a s G).bind fun x G => match truD G x with
  | some b => .ok b G
  | none => .stop := (rfl)
@[simp] theorem tAndD_s (a b : DT) (s : DSl) (G : DH) : tAndD a b s G = (a s G).bind fun c G => if c = true then b s G else .ok false G := (rfl)
@[simp] theorem tOrD_s (a b : DT) (s : DSl) (G : DH) : tOrD a b s G = (a s G).bind fun c G => if c = true then .ok true G else b s G := (rfl)
@[simp] theorem tNotD_s (a : DT) (s : DSl) (G : DH) : tNotD a s G = (a s G).bind fun c G => .ok (!c) G := (rfl)
@[simp] theorem dIf_s (c : DT) (a b : DE) (s : DSl) (G : DH) : dIf c a b s G = (c s G).bind fun k G => if k = true then a s G else b s G := (rfl)
@[simp] theorem dNil_s (x0 : DSl) (G : DH) : dNil x0 G = .ok [] G := (rfl)
@[simp] theorem dCons_s (a : DE) (r : DA) (s : DSl) (G : DH) : dCons a r s G = (a s G).bind fun x G => (r s G).bind fun xs G => .ok (x :: xs) G := (rfl)
@[simp] theorem dTup_s (a : DA) (s : DSl) (G : DH) : dTup a s G = (a s G).bind fun xs G => if xs.length ≤ sizeLine then .ok (.tup xs) G else .stop := (rfl)
@[simp] theorem dLst_s (o : Bool) (a : DA) (s : DSl) (G : DH) : dLst o a s G = (a s G).bind fun xs G => if xs.length ≤ sizeLine then mkL o xs G else .stop := (rfl)
@[simp] theorem dNoP_s (x0 : DSl) (G : DH) : dNoP x0 G = .ok none G := (rfl)
@[simp] theorem dP_s (a : DE) (s : DSl) (G : DH) : dP a s G = (a s G).bind fun x G => match x with
  | .int i => .ok (some i) G
  | _ => .stop := (rfl)
@[simp] theorem dSl_s (o : Bool) (a : DE) (l u : DO_) (s : DSl) (G : DH) : dSl o a l u s G = (a s G).bind fun x G => (l s G).bind fun lo G => (u s G).bind fun hi G => slD o x lo hi G := (rfl)
@[simp] theorem sPass_s (s : DSl) (G : DH) : sPass s G = .ok (.nx, s) G := (rfl)
@[simp] theorem sSeq_s (f g : DS) (s : DSl) (G : DH) : sSeq f g s G = sBind (f s G) g := (rfl)
@[simp] theorem sBreak_s (s : DSl) (G : DH) : sBreak s G = .ok (.bk, s) G := (rfl)
@[simp] theorem sCont_s (s : DSl) (G : DH) : sCont s G = .ok (.ct, s) G := (rfl)
@[simp] theorem sDrop_s (f : DE) (s : DSl) (G : DH) : sDrop f s G = (f s G).bind fun _ G => .ok (.nx, s) G := (rfl)
@[simp] theorem sRet_s (f : DE) (s : DSl) (G : DH) : sRet f s G = (f s G).bind fun d G => .ok (.rt d, s) G := (rfl)
@[simp] theorem sRetN_s (s : DSl) (G : DH) : sRetN s G = .ok (.rt .non, s) G := (rfl)
@[simp] theorem sIf_s (c : DT) (a b : DS) (s : DSl) (G : DH) : sIf c a b s G = (c s G).bind fun k G => if k = true then a s G else b s G := (rfl)
@[simp] theorem gNm_s (i : Nat) (d : D) (s : DSl) (G : DH) : gNm i d s G = .ok (s.set i (some d)) G := (rfl)
@[simp] theorem gNil_s (ds : List D) (s : DSl) (G : DH) : gNil ds s G = match ds with
  | [] => .ok s G
  | _ => .stop := (rfl)
@[simp] theorem gCons_s (g : DG) (r : DGs) (ds : List D) (s : DSl) (G : DH) : gCons g r ds s G = match ds with
  | d :: ds => (g d s G).bind fun s G => r ds s G
  | [] => .stop := (rfl)
@[simp] theorem gTup_s (n : Nat) (g : DGs) (d : D) (s : DSl) (G : DH) : gTup n g d s G = match tupOf d with
  | some xs => if xs.length = n then g xs s G else .stop
  | none => .stop := (rfl)
@[simp] theorem sAsg_s (f : DE) (g : DG) (s : DSl) (G : DH) : sAsg f g s G = (f s G).bind fun d G => (g d s G).bind fun s G => .ok (.nx, s) G := (rfl)
@[simp] theorem sPar_s (i j : Nat) (a : DA) (s : DSl) (G : DH) : sPar i j a s G = (a s G).bind fun ds G => match ds with
  | [x, y] => .ok (.nx, (s.set i (some x)).set j (some y)) G
  | _ => .stop := (rfl)
@[simp] theorem iSeq_s (f : DE) (s : DSl) (G : DH) : iSeq f s G = (f s G).bind fun d G => match d with
  | .lst xs => .ok xs G
  | .frz xs => .ok xs G
  | .tup xs => .ok xs G
  | .ktup xs => .ok xs G
  | _ => .stop := (rfl)
@[simp] theorem iRg1_s (a : DA) (s : DSl) (G : DH) : iRg1 a s G = (a s G).bind fun ds G => match ds with
  | [.int j] => if -4611686018427387904 ≤ j ∧ j < 4611686018427387904 then .ok (rngD 0 j.toNat) G else .stop
  | _ => .stop := (rfl)
@[simp] theorem iRg2_s (a : DA) (s : DSl) (G : DH) : iRg2 a s G = (a s G).bind fun ds G => match ds with
  | [.int i, .int j] => if -4611686018427387904 ≤ i ∧ i < 4611686018427387904 ∧ -4611686018427387904 ≤ j ∧ j < 4611686018427387904 then .ok (rngD i (j - i).toNat) G else .stop
  | _ => .stop := (rfl)
@[simp] theorem iStr_s (f : DE) (s : DSl) (G : DH) : iStr f s G = (f s G).bind fun d G => match d with
  | .str z => .ok (sgnD z) G
  | _ => .stop := (rfl)
@[simp] theorem orA_s (f g : DA) (s : DSl) (G : DH) : orA f g s G = match f s G with
  | .stop => g s G
  | r => r := (rfl)
@[simp] theorem iEnum_s (a : DA) (s : DSl) (G : DH) : iEnum a s G = (a s G).bind fun ds G => match ds with
  | [d] => match valL d with
    | some xs => .ok (enumD 0 xs) G
    | none => .stop
  | _ => .stop := (rfl)
@[simp] theorem iZip_s (a : DA) (s : DSl) (G : DH) : iZip a s G = (a s G).bind fun ds G => match ds with
  | [d, e] => match valL d, valL e with
    | some xs, some ys => .ok (zipD xs ys) G
    | _, _ => .stop
  | _ => .stop := (rfl)
@[simp] theorem sFor_s (it : DA) (g : DG) (b : DS) (s : DSl) (G : DH) : sFor it g b s G = (it s G).bind fun ds G => forL g b ds s G := (rfl)
@[simp] theorem dCall_s (F : DFn) (a : DA) (s : DSl) (G : DH) : dCall F a s G = (a s G).bind F := (rfl)
@[simp] theorem dCallK_s (np nk : Nat) (perm : List Nat) (F : DFn) (a k : DA) (s : DSl) (G : DH) : dCallK np nk perm F a k s G = (a s G).bind fun xs G => (k s G).bind fun ys G => if xs.length = np ∧ ys.length = nk then F (pick perm (xs ++ ys)) G else .stop := (rfl)
@[simp] theorem dYes_s (x0 : DSl) (G : DH) : dYes x0 G = .ok true G := (rfl)
@[simp] theorem dLc_s (o : Bool) (vs : List Nat) (it : DA) (g : DG) (tt : DT) (te : DE) (s : DSl) (G : DH) : dLc o vs it g tt te s G = (it s G).bind fun ds G => (lcL g tt te (wipeD s vs) ds [] G).bind fun xs G => mkL o xs G := (rfl)
@[simp] theorem dIsi_s (T : String) (a : DE) (s : DSl) (G : DH) : dIsi T a s G = (a s G).bind fun d G => match tyN G d with
  | some k => .ok (.bl (isiT k T)) G
  | none => .stop := (rfl)
@[simp] theorem dMt_s (T : String) (F : D → List D → DH → R D) (o : DE) (a : DA) (s : DSl) (G : DH) : dMt T F o a s G = (o s G).bind fun d G => if rcv G T d = true then (a s G).bind fun ds G => F d ds G else .stop := (rfl)
@[simp] theorem gSt_s (F : D → D → D → DH → R Unit) (o i : DE) (d : D) (s : DSl) (G : DH) : gSt F o i d s G = (o s G).bind fun x G => (i s G).bind fun y G => (F x y d G).bind fun _ G => .ok s G := (rfl)
@[simp] theorem dNewK_s (o : Bool) (x0 : DSl) (G : DH) : dNewK o x0 G = mkK o [] G := (rfl)
@[simp] theorem dNewT_s (o : Bool) (x0 : DSl) (G : DH) : dNewT o x0 G = mkT o [] G := (rfl)
@[simp] theorem lstOf_non (G : DH)  : lstOf G D.non = none := (rfl)
@[simp] theorem lstOf_bl (G : DH) (b : Bool) : lstOf G (D.bl b) = none := (rfl)
@[simp] theorem lstOf_int (G : DH) (i : Int) : lstOf G (D.int i) = none := (rfl)
@[simp] theorem lstOf_str (G : DH) (z : Str) : lstOf G (D.str z) = none := (rfl)
@[simp] theorem lstOf_tup (G : DH) (xs : List D) : lstOf G (D.tup xs) = none := (rfl)
@[simp] theorem lstOf_ktup (G : DH) (xs : List D) : lstOf G (D.ktup xs) = none := (rfl)
@[simp] theorem lstOf_lst (G : DH) (xs : List D) : lstOf G (D.lst xs) = some xs := (rfl)
@[simp] theorem lstOf_frz (G : DH) (xs : List D) : lstOf G (D.frz xs) = some xs := (rfl)
@[simp] theorem lstOf_dK (G : DH) (kv : List (L2.Key × D)) : lstOf G (D.dK kv) = none := (rfl)
@[simp] theorem lstOf_dT (G : DH) (kt : List (List L2.Key × D)) : lstOf G (D.dT kt) = none := (rfl)
@[simp] theorem lstOf_obj (G : DH) (n : Nat) : lstOf G (D.obj n) = (match G[n]? with | some (.lst xs) => some xs | _ => none) := (rfl)
@[simp] theorem seqOf_non (G : DH)  : seqOf G D.non = none := (rfl)
@[simp] theorem seqOf_bl (G : DH) (b : Bool) : seqOf G (D.bl b) = none := (rfl)
@[simp] theorem seqOf_int (G : DH) (i : Int) : seqOf G (D.int i) = none := (rfl)
@[simp] theorem seqOf_str (G : DH) (z : Str) : seqOf G (D.str z) = none := (rfl)
@[simp] theorem seqOf_tup (G : DH) (xs : List D) : seqOf G (D.tup xs) = some xs := (rfl)
@[simp] theorem seqOf_ktup (G : DH) (xs : List D) : seqOf G (D.ktup xs) = some xs := (rfl)
@[simp] theorem seqOf_lst (G : DH) (xs : List D) : seqOf G (D.lst xs) = some xs := (rfl)
@[simp] theorem seqOf_frz (G : DH) (xs : List D) : seqOf G (D.frz xs) = some xs := (rfl)
@[simp] theorem seqOf_dK (G : DH) (kv : List (L2.Key × D)) : seqOf G (D.dK kv) = none := (rfl)
@[simp] theorem seqOf_dT (G : DH) (kt : List (List L2.Key × D)) : seqOf G (D.dT kt) = none := (rfl)
@[simp] theorem seqOf_obj (G : DH) (n : Nat) : seqOf G (D.obj n) = (match G[n]? with | some (.lst xs) => some xs | _ => none) := (rfl)
@[simp] theorem lstM_non (G : DH)  : lstM G D.non = none := (rfl)
@[simp] theorem lstM_bl (G : DH) (b : Bool) : lstM G (D.bl b) = none := (rfl)
@[simp] theorem lstM_int (G : DH) (i : Int) : lstM G (D.int i) = none := (rfl)
@[simp] theorem lstM_str (G : DH) (z : Str) : lstM G (D.str z) = none := (rfl)
@[simp] theorem lstM_tup (G : DH) (xs : List D) : lstM G (D.tup xs) = none := (rfl)
@[simp] theorem lstM_ktup (G : DH) (xs : List D) : lstM G (D.ktup xs) = none := (rfl)
@[simp] theorem lstM_lst (G : DH) (xs : List D) : lstM G (D.lst xs) = some xs := (rfl)
@[simp] theorem lstM_frz (G : DH) (xs : List D) : lstM G (D.frz xs) = none := (rfl)
@[simp] theorem lstM_dK (G : DH) (kv : List (L2.Key × D)) : lstM G (D.dK kv) = none := (rfl)
@[simp] theorem lstM_dT (G : DH) (kt : List (List L2.Key × D)) : lstM G (D.dT kt) = none := (rfl)
@[simp] theorem lstM_obj (G : DH) (n : Nat) : lstM G (D.obj n) = (match G[n]? with | some (.lst xs) => some xs | _ => none) := (rfl)
@[simp] theorem der_non (G : DH)  : der G D.non = D.non := (rfl)
@[simp] theorem der_bl (G : DH) (b : Bool) : der G (D.bl b) = (D.bl b) := (rfl)
@[simp] theorem der_int (G : DH) (i : Int) : der G (D.int i) = (D.int i) := (rfl)
@[simp] theorem der_str (G : DH) (z : Str) : der G (D.str z) = (D.str z) := (rfl)
@[simp] theorem der_tup (G : DH) (xs : List D) : der G (D.tup xs) = (D.tup xs) := (rfl)
@[simp] theorem der_ktup (G : DH) (xs : List D) : der G (D.ktup xs) = (D.ktup xs) := (rfl)
@[simp] theorem der_lst (G : DH) (xs : List D) : der G (D.lst xs) = (D.lst xs) := (rfl)
@[simp] theorem der_frz (G : DH) (xs : List D) : der G (D.frz xs) = (D.frz xs) := (rfl)
@[simp] theorem der_dK (G : DH) (kv : List (L2.Key × D)) : der G (D.dK kv) = (D.dK kv) := (rfl)
@[simp] theorem der_dT (G : DH) (kt : List (List L2.Key × D)) : der G (D.dT kt) = (D.dT kt) := (rfl)
@[simp] theorem der_obj (G : DH) (n : Nat) : der G (D.obj n) = (match G[n]? with | some (.lst xs) => .lst xs | some (.dK kvs) => .dK kvs | some (.dT kvs) => .dT kvs | some (.lkK kvs) => .dK kvs | some (.lkT kvs) => .dT kvs | _ => .obj n) := (rfl)
@[simp] theorem truD_non (G : DH)  : truD G D.non = some false := (rfl)
@[simp] theorem truD_bl (G : DH) (b : Bool) : truD G (D.bl b) = some b := (rfl)
@[simp] theorem truD_int (G : DH) (i : Int) : truD G (D.int i) = some (i != 0) := (rfl)
@[simp] theorem truD_str (G : DH) (z : Str) : truD G (D.str z) = (if z.length ≤ sizeLine then some ((z.length : Int) != 0) else none) := (rfl)
@[simp] theorem truD_tup (G : DH) (xs : List D) : truD G (D.tup xs) = some (!xs.isEmpty) := (rfl)
@[simp] theorem truD_ktup (G : DH) (xs : List D) : truD G (D.ktup xs) = some (!xs.isEmpty) := (rfl)
@[simp] theorem truD_lst (G : DH) (xs : List D) : truD G (D.lst xs) = some (!xs.isEmpty) := (rfl)
@[simp] theorem truD_frz (G : DH) (xs : List D) : truD G (D.frz xs) = some (!xs.isEmpty) := (rfl)
@[simp] theorem truD_dK (G : DH) (kv : List (L2.Key × D)) : truD G (D.dK kv) = none := (rfl)
@[simp] theorem truD_dT (G : DH) (kt : List (List L2.Key × D)) : truD G (D.dT kt) = none := (rfl)
@[simp] theorem truD_obj (G : DH) (n : Nat) : truD G (D.obj n) = (((match G[n]? with | some (.lst xs) => some xs | _ => none) : Option (List D)).map fun xs => !xs.isEmpty) := (rfl)
@[simp] theorem lenV_non (G : DH)  : lenV G D.non = none := (rfl)
@[simp] theorem lenV_bl (G : DH) (b : Bool) : lenV G (D.bl b) = none := (rfl)
@[simp] theorem lenV_int (G : DH) (i : Int) : lenV G (D.int i) = none := (rfl)
@[simp] theorem lenV_str (G : DH) (z : Str) : lenV G (D.str z) = (if z.length ≤ sizeLine then some z.length else none) := (rfl)
@[simp] theorem lenV_tup (G : DH) (xs : List D) : lenV G (D.tup xs) = some xs.length := (rfl)
@[simp] theorem lenV_ktup (G : DH) (xs : List D) : lenV G (D.ktup xs) = some xs.length := (rfl)
@[simp] theorem lenV_lst (G : DH) (xs : List D) : lenV G (D.lst xs) = some xs.length := (rfl)
@[simp] theorem lenV_frz (G : DH) (xs : List D) : lenV G (D.frz xs) = some xs.length := (rfl)
@[simp] theorem lenV_dK (G : DH) (kv : List (L2.Key × D)) : lenV G (D.dK kv) = none := (rfl)
@[simp] theorem lenV_dT (G : DH) (kt : List (List L2.Key × D)) : lenV G (D.dT kt) = none := (rfl)
@[simp] theorem lenV_obj (G : DH) (n : Nat) : lenV G (D.obj n) = (((match G[n]? with | some (.lst xs) => some xs | _ => none) : Option (List D)).map List.length) := (rfl)
@[simp] theorem tyN_non (G : DH)  : tyN G D.non = some "NoneType" := (rfl)
@[simp] theorem tyN_bl (G : DH) (b : Bool) : tyN G (D.bl b) = some "bool" := (rfl)
@[simp] theorem tyN_int (G : DH) (i : Int) : tyN G (D.int i) = some "int" := (rfl)
@[simp] theorem tyN_str (G : DH) (z : Str) : tyN G (D.str z) = some "str" := (rfl)
@[simp] theorem tyN_tup (G : DH) (xs : List D) : tyN G (D.tup xs) = some "tuple" := (rfl)
@[simp] theorem tyN_ktup (G : DH) (xs : List D) : tyN G (D.ktup xs) = some "tuple" := (rfl)
@[simp] theorem tyN_lst (G : DH) (xs : List D) : tyN G (D.lst xs) = some "list" := (rfl)
@[simp] theorem tyN_frz (G : DH) (xs : List D) : tyN G (D.frz xs) = some "list" := (rfl)
@[simp] theorem tyN_dK (G : DH) (kv : List (L2.Key × D)) : tyN G (D.dK kv) = some "dict" := (rfl)
@[simp] theorem tyN_dT (G : DH) (kt : List (List L2.Key × D)) : tyN G (D.dT kt) = none := (rfl)
@[simp] theorem tyN_obj (G : DH) (n : Nat) : tyN G (D.obj n) = (match G[n]? with | some (.lst _) => some "list" | some (.dK _) => some "dict" | some (.dT _) => some "dict" | _ => none) := (rfl)
@[simp] theorem tupOf_non  : tupOf D.non = none := (rfl)
@[simp] theorem tupOf_bl (b : Bool) : tupOf (D.bl b) = none := (rfl)
@[simp] theorem tupOf_int (i : Int) : tupOf (D.int i) = none := (rfl)
@[simp] theorem tupOf_str (z : Str) : tupOf (D.str z) = none := (rfl)
@[simp] theorem tupOf_tup (xs : List D) : tupOf (D.tup xs) = some xs := (rfl)
@[simp] theorem tupOf_ktup (xs : List D) : tupOf (D.ktup xs) = some xs := (rfl)
@[simp] theorem tupOf_lst (xs : List D) : tupOf (D.lst xs) = none := (rfl)
@[simp] theorem tupOf_frz (xs : List D) : tupOf (D.frz xs) = none := (rfl)
@[simp] theorem tupOf_dK (kv : List (L2.Key × D)) : tupOf (D.dK kv) = none := (rfl)
@[simp] theorem tupOf_dT (kt : List (List L2.Key × D)) : tupOf (D.dT kt) = none := (rfl)
@[simp] theorem tupOf_obj (n : Nat) : tupOf (D.obj n) = none := (rfl)
@[simp] theorem valL_non  : valL D.non = none := (rfl)
@[simp] theorem valL_bl (b : Bool) : valL (D.bl b) = none := (rfl)
@[simp] theorem valL_int (i : Int) : valL (D.int i) = none := (rfl)
@[simp] theorem valL_str (z : Str) : valL (D.str z) = none := (rfl)
@[simp] theorem valL_tup (xs : List D) : valL (D.tup xs) = none := (rfl)
@[simp] theorem valL_ktup (xs : List D) : valL (D.ktup xs) = none := (rfl)
@[simp] theorem valL_lst (xs : List D) : valL (D.lst xs) = some xs := (rfl)
@[simp] theorem valL_frz (xs : List D) : valL (D.frz xs) = some xs := (rfl)
@[simp] theorem valL_dK (kv : List (L2.Key × D)) : valL (D.dK kv) = none := (rfl)
@[simp] theorem valL_dT (kt : List (List L2.Key × D)) : valL (D.dT kt) = none := (rfl)
@[simp] theorem valL_obj (n : Nat) : valL (D.obj n) = none := (rfl)
@[simp] theorem isNon_non  : isNon D.non = true := (rfl)
@[simp] theorem isNon_bl (b : Bool) : isNon (D.bl b) = false := (rfl)
@[simp] theorem isNon_int (i : Int) : isNon (D.int i) = false := (rfl)
@[simp] theorem isNon_str (z : Str) : isNon (D.str z) = false := (rfl)
@[simp] theorem isNon_tup (xs : List D) : isNon (D.tup xs) = false := (rfl)
@[simp] theorem isNon_ktup (xs : List D) : isNon (D.ktup xs) = false := (rfl)
@[simp] theorem isNon_lst (xs : List D) : isNon (D.lst xs) = false := (rfl)
@[simp] theorem isNon_frz (xs : List D) : isNon (D.frz xs) = false := (rfl)
@[simp] theorem isNon_dK (kv : List (L2.Key × D)) : isNon (D.dK kv) = false := (rfl)
@[simp] theorem isNon_dT (kt : List (List L2.Key × D)) : isNon (D.dT kt) = false := (rfl)
@[simp] theorem isNon_obj (n : Nat) : isNon (D.obj n) = false := (rfl)
@[simp] theorem rcv_non (G : DH) (T : String)  : rcv G T D.non = false := (rfl)
@[simp] theorem rcv_bl (G : DH) (T : String) (b : Bool) : rcv G T (D.bl b) = false := (rfl)
@[simp] theorem rcv_int (G : DH) (T : String) (i : Int) : rcv G T (D.int i) = (T == "int") := (rfl)
@[simp] theorem rcv_str (G : DH) (T : String) (z : Str) : rcv G T (D.str z) = (T == "str") := (rfl)
@[simp] theorem rcv_tup (G : DH) (T : String) (xs : List D) : rcv G T (D.tup xs) = false := (rfl)
@[simp] theorem rcv_ktup (G : DH) (T : String) (xs : List D) : rcv G T (D.ktup xs) = false := (rfl)
@[simp] theorem rcv_lst (G : DH) (T : String) (xs : List D) : rcv G T (D.lst xs) = (T == "list") := (rfl)
@[simp] theorem rcv_frz (G : DH) (T : String) (xs : List D) : rcv G T (D.frz xs) = (T == "list") := (rfl)
@[simp] theorem rcv_dK (G : DH) (T : String) (kv : List (L2.Key × D)) : rcv G T (D.dK kv) = false := (rfl)
@[simp] theorem rcv_dT (G : DH) (T : String) (kt : List (List L2.Key × D)) : rcv G T (D.dT kt) = false := (rfl)
@[simp] theorem rcv_obj (G : DH) (T : String) (n : Nat) : rcv G T (D.obj n) = (match G[n]? with | some (.lst _) => T == "list" | some (.dK _) => T == "dict" | some (.dT _) => T == "dict" | _ => false) := (rfl)
@[simp] theorem addD_ii (o : Bool) (i j : Int) (G : DH) : addD o (.int i) (.int j) G = .ok (.int (i + j)) G := (rfl)
@[simp] theorem addD_ss (o : Bool) (a b : Str) (G : DH) : addD o (.str a) (.str b) G = (if a.length + b.length ≤ sizeLine then .ok (.str (a ++ b)) G else .stop) := (rfl)
@[simp] theorem addD_tt (o : Bool) (xs ys : List D) (G : DH) : addD o (.tup xs) (.tup ys) G = (if xs.length + ys.length ≤ sizeLine then .ok (.tup (xs ++ ys)) G else .stop) := (rfl)
@[simp] theorem addD_lst_lst (o : Bool) (xs : List D) (ys : List D) (G : DH) : addD o (D.lst xs) (D.lst ys) G = (match lstM G (D.lst xs), lstM G (D.lst ys) with | some xs, some ys => if xs.length + ys.length ≤ sizeLine then mkL o (xs ++ ys) G else .stop | _, _ => .stop) := (rfl)
@[simp] theorem addD_lst_obj (o : Bool) (xs : List D) (m : Nat) (G : DH) : addD o (D.lst xs) (D.obj m) G = (match lstM G (D.lst xs), lstM G (D.obj m) with | some xs, some ys => if xs.length + ys.length ≤ sizeLine then mkL o (xs ++ ys) G else .stop | _, _ => .stop) := (rfl)
@[simp] theorem addD_obj_lst (o : Bool) (n : Nat) (ys : List D) (G : DH) : addD o (D.obj n) (D.lst ys) G = (match lstM G (D.obj n), lstM G (D.lst ys) with | some xs, some ys => if xs.length + ys.length ≤ sizeLine then mkL o (xs ++ ys) G else .stop | _, _ => .stop) := (rfl)
@[simp] theorem addD_obj_obj (o : Bool) (n : Nat) (m : Nat) (G : DH) : addD o (D.obj n) (D.obj m) G = (match lstM G (D.obj n), lstM G (D.obj m) with | some xs, some ys => if xs.length + ys.length ≤ sizeLine then mkL o (xs ++ ys) G else .stop | _, _ => .stop) := (rfl)
@[simp] theorem subD_ii (i j : Int) (G : DH) : subD (.int i) (.int j) G = .ok (.int (i - j)) G := (rfl)
@[simp] theorem fdivD_ii (i j : Int) (G : DH) : fdivD (.int i) (.int j) G = (if 0 < j ∧ j.natAbs.log2 < 9000 then .ok (.int (i / j)) G else .stop) := (rfl)
@[simp] theorem modD_ii (i j : Int) (G : DH) : modD (.int i) (.int j) G = (if 0 < j then .ok (.int (i % j)) G else .stop) := (rfl)
@[simp] theorem powD_ii (i j : Int) (G : DH) : powD (.int i) (.int j) G = (if 0 ≤ j ∧ j ≤ 1000000 ∧ i.natAbs < 18446744073709551616 then .ok (.int (i ^ j.toNat)) G else .stop) := (rfl)
@[simp] theorem mulD_ii (o : Bool) (i j : Int) (G : DH) : mulD o (.int i) (.int j) G = (if mulOk i j then .ok (.int (i * j)) G else .stop) := (rfl)
@[simp] theorem mulD_si (o : Bool) (a : Str) (i : Int) (G : DH) : mulD o (.str a) (.int i) G = (if -2147483648 ≤ i ∧ i ≤ 2147483648 ∧ a.length * i.toNat ≤ sizeLine then .ok (.str (repS a i.toNat)) G else .stop) := (rfl)
@[simp] theorem mulD_lst (o : Bool) (xs : List D) (i : Int) (G : DH) : mulD o (D.lst xs) (.int i) G = (match lstM G (D.lst xs) with | some xs => if -9223372036854775808 ≤ i ∧ i < 9223372036854775808 ∧ xs.length * i.toNat ≤ sizeLine then mkL o (List.replicate i.toNat xs).flatten G else .stop | none => .stop) := (rfl)
@[simp] theorem mulD_obj (o : Bool) (n : Nat) (i : Int) (G : DH) : mulD o (D.obj n) (.int i) G = (match lstM G (D.obj n) with | some xs => if -9223372036854775808 ≤ i ∧ i < 9223372036854775808 ∧ xs.length * i.toNat ≤ sizeLine then mkL o (List.replicate i.toNat xs).flatten G else .stop | none => .stop) := (rfl)
@[simp] theorem negD_i (i : Int) (G : DH) : negD (.int i) G = .ok (.int (-i)) G := (rfl)
@[simp] theorem ltD_ii (i j : Int) (G : DH) : ltD (.int i) (.int j) G = .ok (.bl (decide (i < j))) G := (rfl)
@[simp] theorem ltD_ss (a b : Str) (G : DH) : ltD (.str a) (.str b) G = .ok (.bl (ltS a b)) G := (rfl)
@[simp] theorem leD_ii (i j : Int) (G : DH) : leD (.int i) (.int j) G = .ok (.bl (decide (i ≤ j))) G := (rfl)
@[simp] theorem leD_ss (a b : Str) (G : DH) : leD (.str a) (.str b) G = .ok (.bl (!ltS b a)) G := (rfl)
@[simp] theorem gtD_ii (i j : Int) (G : DH) : gtD (.int i) (.int j) G = .ok (.bl (decide (j < i))) G := (rfl)
@[simp] theorem gtD_ss (a b : Str) (G : DH) : gtD (.str a) (.str b) G = .ok (.bl (ltS b a)) G := (rfl)
@[simp] theorem geD_ii (i j : Int) (G : DH) : geD (.int i) (.int j) G = .ok (.bl (decide (j ≤ i))) G := (rfl)
@[simp] theorem geD_ss (a b : Str) (G : DH) : geD (.str a) (.str b) G = .ok (.bl (!ltS a b)) G := (rfl)
@[simp] theorem isD_n (x : D) (G : DH) : isD x .non G = .ok (.bl (isNon x)) G := (rfl)
@[simp] theorem isnotD_n (x : D) (G : DH) : isnotD x .non G = .ok (.bl (!isNon x)) G := (rfl)
@[simp] theorem ixD_s (z : Str) (i : Int) (G : DH) : ixD (.str z) (.int i) G = (if z.length ≤ sizeLine then (match L2.atI z.cps.toList i with | some c => .ok (.str ⟨#[c]⟩) G | none => .stop) else .stop) := (rfl)
@[simp] theorem ixD_tup (xs : List D) (i : Int) (G : DH) : ixD (D.tup xs) (.int i) G = (match seqOf G (D.tup xs) with | some xs => (match L2.atI xs i with | some d => .ok d G | none => .stop) | none => .stop) := (rfl)
@[simp] theorem ixD_ktup (xs : List D) (i : Int) (G : DH) : ixD (D.ktup xs) (.int i) G = (match seqOf G (D.ktup xs) with | some xs => (match L2.atI xs i with | some d => .ok d G | none => .stop) | none => .stop) := (rfl)
@[simp] theorem ixD_lst (xs : List D) (i : Int) (G : DH) : ixD (D.lst xs) (.int i) G = (match seqOf G (D.lst xs) with | some xs => (match L2.atI xs i with | some d => .ok d G | none => .stop) | none => .stop) := (rfl)
@[simp] theorem ixD_frz (xs : List D) (i : Int) (G : DH) : ixD (D.frz xs) (.int i) G = (match seqOf G (D.frz xs) with | some xs => (match L2.atI xs i with | some d => .ok d G | none => .stop) | none => .stop) := (rfl)
@[simp] theorem ixD_obj (n : Nat) (i : Int) (G : DH) : ixD (D.obj n) (.int i) G = (match seqOf G (D.obj n) with | some xs => (match L2.atI xs i with | some d => .ok d G | none => .stop) | none => .stop) := (rfl)
@[simp] theorem slD_s (o : Bool) (z : Str) (lo hi : Option Int) (G : DH) : slD o (.str z) lo hi G = (if z.length ≤ sizeLine then .ok (.str (L2.cutS z lo hi)) G else .stop) := (rfl)
@[simp] theorem slD_t (o : Bool) (xs : List D) (lo hi : Option Int) (G : DH) : slD o (.tup xs) lo hi G = .ok (.tup (cutD xs lo hi)) G := (rfl)
@[simp] theorem slD_lst (o : Bool) (xs : List D) (lo hi : Option Int) (G : DH) : slD o (D.lst xs) lo hi G = (match lstOf G (D.lst xs) with | some xs => mkL o (cutD xs lo hi) G | none => .stop) := (rfl)
@[simp] theorem slD_frz (o : Bool) (xs : List D) (lo hi : Option Int) (G : DH) : slD o (D.frz xs) lo hi G = (match lstOf G (D.frz xs) with | some xs => mkL o (cutD xs lo hi) G | none => .stop) := (rfl)
@[simp] theorem slD_obj (o : Bool) (n : Nat) (lo hi : Option Int) (G : DH) : slD o (D.obj n) lo hi G = (match lstOf G (D.obj n) with | some xs => mkL o (cutD xs lo hi) G | none => .stop) := (rfl)
@[simp] theorem lenO_1 (d : D) (G : DH) : lenO [d] G = (match lenV G d with | some n => .ok (.int n) G | none => .stop) := (rfl)
@[simp] theorem maxO_2 (i j : Int) (G : DH) : maxO [.int i, .int j] G = .ok (.int (if j > i then j else i)) G := (rfl)
@[simp] theorem minO_2 (i j : Int) (G : DH) : minO [.int i, .int j] G = .ok (.int (if j < i then j else i)) G := (rfl)
@[simp] theorem intO_i (i : Int) (G : DH) : intO [.int i] G = .ok (.int i) G := (rfl)
@[simp] theorem intO_b (k : Bool) (G : DH) : intO [.bl k] G = .ok (.int (if k then 1 else 0)) G := (rfl)
@[simp] theorem allO_1 (d : D) (G : DH) : allO [d] G = (match (lstOf G d).bind bls with | some bs => .ok (.bl (bs.all id)) G | none => .stop) := (rfl)
@[simp] theorem anyO_1 (d : D) (G : DH) : anyO [d] G = (match (lstOf G d).bind bls with | some bs => .ok (.bl (bs.any id)) G | none => .stop) := (rfl)
@[simp] theorem listO_1 (o : Bool) (d : D) (G : DH) : listO o [d] G = (match seqOf G d with | some xs => mkL o xs G | none => .stop) := (rfl)
@[simp] theorem tupleO_t (xs : List D) (G : DH) : tupleO [.tup xs] G = .ok (.tup xs) G := (rfl)
@[simp] theorem tupleO_k (xs : List D) (G : DH) : tupleO [.ktup xs] G = .ok (.ktup xs) G := (rfl)
@[simp] theorem tupleO_lst (xs : List D) (G : DH) : tupleO [(D.lst xs)] G = (match lstOf G (D.lst xs) with | some xs => .ok (.tup xs) G | none => .stop) := (rfl)
@[simp] theorem tupleO_frz (xs : List D) (G : DH) : tupleO [(D.frz xs)] G = (match lstOf G (D.frz xs) with | some xs => .ok (.tup xs) G | none => .stop) := (rfl)
@[simp] theorem tupleO_obj (n : Nat) (G : DH) : tupleO [(D.obj n)] G = (match lstOf G (D.obj n) with | some xs => .ok (.tup xs) G | none => .stop) := (rfl)
@[simp] theorem strO_i (i : Int) (G : DH) : strO [.int i] G = (if i.natAbs.log2 < 1920 then .ok (.str (toString i)) G else .stop) := (rfl)
@[simp] theorem splitO_s (o : Bool) (a b : Str) (G : DH) : splitO o (.str a) [.str b] G = (if (b.length == 0) = false ∧ a.length + 2 ≤ sizeLine then mkL o ((Txt.split a b).map D.str) G else .stop) := (rfl)
@[simp] theorem partO_s (a b : Str) (G : DH) : partO (.str a) [.str b] G = (if (b.length == 0) = false ∧ a.length ≤ sizeLine then .ok (.tup [.str (Txt.partition a b).1, .str (Txt.partition a b).2.1, .str (Txt.partition a b).2.2]) G else .stop) := (rfl)
@[simp] theorem countO_s (a b : Str) (G : DH) : countO (.str a) [.str b] G = .ok (.int (Txt.count a b)) G := (rfl)
@[simp] theorem joinO_s (a : Str) (x : D) (G : DH) : joinO (.str a) [x] G = (match (seqOf G x).bind txts with | some ys => if (ys.map (·.length)).sum + ys.length * a.length ≤ 16777216 then .ok (.str (Txt.join a ys)) G else .stop | none => .stop) := (rfl)
@[simp] theorem setL_o (n : Nat) (k : Int) (z : D) (G : DH) : setL (.obj n) (.int k) z G = (match G[n]? with | some (.lst xs) => (match L2.ixN xs.length k with | some j => .ok () (G.set n (.lst (xs.set j z))) | none => .stop) | _ => .stop) := (rfl)
theorem eqOp_ok {x y : D} {G : DH} (h : pln (der G x) = true ∧ pln (der G y) = true ∧ dep (der G x) ≤ 60) : eqOp x y G = .ok (.bl (eqD (der G x) (der G y))) G := if_pos h
theorem neOp_ok {x y : D} {G : DH} (h : pln (der G x) = true ∧ pln (der G y) = true ∧ dep (der G x) ≤ 60) : neOp x y G = .ok (.bl (!eqD (der G x) (der G y))) G := if_pos h
@[simp] theorem eqOp_ss (a b : Str) (G : DH) : eqOp (.str a) (.str b) G = .ok (.bl (a == b)) G := (rfl)
@[simp] theorem neOp_ss (a b : Str) (G : DH) : neOp (.str a) (.str b) G = .ok (.bl (!(a == b))) G := (rfl)
@[simp] theorem eqOp_ii (i j : Int) (G : DH) : eqOp (.int i) (.int j) G = .ok (.bl (i == j)) G := (rfl)
@[simp] theorem neOp_ii (i j : Int) (G : DH) : neOp (.int i) (.int j) G = .ok (.bl (!(i == j))) G := (rfl)
@[simp] theorem mkL_v (xs : List D) (G : DH) : mkL false xs G = .ok (.lst xs) G := (rfl)
@[simp] theorem mkL_o (xs : List D) (G : DH) : mkL true xs G = .ok (.obj G.length) (G ++ [.lst xs]) := (rfl)
@[simp] theorem mkK_v (xs : List (L2.Key × D)) (G : DH) : mkK false xs G = .ok (.dK xs) G := (rfl)
@[simp] theorem mkK_o (xs : List (L2.Key × D)) (G : DH) : mkK true xs G = .ok (.obj G.length) (G ++ [.dK xs]) := (rfl)
@[simp] theorem mkT_v (xs : List (List L2.Key × D)) (G : DH) : mkT false xs G = .ok (.dT xs) G := (rfl)
@[simp] theorem mkT_o (xs : List (List L2.Key × D)) (G : DH) : mkT true xs G = .ok (.obj G.length) (G ++ [.dT xs]) := (rfl)

@[simp] theorem bind_ok {α β : Type} (a : α) (G : DH) (k : α → DH → R β) : (R.ok a G).bind k = k a G := (rfl)
@[simp] theorem bind_ex {α β : Type} (e : D) (G : DH) (k : α → DH → R β) : (R.ex e G : R α).bind k = .ex e G := (rfl)
@[simp] theorem bind_stop {α β : Type} (k : α → DH → R β) : (R.stop : R α).bind k = .stop := (rfl)
@[simp] theorem sBind_nx (s : DSl) (G : DH) (k : DSl → DH → R (Out × DSl)) : sBind (.ok (.nx, s) G) k = k s G := (rfl)
@[simp] theorem sBind_rt (d : D) (s : DSl) (G : DH) (k : DSl → DH → R (Out × DSl)) : sBind (.ok (.rt d, s) G) k = .ok (.rt d, s) G := (rfl)
@[simp] theorem sBind_bk (s : DSl) (G : DH) (k : DSl → DH → R (Out × DSl)) : sBind (.ok (.bk, s) G) k = .ok (.bk, s) G := (rfl)
@[simp] theorem sBind_ct (s : DSl) (G : DH) (k : DSl → DH → R (Out × DSl)) : sBind (.ok (.ct, s) G) k = .ok (.ct, s) G := (rfl)
/-- a body's end as the def's answer -/
def finR : R (Out × DSl) → R D
  | .ok (.nx, _) G => .ok .non G
  | .ok (.rt d, _) G => .ok d G
  | .ok _ _ => .stop
  | .ex e G => .ex e G
  | .stop => .stop
@[simp] theorem finR_nx (s : DSl) (G : DH) : finR (.ok (.nx, s) G) = .ok .non G := (rfl)
@[simp] theorem finR_rt (d : D) (s : DSl) (G : DH) : finR (.ok (.rt d, s) G) = .ok d G := (rfl)
@[simp] theorem finR_ex (d : D) (G : DH) : finR (.ex d G) = .ex d G := (rfl)
@[simp] theorem finR_stop : finR .stop = .stop := (rfl)
theorem runF_s {np n : Nat} {b : DS} {ds : List D} {G : DH} (h : ds.length = np) : runF np n b ds G = finR (b (ds.map some ++ List.replicate (n - np) none) G) := by
  unfold runF
  rw [if_pos h]
  generalize b (ds.map some ++ List.replicate (n - np) none) G = r
  unfold finR
  rfl
theorem runF_1 {n : Nat} {b : DS} {d : D} {G : DH} : runF 1 n b [d] G = finR (b (some d :: List.replicate (n - 1) none) G) := runF_s rfl
theorem runF_2 {n : Nat} {b : DS} {d e : D} {G : DH} : runF 2 n b [d, e] G = finR (b (some d :: some e :: List.replicate (n - 2) none) G) := runF_s rfl
theorem runF_3 {n : Nat} {b : DS} {d e f : D} {G : DH} : runF 3 n b [d, e, f] G = finR (b (some d :: some e :: some f :: List.replicate (n - 3) none) G) := runF_s rfl
theorem runF_4 {n : Nat} {b : DS} {d e f g : D} {G : DH} : runF 4 n b [d, e, f, g] G = finR (b (some d :: some e :: some f :: some g :: List.replicate (n - 4) none) G) := runF_s rfl
theorem runF_5 {n : Nat} {b : DS} {d e f g h : D} {G : DH} : runF 5 n b [d, e, f, g, h] G = finR (b (some d :: some e :: some f :: some g :: some h :: List.replicate (n - 5) none) G) := runF_s rfl
theorem runF_at {np n : Nat} {b : DS} {ds : List D} {G : DH} (h : ds.length = np) : runF np n b ds G = (match b (ds.map some ++ List.replicate (n - np) none) G with
  | .ok (.nx, _) G => .ok .non G
  | .ok (.rt d, _) G => .ok d G
  | .ok _ _ => .stop
  | .ex e G => .ex e G
  | .stop => .stop) := if_pos h
theorem runF_rt {np n : Nat} {b : DS} {ds : List D} {G G' : DH} {d : D} {s : DSl} (h : ds.length = np) (e : b (ds.map some ++ List.replicate (n - np) none) G = .ok (.rt d, s) G') : runF np n b ds G = .ok d G' := by
  rw [runF_at h, e]
end DL
end
/-! ==== DLoop ==== -/
section
set_option Elab.async false
set_option linter.all false
set_option autoImplicit false
set_option maxRecDepth 100000
set_option maxHeartbeats 4000000
/-! DL: loops and comprehensions by what one turn does. -/
namespace DL
open PySem

/-- a comprehension that changes nothing -/
theorem lcL_pure {α : Type} {g : DG} {tt : DT} {te : DE} {s0 : DSl} {G : DH} (h : α → D) (p : α → Bool) (f : α → D) : ∀ (l : List α) (acc : List D), (∀ a ∈ l, ∃ s1, g (h a) s0 G = .ok s1 G ∧ tt s1 G = .ok (p a) G ∧ (p a = true → te s1 G = .ok (f a) G)) →
    acc.length + l.length ≤ sizeLine → lcL g tt te s0 (l.map h) acc G = .ok (acc ++ (l.filter p).map f) G
  | [], acc, _, _ => by simp
  | d :: l, acc, hs, hl => by
    obtain ⟨s1, e1, e2, e3⟩ := hs d List.mem_cons_self
    have hl' : acc.length + (l.length + 1) ≤ sizeLine := hl
    cases c : p d with
    | true =>
      rw [c] at e2
      have ih := lcL_pure h p f l (acc ++ [f d]) (fun x hx => hs x (List.mem_cons_of_mem _ hx)) (by rw [List.length_append, List.length_singleton]; omega)
      have hlt : acc.length < sizeLine := by omega
      simp [lcL, e1, e2, e3 c, hlt, ih, c]
    | false =>
      rw [c] at e2
      have ih := lcL_pure h p f l acc (fun x hx => hs x (List.mem_cons_of_mem _ hx)) (by omega)
      simp [lcL, e1, e2, ih, c]
/-- a comprehension without a test that changes nothing -/
theorem lcL_map {α : Type} {g : DG} {te : DE} {s0 : DSl} {G : DH} (h f : α → D) (l : List α) (acc : List D) (hs : ∀ a ∈ l, ∃ s1, g (h a) s0 G = .ok s1 G ∧ te s1 G = .ok (f a) G) (hl : acc.length + l.length ≤ sizeLine) :
    lcL g dYes te s0 (l.map h) acc G = .ok (acc ++ l.map f) G := by
  have := lcL_pure (g := g) (tt := dYes) (te := te) (s0 := s0) (G := G) h (fun _ => true) f l acc (fun d hd => by
    obtain ⟨s1, e1, e2⟩ := hs d hd
    exact ⟨s1, e1, rfl, fun _ => e2⟩) hl
  rw [this, List.filter_eq_self.mpr fun _ _ => rfl]
/-- a comprehension whose turns may change things: an invariant by what is made so far -/
theorem lcL_inv {g : DG} {tt : DT} {te : DE} {s0 : DSl} (Iv : Nat → List D → DH → Prop) : ∀ (ds : List D) (i : Nat) (acc : List D) (G : DH), acc.length + ds.length ≤ sizeLine →
    (∀ (j : Nat) (d : D) (a : List D) (G : DH), ds[j]? = some d → Iv (i + j) a G → ∃ s1 G1, g d s0 G = .ok s1 G1 ∧ ((∃ G2, tt s1 G1 = .ok false G2 ∧ Iv (i + j + 1) a G2) ∨ ∃ G2 y G3, tt s1 G1 = .ok true G2 ∧ te s1 G2 = .ok y G3 ∧ Iv (i + j + 1) (a ++ [y]) G3)) →
    Iv i acc G → ∃ a G', lcL g tt te s0 ds acc G = .ok a G' ∧ a.length ≤ acc.length + ds.length ∧ Iv (i + ds.length) a G'
  | [], i, acc, G, _, _, h0 => ⟨acc, G, by simp, by simp, h0⟩
  | d :: ds, i, acc, G, hl, h, h0 => by
    have hl' : acc.length + (ds.length + 1) ≤ sizeLine := hl
    obtain ⟨s1, G1, e1, r⟩ := h 0 d acc G rfl h0
    have nx : ∀ (j : Nat) (d' : D) (a : List D) (G : DH), ds[j]? = some d' → Iv (i + 1 + j) a G → ∃ s1 G1, g d' s0 G = .ok s1 G1 ∧ ((∃ G2, tt s1 G1 = .ok false G2 ∧ Iv (i + 1 + j + 1) a G2) ∨ ∃ G2 y G3, tt s1 G1 = .ok true G2 ∧ te s1 G2 = .ok y G3 ∧ Iv (i + 1 + j + 1) (a ++ [y]) G3) := fun j d' a G hj hi => by
      have e : i + 1 + j = i + (j + 1) := by omega
      rw [e] at hi ⊢
      exact h (j + 1) d' a G hj hi
    have hlt : acc.length < sizeLine := by omega
    rcases r with ⟨G2, e2, i2⟩ | ⟨G2, y, G3, e2, e3, i2⟩
    · obtain ⟨a, G', q1, q2, q3⟩ := lcL_inv Iv ds (i + 1) acc G2 (by omega) nx i2
      refine ⟨a, G', by simp [lcL, e1, e2, q1], by rw [List.length_cons]; omega, ?_⟩
      rw [List.length_cons, show i + (ds.length + 1) = i + 1 + ds.length by omega]; exact q3
    · obtain ⟨a, G', q1, q2, q3⟩ := lcL_inv Iv ds (i + 1) (acc ++ [y]) G3 (by rw [List.length_append, List.length_singleton]; omega) nx i2
      rw [List.length_append, List.length_singleton] at q2
      refine ⟨a, G', by simp [lcL, e1, e2, e3, hlt, q1], by rw [List.length_cons]; omega, ?_⟩
      rw [List.length_cons, show i + (ds.length + 1) = i + 1 + ds.length by omega]; exact q3
/-- a for loop that goes to its end -/
theorem forL_inv {g : DG} {b : DS} (Iv : Nat → DSl → DH → Prop) : ∀ (ds : List D) (i : Nat) (s : DSl) (G : DH),
    (∀ (j : Nat) (d : D) (s : DSl) (G : DH), ds[j]? = some d → Iv (i + j) s G → ∃ s1 G1 s2 G2, g d s G = .ok s1 G1 ∧ (b s1 G1 = .ok (.nx, s2) G2 ∨ b s1 G1 = .ok (.ct, s2) G2) ∧ Iv (i + j + 1) s2 G2) →
    Iv i s G → ∃ s' G', forL g b ds s G = .ok (.nx, s') G' ∧ Iv (i + ds.length) s' G'
  | [], i, s, G, _, h0 => ⟨s, G, by simp, h0⟩
  | d :: ds, i, s, G, h, h0 => by
    obtain ⟨s1, G1, s2, G2, e1, e2, i2⟩ := h 0 d s G rfl h0
    obtain ⟨s', G', q1, q2⟩ := forL_inv Iv ds (i + 1) s2 G2 (fun j d' s G hj hi => by
      have e : i + 1 + j = i + (j + 1) := by omega
      rw [e] at hi ⊢
      exact h (j + 1) d' s G hj hi) i2
    refine ⟨s', G', ?_, by rw [List.length_cons, show i + (ds.length + 1) = i + 1 + ds.length by omega]; exact q2⟩
    rcases e2 with e2 | e2 <;> simp [forL, e1, e2, q1]
/-- range of a small number -/
theorem iRg1_nat {a : DA} {s : DSl} {G G' : DH} {m : Nat} (e : a s G = .ok [.int m] G') (h : m ≤ 1000000) : iRg1 a s G = .ok (rngD 0 m) G' := by
  rw [iRg1_s, e, bind_ok]
  show (if _ then _ else _) = _
  rw [if_pos ⟨by omega, by omega⟩]
  rfl
end DL
end
/-! ==== LAS ==== -/
section
set_option Elab.async false
set_option linter.all false
set_option autoImplicit false
set_option maxRecDepth 100000
set_option maxHeartbeats 4000000
/-! What the shared defs of LA answer. -/
namespace DF
open PySem DL

/-- a pool stands at n -/
def Pl (G : DH) (n : Nat) : Prop := ∃ a b : Int, G[n]? = some (.lst [.int a, .int b]) ∧ 0 ≤ a ∧ 0 ≤ b ∧ b < 2147483647
/-- behind a draw -/
def Af (n : Nat) (G G' : DH) : Prop := Pl G' n ∧ G'.length = G.length ∧ ∀ m, m ≠ n → G'[m]? = G[m]?
theorem Af.trans {n : Nat} {G G' G'' : DH} (h : Af n G G') (h' : Af n G' G'') : Af n G G'' := ⟨h'.1, h'.2.1.trans h.2.1, fun m hm => (h'.2.2 m hm).trans (h.2.2 m hm)⟩
theorem Af.refl {n : Nat} {G : DH} (h : Pl G n) : Af n G G := ⟨h, rfl, fun _ _ => rfl⟩
theorem Pl.lt {G : DH} {n : Nat} (h : Pl G n) : n < G.length := by
  obtain ⟨_, _, e, _⟩ := h
  exact (List.getElem?_eq_some_iff.mp e).1
theorem take_spec {G : DH} {n : Nat} {m : Int} (h : Pl G n) (hm : 0 < m) (hm2 : m.natAbs.log2 < 9000) : ∃ (r : Int) (G' : DH), F__law_take [.obj n, .int m] G = .ok (.int r) G' ∧ 0 ≤ r ∧ r < m ∧ Af n G G' := by
  obtain ⟨a, b, e, ha, hb, hb2⟩ := h
  have hn := (List.getElem?_eq_some_iff.mp e).1
  have gs : ∀ x y : Int, 0 ≤ x → 0 ≤ y → y < 2147483647 → Af n G (G.set n (.lst [.int x, .int y])) := fun x y h1 h2 h3 =>
    ⟨⟨x, y, by rw [List.getElem?_set_self hn], h1, h2, h3⟩, List.length_set, fun k hk => by rw [List.getElem?_set_ne (fun z => hk z.symm)]⟩
  by_cases c : 0 < a
  · refine ⟨a % m, _, ?_, Int.emod_nonneg _ (by omega), Int.emod_lt_of_pos _ hm, gs (a / m) b (Int.ediv_nonneg ha (by omega)) hb hb2⟩
    rw [F__law_take, runF_2, b__law_take]; simp [e, c, hm, hm2, L2.atI, L2.ixN]
  · have h1 : 0 ≤ (b * 69621 + 7) % 2147483647 := Int.emod_nonneg _ (by decide)
    have h2 : (b * 69621 + 7) % 2147483647 < 2147483647 := Int.emod_lt_of_pos _ (by decide)
    have k1 : mulOk b 69621 := .inr (.inl (by decide))
    have k2 : mulOk ((b * 69621 + 7) % 2147483647) ((b * 69621 + 7) % 2147483647) := .inl (by omega)
    refine ⟨((b * 69621 + 7) % 2147483647 * ((b * 69621 + 7) % 2147483647) % 2147483629 / 32) % m, _, ?_, Int.emod_nonneg _ (by omega), Int.emod_lt_of_pos _ hm, gs a ((b * 69621 + 7) % 2147483647) ha h1 h2⟩
    have l32 : Nat.log2 32 < 9000 := by decide
    have gg : ∀ z : DO, (G.set n z)[n]? = some z := fun z => List.getElem?_set_self hn
    rw [F__law_take, runF_2, b__law_take]; simp [e, c, hm, hm2, k1, k2, gg, l32, L2.atI, L2.ixN]
/-! ### words -/
def LET : List Nat := ("abcdefghijklmnopqrstuvwxyz" : Str).cps.toList
def isW (x : Str) : Bool := decide (1 ≤ x.length) && decide (x.length ≤ 8) && x.cps.toList.all fun c => decide (c ∈ LET)
theorem sgnIn_one (c : Nat) (b : Str) : sgnIn ⟨#[c]⟩ b = some (decide (c ∈ b.cps.toList)) := rfl
theorem in_one (c : Nat) (b : Str) (G : DH) (neg : Bool) : inOp neg (.str ⟨#[c]⟩) (.str b) G = .ok (.bl (if neg then !decide (c ∈ b.cps.toList) else decide (c ∈ b.cps.toList))) G := by
  simp [inOp, inV?, sgnIn_one]
theorem mem_sgnD {z : Str} {d : D} (h : d ∈ sgnD z) : ∃ c, c ∈ z.cps.toList ∧ d = .str ⟨#[c]⟩ := by
  unfold sgnD at h
  obtain ⟨c, h1, h2⟩ := List.mem_map.mp h
  exact ⟨c, h1, h2.symm⟩
theorem sgnD_len (z : Str) : (sgnD z).length = z.length := by simp [sgnD, Str.length]
theorem is_word_str (x : Str) (G : DH) (h : x.length ≤ sizeLine) : F_is_word [.str x] G = .ok (.bl (isW x)) G := by
  have e : lcL (gNm 1) dYes (dBin (inOp false) (dVar 1) (dC (.str "abcdefghijklmnopqrstuvwxyz"))) [some (.str x), none] (sgnD x) [] G = .ok ((x.cps.toList.map fun c => D.bl (decide (c ∈ LET)))) G := by
    have := lcL_map (g := gNm 1) (te := dBin (inOp false) (dVar 1) (dC (.str "abcdefghijklmnopqrstuvwxyz"))) (s0 := [some (.str x), none]) (G := G) (fun c => .str ⟨#[c]⟩) (fun c => .bl (decide (c ∈ LET))) x.cps.toList [] (fun c hc => ⟨_, rfl, by simp [in_one, LET]⟩) (by simpa [Str.length] using h)
    exact this
  have eb : ∀ l : List Nat, bls (l.map fun c => D.bl (decide (c ∈ LET))) = some (l.map fun c => decide (c ∈ LET)) := by
    intro l
    induction l with
    | nil => rfl
    | cons a l ih => simp [ih]
  rw [F_is_word, runF_1, b_is_word]
  unfold isW
  by_cases h1 : 1 ≤ x.length
  · by_cases h2 : x.length ≤ 8
    · have e1 : (1 : Int) ≤ x.length := by omega
      have e2 : (x.length : Int) ≤ 8 := by omega
      simp [h, h1, h2, e1, e2, e, eb, mkL]
    · have e1 : (1 : Int) ≤ x.length := by omega
      have e2 : ¬ (x.length : Int) ≤ 8 := by omega
      simp [h, h1, h2, e1, e2]
  · have e1 : ¬ (1 : Int) ≤ x.length := by omega
    simp [h, h1, e1]
theorem is_word_non {d : D} {G : DH} {T : String} (h : tyN G d = some T) (hT : (T == "str") = false) : F_is_word [d] G = .ok (.bl false) G := by
  rw [F_is_word, runF_1, b_is_word]; simp [h, hT]
/-- a text that len may measure -/
def shortS : D → Prop
  | .str x => x.length ≤ sizeLine
  | _ => True
def isWd : D → Bool
  | .str x => isW x
  | _ => false
theorem ty_not {G : DH} {d : D} {T : String} (h : tyN G d = some T) (U : String) (hU : ∀ T', T' ∈ kinds → T' ≠ U → (T' == U) = false) (ne : T ≠ U) : (T == U) = false := hU T (tyN_kinds h) ne
theorem is_word_ok {d : D} {G : DH} {T : String} (h : tyN G d = some T) (hs : shortS d) : F_is_word [d] G = .ok (.bl (isWd d)) G := by
  cases d with
  | str x => exact is_word_str x G hs
  | _ =>
    refine is_word_non h ?_
    simp only [tyN] at h
    first
      | (cases h; done)
      | (cases h; decide)
      | (split at h <;> first | (cases h; decide) | cases h)
/-! ### people -/
def at_ : Str := "@"
theorem at_tl : TL.tl at_ = [64] := by decide +kernel
def isP (x : Str) : Bool := ((Txt.partition x at_).2.1 == at_) && (isW (Txt.partition x at_).1 && isW (Txt.partition x at_).2.2)
def isPd : D → Bool
  | .str x => isP x
  | _ => false
theorem is_person_str (x : Str) (G : DH) (h : x.length ≤ sizeLine) : F_is_person [.str x] G = .ok (.bl (isP x)) G := by
  obtain ⟨h1, h2, h3⟩ := PyProof.Rows.fact_partition x at_
  have w1 := is_word_str (Txt.partition x at_).1 G (Nat.le_trans h1 h)
  have w2 := is_word_str (Txt.partition x at_).2.2 G (Nat.le_trans h3 h)
  have l1 : ¬ at_.length = 0 := by decide +kernel
  have at_e : (Str.ofString "@") = at_ := rfl
  rw [F_is_person, runF_1, b_is_person]
  unfold isP
  simp [h, l1, at_e]
  cases c : (Txt.partition x at_).2.1 == at_ <;> simp [w1, c]
  cases c1 : isW (Txt.partition x at_).1 <;> simp [w2, c1]
theorem is_person_ok {d : D} {G : DH} {T : String} (h : tyN G d = some T) (hs : shortS d) : F_is_person [d] G = .ok (.bl (isPd d)) G := by
  cases d with
  | str x => exact is_person_str x G hs
  | _ =>
    have hT : (T == "str") = false := by
      simp only [tyN] at h
      first
        | (cases h; done)
        | (cases h; decide)
        | (split at h <;> first | (cases h; decide) | cases h)
    rw [F_is_person, runF_1, b_is_person]; simp [h, hT, isPd, -tyN_non, -tyN_bl, -tyN_int, -tyN_tup, -tyN_ktup, -tyN_lst, -tyN_frz, -tyN_dK, -tyN_dT, -tyN_obj]
/-! ### numbers, names -/
def isIn : D → Int → Int → Bool
  | .int i, lo, hi => decide (lo ≤ i) && decide (i ≤ hi)
  | _, _, _ => false
theorem is_from_ok {d : D} {G : DH} {T : String} {lo hi : Int} (h : tyN G d = some T) : F_is_from [d, .int lo, .int hi] G = .ok (.bl (isIn d lo hi)) G := by
  have w : F_is_whole [d] G = .ok (.bl (match d with | .int _ => true | _ => false)) G := by
    cases d with
    | obj n =>
      have : (T == "int") = false ∧ (T == "bool") = false := by
        simp only [tyN] at h
        split at h <;> first | (cases h; decide) | cases h
      rw [F_is_whole, runF_1, b_is_whole]; simp [h, this.1, this.2, -tyN_obj]
    | dT k => cases h
    | _ => rw [F_is_whole, runF_1, b_is_whole]; simp []
  cases d with
  | int i =>
    rw [F_is_from, runF_3, b_is_from]; simp [w, isIn]
    by_cases c : lo ≤ i <;> simp [c]
  | _ => rw [F_is_from, runF_3, b_is_from]; simp [w, isIn]
def isN : D → Bool
  | .tup [a, b] => isWd a && isIn b 0 99999
  | _ => false
theorem is_rank_ok {d : D} {G : DH} {T : String} (h : tyN G d = some T) : F_is_rank [d] G = .ok (.bl (isIn d 0 100)) G := by
  rw [F_is_rank, runF_1, b_is_rank]; simp [is_from_ok h]
theorem is_name_ok {d : D} {G : DH} {T : String} (h : tyN G d = some T) (hs : ∀ a b, d = .tup [a, b] → shortS a ∧ (∃ T, tyN G a = some T) ∧ ∃ T, tyN G b = some T) (hk : ∀ xs, d ≠ .ktup xs) : F_is_name [d] G = .ok (.bl (isN d)) G := by
  cases d with
  | ktup xs => exact absurd rfl (hk xs)
  | tup xs =>
    match xs with
    | [] => rw [F_is_name, runF_1, b_is_name]; simp [isN]
    | [a] => rw [F_is_name, runF_1, b_is_name]; simp [isN]
    | [a, b] =>
      obtain ⟨h1, ⟨T1, h2⟩, T2, h3⟩ := hs a b rfl
      rw [F_is_name, runF_1, b_is_name]; simp [isN, L2.atI, L2.ixN, is_word_ok h2 h1, is_from_ok h3]
      cases isWd a <;> simp
    | a :: b :: c :: r =>
      have : ((r.length : Int) + 1 + 1 + 1 == 2) = false := beq_eq_false_iff_ne.mpr (by omega)
      rw [F_is_name, runF_1, b_is_name]; simp [isN, this]
  | dT k => cases h
  | obj n =>
    have : (T == "tuple") = false := by
      simp only [tyN] at h
      split at h <;> first | (cases h; decide) | cases h
    rw [F_is_name, runF_1, b_is_name]; simp [h, this, isN, -tyN_obj]
  | _ => rw [F_is_name, runF_1, b_is_name]; simp [isN]
/-! ### drawn letters -/
theorem atI_lt {α : Type} {xs : List α} {r : Int} (h0 : 0 ≤ r) (h1 : r < xs.length) : ∃ c, L2.atI xs r = some c ∧ c ∈ xs := by
  have hl : r.toNat < xs.length := by omega
  refine ⟨xs[r.toNat], ?_, List.getElem_mem hl⟩
  simp [L2.atI, L2.ixN, h0, h1, hl]
theorem join_signs (cs : List Nat) : Txt.join (Str.ofString "") (cs.map fun c => (⟨#[c]⟩ : Str)) = ⟨cs.toArray⟩ := by
  rw [TL.join_eq]
  refine TL.ext_tl ?_
  rw [TL.tl_join]
  show TL.joinL [] _ = cs
  induction cs with
  | nil => rfl
  | cons a l ih =>
    cases l with
    | nil => rfl
    | cons b l =>
      show [a] ++ ([] ++ TL.joinL [] _) = _
      rw [List.nil_append]
      exact congrArg (a :: ·) ih
theorem txts_signs (cs : List Nat) : txts (cs.map fun c => D.str ⟨#[c]⟩) = some (cs.map fun c => (⟨#[c]⟩ : Str)) := by
  induction cs with
  | nil => rfl
  | cons a l ih => simp [ih]
theorem sum_signs (cs : List Nat) : ((cs.map fun c => (⟨#[c]⟩ : Str)).map Str.length).sum = cs.length := by
  induction cs with
  | nil => rfl
  | cons a l ih => simp [Str.length, Nat.add_comm] at ih ⊢; omega
theorem joinO_signs {cs : List Nat} {G : DH} (h : cs.length ≤ 1000) : joinO (.str (Str.ofString "")) [.lst (cs.map fun c => D.str ⟨#[c]⟩)] G = .ok (.str ⟨cs.toArray⟩) G := by
  rw [joinO_s, seqOf_lst, Option.bind_some, txts_signs]
  show (if _ then R.ok (D.str (Txt.join (Str.ofString "") _)) G else R.stop) = _
  rw [join_signs, if_pos]
  rw [sum_signs, List.length_map, show (Str.ofString "").length = 0 from rfl, Nat.mul_zero]
  omega
theorem letters_spec {G : DH} {n : Nat} (h : Pl G n) (m : Nat) (hm : m ≤ 1000) : ∃ (x : Str) (G' : DH), F__law_letters [.obj n, .int m] G = .ok (.str x) G' ∧ x.length = m ∧ (∀ c ∈ x.cps.toList, c ∈ LET) ∧ Af n G G' := by
  have big : (1000 : Nat) ≤ sizeLine := by rw [sizeLine_eq]; omega
  have len26 : (Str.ofString "abcdefghijklmnopqrstuvwxyz").cps.toList.length = 26 := by decide +kernel
  have fits : (Str.ofString "abcdefghijklmnopqrstuvwxyz").length ≤ sizeLine := by decide +kernel
  obtain ⟨a, G', e, el, cs, rfl, ec, el2, af⟩ := lcL_inv (g := gNm 3) (tt := dYes) (te := dBin ixD (dVar 2) (dCall F__law_take (dCons (dVar 0) (dCons (dC (.int 26)) dNil)))) (s0 := [some (.obj n), some (.int m), some (.str "abcdefghijklmnopqrstuvwxyz"), none])
    (fun i a G' => ∃ cs : List Nat, a = cs.map (fun c => D.str ⟨#[c]⟩) ∧ cs.length = i ∧ (∀ c ∈ cs, c ∈ LET) ∧ Af n G G') (rngD 0 m) 0 [] G (by simp [rngD]; omega) (fun j d a G1 hd hi => by
      obtain ⟨cs, rfl, e1, e2, af⟩ := hi
      obtain ⟨r, G2, t1, t2, t3, t4⟩ := take_spec (m := 26) af.1 (by decide) (by decide)
      obtain ⟨c, c1, c2⟩ := atI_lt (xs := (Str.ofString "abcdefghijklmnopqrstuvwxyz").cps.toList) t2 (by rw [len26]; exact t3)
      refine ⟨_, G1, rfl, .inr ⟨G1, .str ⟨#[c]⟩, G2, rfl, ?_, cs ++ [c], by simp, by simp [e1], ?_, af.trans t4⟩⟩
      · simp [t1, fits, c1]
      · intro x hx
        rcases List.mem_append.mp hx with hx | hx
        · exact e2 x hx
        · rw [List.mem_singleton.mp hx]; exact c2) ⟨[], rfl, rfl, by simp, .refl h⟩
  have hlen : cs.length = m := by simpa [rngD] using ec
  refine ⟨⟨cs.toArray⟩, G', ?_, by simpa [Str.length] using hlen, by simpa using el2, af⟩
  have i1 : iRg1 (dCons (dVar 1) dNil) [some (.obj n), some (.int m), some (.str "abcdefghijklmnopqrstuvwxyz"), none] G = .ok (rngD 0 m) G := iRg1_nat (by simp) (by omega)
  have j := joinO_signs (cs := cs) (G := G') (by omega)
  have s1 : ([some (D.obj n), some (D.int m), none, none] : DSl).set 2 (some (.str "abcdefghijklmnopqrstuvwxyz")) = [some (.obj n), some (.int m), some (.str "abcdefghijklmnopqrstuvwxyz"), none] := rfl
  have s2 : wipeD [some (D.obj n), some (D.int m), some (.str "abcdefghijklmnopqrstuvwxyz"), none] [3] = [some (D.obj n), some (D.int m), some (.str "abcdefghijklmnopqrstuvwxyz"), none] := rfl
  have s3 : (some (D.obj n) :: some (D.int m) :: List.replicate (4 - 2) none : DSl) = [some (D.obj n), some (D.int m), none, none] := rfl
  have s4 : rcv G "str" (.str (Str.ofString "")) = true := by rw [rcv_str]; decide
  rw [F__law_letters, runF_2, b__law_letters, s3, sSeq_s, sAsg_s, dC_s, bind_ok, gNm_s, bind_ok, sBind_nx, s1, sRet_s, dMt_s, dC_s, bind_ok, if_pos s4, dCons_s, dLc_s, i1, bind_ok, s2, e, bind_ok, mkL_v, bind_ok, dNil_s, bind_ok, bind_ok, j, bind_ok, finR_rt]
/-! ### a pool is made -/
theorem pl_new {G : DH} {a b : Int} (ha : 0 ≤ a) (hb : 0 ≤ b) (hb2 : b < 2147483647) : Pl (G ++ [.lst [.int a, .int b]]) G.length := ⟨a, b, by simp, ha, hb, hb2⟩
theorem pool_spec {zs : List Int} {k : Nat} {G : DH} (hk : k ≤ 1000) (hz : zs.length ≤ 1000) : ∃ a b : Int, F__law_pool [.frz (zs.map D.int), .int k] G = .ok (.obj G.length) (G ++ [.lst [.int a, .int b]]) ∧ 0 ≤ a ∧ 0 ≤ b ∧ b < 2147483647 := by
  have main : ∀ c : Int, ∃ a b : Int, (sSeq (sAsg (dCall maxO (dCons (dVar 2) (dCons (dBin subD (dUn negD (dC (.int 1))) (dVar 2)) (dNil)))) (gNm 3)) (
    sSeq (sAsg (dBin modD (dBin (mulD false) (dBin (addD false) (dBin (addD false) (dBin (addD false) (dBin modD (dVar 3) (dC (.int 2147483629))) (dBin (mulD false) (dBin (mulD false) (dC (.int 7919)) (dVar 1)) (dVar 1))) (dBin (mulD false) (dC (.int 31)) (dVar 1))) (dC (.int 17))) (dC (.int 48271))) (dC (.int 2147483647))) (gNm 4)) (
    sRet (dLst true (dCons (dBin (mulD false) (dVar 3) (dCall intO (dCons (dBin geD (dVar 3) (dBin powD (dC (.int 10)) (dC (.int 18)))) (dNil)))) (dCons (dVar 4) (dNil))))))) [some (.frz (zs.map D.int)), some (.int k), some (.int c), none, none] G = .ok (.rt (.obj G.length), [some (.frz (zs.map D.int)), some (.int k), some (.int c), some (.int (if -1 - c > c then -1 - c else c)), some (.int b)]) (G ++ [.lst [.int a, .int b]]) ∧ 0 ≤ a ∧ 0 ≤ b ∧ b < 2147483647 := fun c => by
    have hs : 0 ≤ (if -1 - c > c then -1 - c else c) := by split <;> omega
    generalize hS : (if -1 - c > c then -1 - c else c) = S at hs
    have hm0 : 0 ≤ S % 2147483629 := Int.emod_nonneg _ (by decide)
    have hm1 : S % 2147483629 < 2147483629 := Int.emod_lt_of_pos _ (by decide)
    have k1 : mulOk 7919 k := .inl (by decide)
    have k2 : mulOk (7919 * k) k := .inr (.inl (by omega))
    have k3 : mulOk 31 k := .inl (by decide)
    have k4 : ∀ x : Int, mulOk x 48271 := fun x => .inr (.inl (by decide))
    have k5 : ∀ b : Bool, mulOk S (if b = true then 1 else 0) := fun b => .inr (.inl (by cases b <;> decide))
    have k6 : (10 : Int).natAbs < 18446744073709551616 := by decide
    refine ⟨S * (if decide ((10 : Int) ^ (18 : Int).toNat ≤ S) = true then 1 else 0), (S % 2147483629 + 7919 * k * k + 31 * k + 17) * 48271 % 2147483647, ?_, ?_, Int.emod_nonneg _ (by decide), Int.emod_lt_of_pos _ (by decide)⟩
    · have z2 : (2 : Nat) ≤ sizeLine := by rw [sizeLine_eq]; omega
      have p1 : (0 : Int) < 2147483629 := by decide
      have p2 : (0 : Int) < 2147483647 := by decide
      have p3 : (0 : Int) ≤ 18 ∧ (18 : Int) ≤ 1000000 ∧ (10 : Int).natAbs < 18446744073709551616 := by decide
      simp only [if_pos p1, if_pos p2, if_pos p3, List.length_cons, List.length_nil, Nat.zero_add, Nat.reduceAdd, if_pos z2, mkL_o, sSeq_s, sAsg_s, dCall_s, dCons_s, dVar_s, dBin_s, dUn_s, dC_s, dNil_s, bind_ok, sBind_nx, gNm_s, List.getElem?_cons_succ, List.getElem?_cons_zero, negD_i, subD_ii, maxO_2, hS, List.set_cons_succ, List.set_cons_zero, modD_ii, mulD_ii, addD_ii, if_pos k1, if_pos k2, if_pos k3, if_pos (k4 _), sRet_s, dLst_s, geD_ii, powD_ii, intO_b, if_pos (k5 _)]
    · split <;> omega
  obtain ⟨a, b, e, ha, hb, hb2⟩ := main (if k < zs.length then zs.getD k 0 else 0)
  refine ⟨a, b, ?_, ha, hb, hb2⟩
  have s3 : (some (D.frz (zs.map D.int)) :: some (D.int k) :: List.replicate (5 - 2) none : DSl) = [some (.frz (zs.map D.int)), some (.int k), none, none, none] := rfl
  rw [F__law_pool, runF_2, b__law_pool, s3]
  by_cases c : k < zs.length
  · rw [if_pos c] at e
    have c1 : decide ((k : Int) < (zs.map D.int).length) = true := by simpa using c
    have c2 : L2.atI (zs.map D.int) (k : Int) = some (.int (zs.getD k 0)) := by
      have : (k : Int) < (zs.map D.int).length := by simpa using c
      simp [L2.atI, L2.ixN, this, c]
    have : sIf (dTest (dBin ltD (dVar 1) (dCall lenO (dCons (dVar 0) dNil)))) (sAsg (dBin ixD (dVar 0) (dVar 1)) (gNm 2)) sPass [some (.frz (zs.map D.int)), some (.int k), some (.int 0), none, none] G = .ok (.nx, [some (.frz (zs.map D.int)), some (.int k), some (.int (zs.getD k 0)), none, none]) G := by
      simp only [sIf_s, dTest_s, dBin_s, dVar_s, dCall_s, dCons_s, dNil_s, List.getElem?_cons_succ, List.getElem?_cons_zero, bind_ok, lenO_1, lenV_frz, ltD_ii, c1, if_true, sAsg_s, ixD_frz, seqOf_frz, c2, gNm_s, List.set_cons_succ, List.set_cons_zero]
    rw [sSeq_s, sAsg_s, dC_s, bind_ok, gNm_s, bind_ok, sBind_nx]
    show finR (sSeq _ _ [some (.frz (zs.map D.int)), some (.int k), some (.int 0), none, none] G) = _
    rw [sSeq_s, this, sBind_nx, e, finR_rt]
  · rw [if_neg c] at e
    have c1 : decide ((k : Int) < (zs.map D.int).length) = false := by simpa using c
    have : sIf (dTest (dBin ltD (dVar 1) (dCall lenO (dCons (dVar 0) dNil)))) (sAsg (dBin ixD (dVar 0) (dVar 1)) (gNm 2)) sPass [some (.frz (zs.map D.int)), some (.int k), some (.int 0), none, none] G = .ok (.nx, [some (.frz (zs.map D.int)), some (.int k), some (.int 0), none, none]) G := by
      simp only [sIf_s, dTest_s, dBin_s, dVar_s, dCall_s, dCons_s, dNil_s, List.getElem?_cons_succ, List.getElem?_cons_zero, bind_ok, lenO_1, lenV_frz, ltD_ii, c1, Bool.false_eq_true, if_false, sPass_s]
    rw [sSeq_s, sAsg_s, dC_s, bind_ok, gNm_s, bind_ok, sBind_nx]
    show finR (sSeq _ _ [some (.frz (zs.map D.int)), some (.int k), some (.int 0), none, none] G) = _
    rw [sSeq_s, this, sBind_nx, e, finR_rt]
/-! ### texts and their @ -/
theorem at_eq : at_ = ⟨#[64]⟩ := TL.ext_tl (by rw [at_tl])
theorem at_ne : TL.tl at_ ≠ [] := by rw [at_tl]; simp
theorem at_kind : at_.cps.all (· < 256) = true := by decide +kernel
theorem no64 : (64 : Nat) ∉ LET := by decide +kernel
theorem isW_free {x : Str} (h : isW x = true) : (64 : Nat) ∉ TL.tl x := fun hm => by
  unfold isW at h
  simp only [Bool.and_eq_true, List.all_eq_true, decide_eq_true_eq] at h
  exact no64 (h.2 64 hm)
theorem at_cases (x : Str) : ((64 : Nat) ∉ TL.tl x ∧ Txt.count x at_ = 0 ∧ Txt.partition x at_ = (x, Str.empty, Str.empty)) ∨
    ∃ a b : Str, Txt.partition x at_ = (a, at_, b) ∧ a.length ≤ x.length ∧ b.length ≤ x.length ∧ (((64 : Nat) ∉ TL.tl b ∧ Txt.count x at_ = 1 ∧ Txt.split x at_ = [a, b]) ∨ ((64 : Nat) ∈ TL.tl b ∧ Txt.count x at_ ≠ 1)) := by
  by_cases c : (64 : Nat) ∈ TL.tl x
  · right
    obtain ⟨p, q, e, hp⟩ := List.eq_append_cons_of_mem c
    have ex : x = (⟨p.toArray⟩ : Str) ++ at_ ++ ⟨q.toArray⟩ := TL.ext_tl (by
      rw [TL.tl_append, TL.tl_append, at_tl, e]
      show p ++ 64 :: q = p ++ [64] ++ q
      simp)
    have hp' : (64 : Nat) ∉ TL.tl (⟨p.toArray⟩ : Str) := hp
    have lx : x.length = p.length + (1 + q.length) := by
      have : x.length = (TL.tl x).length := by simp [Str.length, TL.tl]
      rw [this, e]; simp; omega
    have cn : ∀ l : List Nat, 0 ≤ PyProof.Rows.cnt 64 l := fun l => by
      induction l with
      | nil => exact Int.le_refl _
      | cons n l ih => rw [PyProof.Rows.cnt_cons]; split <;> omega
    have ct : Txt.count x at_ = 1 + PyProof.Rows.cnt 64 q := by
      rw [at_eq, PyProof.Rows.count_cnt]
      show PyProof.Rows.cnt 64 (TL.tl x) = _
      rw [e, PyProof.Rows.cnt_append, PyProof.Rows.cnt_none 64 p hp, PyProof.Rows.cnt_cons, if_pos rfl]
      omega
    refine ⟨⟨p.toArray⟩, ⟨q.toArray⟩, by rw [ex]; exact TL.partition_app at_tl hp', by show p.toArray.size ≤ _; rw [lx]; simp, by show q.toArray.size ≤ _; rw [lx]; simp; omega, ?_⟩
    by_cases d : (64 : Nat) ∈ q
    · refine .inr ⟨d, ?_⟩
      rw [ct]
      obtain ⟨u, v, ev, hu⟩ := List.eq_append_cons_of_mem d
      rw [ev, PyProof.Rows.cnt_append, PyProof.Rows.cnt_cons, if_pos rfl]
      have := cn u
      have := cn v
      omega
    · refine .inl ⟨d, by rw [ct, PyProof.Rows.cnt_none 64 q d]; rfl, ?_⟩
      refine TL.map_tl_inj ?_
      rw [TL.split_spl x at_ at_ne (TL.kind_ok at_kind), at_tl, e]
      have r1 := TL.spl_part1 (s := 64) (S := []) (p := p) (rest := q) (acc := []) hp
      have r2 := TL.spl_last1 (s := 64) (S := []) (p := q) (acc := []) d
      have z : p ++ 64 :: q = p ++ ([64] ++ q) := by simp
      rw [z, r1, r2]
      rfl
  · left
    refine ⟨c, ?_, TL.partition_none at_tl c⟩
    rw [at_eq, PyProof.Rows.count_cnt]
    exact PyProof.Rows.cnt_none 64 _ c
end DF
end
/-! ==== K01S ==== -/
section
set_option Elab.async false
set_option linter.all false
set_option autoImplicit false
set_option maxRecDepth 100000
set_option maxHeartbeats 4000000
namespace K01
open PySem DL DF

theorem plnL_strs {α : Type} (f : α → Str) : ∀ l : List α, plnL (l.map fun a => D.str (f a)) = true
  | [] => rfl
  | a :: l => by simp [plnL_strs f l]
theorem depL_strs {α : Type} (f : α → Str) : ∀ l : List α, depL (l.map fun a => D.str (f a)) = 0
  | [] => rfl
  | a :: l => by simp [depL_strs f l]
theorem eq_nil {α : Type} (f : α → Str) (l : List α) (G : DH) : eqOp (.lst (l.map fun a => D.str (f a))) (.lst []) G = .ok (.bl l.isEmpty) G := by
  rw [eqOp_ok ⟨by rw [der_lst]; simp [plnL_strs], by rw [der_lst]; simp, by rw [der_lst]; simp [depL_strs]⟩]
  cases l <;> simp [valL_lst]
theorem all_empty (p : Nat → Bool) (l : List Nat) : (l.filter fun c => !p c).isEmpty = l.all p := by
  induction l with
  | nil => rfl
  | cons a l ih => cases h : p a <;> simp [h] at ih ⊢ <;> simpa using ih
theorem lw_str (x : Str) (G : DH) (h : x.length ≤ sizeLine) : F__law_is_word [.str x] G = .ok (.bl (isW x)) G := by
  have e : lcL (gNm 1) (dTest (dBin (inOp true) (dVar 1) (dC (.str "abcdefghijklmnopqrstuvwxyz")))) (dVar 1) [some (.str x), none] (sgnD x) [] G = .ok ((x.cps.toList.filter fun c => !decide (c ∈ LET)).map fun c => .str ⟨#[c]⟩) G := by
    have := lcL_pure (g := gNm 1) (tt := dTest (dBin (inOp true) (dVar 1) (dC (.str "abcdefghijklmnopqrstuvwxyz")))) (te := dVar 1) (s0 := [some (.str x), none]) (G := G) (fun c => .str ⟨#[c]⟩) (fun c => !decide (c ∈ LET)) (fun c => .str ⟨#[c]⟩) x.cps.toList [] (fun c hc => ⟨_, rfl, by simp [in_one, LET], fun _ => by simp⟩) (by simpa [Str.length] using h)
    exact this
  rw [F__law_is_word, runF_1, b__law_is_word]
  unfold isW
  by_cases h1 : 1 ≤ x.length
  · by_cases h2 : x.length ≤ 8
    · have e1 : (1 : Int) ≤ x.length := by omega
      have e2 : (x.length : Int) ≤ 8 := by omega
      simp [h, h1, h2, e1, e2, e, eq_nil, all_empty]
    · have e1 : (1 : Int) ≤ x.length := by omega
      have e2 : ¬ (x.length : Int) ≤ 8 := by omega
      simp [h, h1, h2, e1, e2]
  · have e1 : ¬ (1 : Int) ≤ x.length := by omega
    simp [h, h1, e1]
theorem lw_ok {d : D} {G : DH} {T : String} (h : tyN G d = some T) (hs : shortS d) : F__law_is_word [d] G = .ok (.bl (isWd d)) G := by
  cases d with
  | str x => exact lw_str x G hs
  | _ =>
    have hT : (T == "str") = false := by
      simp only [tyN] at h
      first
        | (cases h; done)
        | (cases h; decide)
        | (split at h <;> first | (cases h; decide) | cases h)
    rw [F__law_is_word, runF_1, b__law_is_word]
    simp [h, hT, isWd, -tyN_non, -tyN_bl, -tyN_int, -tyN_tup, -tyN_ktup, -tyN_lst, -tyN_frz, -tyN_dK, -tyN_dT, -tyN_obj]
theorem lin_ok {d : D} {G : DH} {T : String} {lo hi : Int} (h : tyN G d = some T) : F__law_within [d, .int lo, .int hi] G = .ok (.bl (isIn d lo hi)) G := by
  rw [F__law_within, runF_3, b__law_within]
  cases d with
  | obj n =>
    have : (T == "int") = false ∧ (T == "bool") = false := by
      simp only [tyN] at h
      split at h <;> first | (cases h; decide) | cases h
    simp [h, this.1, this.2, isIn, -tyN_obj]
  | dT k => cases h
  | int i =>
    simp [isIn]
    by_cases c : lo ≤ i <;> simp [c]
  | _ => simp [isIn]
theorem len_at : ¬ at_.length = 0 := by decide +kernel
theorem lp_str (x : Str) (G : DH) (h : x.length ≤ 1000) : F__law_is_person [.str x] G = .ok (.bl (isP x)) G := by
  have big : (1002 : Nat) ≤ sizeLine := by rw [sizeLine_eq]; omega
  have at_e : (Str.ofString "@") = at_ := rfl
  have hx : x.length + 2 ≤ sizeLine := by omega
  rw [F__law_is_person, runF_1, b__law_is_person, at_e]
  unfold isP
  rcases at_cases x with ⟨_, e1, e2⟩ | ⟨a, b, e2, la, lb, ⟨_, e1, e3⟩ | ⟨hm, e1⟩⟩
  · have ne : (Str.empty == at_) = false := by decide +kernel
    simp [e1, e2, ne]
  · have e : lcL (gNm 1) (tNotD (dTru (dCall F__law_is_word (dCons (dVar 1) dNil)))) (dVar 1) [some (.str x), none] ([a, b].map D.str) [] G = .ok (([a, b].filter fun z => !isW z).map fun z => D.str z) G := by
      have := lcL_pure (g := gNm 1) (tt := tNotD (dTru (dCall F__law_is_word (dCons (dVar 1) dNil)))) (te := dVar 1) (s0 := [some (.str x), none]) (G := G) D.str (fun z => !isW z) (fun z => .str z) [a, b] [] (fun z hz => by
        have lz : z.length ≤ sizeLine := by
          rcases List.mem_cons.mp hz with rfl | hz
          · omega
          · rw [List.mem_singleton.mp hz]; omega
        exact ⟨_, rfl, by simp [lw_str z G lz], fun _ => by simp⟩) (by show 0 + 2 ≤ _; omega)
      exact this
    have q := eq_nil (fun z : Str => z) ([a, b].filter fun z => !isW z) G
    have l0 : (at_.length == 0) = false := by decide +kernel
    have sp : splitO false (.str x) [.str at_] G = .ok (.lst ([a, b].map D.str)) G := by
      rw [splitO_s, if_pos ⟨l0, hx⟩, e3, mkL_v]
    have i1 : iSeq (dMt "str" (splitO false) (dVar 0) (dCons (dC (.str at_)) dNil)) [some (.str x), none] G = .ok ([a, b].map D.str) G := by
      simp [sp, -splitO_s]
    have res : dBin eqOp (dLc false [1] (iSeq (dMt "str" (splitO false) (dVar 0) (dCons (dC (.str at_)) dNil))) (gNm 1) (tNotD (dTru (dCall F__law_is_word (dCons (dVar 1) dNil)))) (dVar 1)) (dLst false dNil) [some (.str x), none] G = .ok (.bl ([a, b].filter fun z => !isW z).isEmpty) G := by
      have w : wipeD [some (D.str x), none] [1] = [some (.str x), none] := rfl
      rw [dBin_s, dLc_s, i1, bind_ok, w, e, bind_ok, mkL_v, bind_ok, dLst_s, dNil_s, bind_ok, if_pos (show ([] : List D).length ≤ sizeLine from Nat.zero_le _), mkL_v, bind_ok, q]
    have s2 : (some (D.str x) :: List.replicate (2 - 1) none : DSl) = [some (.str x), none] := rfl
    have c0 : sIf (tOrD (tNotD (dTru (dIsi "str" (dVar 0)))) (dTest (dBin neOp (dMt "str" countO (dVar 0) (dCons (dC (.str at_)) dNil)) (dC (.int 1))))) (sRet (dC (.bl false))) sPass [some (.str x), none] G = .ok (.nx, [some (.str x), none]) G := by
      simp [e1]
    rw [s2, sSeq_s, c0, sBind_nx, sRet_s, res, bind_ok, finR_rt, e2]
    clear e q i1 res c0 sp
    cases ca : isW a <;> cases cb : isW b <;> simp [List.filter, ca, cb]
  · have hb : isW b = false := by
      cases q : isW b with
      | false => rfl
      | true => exact absurd hm (isW_free q)
    have e1' : (Txt.count x at_ == 1) = false := beq_eq_false_iff_ne.mpr e1
    simp [e1', e2, hb]
theorem isP_short {x : Str} (h : x.length ≤ 1000) : x.length ≤ sizeLine := by rw [sizeLine_eq]; omega
/-- what the law looks at -/
structure Good (G : DH) (d : D) : Prop where
  ty : ∃ T, tyN G d = some T
  st : ∀ x, d = .str x → x.length ≤ 1000
  pr : ∀ a b, d = .tup [a, b] → (∀ x, a = .str x → x.length ≤ 1000) ∧ (∃ T, tyN G a = some T) ∧ ∃ T, tyN G b = some T
  nk : ∀ xs, d ≠ .ktup xs
theorem short_of {d : D} (h : ∀ x, d = .str x → x.length ≤ 1000) : shortS d := by
  cases d with
  | str x => exact isP_short (h x rfl)
  | _ => trivial
theorem lp_ok {d : D} {G : DH} (g : Good G d) : F__law_is_person [d] G = .ok (.bl (isPd d)) G := by
  obtain ⟨T, h⟩ := g.ty
  cases d with
  | str x => exact lp_str x G (g.st x rfl)
  | _ =>
    have hT : (T == "str") = false := by
      simp only [tyN] at h
      first
        | (cases h; done)
        | (cases h; decide)
        | (split at h <;> first | (cases h; decide) | cases h)
    rw [F__law_is_person, runF_1, b__law_is_person]
    simp [h, hT, isPd, -tyN_non, -tyN_bl, -tyN_int, -tyN_tup, -tyN_ktup, -tyN_lst, -tyN_frz, -tyN_dK, -tyN_dT, -tyN_obj]
theorem lt_ok {d : D} {G : DH} (g : Good G d) : F__law_is_title [d] G = .ok (.bl (isN d)) G := by
  obtain ⟨T, h⟩ := g.ty
  rw [F__law_is_title, runF_1, b__law_is_title]
  cases d with
  | ktup xs => exact absurd rfl (g.nk xs)
  | tup xs =>
    match xs with
    | [] => simp [isN]
    | [a] => simp [isN]
    | [a, b] =>
      obtain ⟨h1, ⟨T1, h2⟩, T2, h3⟩ := g.pr a b rfl
      simp [isN, L2.atI, L2.ixN, lw_ok h2 (short_of h1), lin_ok h3]
      cases isWd a <;> simp
    | a :: b :: c :: r =>
      have : ((r.length : Int) + 1 + 1 + 1 == 2) = false := beq_eq_false_iff_ne.mpr (by omega)
      simp [isN, this]
  | dT k => cases h
  | obj n =>
    have : (T == "tuple") = false := by
      simp only [tyN] at h
      split at h <;> first | (cases h; decide) | cases h
    simp [h, this, isN, -tyN_obj]
  | _ => simp [isN]
theorem repr4 (a b c d : Bool) (G : DH) : reprO [.lst [.bl a, .bl b, .bl c, .bl d]] G = .ok (.str (toP (.lst [.bl a, .bl b, .bl c, .bl d])).shown) G := by
  have sh : shows (toP (.lst [.bl a, .bl b, .bl c, .bl d])) := by
    refine ⟨by simp [toP, toPL, PyData.showable, PyData.showableAll], by simp [toP, toPL, PyData.depth, PyData.depthAll], PyData.shown_fits_bulk (B := 13) (by decide) (by decide) (by simp [toP, toPL, PyData.leavesShort, PyData.leavesShortAll]) (by simp [toP, toPL, PyData.bulk, PyData.bulkAll])⟩
  show (if _ then _ else _) = _
  rw [der_lst, if_pos ⟨rfl, by simp, sh⟩]
theorem right_ok {d : D} {G : DH} (g : Good G d) : F__law_right [d] G = .ok (.bl true) G := by
  obtain ⟨T, h⟩ := g.ty
  have s := short_of g.st
  have w := is_word_ok h s
  have p := is_person_ok h s
  have n := is_name_ok h (fun a b e => let ⟨x, y, z⟩ := g.pr a b e; ⟨short_of x, y, z⟩) g.nk
  have r := is_rank_ok (G := G) h
  have lw := lw_ok h s
  have lp := lp_ok g
  have lt := lt_ok g
  have lr := lin_ok (lo := 0) (hi := 100) h
  have q := repr4 (isWd d) (isPd d) (isN d) (isIn d 0 100) G
  have z : (4 : Nat) ≤ sizeLine := by rw [sizeLine_eq]; omega
  rw [F__law_right, runF_1, b__law_right]
  simp [w, p, n, r, lw, lp, lt, lr, q, z, pick]
theorem cut_len (z : Str) (lo hi : Option Int) : (L2.cutS z lo hi).length ≤ z.length := by
  exact L2.cutS_length z lo hi
theorem signs_spec {G : DH} {n : Nat} (h : Pl G n) : ∃ (x : Str) (G' : DH), F__law_signs [.obj n] G = .ok (.str x) G' ∧ x.length ≤ 30 ∧ Af n G G' := by
  have big : (100 : Nat) ≤ sizeLine := by rw [sizeLine_eq]; omega
  obtain ⟨r1, G1, t1, a1, b1, f1⟩ := take_spec (m := 10) h (by decide) (by decide)
  obtain ⟨m, rfl⟩ := Int.eq_ofNat_of_zero_le a1
  obtain ⟨x, G2, t2, l2, _, f2⟩ := letters_spec f1.1 m (by omega)
  obtain ⟨r3, G3, t3, a3, b3, f3⟩ := take_spec (m := 10) f2.1 (by decide) (by decide)
  obtain ⟨d, ed, md⟩ := atI_lt (xs := [D.str "A", .str "0", .str " ", .str "-", .str "_", .str "\n", .str "@", .str ":", .str "{", .str "`"]) a3 b3
  obtain ⟨z, rfl, lz⟩ : ∃ z : Str, d = .str z ∧ z.length = 1 := by
    simp only [List.mem_cons, List.not_mem_nil, or_false] at md
    rcases md with rfl | rfl | rfl | rfl | rfl | rfl | rfl | rfl | rfl | rfl <;> exact ⟨_, rfl, by decide +kernel⟩
  obtain ⟨r4, G4, t4, a4, b4, f4⟩ := take_spec (m := 3) f3.1 (by decide) (by decide)
  have hm : m < 10 := by omega
  have f14 := ((f1.trans f2).trans f3).trans f4
  have len10 : (10 : Nat) ≤ sizeLine := by omega
  have lx : x.length ≤ sizeLine := by omega
  have s4 : (some (D.obj n) :: List.replicate (4 - 1) none : DSl) = [some (.obj n), none, none, none] := rfl
  by_cases c : r4 = 0
  · subst c
    obtain ⟨r5, G5, t5, a5, b5, f5⟩ := take_spec (m := x.length + 1) f4.1 (by omega) (by
      have : ((x.length : Int) + 1).natAbs < 2 ^ 64 := by omega
      exact Nat.lt_trans (PySem.Flt.log2_lt_of (by decide) this) (by decide))
    have q1 := cut_len x none (some r5)
    have q2 := cut_len x (some r5) none
    have g1 : (L2.cutS x none (some r5)).length + z.length ≤ sizeLine := by omega
    have g2 : (L2.cutS x none (some r5) ++ z).length + (L2.cutS x (some r5) none).length ≤ sizeLine := by
      rw [Str.length_append]; omega
    refine ⟨L2.cutS x none (some r5) ++ z ++ L2.cutS x (some r5) none, G5, ?_, by rw [Str.length_append, Str.length_append]; omega, f14.trans f5⟩
    rw [F__law_signs, runF_1, b__law_signs, s4]
    generalize Str.ofString "A" = w0 at ed ⊢
    generalize Str.ofString "0" = w1 at ed ⊢
    generalize Str.ofString " " = w2 at ed ⊢
    generalize Str.ofString "-" = w3 at ed ⊢
    generalize Str.ofString "_" = w4 at ed ⊢
    generalize Str.ofString "\n" = w5 at ed ⊢
    generalize Str.ofString "@" = w6 at ed ⊢
    generalize Str.ofString ":" = w7 at ed ⊢
    generalize Str.ofString "{" = w8 at ed ⊢
    generalize Str.ofString "`" = w9 at ed ⊢
    simp only [sSeq_s, sAsg_s, sIf_s, sRet_s, sPass_s, dTest_s, dCall_s, dCons_s, dVar_s, dBin_s, dC_s, dNil_s, dLst_s, dSl_s, dNoP_s, dP_s, bind_ok, sBind_nx, sBind_rt, finR_rt, gNm_s, List.getElem?_cons_succ, List.getElem?_cons_zero, List.set_cons_succ, List.set_cons_zero, mkL_v, ixD_lst, seqOf_lst, lenO_1, lenV_str, addD_ii, addD_ss, slD_s, eqOp_ii, List.length_cons, List.length_nil, Nat.zero_add, Nat.reduceAdd, t1, t2, t3, if_pos len10, ed, t4, beq_self_eq_true, if_true, if_pos lx, t5, if_pos g1, if_pos g2]
  · refine ⟨x, G4, ?_, by omega, f14⟩
    have c' : (r4 == 0) = false := beq_eq_false_iff_ne.mpr c
    rw [F__law_signs, runF_1, b__law_signs, s4]
    generalize Str.ofString "A" = w0 at ed ⊢
    generalize Str.ofString "0" = w1 at ed ⊢
    generalize Str.ofString " " = w2 at ed ⊢
    generalize Str.ofString "-" = w3 at ed ⊢
    generalize Str.ofString "_" = w4 at ed ⊢
    generalize Str.ofString "\n" = w5 at ed ⊢
    generalize Str.ofString "@" = w6 at ed ⊢
    generalize Str.ofString ":" = w7 at ed ⊢
    generalize Str.ofString "{" = w8 at ed ⊢
    generalize Str.ofString "`" = w9 at ed ⊢
    simp only [sSeq_s, sAsg_s, sIf_s, sRet_s, sPass_s, dTest_s, dCall_s, dCons_s, dVar_s, dBin_s, dC_s, dNil_s, dLst_s, dSl_s, dNoP_s, dP_s, bind_ok, sBind_nx, sBind_rt, finR_rt, gNm_s, List.getElem?_cons_succ, List.getElem?_cons_zero, List.set_cons_succ, List.set_cons_zero, mkL_v, ixD_lst, seqOf_lst, lenO_1, lenV_str, addD_ii, addD_ss, slD_s, eqOp_ii, List.length_cons, List.length_nil, Nat.zero_add, Nat.reduceAdd, t1, t2, t3, if_pos len10, ed, t4, c', Bool.false_eq_true, if_false]
theorem isP_split {x : Str} (h : isP x = true) : ∃ a b : Str, Txt.partition x at_ = (a, at_, b) ∧ Txt.split x at_ = [a, b] := by
  unfold isP at h
  rcases at_cases x with ⟨_, _, e2⟩ | ⟨a, b, e2, la, lb, ⟨_, e1, e3⟩ | ⟨hm, e1⟩⟩
  · have ne : (Str.empty == at_) = false := by decide +kernel
    simp [e2, ne] at h
  · exact ⟨a, b, e2, e3⟩
  · have hb : isW b = false := by
      cases q : isW b with
      | false => rfl
      | true => exact absurd hm (isW_free q)
    simp [e2, hb] at h
theorem house_ok {x a b : Str} {G : DH} (h : x.length ≤ sizeLine) (e : Txt.partition x at_ = (a, at_, b)) : F_house_of [.str x] G = .ok (.str b) G := by
  have at_e : (Str.ofString "@") = at_ := rfl
  have l1 := len_at
  rw [F_house_of, runF_1, b_house_of, at_e]
  simp [h, l1, e]
theorem person_test {x : Str} {G : DH} (h : x.length ≤ 1000) {s : DSl} (hs : s[6]? = some (some (.str x))) : (sIf (tAndD (dTru (dCall F__law_is_person (dCons (dVar 6) (dNil)))) (dTest (dBin neOp (dLst false (dCons (dCall F_house_of (dCons (dVar 6) (dNil))) (dCons (dCallK 0 1 [0] F_house_of (dNil) (dCons (dVar 6) (dNil))) (dNil)))) (dBin (mulD false) (dSl false (dMt "str" (splitO false) (dVar 6) (dCons (dC (.str "@")) (dNil))) (dP (dC (.int 1))) (dNoP)) (dC (.int 2)))))) (sRet (dC (.bl false))) (sPass)) s G = .ok (.nx, s) G := by
  have big : (1002 : Nat) ≤ sizeLine := by rw [sizeLine_eq]; omega
  have lp := lp_str x G h
  cases c : isP x with
  | false => simp [hs, lp, c]
  | true =>
    obtain ⟨a, b, e2, e3⟩ := isP_split c
    have ho := house_ok (G := G) (show x.length ≤ sizeLine by omega) e2
    have at_e : (Str.ofString "@") = at_ := rfl
    have l0 : (at_.length == 0) = false := by decide +kernel
    have sp : splitO false (.str x) [.str at_] G = .ok (.lst [.str a, .str b]) G := by
      rw [splitO_s, if_pos ⟨l0, by omega⟩, e3, mkL_v]
      rfl
    have two : (2 : Nat) ≤ sizeLine := by omega
    have sl : cutD [D.str a, D.str b] (some 1) none = [.str b] := by rfl
    have mu : mulD false (.lst [.str b]) (.int 2) G = .ok (.lst [.str b, .str b]) G := by
      rw [mulD_lst, lstM_lst]
      show (if _ then _ else _) = _
      rw [if_pos ⟨by decide, by decide, by show 1 * 2 ≤ _; omega⟩]
      rfl
    have ne : neOp (.lst [.str b, .str b]) (.lst [.str b, .str b]) G = .ok (.bl false) G := by
      rw [neOp_ok ⟨rfl, rfl, by simp⟩]
      simp
    simp [hs, lp, c, ho, at_e, sp, -splitO_s, pick, two, sl, mu, -mulD_lst, ne]
theorem l1_ok {d : D} {G : DH} (g : Good G d) {s : DSl} (hs : s[1]? = some (some d)) : l1_law s G = .ok (.nx, s) G := by
  unfold l1_law
  simp [hs, right_ok g]
theorem l2_ok {d : D} {G : DH} (g : Good G d) {s : DSl} (hs : s[1]? = some (some d)) : l2_law s G = .ok (.nx, s) G := l1_ok g hs
theorem good_str {G : DH} {x : Str} (h : x.length ≤ 1000) : Good G (.str x) := ⟨⟨_, tyN_str G x⟩, fun y e => (by cases e; exact h), fun _ _ e => (by cases e), fun _ e => (by cases e)⟩
theorem good_int {G : DH} {i : Int} : Good G (.int i) := ⟨⟨_, tyN_int G i⟩, fun y e => (by cases e), fun _ _ e => (by cases e), fun _ e => (by cases e)⟩
theorem good_bl {G : DH} {i : Bool} : Good G (.bl i) := ⟨⟨_, tyN_bl G i⟩, fun y e => (by cases e), fun _ _ e => (by cases e), fun _ e => (by cases e)⟩
theorem good_non {G : DH} : Good G .non := ⟨⟨_, tyN_non G⟩, fun y e => (by cases e), fun _ _ e => (by cases e), fun _ e => (by cases e)⟩
theorem good_lst {G : DH} {xs : List D} : Good G (.lst xs) := ⟨⟨_, tyN_lst G xs⟩, fun y e => (by cases e), fun _ _ e => (by cases e), fun _ e => (by cases e)⟩
theorem good_dK {G : DH} {xs : List (L2.Key × D)} : Good G (.dK xs) := ⟨⟨_, tyN_dK G xs⟩, fun y e => (by cases e), fun _ _ e => (by cases e), fun _ e => (by cases e)⟩
theorem good_t0 {G : DH} : Good G (.tup []) := ⟨⟨_, tyN_tup G _⟩, fun y e => (by cases e), fun _ _ e => (by cases e), fun _ e => (by cases e)⟩
theorem good_t2 {G : DH} {a b : D} (ha : Good G a) (hb : Good G b) : Good G (.tup [a, b]) := ⟨⟨_, tyN_tup G _⟩, fun y e => (by cases e), fun _ _ e => (by cases e; exact ⟨ha.st, ha.ty, hb.ty⟩), fun _ e => (by cases e)⟩
theorem good_t3 {G : DH} {a b c : D} : Good G (.tup [a, b, c]) := ⟨⟨_, tyN_tup G _⟩, fun y e => (by cases e), fun _ _ e => (by cases e), fun _ e => (by cases e)⟩
/-- a loop over good things -/
theorem loop_ok {b : DS} (hb : ∀ {d : D} {G : DH}, Good G d → ∀ {s : DSl}, s[1]? = some (some d) → b s G = .ok (.nx, s) G) {G : DH} : ∀ (ds : List D), (∀ d ∈ ds, Good G d) → ∀ (s : DSl), 2 ≤ s.length → ∃ v, forL (gNm 1) b ds s G = .ok (.nx, s.set 1 v) G
  | [], _, s, hs => by
    refine ⟨s[1], ?_⟩
    rw [List.set_getElem_self]
    rfl
  | d :: ds, g, s, hs => by
    have e := hb (g d List.mem_cons_self) (s := s.set 1 (some d)) (by rw [List.getElem?_set_self (by omega)])
    obtain ⟨v, r⟩ := loop_ok hb ds (fun x hx => g x (List.mem_cons_of_mem _ hx)) (s.set 1 (some d)) (by rw [List.length_set]; exact hs)
    refine ⟨v, ?_⟩
    rw [List.set_set] at r
    simp only [forL, gNm_s, bind_ok, e, r]
theorem l3_ok {zs : List Int} (hz : zs.length ≤ 63) {k : Nat} (hk : k ≤ 100) {G : DH} {v1 v3 v4 v5 v6 v7 v8 : Option D} :
    ∃ w1 w3 w4 w5 w6 w7 w8 G', l3_law [some (.frz (zs.map D.int)), v1, some (.int k), v3, v4, v5, v6, v7, v8] G = .ok (.nx, [some (.frz (zs.map D.int)), w1, some (.int k), w3, w4, w5, w6, w7, w8]) G' := by
  have big : (1000 : Nat) ≤ sizeLine := by rw [sizeLine_eq]; omega
  obtain ⟨a, b, p1, ha, hb, hb2⟩ := pool_spec (zs := zs) (k := k) (G := G) (by omega) (by omega)
  have pl := pl_new (G := G) ha hb hb2
  generalize hn : G.length = n at p1 pl
  obtain ⟨x, G1, e1, l1, f1⟩ := signs_spec pl
  obtain ⟨y, G2, e2, l2, f2⟩ := signs_spec f1.1
  obtain ⟨t, G3, e3, a3, b3, f3⟩ := take_spec (m := 3) f2.1 (by decide) (by decide)
  obtain ⟨r1, G4, e4, a4, b4, f4⟩ := take_spec (m := 120) f3.1 (by decide) (by decide)
  obtain ⟨r2, G5, e5, a5, b5, f5⟩ := take_spec (m := 3) f4.1 (by decide) (by decide)
  obtain ⟨r5, G6, e6, a6, b6, f6⟩ := take_spec (m := 5) f5.1 (by decide) (by decide)
  obtain ⟨d, ed, md⟩ := atI_lt (xs := [D.int (r1 - 9), .int (99999 + r2), .bl true, .non, .str "5"]) a6 b6
  have gd : Good G6 d := by
    simp only [List.mem_cons, List.not_mem_nil, or_false] at md
    rcases md with rfl | rfl | rfl | rfl | rfl
    · exact good_int
    · exact good_int
    · exact good_bl
    · exact good_non
    · exact good_str (by decide +kernel)
  have la : (Str.ofString "@").length = 1 := by decide +kernel
  have lr : (repS (Str.ofString "@") t.toNat).length = 1 * t.toNat := by rw [repS_length, la]; omega
  have q0 : -2147483648 ≤ t ∧ t ≤ 2147483648 ∧ (Str.ofString "@").length * t.toNat ≤ sizeLine := ⟨by omega, by omega, by rw [la]; omega⟩
  have q1 : x.length + (repS (Str.ofString "@") t.toNat).length ≤ sizeLine := by omega
  have q2 : (x ++ repS (Str.ofString "@") t.toNat).length + y.length ≤ sizeLine := by rw [Str.length_append]; omega
  have lb : (x ++ repS (Str.ofString "@") t.toNat ++ y).length ≤ 100 := by rw [Str.length_append, Str.length_append]; omega
  generalize hB : x ++ repS (Str.ofString "@") t.toNat ++ y = B at lb
  have q3 : B.length + (Str.ofString "@").length ≤ sizeLine := by omega
  have q4 : (B ++ Str.ofString "@").length + x.length ≤ sizeLine := by rw [Str.length_append]; omega
  have lc : (B ++ Str.ofString "@" ++ x).length ≤ 1000 := by rw [Str.length_append, Str.length_append]; omega
  have z2 : (2 : Nat) ≤ sizeLine := by omega
  have z3 : (3 : Nat) ≤ sizeLine := by omega
  have z5 : (5 : Nat) ≤ sizeLine := by omega
  have z9 : (9 : Nat) ≤ sizeLine := by omega
  have gx : Good G6 (.str x) := good_str (by omega)
  have gB : Good G6 (.str B) := good_str (by omega)
  have gC : Good G6 (.str (B ++ Str.ofString "@" ++ x)) := good_str lc
  have gl : ∀ q ∈ [D.str x, .str B, .str (B ++ Str.ofString "@" ++ x), .tup [.str x, d], .tup [.str x, d, .int 0], .lst [.str x, d], .tup [.str B, .int 3], d, .tup [d, .str x]], Good G6 q := by
    intro q hq
    simp only [List.mem_cons, List.not_mem_nil, or_false] at hq
    rcases hq with rfl | rfl | rfl | rfl | rfl | rfl | rfl | rfl | rfl
    · exact gx
    · exact gB
    · exact gC
    · exact good_t2 gx gd
    · exact good_t3
    · exact good_lst
    · exact good_t2 gB good_int
    · exact gd
    · exact good_t2 gd gx
  obtain ⟨v, lp⟩ := loop_ok (b := l2_law) (fun g _ hs => l2_ok g hs) _ gl [some (.frz (zs.map D.int)), v1, some (.int k), some (.obj n), some (.str x), some (.str y), some (.str B), some d, some (.lst [D.str x, .str B, .str (B ++ Str.ofString "@" ++ x), .tup [.str x, d], .tup [.str x, d, .int 0], .lst [.str x, d], .tup [.str B, .int 3], d, .tup [d, .str x]])] (by show 2 ≤ 9; omega)
  have pt := person_test (x := B) (G := G6) (by omega) (s := [some (.frz (zs.map D.int)), v, some (.int k), some (.obj n), some (.str x), some (.str y), some (.str B), some d, some (.lst [D.str x, .str B, .str (B ++ Str.ofString "@" ++ x), .tup [.str x, d], .tup [.str x, d, .int 0], .lst [.str x, d], .tup [.str B, .int 3], d, .tup [d, .str x]])]) rfl
  refine ⟨v, some (.obj n), some (.str x), some (.str y), some (.str B), some d, some (.lst [D.str x, .str B, .str (B ++ Str.ofString "@" ++ x), .tup [.str x, d], .tup [.str x, d, .int 0], .lst [.str x, d], .tup [.str B, .int 3], d, .tup [d, .str x]]), G6, ?_⟩
  rw [l3_law]
  clear gl gC lc la lr
  generalize Str.ofString "@" = w1 at *
  generalize Str.ofString "5" = w5 at *
  simp only [sSeq_s, sAsg_s, dCall_s, dCons_s, dVar_s, dBin_s, dC_s, dNil_s, dLst_s, dTup_s, bind_ok, sBind_nx, gNm_s, List.getElem?_cons_succ, List.getElem?_cons_zero, List.set_cons_succ, List.set_cons_zero, mkL_v, ixD_lst, seqOf_lst, addD_ii, addD_ss, subD_ii, mulD_si, sFor_s, iSeq_s, List.length_cons, List.length_nil, Nat.zero_add, Nat.reduceAdd, p1, e1, e2, e3, if_pos q0, if_pos q1, if_pos q2, hB, e4, e5, if_pos z5, e6, ed, if_pos q3, if_pos q4, if_pos z2, if_pos z3, if_pos z9, lp, pt]
theorem items_ok (s : DSl) (G : DH) : iSeq (dLst false (dCons (dC .non) (dCons (dC (.bl true)) (dCons (dC (.int 0)) (dCons (dC (.int 100)) (dCons (dC (.int 101)) (dCons (dUn negD (dC (.int 1))) (dCons (dBin powD (dC (.int 10)) (dC (.int 30))) (dCons (dC (.str "")) (dCons (dC (.str "@")) (dCons (dC (.str "a@")) (dCons (dC (.str "@a")) (dCons (dTup (dNil)) (dCons (dTup (dCons (dC (.str "a")) (dCons (dC (.int 0)) (dNil)))) (dCons (dLst false (dCons (dC (.str "a")) (dCons (dC (.int 0)) (dNil)))) (dCons (dNewK false) (dCons (dTup (dCons (dC (.str "a")) (dCons (dC (.int 99999)) (dNil)))) (dNil)))))))))))))))))) s G = .ok [D.non, .bl true, .int 0, .int 100, .int 101, .int (-1), .int (10 ^ (30 : Int).toNat), .str "", .str "@", .str "a@", .str "@a", .tup [], .tup [.str "a", .int 0], .lst [.str "a", .int 0], .dK [], .tup [.str "a", .int 99999]] G := by
  have big : (1000 : Nat) ≤ sizeLine := by rw [sizeLine_eq]; omega
  have z0 : (0 : Nat) ≤ sizeLine := by omega
  have z2 : (2 : Nat) ≤ sizeLine := by omega
  have z16 : (16 : Nat) ≤ sizeLine := by omega
  have p3 : (0 : Int) ≤ 30 ∧ (30 : Int) ≤ 1000000 ∧ (10 : Int).natAbs < 18446744073709551616 := by decide
  generalize Str.ofString "" = w0
  generalize Str.ofString "@" = w1
  generalize Str.ofString "a@" = w2
  generalize Str.ofString "@a" = w3
  generalize Str.ofString "a" = w4
  simp only [iSeq_s, dLst_s, dCons_s, dC_s, dUn_s, dBin_s, dNil_s, dTup_s, dNewK_s, mkK_v, mkL_v, bind_ok, negD_i, powD_ii, if_pos p3, List.length_cons, List.length_nil, Nat.zero_add, Nat.reduceAdd, if_pos z0, if_pos z2, if_pos z16]
theorem items_good (G : DH) : ∀ d ∈ [D.non, .bl true, .int 0, .int 100, .int 101, .int (-1), .int (10 ^ (30 : Int).toNat), .str "", .str "@", .str "a@", .str "@a", .tup [], .tup [.str "a", .int 0], .lst [.str "a", .int 0], .dK [], .tup [.str "a", .int 99999]], Good G d := by
  intro d hd
  have l0 : (Str.ofString "").length ≤ 1000 := by decide +kernel
  have l1 : (Str.ofString "@").length ≤ 1000 := by decide +kernel
  have l2 : (Str.ofString "a@").length ≤ 1000 := by decide +kernel
  have l3 : (Str.ofString "@a").length ≤ 1000 := by decide +kernel
  have l4 : (Str.ofString "a").length ≤ 1000 := by decide +kernel
  simp only [List.mem_cons, List.not_mem_nil, or_false] at hd
  rcases hd with rfl | rfl | rfl | rfl | rfl | rfl | rfl | rfl | rfl | rfl | rfl | rfl | rfl | rfl | rfl | rfl
  · exact good_non
  · exact good_bl
  · exact good_int
  · exact good_int
  · exact good_int
  · exact good_int
  · exact good_int
  · exact good_str l0
  · exact good_str l1
  · exact good_str l2
  · exact good_str l3
  · exact good_t0
  · exact good_t2 (good_str l4) good_int
  · exact good_lst
  · exact good_dK
  · exact good_t2 (good_str l4) good_int
theorem range_ok {zs : List Int} (hz : zs.length ≤ 63) {s : DSl} (hs : s[0]? = some (some (.frz (zs.map D.int)))) (G : DH) : ∃ m : Nat, m ≤ 40 ∧ iRg1 (dCons (dCall maxO (dCons (dC (.int 1)) (dCons (dCall minO (dCons (dCall lenO (dCons (dVar 0) (dNil))) (dCons (dC (.int 40)) (dNil)))) (dNil)))) (dNil)) s G = .ok (rngD 0 m) G := by
  refine ⟨max 1 (min zs.length 40), by omega, iRg1_nat ?_ (by omega)⟩
  simp only [dCons_s, dCall_s, dC_s, dVar_s, hs, dNil_s, bind_ok, lenO_1, lenV_frz, List.length_map, minO_2, maxO_2]
  congr 3
  split <;> split <;> omega
theorem ends : ∀ zs : List Int, zs.length ≤ 63 → ∃ G, F_law [.frz (zs.map D.int)] [] = .ok (.bl true) G := by
  intro zs hz
  have s0 : (some (D.frz (zs.map D.int)) :: List.replicate (9 - 1) none : DSl) = [some (.frz (zs.map D.int)), none, none, none, none, none, none, none, none] := rfl
  obtain ⟨v, lp⟩ := loop_ok (b := l1_law) (G := []) (fun g _ hs => l1_ok g hs) _ (items_good []) [some (.frz (zs.map D.int)), none, none, none, none, none, none, none, none] (by show 2 ≤ 9; omega)
  obtain ⟨m, hm, rg⟩ := range_ok hz (s := ([some (.frz (zs.map D.int)), none, none, none, none, none, none, none, none] : DSl).set 1 v) rfl []
  obtain ⟨s', G', lp2, w1, w2, w3, w4, w5, w6, w7, w8, e⟩ := forL_inv (g := gNm 2) (b := l3_law) (fun i s G => ∃ w1 w2 w3 w4 w5 w6 w7 w8, s = [some (.frz (zs.map D.int)), w1, w2, w3, w4, w5, w6, w7, w8]) (rngD 0 m) 0 (([some (.frz (zs.map D.int)), none, none, none, none, none, none, none, none] : DSl).set 1 v) [] (fun j d s G hj hi => by
    obtain ⟨w1, w2, w3, w4, w5, w6, w7, w8, rfl⟩ := hi
    have hj' : j < m ∧ d = .int (j : Nat) := by
      unfold rngD at hj
      rw [List.getElem?_map] at hj
      obtain ⟨q, q1, q2⟩ := Option.map_eq_some_iff.mp hj
      have := List.getElem?_eq_some_iff.mp q1
      obtain ⟨q3, q4⟩ := this
      rw [List.getElem_range] at q4
      subst q4
      rw [List.length_range] at q3
      exact ⟨q3, by rw [← q2]; simp⟩
    obtain ⟨h1, rfl⟩ := hj'
    obtain ⟨u1, u3, u4, u5, u6, u7, u8, G', e⟩ := l3_ok (zs := zs) hz (k := j) (by omega) (G := G) (v1 := w1) (v3 := w3) (v4 := w4) (v5 := w5) (v6 := w6) (v7 := w7) (v8 := w8)
    exact ⟨_, G, _, G', rfl, .inl e, u1, _, u3, u4, u5, u6, u7, u8, rfl⟩) ⟨v, none, none, none, none, none, none, none, rfl⟩
  refine ⟨G', ?_⟩
  rw [F_law, runF_1, b_law, s0, sSeq_s, sFor_s, items_ok, bind_ok, lp, sBind_nx, sSeq_s, sFor_s, rg, bind_ok, lp2, sBind_nx, sRet_s, dC_s, bind_ok, finR_rt]
end K01
end
/-! ==== K01J ==== -/
section
set_option Elab.async false
set_option linter.all false

open PySem PySem.W PyProof.Rows in
set_option maxRecDepth 100000 in
set_option maxHeartbeats 0 in
theorem PySem.Challenge.cw_branchedhall_k01_words_people_names_rank_holds : PySem.Challenge.rw_branchedhall_k01_words_people_names_rank.Holds := by
  w_on; o_law; k_head; (case hw => w_witness2)
  k_fill
  refine DL.dlaw_walk (l := PySem.Challenge.rw_branchedhall_k01_words_people_names_rank) (n := 63) (k := 5) (x := "_law_script") rfl (by decide) rfl ⟨⟨rfl, by decide, by decide⟩, rfl⟩ (fun w h Y => PySem.W.kIn_of Y) ?F K01.ends
  case F =>
    intro w mg fa h KX G hmg
    refine' K01.law_fd (K01.tx_mk KX G ?a0 ?l0 ?c0 ?k0 ?a1 ?l1 ?c1 ?k1 ?a2 ?l2 ?c2 ?k2 ?a3 ?l3 ?c3 ?k3 ?a4 ?l4 ?c4 ?k4 ?a5 ?l5 ?c5 ?k5 ?a6 ?l6 ?c6 ?k6 ?a7 ?l7 ?c7 ?k7 ?a8 ?l8 ?c8 ?k8 ?a9 ?l9 ?c9 ?k9 ?a10 ?l10 ?c10 ?k10 ?a11 ?l11 ?c11 ?k11 ?a12 ?l12 ?c12 ?k12 ?a13 ?l13 ?c13 ?k13 ?a14 ?l14 ?c14 ?k14 ?a15 ?l15 ?c15 ?k15 ?a16 ?l16 ?c16 ?k16 ?z_all ?z_bool ?z_int ?z_isinstance ?z_len ?z_max ?z_min ?z_range ?z_repr ?z_str ?z_tuple ?z_LETTERS ?z_LONGEST ?z_MOST_NUMBER ?z_MOST_RANK) hmg
    (case a0 => k_is)
    (case l0 => k_is)
    (case c0 => k_is)
    (case k0 => k_is)
    (case a1 => k_is)
    (case l1 => k_is)
    (case c1 => k_is)
    (case k1 => k_is)
    (case a2 => k_is)
    (case l2 => k_is)
    (case c2 => k_is)
    (case k2 => k_is)
    (case a3 => k_is)
    (case l3 => k_is)
    (case c3 => k_is)
    (case k3 => k_is)
    (case a4 => k_is)
    (case l4 => k_is)
    (case c4 => k_is)
    (case k4 => k_is)
    (case a5 => k_is)
    (case l5 => k_is)
    (case c5 => k_is)
    (case k5 => k_is)
    (case a6 => k_is)
    (case l6 => k_is)
    (case c6 => k_is)
    (case k6 => k_is)
    (case a7 => k_is)
    (case l7 => k_is)
    (case c7 => k_is)
    (case k7 => k_is)
    (case a8 => k_is)
    (case l8 => k_is)
    (case c8 => k_is)
    (case k8 => k_is)
    (case a9 => k_is)
    (case l9 => k_is)
    (case c9 => k_is)
    (case k9 => k_is)
    (case a10 => k_is)
    (case l10 => k_is)
    (case c10 => k_is)
    (case k10 => k_is)
    (case a11 => k_is)
    (case l11 => k_is)
    (case c11 => k_is)
    (case k11 => k_is)
    (case a12 => k_is)
    (case l12 => k_is)
    (case c12 => k_is)
    (case k12 => k_is)
    (case a13 => k_is)
    (case l13 => k_is)
    (case c13 => k_is)
    (case k13 => k_is)
    (case a14 => k_is)
    (case l14 => k_is)
    (case c14 => k_is)
    (case k14 => k_is)
    (case a15 => k_is)
    (case l15 => k_is)
    (case c15 => k_is)
    (case k15 => k_is)
    (case a16 => k_is)
    (case l16 => k_is)
    (case c16 => k_is)
    (case k16 => k_is)
    (case z_all => k_is)
    (case z_bool => k_is)
    (case z_int => k_is)
    (case z_isinstance => k_is)
    (case z_len => k_is)
    (case z_max => k_is)
    (case z_min => k_is)
    (case z_range => k_is)
    (case z_repr => k_is)
    (case z_str => k_is)
    (case z_tuple => k_is)
    (case z_LETTERS => k_is)
    (case z_LONGEST => k_is)
    (case z_MOST_NUMBER => k_is)
    (case z_MOST_RANK => k_is)
end
